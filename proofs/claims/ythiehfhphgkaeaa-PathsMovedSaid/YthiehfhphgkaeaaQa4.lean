/- What is proved: the run of a function over its ways,and what is known on each. No condition. -/
import Derived.Test.YthiehfhphgkaeaaQa3
import Derived.Test.YthiehfhphgkaeaaProg
import Derived.Test.YthiehfhphgkaeaaQa1
import Derived.Test.YthiehfhphgkaeaaQg4
set_option linter.unusedSimpArgs false
set_option linter.unusedVariables false
set_option maxRecDepth 100000
namespace Go.Proofs.Ythiehfhphgkaeaa
open Go Go.RowKit Sx Wi
def qS (P:Program) (fs:List B):Res SV:=sW P fs
def zN:List B:=[]
def gH:B:=(.cmp .lt (.var 3) (.var 1))
def aHG:List B:=aW gH++zN
def jI:B:=(.cmp .lt (.op .add (.var 0) (.var 3)) (.var 2))
def zW:List B:=aW jI++aHG
def jH:B:=(.cmp .eq (.app 84 (.cons (.var 4) (.cons (.op .add (.var 0) (.var 3)) (.cons (.lit 0) .nil)))) (.lit 0))
def aGI:List B:=aW jH++zW
def aAa:List B:=aW (B.neg jH)++zW
def kV:B:=(.cmp .eq (.app 84 (.cons (.var 4) (.cons (.op .add (.var 0) (.var 3)) (.cons (.lit 0) .nil)))) (.lit 3))
def aFb:List B:=aW kV++aAa
def aFt:List B:=aW (B.neg kV)++aAa
def aGy:List B:=aW (B.neg gH)++zN
theorem aGC:qS Try.prog aGI = .ok (.tuple [(.agg [(.int .i64 (.var 3)),(.int .i64 (.app 53 (.cons (.var 3) (.cons (.var 0) (.cons (.var 1) .nil))))),(.int .i64 (.var 4)),(.int .i64 (.var 3))]),(.bool (.lit true))]):=by kernel_rfl
theorem aFh:qS Try.prog aFb = .ok (.tuple [(.agg [(.int .i64 (.var 3)),(.int .i64 (.app 53 (.cons (.var 3) (.cons (.var 0) (.cons (.var 1) .nil))))),(.int .i64 (.var 4)),(.int .i64 (.var 3))]),(.bool (.lit true))]):=by kernel_rfl
theorem aFi:qS Try.prog aFt = .ok (.agg [(.int .i64 (.op .add (.var 3) (.lit 1))),(.int .i64 (.var 3)),(.int .i64 (.var 4)),(.int .i64 (.var 4))]):=by kernel_rfl
theorem aFk:qS Try.prog aGy = .ok (.tuple [(.agg [(.int .i64 (.var 4)),(.int .i64 (.var 3))]),(.bool (.lit false))]):=by kernel_rfl
end Go.Proofs.Ythiehfhphgkaeaa
set_option maxRecDepth 100000
namespace Go.Proofs.Ythiehfhphgkaeaa
open Go Go.RowKit Sx Wi
def aCf (P:Program) (fs:List B):Res SV:=aER P fs
def zP:List B:=[]
def lN:B:=(.cmp .le (.lit 0) (.app 53 (.cons (.var 3) (.cons (.var 0) (.cons (.var 1) .nil)))))
def aHB:List B:=aW lN++zP
def aGA:List B:=aW (B.neg lN)++zP
theorem aG9:aCf Try.prog aHB = .ok (.tuple [(.agg []),(.bool (.lit true))]):=by kernel_rfl
theorem aGu:aCf Try.prog aGA = .ok (.tuple [(.agg [(.int .i64 (.lit (-1))),(.int .i64 (.app 53 (.cons (.var 3) (.cons (.var 0) (.cons (.var 1) .nil)))))]),(.bool (.lit true))]):=by kernel_rfl
end Go.Proofs.Ythiehfhphgkaeaa
set_option maxRecDepth 100000
namespace Go.Proofs.Ythiehfhphgkaeaa
open Go Go.RowKit Sx Wi
def vB (P:Program) (fs:List B):Res SV:=rW P fs
def zU:List B:=[]
def iC:B:=(.cmp .lt (.var 3) (.var 1))
def aFj:List B:=aW iC++zU
def lG:B:=(.cmp .lt (.op .add (.var 0) (.var 3)) (.var 2))
def yZ:List B:=aW lG++aFj
def lH:B:=(.cmp .lt (.lit 3) (.app 84 (.cons (.var 4) (.cons (.op .add (.var 0) (.var 3)) (.cons (.lit 0) .nil)))))
def aGz:List B:=aW lH++yZ
def aHx:List B:=aW (B.neg lH)++yZ
def aGX:List B:=aW (B.neg iC)++zU
theorem aFM:vB Try.prog aGz = .ok (.tuple [(.agg [(.int .i64 (.var 3)),(.int .i64 (.app 56 (.cons (.var 3) (.cons (.var 0) (.cons (.var 1) .nil))))),(.int .i64 (.var 4)),(.int .i64 (.var 3))]),(.bool (.lit true))]):=by kernel_rfl
theorem aGf:vB Try.prog aHx = .ok (.agg [(.int .i64 (.op .add (.var 3) (.lit 1))),(.int .i64 (.var 3)),(.int .i64 (.var 4)),(.int .i64 (.var 4))]):=by kernel_rfl
theorem aGE:vB Try.prog aGX = .ok (.tuple [(.agg [(.int .i64 (.var 4)),(.int .i64 (.var 3))]),(.bool (.lit false))]):=by kernel_rfl
end Go.Proofs.Ythiehfhphgkaeaa
set_option maxRecDepth 100000
namespace Go.Proofs.Ythiehfhphgkaeaa
open Go Go.RowKit Sx Wi
def aCg (P:Program) (fs:List B):Res SV:=aEp P fs
def zI:List B:=[]
def kW:B:=(.cmp .le (.lit 0) (.app 56 (.cons (.var 3) (.cons (.var 0) (.cons (.var 1) .nil)))))
def aHF:List B:=aW kW++zI
def aF5:List B:=aW (B.neg kW)++zI
theorem aG1:aCg Try.prog aHF = .ok (.tuple [(.agg []),(.bool (.lit true))]):=by kernel_rfl
theorem aGv:aCg Try.prog aF5 = .ok (.tuple [(.agg [(.int .i64 (.lit (-1))),(.int .i64 (.app 56 (.cons (.var 3) (.cons (.var 0) (.cons (.var 1) .nil)))))]),(.bool (.lit true))]):=by kernel_rfl
end Go.Proofs.Ythiehfhphgkaeaa
namespace Go.Proofs.Ythiehfhphgkaeaa
open Go Go.RowKit Sx Wi
def dB (off n N L:Int) (i:Nat):Nat→Int:=eK ([off,n,N]++[(i:Int),L])
theorem aEc (off n N L:Int) (h0:0≤off∧off≤300) (hn:0≤n∧n≤256) (hN:0≤N∧N≤256) (i:Nat) (hi:(i:Int)≤n):∀ k q,yT[k]?=some q→q.1≤dB off n N L i k∧dB off n N L i k≤q.2:=by
 unfold dB yT
 exact cS (xs:=[off,n,N,(i:Int)]) (ls:=[L]) (by exact⟨h0,hn,hN,by omega,trivial⟩)
theorem aBx:bC (bQ Try.prog 21)=[cF (bQ Try.prog 21) 0]:=by kernel_rfl
theorem zL {off n N L:Int} (hp:rS.den G (eK ([off,n,N]++[L]))=true):off+n≤N:=by
 unfold rS at hp
 simp only[nn,List.cons_append,List.nil_append,Bool.or_eq_true,aY,ne_eq]at hp
 exact hp
set_option maxHeartbeats 2000000 in
set_option maxRecDepth 100000 in
theorem aLo (off n N L:Int) (p0:0≤off) (hn:0≤n∧n≤256) (hl:off+n≤N) (hN:N=((Lc.dec L).length:Int)) (i:Nat) (hi:(i:Int)≤n∧i≤cC (aF L off n)):Sx.yE (sW Try.prog) G (dB off n N L i) (bD G (dB off n N L) (eK ([off,n,N]++[L])) 3 aJ3.b (fun i=>(i:Int)≤n∧i≤cC (aF L off n)) (fun i=>n.toNat-i) i) []:=by
 refine aQ gH (fun h0=>?_) (fun h0=>?_)
 rotate_left
 ·skip
  refine aP aFk ?_
  unfold gH at h0;simp only[nn,dB,List.cons_append,List.nil_append,Bool.or_eq_true,aY,ne_eq]at h0;have q:=aLI (i:=i) p0 hn (by omega) (by omega) hi.2;simp only[bD];refine⟨?_,bF (by simp),?_⟩;(· show decide ((0:Int)≤G 53 [L,off,n])=false;rw[q];decide);simp only[aL];simp only[nn,dB,List.cons_append,List.nil_append,Bool.or_eq_true,aY,ne_eq];all_goals ((repeat' refine And.intro ?_ ?_)<;>first|with_reducible rfl|with_reducible trivial)
 refine aQ jI (fun h1=>?_) (fun h1=>?_)
 rotate_left
 ·skip
  refine bE ?_
  unfold gH at h0;unfold jI at h1;simp only[nn,dB,List.cons_append,List.nil_append,Bool.or_eq_true,aY,ne_eq]at h0 h1;omega
 refine aQ jH (fun h2=>?_) (fun h2=>?_)
 ·skip
  refine aP aGC ?_
  unfold gH at h0;unfold jI at h1;unfold jH at h2;simp only[nn,dB,List.cons_append,List.nil_append,Bool.or_eq_true,aY,ne_eq]at h0 h1 h2;have q:=yV (i:=i) p0 hn (by omega) h0 hi.2 (by first|exact .inl h2|exact .inr h3);simp only[bD];refine⟨?_,bF (by simp),?_⟩;(· show decide ((0:Int)≤G 53 [L,off,n])=true;exact decide_eq_true q.2);simp only[aL];simp only[nn,dB,List.cons_append,List.nil_append,Bool.or_eq_true,aY,ne_eq];(repeat' refine And.intro ?_ ?_)<;>first|with_reducible exact q.1|with_reducible rfl|with_reducible trivial
 refine aQ kV (fun h3=>?_) (fun h3=>?_)
 ·skip
  refine aP aFh ?_
  unfold gH at h0;unfold jI at h1;unfold jH at h2;unfold kV at h3;simp only[nn,dB,List.cons_append,List.nil_append,Bool.or_eq_true,aY,ne_eq]at h0 h1 h2 h3;have q:=yV (i:=i) p0 hn (by omega) h0 hi.2 (by first|exact .inl h2|exact .inr h3);simp only[bD];refine⟨?_,bF (by simp),?_⟩;(· show decide ((0:Int)≤G 53 [L,off,n])=true;exact decide_eq_true q.2);simp only[aL];simp only[nn,dB,List.cons_append,List.nil_append,Bool.or_eq_true,aY,ne_eq];(repeat' refine And.intro ?_ ?_)<;>first|with_reducible exact q.1|with_reducible rfl|with_reducible trivial
 refine aP aFi ?_
 unfold gH at h0;unfold jI at h1;unfold jH at h2;unfold kV at h3;simp only[nn,dB,List.cons_append,List.nil_append,Bool.or_eq_true,aY,ne_eq]at h0 h1 h2 h3;have q:=aJs (i:=i) p0 hn (by omega) h0 hi.2 (by omega) (by omega);have hm:n.toNat-(i+1)<n.toNat-i:=(by omega);have hg:((i+1:Nat):Int)≤n:=(by omega);simp only[bD];refine⟨i+1,⟨hg,q⟩,hm,bF (by simp),?_⟩;simp only[aL];clear hm hg q h0 h1 h2 h3;simp only[nn,dB,List.cons_append,List.nil_append,Bool.or_eq_true,aY,ne_eq];(repeat' refine And.intro ?_ ?_)<;>first|with_reducible rfl|with_reducible trivial|omega
set_option maxRecDepth 100000 in
theorem aL0 (off n N L:Int) (b0:0≤off∧off≤300) (hn:0≤n∧n≤256) (b2:0≤N∧N≤256) (hl:off+n≤N) (hN:N=((Lc.dec L).length:Int)):fJ Try.prog G (bK GB) (cF (bQ Try.prog 21) 0) aII (eK ([off,n,N]++[L])):=by
 intro _ _
 have e:fL G (eK ([off,n,N]++[L])) aII.es=dB off n N L 0:=by
  rw[eE]
  rfl
 rw[e]
 exact⟨n.toNat+1,dJ (ι:=Nat) (ρ:=dB off n N L) (ρT:=eK ([off,n,N]++[L])) (m:=fun i=>n.toNat-i) (Good:=fun i=>(i:Int)≤n∧i≤cC (aF L off n)) (run:=sW Try.prog) (fun _=>rfl) fits rfl eX (fun i hi=>aEc off n N L b0 hn b2 i hi.1) (fun _ _ X hX hG=>bX hX hG) (fun _ _ X hX hG=>cQ) (fun i hi=>aLo off n N L b0.1 hn hl hN i hi) (by decide) (n.toNat+1) 0 ⟨hn.1,Nat.zero_le _⟩ (by show n.toNat-0<n.toNat+1;omega)⟩
set_option maxHeartbeats 1000000 in
set_option maxRecDepth 100000 in
theorem aLF (off n N L:Int) (b0:0≤off∧off≤300) (b1:0≤n∧n≤256) (b2:0≤N∧N≤256) (hp:rS.den G (eK ([off,n,N]++[L]))=true):eT Try.prog G GB 21 aKP (eK ([off,n,N]++[L])):=by
 refine mI 0 rfl (fun hN=>?_)
 replace hN:N=((Lc.dec L).length:Int):=hN
 have hl:=zL hp
 refine dC (lp:=aJr) (run:=aER Try.prog) (fun _=>rfl) fits (cS (xs:=[off,n,N]) (ls:=[L]) (by exact⟨b0,b1,b2,trivial⟩)) eX (fun X hX hG=>bX hX hG) (fun X hX hG fn c hf hc=>?_) rfl ?_
 ·refine gE ((congrArg bC (jM hf hc)).symm.trans aBx) ?_
  intro b hb
  simp only[List.mem_cons,List.mem_nil_iff,or_false]at hb
  subst hb
  refine gN hX hG (by kernel_rfl) ?_
  intro p hp'
  simp only[List.mem_cons,List.mem_nil_iff,or_false]at hp'
  subst hp'
  exact aL0 off n N L b0 b1 b2 hl hN
 ·skip
  refine aQ lN (fun h0=>?_) (fun h0=>?_)
  ·skip
   refine aP aG9 ?_
   unfold lN at h0;exact⟨rfl,trivial⟩
  refine aP aGu ?_
  unfold lN at h0;have q:=aEE [L,off,n];simp only[nn,List.cons_append,List.nil_append,Bool.or_eq_true,aY,ne_eq]at h0;simp only[aCu];refine⟨rfl,?_⟩;simp only[aL];simp only[nn,List.cons_append,List.nil_append,Bool.or_eq_true,aY,ne_eq];refine⟨?_,trivial⟩;have e:G 53 [L,off,n]=aJf [L,off,n]:=rfl;rw[e]at h0 ⊢;omega
def aAi:Ctx→List SV→aG→Res (SV × aG):=dT GB rZ 1 rS aKP
theorem aNP {X:Ctx} {ρ:Nat→Int} (hX:X.Ok ρ) (hG:X.G=G):fR Try.prog X ρ GB 21 aAi:=by
 obtain⟨XG,XI,XV,XF⟩:=X
 simp only at hG
 subst hG
 refine cU hX ?_
 intro xs ls hw hl hp
 unfold rZ at hw
 obtain⟨x0,y0,e0,b0,h0⟩:=gP hw
 obtain⟨x1,y1,e1,b1,h1⟩:=gP h0
 obtain⟨x2,y2,e2,b2,h2⟩:=gP h1
 have e3:=vI h2
 subst e3 e2 e1 e0
 obtain⟨l0,rfl⟩:=wC hl
 exact aLF x0 x1 x2 l0 b0 b1 b2 hp
set_option maxHeartbeats 2000000 in
set_option maxRecDepth 100000 in
theorem aL1 (off n N L:Int) (p0:0≤off) (hn:0≤n∧n≤256) (hl:off+n≤N) (hN:N=((Lc.dec L).length:Int)) (i:Nat) (hi:(i:Int)≤n∧i≤eR (aF L off n)):Sx.yE (rW Try.prog) G (dB off n N L i) (bD G (dB off n N L) (eK ([off,n,N]++[L])) 3 aIR.b (fun i=>(i:Int)≤n∧i≤eR (aF L off n)) (fun i=>n.toNat-i) i) []:=by
 refine aQ iC (fun h0=>?_) (fun h0=>?_)
 rotate_left
 ·skip
  refine aP aGE ?_
  unfold iC at h0;simp only[nn,dB,List.cons_append,List.nil_append,Bool.or_eq_true,aY,ne_eq]at h0;have q:=aLm (i:=i) p0 hn (by omega) (by omega) hi.2;simp only[bD];refine⟨?_,bF (by simp),?_⟩;(· show decide ((0:Int)≤G 56 [L,off,n])=false;rw[q];decide);simp only[aL];simp only[nn,dB,List.cons_append,List.nil_append,Bool.or_eq_true,aY,ne_eq];all_goals ((repeat' refine And.intro ?_ ?_)<;>first|with_reducible rfl|with_reducible trivial)
 refine aQ lG (fun h1=>?_) (fun h1=>?_)
 rotate_left
 ·skip
  refine bE ?_
  unfold iC at h0;unfold lG at h1;simp only[nn,dB,List.cons_append,List.nil_append,Bool.or_eq_true,aY,ne_eq]at h0 h1;omega
 refine aQ lH (fun h2=>?_) (fun h2=>?_)
 ·skip
  refine aP aFM ?_
  unfold iC at h0;unfold lG at h1;unfold lH at h2;simp only[nn,dB,List.cons_append,List.nil_append,Bool.or_eq_true,aY,ne_eq]at h0 h1 h2;have q:=aG5 (i:=i) p0 hn (by omega) h0 hi.2 h2;simp only[bD];refine⟨?_,bF (by simp),?_⟩;(· show decide ((0:Int)≤G 56 [L,off,n])=true;exact decide_eq_true q.2);simp only[aL];simp only[nn,dB,List.cons_append,List.nil_append,Bool.or_eq_true,aY,ne_eq];(repeat' refine And.intro ?_ ?_)<;>first|with_reducible exact q.1|with_reducible rfl|with_reducible trivial
 refine aP aGf ?_
 unfold iC at h0;unfold lG at h1;unfold lH at h2;simp only[nn,dB,List.cons_append,List.nil_append,Bool.or_eq_true,aY,ne_eq]at h0 h1 h2;have q:=aIM (i:=i) p0 hn (by omega) h0 hi.2 (by omega);have hm:n.toNat-(i+1)<n.toNat-i:=(by omega);have hg:((i+1:Nat):Int)≤n:=(by omega);simp only[bD];refine⟨i+1,⟨hg,q⟩,hm,bF (by simp),?_⟩;simp only[aL];clear hm hg q h0 h1 h2;simp only[nn,dB,List.cons_append,List.nil_append,Bool.or_eq_true,aY,ne_eq];(repeat' refine And.intro ?_ ?_)<;>first|with_reducible rfl|with_reducible trivial|omega
set_option maxRecDepth 100000 in
theorem aLP (off n N L:Int) (b0:0≤off∧off≤300) (hn:0≤n∧n≤256) (b2:0≤N∧N≤256) (hl:off+n≤N) (hN:N=((Lc.dec L).length:Int)):fJ Try.prog G (bK GB) (cF (bQ Try.prog 21) 0) aJD (eK ([off,n,N]++[L])):=by
 intro _ _
 have e:fL G (eK ([off,n,N]++[L])) aJD.es=dB off n N L 0:=by
  rw[eE]
  rfl
 rw[e]
 exact⟨n.toNat+1,dJ (ι:=Nat) (ρ:=dB off n N L) (ρT:=eK ([off,n,N]++[L])) (m:=fun i=>n.toNat-i) (Good:=fun i=>(i:Int)≤n∧i≤eR (aF L off n)) (run:=rW Try.prog) (fun _=>rfl) fits rfl eX (fun i hi=>aEc off n N L b0 hn b2 i hi.1) (fun _ _ X hX hG=>bX hX hG) (fun _ _ X hX hG=>cQ) (fun i hi=>aL1 off n N L b0.1 hn hl hN i hi) (by decide) (n.toNat+1) 0 ⟨hn.1,Nat.zero_le _⟩ (by show n.toNat-0<n.toNat+1;omega)⟩
set_option maxHeartbeats 1000000 in
set_option maxRecDepth 100000 in
theorem aLQ (off n N L:Int) (b0:0≤off∧off≤300) (b1:0≤n∧n≤256) (b2:0≤N∧N≤256) (hp:rS.den G (eK ([off,n,N]++[L]))=true):eT Try.prog G GB 21 aHQ (eK ([off,n,N]++[L])):=by
 refine mI 0 rfl (fun hN=>?_)
 replace hN:N=((Lc.dec L).length:Int):=hN
 have hl:=zL hp
 refine dC (lp:=aJg) (run:=aEp Try.prog) (fun _=>rfl) fits (cS (xs:=[off,n,N]) (ls:=[L]) (by exact⟨b0,b1,b2,trivial⟩)) eX (fun X hX hG=>bX hX hG) (fun X hX hG fn c hf hc=>?_) rfl ?_
 ·refine gE ((congrArg bC (jM hf hc)).symm.trans aBx) ?_
  intro b hb
  simp only[List.mem_cons,List.mem_nil_iff,or_false]at hb
  subst hb
  refine gN hX hG (by kernel_rfl) ?_
  intro p hp'
  simp only[List.mem_cons,List.mem_nil_iff,or_false]at hp'
  subst hp'
  exact aLP off n N L b0 b1 b2 hl hN
 ·skip
  refine aQ kW (fun h0=>?_) (fun h0=>?_)
  ·skip
   refine aP aG1 ?_
   unfold kW at h0;exact⟨rfl,trivial⟩
  refine aP aGv ?_
  unfold kW at h0;have q:=aEP [L,off,n];simp only[nn,List.cons_append,List.nil_append,Bool.or_eq_true,aY,ne_eq]at h0;simp only[aCu];refine⟨rfl,?_⟩;simp only[aL];simp only[nn,List.cons_append,List.nil_append,Bool.or_eq_true,aY,ne_eq];refine⟨?_,trivial⟩;have e:G 56 [L,off,n]=aKc [L,off,n]:=rfl;rw[e]at h0 ⊢;omega
def yC:Ctx→List SV→aG→Res (SV × aG):=dT GB rZ 1 rS aHQ
theorem aNq {X:Ctx} {ρ:Nat→Int} (hX:X.Ok ρ) (hG:X.G=G):fR Try.prog X ρ GB 21 yC:=by
 obtain⟨XG,XI,XV,XF⟩:=X
 simp only at hG
 subst hG
 refine cU hX ?_
 intro xs ls hw hl hp
 unfold rZ at hw
 obtain⟨x0,y0,e0,b0,h0⟩:=gP hw
 obtain⟨x1,y1,e1,b1,h1⟩:=gP h0
 obtain⟨x2,y2,e2,b2,h2⟩:=gP h1
 have e3:=vI h2
 subst e3 e2 e1 e0
 obtain⟨l0,rfl⟩:=wC hl
 exact aLQ x0 x1 x2 l0 b0 b1 b2 hp
def aDe (g h:Ctx→List SV→aG→Res (SV × aG)):Ctx→List SV→aG→Res (SV × aG):=fun X args σ=>
 match g X args σ with
 | .fail _=>h X args σ
 |r=>r
theorem aGn {P:Program} {X:Ctx} {ρ:Nat→Int} {gb:dD} {f:FuncId} {g h:Ctx→List SV→aG→Res (SV × aG)} (hg:fR P X ρ gb f g) (hh:fR P X ρ gb f h):fR P X ρ gb f (aDe g h):=by
 intro args σ s σ' e
 unfold aDe at e
 split at e
 ·exact hh args σ s σ' e
 ·exact hg args σ s σ' e
def aMu:bB:=kI 21 (aDe aAi yC) dE
theorem aKZ {X:Ctx} {ρ:Nat→Int} (hX:X.Ok ρ) (hG:X.G=G):iV Try.prog X ρ GB aMu:=iE (aGn (aNP hX hG) (aNq hX hG)) (bX hX hG)
theorem aH2:bC (bQ Try.prog 16)=[cF (bQ Try.prog 16) 0,cF (bQ Try.prog 16) 1]:=by kernel_rfl
theorem aFL:bC (cF (bQ Try.prog 16) 0)=[cF (bQ Try.prog 16) 1]:=by kernel_rfl
theorem aGg {off n N L:Int} (hp:aAU.den G (eK ([off,n,N]++[L]))=true):off+n≤N:=by
 unfold aAU at hp
 simp only[nn,List.cons_append,List.nil_append,Bool.or_eq_true,aY,ne_eq]at hp
 exact hp
set_option maxRecDepth 100000 in
theorem aNL (off n N L:Int) (b0:0≤off∧off≤300) (hn:0≤n∧n≤256) (b2:0≤N∧N≤256) (hl:off+n≤N) (hN:N=((Lc.dec L).length:Int)):fJ Try.prog G (bK GB) (cF (bQ Try.prog 16) 0) aM6 (eK ([off,n,N]++[L])):=by
 intro _ _
 have e:fL G (eK ([off,n,N]++[L])) aM6.es=eL off n N L 0:=by
  rw[eE]
  unfold eL
  have z:aF L off ((0:Nat):Int)=[]:=rfl
  have e1:G 51 [L,off,((0:Nat):Int)]=0:=by show (bR (aF L off ((0:Nat):Int))).2.1=0;rw[z];rfl
  have e2:G 52 [L,off,((0:Nat):Int)]=0:=by show (bR (aF L off ((0:Nat):Int))).2.2=0;rw[z];rfl
  have e3:G 57 [L,off,((0:Nat):Int)]=0:=by show min ((bR (aF L off ((0:Nat):Int))).1.length:Int) 19200=0;rw[z];rfl
  have e4:G 50 [L,off,((0:Nat):Int)]=0:=by show Lc.enc (bR (aF L off ((0:Nat):Int))).1=0;rw[z];rfl
  rw[e1,e2,e3,e4]
  rfl
 rw[e]
 refine⟨n.toNat+1,dJ (ι:=Nat) (ρ:=eL off n N L) (ρT:=eK ([off,n,N]++[L])) (m:=fun i=>n.toNat-i) (Good:=fun i=>(i:Int)≤n) (run:=vQ Try.prog) (fun _=>rfl) fits rfl eX (fun i hi=>aLC off n N L b0 hn b2 i hi) (fun _ _ X hX hG=>bX hX hG) (fun i hi X hX hG=>?_) (fun i hi=>aNf off n N L b0.1 hn hl hN i hi) (by decide) (n.toNat+1) 0 hn.1 (by show n.toNat-0<n.toNat+1;omega)⟩
 refine gE (bs:=[cF (bQ Try.prog 16) 1]) aFL ?_
 intro b hb
 simp only[List.mem_cons,List.mem_nil_iff,or_false]at hb
 subst hb
 refine gN hX hG (by kernel_rfl) ?_
 intro p hp'
 simp only[List.mem_cons,List.mem_nil_iff,or_false]at hp'
 subst hp'
 exact aNa off n N L i
set_option maxHeartbeats 1000000 in
set_option maxRecDepth 100000 in
theorem aNF (off n N L:Int) (b0:0≤off∧off≤300) (b1:0≤n∧n≤256) (b2:0≤N∧N≤256) (hp:aAU.den G (eK ([off,n,N]++[L]))=true):eT Try.prog G GB 16 aNu (eK ([off,n,N]++[L])):=by
 refine mI 0 rfl (fun hN=>?_)
 replace hN:N=((Lc.dec L).length:Int):=hN
 have hl:=aGg hp
 refine dC (lp:=aMq) (run:=aJO Try.prog) (fun _=>rfl) fits (cS (xs:=[off,n,N]) (ls:=[L]) (by exact⟨b0,b1,b2,trivial⟩)) eX (fun X hX hG=>bX hX hG) (fun X hX hG fn c hf hc=>?_) rfl ?_
 ·refine gE ((congrArg bC (jM hf hc)).symm.trans aH2) ?_
  intro b hb
  simp only[List.mem_cons,List.mem_nil_iff,or_false]at hb
  rcases hb with rfl|rfl
  ·refine gN hX hG (by kernel_rfl) ?_
   intro p hp'
   simp only[List.mem_cons,List.mem_nil_iff,or_false]at hp'
   subst hp'
   exact aNL off n N L b0 b1 b2 hl hN
  ·exact iA (j:=9) (by kernel_rfl) (by decide) qO
 ·skip
  refine aP aH5 ?_
  exact⟨rfl,trivial⟩
def aBs:Ctx→List SV→aG→Res (SV × aG):=dT GB aDA 1 aAU aNu
theorem aN6 {X:Ctx} {ρ:Nat→Int} (hX:X.Ok ρ) (hG:X.G=G):fR Try.prog X ρ GB 16 aBs:=by
 obtain⟨XG,XI,XV,XF⟩:=X
 simp only at hG
 subst hG
 refine cU hX ?_
 intro xs ls hw hl hp
 unfold aDA at hw
 obtain⟨x0,y0,e0,b0,h0⟩:=gP hw
 obtain⟨x1,y1,e1,b1,h1⟩:=gP h0
 obtain⟨x2,y2,e2,b2,h2⟩:=gP h1
 have e3:=vI h2
 subst e3 e2 e1 e0
 obtain⟨l0,rfl⟩:=wC hl
 exact aNF x0 x1 x2 l0 b0 b1 b2 hp
def aEs:bB:=kI 16 aBs aMu
theorem wN {X:Ctx} {ρ:Nat→Int} (hX:X.Ok ρ) (hG:X.G=G):iV Try.prog X ρ GB aEs:=iE (aN6 hX hG) (aKZ hX hG)
def aEZ:List (Int × Int):=[(0,256),(0,256),(0,256)]
def aDO:List (Int × Int):=[(0,256)]
def aOJ:St:=⟨[(.yld 5),(.ptr 1 0),.any,.any,.any,.any,.any,.any,.any,.any,.any,.any,.any,.any,.any,.any,.any,.any,.any,.any,.any,.any,.any,.any,.any,.any,.any,.any,.any,.any,.any,.any,.any,.any,.any,.any],[some ([.vec [.int .u8,.int .i32,.int .i32,.int .i32,.int .i32,.int .i32,.int .i32] (.var 4) (.var 0) true],bA),some ([(.vsl 0 7 (.var 1) (.op .sub (.var 0) (.var 1)) none)],28),some ([(.con (.slice none 0 0))],24),some ([(.int .i64 (.lit 0))],25),some ([(.own 6 (.var 2) none)],24),some ([.any,.any,(.ptr 2 0),(.ptr 3 0),(.ptr 4 0),.any,.any,.any,.any,.any,.any,.any,.any,.any,.any,.any,.any,.any,.any,.any,.any,.any,.any,.any,.any,.any,.any,.any]++[cX (-1)],bI+9),some ([.lol 6 [.int .i64,.int .i64] (.var 3) (.var 2)],aS+30)]⟩
def aOu:St:=⟨[.any,.any,.any,.any,.any,.any,.any,.any,.any,.any,.any,.any,.any,.any,.any,.any,.any,.any,.any,.any,.any,.any,.any,.any,.any,.any,.any,.any,.any,.any,.any,.any,.any,.any,.any,.any],[some ([.vec [.int .u8,.int .i32,.int .i32,.int .i32,.int .i32,.int .i32,.int .i32] (.var 1) (.var 0) true],bA),some ([.any],28),some ([(.con (.slice none 0 0))],24),some ([(.int .i64 (.lit 0))],25),some ([(.own 6 (.app 54 (.cons (.var 1) (.cons (.var 0) .nil))) none)],24),some ([.any,.any,(.ptr 2 0),(.ptr 3 0),(.ptr 4 0),.any,.any,.any,.any,.any,.any,.any,.any,.any,.any,.any,.any,.any,.any,.any,.any,.any,.any,.any,.any,.any,.any,.any]++[cX (-1)],bI+9),some ([.lol 6 [.int .i64,.int .i64] (.app 61 (.cons (.var 1) (.cons (.var 0) .nil))) (.app 54 (.cons (.var 1) (.cons (.var 0) .nil)))],aS+30)]⟩
def aOg:St:=⟨[.any,.any,.any,.any,.any,.any,.any,.any,.any,.any,.any,.any,.any,.any,.any,.any,.any,.any,.any,.any,.any,.any,.any,.any,.any,.any,.any,.any,.any,.any,.any,.any,.any,.any,.any,.any],[some ([.vec [.int .u8,.int .i32,.int .i32,.int .i32,.int .i32,.int .i32,.int .i32] (.var 1) (.var 0) true],bA),some ([.any],28),some ([(.con (.slice none 0 0))],24),some ([(.int .i64 (.lit 4))],25),some ([.any],24),some ([.any,.any,(.ptr 2 0),(.ptr 3 0),(.ptr 4 0),.any,.any,.any,.any,.any,.any,.any,.any,.any,.any,.any,.any,.any,.any,.any,.any,.any,.any,.any,.any,.any,.any,.any]++[cX (0)],bI+9)]⟩
def aM7:LoopS:=⟨1,6,aOJ,(.cmp .eq (.app 55 (.cons (.var 1) (.cons (.var 0) .nil))) (.lit 1)),.exit 0,aOu,.ret,aOg⟩
def aMM:LoopU:=⟨aM7,[.var 0,.lit 0,.lit 0,.lit 0,.var 1],aEZ,.lit true⟩
def wR (P:Program) (fs:List B):Res SV:=bY G GI aEZ fs fun X=>gX P X GB aEs dP 4000 (cF (bQ P 20) 0) aM7
def aMm:eG:=fP 0 (eJ (bK GB) [aMM]) dP
def aMJ:FunS:=⟨[(.yld 5),(.ptr 1 0)],[some ([.vec [.int .u8,.int .i32,.int .i32,.int .i32,.int .i32,.int .i32,.int .i32] (.var 1) (.var 0) true],bA),some ([(.own 0 (.var 0) none)],28),some ([(.con (.slice none 0 0))],24),some ([(.int .i64 (.lit 0))],25),some ([(.con (.slice none 0 0))],24),some ([.any,.any,(.ptr 2 0),(.ptr 3 0),(.ptr 4 0),.any,.any,.any,.any,.any,.any,.any,.any,.any,.any,.any,.any,.any,.any,.any,.any,.any,.any,.any,.any,.any,.any,.any]++[cX (-1)],bI+9)],(.cmp .eq (.app 55 (.cons (.var 1) (.cons (.var 0) .nil))) (.lit 1)),(.tuple []),[some ([.vec [.int .u8,.int .i32,.int .i32,.int .i32,.int .i32,.int .i32,.int .i32] (.var 1) (.var 0) true],bA),some ([.any],28),some ([(.con (.slice none 0 0))],24),some ([(.int .i64 (.lit 0))],25),some ([(.own 6 (.app 54 (.cons (.var 1) (.cons (.var 0) .nil))) none)],24),some ([.any,.any,(.ptr 2 0),(.ptr 3 0),(.ptr 4 0),.any,.any,.any,.any,.any,.any,.any,.any,.any,.any,.any,.any,.any,.any,.any,.any,.any,.any,.any,.any,.any,.any,.any]++[cX (-1)],bI+9),some ([.lol 6 [.int .i64,.int .i64] (.app 61 (.cons (.var 1) (.cons (.var 0) .nil))) (.app 54 (.cons (.var 1) (.cons (.var 0) .nil)))],aS+30)],(.tuple []),[some ([.vec [.int .u8,.int .i32,.int .i32,.int .i32,.int .i32,.int .i32,.int .i32] (.var 1) (.var 0) true],bA),some ([.any],28),some ([(.con (.slice none 0 0))],24),some ([(.int .i64 (.lit 4))],25),some ([.any],24),some ([.any,.any,(.ptr 2 0),(.ptr 3 0),(.ptr 4 0),.any,.any,.any,.any,.any,.any,.any,.any,.any,.any,.any,.any,.any,.any,.any,.any,.any,.any,.any,.any,.any,.any,.any]++[cX (0)],bI+9)]⟩
def aKA (P:Program) (fs:List B):Res SV:=bY G GI aDO fs fun X=>gA P X GB aEs aMm 4000 20 aMJ
end Go.Proofs.Ythiehfhphgkaeaa
set_option maxRecDepth 100000
namespace Go.Proofs.Ythiehfhphgkaeaa
open Go Go.RowKit Sx Wi
def aEL (P:Program) (fs:List B):Res SV:=aKA P fs
def aCm:List B:=[]
def nR:B:=(.cmp .eq (.app 55 (.cons (.var 1) (.cons (.var 0) .nil))) (.lit 1))
def aKl:List B:=aW nR++aCm
def aKW:List B:=aW (B.neg nR)++aCm
theorem aKi:aEL Try.prog aKl = .ok (.tuple [(.agg []),(.bool (.lit true))]):=by kernel_rfl
theorem aJT:aEL Try.prog aKW = .ok (.tuple [(.agg []),(.bool (.lit false))]):=by kernel_rfl
end Go.Proofs.Ythiehfhphgkaeaa
set_option maxRecDepth 100000
namespace Go.Proofs.Ythiehfhphgkaeaa
open Go Go.RowKit Sx Wi
def jG (P:Program) (fs:List B):Res SV:=wR P fs
def aBT:List B:=[]
def cM:B:=(.cmp .lt (.lit 0) (.op .sub (.var 0) (.var 1)))
def aJl:List B:=aW cM++aBT
def cZ:B:=(.cmp .le (.op .add (.op .add (.var 1) (.lit 1)) (.op .sub (.op .sub (.var 0) (.var 1)) (.lit 1))) (.var 0))
def aBJ:List B:=aW cZ++aJl
def cY:B:=(.cmp .eq (.op .add (.app 53 (.cons (.var 4) (.cons (.op .add (.var 1) (.lit 1)) (.cons (.op .sub (.op .sub (.var 0) (.var 1)) (.lit 1)) .nil)))) (.lit 1)) (.lit 0))
def aJB:List B:=aW cY++aBJ
def dA:B:=(.cmp .lt (.var 1) (.var 0))
def aCG:List B:=aW dA++aJB
def cW:B:=(.cmp .eq (.app 84 (.cons (.var 4) (.cons (.var 1) (.cons (.lit 0) .nil)))) (.lit 0))
def aIo:List B:=aW cW++aCG
def kT:B:=(.cmp .le (.op .add (.var 1) (.op .sub (.var 0) (.var 1))) (.var 0))
def aCi:List B:=aW kT++aIo
def lF:B:=(.cmp .lt (.app 56 (.cons (.var 4) (.cons (.var 1) (.cons (.op .sub (.var 0) (.var 1)) .nil)))) (.lit 0))
def aH1:List B:=aW lF++aCi
def qC:B:=(.cmp .lt (.lit 0) (.op .sub (.op .sub (.var 0) (.var 1)) (.op .sub (.var 0) (.var 1))))
def aJS:List B:=aW (B.neg qC)++aH1
def aBE:SV:=(.agg [(.int .i64 (.var 4)),(.int .i64 (.var 4)),(.int .i64 (.op .add (.var 1) (.op .sub (.var 0) (.var 1)))),(.int .i64 (.var 1)),(.int .i64 (.op .sub (.op .sub (.var 0) (.var 1)) (.op .sub (.var 0) (.var 1)))),(.int .i64 (.op .sub (.var 0) (.var 1))),(.int .i64 (.op .add (.var 2) (.lit 1))),(.int .i64 (.var 2)),(.int .i64 (.app 91 (.cons (.var 3) (.cons (.app 50 (.cons (.var 4) (.cons (.var 1) (.cons (.op .sub (.var 0) (.var 1)) .nil)))) .nil)))),(.int .i64 (.var 3)),(.int .i64 (.op .add (.var 2) (.lit 1))),(.int .i64 (.var 2))])
def aGY:List B:=aW (B.neg lF)++aCi
def aHb:List B:=aW (B.neg cW)++aCG
def aF0:List B:=aW (B.neg cY)++aBJ
def fE:B:=(.cmp .le (.op .add (.app 53 (.cons (.var 4) (.cons (.op .add (.var 1) (.lit 1)) (.cons (.op .sub (.op .sub (.var 0) (.var 1)) (.lit 1)) .nil)))) (.lit 1)) (.op .sub (.var 0) (.var 1)))
def aHy:List B:=aW fE++aF0
def zK:List B:=aW dA++aHy
def aHh:List B:=aW cW++zK
def iO:B:=(.cmp .le (.op .add (.var 1) (.op .add (.app 53 (.cons (.var 4) (.cons (.op .add (.var 1) (.lit 1)) (.cons (.op .sub (.op .sub (.var 0) (.var 1)) (.lit 1)) .nil)))) (.lit 1))) (.var 0))
def yM:List B:=aW iO++aHh
def gF:B:=(.cmp .lt (.app 56 (.cons (.var 4) (.cons (.var 1) (.cons (.op .add (.app 53 (.cons (.var 4) (.cons (.op .add (.var 1) (.lit 1)) (.cons (.op .sub (.op .sub (.var 0) (.var 1)) (.lit 1)) .nil)))) (.lit 1)) .nil)))) (.lit 0))
def yQ:List B:=aW gF++yM
def iG:B:=(.cmp .lt (.lit 0) (.op .sub (.op .sub (.var 0) (.var 1)) (.op .add (.app 53 (.cons (.var 4) (.cons (.op .add (.var 1) (.lit 1)) (.cons (.op .sub (.op .sub (.var 0) (.var 1)) (.lit 1)) .nil)))) (.lit 1))))
def aFm:List B:=aW iG++yQ
def lR:B:=(.cmp .lt (.op .add (.var 1) (.op .add (.app 53 (.cons (.var 4) (.cons (.op .add (.var 1) (.lit 1)) (.cons (.op .sub (.op .sub (.var 0) (.var 1)) (.lit 1)) .nil)))) (.lit 1))) (.var 0))
def yF:List B:=aW lR++aFm
def lI:B:=(.cmp .eq (.app 84 (.cons (.var 4) (.cons (.op .add (.var 1) (.op .add (.app 53 (.cons (.var 4) (.cons (.op .add (.var 1) (.lit 1)) (.cons (.op .sub (.op .sub (.var 0) (.var 1)) (.lit 1)) .nil)))) (.lit 1))) (.cons (.lit 0) .nil)))) (.lit 3))
def aFB:List B:=aW lI++yF
def aCd:SV:=(.agg [(.int .i64 (.var 4)),(.int .i64 (.var 4)),(.int .i64 (.op .add (.op .add (.var 1) (.op .add (.app 53 (.cons (.var 4) (.cons (.op .add (.var 1) (.lit 1)) (.cons (.op .sub (.op .sub (.var 0) (.var 1)) (.lit 1)) .nil)))) (.lit 1))) (.lit 1))),(.int .i64 (.var 1)),(.int .i64 (.op .sub (.op .sub (.op .sub (.var 0) (.var 1)) (.op .add (.app 53 (.cons (.var 4) (.cons (.op .add (.var 1) (.lit 1)) (.cons (.op .sub (.op .sub (.var 0) (.var 1)) (.lit 1)) .nil)))) (.lit 1))) (.lit 1))),(.int .i64 (.op .sub (.var 0) (.var 1))),(.int .i64 (.op .add (.var 2) (.lit 1))),(.int .i64 (.var 2)),(.int .i64 (.app 91 (.cons (.var 3) (.cons (.app 50 (.cons (.var 4) (.cons (.var 1) (.cons (.op .add (.app 53 (.cons (.var 4) (.cons (.op .add (.var 1) (.lit 1)) (.cons (.op .sub (.op .sub (.var 0) (.var 1)) (.lit 1)) .nil)))) (.lit 1)) .nil)))) .nil)))),(.int .i64 (.var 3)),(.int .i64 (.op .add (.var 2) (.lit 1))),(.int .i64 (.var 2))])
def aG3:List B:=aW (B.neg lI)++yF
def qZ:SV:=(.agg [(.int .i64 (.var 4)),(.int .i64 (.var 4)),(.int .i64 (.op .add (.var 1) (.op .add (.app 53 (.cons (.var 4) (.cons (.op .add (.var 1) (.lit 1)) (.cons (.op .sub (.op .sub (.var 0) (.var 1)) (.lit 1)) .nil)))) (.lit 1)))),(.int .i64 (.var 1)),(.int .i64 (.op .sub (.op .sub (.var 0) (.var 1)) (.op .add (.app 53 (.cons (.var 4) (.cons (.op .add (.var 1) (.lit 1)) (.cons (.op .sub (.op .sub (.var 0) (.var 1)) (.lit 1)) .nil)))) (.lit 1)))),(.int .i64 (.op .sub (.var 0) (.var 1))),(.int .i64 (.op .add (.var 2) (.lit 1))),(.int .i64 (.var 2)),(.int .i64 (.app 91 (.cons (.var 3) (.cons (.app 50 (.cons (.var 4) (.cons (.var 1) (.cons (.op .add (.app 53 (.cons (.var 4) (.cons (.op .add (.var 1) (.lit 1)) (.cons (.op .sub (.op .sub (.var 0) (.var 1)) (.lit 1)) .nil)))) (.lit 1)) .nil)))) .nil)))),(.int .i64 (.var 3)),(.int .i64 (.op .add (.var 2) (.lit 1))),(.int .i64 (.var 2))])
def aF6:List B:=aW (B.neg iG)++yQ
def aFr:List B:=aW (B.neg gF)++yM
def aFC:List B:=aW (B.neg cW)++zK
def aE6:List B:=aW (B.neg cM)++aBT
def aCE:SV:=(.tuple [(.agg [(.int .i64 (.var 4)),(.int .i64 (.var 1)),(.int .i64 (.var 2)),(.int .i64 (.app 54 (.cons (.var 1) (.cons (.var 0) .nil)))),(.int .i64 (.var 3)),(.int .i64 (.app 61 (.cons (.var 1) (.cons (.var 0) .nil)))),(.int .i64 (.var 2)),(.int .i64 (.app 54 (.cons (.var 1) (.cons (.var 0) .nil))))]),(.bool (.lit true))])
theorem aKL:jG Try.prog aJS = .ok aBE:=by kernel_rfl
theorem aE4:jG Try.prog aGY = .ok (.tuple [(.agg [(.int .i64 (.var 4)),(.int .i64 (.var 1))]),(.bool (.lit false))]):=by kernel_rfl
theorem aFN:jG Try.prog aHb = .ok (.tuple [(.agg [(.int .i64 (.var 4)),(.int .i64 (.var 1))]),(.bool (.lit false))]):=by kernel_rfl
theorem aGc:jG Try.prog aFB = .ok aCd:=by kernel_rfl
theorem aFQ:jG Try.prog aG3 = .ok qZ:=by kernel_rfl
theorem aGG:jG Try.prog aF6 = .ok qZ:=by kernel_rfl
theorem aHA:jG Try.prog aFr = .ok (.tuple [(.agg [(.int .i64 (.var 4)),(.int .i64 (.var 1))]),(.bool (.lit false))]):=by kernel_rfl
theorem aHf:jG Try.prog aFC = .ok (.tuple [(.agg [(.int .i64 (.var 4)),(.int .i64 (.var 1))]),(.bool (.lit false))]):=by kernel_rfl
theorem aFv:jG Try.prog aE6 = .ok aCE:=by kernel_rfl
end Go.Proofs.Ythiehfhphgkaeaa
namespace Go.Proofs.Ythiehfhphgkaeaa
open Go Go.RowKit Sx Wi
theorem uP (l:List (List Int)):(gZ l).length≤l.length:=by
 unfold gZ;split
 ·split<;>simp
 ·simp
theorem zZ {r:List Int} {rs:List (List Int)} (h:sk r=3):gZ (r::rs)=rs:=by
 show (if sk r=3 then rs else r::rs)=rs
 rw[if_pos h]
theorem aBX {r:List Int} {rs:List (List Int)} (h:¬sk r=3):gZ (r::rs)=r::rs:=by
 show (if sk r=3 then rs else r::rs)=r::rs
 rw[if_neg h]
theorem wF:∀ (f:Nat) (l:List (List Int)),l.length≤f→bS (f+1) l=bS f l
 |0,[],_=>rfl
 |0,_::_,h=>by simp at h
 |f+1,[],_=>rfl
 |f+1,r::rs,h=>by
  have h1:(gZ (rs.drop (cC rs))).length≤f:=by
   have:=uP (rs.drop (cC rs))
   rw[List.length_drop]at this
   simp only[List.length_cons]at h
   omega
  show _::bS (f+1) _=_::bS f _
  rw[wF f _ h1]
theorem aCX {r:List Int} {rs:List (List Int)} (h:(r::rs).length≤300):bS 300 (r::rs)=(r::rs.take (cC rs))::bS 300 (gZ (rs.drop (cC rs))):=by
 have h1:(gZ (rs.drop (cC rs))).length≤299:=by
  have:=uP (rs.drop (cC rs))
  rw[List.length_drop]at this
  simp only[List.length_cons]at h
  omega
 show _::bS 299 _=_
 rw[←wF 299 _ h1]
def gW (L N:Int) (p:Nat × Nat):Prop:=
 (p.1:Int)≤N∧(p.2:Int)+((bS 300 ((aF L 0 N).drop p.1)).length:Int)=G 54 [L,N]∧(bS 300 ((aF L 0 N).drop p.1)).all iS=(bS 300 (aF L 0 N)).all iS
theorem aAc {L N:Int} {k:Nat} (h0:0≤N) (hb:N≤256) (hk:(k:Int)≤N):(aF L 0 N).drop k=aF L (k:Int) (N-k):=by
 unfold aF
 rw[List.drop_take,List.drop_drop]
 congr 1
 ·omega
 ·congr 1;omega
theorem aFE {L N:Int} {off:Nat} (hN:N=((Lc.dec L).length:Int)) (hb:N≤256) (ho:(off:Int)<N):
  (aF L 0 N).drop off=(Lc.dec L).getD off []::aF L ((off:Int)+1) (N-off-1):=by
 rw[aAc (by omega) hb (by omega)]
 unfold aF
 rw[show min (N-(off:Int)).toNat 300=min (N-off-1).toNat 300+1 by omega,show ((off:Int)+1).toNat=off+1 by omega,show ((off:Int)).toNat=off by omega]
 rw[List.drop_eq_getElem_cons (show off<(Lc.dec L).length by omega),List.take_succ_cons]
 rw[List.getD_eq_getElem?_getD,List.getElem?_eq_getElem (show off<(Lc.dec L).length by omega)]
 rfl
theorem lC (L:Int) (off:Nat):G 84 [L,(off:Int),0]=sk ((Lc.dec L).getD off []):=by
 have:=mQ .u8 L (off:Int) 0
 rw[Int.toNat_natCast]at this
 exact this
section
variable {L N:Int} {off c:Nat}
theorem gL (hN:N=((Lc.dec L).length:Int)) (hb:N≤256) (ho:(off:Int)<N):((aF L ((off:Int)+1) (N-off-1)).length:Int)=N-off-1:=by
 rw[bW (by omega) (by omega) (by omega)]
 omega
theorem aAA (hN:N=((Lc.dec L).length:Int)) (hb:N≤256) (ho:(off:Int)<N) (h:G 53 [L,(off:Int)+1,N-off-1]+1=0):cC (aF L ((off:Int)+1) (N-off-1))=(aF L ((off:Int)+1) (N-off-1)).length:=by
 have e:G 53 [L,(off:Int)+1,N-off-1]=idx (cC (aF L ((off:Int)+1) (N-off-1))) (aF L ((off:Int)+1) (N-off-1)):=rfl
 have h1:=pZ (aF L ((off:Int)+1) (N-off-1))
 rw[e]at h
 unfold idx at h
 split at h<;>omega
theorem qJ (hN:N=((Lc.dec L).length:Int)) (hb:N≤256) (ho:(off:Int)<N) (h:¬G 53 [L,(off:Int)+1,N-off-1]+1=0):
  G 53 [L,(off:Int)+1,N-off-1]=(cC (aF L ((off:Int)+1) (N-off-1)):Int)∧cC (aF L ((off:Int)+1) (N-off-1))<(aF L ((off:Int)+1) (N-off-1)).length:=by
 have e:G 53 [L,(off:Int)+1,N-off-1]=idx (cC (aF L ((off:Int)+1) (N-off-1))) (aF L ((off:Int)+1) (N-off-1)):=rfl
 rw[e]at h ⊢
 unfold idx at h ⊢
 split at h
 ·rename_i q;rw[if_pos q];exact⟨rfl,q⟩
 ·omega
theorem aCt (hN:N=((Lc.dec L).length:Int)) (hb:N≤256) (ho:(off:Int)<N) (k:Nat) (hk:k≤(aF L ((off:Int)+1) (N-off-1)).length):
  aF L (off:Int) ((k:Int)+1)=(Lc.dec L).getD off []::(aF L ((off:Int)+1) (N-off-1)).take k:=by
 have hl:=gL hN hb ho
 unfold aF at hl hk ⊢
 rw[show min ((k:Int)+1).toNat 300=k+1 by omega,show ((off:Int)+1).toNat=off+1 by omega,show ((off:Int)).toNat=off by omega]
 rw[List.drop_eq_getElem_cons (show off<(Lc.dec L).length by omega),List.take_succ_cons,List.take_take]
 rw[List.getD_eq_getElem?_getD,List.getElem?_eq_getElem (show off<(Lc.dec L).length by omega)]
 rw[show min k (min (N-off-1).toNat 300)=k by omega]
 rfl
theorem aBn:∀ l:List (List Int),(eR l=l.length)↔(l.all fun r=>decide (sk r≤3))=true
 |[]=>by simp [eR]
 |r::rs=>by
  have ih:=aBn rs
  by_cases h:3<sk r
  ·have e:eR (r::rs)=0:=by unfold eR;rw[if_pos h]
   rw[e]
   simp only[List.length_cons,List.all_cons,Bool.and_eq_true,decide_eq_true_eq]
   constructor
   ·intro q;omega
   ·intro q;omega
  ·have e:eR (r::rs)=eR rs+1:=by rw[eR,if_neg h]
   rw[e]
   simp only[List.length_cons,List.all_cons,Bool.and_eq_true,decide_eq_true_eq]
   rw[←ih]
   omega
theorem aKj (hN:N=((Lc.dec L).length:Int)) (hb:N≤256) (ho:(off:Int)<N) (k:Nat) (hk:k≤(aF L ((off:Int)+1) (N-off-1)).length):
  iS ((Lc.dec L).getD off []::(aF L ((off:Int)+1) (N-off-1)).take k)=true↔(G 84 [L,(off:Int),0]=0∧G 56 [L,(off:Int),(k:Int)+1]<0):=by
 have e:G 56 [L,(off:Int),(k:Int)+1]=idx (eR (aF L (off:Int) ((k:Int)+1))) (aF L (off:Int) ((k:Int)+1)):=rfl
 rw[e,lC,aCt hN hb ho k hk]
 have q:=aBn ((Lc.dec L).getD off []::(aF L ((off:Int)+1) (N-off-1)).take k)
 have q2:=aED ((Lc.dec L).getD off []::(aF L ((off:Int)+1) (N-off-1)).take k)
 unfold iS
 simp only[Bool.and_eq_true,decide_eq_true_eq]
 rw[←q]
 unfold idx
 constructor
 ·rintro⟨a,b⟩
  refine⟨a,?_⟩
  rw[b,if_neg (by omega)]
  decide
 ·rintro⟨a,b⟩
  refine⟨a,?_⟩
  split at b<;>omega
theorem aAz (hN:N=((Lc.dec L).length:Int)) (hb:N≤256) (ho:(off:Int)<N):bS 300 ((aF L 0 N).drop off)=
  ((Lc.dec L).getD off []::(aF L ((off:Int)+1) (N-off-1)).take (cC (aF L ((off:Int)+1) (N-off-1))))::bS 300 (gZ ((aF L ((off:Int)+1) (N-off-1)).drop (cC (aF L ((off:Int)+1) (N-off-1))))):=by
 rw[aFE hN hb ho]
 refine aCX ?_
 have:=gL hN hb ho
 simp only[List.length_cons]
 omega
theorem aAI (hN:N=((Lc.dec L).length:Int)) (hb:N≤256) (ho:(off:Int)<N) (hg:gW L N (off,c)) {off':Nat} (ho':(off':Int)≤N)
  (hk:G 84 [L,(off:Int),0]=0) {m:Int} (hm:m=(cC (aF L ((off:Int)+1) (N-off-1)):Int)+1) (h56:G 56 [L,(off:Int),m]<0)
  (hd:(aF L 0 N).drop off'=gZ ((aF L ((off:Int)+1) (N-off-1)).drop (cC (aF L ((off:Int)+1) (N-off-1))))):gW L N (off',c+1):=by
 obtain⟨g1,g2,g3⟩:=hg
 rw[hm]at h56
 have hs:=(aKj hN hb ho _ (pZ _)).2 ⟨hk,h56⟩
 simp only at g2 g3
 rw[aAz hN hb ho]at g2 g3
 refine⟨ho',?_,?_⟩
 ·simp only
  rw[hd]
  simp only[List.length_cons]at g2
  rw[←g2]
  omega
 ·simp only
  rw[hd,←g3,List.all_cons,hs,Bool.true_and]
theorem aHU (hN:N=((Lc.dec L).length:Int)) (hb:N≤256) (ho:(off:Int)<N) (hg:gW L N (off,c)) {m:Int} (hm:m=(cC (aF L ((off:Int)+1) (N-off-1)):Int)+1)
  (h:¬G 84 [L,(off:Int),0]=0∨¬G 56 [L,(off:Int),m]<0):¬G 55 [L,N]=1:=by
 obtain⟨g1,g2,g3⟩:=hg
 rw[hm]at h
 have hs:iS ((Lc.dec L).getD off []::(aF L ((off:Int)+1) (N-off-1)).take (cC (aF L ((off:Int)+1) (N-off-1))))=false:=by
  rw[Bool.eq_false_iff]
  intro q
  obtain⟨q1,q2⟩:=(aKj hN hb ho _ (pZ _)).1 q
  rcases h with h|h
  ·exact h q1
  ·exact h q2
 simp only at g3
 rw[aAz hN hb ho,List.all_cons,hs,Bool.false_and]at g3
 have e:G 55 [L,N]=if (bS 300 (aF L 0 N)).all iS then 1 else 0:=rfl
 rw[e,←g3]
 decide
theorem aMV (hN:N=((Lc.dec L).length:Int)) (hb:N≤256) (ho:¬(off:Int)<N) (hg:gW L N (off,c)):(c:Int)=G 54 [L,N]∧G 55 [L,N]=1:=by
 obtain⟨g1,g2,g3⟩:=hg
 have hd:(aF L 0 N).drop off=[]:=by
  apply List.drop_eq_nil_of_le
  rw[bW (by omega) (by omega) (by omega)]
  simp only at g1
  omega
 simp only[hd]at g2 g3
 have e0:bS 300 []=[]:=rfl
 rw[e0]at g2 g3
 refine⟨by simpa using g2,?_⟩
 have e:G 55 [L,N]=if (bS 300 (aF L 0 N)).all iS then 1 else 0:=rfl
 rw[e,←g3]
 rfl
theorem aIb (hN:N=((Lc.dec L).length:Int)) (hb:N≤256) (ho:(off:Int)<N) (hg:gW L N (off,c)) (hk:G 84 [L,(off:Int),0]=0) (hA:G 53 [L,(off:Int)+1,N-off-1]+1=0) (h56:G 56 [L,(off:Int),N-off]<0):gW L N (N.toNat,c+1):=by
 have hc:=aAA hN hb ho hA
 have hl:=gL hN hb ho
 refine aAI hN hb ho hg (by omega) hk (m:=N-off) (by omega) h56 ?_
 rw[hc,List.drop_eq_nil_of_le (Nat.le_refl _),List.drop_eq_nil_of_le (by rw[bW (by omega) (by omega) (by omega)];omega)]
 rfl
theorem aB2 (hN:N=((Lc.dec L).length:Int)) (hb:N≤256) (ho:(off:Int)<N) {k:Nat} (hk:k<(aF L ((off:Int)+1) (N-off-1)).length):
  (aF L ((off:Int)+1) (N-off-1)).drop k=(Lc.dec L).getD (off+1+k) []::(aF L 0 N).drop (off+1+k+1)∧(aF L 0 N).drop (off+1+k)=(Lc.dec L).getD (off+1+k) []::(aF L 0 N).drop (off+1+k+1):=by
 have hl:=gL hN hb ho
 have h1:(aF L 0 N).drop (off+1)=aF L ((off:Int)+1) (N-off-1):=by
  rw[aAc (by omega) hb (by omega)]
  congr 1;omega
 have hlen:=bW (L:=L) (off:=0) (n:=N) (by omega) (by omega) (by omega)
 have h2:(aF L 0 N).drop (off+1+k)=(Lc.dec L).getD (off+1+k) []::(aF L 0 N).drop (off+1+k+1):=by
  rw[List.drop_eq_getElem_cons (show off+1+k<(aF L 0 N).length by omega)]
  congr 1
  have:=uT (L:=L) (off:=0) (n:=N) (i:=((off+1+k:Nat):Int)) (by omega) (by omega) (by omega)
  rw[Int.zero_add,Int.toNat_natCast,List.getD_eq_getElem?_getD,List.getElem?_eq_getElem (show off+1+k<(aF L 0 N).length by omega)]at this
  exact this
 refine⟨?_,h2⟩
 rw[←h1,List.drop_drop]
 exact h2
theorem aId (hN:N=((Lc.dec L).length:Int)) (hb:N≤256) (ho:(off:Int)<N) (hg:gW L N (off,c)) (hk:G 84 [L,(off:Int),0]=0) (hB:¬G 53 [L,(off:Int)+1,N-off-1]+1=0) (h56:G 56 [L,(off:Int),G 53 [L,(off:Int)+1,N-off-1]+1]<0):
  let R:=G 53 [L,(off:Int)+1,N-off-1]+1
  0<R∧(off:Int)+R<N∧(G 84 [L,(off:Int)+R,0]=3→gW L N (((off:Int)+R+1).toNat,c+1))∧(¬G 84 [L,(off:Int)+R,0]=3→gW L N (((off:Int)+R).toNat,c+1)):=by
 intro R
 obtain⟨e1,e2⟩:=qJ hN hb ho hB
 have hl:=gL hN hb ho
 obtain⟨d1,d2⟩:=aB2 hN hb ho e2
 have hR:R=(cC (aF L ((off:Int)+1) (N-off-1)):Int)+1:=by show G 53 _+1=_;rw[e1]
 have eo:(off:Int)+R=((off+1+cC (aF L ((off:Int)+1) (N-off-1)):Nat):Int):=by rw[hR];omega
 have e56:G 56 [L,(off:Int),R]<0:=h56
 refine⟨by omega,by omega,fun h3=>?_,fun h3=>?_⟩
 ·rw[eo,lC]at h3
  refine aAI hN hb ho hg (by omega) hk hR e56 ?_
  rw[d1,show ((off:Int)+R+1).toNat=off+1+cC (aF L ((off:Int)+1) (N-off-1))+1 by omega]
  rw[zZ h3]
 ·rw[eo,lC]at h3
  refine aAI hN hb ho hg (by omega) hk hR e56 ?_
  rw[d1,show ((off:Int)+R).toNat=off+1+cC (aF L ((off:Int)+1) (N-off-1))by omega,d2]
  rw[aBX h3]
theorem xJ (hN:N=((Lc.dec L).length:Int)) (hb:N≤256) (ho:(off:Int)<N) (hB:¬G 53 [L,(off:Int)+1,N-off-1]+1=0):0<G 53 [L,(off:Int)+1,N-off-1]+1∧(off:Int)+(G 53 [L,(off:Int)+1,N-off-1]+1)<N:=by
 obtain⟨e1,e2⟩:=qJ hN hb ho hB
 have hl:=gL hN hb ho
 omega
theorem aD6 (hN:N=((Lc.dec L).length:Int)) (hb:N≤256) (ho:(off:Int)<N) (hg:gW L N (off,c)) (hA:G 53 [L,(off:Int)+1,N-off-1]+1=0) (h:¬G 84 [L,(off:Int),0]=0∨¬G 56 [L,(off:Int),N-off]<0):¬G 55 [L,N]=1:=by
 have hc:=aAA hN hb ho hA
 have hl:=gL hN hb ho
 exact aHU hN hb ho hg (m:=N-off) (by omega) h
theorem aD7 (hN:N=((Lc.dec L).length:Int)) (hb:N≤256) (ho:(off:Int)<N) (hg:gW L N (off,c)) (hB:¬G 53 [L,(off:Int)+1,N-off-1]+1=0) (h:¬G 84 [L,(off:Int),0]=0∨¬G 56 [L,(off:Int),G 53 [L,(off:Int)+1,N-off-1]+1]<0):¬G 55 [L,N]=1:=by
 obtain⟨e1,e2⟩:=qJ hN hb ho hB
 exact aHU hN hb ho hg (m:=G 53 [L,(off:Int)+1,N-off-1]+1) (by omega) h
theorem zE:∀ (f:Nat) (l:List (List Int)),(bS f l).length≤l.length
 |0,_=>Nat.zero_le _
 |_+1,[]=>Nat.le_refl _
 |f+1,r::rs=>by
  have h1:=zE f (gZ (rs.drop (cC rs)))
  have h2:=uP (rs.drop (cC rs))
  rw[List.length_drop]at h2
  simp only[bS,List.length_cons]
  omega
theorem aHO {p:Nat × Nat} (b0:0≤N∧N≤256) (hN:N=((Lc.dec L).length:Int)) (hp:gW L N p):(p.2:Int)≤256:=by
 obtain⟨g1,g2,_⟩:=hp
 have e:G 54 [L,N]=((bS 300 (aF L 0 N)).length:Int):=rfl
 have h1:=zE 300 (aF L 0 N)
 have h2:=bW (L:=L) (off:=0) (n:=N) (by omega) (by omega) (by omega)
 rw[e]at g2
 omega
theorem aKE {L N:Int} (h0:0≤N):gW L N (0,0):=by
 refine⟨by simpa using h0,?_,rfl⟩
 show ((0:Nat):Int)+_=_
 simp only[List.drop_zero]
 exact Int.zero_add _
end
end Go.Proofs.Ythiehfhphgkaeaa
namespace Go.Proofs.Ythiehfhphgkaeaa
open Go Go.RowKit Sx Wi
def aBI (l:List (List (List Int))):List (List Int):=l.map fun l=>[Lc.enc (bR l).1]
theorem g61 (L N:Int):G 61 [L,N]=Lc.enc (aBI (bS 300 (aF L 0 N))):=rfl
def mP (L N:Int) (c:Nat):Int:=Lc.enc (aBI ((bS 300 (aF L 0 N)).take c))
def tZ (L N:Int) (p:Nat × Nat):Prop:=gW L N p∧(bS 300 (aF L 0 N)).drop p.2=bS 300 ((aF L 0 N).drop p.1)
theorem aI0 {L N:Int} (h0:0≤N):tZ L N (0,0):=⟨aKE h0,rfl⟩
theorem aJX (L N:Int):mP L N 0=0:=rfl
section
variable {L N:Int} {off c:Nat}
theorem aNo (hN:N=((Lc.dec L).length:Int)) (hb:N≤256) (ho:¬(off:Int)<N) (hg:tZ L N (off,c)):mP L N c=G 61 [L,N]:=by
 obtain⟨hg,h2⟩:=hg
 have hd:(aF L 0 N).drop off=[]:=by
  apply List.drop_eq_nil_of_le
  rw[bW (by omega) (by omega) (by omega)]
  have:=hg.1
  simp only at this
  omega
 simp only[hd]at h2
 have h3:(bS 300 (aF L 0 N)).drop c=[]:=h2
 rw[g61]
 unfold mP
 rw[List.take_of_length_le (List.drop_eq_nil_iff.1 h3)]
theorem aEw (hN:N=((Lc.dec L).length:Int)) (hb:N≤256) (ho:(off:Int)<N) (hg:tZ L N (off,c)) {m:Int} (hm:m=(cC (aF L ((off:Int)+1) (N-off-1)):Int)+1):
  G 91 [mP L N c,G 50 [L,(off:Int),m]]=mP L N (c+1)∧(bS 300 (aF L 0 N)).drop (c+1)=bS 300 (gZ ((aF L ((off:Int)+1) (N-off-1)).drop (cC (aF L ((off:Int)+1) (N-off-1))))):=by
 obtain⟨hg,h2⟩:=hg
 simp only at h2
 have hs:=aAz hN hb ho
 rw[←aCt hN hb ho _ (pZ _),←hm]at hs
 rw[hs]at h2
 have hlt:c<(bS 300 (aF L 0 N)).length:=by
  rcases Nat.lt_or_ge c (bS 300 (aF L 0 N)).length with q|q
  ·exact q
  ·rw[List.drop_eq_nil_of_le q]at h2;cases h2
 rw[List.drop_eq_getElem_cons hlt]at h2
 obtain⟨e1,e2⟩:=List.cons.inj h2
 refine⟨?_,e2⟩
 unfold mP
 rw[iP hZ,List.take_add_one,List.getElem?_eq_getElem hlt,e1]
 congr 1
 unfold aBI
 rw[List.map_append]
 rfl
theorem aIE (hN:N=((Lc.dec L).length:Int)) (hb:N≤256) (ho:(off:Int)<N) (hg:tZ L N (off,c)) (hk:G 84 [L,(off:Int),0]=0) (hA:G 53 [L,(off:Int)+1,N-off-1]+1=0) (h56:G 56 [L,(off:Int),N-off]<0):
  tZ L N (N.toNat,c+1)∧G 91 [mP L N c,G 50 [L,(off:Int),N-off]]=mP L N (c+1):=by
 have hc:=aAA hN hb ho hA
 have hl:=gL hN hb ho
 obtain⟨q1,q2⟩:=aEw hN hb ho hg (m:=N-off) (by omega)
 refine⟨⟨aIb hN hb ho hg.1 hk hA h56,?_⟩,q1⟩
 simp only
 rw[q2,hc,List.drop_eq_nil_of_le (Nat.le_refl _),List.drop_eq_nil_of_le (by rw[bW (by omega) (by omega) (by omega)];omega)]
 rfl
theorem vL (hN:N=((Lc.dec L).length:Int)) (hb:N≤256) (ho:(off:Int)<N) (hg:tZ L N (off,c)) (hk:G 84 [L,(off:Int),0]=0) (hB:¬G 53 [L,(off:Int)+1,N-off-1]+1=0) (h56:G 56 [L,(off:Int),G 53 [L,(off:Int)+1,N-off-1]+1]<0):
  let R:=G 53 [L,(off:Int)+1,N-off-1]+1
  0<R∧(off:Int)+R<N∧G 91 [mP L N c,G 50 [L,(off:Int),R]]=mP L N (c+1)∧(G 84 [L,(off:Int)+R,0]=3→tZ L N (((off:Int)+R+1).toNat,c+1))∧(¬G 84 [L,(off:Int)+R,0]=3→tZ L N (((off:Int)+R).toNat,c+1)):=by
 intro R
 obtain⟨e1,e2⟩:=qJ hN hb ho hB
 have hl:=gL hN hb ho
 obtain⟨d1,d2⟩:=aB2 hN hb ho e2
 obtain⟨p1,p2,p3,p4⟩:=aId hN hb ho hg.1 hk hB h56
 have hR:R=(cC (aF L ((off:Int)+1) (N-off-1)):Int)+1:=by show G 53 _+1=_;rw[e1]
 obtain⟨q1,q2⟩:=aEw hN hb ho hg hR
 have eo:(off:Int)+R=((off+1+cC (aF L ((off:Int)+1) (N-off-1)):Nat):Int):=by rw[hR];omega
 refine⟨p1,p2,q1,fun h3=>⟨p3 h3,?_⟩,fun h3=>⟨p4 h3,?_⟩⟩
 ·rw[eo,lC]at h3
  simp only
  rw[q2,d1,show ((off:Int)+R+1).toNat=off+1+cC (aF L ((off:Int)+1) (N-off-1))+1 by omega,zZ h3]
 ·rw[eo,lC]at h3
  simp only
  rw[q2,d1,show ((off:Int)+R).toNat=off+1+cC (aF L ((off:Int)+1) (N-off-1))by omega,d2,aBX h3]
end
theorem jS {X k:Int} (hk:k=((Lc.dec X).length:Int)) (hb:k≤300):aF X 0 k=Lc.dec X:=by
 unfold aF
 rw[show (0:Int).toNat=0 from rfl,List.drop_zero,List.take_of_length_le (by omega)]
theorem g54 {X k:Int} (hk:k=((Lc.dec X).length:Int)) (hb:k≤300):G 54 [X,k]=((bS 300 (Lc.dec X)).length:Int):=by
 show (((bS 300 (aF X 0 k)).length:Nat):Int)=_
 rw[jS hk hb]
theorem aOZ {X k:Int} (hk:k=((Lc.dec X).length:Int)) (hb:k≤300):G 61 [X,k]=Lc.enc (aBI (bS 300 (Lc.dec X))):=by
 rw[g61,jS hk hb]
section
variable {L M X n m:Int}
end
end Go.Proofs.Ythiehfhphgkaeaa
