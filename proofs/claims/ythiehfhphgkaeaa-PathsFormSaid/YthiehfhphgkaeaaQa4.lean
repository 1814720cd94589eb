/- What is proved: the run of a function over its ways,and what is known on each. No condition. -/
import Derived.Test.YthiehfhphgkaeaaQa3
import Derived.Test.YthiehfhphgkaeaaProg
import Derived.Test.YthiehfhphgkaeaaQa1
import Derived.Test.YthiehfhphgkaeaaQg4
set_option linter.unusedSimpArgs false
set_option linter.unusedVariables false
set_option maxRecDepth 100000
namespace Go.Proofs.Ythiehfhphgkaeaa
open Go Go.RowKit Sx Wi
def oU (P:Program) (fs:List B):Res SV:=qY P fs
def wL:List B:=[]
def fM:B:=(.cmp .lt (.var 3) (.var 1))
def aEU:List B:=aU fM++wL
def hJ:B:=(.cmp .lt (.op .add (.var 0) (.var 3)) (.var 2))
def wT:List B:=aU hJ++aEU
def iD:B:=(.cmp .eq (.app 84 (.cons (.var 4) (.cons (.op .add (.var 0) (.var 3)) (.cons (.lit 0) .nil)))) (.lit 0))
def aFh:List B:=aU iD++wT
def xJ:List B:=aU (B.neg iD)++wT
def kA:B:=(.cmp .eq (.app 84 (.cons (.var 4) (.cons (.op .add (.var 0) (.var 3)) (.cons (.lit 0) .nil)))) (.lit 3))
def aFN:List B:=aU kA++xJ
def aDL:List B:=aU (B.neg kA)++xJ
def aF5:List B:=aU (B.neg fM)++wL
theorem aF7:oU Try.prog aFh = .ok (.tuple [(.agg [(.int .i64 (.var 3)),(.int .i64 (.app 53 (.cons (.var 3) (.cons (.var 0) (.cons (.var 1) .nil))))),(.int .i64 (.var 4)),(.int .i64 (.var 3))]),(.bool (.lit true))]):=by kernel_rfl
theorem aDN:oU Try.prog aFN = .ok (.tuple [(.agg [(.int .i64 (.var 3)),(.int .i64 (.app 53 (.cons (.var 3) (.cons (.var 0) (.cons (.var 1) .nil))))),(.int .i64 (.var 4)),(.int .i64 (.var 3))]),(.bool (.lit true))]):=by kernel_rfl
theorem aFt:oU Try.prog aDL = .ok (.agg [(.int .i64 (.op .add (.var 3) (.lit 1))),(.int .i64 (.var 3)),(.int .i64 (.var 4)),(.int .i64 (.var 4))]):=by kernel_rfl
theorem aDS:oU Try.prog aF5 = .ok (.tuple [(.agg [(.int .i64 (.var 4)),(.int .i64 (.var 3))]),(.bool (.lit false))]):=by kernel_rfl
end Go.Proofs.Ythiehfhphgkaeaa
set_option maxRecDepth 100000
namespace Go.Proofs.Ythiehfhphgkaeaa
open Go Go.RowKit Sx Wi
def aAv (P:Program) (fs:List B):Res SV:=aDp P fs
def xC:List B:=[]
def jP:B:=(.cmp .le (.lit 0) (.app 53 (.cons (.var 3) (.cons (.var 0) (.cons (.var 1) .nil)))))
def aES:List B:=aU jP++xC
def aER:List B:=aU (B.neg jP)++xC
theorem aFV:aAv Try.prog aES = .ok (.tuple [(.agg []),(.bool (.lit true))]):=by kernel_rfl
theorem aEF:aAv Try.prog aER = .ok (.tuple [(.agg [(.int .i64 (.lit (-1))),(.int .i64 (.app 53 (.cons (.var 3) (.cons (.var 0) (.cons (.var 1) .nil)))))]),(.bool (.lit true))]):=by kernel_rfl
end Go.Proofs.Ythiehfhphgkaeaa
set_option maxRecDepth 100000
namespace Go.Proofs.Ythiehfhphgkaeaa
open Go Go.RowKit Sx Wi
def sW (P:Program) (fs:List B):Res SV:=qX P fs
def yC:List B:=[]
def gE:B:=(.cmp .lt (.var 3) (.var 1))
def aEd:List B:=aU gE++yC
def jK:B:=(.cmp .lt (.op .add (.var 0) (.var 3)) (.var 2))
def xD:List B:=aU jK++aEd
def jM:B:=(.cmp .lt (.lit 3) (.app 84 (.cons (.var 4) (.cons (.op .add (.var 0) (.var 3)) (.cons (.lit 0) .nil)))))
def aFc:List B:=aU jM++xD
def aEB:List B:=aU (B.neg jM)++xD
def aFJ:List B:=aU (B.neg gE)++yC
theorem aFo:sW Try.prog aFc = .ok (.tuple [(.agg [(.int .i64 (.var 3)),(.int .i64 (.app 56 (.cons (.var 3) (.cons (.var 0) (.cons (.var 1) .nil))))),(.int .i64 (.var 4)),(.int .i64 (.var 3))]),(.bool (.lit true))]):=by kernel_rfl
theorem aEp:sW Try.prog aEB = .ok (.agg [(.int .i64 (.op .add (.var 3) (.lit 1))),(.int .i64 (.var 3)),(.int .i64 (.var 4)),(.int .i64 (.var 4))]):=by kernel_rfl
theorem aD8:sW Try.prog aFJ = .ok (.tuple [(.agg [(.int .i64 (.var 4)),(.int .i64 (.var 3))]),(.bool (.lit false))]):=by kernel_rfl
end Go.Proofs.Ythiehfhphgkaeaa
set_option maxRecDepth 100000
namespace Go.Proofs.Ythiehfhphgkaeaa
open Go Go.RowKit Sx Wi
def aAl (P:Program) (fs:List B):Res SV:=aCV P fs
def wX:List B:=[]
def jW:B:=(.cmp .le (.lit 0) (.app 56 (.cons (.var 3) (.cons (.var 0) (.cons (.var 1) .nil)))))
def aEe:List B:=aU jW++wX
def aFb:List B:=aU (B.neg jW)++wX
theorem aFI:aAl Try.prog aEe = .ok (.tuple [(.agg []),(.bool (.lit true))]):=by kernel_rfl
theorem aFK:aAl Try.prog aFb = .ok (.tuple [(.agg [(.int .i64 (.lit (-1))),(.int .i64 (.app 56 (.cons (.var 3) (.cons (.var 0) (.cons (.var 1) .nil)))))]),(.bool (.lit true))]):=by kernel_rfl
end Go.Proofs.Ythiehfhphgkaeaa
namespace Go.Proofs.Ythiehfhphgkaeaa
open Go Go.RowKit Sx Wi
def cU (off n N L:Int) (i:Nat):Nat→Int:=eH ([off,n,N]++[(i:Int),L])
theorem aDh (off n N L:Int) (h0:0≤off∧off≤300) (hn:0≤n∧n≤256) (hN:0≤N∧N≤256) (i:Nat) (hi:(i:Int)≤n):∀ k q,xM[k]?=some q→q.1≤cU off n N L i k∧cU off n N L i k≤q.2:=by
 unfold cU xM
 exact cZ (xs:=[off,n,N,(i:Int)]) (ls:=[L]) (by exact⟨h0,hn,hN,by omega,trivial⟩)
theorem aAB:bA (bZ Try.prog 21)=[cY (bZ Try.prog 21) 0]:=by kernel_rfl
theorem wC {off n N L:Int} (hp:qJ.den G (eH ([off,n,N]++[L]))=true):off+n≤N:=by
 unfold qJ at hp
 simp only[nn,List.cons_append,List.nil_append,Bool.or_eq_true,aZ,ne_eq]at hp
 exact hp
set_option maxHeartbeats 2000000 in
set_option maxRecDepth 100000 in
theorem aJQ (off n N L:Int) (p0:0≤off) (hn:0≤n∧n≤256) (hl:off+n≤N) (hN:N=((Lc.dec L).length:Int)) (i:Nat) (hi:(i:Int)≤n∧i≤bM (aF L off n)):Sx.zL (qY Try.prog) G (cU off n N L i) (bF G (cU off n N L) (eH ([off,n,N]++[L])) 3 aHk.b (fun i=>(i:Int)≤n∧i≤bM (aF L off n)) (fun i=>n.toNat-i) i) []:=by
 refine aR fM (fun h0=>?_) (fun h0=>?_)
 rotate_left
 ·skip
  refine aM aDS ?_
  unfold fM at h0;simp only[nn,cU,List.cons_append,List.nil_append,Bool.or_eq_true,aZ,ne_eq]at h0;have q:=aJU (i:=i) p0 hn (by omega) (by omega) hi.2;simp only[bF];refine⟨?_,bL (by simp),?_⟩;(· show decide ((0:Int)≤G 53 [L,off,n])=false;rw[q];decide);simp only[aP];simp only[nn,cU,List.cons_append,List.nil_append,Bool.or_eq_true,aZ,ne_eq];all_goals ((repeat' refine And.intro ?_ ?_)<;>first|with_reducible rfl|with_reducible trivial)
 refine aR hJ (fun h1=>?_) (fun h1=>?_)
 rotate_left
 ·skip
  refine bS ?_
  unfold fM at h0;unfold hJ at h1;simp only[nn,cU,List.cons_append,List.nil_append,Bool.or_eq_true,aZ,ne_eq]at h0 h1;omega
 refine aR iD (fun h2=>?_) (fun h2=>?_)
 ·skip
  refine aM aF7 ?_
  unfold fM at h0;unfold hJ at h1;unfold iD at h2;simp only[nn,cU,List.cons_append,List.nil_append,Bool.or_eq_true,aZ,ne_eq]at h0 h1 h2;have q:=xH (i:=i) p0 hn (by omega) h0 hi.2 (by first|exact .inl h2|exact .inr h3);simp only[bF];refine⟨?_,bL (by simp),?_⟩;(· show decide ((0:Int)≤G 53 [L,off,n])=true;exact decide_eq_true q.2);simp only[aP];simp only[nn,cU,List.cons_append,List.nil_append,Bool.or_eq_true,aZ,ne_eq];(repeat' refine And.intro ?_ ?_)<;>first|with_reducible exact q.1|with_reducible rfl|with_reducible trivial
 refine aR kA (fun h3=>?_) (fun h3=>?_)
 ·skip
  refine aM aDN ?_
  unfold fM at h0;unfold hJ at h1;unfold iD at h2;unfold kA at h3;simp only[nn,cU,List.cons_append,List.nil_append,Bool.or_eq_true,aZ,ne_eq]at h0 h1 h2 h3;have q:=xH (i:=i) p0 hn (by omega) h0 hi.2 (by first|exact .inl h2|exact .inr h3);simp only[bF];refine⟨?_,bL (by simp),?_⟩;(· show decide ((0:Int)≤G 53 [L,off,n])=true;exact decide_eq_true q.2);simp only[aP];simp only[nn,cU,List.cons_append,List.nil_append,Bool.or_eq_true,aZ,ne_eq];(repeat' refine And.intro ?_ ?_)<;>first|with_reducible exact q.1|with_reducible rfl|with_reducible trivial
 refine aM aFt ?_
 unfold fM at h0;unfold hJ at h1;unfold iD at h2;unfold kA at h3;simp only[nn,cU,List.cons_append,List.nil_append,Bool.or_eq_true,aZ,ne_eq]at h0 h1 h2 h3;have q:=aHG (i:=i) p0 hn (by omega) h0 hi.2 (by omega) (by omega);have hm:n.toNat-(i+1)<n.toNat-i:=(by omega);have hg:((i+1:Nat):Int)≤n:=(by omega);simp only[bF];refine⟨i+1,⟨hg,q⟩,hm,bL (by simp),?_⟩;simp only[aP];clear hm hg q h0 h1 h2 h3;simp only[nn,cU,List.cons_append,List.nil_append,Bool.or_eq_true,aZ,ne_eq];(repeat' refine And.intro ?_ ?_)<;>first|with_reducible rfl|with_reducible trivial|omega
set_option maxRecDepth 100000 in
theorem aJ4 (off n N L:Int) (b0:0≤off∧off≤300) (hn:0≤n∧n≤256) (b2:0≤N∧N≤256) (hl:off+n≤N) (hN:N=((Lc.dec L).length:Int)):fT Try.prog G (bI GB) (cY (bZ Try.prog 21) 0) aH7 (eH ([off,n,N]++[L])):=by
 intro _ _
 have e:eU G (eH ([off,n,N]++[L])) aH7.es=cU off n N L 0:=by
  rw[eA]
  rfl
 rw[e]
 exact⟨n.toNat+1,dI (ι:=Nat) (ρ:=cU off n N L) (ρT:=eH ([off,n,N]++[L])) (m:=fun i=>n.toNat-i) (Good:=fun i=>(i:Int)≤n∧i≤bM (aF L off n)) (run:=qY Try.prog) (fun _=>rfl) fits rfl eL (fun i hi=>aDh off n N L b0 hn b2 i hi.1) (fun _ _ X hX hG=>bQ hX hG) (fun _ _ X hX hG=>cH) (fun i hi=>aJQ off n N L b0.1 hn hl hN i hi) (by decide) (n.toNat+1) 0 ⟨hn.1,Nat.zero_le _⟩ (by show n.toNat-0<n.toNat+1;omega)⟩
set_option maxHeartbeats 1000000 in
set_option maxRecDepth 100000 in
theorem aJW (off n N L:Int) (b0:0≤off∧off≤300) (b1:0≤n∧n≤256) (b2:0≤N∧N≤256) (hp:qJ.den G (eH ([off,n,N]++[L]))=true):eC Try.prog G GB 21 aHe (eH ([off,n,N]++[L])):=by
 refine kR 0 rfl (fun hN=>?_)
 replace hN:N=((Lc.dec L).length:Int):=hN
 have hl:=wC hp
 refine cS (lp:=aIh) (run:=aDp Try.prog) (fun _=>rfl) fits (cZ (xs:=[off,n,N]) (ls:=[L]) (by exact⟨b0,b1,b2,trivial⟩)) eL (fun X hX hG=>bQ hX hG) (fun X hX hG fn c hf hc=>?_) rfl ?_
 ·refine gD ((congrArg bA (hZ hf hc)).symm.trans aAB) ?_
  intro b hb
  simp only[List.mem_cons,List.mem_nil_iff,or_false]at hb
  subst hb
  refine iI hX hG (by kernel_rfl) ?_
  intro p hp'
  simp only[List.mem_cons,List.mem_nil_iff,or_false]at hp'
  subst hp'
  exact aJ4 off n N L b0 b1 b2 hl hN
 ·skip
  refine aR jP (fun h0=>?_) (fun h0=>?_)
  ·skip
   refine aM aFV ?_
   unfold jP at h0;exact⟨rfl,trivial⟩
  refine aM aEF ?_
  unfold jP at h0;have q:=aCK [L,off,n];simp only[nn,List.cons_append,List.nil_append,Bool.or_eq_true,aZ,ne_eq]at h0;simp only[aA5];refine⟨rfl,?_⟩;simp only[aP];simp only[nn,List.cons_append,List.nil_append,Bool.or_eq_true,aZ,ne_eq];refine⟨?_,trivial⟩;have e:G 53 [L,off,n]=aGz [L,off,n]:=rfl;rw[e]at h0 ⊢;omega
def wO:Ctx→List SV→aG→Res (SV × aG):=dH GB qS 1 qJ aHe
theorem aK8 {X:Ctx} {ρ:Nat→Int} (hX:X.Ok ρ) (hG:X.G=G):eY Try.prog X ρ GB 21 wO:=by
 obtain⟨XG,XI,XV,XF⟩:=X
 simp only at hG
 subst hG
 refine cL hX ?_
 intro xs ls hw hl hp
 unfold qS at hw
 obtain⟨x0,y0,e0,b0,h0⟩:=fU hw
 obtain⟨x1,y1,e1,b1,h1⟩:=fU h0
 obtain⟨x2,y2,e2,b2,h2⟩:=fU h1
 have e3:=sZ h2
 subst e3 e2 e1 e0
 obtain⟨l0,rfl⟩:=vA hl
 exact aJW x0 x1 x2 l0 b0 b1 b2 hp
set_option maxHeartbeats 2000000 in
set_option maxRecDepth 100000 in
theorem aJY (off n N L:Int) (p0:0≤off) (hn:0≤n∧n≤256) (hl:off+n≤N) (hN:N=((Lc.dec L).length:Int)) (i:Nat) (hi:(i:Int)≤n∧i≤eB (aF L off n)):Sx.zL (qX Try.prog) G (cU off n N L i) (bF G (cU off n N L) (eH ([off,n,N]++[L])) 3 aIv.b (fun i=>(i:Int)≤n∧i≤eB (aF L off n)) (fun i=>n.toNat-i) i) []:=by
 refine aR gE (fun h0=>?_) (fun h0=>?_)
 rotate_left
 ·skip
  refine aM aD8 ?_
  unfold gE at h0;simp only[nn,cU,List.cons_append,List.nil_append,Bool.or_eq_true,aZ,ne_eq]at h0;have q:=aJv (i:=i) p0 hn (by omega) (by omega) hi.2;simp only[bF];refine⟨?_,bL (by simp),?_⟩;(· show decide ((0:Int)≤G 56 [L,off,n])=false;rw[q];decide);simp only[aP];simp only[nn,cU,List.cons_append,List.nil_append,Bool.or_eq_true,aZ,ne_eq];all_goals ((repeat' refine And.intro ?_ ?_)<;>first|with_reducible rfl|with_reducible trivial)
 refine aR jK (fun h1=>?_) (fun h1=>?_)
 rotate_left
 ·skip
  refine bS ?_
  unfold gE at h0;unfold jK at h1;simp only[nn,cU,List.cons_append,List.nil_append,Bool.or_eq_true,aZ,ne_eq]at h0 h1;omega
 refine aR jM (fun h2=>?_) (fun h2=>?_)
 ·skip
  refine aM aFo ?_
  unfold gE at h0;unfold jK at h1;unfold jM at h2;simp only[nn,cU,List.cons_append,List.nil_append,Bool.or_eq_true,aZ,ne_eq]at h0 h1 h2;have q:=aFA (i:=i) p0 hn (by omega) h0 hi.2 h2;simp only[bF];refine⟨?_,bL (by simp),?_⟩;(· show decide ((0:Int)≤G 56 [L,off,n])=true;exact decide_eq_true q.2);simp only[aP];simp only[nn,cU,List.cons_append,List.nil_append,Bool.or_eq_true,aZ,ne_eq];(repeat' refine And.intro ?_ ?_)<;>first|with_reducible exact q.1|with_reducible rfl|with_reducible trivial
 refine aM aEp ?_
 unfold gE at h0;unfold jK at h1;unfold jM at h2;simp only[nn,cU,List.cons_append,List.nil_append,Bool.or_eq_true,aZ,ne_eq]at h0 h1 h2;have q:=aHw (i:=i) p0 hn (by omega) h0 hi.2 (by omega);have hm:n.toNat-(i+1)<n.toNat-i:=(by omega);have hg:((i+1:Nat):Int)≤n:=(by omega);simp only[bF];refine⟨i+1,⟨hg,q⟩,hm,bL (by simp),?_⟩;simp only[aP];clear hm hg q h0 h1 h2;simp only[nn,cU,List.cons_append,List.nil_append,Bool.or_eq_true,aZ,ne_eq];(repeat' refine And.intro ?_ ?_)<;>first|with_reducible rfl|with_reducible trivial|omega
set_option maxRecDepth 100000 in
theorem aJB (off n N L:Int) (b0:0≤off∧off≤300) (hn:0≤n∧n≤256) (b2:0≤N∧N≤256) (hl:off+n≤N) (hN:N=((Lc.dec L).length:Int)):fT Try.prog G (bI GB) (cY (bZ Try.prog 21) 0) aH3 (eH ([off,n,N]++[L])):=by
 intro _ _
 have e:eU G (eH ([off,n,N]++[L])) aH3.es=cU off n N L 0:=by
  rw[eA]
  rfl
 rw[e]
 exact⟨n.toNat+1,dI (ι:=Nat) (ρ:=cU off n N L) (ρT:=eH ([off,n,N]++[L])) (m:=fun i=>n.toNat-i) (Good:=fun i=>(i:Int)≤n∧i≤eB (aF L off n)) (run:=qX Try.prog) (fun _=>rfl) fits rfl eL (fun i hi=>aDh off n N L b0 hn b2 i hi.1) (fun _ _ X hX hG=>bQ hX hG) (fun _ _ X hX hG=>cH) (fun i hi=>aJY off n N L b0.1 hn hl hN i hi) (by decide) (n.toNat+1) 0 ⟨hn.1,Nat.zero_le _⟩ (by show n.toNat-0<n.toNat+1;omega)⟩
set_option maxHeartbeats 1000000 in
set_option maxRecDepth 100000 in
theorem aI4 (off n N L:Int) (b0:0≤off∧off≤300) (b1:0≤n∧n≤256) (b2:0≤N∧N≤256) (hp:qJ.den G (eH ([off,n,N]++[L]))=true):eC Try.prog G GB 21 aIa (eH ([off,n,N]++[L])):=by
 refine kR 0 rfl (fun hN=>?_)
 replace hN:N=((Lc.dec L).length:Int):=hN
 have hl:=wC hp
 refine cS (lp:=aIk) (run:=aCV Try.prog) (fun _=>rfl) fits (cZ (xs:=[off,n,N]) (ls:=[L]) (by exact⟨b0,b1,b2,trivial⟩)) eL (fun X hX hG=>bQ hX hG) (fun X hX hG fn c hf hc=>?_) rfl ?_
 ·refine gD ((congrArg bA (hZ hf hc)).symm.trans aAB) ?_
  intro b hb
  simp only[List.mem_cons,List.mem_nil_iff,or_false]at hb
  subst hb
  refine iI hX hG (by kernel_rfl) ?_
  intro p hp'
  simp only[List.mem_cons,List.mem_nil_iff,or_false]at hp'
  subst hp'
  exact aJB off n N L b0 b1 b2 hl hN
 ·skip
  refine aR jW (fun h0=>?_) (fun h0=>?_)
  ·skip
   refine aM aFI ?_
   unfold jW at h0;exact⟨rfl,trivial⟩
  refine aM aFK ?_
  unfold jW at h0;have q:=aDj [L,off,n];simp only[nn,List.cons_append,List.nil_append,Bool.or_eq_true,aZ,ne_eq]at h0;simp only[aA5];refine⟨rfl,?_⟩;simp only[aP];simp only[nn,List.cons_append,List.nil_append,Bool.or_eq_true,aZ,ne_eq];refine⟨?_,trivial⟩;have e:G 56 [L,off,n]=aHR [L,off,n]:=rfl;rw[e]at h0 ⊢;omega
def xU:Ctx→List SV→aG→Res (SV × aG):=dH GB qS 1 qJ aIa
theorem aLk {X:Ctx} {ρ:Nat→Int} (hX:X.Ok ρ) (hG:X.G=G):eY Try.prog X ρ GB 21 xU:=by
 obtain⟨XG,XI,XV,XF⟩:=X
 simp only at hG
 subst hG
 refine cL hX ?_
 intro xs ls hw hl hp
 unfold qS at hw
 obtain⟨x0,y0,e0,b0,h0⟩:=fU hw
 obtain⟨x1,y1,e1,b1,h1⟩:=fU h0
 obtain⟨x2,y2,e2,b2,h2⟩:=fU h1
 have e3:=sZ h2
 subst e3 e2 e1 e0
 obtain⟨l0,rfl⟩:=vA hl
 exact aI4 x0 x1 x2 l0 b0 b1 b2 hp
def aBJ (g h:Ctx→List SV→aG→Res (SV × aG)):Ctx→List SV→aG→Res (SV × aG):=fun X args σ=>
 match g X args σ with
 | .fail _=>h X args σ
 |r=>r
theorem aEH {P:Program} {X:Ctx} {ρ:Nat→Int} {gb:cV} {f:FuncId} {g h:Ctx→List SV→aG→Res (SV × aG)} (hg:eY P X ρ gb f g) (hh:eY P X ρ gb f h):eY P X ρ gb f (aBJ g h):=by
 intro args σ s σ' e
 unfold aBJ at e
 split at e
 ·exact hh args σ s σ' e
 ·exact hg args σ s σ' e
def aKq:aY:=iW 21 (aBJ wO xU) cW
theorem aHN {X:Ctx} {ρ:Nat→Int} (hX:X.Ok ρ) (hG:X.G=G):gP Try.prog X ρ GB aKq:=fZ (aEH (aK8 hX hG) (aLk hX hG)) (bQ hX hG)
theorem aHl:bA (bZ Try.prog 16)=[cY (bZ Try.prog 16) 0,cY (bZ Try.prog 16) 1]:=by kernel_rfl
theorem aFL:bA (cY (bZ Try.prog 16) 0)=[cY (bZ Try.prog 16) 1]:=by kernel_rfl
theorem aDJ {off n N L:Int} (hp:zQ.den G (eH ([off,n,N]++[L]))=true):off+n≤N:=by
 unfold zQ at hp
 simp only[nn,List.cons_append,List.nil_append,Bool.or_eq_true,aZ,ne_eq]at hp
 exact hp
set_option maxRecDepth 100000 in
theorem aKS (off n N L:Int) (b0:0≤off∧off≤300) (hn:0≤n∧n≤256) (b2:0≤N∧N≤256) (hl:off+n≤N) (hN:N=((Lc.dec L).length:Int)):fT Try.prog G (bI GB) (cY (bZ Try.prog 16) 0) aK3 (eH ([off,n,N]++[L])):=by
 intro _ _
 have e:eU G (eH ([off,n,N]++[L])) aK3.es=dP off n N L 0:=by
  rw[eA]
  unfold dP
  have z:aF L off ((0:Nat):Int)=[]:=rfl
  have e1:G 51 [L,off,((0:Nat):Int)]=0:=by show (bV (aF L off ((0:Nat):Int))).2.1=0;rw[z];rfl
  have e2:G 52 [L,off,((0:Nat):Int)]=0:=by show (bV (aF L off ((0:Nat):Int))).2.2=0;rw[z];rfl
  have e3:G 57 [L,off,((0:Nat):Int)]=0:=by show min ((bV (aF L off ((0:Nat):Int))).1.length:Int) 19200=0;rw[z];rfl
  have e4:G 50 [L,off,((0:Nat):Int)]=0:=by show Lc.enc (bV (aF L off ((0:Nat):Int))).1=0;rw[z];rfl
  rw[e1,e2,e3,e4]
  rfl
 rw[e]
 refine⟨n.toNat+1,dI (ι:=Nat) (ρ:=dP off n N L) (ρT:=eH ([off,n,N]++[L])) (m:=fun i=>n.toNat-i) (Good:=fun i=>(i:Int)≤n) (run:=vK Try.prog) (fun _=>rfl) fits rfl eL (fun i hi=>aJF off n N L b0 hn b2 i hi) (fun _ _ X hX hG=>bQ hX hG) (fun i hi X hX hG=>?_) (fun i hi=>aKu off n N L b0.1 hn hl hN i hi) (by decide) (n.toNat+1) 0 hn.1 (by show n.toNat-0<n.toNat+1;omega)⟩
 refine gD (bs:=[cY (bZ Try.prog 16) 1]) aFL ?_
 intro b hb
 simp only[List.mem_cons,List.mem_nil_iff,or_false]at hb
 subst hb
 refine iI hX hG (by kernel_rfl) ?_
 intro p hp'
 simp only[List.mem_cons,List.mem_nil_iff,or_false]at hp'
 subst hp'
 exact aK2 off n N L i
set_option maxHeartbeats 1000000 in
set_option maxRecDepth 100000 in
theorem aKz (off n N L:Int) (b0:0≤off∧off≤300) (b1:0≤n∧n≤256) (b2:0≤N∧N≤256) (hp:zQ.den G (eH ([off,n,N]++[L]))=true):eC Try.prog G GB 16 aLa (eH ([off,n,N]++[L])):=by
 refine kR 0 rfl (fun hN=>?_)
 replace hN:N=((Lc.dec L).length:Int):=hN
 have hl:=aDJ hp
 refine cS (lp:=aKh) (run:=aG9 Try.prog) (fun _=>rfl) fits (cZ (xs:=[off,n,N]) (ls:=[L]) (by exact⟨b0,b1,b2,trivial⟩)) eL (fun X hX hG=>bQ hX hG) (fun X hX hG fn c hf hc=>?_) rfl ?_
 ·refine gD ((congrArg bA (hZ hf hc)).symm.trans aHl) ?_
  intro b hb
  simp only[List.mem_cons,List.mem_nil_iff,or_false]at hb
  rcases hb with rfl|rfl
  ·refine iI hX hG (by kernel_rfl) ?_
   intro p hp'
   simp only[List.mem_cons,List.mem_nil_iff,or_false]at hp'
   subst hp'
   exact aKS off n N L b0 b1 b2 hl hN
  ·exact xF (j:=9) (by kernel_rfl) (by decide) aA8
 ·skip
  refine aM aIQ ?_
  exact⟨rfl,trivial⟩
def aAf:Ctx→List SV→aG→Res (SV × aG):=dH GB aCA 1 zQ aLa
theorem aLP {X:Ctx} {ρ:Nat→Int} (hX:X.Ok ρ) (hG:X.G=G):eY Try.prog X ρ GB 16 aAf:=by
 obtain⟨XG,XI,XV,XF⟩:=X
 simp only at hG
 subst hG
 refine cL hX ?_
 intro xs ls hw hl hp
 unfold aCA at hw
 obtain⟨x0,y0,e0,b0,h0⟩:=fU hw
 obtain⟨x1,y1,e1,b1,h1⟩:=fU h0
 obtain⟨x2,y2,e2,b2,h2⟩:=fU h1
 have e3:=sZ h2
 subst e3 e2 e1 e0
 obtain⟨l0,rfl⟩:=vA hl
 exact aKz x0 x1 x2 l0 b0 b1 b2 hp
def aC8:aY:=iW 16 aAf aKq
theorem vC {X:Ctx} {ρ:Nat→Int} (hX:X.Ok ρ) (hG:X.G=G):gP Try.prog X ρ GB aC8:=fZ (aLP hX hG) (aHN hX hG)
def aDf:List (Int × Int):=[(0,256),(0,256),(0,256)]
def aB7:List (Int × Int):=[(0,256)]
def aL5:St:=⟨[(.yld 5),(.ptr 1 0),.any,.any,.any,.any,.any,.any,.any,.any,.any,.any,.any,.any,.any,.any,.any,.any,.any,.any,.any,.any,.any,.any,.any,.any,.any,.any,.any,.any,.any,.any,.any,.any,.any,.any],[some ([.vec [.int .u8,.int .i32,.int .i32,.int .i32,.int .i32,.int .i32,.int .i32] (.var 3) (.var 0) true],aV),some ([(.vsl 0 7 (.var 1) (.op .sub (.var 0) (.var 1)) none)],28),some ([(.con (.slice none 0 0))],24),some ([(.int .i64 (.lit 0))],25),some ([(.own 6 (.var 2) none)],24),some ([.any,.any,(.ptr 2 0),(.ptr 3 0),(.ptr 4 0),.any,.any,.any,.any,.any,.any,.any,.any,.any,.any,.any,.any,.any,.any,.any,.any,.any,.any,.any,.any,.any,.any,.any]++[cP (-1)],bE+9),some ([.tuple [.any,.int .i64 (.lit 1),.bool (.lit false)]],aW+30)]⟩
def aLJ:St:=⟨[.any,.any,.any,.any,.any,.any,.any,.any,.any,.any,.any,.any,.any,.any,.any,.any,.any,.any,.any,.any,.any,.any,.any,.any,.any,.any,.any,.any,.any,.any,.any,.any,.any,.any,.any,.any],[some ([.vec [.int .u8,.int .i32,.int .i32,.int .i32,.int .i32,.int .i32,.int .i32] (.var 1) (.var 0) true],aV),some ([.any],28),some ([(.con (.slice none 0 0))],24),some ([(.int .i64 (.lit 0))],25),some ([(.own 6 (.app 54 (.cons (.var 1) (.cons (.var 0) .nil))) none)],24),some ([.any,.any,(.ptr 2 0),(.ptr 3 0),(.ptr 4 0),.any,.any,.any,.any,.any,.any,.any,.any,.any,.any,.any,.any,.any,.any,.any,.any,.any,.any,.any,.any,.any,.any,.any]++[cP (-1)],bE+9),some ([.tuple [.any,.int .i64 (.lit 1),.bool (.lit false)]],aW+30)]⟩
def aLw:St:=⟨[.any,.any,.any,.any,.any,.any,.any,.any,.any,.any,.any,.any,.any,.any,.any,.any,.any,.any,.any,.any,.any,.any,.any,.any,.any,.any,.any,.any,.any,.any,.any,.any,.any,.any,.any,.any],[some ([.vec [.int .u8,.int .i32,.int .i32,.int .i32,.int .i32,.int .i32,.int .i32] (.var 1) (.var 0) true],aV),some ([.any],28),some ([(.con (.slice none 0 0))],24),some ([(.int .i64 (.lit 4))],25),some ([.any],24),some ([.any,.any,(.ptr 2 0),(.ptr 3 0),(.ptr 4 0),.any,.any,.any,.any,.any,.any,.any,.any,.any,.any,.any,.any,.any,.any,.any,.any,.any,.any,.any,.any,.any,.any,.any]++[cP (0)],bE+9)]⟩
def aK7:LoopS:=⟨1,6,aL5,(.cmp .eq (.app 55 (.cons (.var 1) (.cons (.var 0) .nil))) (.lit 1)),.exit 0,aLJ,.ret,aLw⟩
def aLh:LoopU:=⟨aK7,[.var 0,.lit 0,.lit 0,.var 1],aDf,.lit true⟩
def sS (P:Program) (fs:List B):Res SV:=bU G GI aDf fs fun X=>gL P X GB aC8 dE 4000 (cY (bZ P 20) 0) aK7
def aJ9:eG:=iJ 0 (eZ (bI GB) [aLh]) dE
def aK6:FunS:=⟨[(.yld 5),(.ptr 1 0)],[some ([.vec [.int .u8,.int .i32,.int .i32,.int .i32,.int .i32,.int .i32,.int .i32] (.var 1) (.var 0) true],aV),some ([(.own 0 (.var 0) none)],28),some ([(.con (.slice none 0 0))],24),some ([(.int .i64 (.lit 0))],25),some ([(.con (.slice none 0 0))],24),some ([.any,.any,(.ptr 2 0),(.ptr 3 0),(.ptr 4 0),.any,.any,.any,.any,.any,.any,.any,.any,.any,.any,.any,.any,.any,.any,.any,.any,.any,.any,.any,.any,.any,.any,.any]++[cP (-1)],bE+9)],(.cmp .eq (.app 55 (.cons (.var 1) (.cons (.var 0) .nil))) (.lit 1)),(.tuple []),[some ([.vec [.int .u8,.int .i32,.int .i32,.int .i32,.int .i32,.int .i32,.int .i32] (.var 1) (.var 0) true],aV),some ([.any],28),some ([(.con (.slice none 0 0))],24),some ([(.int .i64 (.lit 0))],25),some ([(.own 6 (.app 54 (.cons (.var 1) (.cons (.var 0) .nil))) none)],24),some ([.any,.any,(.ptr 2 0),(.ptr 3 0),(.ptr 4 0),.any,.any,.any,.any,.any,.any,.any,.any,.any,.any,.any,.any,.any,.any,.any,.any,.any,.any,.any,.any,.any,.any,.any]++[cP (-1)],bE+9),some ([.tuple [.any,.int .i64 (.lit 1),.bool (.lit false)]],aW+30)],(.tuple []),[some ([.vec [.int .u8,.int .i32,.int .i32,.int .i32,.int .i32,.int .i32,.int .i32] (.var 1) (.var 0) true],aV),some ([.any],28),some ([(.con (.slice none 0 0))],24),some ([(.int .i64 (.lit 4))],25),some ([.any],24),some ([.any,.any,(.ptr 2 0),(.ptr 3 0),(.ptr 4 0),.any,.any,.any,.any,.any,.any,.any,.any,.any,.any,.any,.any,.any,.any,.any,.any,.any,.any,.any,.any,.any,.any,.any]++[cP (0)],bE+9)]⟩
def aGs (P:Program) (fs:List B):Res SV:=bU G GI aB7 fs fun X=>fH P X GB aC8 aJ9 4000 20 aK6
end Go.Proofs.Ythiehfhphgkaeaa
set_option maxRecDepth 100000
namespace Go.Proofs.Ythiehfhphgkaeaa
open Go Go.RowKit Sx Wi
def aDa (P:Program) (fs:List B):Res SV:=aGs P fs
def zW:List B:=[]
def mE:B:=(.cmp .eq (.app 55 (.cons (.var 1) (.cons (.var 0) .nil))) (.lit 1))
def aHC:List B:=aU mE++zW
def aIj:List B:=aU (B.neg mE)++zW
theorem aIs:aDa Try.prog aHC = .ok (.tuple [(.agg []),(.bool (.lit true))]):=by kernel_rfl
theorem aIK:aDa Try.prog aIj = .ok (.tuple [(.agg []),(.bool (.lit false))]):=by kernel_rfl
end Go.Proofs.Ythiehfhphgkaeaa
set_option maxRecDepth 100000
namespace Go.Proofs.Ythiehfhphgkaeaa
open Go Go.RowKit Sx Wi
def gZ (P:Program) (fs:List B):Res SV:=sS P fs
def aBq:List B:=[]
def cE:B:=(.cmp .lt (.lit 0) (.op .sub (.var 0) (.var 1)))
def aIC:List B:=aU cE++aBq
def cN:B:=(.cmp .le (.op .add (.op .add (.var 1) (.lit 1)) (.op .sub (.op .sub (.var 0) (.var 1)) (.lit 1))) (.var 0))
def aAK:List B:=aU cN++aIC
def cR:B:=(.cmp .eq (.op .add (.app 53 (.cons (.var 3) (.cons (.op .add (.var 1) (.lit 1)) (.cons (.op .sub (.op .sub (.var 0) (.var 1)) (.lit 1)) .nil)))) (.lit 1)) (.lit 0))
def aIb:List B:=aU cR++aAK
def cO:B:=(.cmp .lt (.var 1) (.var 0))
def aBj:List B:=aU cO++aIb
def cQ:B:=(.cmp .eq (.app 84 (.cons (.var 3) (.cons (.var 1) (.cons (.lit 0) .nil)))) (.lit 0))
def aHg:List B:=aU cQ++aBj
def kH:B:=(.cmp .le (.op .add (.var 1) (.op .sub (.var 0) (.var 1))) (.var 0))
def aAi:List B:=aU kH++aHg
def jV:B:=(.cmp .lt (.app 56 (.cons (.var 3) (.cons (.var 1) (.cons (.op .sub (.var 0) (.var 1)) .nil)))) (.lit 0))
def aGu:List B:=aU jV++aAi
def pN:B:=(.cmp .lt (.lit 0) (.op .sub (.op .sub (.var 0) (.var 1)) (.op .sub (.var 0) (.var 1))))
def aHE:List B:=aU (B.neg pN)++aGu
def aAg:SV:=(.agg [(.int .i64 (.var 3)),(.int .i64 (.var 3)),(.int .i64 (.op .add (.var 1) (.op .sub (.var 0) (.var 1)))),(.int .i64 (.var 1)),(.int .i64 (.op .sub (.op .sub (.var 0) (.var 1)) (.op .sub (.var 0) (.var 1)))),(.int .i64 (.op .sub (.var 0) (.var 1))),(.int .i64 (.op .add (.var 2) (.lit 1))),(.int .i64 (.var 2))])
def aFk:List B:=aU (B.neg jV)++aAi
def aEl:List B:=aU (B.neg cQ)++aBj
def aF3:List B:=aU (B.neg cR)++aAK
def eJ:B:=(.cmp .le (.op .add (.app 53 (.cons (.var 3) (.cons (.op .add (.var 1) (.lit 1)) (.cons (.op .sub (.op .sub (.var 0) (.var 1)) (.lit 1)) .nil)))) (.lit 1)) (.op .sub (.var 0) (.var 1)))
def aEJ:List B:=aU eJ++aF3
def wU:List B:=aU cO++aEJ
def aD7:List B:=aU cQ++wU
def gR:B:=(.cmp .le (.op .add (.var 1) (.op .add (.app 53 (.cons (.var 3) (.cons (.op .add (.var 1) (.lit 1)) (.cons (.op .sub (.op .sub (.var 0) (.var 1)) (.lit 1)) .nil)))) (.lit 1))) (.var 0))
def wI:List B:=aU gR++aD7
def fI:B:=(.cmp .lt (.app 56 (.cons (.var 3) (.cons (.var 1) (.cons (.op .add (.app 53 (.cons (.var 3) (.cons (.op .add (.var 1) (.lit 1)) (.cons (.op .sub (.op .sub (.var 0) (.var 1)) (.lit 1)) .nil)))) (.lit 1)) .nil)))) (.lit 0))
def xQ:List B:=aU fI++wI
def gG:B:=(.cmp .lt (.lit 0) (.op .sub (.op .sub (.var 0) (.var 1)) (.op .add (.app 53 (.cons (.var 3) (.cons (.op .add (.var 1) (.lit 1)) (.cons (.op .sub (.op .sub (.var 0) (.var 1)) (.lit 1)) .nil)))) (.lit 1))))
def aFT:List B:=aU gG++xQ
def jS:B:=(.cmp .lt (.op .add (.var 1) (.op .add (.app 53 (.cons (.var 3) (.cons (.op .add (.var 1) (.lit 1)) (.cons (.op .sub (.op .sub (.var 0) (.var 1)) (.lit 1)) .nil)))) (.lit 1))) (.var 0))
def xG:List B:=aU jS++aFT
def kD:B:=(.cmp .eq (.app 84 (.cons (.var 3) (.cons (.op .add (.var 1) (.op .add (.app 53 (.cons (.var 3) (.cons (.op .add (.var 1) (.lit 1)) (.cons (.op .sub (.op .sub (.var 0) (.var 1)) (.lit 1)) .nil)))) (.lit 1))) (.cons (.lit 0) .nil)))) (.lit 3))
def aDU:List B:=aU kD++xG
def aAO:SV:=(.agg [(.int .i64 (.var 3)),(.int .i64 (.var 3)),(.int .i64 (.op .add (.op .add (.var 1) (.op .add (.app 53 (.cons (.var 3) (.cons (.op .add (.var 1) (.lit 1)) (.cons (.op .sub (.op .sub (.var 0) (.var 1)) (.lit 1)) .nil)))) (.lit 1))) (.lit 1))),(.int .i64 (.var 1)),(.int .i64 (.op .sub (.op .sub (.op .sub (.var 0) (.var 1)) (.op .add (.app 53 (.cons (.var 3) (.cons (.op .add (.var 1) (.lit 1)) (.cons (.op .sub (.op .sub (.var 0) (.var 1)) (.lit 1)) .nil)))) (.lit 1))) (.lit 1))),(.int .i64 (.op .sub (.var 0) (.var 1))),(.int .i64 (.op .add (.var 2) (.lit 1))),(.int .i64 (.var 2))])
def aF0:List B:=aU (B.neg kD)++xG
def pJ:SV:=(.agg [(.int .i64 (.var 3)),(.int .i64 (.var 3)),(.int .i64 (.op .add (.var 1) (.op .add (.app 53 (.cons (.var 3) (.cons (.op .add (.var 1) (.lit 1)) (.cons (.op .sub (.op .sub (.var 0) (.var 1)) (.lit 1)) .nil)))) (.lit 1)))),(.int .i64 (.var 1)),(.int .i64 (.op .sub (.op .sub (.var 0) (.var 1)) (.op .add (.app 53 (.cons (.var 3) (.cons (.op .add (.var 1) (.lit 1)) (.cons (.op .sub (.op .sub (.var 0) (.var 1)) (.lit 1)) .nil)))) (.lit 1)))),(.int .i64 (.op .sub (.var 0) (.var 1))),(.int .i64 (.op .add (.var 2) (.lit 1))),(.int .i64 (.var 2))])
def aE9:List B:=aU (B.neg gG)++xQ
def aDZ:List B:=aU (B.neg fI)++wI
def aEx:List B:=aU (B.neg cQ)++wU
def aEA:List B:=aU (B.neg cE)++aBq
theorem aH9:gZ Try.prog aHE = .ok aAg:=by kernel_rfl
theorem aFW:gZ Try.prog aFk = .ok (.tuple [(.agg [(.int .i64 (.var 3)),(.int .i64 (.var 1))]),(.bool (.lit false))]):=by kernel_rfl
theorem aEj:gZ Try.prog aEl = .ok (.tuple [(.agg [(.int .i64 (.var 3)),(.int .i64 (.var 1))]),(.bool (.lit false))]):=by kernel_rfl
theorem aEc:gZ Try.prog aDU = .ok aAO:=by kernel_rfl
theorem aD4:gZ Try.prog aF0 = .ok pJ:=by kernel_rfl
theorem aDG:gZ Try.prog aE9 = .ok pJ:=by kernel_rfl
theorem aEV:gZ Try.prog aDZ = .ok (.tuple [(.agg [(.int .i64 (.var 3)),(.int .i64 (.var 1))]),(.bool (.lit false))]):=by kernel_rfl
theorem aFj:gZ Try.prog aEx = .ok (.tuple [(.agg [(.int .i64 (.var 3)),(.int .i64 (.var 1))]),(.bool (.lit false))]):=by kernel_rfl
theorem aED:gZ Try.prog aEA = .ok (.tuple [(.agg [(.int .i64 (.var 3)),(.int .i64 (.var 1)),(.int .i64 (.var 2)),(.int .i64 (.app 54 (.cons (.var 1) (.cons (.var 0) .nil))))]),(.bool (.lit true))]):=by kernel_rfl
end Go.Proofs.Ythiehfhphgkaeaa
namespace Go.Proofs.Ythiehfhphgkaeaa
open Go Go.RowKit Sx Wi
theorem oL (l:List (List Int)):(gX l).length≤l.length:=by
 unfold gX;split
 ·split<;>simp
 ·simp
theorem yB {r:List Int} {rs:List (List Int)} (h:sk r=3):gX (r::rs)=rs:=by
 show (if sk r=3 then rs else r::rs)=rs
 rw[if_pos h]
theorem aAj {r:List Int} {rs:List (List Int)} (h:¬sk r=3):gX (r::rs)=r::rs:=by
 show (if sk r=3 then rs else r::rs)=r::rs
 rw[if_neg h]
theorem uJ:∀ (f:Nat) (l:List (List Int)),l.length≤f→dD (f+1) l=dD f l
 |0,[],_=>rfl
 |0,_::_,h=>by simp at h
 |f+1,[],_=>rfl
 |f+1,r::rs,h=>by
  have h1:(gX (rs.drop (bM rs))).length≤f:=by
   have:=oL (rs.drop (bM rs))
   rw[List.length_drop]at this
   simp only[List.length_cons]at h
   omega
  show _::dD (f+1) _=_::dD f _
  rw[uJ f _ h1]
theorem aBD {r:List Int} {rs:List (List Int)} (h:(r::rs).length≤300):dD 300 (r::rs)=(r::rs.take (bM rs))::dD 300 (gX (rs.drop (bM rs))):=by
 have h1:(gX (rs.drop (bM rs))).length≤299:=by
  have:=oL (rs.drop (bM rs))
  rw[List.length_drop]at this
  simp only[List.length_cons]at h
  omega
 show _::dD 299 _=_
 rw[←uJ 299 _ h1]
def eI (L N:Int) (p:Nat × Nat):Prop:=
 (p.1:Int)≤N∧(p.2:Int)+((dD 300 ((aF L 0 N).drop p.1)).length:Int)=G 54 [L,N]∧(dD 300 ((aF L 0 N).drop p.1)).all iU=(dD 300 (aF L 0 N)).all iU
theorem xR {L N:Int} {k:Nat} (h0:0≤N) (hb:N≤256) (hk:(k:Int)≤N):(aF L 0 N).drop k=aF L (k:Int) (N-k):=by
 unfold aF
 rw[List.drop_take,List.drop_drop]
 congr 1
 ·omega
 ·congr 1;omega
theorem aD2 {L N:Int} {off:Nat} (hN:N=((Lc.dec L).length:Int)) (hb:N≤256) (ho:(off:Int)<N):
  (aF L 0 N).drop off=(Lc.dec L).getD off []::aF L ((off:Int)+1) (N-off-1):=by
 rw[xR (by omega) hb (by omega)]
 unfold aF
 rw[show min (N-(off:Int)).toNat 300=min (N-off-1).toNat 300+1 by omega,show ((off:Int)+1).toNat=off+1 by omega,show ((off:Int)).toNat=off by omega]
 rw[List.drop_eq_getElem_cons (show off<(Lc.dec L).length by omega),List.take_succ_cons]
 rw[List.getD_eq_getElem?_getD,List.getElem?_eq_getElem (show off<(Lc.dec L).length by omega)]
 rfl
theorem kK (L:Int) (off:Nat):G 84 [L,(off:Int),0]=sk ((Lc.dec L).getD off []):=by
 have:=pW .u8 L (off:Int) 0
 rw[Int.toNat_natCast]at this
 exact this
section
variable {L N:Int} {off c:Nat}
theorem iH (hN:N=((Lc.dec L).length:Int)) (hb:N≤256) (ho:(off:Int)<N):((aF L ((off:Int)+1) (N-off-1)).length:Int)=N-off-1:=by
 rw[bW (by omega) (by omega) (by omega)]
 omega
theorem aDq (hN:N=((Lc.dec L).length:Int)) (hb:N≤256) (ho:(off:Int)<N) (h:G 53 [L,(off:Int)+1,N-off-1]+1=0):bM (aF L ((off:Int)+1) (N-off-1))=(aF L ((off:Int)+1) (N-off-1)).length:=by
 have e:G 53 [L,(off:Int)+1,N-off-1]=yJ (bM (aF L ((off:Int)+1) (N-off-1))) (aF L ((off:Int)+1) (N-off-1)):=rfl
 have h1:=sM (aF L ((off:Int)+1) (N-off-1))
 rw[e]at h
 unfold yJ at h
 split at h<;>omega
theorem tX (hN:N=((Lc.dec L).length:Int)) (hb:N≤256) (ho:(off:Int)<N) (h:¬G 53 [L,(off:Int)+1,N-off-1]+1=0):
  G 53 [L,(off:Int)+1,N-off-1]=(bM (aF L ((off:Int)+1) (N-off-1)):Int)∧bM (aF L ((off:Int)+1) (N-off-1))<(aF L ((off:Int)+1) (N-off-1)).length:=by
 have e:G 53 [L,(off:Int)+1,N-off-1]=yJ (bM (aF L ((off:Int)+1) (N-off-1))) (aF L ((off:Int)+1) (N-off-1)):=rfl
 rw[e]at h ⊢
 unfold yJ at h ⊢
 split at h
 ·rename_i q;rw[if_pos q];exact⟨rfl,q⟩
 ·omega
theorem aIJ (hN:N=((Lc.dec L).length:Int)) (hb:N≤256) (ho:(off:Int)<N) (k:Nat) (hk:k≤(aF L ((off:Int)+1) (N-off-1)).length):
  aF L (off:Int) ((k:Int)+1)=(Lc.dec L).getD off []::(aF L ((off:Int)+1) (N-off-1)).take k:=by
 have hl:=iH hN hb ho
 unfold aF at hl hk ⊢
 rw[show min ((k:Int)+1).toNat 300=k+1 by omega,show ((off:Int)+1).toNat=off+1 by omega,show ((off:Int)).toNat=off by omega]
 rw[List.drop_eq_getElem_cons (show off<(Lc.dec L).length by omega),List.take_succ_cons,List.take_take]
 rw[List.getD_eq_getElem?_getD,List.getElem?_eq_getElem (show off<(Lc.dec L).length by omega)]
 rw[show min k (min (N-off-1).toNat 300)=k by omega]
 rfl
theorem aAw:∀ l:List (List Int),(eB l=l.length)↔(l.all fun r=>decide (sk r≤3))=true
 |[]=>by simp [eB]
 |r::rs=>by
  have ih:=aAw rs
  by_cases h:3<sk r
  ·have e:eB (r::rs)=0:=by unfold eB;rw[if_pos h]
   rw[e]
   simp only[List.length_cons,List.all_cons,Bool.and_eq_true,decide_eq_true_eq]
   constructor
   ·intro q;omega
   ·intro q;omega
  ·have e:eB (r::rs)=eB rs+1:=by rw[eB,if_neg h]
   rw[e]
   simp only[List.length_cons,List.all_cons,Bool.and_eq_true,decide_eq_true_eq]
   rw[←ih]
   omega
theorem aIP (hN:N=((Lc.dec L).length:Int)) (hb:N≤256) (ho:(off:Int)<N) (k:Nat) (hk:k≤(aF L ((off:Int)+1) (N-off-1)).length):
  iU ((Lc.dec L).getD off []::(aF L ((off:Int)+1) (N-off-1)).take k)=true↔(G 84 [L,(off:Int),0]=0∧G 56 [L,(off:Int),(k:Int)+1]<0):=by
 have e:G 56 [L,(off:Int),(k:Int)+1]=yJ (eB (aF L (off:Int) ((k:Int)+1))) (aF L (off:Int) ((k:Int)+1)):=rfl
 rw[e,kK,aIJ hN hb ho k hk]
 have q:=aAw ((Lc.dec L).getD off []::(aF L ((off:Int)+1) (N-off-1)).take k)
 have q2:=aCT ((Lc.dec L).getD off []::(aF L ((off:Int)+1) (N-off-1)).take k)
 unfold iU
 simp only[Bool.and_eq_true,decide_eq_true_eq]
 rw[←q]
 unfold yJ
 constructor
 ·rintro⟨a,b⟩
  refine⟨a,?_⟩
  rw[b,if_neg (by omega)]
  decide
 ·rintro⟨a,b⟩
  refine⟨a,?_⟩
  split at b<;>omega
theorem aDl (hN:N=((Lc.dec L).length:Int)) (hb:N≤256) (ho:(off:Int)<N):dD 300 ((aF L 0 N).drop off)=
  ((Lc.dec L).getD off []::(aF L ((off:Int)+1) (N-off-1)).take (bM (aF L ((off:Int)+1) (N-off-1))))::dD 300 (gX ((aF L ((off:Int)+1) (N-off-1)).drop (bM (aF L ((off:Int)+1) (N-off-1))))):=by
 rw[aD2 hN hb ho]
 refine aBD ?_
 have:=iH hN hb ho
 simp only[List.length_cons]
 omega
theorem yE (hN:N=((Lc.dec L).length:Int)) (hb:N≤256) (ho:(off:Int)<N) (hg:eI L N (off,c)) {off':Nat} (ho':(off':Int)≤N)
  (hk:G 84 [L,(off:Int),0]=0) {m:Int} (hm:m=(bM (aF L ((off:Int)+1) (N-off-1)):Int)+1) (h56:G 56 [L,(off:Int),m]<0)
  (hd:(aF L 0 N).drop off'=gX ((aF L ((off:Int)+1) (N-off-1)).drop (bM (aF L ((off:Int)+1) (N-off-1))))):eI L N (off',c+1):=by
 obtain⟨g1,g2,g3⟩:=hg
 rw[hm]at h56
 have hs:=(aIP hN hb ho _ (sM _)).2 ⟨hk,h56⟩
 simp only at g2 g3
 rw[aDl hN hb ho]at g2 g3
 refine⟨ho',?_,?_⟩
 ·simp only
  rw[hd]
  simp only[List.length_cons]at g2
  rw[←g2]
  omega
 ·simp only
  rw[hd,←g3,List.all_cons,hs,Bool.true_and]
theorem aG4 (hN:N=((Lc.dec L).length:Int)) (hb:N≤256) (ho:(off:Int)<N) (hg:eI L N (off,c)) {m:Int} (hm:m=(bM (aF L ((off:Int)+1) (N-off-1)):Int)+1)
  (h:¬G 84 [L,(off:Int),0]=0∨¬G 56 [L,(off:Int),m]<0):¬G 55 [L,N]=1:=by
 obtain⟨g1,g2,g3⟩:=hg
 rw[hm]at h
 have hs:iU ((Lc.dec L).getD off []::(aF L ((off:Int)+1) (N-off-1)).take (bM (aF L ((off:Int)+1) (N-off-1))))=false:=by
  rw[Bool.eq_false_iff]
  intro q
  obtain⟨q1,q2⟩:=(aIP hN hb ho _ (sM _)).1 q
  rcases h with h|h
  ·exact h q1
  ·exact h q2
 simp only at g3
 rw[aDl hN hb ho,List.all_cons,hs,Bool.false_and]at g3
 have e:G 55 [L,N]=if (dD 300 (aF L 0 N)).all iU then 1 else 0:=rfl
 rw[e,←g3]
 decide
theorem aKv (hN:N=((Lc.dec L).length:Int)) (hb:N≤256) (ho:¬(off:Int)<N) (hg:eI L N (off,c)):(c:Int)=G 54 [L,N]∧G 55 [L,N]=1:=by
 obtain⟨g1,g2,g3⟩:=hg
 have hd:(aF L 0 N).drop off=[]:=by
  apply List.drop_eq_nil_of_le
  rw[bW (by omega) (by omega) (by omega)]
  simp only at g1
  omega
 simp only[hd]at g2 g3
 have e0:dD 300 []=[]:=rfl
 rw[e0]at g2 g3
 refine⟨by simpa using g2,?_⟩
 have e:G 55 [L,N]=if (dD 300 (aF L 0 N)).all iU then 1 else 0:=rfl
 rw[e,←g3]
 rfl
theorem aGh (hN:N=((Lc.dec L).length:Int)) (hb:N≤256) (ho:(off:Int)<N) (hg:eI L N (off,c)) (hk:G 84 [L,(off:Int),0]=0) (hA:G 53 [L,(off:Int)+1,N-off-1]+1=0) (h56:G 56 [L,(off:Int),N-off]<0):eI L N (N.toNat,c+1):=by
 have hc:=aDq hN hb ho hA
 have hl:=iH hN hb ho
 refine yE hN hb ho hg (by omega) hk (m:=N-off) (by omega) h56 ?_
 rw[hc,List.drop_eq_nil_of_le (Nat.le_refl _),List.drop_eq_nil_of_le (by rw[bW (by omega) (by omega) (by omega)];omega)]
 rfl
theorem aHH (hN:N=((Lc.dec L).length:Int)) (hb:N≤256) (ho:(off:Int)<N) {k:Nat} (hk:k<(aF L ((off:Int)+1) (N-off-1)).length):
  (aF L ((off:Int)+1) (N-off-1)).drop k=(Lc.dec L).getD (off+1+k) []::(aF L 0 N).drop (off+1+k+1)∧(aF L 0 N).drop (off+1+k)=(Lc.dec L).getD (off+1+k) []::(aF L 0 N).drop (off+1+k+1):=by
 have hl:=iH hN hb ho
 have h1:(aF L 0 N).drop (off+1)=aF L ((off:Int)+1) (N-off-1):=by
  rw[xR (by omega) hb (by omega)]
  congr 1;omega
 have hlen:=bW (L:=L) (off:=0) (n:=N) (by omega) (by omega) (by omega)
 have h2:(aF L 0 N).drop (off+1+k)=(Lc.dec L).getD (off+1+k) []::(aF L 0 N).drop (off+1+k+1):=by
  rw[List.drop_eq_getElem_cons (show off+1+k<(aF L 0 N).length by omega)]
  congr 1
  have:=oC (L:=L) (off:=0) (n:=N) (i:=((off+1+k:Nat):Int)) (by omega) (by omega) (by omega)
  rw[Int.zero_add,Int.toNat_natCast,List.getD_eq_getElem?_getD,List.getElem?_eq_getElem (show off+1+k<(aF L 0 N).length by omega)]at this
  exact this
 refine⟨?_,h2⟩
 rw[←h1,List.drop_drop]
 exact h2
theorem uQ (hN:N=((Lc.dec L).length:Int)) (hb:N≤256) (ho:(off:Int)<N) (hg:eI L N (off,c)) (hk:G 84 [L,(off:Int),0]=0) (hB:¬G 53 [L,(off:Int)+1,N-off-1]+1=0) (h56:G 56 [L,(off:Int),G 53 [L,(off:Int)+1,N-off-1]+1]<0):
  let R:=G 53 [L,(off:Int)+1,N-off-1]+1
  0<R∧(off:Int)+R<N∧(G 84 [L,(off:Int)+R,0]=3→eI L N (((off:Int)+R+1).toNat,c+1))∧(¬G 84 [L,(off:Int)+R,0]=3→eI L N (((off:Int)+R).toNat,c+1)):=by
 intro R
 obtain⟨e1,e2⟩:=tX hN hb ho hB
 have hl:=iH hN hb ho
 obtain⟨d1,d2⟩:=aHH hN hb ho e2
 have hR:R=(bM (aF L ((off:Int)+1) (N-off-1)):Int)+1:=by show G 53 _+1=_;rw[e1]
 have eo:(off:Int)+R=((off+1+bM (aF L ((off:Int)+1) (N-off-1)):Nat):Int):=by rw[hR];omega
 have e56:G 56 [L,(off:Int),R]<0:=h56
 refine⟨by omega,by omega,fun h3=>?_,fun h3=>?_⟩
 ·rw[eo,kK]at h3
  refine yE hN hb ho hg (by omega) hk hR e56 ?_
  rw[d1,show ((off:Int)+R+1).toNat=off+1+bM (aF L ((off:Int)+1) (N-off-1))+1 by omega]
  rw[yB h3]
 ·rw[eo,kK]at h3
  refine yE hN hb ho hg (by omega) hk hR e56 ?_
  rw[d1,show ((off:Int)+R).toNat=off+1+bM (aF L ((off:Int)+1) (N-off-1))by omega,d2]
  rw[aAj h3]
theorem tB (hN:N=((Lc.dec L).length:Int)) (hb:N≤256) (ho:(off:Int)<N) (hB:¬G 53 [L,(off:Int)+1,N-off-1]+1=0):0<G 53 [L,(off:Int)+1,N-off-1]+1∧(off:Int)+(G 53 [L,(off:Int)+1,N-off-1]+1)<N:=by
 obtain⟨e1,e2⟩:=tX hN hb ho hB
 have hl:=iH hN hb ho
 omega
theorem aDo (hN:N=((Lc.dec L).length:Int)) (hb:N≤256) (ho:(off:Int)<N) (hg:eI L N (off,c)) (hA:G 53 [L,(off:Int)+1,N-off-1]+1=0) (h:¬G 84 [L,(off:Int),0]=0∨¬G 56 [L,(off:Int),N-off]<0):¬G 55 [L,N]=1:=by
 have hc:=aDq hN hb ho hA
 have hl:=iH hN hb ho
 exact aG4 hN hb ho hg (m:=N-off) (by omega) h
theorem aC2 (hN:N=((Lc.dec L).length:Int)) (hb:N≤256) (ho:(off:Int)<N) (hg:eI L N (off,c)) (hB:¬G 53 [L,(off:Int)+1,N-off-1]+1=0) (h:¬G 84 [L,(off:Int),0]=0∨¬G 56 [L,(off:Int),G 53 [L,(off:Int)+1,N-off-1]+1]<0):¬G 55 [L,N]=1:=by
 obtain⟨e1,e2⟩:=tX hN hb ho hB
 exact aG4 hN hb ho hg (m:=G 53 [L,(off:Int)+1,N-off-1]+1) (by omega) h
theorem wK:∀ (f:Nat) (l:List (List Int)),(dD f l).length≤l.length
 |0,_=>Nat.zero_le _
 |_+1,[]=>Nat.le_refl _
 |f+1,r::rs=>by
  have h1:=wK f (gX (rs.drop (bM rs)))
  have h2:=oL (rs.drop (bM rs))
  rw[List.length_drop]at h2
  simp only[dD,List.length_cons]
  omega
theorem aGI {p:Nat × Nat} (b0:0≤N∧N≤256) (hN:N=((Lc.dec L).length:Int)) (hp:eI L N p):(p.2:Int)≤256:=by
 obtain⟨g1,g2,_⟩:=hp
 have e:G 54 [L,N]=((dD 300 (aF L 0 N)).length:Int):=rfl
 have h1:=wK 300 (aF L 0 N)
 have h2:=bW (L:=L) (off:=0) (n:=N) (by omega) (by omega) (by omega)
 rw[e]at g2
 omega
theorem aIB {L N:Int} (h0:0≤N):eI L N (0,0):=by
 refine⟨by simpa using h0,?_,rfl⟩
 show ((0:Nat):Int)+_=_
 simp only[List.drop_zero]
 exact Int.zero_add _
end
theorem aGM:∀ l:List (List Int),sE (l.take (bM l))=0
 |[]=>rfl
 |r::rs=>by
  by_cases h:sk r=0∨sk r=3
  ·have e:bM (r::rs)=0:=by unfold bM;rw[if_pos h]
   rw[e];rfl
  ·have e:bM (r::rs)=bM rs+1:=by rw[bM,if_neg h]
   rw[e,List.take_succ_cons]
   show sE (rs.take (bM rs))+(if sk r=0 then 1 else 0)=0
   rw[aGM rs,if_neg (fun q=>h (.inl q))]
theorem oE:∀ a b:List (List Int),sE (a++b)=sE a+sE b
 |[],b=>(Nat.zero_add _).symm
 |r::a,b=>by
  show sE (a++b)+_=sE a+_+_
  rw[oE a b];omega
theorem aIo:∀ l:List (List Int),vQ false l=((l.take (bM l)).all (fun r=>decide (sk r≤3)) && vQ false (l.drop (bM l)))
 |[]=>rfl
 |r::rs=>by
  by_cases h:sk r=0∨sk r=3
  ·have e:bM (r::rs)=0:=by unfold bM;rw[if_pos h]
   rw[e];simp
  ·have e:bM (r::rs)=bM rs+1:=by rw[bM,if_neg h]
   have h0:¬sk r=0:=fun q=>h (.inl q)
   have h3:¬sk r=3:=fun q=>h (.inr q)
   rw[e,List.take_succ_cons,List.drop_succ_cons,List.all_cons]
   show (decide (sk r≤3) && (decide (sk r=0) || !false) && vQ (decide (sk r=3)) rs)=_
   rw[decide_eq_false h3,aIo rs]
   simp [Bool.and_assoc]
theorem aDV {l:List (List Int)} {q:List Int} {qs:List (List Int)} (h:l.drop (bM l)=q::qs):sk q=0∨sk q=3:=by
 have hl:bM l<l.length:=by
  rcases Nat.lt_or_ge (bM l) l.length with z|z
  ·exact z
  ·rw[List.drop_eq_nil_of_le z]at h;cases h
 have:=yN hl
 rw[List.drop_eq_getElem_cons hl]at h
 cases h
 rw[List.getD_eq_getElem?_getD,List.getElem?_eq_getElem hl]at this
 exact this
theorem aJi (l:List (List Int)):vQ false (l.drop (bM l))=vQ true (gX (l.drop (bM l)))∧sE (l.drop (bM l))=sE (gX (l.drop (bM l))):=by
 cases h:l.drop (bM l)with
 |nil=>exact⟨rfl,rfl⟩
 |cons q qs=>
  rcases aDV h with e|e
  ·rw[aAj (by omega)]
   refine⟨?_,rfl⟩
   show (decide (sk q≤3) && (decide (sk q=0) || !false) && vQ (decide (sk q=3)) qs)=(decide (sk q≤3) && (decide (sk q=0) || !true) && vQ (decide (sk q=3)) qs)
   rw[e];rfl
  ·rw[yB e]
   refine⟨?_,?_⟩
   ·show (decide (sk q≤3) && (decide (sk q=0) || !false) && vQ (decide (sk q=3)) qs)=_
    rw[e];rfl
   ·show sE qs+(if sk q=0 then 1 else 0)=sE qs
    rw[if_neg (by omega)];rfl
theorem aDt:∀ (f:Nat) (l:List (List Int)),l.length≤f→(dD f l).all iU=vQ true l∧(vQ true l=true→(dD f l).length=sE l)
 |0,[],_=>⟨rfl,fun _=>rfl⟩
 |0,_::_,h=>by simp at h
 |f+1,[],_=>⟨rfl,fun _=>rfl⟩
 |f+1,r::rs,h=>by
  have h1:(gX (rs.drop (bM rs))).length≤f:=by
   have:=oL (rs.drop (bM rs))
   rw[List.length_drop]at this
   simp only[List.length_cons]at h
   omega
  obtain⟨i1,i2⟩:=aDt f _ h1
  obtain⟨s1,s2⟩:=aJi rs
  have eo:vQ true (r::rs)=(iU (r::rs.take (bM rs)) && vQ true (gX (rs.drop (bM rs)))):=by
   show (decide (sk r≤3) && (decide (sk r=0) || !true) && vQ (decide (sk r=3)) rs)=(decide (sk r=0) && ((r::rs.take (bM rs)).all fun r=>decide (sk r≤3)) && _)
   rw[List.all_cons]
   by_cases h0:sk r=0
   ·rw[h0,show decide ((0:Int)=3)=false from rfl,aIo rs,s1]
    simp [Bool.and_assoc]
   ·rw[decide_eq_false h0]
    simp
  refine⟨?_,fun q=>?_⟩
  ·rw[eo]
   show (iU _ && (dD f _).all iU)=_
   rw[i1]
  ·rw[eo,Bool.and_eq_true]at q
   have hr:sk r=0:=by
    have:=q.1
    unfold iU at this
    simp only[Bool.and_eq_true,decide_eq_true_eq]at this
    exact this.1
   show (dD f _).length+1=sE rs+(if sk r=0 then 1 else 0)
   rw[if_pos hr,i2 q.2,←s2]
   have e:sE rs=sE (rs.take (bM rs))+sE (rs.drop (bM rs)):=by rw[←oE,List.take_append_drop]
   rw[e,aGM,Nat.zero_add]
theorem aAh:∀ (p:Bool) (l:List (List Int)) (r:List Int),vQ p (l++[r])=(vQ p l && (decide (sk r≤3) && (decide (sk r=0) || !(if l=[] then p else decide (sk (l.getD (l.length-1) [])=3)))))
 |p,[],r=>by simp [vQ]
 |p,q::l,r=>by
  show (_ && vQ (decide (sk q=3)) (l++[r]))=(_ && vQ (decide (sk q=3)) l && _)
  rw[aAh (decide (sk q=3)) l r]
  cases l with
  |nil=>simp [Bool.and_assoc]
  |cons x xs=>simp [Bool.and_assoc]
theorem sO {L N:Int} (h:0≤N∧N≤300):G 55 [L,N]=(if vQ true (aF L 0 N) then 1 else 0)∧(G 55 [L,N]=1→G 54 [L,N]=G 58 [L,N]):=by
 obtain⟨q1,q2⟩:=aDt 300 (aF L 0 N) (pT L 0 N)
 have e:G 55 [L,N]=if (dD 300 (aF L 0 N)).all iU then 1 else 0:=rfl
 rw[e,q1]
 refine⟨rfl,fun z=>?_⟩
 have hk:vQ true (aF L 0 N)=true:=by
  split at z
  ·assumption
  ·omega
 show (((dD 300 (aF L 0 N)).length:Nat):Int)=((sE (aF L 0 N):Nat):Int)
 rw[q2 hk]
theorem dW {L:Int} {i:Nat} (hi:(i:Int)<300) (hl:(i:Int)<((Lc.dec L).length:Int)):
  G 58 [L,(i:Int)+1]=G 58 [L,(i:Int)]+(if G 84 [L,(i:Int),0]=0 then 1 else 0)∧
  (G 55 [L,(i:Int)+1]=1↔(G 55 [L,(i:Int)]=1∧¬(3<G 84 [L,(i:Int),0]∨(¬G 84 [L,(i:Int),0]=0∧((i:Int)=0∨G 84 [L,(i:Int)-1,0]=3))))):=by
 have es:=gO (L:=L) (off:=0) (i:=(i:Int)) (by omega) ⟨by omega,hi⟩ (by omega)
 rw[Int.zero_add,Int.toNat_natCast]at es
 have hlen:=bW (L:=L) (off:=0) (n:=(i:Int)) (by omega) (by omega) (by omega)
 rw[Int.toNat_natCast]at hlen
 constructor
 ·show ((sE (aF L 0 ((i:Int)+1)):Nat):Int)=((sE (aF L 0 (i:Int)):Nat):Int)+_
  rw[es,oE,kK]
  show ((_+(0+if sk _=0 then 1 else 0):Nat):Int)=_
  split<;>omega
 ·rw[(sO (L:=L) (N:=(i:Int)+1) (by omega)).1,(sO (L:=L) (N:=(i:Int)) (by omega)).1,es,aAh,kK]
  have ep:(if aF L 0 (i:Int)=[] then true else decide (sk ((aF L 0 (i:Int)).getD ((aF L 0 (i:Int)).length-1) [])=3))=decide ((i:Int)=0∨G 84 [L,(i:Int)-1,0]=3):=by
   by_cases h0:i=0
   ·subst h0
    have:aF L 0 ((0:Nat):Int)=[]:=List.eq_nil_of_length_eq_zero hlen
    rw[if_pos this]
    exact(decide_eq_true (.inl rfl)).symm
   ·have hn:¬aF L 0 (i:Int)=[]:=fun q=>by rw[q]at hlen;simp at hlen;omega
    rw[if_neg hn,hlen]
    have g:=oC (L:=L) (off:=0) (n:=(i:Int)) (i:=((i-1:Nat):Int)) (by omega) (by omega) (by omega)
    rw[Int.zero_add,Int.toNat_natCast]at g
    rw[g,show (i:Int)-1=((i-1:Nat):Int)by omega,kK]
    congr 1
    apply propext
    constructor
    ·intro z;exact .inr z
    ·rintro(z|z)
     ·omega
     ·exact z
  rw[ep]
  cases vQ true (aF L 0 (i:Int))
  ·simp
  ·simp only[Bool.true_and,if_true,true_and]
   by_cases a:sk ((Lc.dec L).getD i [])≤3<;>by_cases b:sk ((Lc.dec L).getD i [])=0<;>by_cases c:((i:Int)=0∨G 84 [L,(i:Int)-1,0]=3)<;>simp [a,b,c]<;>omega
end Go.Proofs.Ythiehfhphgkaeaa
