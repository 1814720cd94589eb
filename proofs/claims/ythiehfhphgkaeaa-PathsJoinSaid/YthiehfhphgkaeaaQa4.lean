/- What is proved: the run of a function over its ways,and what is known on each. No condition. -/
import Derived.Test.YthiehfhphgkaeaaQa3
import Derived.Test.YthiehfhphgkaeaaProg
import Derived.Test.YthiehfhphgkaeaaQa1
import Derived.Test.YthiehfhphgkaeaaQg4
set_option linter.unusedSimpArgs false
set_option linter.unusedVariables false
set_option maxRecDepth 100000
namespace Go.Proofs.Ythiehfhphgkaeaa
open Go Go.RowKit Sx Wi
def pZ (P:Program) (fs:List B):Res SV:=sD P fs
def xU:List B:=[]
def fX:B:=(.cmp .lt (.var 3) (.var 1))
def aEB:List B:=bA fX++xU
def iL:B:=(.cmp .lt (.op .add (.var 0) (.var 3)) (.var 2))
def xL:List B:=bA iL++aEB
def iM:B:=(.cmp .eq (.app 84 (.cons (.var 4) (.cons (.op .add (.var 0) (.var 3)) (.cons (.lit 0) .nil)))) (.lit 0))
def aGJ:List B:=bA iM++xL
def yK:List B:=bA (B.neg iM)++xL
def lC:B:=(.cmp .eq (.app 84 (.cons (.var 4) (.cons (.op .add (.var 0) (.var 3)) (.cons (.lit 0) .nil)))) (.lit 3))
def aGd:List B:=bA lC++yK
def aE4:List B:=bA (B.neg lC)++yK
def aGx:List B:=bA (B.neg fX)++xU
theorem aGO:pZ Try.prog aGJ = .ok (.tuple [(.agg [(.int .i64 (.var 3)),(.int .i64 (.app 53 (.cons (.var 3) (.cons (.var 0) (.cons (.var 1) .nil))))),(.int .i64 (.var 4)),(.int .i64 (.var 3))]),(.bool (.lit true))]):=by kernel_rfl
theorem aGq:pZ Try.prog aGd = .ok (.tuple [(.agg [(.int .i64 (.var 3)),(.int .i64 (.app 53 (.cons (.var 3) (.cons (.var 0) (.cons (.var 1) .nil))))),(.int .i64 (.var 4)),(.int .i64 (.var 3))]),(.bool (.lit true))]):=by kernel_rfl
theorem aEV:pZ Try.prog aE4 = .ok (.agg [(.int .i64 (.op .add (.var 3) (.lit 1))),(.int .i64 (.var 3)),(.int .i64 (.var 4)),(.int .i64 (.var 4))]):=by kernel_rfl
theorem aEO:pZ Try.prog aGx = .ok (.tuple [(.agg [(.int .i64 (.var 4)),(.int .i64 (.var 3))]),(.bool (.lit false))]):=by kernel_rfl
end Go.Proofs.Ythiehfhphgkaeaa
set_option maxRecDepth 100000
namespace Go.Proofs.Ythiehfhphgkaeaa
open Go Go.RowKit Sx Wi
def aAK (P:Program) (fs:List B):Res SV:=aDX P fs
def yW:List B:=[]
def kD:B:=(.cmp .le (.lit 0) (.app 53 (.cons (.var 3) (.cons (.var 0) (.cons (.var 1) .nil)))))
def aE0:List B:=bA kD++yW
def aFA:List B:=bA (B.neg kD)++yW
theorem aGg:aAK Try.prog aE0 = .ok (.tuple [(.agg []),(.bool (.lit true))]):=by kernel_rfl
theorem aEz:aAK Try.prog aFA = .ok (.tuple [(.agg [(.int .i64 (.lit (-1))),(.int .i64 (.app 53 (.cons (.var 3) (.cons (.var 0) (.cons (.var 1) .nil)))))]),(.bool (.lit true))]):=by kernel_rfl
end Go.Proofs.Ythiehfhphgkaeaa
set_option maxRecDepth 100000
namespace Go.Proofs.Ythiehfhphgkaeaa
open Go Go.RowKit Sx Wi
def uH (P:Program) (fs:List B):Res SV:=qR P fs
def xT:List B:=[]
def gS:B:=(.cmp .lt (.var 3) (.var 1))
def aEt:List B:=bA gS++xT
def kW:B:=(.cmp .lt (.op .add (.var 0) (.var 3)) (.var 2))
def yC:List B:=bA kW++aEt
def kG:B:=(.cmp .lt (.lit 3) (.app 84 (.cons (.var 4) (.cons (.op .add (.var 0) (.var 3)) (.cons (.lit 0) .nil)))))
def aEG:List B:=bA kG++yC
def aED:List B:=bA (B.neg kG)++yC
def aGv:List B:=bA (B.neg gS)++xT
theorem aFx:uH Try.prog aEG = .ok (.tuple [(.agg [(.int .i64 (.var 3)),(.int .i64 (.app 56 (.cons (.var 3) (.cons (.var 0) (.cons (.var 1) .nil))))),(.int .i64 (.var 4)),(.int .i64 (.var 3))]),(.bool (.lit true))]):=by kernel_rfl
theorem aFM:uH Try.prog aED = .ok (.agg [(.int .i64 (.op .add (.var 3) (.lit 1))),(.int .i64 (.var 3)),(.int .i64 (.var 4)),(.int .i64 (.var 4))]):=by kernel_rfl
theorem aGC:uH Try.prog aGv = .ok (.tuple [(.agg [(.int .i64 (.var 4)),(.int .i64 (.var 3))]),(.bool (.lit false))]):=by kernel_rfl
end Go.Proofs.Ythiehfhphgkaeaa
set_option maxRecDepth 100000
namespace Go.Proofs.Ythiehfhphgkaeaa
open Go Go.RowKit Sx Wi
def aBw (P:Program) (fs:List B):Res SV:=aDU P fs
def yL:List B:=[]
def kT:B:=(.cmp .le (.lit 0) (.app 56 (.cons (.var 3) (.cons (.var 0) (.cons (.var 1) .nil)))))
def aGb:List B:=bA kT++yL
def aG3:List B:=bA (B.neg kT)++yL
theorem aGZ:aBw Try.prog aGb = .ok (.tuple [(.agg []),(.bool (.lit true))]):=by kernel_rfl
theorem aEU:aBw Try.prog aG3 = .ok (.tuple [(.agg [(.int .i64 (.lit (-1))),(.int .i64 (.app 56 (.cons (.var 3) (.cons (.var 0) (.cons (.var 1) .nil)))))]),(.bool (.lit true))]):=by kernel_rfl
end Go.Proofs.Ythiehfhphgkaeaa
namespace Go.Proofs.Ythiehfhphgkaeaa
open Go Go.RowKit Sx Wi
def dF (off n N L:Int) (i:Nat):Nat→Int:=eT ([off,n,N]++[(i:Int),L])
theorem aEg (off n N L:Int) (h0:0≤off∧off≤300) (hn:0≤n∧n≤256) (hN:0≤N∧N≤256) (i:Nat) (hi:(i:Int)≤n):∀ k q,yD[k]?=some q→q.1≤dF off n N L i k∧dF off n N L i k≤q.2:=by
 unfold dF yD
 exact cQ (xs:=[off,n,N,(i:Int)]) (ls:=[L]) (by exact⟨h0,hn,hN,by omega,trivial⟩)
theorem aBy:bB (cH Try.prog 21)=[dJ (cH Try.prog 21) 0]:=by kernel_rfl
theorem yO {off n N L:Int} (hp:sF.den G (eT ([off,n,N]++[L]))=true):off+n≤N:=by
 unfold sF at hp
 simp only[nn,List.cons_append,List.nil_append,Bool.or_eq_true,bF,ne_eq]at hp
 exact hp
set_option maxHeartbeats 2000000 in
set_option maxRecDepth 100000 in
theorem aLs (off n N L:Int) (p0:0≤off) (hn:0≤n∧n≤256) (hl:off+n≤N) (hN:N=((Lc.dec L).length:Int)) (i:Nat) (hi:(i:Int)≤n∧i≤aX (aF L off n)):Sx.Way (sD Try.prog) G (dF off n N L i) (bV G (dF off n N L) (eT ([off,n,N]++[L])) 3 aJC.b (fun i=>(i:Int)≤n∧i≤aX (aF L off n)) (fun i=>n.toNat-i) i) []:=by
 refine aS fX (fun h0=>?_) (fun h0=>?_)
 rotate_left
 ·skip
  refine aQ aEO ?_
  unfold fX at h0;simp only[nn,dF,List.cons_append,List.nil_append,Bool.or_eq_true,bF,ne_eq]at h0;have q:=aLo (i:=i) p0 hn (by omega) (by omega) hi.2;simp only[bV];refine⟨?_,cJ (by simp),?_⟩;(· show decide ((0:Int)≤G 53 [L,off,n])=false;rw[q];decide);simp only[aR];simp only[nn,dF,List.cons_append,List.nil_append,Bool.or_eq_true,bF,ne_eq];all_goals ((repeat' refine And.intro ?_ ?_)<;>first|with_reducible rfl|with_reducible trivial)
 refine aS iL (fun h1=>?_) (fun h1=>?_)
 rotate_left
 ·skip
  refine bI ?_
  unfold fX at h0;unfold iL at h1;simp only[nn,dF,List.cons_append,List.nil_append,Bool.or_eq_true,bF,ne_eq]at h0 h1;omega
 refine aS iM (fun h2=>?_) (fun h2=>?_)
 ·skip
  refine aQ aGO ?_
  unfold fX at h0;unfold iL at h1;unfold iM at h2;simp only[nn,dF,List.cons_append,List.nil_append,Bool.or_eq_true,bF,ne_eq]at h0 h1 h2;have q:=yA (i:=i) p0 hn (by omega) h0 hi.2 (by first|exact .inl h2|exact .inr h3);simp only[bV];refine⟨?_,cJ (by simp),?_⟩;(· show decide ((0:Int)≤G 53 [L,off,n])=true;exact decide_eq_true q.2);simp only[aR];simp only[nn,dF,List.cons_append,List.nil_append,Bool.or_eq_true,bF,ne_eq];(repeat' refine And.intro ?_ ?_)<;>first|with_reducible exact q.1|with_reducible rfl|with_reducible trivial
 refine aS lC (fun h3=>?_) (fun h3=>?_)
 ·skip
  refine aQ aGq ?_
  unfold fX at h0;unfold iL at h1;unfold iM at h2;unfold lC at h3;simp only[nn,dF,List.cons_append,List.nil_append,Bool.or_eq_true,bF,ne_eq]at h0 h1 h2 h3;have q:=yA (i:=i) p0 hn (by omega) h0 hi.2 (by first|exact .inl h2|exact .inr h3);simp only[bV];refine⟨?_,cJ (by simp),?_⟩;(· show decide ((0:Int)≤G 53 [L,off,n])=true;exact decide_eq_true q.2);simp only[aR];simp only[nn,dF,List.cons_append,List.nil_append,Bool.or_eq_true,bF,ne_eq];(repeat' refine And.intro ?_ ?_)<;>first|with_reducible exact q.1|with_reducible rfl|with_reducible trivial
 refine aQ aEV ?_
 unfold fX at h0;unfold iL at h1;unfold iM at h2;unfold lC at h3;simp only[nn,dF,List.cons_append,List.nil_append,Bool.or_eq_true,bF,ne_eq]at h0 h1 h2 h3;have q:=aJ9 (i:=i) p0 hn (by omega) h0 hi.2 (by omega) (by omega);have hm:n.toNat-(i+1)<n.toNat-i:=(by omega);have hg:((i+1:Nat):Int)≤n:=(by omega);simp only[bV];refine⟨i+1,⟨hg,q⟩,hm,cJ (by simp),?_⟩;simp only[aR];clear hm hg q h0 h1 h2 h3;simp only[nn,dF,List.cons_append,List.nil_append,Bool.or_eq_true,bF,ne_eq];(repeat' refine And.intro ?_ ?_)<;>first|with_reducible rfl|with_reducible trivial|omega
set_option maxRecDepth 100000 in
theorem aKn (off n N L:Int) (b0:0≤off∧off≤300) (hn:0≤n∧n≤256) (b2:0≤N∧N≤256) (hl:off+n≤N) (hN:N=((Lc.dec L).length:Int)):iJ Try.prog G (bO GB) (dJ (cH Try.prog 21) 0) aH9 (eT ([off,n,N]++[L])):=by
 intro _ _
 have e:fK G (eT ([off,n,N]++[L])) aH9.es=dF off n N L 0:=by
  rw[eM]
  rfl
 rw[e]
 exact⟨n.toNat+1,dT (ι:=Nat) (ρ:=dF off n N L) (ρT:=eT ([off,n,N]++[L])) (m:=fun i=>n.toNat-i) (Good:=fun i=>(i:Int)≤n∧i≤aX (aF L off n)) (run:=sD Try.prog) (fun _=>rfl) fits rfl eK (fun i hi=>aEg off n N L b0 hn b2 i hi.1) (fun _ _ X hX hG=>bN hX hG) (fun _ _ X hX hG=>cO) (fun i hi=>aLs off n N L b0.1 hn hl hN i hi) (by decide) (n.toNat+1) 0 ⟨hn.1,Nat.zero_le _⟩ (by show n.toNat-0<n.toNat+1;omega)⟩
set_option maxHeartbeats 1000000 in
set_option maxRecDepth 100000 in
theorem aLi (off n N L:Int) (b0:0≤off∧off≤300) (b1:0≤n∧n≤256) (b2:0≤N∧N≤256) (hp:sF.den G (eT ([off,n,N]++[L]))=true):dW Try.prog G GB 21 aHC (eT ([off,n,N]++[L])):=by
 refine lX 0 rfl (fun hN=>?_)
 replace hN:N=((Lc.dec L).length:Int):=hN
 have hl:=yO hp
 refine cP (lp:=aG8) (run:=aDX Try.prog) (fun _=>rfl) fits (cQ (xs:=[off,n,N]) (ls:=[L]) (by exact⟨b0,b1,b2,trivial⟩)) eK (fun X hX hG=>bN hX hG) (fun X hX hG fn c hf hc=>?_) rfl ?_
 ·refine fT ((congrArg bB (gU hf hc)).symm.trans aBy) ?_
  intro b hb
  simp only[List.mem_cons,List.mem_nil_iff,or_false]at hb
  subst hb
  refine iB hX hG (by kernel_rfl) ?_
  intro p hp'
  simp only[List.mem_cons,List.mem_nil_iff,or_false]at hp'
  subst hp'
  exact aKn off n N L b0 b1 b2 hl hN
 ·skip
  refine aS kD (fun h0=>?_) (fun h0=>?_)
  ·skip
   refine aQ aGg ?_
   unfold kD at h0;exact⟨rfl,trivial⟩
  refine aQ aEz ?_
  unfold kD at h0;have q:=aEn [L,off,n];simp only[nn,List.cons_append,List.nil_append,Bool.or_eq_true,bF,ne_eq]at h0;simp only[aB8];refine⟨rfl,?_⟩;simp only[aR];simp only[nn,List.cons_append,List.nil_append,Bool.or_eq_true,bF,ne_eq];refine⟨?_,trivial⟩;have e:G 53 [L,off,n]=aII [L,off,n]:=rfl;rw[e]at h0 ⊢;omega
def yM:Ctx→List SV→aG→Res (SV × aG):=dL GB rT 1 sF aHC
theorem aL7 {X:Ctx} {ρ:Nat→Int} (hX:X.Ok ρ) (hG:X.G=G):eZ Try.prog X ρ GB 21 yM:=by
 obtain⟨XG,XI,XV,XF⟩:=X
 simp only at hG
 subst hG
 refine cL hX ?_
 intro xs ls hw hl hp
 unfold rT at hw
 obtain⟨x0,y0,e0,b0,h0⟩:=eF hw
 obtain⟨x1,y1,e1,b1,h1⟩:=eF h0
 obtain⟨x2,y2,e2,b2,h2⟩:=eF h1
 have e3:=oS h2
 subst e3 e2 e1 e0
 obtain⟨l0,rfl⟩:=rX hl
 exact aLi x0 x1 x2 l0 b0 b1 b2 hp
set_option maxHeartbeats 2000000 in
set_option maxRecDepth 100000 in
theorem aKr (off n N L:Int) (p0:0≤off) (hn:0≤n∧n≤256) (hl:off+n≤N) (hN:N=((Lc.dec L).length:Int)) (i:Nat) (hi:(i:Int)≤n∧i≤eN (aF L off n)):Sx.Way (qR Try.prog) G (dF off n N L i) (bV G (dF off n N L) (eT ([off,n,N]++[L])) 3 aH8.b (fun i=>(i:Int)≤n∧i≤eN (aF L off n)) (fun i=>n.toNat-i) i) []:=by
 refine aS gS (fun h0=>?_) (fun h0=>?_)
 rotate_left
 ·skip
  refine aQ aGC ?_
  unfold gS at h0;simp only[nn,dF,List.cons_append,List.nil_append,Bool.or_eq_true,bF,ne_eq]at h0;have q:=aK1 (i:=i) p0 hn (by omega) (by omega) hi.2;simp only[bV];refine⟨?_,cJ (by simp),?_⟩;(· show decide ((0:Int)≤G 56 [L,off,n])=false;rw[q];decide);simp only[aR];simp only[nn,dF,List.cons_append,List.nil_append,Bool.or_eq_true,bF,ne_eq];all_goals ((repeat' refine And.intro ?_ ?_)<;>first|with_reducible rfl|with_reducible trivial)
 refine aS kW (fun h1=>?_) (fun h1=>?_)
 rotate_left
 ·skip
  refine bI ?_
  unfold gS at h0;unfold kW at h1;simp only[nn,dF,List.cons_append,List.nil_append,Bool.or_eq_true,bF,ne_eq]at h0 h1;omega
 refine aS kG (fun h2=>?_) (fun h2=>?_)
 ·skip
  refine aQ aFx ?_
  unfold gS at h0;unfold kW at h1;unfold kG at h2;simp only[nn,dF,List.cons_append,List.nil_append,Bool.or_eq_true,bF,ne_eq]at h0 h1 h2;have q:=aF0 (i:=i) p0 hn (by omega) h0 hi.2 h2;simp only[bV];refine⟨?_,cJ (by simp),?_⟩;(· show decide ((0:Int)≤G 56 [L,off,n])=true;exact decide_eq_true q.2);simp only[aR];simp only[nn,dF,List.cons_append,List.nil_append,Bool.or_eq_true,bF,ne_eq];(repeat' refine And.intro ?_ ?_)<;>first|with_reducible exact q.1|with_reducible rfl|with_reducible trivial
 refine aQ aFM ?_
 unfold gS at h0;unfold kW at h1;unfold kG at h2;simp only[nn,dF,List.cons_append,List.nil_append,Bool.or_eq_true,bF,ne_eq]at h0 h1 h2;have q:=aIA (i:=i) p0 hn (by omega) h0 hi.2 (by omega);have hm:n.toNat-(i+1)<n.toNat-i:=(by omega);have hg:((i+1:Nat):Int)≤n:=(by omega);simp only[bV];refine⟨i+1,⟨hg,q⟩,hm,cJ (by simp),?_⟩;simp only[aR];clear hm hg q h0 h1 h2;simp only[nn,dF,List.cons_append,List.nil_append,Bool.or_eq_true,bF,ne_eq];(repeat' refine And.intro ?_ ?_)<;>first|with_reducible rfl|with_reducible trivial|omega
set_option maxRecDepth 100000 in
theorem aLn (off n N L:Int) (b0:0≤off∧off≤300) (hn:0≤n∧n≤256) (b2:0≤N∧N≤256) (hl:off+n≤N) (hN:N=((Lc.dec L).length:Int)):iJ Try.prog G (bO GB) (dJ (cH Try.prog 21) 0) aHw (eT ([off,n,N]++[L])):=by
 intro _ _
 have e:fK G (eT ([off,n,N]++[L])) aHw.es=dF off n N L 0:=by
  rw[eM]
  rfl
 rw[e]
 exact⟨n.toNat+1,dT (ι:=Nat) (ρ:=dF off n N L) (ρT:=eT ([off,n,N]++[L])) (m:=fun i=>n.toNat-i) (Good:=fun i=>(i:Int)≤n∧i≤eN (aF L off n)) (run:=qR Try.prog) (fun _=>rfl) fits rfl eK (fun i hi=>aEg off n N L b0 hn b2 i hi.1) (fun _ _ X hX hG=>bN hX hG) (fun _ _ X hX hG=>cO) (fun i hi=>aKr off n N L b0.1 hn hl hN i hi) (by decide) (n.toNat+1) 0 ⟨hn.1,Nat.zero_le _⟩ (by show n.toNat-0<n.toNat+1;omega)⟩
set_option maxHeartbeats 1000000 in
set_option maxRecDepth 100000 in
theorem aKs (off n N L:Int) (b0:0≤off∧off≤300) (b1:0≤n∧n≤256) (b2:0≤N∧N≤256) (hp:sF.den G (eT ([off,n,N]++[L]))=true):dW Try.prog G GB 21 aHI (eT ([off,n,N]++[L])):=by
 refine lX 0 rfl (fun hN=>?_)
 replace hN:N=((Lc.dec L).length:Int):=hN
 have hl:=yO hp
 refine cP (lp:=aHo) (run:=aDU Try.prog) (fun _=>rfl) fits (cQ (xs:=[off,n,N]) (ls:=[L]) (by exact⟨b0,b1,b2,trivial⟩)) eK (fun X hX hG=>bN hX hG) (fun X hX hG fn c hf hc=>?_) rfl ?_
 ·refine fT ((congrArg bB (gU hf hc)).symm.trans aBy) ?_
  intro b hb
  simp only[List.mem_cons,List.mem_nil_iff,or_false]at hb
  subst hb
  refine iB hX hG (by kernel_rfl) ?_
  intro p hp'
  simp only[List.mem_cons,List.mem_nil_iff,or_false]at hp'
  subst hp'
  exact aLn off n N L b0 b1 b2 hl hN
 ·skip
  refine aS kT (fun h0=>?_) (fun h0=>?_)
  ·skip
   refine aQ aGZ ?_
   unfold kT at h0;exact⟨rfl,trivial⟩
  refine aQ aEU ?_
  unfold kT at h0;have q:=aDu [L,off,n];simp only[nn,List.cons_append,List.nil_append,Bool.or_eq_true,bF,ne_eq]at h0;simp only[aB8];refine⟨rfl,?_⟩;simp only[aR];simp only[nn,List.cons_append,List.nil_append,Bool.or_eq_true,bF,ne_eq];refine⟨?_,trivial⟩;have e:G 56 [L,off,n]=aIf [L,off,n]:=rfl;rw[e]at h0 ⊢;omega
def xY:Ctx→List SV→aG→Res (SV × aG):=dL GB rT 1 sF aHI
theorem aLT {X:Ctx} {ρ:Nat→Int} (hX:X.Ok ρ) (hG:X.G=G):eZ Try.prog X ρ GB 21 xY:=by
 obtain⟨XG,XI,XV,XF⟩:=X
 simp only at hG
 subst hG
 refine cL hX ?_
 intro xs ls hw hl hp
 unfold rT at hw
 obtain⟨x0,y0,e0,b0,h0⟩:=eF hw
 obtain⟨x1,y1,e1,b1,h1⟩:=eF h0
 obtain⟨x2,y2,e2,b2,h2⟩:=eF h1
 have e3:=oS h2
 subst e3 e2 e1 e0
 obtain⟨l0,rfl⟩:=rX hl
 exact aKs x0 x1 x2 l0 b0 b1 b2 hp
def aC4 (g h:Ctx→List SV→aG→Res (SV × aG)):Ctx→List SV→aG→Res (SV × aG):=fun X args σ=>
 match g X args σ with
 | .fail _=>h X args σ
 |r=>r
theorem aGV {P:Program} {X:Ctx} {ρ:Nat→Int} {gb:dG} {f:FuncId} {g h:Ctx→List SV→aG→Res (SV × aG)} (hg:eZ P X ρ gb f g) (hh:eZ P X ρ gb f h):eZ P X ρ gb f (aC4 g h):=by
 intro args σ s σ' e
 unfold aC4 at e
 split at e
 ·exact hh args σ s σ' e
 ·exact hg args σ s σ' e
def aLB:aZ:=gG 21 (aC4 yM xY) cU
theorem aJc {X:Ctx} {ρ:Nat→Int} (hX:X.Ok ρ) (hG:X.G=G):gW Try.prog X ρ GB aLB:=eE (aGV (aL7 hX hG) (aLT hX hG)) (bN hX hG)
theorem aJq:bB (cH Try.prog 16)=[dJ (cH Try.prog 16) 0,dJ (cH Try.prog 16) 1]:=by kernel_rfl
theorem aG0:bB (dJ (cH Try.prog 16) 0)=[dJ (cH Try.prog 16) 1]:=by kernel_rfl
theorem aFO {off n N L:Int} (hp:zT.den G (eT ([off,n,N]++[L]))=true):off+n≤N:=by
 unfold zT at hp
 simp only[nn,List.cons_append,List.nil_append,Bool.or_eq_true,bF,ne_eq]at hp
 exact hp
set_option maxRecDepth 100000 in
theorem aMz (off n N L:Int) (b0:0≤off∧off≤300) (hn:0≤n∧n≤256) (b2:0≤N∧N≤256) (hl:off+n≤N) (hN:N=((Lc.dec L).length:Int)):iJ Try.prog G (bO GB) (dJ (cH Try.prog 16) 0) aLU (eT ([off,n,N]++[L])):=by
 intro _ _
 have e:fK G (eT ([off,n,N]++[L])) aLU.es=eG off n N L 0:=by
  rw[eM]
  unfold eG
  have z:aF L off ((0:Nat):Int)=[]:=rfl
  have e1:G 51 [L,off,((0:Nat):Int)]=0:=by show (cA (aF L off ((0:Nat):Int))).2.1=0;rw[z];rfl
  have e2:G 52 [L,off,((0:Nat):Int)]=0:=by show (cA (aF L off ((0:Nat):Int))).2.2=0;rw[z];rfl
  have e3:G 57 [L,off,((0:Nat):Int)]=0:=by show min ((cA (aF L off ((0:Nat):Int))).1.length:Int) 19200=0;rw[z];rfl
  have e4:G 50 [L,off,((0:Nat):Int)]=0:=by show Lc.enc (cA (aF L off ((0:Nat):Int))).1=0;rw[z];rfl
  rw[e1,e2,e3,e4]
  rfl
 rw[e]
 refine⟨n.toNat+1,dT (ι:=Nat) (ρ:=eG off n N L) (ρT:=eT ([off,n,N]++[L])) (m:=fun i=>n.toNat-i) (Good:=fun i=>(i:Int)≤n) (run:=wT Try.prog) (fun _=>rfl) fits rfl eK (fun i hi=>aK2 off n N L b0 hn b2 i hi) (fun _ _ X hX hG=>bN hX hG) (fun i hi X hX hG=>?_) (fun i hi=>aMq off n N L b0.1 hn hl hN i hi) (by decide) (n.toNat+1) 0 hn.1 (by show n.toNat-0<n.toNat+1;omega)⟩
 refine fT (bs:=[dJ (cH Try.prog 16) 1]) aG0 ?_
 intro b hb
 simp only[List.mem_cons,List.mem_nil_iff,or_false]at hb
 subst hb
 refine iB hX hG (by kernel_rfl) ?_
 intro p hp'
 simp only[List.mem_cons,List.mem_nil_iff,or_false]at hp'
 subst hp'
 exact aMx off n N L i
set_option maxHeartbeats 1000000 in
set_option maxRecDepth 100000 in
theorem aLZ (off n N L:Int) (b0:0≤off∧off≤300) (b1:0≤n∧n≤256) (b2:0≤N∧N≤256) (hp:zT.den G (eT ([off,n,N]++[L]))=true):dW Try.prog G GB 16 aLP (eT ([off,n,N]++[L])):=by
 refine lX 0 rfl (fun hN=>?_)
 replace hN:N=((Lc.dec L).length:Int):=hN
 have hl:=aFO hp
 refine cP (lp:=aLw) (run:=aH6 Try.prog) (fun _=>rfl) fits (cQ (xs:=[off,n,N]) (ls:=[L]) (by exact⟨b0,b1,b2,trivial⟩)) eK (fun X hX hG=>bN hX hG) (fun X hX hG fn c hf hc=>?_) rfl ?_
 ·refine fT ((congrArg bB (gU hf hc)).symm.trans aJq) ?_
  intro b hb
  simp only[List.mem_cons,List.mem_nil_iff,or_false]at hb
  rcases hb with rfl|rfl
  ·refine iB hX hG (by kernel_rfl) ?_
   intro p hp'
   simp only[List.mem_cons,List.mem_nil_iff,or_false]at hp'
   subst hp'
   exact aMz off n N L b0 b1 b2 hl hN
  ·exact yR (j:=9) (by kernel_rfl) (by decide) aB7
 ·skip
  refine aQ aIk ?_
  exact⟨rfl,trivial⟩
def aBF:Ctx→List SV→aG→Res (SV × aG):=dL GB aCy 1 zT aLP
theorem aMR {X:Ctx} {ρ:Nat→Int} (hX:X.Ok ρ) (hG:X.G=G):eZ Try.prog X ρ GB 16 aBF:=by
 obtain⟨XG,XI,XV,XF⟩:=X
 simp only at hG
 subst hG
 refine cL hX ?_
 intro xs ls hw hl hp
 unfold aCy at hw
 obtain⟨x0,y0,e0,b0,h0⟩:=eF hw
 obtain⟨x1,y1,e1,b1,h1⟩:=eF h0
 obtain⟨x2,y2,e2,b2,h2⟩:=eF h1
 have e3:=oS h2
 subst e3 e2 e1 e0
 obtain⟨l0,rfl⟩:=rX hl
 exact aLZ x0 x1 x2 l0 b0 b1 b2 hp
def aEj:aZ:=gG 16 aBF aLB
theorem uG {X:Ctx} {ρ:Nat→Int} (hX:X.Ok ρ) (hG:X.G=G):gW Try.prog X ρ GB aEj:=eE (aMR hX hG) (aJc hX hG)
def aDE:List (Int × Int):=[(0,256),(0,256),(0,256)]
def aCB:List (Int × Int):=[(0,256)]
def aNJ:St:=⟨[(.yld 5),(.ptr 1 0),.any,.any,.any,.any,.any,.any,.any,.any,.any,.any,.any,.any,.any,.any,.any,.any,.any,.any,.any,.any,.any,.any,.any,.any,.any,.any,.any,.any,.any,.any,.any,.any,.any,.any],[some ([.vec [.int .u8,.int .i32,.int .i32,.int .i32,.int .i32,.int .i32,.int .i32] (.var 4) (.var 0) true],bC),some ([(.vsl 0 7 (.var 1) (.op .sub (.var 0) (.var 1)) none)],28),some ([(.con (.slice none 0 0))],24),some ([(.int .i64 (.lit 0))],25),some ([(.own 6 (.var 2) none)],24),some ([.any,.any,(.ptr 2 0),(.ptr 3 0),(.ptr 4 0),.any,.any,.any,.any,.any,.any,.any,.any,.any,.any,.any,.any,.any,.any,.any,.any,.any,.any,.any,.any,.any,.any,.any]++[dB (-1)],bG+9),some ([.lol 6 [.int .i64,.int .i64] (.var 3) (.var 2)],aL+30)]⟩
def aM7:St:=⟨[.any,.any,.any,.any,.any,.any,.any,.any,.any,.any,.any,.any,.any,.any,.any,.any,.any,.any,.any,.any,.any,.any,.any,.any,.any,.any,.any,.any,.any,.any,.any,.any,.any,.any,.any,.any],[some ([.vec [.int .u8,.int .i32,.int .i32,.int .i32,.int .i32,.int .i32,.int .i32] (.var 1) (.var 0) true],bC),some ([.any],28),some ([(.con (.slice none 0 0))],24),some ([(.int .i64 (.lit 0))],25),some ([(.own 6 (.app 54 (.cons (.var 1) (.cons (.var 0) .nil))) none)],24),some ([.any,.any,(.ptr 2 0),(.ptr 3 0),(.ptr 4 0),.any,.any,.any,.any,.any,.any,.any,.any,.any,.any,.any,.any,.any,.any,.any,.any,.any,.any,.any,.any,.any,.any,.any]++[dB (-1)],bG+9),some ([.lol 6 [.int .i64,.int .i64] (.app 61 (.cons (.var 1) (.cons (.var 0) .nil))) (.app 54 (.cons (.var 1) (.cons (.var 0) .nil)))],aL+30)]⟩
def aM0:St:=⟨[.any,.any,.any,.any,.any,.any,.any,.any,.any,.any,.any,.any,.any,.any,.any,.any,.any,.any,.any,.any,.any,.any,.any,.any,.any,.any,.any,.any,.any,.any,.any,.any,.any,.any,.any,.any],[some ([.vec [.int .u8,.int .i32,.int .i32,.int .i32,.int .i32,.int .i32,.int .i32] (.var 1) (.var 0) true],bC),some ([.any],28),some ([(.con (.slice none 0 0))],24),some ([(.int .i64 (.lit 4))],25),some ([.any],24),some ([.any,.any,(.ptr 2 0),(.ptr 3 0),(.ptr 4 0),.any,.any,.any,.any,.any,.any,.any,.any,.any,.any,.any,.any,.any,.any,.any,.any,.any,.any,.any,.any,.any,.any,.any]++[dB (0)],bG+9)]⟩
def aMo:LoopS:=⟨1,6,aNJ,(.cmp .eq (.app 55 (.cons (.var 1) (.cons (.var 0) .nil))) (.lit 1)),.exit 0,aM7,.ret,aM0⟩
def aMe:LoopU:=⟨aMo,[.var 0,.lit 0,.lit 0,.lit 0,.var 1],aDE,.lit true⟩
def vT (P:Program) (fs:List B):Res SV:=bW G GI aDE fs fun X=>gZ P X GB aEj dK 4000 (dJ (cH P 20) 0) aMo
def aLD:eJ:=iD 0 (fC (bO GB) [aMe]) dK
def aL6:FunS:=⟨[(.yld 5),(.ptr 1 0)],[some ([.vec [.int .u8,.int .i32,.int .i32,.int .i32,.int .i32,.int .i32,.int .i32] (.var 1) (.var 0) true],bC),some ([(.own 0 (.var 0) none)],28),some ([(.con (.slice none 0 0))],24),some ([(.int .i64 (.lit 0))],25),some ([(.con (.slice none 0 0))],24),some ([.any,.any,(.ptr 2 0),(.ptr 3 0),(.ptr 4 0),.any,.any,.any,.any,.any,.any,.any,.any,.any,.any,.any,.any,.any,.any,.any,.any,.any,.any,.any,.any,.any,.any,.any]++[dB (-1)],bG+9)],(.cmp .eq (.app 55 (.cons (.var 1) (.cons (.var 0) .nil))) (.lit 1)),(.tuple []),[some ([.vec [.int .u8,.int .i32,.int .i32,.int .i32,.int .i32,.int .i32,.int .i32] (.var 1) (.var 0) true],bC),some ([.any],28),some ([(.con (.slice none 0 0))],24),some ([(.int .i64 (.lit 0))],25),some ([(.own 6 (.app 54 (.cons (.var 1) (.cons (.var 0) .nil))) none)],24),some ([.any,.any,(.ptr 2 0),(.ptr 3 0),(.ptr 4 0),.any,.any,.any,.any,.any,.any,.any,.any,.any,.any,.any,.any,.any,.any,.any,.any,.any,.any,.any,.any,.any,.any,.any]++[dB (-1)],bG+9),some ([.lol 6 [.int .i64,.int .i64] (.app 61 (.cons (.var 1) (.cons (.var 0) .nil))) (.app 54 (.cons (.var 1) (.cons (.var 0) .nil)))],aL+30)],(.tuple []),[some ([.vec [.int .u8,.int .i32,.int .i32,.int .i32,.int .i32,.int .i32,.int .i32] (.var 1) (.var 0) true],bC),some ([.any],28),some ([(.con (.slice none 0 0))],24),some ([(.int .i64 (.lit 4))],25),some ([.any],24),some ([.any,.any,(.ptr 2 0),(.ptr 3 0),(.ptr 4 0),.any,.any,.any,.any,.any,.any,.any,.any,.any,.any,.any,.any,.any,.any,.any,.any,.any,.any,.any,.any,.any,.any,.any]++[dB (0)],bG+9)]⟩
def aHg (P:Program) (fs:List B):Res SV:=bW G GI aCB fs fun X=>fB P X GB aEj aLD 4000 20 aL6
end Go.Proofs.Ythiehfhphgkaeaa
set_option maxRecDepth 100000
namespace Go.Proofs.Ythiehfhphgkaeaa
open Go Go.RowKit Sx Wi
def aD7 (P:Program) (fs:List B):Res SV:=aHg P fs
def aBr:List B:=[]
def mM:B:=(.cmp .eq (.app 55 (.cons (.var 1) (.cons (.var 0) .nil))) (.lit 1))
def aHq:List B:=bA mM++aBr
def aIn:List B:=bA (B.neg mM)++aBr
theorem aKe:aD7 Try.prog aHq = .ok (.tuple [(.agg []),(.bool (.lit true))]):=by kernel_rfl
theorem aIJ:aD7 Try.prog aIn = .ok (.tuple [(.agg []),(.bool (.lit false))]):=by kernel_rfl
end Go.Proofs.Ythiehfhphgkaeaa
set_option maxRecDepth 100000
namespace Go.Proofs.Ythiehfhphgkaeaa
open Go Go.RowKit Sx Wi
def iI (P:Program) (fs:List B):Res SV:=vT P fs
def aBo:List B:=[]
def cS:B:=(.cmp .lt (.lit 0) (.op .sub (.var 0) (.var 1)))
def aIL:List B:=bA cS++aBo
def dC:B:=(.cmp .le (.op .add (.op .add (.var 1) (.lit 1)) (.op .sub (.op .sub (.var 0) (.var 1)) (.lit 1))) (.var 0))
def aBg:List B:=bA dC++aIL
def dA:B:=(.cmp .eq (.op .add (.app 53 (.cons (.var 4) (.cons (.op .add (.var 1) (.lit 1)) (.cons (.op .sub (.op .sub (.var 0) (.var 1)) (.lit 1)) .nil)))) (.lit 1)) (.lit 0))
def aJ7:List B:=bA dA++aBg
def dD:B:=(.cmp .lt (.var 1) (.var 0))
def aBO:List B:=bA dD++aJ7
def dE:B:=(.cmp .eq (.app 84 (.cons (.var 4) (.cons (.var 1) (.cons (.lit 0) .nil)))) (.lit 0))
def aIo:List B:=bA dE++aBO
def kP:B:=(.cmp .le (.op .add (.var 1) (.op .sub (.var 0) (.var 1))) (.var 0))
def aBE:List B:=bA kP++aIo
def kV:B:=(.cmp .lt (.app 56 (.cons (.var 4) (.cons (.var 1) (.cons (.op .sub (.var 0) (.var 1)) .nil)))) (.lit 0))
def aHp:List B:=bA kV++aBE
def pH:B:=(.cmp .lt (.lit 0) (.op .sub (.op .sub (.var 0) (.var 1)) (.op .sub (.var 0) (.var 1))))
def aHj:List B:=bA (B.neg pH)++aHp
def aBt:SV:=(.agg [(.int .i64 (.var 4)),(.int .i64 (.var 4)),(.int .i64 (.op .add (.var 1) (.op .sub (.var 0) (.var 1)))),(.int .i64 (.var 1)),(.int .i64 (.op .sub (.op .sub (.var 0) (.var 1)) (.op .sub (.var 0) (.var 1)))),(.int .i64 (.op .sub (.var 0) (.var 1))),(.int .i64 (.op .add (.var 2) (.lit 1))),(.int .i64 (.var 2)),(.int .i64 (.app 91 (.cons (.var 3) (.cons (.app 50 (.cons (.var 4) (.cons (.var 1) (.cons (.op .sub (.var 0) (.var 1)) .nil)))) .nil)))),(.int .i64 (.var 3)),(.int .i64 (.op .add (.var 2) (.lit 1))),(.int .i64 (.var 2))])
def aFd:List B:=bA (B.neg kV)++aBE
def aGQ:List B:=bA (B.neg dE)++aBO
def aFv:List B:=bA (B.neg dA)++aBg
def eU:B:=(.cmp .le (.op .add (.app 53 (.cons (.var 4) (.cons (.op .add (.var 1) (.lit 1)) (.cons (.op .sub (.op .sub (.var 0) (.var 1)) (.lit 1)) .nil)))) (.lit 1)) (.op .sub (.var 0) (.var 1)))
def aGI:List B:=bA eU++aFv
def zE:List B:=bA dD++aGI
def aFN:List B:=bA dE++zE
def iA:B:=(.cmp .le (.op .add (.var 1) (.op .add (.app 53 (.cons (.var 4) (.cons (.op .add (.var 1) (.lit 1)) (.cons (.op .sub (.op .sub (.var 0) (.var 1)) (.lit 1)) .nil)))) (.lit 1))) (.var 0))
def xP:List B:=bA iA++aFN
def fU:B:=(.cmp .lt (.app 56 (.cons (.var 4) (.cons (.var 1) (.cons (.op .add (.app 53 (.cons (.var 4) (.cons (.op .add (.var 1) (.lit 1)) (.cons (.op .sub (.op .sub (.var 0) (.var 1)) (.lit 1)) .nil)))) (.lit 1)) .nil)))) (.lit 0))
def yT:List B:=bA fU++xP
def gN:B:=(.cmp .lt (.lit 0) (.op .sub (.op .sub (.var 0) (.var 1)) (.op .add (.app 53 (.cons (.var 4) (.cons (.op .add (.var 1) (.lit 1)) (.cons (.op .sub (.op .sub (.var 0) (.var 1)) (.lit 1)) .nil)))) (.lit 1))))
def aF2:List B:=bA gN++yT
def kH:B:=(.cmp .lt (.op .add (.var 1) (.op .add (.app 53 (.cons (.var 4) (.cons (.op .add (.var 1) (.lit 1)) (.cons (.op .sub (.op .sub (.var 0) (.var 1)) (.lit 1)) .nil)))) (.lit 1))) (.var 0))
def yU:List B:=bA kH++aF2
def kO:B:=(.cmp .eq (.app 84 (.cons (.var 4) (.cons (.op .add (.var 1) (.op .add (.app 53 (.cons (.var 4) (.cons (.op .add (.var 1) (.lit 1)) (.cons (.op .sub (.op .sub (.var 0) (.var 1)) (.lit 1)) .nil)))) (.lit 1))) (.cons (.lit 0) .nil)))) (.lit 3))
def aGc:List B:=bA kO++yU
def aA0:SV:=(.agg [(.int .i64 (.var 4)),(.int .i64 (.var 4)),(.int .i64 (.op .add (.op .add (.var 1) (.op .add (.app 53 (.cons (.var 4) (.cons (.op .add (.var 1) (.lit 1)) (.cons (.op .sub (.op .sub (.var 0) (.var 1)) (.lit 1)) .nil)))) (.lit 1))) (.lit 1))),(.int .i64 (.var 1)),(.int .i64 (.op .sub (.op .sub (.op .sub (.var 0) (.var 1)) (.op .add (.app 53 (.cons (.var 4) (.cons (.op .add (.var 1) (.lit 1)) (.cons (.op .sub (.op .sub (.var 0) (.var 1)) (.lit 1)) .nil)))) (.lit 1))) (.lit 1))),(.int .i64 (.op .sub (.var 0) (.var 1))),(.int .i64 (.op .add (.var 2) (.lit 1))),(.int .i64 (.var 2)),(.int .i64 (.app 91 (.cons (.var 3) (.cons (.app 50 (.cons (.var 4) (.cons (.var 1) (.cons (.op .add (.app 53 (.cons (.var 4) (.cons (.op .add (.var 1) (.lit 1)) (.cons (.op .sub (.op .sub (.var 0) (.var 1)) (.lit 1)) .nil)))) (.lit 1)) .nil)))) .nil)))),(.int .i64 (.var 3)),(.int .i64 (.op .add (.var 2) (.lit 1))),(.int .i64 (.var 2))])
def aGF:List B:=bA (B.neg kO)++yU
def qA:SV:=(.agg [(.int .i64 (.var 4)),(.int .i64 (.var 4)),(.int .i64 (.op .add (.var 1) (.op .add (.app 53 (.cons (.var 4) (.cons (.op .add (.var 1) (.lit 1)) (.cons (.op .sub (.op .sub (.var 0) (.var 1)) (.lit 1)) .nil)))) (.lit 1)))),(.int .i64 (.var 1)),(.int .i64 (.op .sub (.op .sub (.var 0) (.var 1)) (.op .add (.app 53 (.cons (.var 4) (.cons (.op .add (.var 1) (.lit 1)) (.cons (.op .sub (.op .sub (.var 0) (.var 1)) (.lit 1)) .nil)))) (.lit 1)))),(.int .i64 (.op .sub (.var 0) (.var 1))),(.int .i64 (.op .add (.var 2) (.lit 1))),(.int .i64 (.var 2)),(.int .i64 (.app 91 (.cons (.var 3) (.cons (.app 50 (.cons (.var 4) (.cons (.var 1) (.cons (.op .add (.app 53 (.cons (.var 4) (.cons (.op .add (.var 1) (.lit 1)) (.cons (.op .sub (.op .sub (.var 0) (.var 1)) (.lit 1)) .nil)))) (.lit 1)) .nil)))) .nil)))),(.int .i64 (.var 3)),(.int .i64 (.op .add (.var 2) (.lit 1))),(.int .i64 (.var 2))])
def aFk:List B:=bA (B.neg gN)++yT
def aEH:List B:=bA (B.neg fU)++xP
def aGt:List B:=bA (B.neg dE)++zE
def aGw:List B:=bA (B.neg cS)++aBo
def aBR:SV:=(.tuple [(.agg [(.int .i64 (.var 4)),(.int .i64 (.var 1)),(.int .i64 (.var 2)),(.int .i64 (.app 54 (.cons (.var 1) (.cons (.var 0) .nil)))),(.int .i64 (.var 3)),(.int .i64 (.app 61 (.cons (.var 1) (.cons (.var 0) .nil)))),(.int .i64 (.var 2)),(.int .i64 (.app 54 (.cons (.var 1) (.cons (.var 0) .nil))))]),(.bool (.lit true))])
theorem aJG:iI Try.prog aHj = .ok aBt:=by kernel_rfl
theorem aGe:iI Try.prog aFd = .ok (.tuple [(.agg [(.int .i64 (.var 4)),(.int .i64 (.var 1))]),(.bool (.lit false))]):=by kernel_rfl
theorem aFB:iI Try.prog aGQ = .ok (.tuple [(.agg [(.int .i64 (.var 4)),(.int .i64 (.var 1))]),(.bool (.lit false))]):=by kernel_rfl
theorem aGp:iI Try.prog aGc = .ok aA0:=by kernel_rfl
theorem aEY:iI Try.prog aGF = .ok qA:=by kernel_rfl
theorem aFa:iI Try.prog aFk = .ok qA:=by kernel_rfl
theorem aGL:iI Try.prog aEH = .ok (.tuple [(.agg [(.int .i64 (.var 4)),(.int .i64 (.var 1))]),(.bool (.lit false))]):=by kernel_rfl
theorem aGM:iI Try.prog aGt = .ok (.tuple [(.agg [(.int .i64 (.var 4)),(.int .i64 (.var 1))]),(.bool (.lit false))]):=by kernel_rfl
theorem aGl:iI Try.prog aGw = .ok aBR:=by kernel_rfl
end Go.Proofs.Ythiehfhphgkaeaa
namespace Go.Proofs.Ythiehfhphgkaeaa
open Go Go.RowKit Sx Wi
theorem kR (l:List (List Int)):(eA l).length≤l.length:=by
 unfold eA;split
 ·split<;>simp
 ·simp
theorem gQ {r:List Int} {rs:List (List Int)} (h:sk r=3):eA (r::rs)=rs:=by
 show (if sk r=3 then rs else r::rs)=rs
 rw[if_pos h]
theorem iY {r:List Int} {rs:List (List Int)} (h:¬sk r=3):eA (r::rs)=r::rs:=by
 show (if sk r=3 then rs else r::rs)=r::rs
 rw[if_neg h]
theorem lN:∀ (f:Nat) (l:List (List Int)),l.length≤f→bH (f+1) l=bH f l
 |0,[],_=>rfl
 |0,_::_,h=>by simp at h
 |f+1,[],_=>rfl
 |f+1,r::rs,h=>by
  have h1:(eA (rs.drop (aX rs))).length≤f:=by
   have:=kR (rs.drop (aX rs))
   rw[List.length_drop]at this
   simp only[List.length_cons]at h
   omega
  show _::bH (f+1) _=_::bH f _
  rw[lN f _ h1]
theorem aDk {r:List Int} {rs:List (List Int)} (h:(r::rs).length≤300):bH 300 (r::rs)=(r::rs.take (aX rs))::bH 300 (eA (rs.drop (aX rs))):=by
 have h1:(eA (rs.drop (aX rs))).length≤299:=by
  have:=kR (rs.drop (aX rs))
  rw[List.length_drop]at this
  simp only[List.length_cons]at h
  omega
 show _::bH 299 _=_
 rw[←lN 299 _ h1]
def gJ (L N:Int) (p:Nat × Nat):Prop:=
 (p.1:Int)≤N∧(p.2:Int)+((bH 300 ((aF L 0 N).drop p.1)).length:Int)=G 54 [L,N]∧(bH 300 ((aF L 0 N).drop p.1)).all jM=(bH 300 (aF L 0 N)).all jM
theorem xH {L N:Int} {k:Nat} (h0:0≤N) (hb:N≤256) (hk:(k:Int)≤N):(aF L 0 N).drop k=aF L (k:Int) (N-k):=by
 unfold aF
 rw[List.drop_take,List.drop_drop]
 congr 1
 ·omega
 ·congr 1;omega
theorem aFR {L N:Int} {off:Nat} (hN:N=((Lc.dec L).length:Int)) (hb:N≤256) (ho:(off:Int)<N):
  (aF L 0 N).drop off=(Lc.dec L).getD off []::aF L ((off:Int)+1) (N-off-1):=by
 rw[xH (by omega) hb (by omega)]
 unfold aF
 rw[show min (N-(off:Int)).toNat 300=min (N-off-1).toNat 300+1 by omega,show ((off:Int)+1).toNat=off+1 by omega,show ((off:Int)).toNat=off by omega]
 rw[List.drop_eq_getElem_cons (show off<(Lc.dec L).length by omega),List.take_succ_cons]
 rw[List.getD_eq_getElem?_getD,List.getElem?_eq_getElem (show off<(Lc.dec L).length by omega)]
 rfl
theorem kL (L:Int) (off:Nat):G 84 [L,(off:Int),0]=sk ((Lc.dec L).getD off []):=by
 have:=qN .u8 L (off:Int) 0
 rw[Int.toNat_natCast]at this
 exact this
section
variable {L N:Int} {off c:Nat}
theorem gF (hN:N=((Lc.dec L).length:Int)) (hb:N≤256) (ho:(off:Int)<N):((aF L ((off:Int)+1) (N-off-1)).length:Int)=N-off-1:=by
 rw[bX (by omega) (by omega) (by omega)]
 omega
theorem aAl (hN:N=((Lc.dec L).length:Int)) (hb:N≤256) (ho:(off:Int)<N) (h:G 53 [L,(off:Int)+1,N-off-1]+1=0):aX (aF L ((off:Int)+1) (N-off-1))=(aF L ((off:Int)+1) (N-off-1)).length:=by
 have e:G 53 [L,(off:Int)+1,N-off-1]=idx (aX (aF L ((off:Int)+1) (N-off-1))) (aF L ((off:Int)+1) (N-off-1)):=rfl
 have h1:=lV (aF L ((off:Int)+1) (N-off-1))
 rw[e]at h
 unfold idx at h
 split at h<;>omega
theorem pL (hN:N=((Lc.dec L).length:Int)) (hb:N≤256) (ho:(off:Int)<N) (h:¬G 53 [L,(off:Int)+1,N-off-1]+1=0):
  G 53 [L,(off:Int)+1,N-off-1]=(aX (aF L ((off:Int)+1) (N-off-1)):Int)∧aX (aF L ((off:Int)+1) (N-off-1))<(aF L ((off:Int)+1) (N-off-1)).length:=by
 have e:G 53 [L,(off:Int)+1,N-off-1]=idx (aX (aF L ((off:Int)+1) (N-off-1))) (aF L ((off:Int)+1) (N-off-1)):=rfl
 rw[e]at h ⊢
 unfold idx at h ⊢
 split at h
 ·rename_i q;rw[if_pos q];exact⟨rfl,q⟩
 ·omega
theorem aAZ (hN:N=((Lc.dec L).length:Int)) (hb:N≤256) (ho:(off:Int)<N) (k:Nat) (hk:k≤(aF L ((off:Int)+1) (N-off-1)).length):
  aF L (off:Int) ((k:Int)+1)=(Lc.dec L).getD off []::(aF L ((off:Int)+1) (N-off-1)).take k:=by
 have hl:=gF hN hb ho
 unfold aF at hl hk ⊢
 rw[show min ((k:Int)+1).toNat 300=k+1 by omega,show ((off:Int)+1).toNat=off+1 by omega,show ((off:Int)).toNat=off by omega]
 rw[List.drop_eq_getElem_cons (show off<(Lc.dec L).length by omega),List.take_succ_cons,List.take_take]
 rw[List.getD_eq_getElem?_getD,List.getElem?_eq_getElem (show off<(Lc.dec L).length by omega)]
 rw[show min k (min (N-off-1).toNat 300)=k by omega]
 rfl
theorem aB4:∀ l:List (List Int),(eN l=l.length)↔(l.all fun r=>decide (sk r≤3))=true
 |[]=>by simp [eN]
 |r::rs=>by
  have ih:=aB4 rs
  by_cases h:3<sk r
  ·have e:eN (r::rs)=0:=by unfold eN;rw[if_pos h]
   rw[e]
   simp only[List.length_cons,List.all_cons,Bool.and_eq_true,decide_eq_true_eq]
   constructor
   ·intro q;omega
   ·intro q;omega
  ·have e:eN (r::rs)=eN rs+1:=by rw[eN,if_neg h]
   rw[e]
   simp only[List.length_cons,List.all_cons,Bool.and_eq_true,decide_eq_true_eq]
   rw[←ih]
   omega
theorem aIF (hN:N=((Lc.dec L).length:Int)) (hb:N≤256) (ho:(off:Int)<N) (k:Nat) (hk:k≤(aF L ((off:Int)+1) (N-off-1)).length):
  jM ((Lc.dec L).getD off []::(aF L ((off:Int)+1) (N-off-1)).take k)=true↔(G 84 [L,(off:Int),0]=0∧G 56 [L,(off:Int),(k:Int)+1]<0):=by
 have e:G 56 [L,(off:Int),(k:Int)+1]=idx (eN (aF L (off:Int) ((k:Int)+1))) (aF L (off:Int) ((k:Int)+1)):=rfl
 rw[e,kL,aAZ hN hb ho k hk]
 have q:=aB4 ((Lc.dec L).getD off []::(aF L ((off:Int)+1) (N-off-1)).take k)
 have q2:=aDF ((Lc.dec L).getD off []::(aF L ((off:Int)+1) (N-off-1)).take k)
 unfold jM
 simp only[Bool.and_eq_true,decide_eq_true_eq]
 rw[←q]
 unfold idx
 constructor
 ·rintro⟨a,b⟩
  refine⟨a,?_⟩
  rw[b,if_neg (by omega)]
  decide
 ·rintro⟨a,b⟩
  refine⟨a,?_⟩
  split at b<;>omega
theorem zQ (hN:N=((Lc.dec L).length:Int)) (hb:N≤256) (ho:(off:Int)<N):bH 300 ((aF L 0 N).drop off)=
  ((Lc.dec L).getD off []::(aF L ((off:Int)+1) (N-off-1)).take (aX (aF L ((off:Int)+1) (N-off-1))))::bH 300 (eA ((aF L ((off:Int)+1) (N-off-1)).drop (aX (aF L ((off:Int)+1) (N-off-1))))):=by
 rw[aFR hN hb ho]
 refine aDk ?_
 have:=gF hN hb ho
 simp only[List.length_cons]
 omega
theorem zR (hN:N=((Lc.dec L).length:Int)) (hb:N≤256) (ho:(off:Int)<N) (hg:gJ L N (off,c)) {off':Nat} (ho':(off':Int)≤N)
  (hk:G 84 [L,(off:Int),0]=0) {m:Int} (hm:m=(aX (aF L ((off:Int)+1) (N-off-1)):Int)+1) (h56:G 56 [L,(off:Int),m]<0)
  (hd:(aF L 0 N).drop off'=eA ((aF L ((off:Int)+1) (N-off-1)).drop (aX (aF L ((off:Int)+1) (N-off-1))))):gJ L N (off',c+1):=by
 obtain⟨g1,g2,g3⟩:=hg
 rw[hm]at h56
 have hs:=(aIF hN hb ho _ (lV _)).2 ⟨hk,h56⟩
 simp only at g2 g3
 rw[zQ hN hb ho]at g2 g3
 refine⟨ho',?_,?_⟩
 ·simp only
  rw[hd]
  simp only[List.length_cons]at g2
  rw[←g2]
  omega
 ·simp only
  rw[hd,←g3,List.all_cons,hs,Bool.true_and]
theorem aKa (hN:N=((Lc.dec L).length:Int)) (hb:N≤256) (ho:(off:Int)<N) (hg:gJ L N (off,c)) {m:Int} (hm:m=(aX (aF L ((off:Int)+1) (N-off-1)):Int)+1)
  (h:¬G 84 [L,(off:Int),0]=0∨¬G 56 [L,(off:Int),m]<0):¬G 55 [L,N]=1:=by
 obtain⟨g1,g2,g3⟩:=hg
 rw[hm]at h
 have hs:jM ((Lc.dec L).getD off []::(aF L ((off:Int)+1) (N-off-1)).take (aX (aF L ((off:Int)+1) (N-off-1))))=false:=by
  rw[Bool.eq_false_iff]
  intro q
  obtain⟨q1,q2⟩:=(aIF hN hb ho _ (lV _)).1 q
  rcases h with h|h
  ·exact h q1
  ·exact h q2
 simp only at g3
 rw[zQ hN hb ho,List.all_cons,hs,Bool.false_and]at g3
 have e:G 55 [L,N]=if (bH 300 (aF L 0 N)).all jM then 1 else 0:=rfl
 rw[e,←g3]
 decide
theorem aMv (hN:N=((Lc.dec L).length:Int)) (hb:N≤256) (ho:¬(off:Int)<N) (hg:gJ L N (off,c)):(c:Int)=G 54 [L,N]∧G 55 [L,N]=1:=by
 obtain⟨g1,g2,g3⟩:=hg
 have hd:(aF L 0 N).drop off=[]:=by
  apply List.drop_eq_nil_of_le
  rw[bX (by omega) (by omega) (by omega)]
  simp only at g1
  omega
 simp only[hd]at g2 g3
 have e0:bH 300 []=[]:=rfl
 rw[e0]at g2 g3
 refine⟨by simpa using g2,?_⟩
 have e:G 55 [L,N]=if (bH 300 (aF L 0 N)).all jM then 1 else 0:=rfl
 rw[e,←g3]
 rfl
theorem aJB (hN:N=((Lc.dec L).length:Int)) (hb:N≤256) (ho:(off:Int)<N) (hg:gJ L N (off,c)) (hk:G 84 [L,(off:Int),0]=0) (hA:G 53 [L,(off:Int)+1,N-off-1]+1=0) (h56:G 56 [L,(off:Int),N-off]<0):gJ L N (N.toNat,c+1):=by
 have hc:=aAl hN hb ho hA
 have hl:=gF hN hb ho
 refine zR hN hb ho hg (by omega) hk (m:=N-off) (by omega) h56 ?_
 rw[hc,List.drop_eq_nil_of_le (Nat.le_refl _),List.drop_eq_nil_of_le (by rw[bX (by omega) (by omega) (by omega)];omega)]
 rfl
theorem aA3 (hN:N=((Lc.dec L).length:Int)) (hb:N≤256) (ho:(off:Int)<N) {k:Nat} (hk:k<(aF L ((off:Int)+1) (N-off-1)).length):
  (aF L ((off:Int)+1) (N-off-1)).drop k=(Lc.dec L).getD (off+1+k) []::(aF L 0 N).drop (off+1+k+1)∧(aF L 0 N).drop (off+1+k)=(Lc.dec L).getD (off+1+k) []::(aF L 0 N).drop (off+1+k+1):=by
 have hl:=gF hN hb ho
 have h1:(aF L 0 N).drop (off+1)=aF L ((off:Int)+1) (N-off-1):=by
  rw[xH (by omega) hb (by omega)]
  congr 1;omega
 have hlen:=bX (L:=L) (off:=0) (n:=N) (by omega) (by omega) (by omega)
 have h2:(aF L 0 N).drop (off+1+k)=(Lc.dec L).getD (off+1+k) []::(aF L 0 N).drop (off+1+k+1):=by
  rw[List.drop_eq_getElem_cons (show off+1+k<(aF L 0 N).length by omega)]
  congr 1
  have:=wP (L:=L) (off:=0) (n:=N) (i:=((off+1+k:Nat):Int)) (by omega) (by omega) (by omega)
  rw[Int.zero_add,Int.toNat_natCast,List.getD_eq_getElem?_getD,List.getElem?_eq_getElem (show off+1+k<(aF L 0 N).length by omega)]at this
  exact this
 refine⟨?_,h2⟩
 rw[←h1,List.drop_drop]
 exact h2
theorem aJE (hN:N=((Lc.dec L).length:Int)) (hb:N≤256) (ho:(off:Int)<N) (hg:gJ L N (off,c)) (hk:G 84 [L,(off:Int),0]=0) (hB:¬G 53 [L,(off:Int)+1,N-off-1]+1=0) (h56:G 56 [L,(off:Int),G 53 [L,(off:Int)+1,N-off-1]+1]<0):
  let R:=G 53 [L,(off:Int)+1,N-off-1]+1
  0<R∧(off:Int)+R<N∧(G 84 [L,(off:Int)+R,0]=3→gJ L N (((off:Int)+R+1).toNat,c+1))∧(¬G 84 [L,(off:Int)+R,0]=3→gJ L N (((off:Int)+R).toNat,c+1)):=by
 intro R
 obtain⟨e1,e2⟩:=pL hN hb ho hB
 have hl:=gF hN hb ho
 obtain⟨d1,d2⟩:=aA3 hN hb ho e2
 have hR:R=(aX (aF L ((off:Int)+1) (N-off-1)):Int)+1:=by show G 53 _+1=_;rw[e1]
 have eo:(off:Int)+R=((off+1+aX (aF L ((off:Int)+1) (N-off-1)):Nat):Int):=by rw[hR];omega
 have e56:G 56 [L,(off:Int),R]<0:=h56
 refine⟨by omega,by omega,fun h3=>?_,fun h3=>?_⟩
 ·rw[eo,kL]at h3
  refine zR hN hb ho hg (by omega) hk hR e56 ?_
  rw[d1,show ((off:Int)+R+1).toNat=off+1+aX (aF L ((off:Int)+1) (N-off-1))+1 by omega]
  rw[gQ h3]
 ·rw[eo,kL]at h3
  refine zR hN hb ho hg (by omega) hk hR e56 ?_
  rw[d1,show ((off:Int)+R).toNat=off+1+aX (aF L ((off:Int)+1) (N-off-1))by omega,d2]
  rw[iY h3]
theorem wN (hN:N=((Lc.dec L).length:Int)) (hb:N≤256) (ho:(off:Int)<N) (hB:¬G 53 [L,(off:Int)+1,N-off-1]+1=0):0<G 53 [L,(off:Int)+1,N-off-1]+1∧(off:Int)+(G 53 [L,(off:Int)+1,N-off-1]+1)<N:=by
 obtain⟨e1,e2⟩:=pL hN hb ho hB
 have hl:=gF hN hb ho
 omega
theorem aDJ (hN:N=((Lc.dec L).length:Int)) (hb:N≤256) (ho:(off:Int)<N) (hg:gJ L N (off,c)) (hA:G 53 [L,(off:Int)+1,N-off-1]+1=0) (h:¬G 84 [L,(off:Int),0]=0∨¬G 56 [L,(off:Int),N-off]<0):¬G 55 [L,N]=1:=by
 have hc:=aAl hN hb ho hA
 have hl:=gF hN hb ho
 exact aKa hN hb ho hg (m:=N-off) (by omega) h
theorem aEq (hN:N=((Lc.dec L).length:Int)) (hb:N≤256) (ho:(off:Int)<N) (hg:gJ L N (off,c)) (hB:¬G 53 [L,(off:Int)+1,N-off-1]+1=0) (h:¬G 84 [L,(off:Int),0]=0∨¬G 56 [L,(off:Int),G 53 [L,(off:Int)+1,N-off-1]+1]<0):¬G 55 [L,N]=1:=by
 obtain⟨e1,e2⟩:=pL hN hb ho hB
 exact aKa hN hb ho hg (m:=G 53 [L,(off:Int)+1,N-off-1]+1) (by omega) h
theorem xZ:∀ (f:Nat) (l:List (List Int)),(bH f l).length≤l.length
 |0,_=>Nat.zero_le _
 |_+1,[]=>Nat.le_refl _
 |f+1,r::rs=>by
  have h1:=xZ f (eA (rs.drop (aX rs)))
  have h2:=kR (rs.drop (aX rs))
  rw[List.length_drop]at h2
  simp only[bH,List.length_cons]
  omega
theorem aIO {p:Nat × Nat} (b0:0≤N∧N≤256) (hN:N=((Lc.dec L).length:Int)) (hp:gJ L N p):(p.2:Int)≤256:=by
 obtain⟨g1,g2,_⟩:=hp
 have e:G 54 [L,N]=((bH 300 (aF L 0 N)).length:Int):=rfl
 have h1:=xZ 300 (aF L 0 N)
 have h2:=bX (L:=L) (off:=0) (n:=N) (by omega) (by omega) (by omega)
 rw[e]at g2
 omega
theorem aJU {L N:Int} (h0:0≤N):gJ L N (0,0):=by
 refine⟨by simpa using h0,?_,rfl⟩
 show ((0:Nat):Int)+_=_
 simp only[List.drop_zero]
 exact Int.zero_add _
end
theorem aIg:∀ l:List (List Int),xB (l.take (aX l))=0
 |[]=>rfl
 |r::rs=>by
  by_cases h:sk r=0∨sk r=3
  ·have e:aX (r::rs)=0:=by unfold aX;rw[if_pos h]
   rw[e];rfl
  ·have e:aX (r::rs)=aX rs+1:=by rw[aX,if_neg h]
   rw[e,List.take_succ_cons]
   show xB (rs.take (aX rs))+(if sk r=0 then 1 else 0)=0
   rw[aIg rs,if_neg (fun q=>h (.inl q))]
theorem wQ:∀ a b:List (List Int),xB (a++b)=xB a+xB b
 |[],b=>(Nat.zero_add _).symm
 |r::a,b=>by
  show xB (a++b)+_=xB a+_+_
  rw[wQ a b];omega
theorem aJj:∀ l:List (List Int),pD false l=((l.take (aX l)).all (fun r=>decide (sk r≤3)) && pD false (l.drop (aX l)))
 |[]=>rfl
 |r::rs=>by
  by_cases h:sk r=0∨sk r=3
  ·have e:aX (r::rs)=0:=by unfold aX;rw[if_pos h]
   rw[e];simp
  ·have e:aX (r::rs)=aX rs+1:=by rw[aX,if_neg h]
   have h0:¬sk r=0:=fun q=>h (.inl q)
   have h3:¬sk r=3:=fun q=>h (.inr q)
   rw[e,List.take_succ_cons,List.drop_succ_cons,List.all_cons]
   show (decide (sk r≤3) && (decide (sk r=0) || !false) && pD (decide (sk r=3)) rs)=_
   rw[decide_eq_false h3,aJj rs]
   simp [Bool.and_assoc]
theorem aGK {l:List (List Int)} {q:List Int} {qs:List (List Int)} (h:l.drop (aX l)=q::qs):sk q=0∨sk q=3:=by
 have hl:aX l<l.length:=by
  rcases Nat.lt_or_ge (aX l) l.length with z|z
  ·exact z
  ·rw[List.drop_eq_nil_of_le z]at h;cases h
 have:=aAa hl
 rw[List.drop_eq_getElem_cons hl]at h
 cases h
 rw[List.getD_eq_getElem?_getD,List.getElem?_eq_getElem hl]at this
 exact this
theorem aLt (l:List (List Int)):pD false (l.drop (aX l))=pD true (eA (l.drop (aX l)))∧xB (l.drop (aX l))=xB (eA (l.drop (aX l))):=by
 cases h:l.drop (aX l)with
 |nil=>exact⟨rfl,rfl⟩
 |cons q qs=>
  rcases aGK h with e|e
  ·rw[iY (by omega)]
   refine⟨?_,rfl⟩
   show (decide (sk q≤3) && (decide (sk q=0) || !false) && pD (decide (sk q=3)) qs)=(decide (sk q≤3) && (decide (sk q=0) || !true) && pD (decide (sk q=3)) qs)
   rw[e];rfl
  ·rw[gQ e]
   refine⟨?_,?_⟩
   ·show (decide (sk q≤3) && (decide (sk q=0) || !false) && pD (decide (sk q=3)) qs)=_
    rw[e];rfl
   ·show xB qs+(if sk q=0 then 1 else 0)=xB qs
    rw[if_neg (by omega)];rfl
theorem aDL:∀ (f:Nat) (l:List (List Int)),l.length≤f→(bH f l).all jM=pD true l∧(pD true l=true→(bH f l).length=xB l)
 |0,[],_=>⟨rfl,fun _=>rfl⟩
 |0,_::_,h=>by simp at h
 |f+1,[],_=>⟨rfl,fun _=>rfl⟩
 |f+1,r::rs,h=>by
  have h1:(eA (rs.drop (aX rs))).length≤f:=by
   have:=kR (rs.drop (aX rs))
   rw[List.length_drop]at this
   simp only[List.length_cons]at h
   omega
  obtain⟨i1,i2⟩:=aDL f _ h1
  obtain⟨s1,s2⟩:=aLt rs
  have eo:pD true (r::rs)=(jM (r::rs.take (aX rs)) && pD true (eA (rs.drop (aX rs)))):=by
   show (decide (sk r≤3) && (decide (sk r=0) || !true) && pD (decide (sk r=3)) rs)=(decide (sk r=0) && ((r::rs.take (aX rs)).all fun r=>decide (sk r≤3)) && _)
   rw[List.all_cons]
   by_cases h0:sk r=0
   ·rw[h0,show decide ((0:Int)=3)=false from rfl,aJj rs,s1]
    simp [Bool.and_assoc]
   ·rw[decide_eq_false h0]
    simp
  refine⟨?_,fun q=>?_⟩
  ·rw[eo]
   show (jM _ && (bH f _).all jM)=_
   rw[i1]
  ·rw[eo,Bool.and_eq_true]at q
   have hr:sk r=0:=by
    have:=q.1
    unfold jM at this
    simp only[Bool.and_eq_true,decide_eq_true_eq]at this
    exact this.1
   show (bH f _).length+1=xB rs+(if sk r=0 then 1 else 0)
   rw[if_pos hr,i2 q.2,←s2]
   have e:xB rs=xB (rs.take (aX rs))+xB (rs.drop (aX rs)):=by rw[←wQ,List.take_append_drop]
   rw[e,aIg,Nat.zero_add]
theorem aLk {L N:Int} (h:0≤N∧N≤300):G 55 [L,N]=(if pD true (aF L 0 N) then 1 else 0)∧(G 55 [L,N]=1→G 54 [L,N]=G 58 [L,N]):=by
 obtain⟨q1,q2⟩:=aDL 300 (aF L 0 N) (rW L 0 N)
 have e:G 55 [L,N]=if (bH 300 (aF L 0 N)).all jM then 1 else 0:=rfl
 rw[e,q1]
 refine⟨rfl,fun z=>?_⟩
 have hk:pD true (aF L 0 N)=true:=by
  split at z
  ·assumption
  ·omega
 show (((bH 300 (aF L 0 N)).length:Nat):Int)=((xB (aF L 0 N):Nat):Int)
 rw[q2 hk]
end Go.Proofs.Ythiehfhphgkaeaa
