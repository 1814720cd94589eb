/- What is proved: the run of a function over its ways,and what is known on each. No condition. -/
import Derived.Test.YthiehfhphgkaeaaQa7
import Derived.Test.YthiehfhphgkaeaaProg
import Derived.Test.YthiehfhphgkaeaaQa1
set_option linter.unusedSimpArgs false
set_option linter.unusedVariables false
set_option maxRecDepth 100000
namespace Go.Proofs.Ythiehfhphgkaeaa
open Go Go.RowKit Sx Wi
def aEj (P:Program) (fs:List B):Res SV:=vO P fs
def aKo:List B:=[]
def eA:B:=(.cmp .lt (.var 3) (.app 54 (.cons (.var 5) (.cons (.var 0) .nil))))
def aCr:List B:=aW eA++aKo
def dZ:B:=(.cmp .lt (.var 4) (.app 90 (.cons (.app 88 (.cons (.app 61 (.cons (.var 5) (.cons (.var 0) .nil))) (.cons (.var 3) (.cons (.lit 0) .nil)))) .nil)))
def aIK:List B:=aW dZ++aCr
def fD:B:=(.cmp .lt (.var 3) (.app 54 (.cons (.app 59 (.cons (.var 5) (.cons (.var 0) (.cons (.var 1) (.cons (.var 2) .nil))))) (.cons (.var 0) .nil))))
def aJj:List B:=aW fD++aIK
def fQ:B:=(.cmp .lt (.var 4) (.app 90 (.cons (.app 88 (.cons (.app 61 (.cons (.app 59 (.cons (.var 5) (.cons (.var 0) (.cons (.var 1) (.cons (.var 2) .nil))))) (.cons (.var 0) .nil))) (.cons (.var 3) (.cons (.lit 0) .nil)))) .nil)))
def aKh:List B:=aW fQ++aJj
def gI:B:=(.cmp .le (.lit (-9223372036854775808)) (.op .sub (.app 83 (.cons (.app 88 (.cons (.app 61 (.cons (.app 59 (.cons (.var 5) (.cons (.var 0) (.cons (.var 1) (.cons (.var 2) .nil))))) (.cons (.var 0) .nil))) (.cons (.var 3) (.cons (.lit 0) .nil)))) (.cons (.var 4) (.cons (.lit 0) .nil)))) (.app 83 (.cons (.app 88 (.cons (.app 61 (.cons (.var 5) (.cons (.var 0) .nil))) (.cons (.var 3) (.cons (.lit 0) .nil)))) (.cons (.var 4) (.cons (.lit 0) .nil))))))
def aIz:List B:=aW gI++aKh
def iM:B:=(.cmp .le (.op .sub (.app 83 (.cons (.app 88 (.cons (.app 61 (.cons (.app 59 (.cons (.var 5) (.cons (.var 0) (.cons (.var 1) (.cons (.var 2) .nil))))) (.cons (.var 0) .nil))) (.cons (.var 3) (.cons (.lit 0) .nil)))) (.cons (.var 4) (.cons (.lit 0) .nil)))) (.app 83 (.cons (.app 88 (.cons (.app 61 (.cons (.var 5) (.cons (.var 0) .nil))) (.cons (.var 3) (.cons (.lit 0) .nil)))) (.cons (.var 4) (.cons (.lit 0) .nil))))) (.lit 9223372036854775807))
def aID:List B:=aW iM++aIz
def jW:B:=(.cmp .eq (.op .sub (.app 83 (.cons (.app 88 (.cons (.app 61 (.cons (.app 59 (.cons (.var 5) (.cons (.var 0) (.cons (.var 1) (.cons (.var 2) .nil))))) (.cons (.var 0) .nil))) (.cons (.var 3) (.cons (.lit 0) .nil)))) (.cons (.var 4) (.cons (.lit 0) .nil)))) (.app 83 (.cons (.app 88 (.cons (.app 61 (.cons (.var 5) (.cons (.var 0) .nil))) (.cons (.var 3) (.cons (.lit 0) .nil)))) (.cons (.var 4) (.cons (.lit 0) .nil))))) (.var 1))
def aIi:List B:=aW jW++aID
def lD:B:=(.cmp .le (.lit (-9223372036854775808)) (.op .sub (.app 83 (.cons (.app 88 (.cons (.app 61 (.cons (.app 59 (.cons (.var 5) (.cons (.var 0) (.cons (.var 1) (.cons (.var 2) .nil))))) (.cons (.var 0) .nil))) (.cons (.var 3) (.cons (.lit 0) .nil)))) (.cons (.var 4) (.cons (.lit 1) .nil)))) (.app 83 (.cons (.app 88 (.cons (.app 61 (.cons (.var 5) (.cons (.var 0) .nil))) (.cons (.var 3) (.cons (.lit 0) .nil)))) (.cons (.var 4) (.cons (.lit 1) .nil))))))
def aKC:List B:=aW lD++aIi
def nV:B:=(.cmp .le (.op .sub (.app 83 (.cons (.app 88 (.cons (.app 61 (.cons (.app 59 (.cons (.var 5) (.cons (.var 0) (.cons (.var 1) (.cons (.var 2) .nil))))) (.cons (.var 0) .nil))) (.cons (.var 3) (.cons (.lit 0) .nil)))) (.cons (.var 4) (.cons (.lit 1) .nil)))) (.app 83 (.cons (.app 88 (.cons (.app 61 (.cons (.var 5) (.cons (.var 0) .nil))) (.cons (.var 3) (.cons (.lit 0) .nil)))) (.cons (.var 4) (.cons (.lit 1) .nil))))) (.lit 9223372036854775807))
def aI8:List B:=aW nV++aKC
def qT:B:=(.cmp .eq (.op .sub (.app 83 (.cons (.app 88 (.cons (.app 61 (.cons (.app 59 (.cons (.var 5) (.cons (.var 0) (.cons (.var 1) (.cons (.var 2) .nil))))) (.cons (.var 0) .nil))) (.cons (.var 3) (.cons (.lit 0) .nil)))) (.cons (.var 4) (.cons (.lit 1) .nil)))) (.app 83 (.cons (.app 88 (.cons (.app 61 (.cons (.var 5) (.cons (.var 0) .nil))) (.cons (.var 3) (.cons (.lit 0) .nil)))) (.cons (.var 4) (.cons (.lit 1) .nil))))) (.var 2))
def aFf:List B:=aW qT++aI8
def aCq:SV:=(.agg [(.int .i64 (.app 54 (.cons (.var 5) (.cons (.var 0) .nil)))),(.int .i64 (.app 54 (.cons (.var 5) (.cons (.var 0) .nil)))),(.int .i64 (.app 54 (.cons (.var 5) (.cons (.var 0) .nil)))),(.int .i64 (.app 54 (.cons (.var 5) (.cons (.var 0) .nil)))),(.int .i64 (.app 54 (.cons (.app 59 (.cons (.var 5) (.cons (.var 0) (.cons (.var 1) (.cons (.var 2) .nil))))) (.cons (.var 0) .nil)))),(.int .i64 (.app 54 (.cons (.app 59 (.cons (.var 5) (.cons (.var 0) (.cons (.var 1) (.cons (.var 2) .nil))))) (.cons (.var 0) .nil)))),(.int .i64 (.app 54 (.cons (.app 59 (.cons (.var 5) (.cons (.var 0) (.cons (.var 1) (.cons (.var 2) .nil))))) (.cons (.var 0) .nil)))),(.int .i64 (.app 54 (.cons (.app 59 (.cons (.var 5) (.cons (.var 0) (.cons (.var 1) (.cons (.var 2) .nil))))) (.cons (.var 0) .nil)))),(.int .i64 (.op .add (.var 4) (.lit 1))),(.int .i64 (.var 4)),(.int .i64 (.app 61 (.cons (.var 5) (.cons (.var 0) .nil)))),(.int .i64 (.app 61 (.cons (.var 5) (.cons (.var 0) .nil)))),(.int .i64 (.app 54 (.cons (.var 5) (.cons (.var 0) .nil)))),(.int .i64 (.app 54 (.cons (.var 5) (.cons (.var 0) .nil)))),(.int .i64 (.app 61 (.cons (.app 59 (.cons (.var 5) (.cons (.var 0) (.cons (.var 1) (.cons (.var 2) .nil))))) (.cons (.var 0) .nil)))),(.int .i64 (.app 61 (.cons (.app 59 (.cons (.var 5) (.cons (.var 0) (.cons (.var 1) (.cons (.var 2) .nil))))) (.cons (.var 0) .nil)))),(.int .i64 (.app 54 (.cons (.app 59 (.cons (.var 5) (.cons (.var 0) (.cons (.var 1) (.cons (.var 2) .nil))))) (.cons (.var 0) .nil)))),(.int .i64 (.app 54 (.cons (.app 59 (.cons (.var 5) (.cons (.var 0) (.cons (.var 1) (.cons (.var 2) .nil))))) (.cons (.var 0) .nil))))])
def aFs:List B:=aW (B.neg dZ)++aCr
def aBL:SV:=(.tuple [(.agg [(.int .i64 (.app 54 (.cons (.var 5) (.cons (.var 0) .nil)))),(.int .i64 (.app 54 (.cons (.var 4) (.cons (.var 0) .nil)))),(.int .i64 (.app 54 (.cons (.var 5) (.cons (.var 0) .nil)))),(.int .i64 (.app 54 (.cons (.var 4) (.cons (.var 0) .nil)))),(.int .i64 (.app 54 (.cons (.app 59 (.cons (.var 5) (.cons (.var 0) (.cons (.var 1) (.cons (.var 2) .nil))))) (.cons (.var 0) .nil)))),(.int .i64 (.app 54 (.cons (.app 59 (.cons (.var 4) (.cons (.var 0) (.cons (.var 1) (.cons (.var 2) .nil))))) (.cons (.var 0) .nil)))),(.int .i64 (.app 54 (.cons (.app 59 (.cons (.var 5) (.cons (.var 0) (.cons (.var 1) (.cons (.var 2) .nil))))) (.cons (.var 0) .nil)))),(.int .i64 (.app 54 (.cons (.app 59 (.cons (.var 4) (.cons (.var 0) (.cons (.var 1) (.cons (.var 2) .nil))))) (.cons (.var 0) .nil)))),(.int .i64 (.app 61 (.cons (.var 5) (.cons (.var 0) .nil)))),(.int .i64 (.app 61 (.cons (.var 4) (.cons (.var 0) .nil)))),(.int .i64 (.app 54 (.cons (.var 5) (.cons (.var 0) .nil)))),(.int .i64 (.app 54 (.cons (.var 4) (.cons (.var 0) .nil)))),(.int .i64 (.app 61 (.cons (.app 59 (.cons (.var 5) (.cons (.var 0) (.cons (.var 1) (.cons (.var 2) .nil))))) (.cons (.var 0) .nil)))),(.int .i64 (.app 61 (.cons (.app 59 (.cons (.var 4) (.cons (.var 0) (.cons (.var 1) (.cons (.var 2) .nil))))) (.cons (.var 0) .nil)))),(.int .i64 (.app 54 (.cons (.app 59 (.cons (.var 5) (.cons (.var 0) (.cons (.var 1) (.cons (.var 2) .nil))))) (.cons (.var 0) .nil)))),(.int .i64 (.app 54 (.cons (.app 59 (.cons (.var 4) (.cons (.var 0) (.cons (.var 1) (.cons (.var 2) .nil))))) (.cons (.var 0) .nil))))]),(.bool (.lit true))])
theorem aG4:aEj Try.prog aFf = .ok aCq:=by kernel_rfl
theorem aHo:aEj Try.prog aFs = .ok aBL:=by kernel_rfl
end Go.Proofs.Ythiehfhphgkaeaa
namespace Go.Proofs.Ythiehfhphgkaeaa
open Go Go.RowKit Sx Wi
def eI (n dx dy i L:Int) (k:Nat):Nat→Int:=eK ([n,dx,dy,i]++[(k:Int),L])
theorem aK8 (n dx dy i L:Int) (hN:n=((Lc.dec L).length:Int)) (b0:0≤n∧n≤40) (b1 : -32768≤dx∧dx≤32767) (b2 : -32768≤dy∧dy≤32767) (hi:0≤i∧i<G 54 [L,n]) (k:Nat) (hk0:(k:Int)≤G 90 [G 88 [G 61 [L,n],i,0]]):∀ q r,yD[q]?=some r→r.1≤eI n dx dy i L k q∧eI n dx dy i L k q≤r.2:=by
 have h1:=(aDU L n).2
 have h2:=(aIy (G 88 [G 61 [L,n],i,0])).2
 unfold eI yD
 exact cS (xs:=[n,dx,dy,i,(k:Int)]) (ls:=[L]) (by exact⟨b0,b1,b2,⟨hi.1,by clear h2 hk0;omega⟩,⟨by omega,Int.le_trans hk0 h2⟩,trivial⟩)
set_option maxHeartbeats 4000000 in
set_option maxRecDepth 100000 in
theorem aMQ (n dx dy i L:Int) (hN:n=((Lc.dec L).length:Int)) (b0:0≤n∧n≤40) (b1 : -32768≤dx∧dx≤32767) (b2 : -32768≤dy∧dy≤32767) (hk:G 55 [L,n]=1) (hr:G 60 [L,n,dx,dy]=1) (hi:0≤i∧i<G 54 [L,n]) (k:Nat) (hk0:(k:Int)≤G 90 [G 88 [G 61 [L,n],i,0]]):Sx.yE (vO Try.prog) G (eI n dx dy i L k) (bD G (eI n dx dy i L) (eK ([n,dx,dy,i]++[L])) 4 (.lit true) (fun k=>(k:Int)≤G 90 [G 88 [G 61 [L,n],i,0]]) (fun k=>(G 90 [G 88 [G 61 [L,n],i,0]]).toNat-k) k) []:=by
 refine aQ eA (fun h0=>?_) (fun h0=>?_)
 rotate_left
 ·skip
  refine bE ?_
  unfold eA at h0;exfalso;simp only[nn,eI,List.cons_append,List.nil_append,Bool.or_eq_true,aY,ne_eq]at h0;have hb:n≤300:=(by omega);have hr':=(tY hN hb).1 hr;exact h0 hi.2
 refine aQ dZ (fun h1=>?_) (fun h1=>?_)
 rotate_left
 ·skip
  refine aP aHo ?_
  unfold eA at h0;unfold dZ at h1;unfold aBL;clear h0 h1;simp only[bD];refine⟨rfl,bF (by simp),?_⟩;simp only[aL];simp only[nn,eI,List.cons_append,List.nil_append,Bool.or_eq_true,aY,ne_eq];all_goals ((repeat' refine And.intro ?_ ?_)<;>first|with_reducible rfl|with_reducible trivial)
 refine aQ fD (fun h2=>?_) (fun h2=>?_)
 rotate_left
 ·skip
  refine bE ?_
  unfold eA at h0;unfold dZ at h1;unfold fD at h2;exfalso;simp only[nn,eI,List.cons_append,List.nil_append,Bool.or_eq_true,aY,ne_eq]at h2;have hb:n≤300:=(by omega);have hr':=(tY hN hb).1 hr;rw[(lK (dx:=dx) (dy:=dy) hN hb).2]at h2;exact h2 hi.2
 refine aQ fQ (fun h3=>?_) (fun h3=>?_)
 rotate_left
 ·skip
  refine bE ?_
  unfold eA at h0;unfold dZ at h1;unfold fD at h2;unfold fQ at h3;exfalso;simp only[nn,eI,List.cons_append,List.nil_append,Bool.or_eq_true,aY,ne_eq]at h1 h3;have hb:n≤300:=(by omega);have hr':=(tY hN hb).1 hr;rw[yO hN hb hr' hk hi.1 hi.2]at h3;exact h3 h1
 refine aQ gI (fun h4=>?_) (fun h4=>?_)
 rotate_left
 ·skip
  refine bE ?_
  unfold eA at h0;unfold dZ at h1;unfold fD at h2;unfold fQ at h3;unfold gI at h4;exfalso;simp only[nn,eI,List.cons_append,List.nil_append,Bool.or_eq_true,aY,ne_eq]at h1 h4;have hb:n≤300:=(by omega);have hr':=(tY hN hb).1 hr;have q:=iB hN hb hr' hk hi.1 hi.2 b1 b2 (k:=(k:Int)) (Int.natCast_nonneg k) h1;exact h4 (aMA q.1.1 b1)
 refine aQ iM (fun h5=>?_) (fun h5=>?_)
 rotate_left
 ·skip
  refine bE ?_
  unfold eA at h0;unfold dZ at h1;unfold fD at h2;unfold fQ at h3;unfold gI at h4;unfold iM at h5;exfalso;simp only[nn,eI,List.cons_append,List.nil_append,Bool.or_eq_true,aY,ne_eq]at h1 h5;have hb:n≤300:=(by omega);have hr':=(tY hN hb).1 hr;have q:=iB hN hb hr' hk hi.1 hi.2 b1 b2 (k:=(k:Int)) (Int.natCast_nonneg k) h1;exact h5 (aMn q.1.1 b1)
 refine aQ jW (fun h6=>?_) (fun h6=>?_)
 rotate_left
 ·skip
  refine bE ?_
  unfold eA at h0;unfold dZ at h1;unfold fD at h2;unfold fQ at h3;unfold gI at h4;unfold iM at h5;unfold jW at h6;exfalso;simp only[nn,eI,List.cons_append,List.nil_append,Bool.or_eq_true,aY,ne_eq]at h1 h6;have hb:n≤300:=(by omega);have hr':=(tY hN hb).1 hr;have q:=iB hN hb hr' hk hi.1 hi.2 b1 b2 (k:=(k:Int)) (Int.natCast_nonneg k) h1;exact h6 (aMz q.1.1)
 refine aQ lD (fun h7=>?_) (fun h7=>?_)
 rotate_left
 ·skip
  refine bE ?_
  unfold eA at h0;unfold dZ at h1;unfold fD at h2;unfold fQ at h3;unfold gI at h4;unfold iM at h5;unfold jW at h6;unfold lD at h7;exfalso;simp only[nn,eI,List.cons_append,List.nil_append,Bool.or_eq_true,aY,ne_eq]at h1 h7;have hb:n≤300:=(by omega);have hr':=(tY hN hb).1 hr;have q:=iB hN hb hr' hk hi.1 hi.2 b1 b2 (k:=(k:Int)) (Int.natCast_nonneg k) h1;exact h7 (aMA q.1.2 b2)
 refine aQ nV (fun h8=>?_) (fun h8=>?_)
 rotate_left
 ·skip
  refine bE ?_
  unfold eA at h0;unfold dZ at h1;unfold fD at h2;unfold fQ at h3;unfold gI at h4;unfold iM at h5;unfold jW at h6;unfold lD at h7;unfold nV at h8;exfalso;simp only[nn,eI,List.cons_append,List.nil_append,Bool.or_eq_true,aY,ne_eq]at h1 h8;have hb:n≤300:=(by omega);have hr':=(tY hN hb).1 hr;have q:=iB hN hb hr' hk hi.1 hi.2 b1 b2 (k:=(k:Int)) (Int.natCast_nonneg k) h1;exact h8 (aMn q.1.2 b2)
 refine aQ qT (fun h9=>?_) (fun h9=>?_)
 ·skip
  refine aP aG4 ?_
  unfold eA at h0;unfold dZ at h1;unfold fD at h2;unfold fQ at h3;unfold gI at h4;unfold iM at h5;unfold jW at h6;unfold lD at h7;unfold nV at h8;unfold qT at h9;unfold aCq;simp only[nn,eI,List.cons_append,List.nil_append,Bool.or_eq_true,aY,ne_eq]at h1;have hm:(G 90 [G 88 [G 61 [L,n],i,0]]).toNat-(k+1)<(G 90 [G 88 [G 61 [L,n],i,0]]).toNat-k:=aDu h1;have hg:((k+1:Nat):Int)≤G 90 [G 88 [G 61 [L,n],i,0]]:=aI3 h1;clear h0 h1 h2 h3 h4 h5 h6 h7 h8 h9;simp only[bD];refine⟨k+1,hg,hm,bF (by simp),?_⟩;simp only[aL];clear hm hg;simp only[nn,Int.natCast_add,Int.cast_ofNat_Int,Int.natCast_one,eI,List.cons_append,List.nil_append,Bool.or_eq_true,aY,ne_eq];all_goals ((repeat' refine And.intro ?_ ?_)<;>first|with_reducible rfl|with_reducible trivial)
 refine bE ?_
 unfold eA at h0;unfold dZ at h1;unfold fD at h2;unfold fQ at h3;unfold gI at h4;unfold iM at h5;unfold jW at h6;unfold lD at h7;unfold nV at h8;unfold qT at h9;exfalso;simp only[nn,eI,List.cons_append,List.nil_append,Bool.or_eq_true,aY,ne_eq]at h1 h9;have hb:n≤300:=(by omega);have hr':=(tY hN hb).1 hr;have q:=iB hN hb hr' hk hi.1 hi.2 b1 b2 (k:=(k:Int)) (Int.natCast_nonneg k) h1;exact h9 (aMz q.1.2)
theorem aNK (n dx dy i L:Int) (hN:n=((Lc.dec L).length:Int)) (b0:0≤n∧n≤40) (b1 : -32768≤dx∧dx≤32767) (b2 : -32768≤dy∧dy≤32767) (hk:G 55 [L,n]=1) (hr:G 60 [L,n,dx,dy]=1):fJ Try.prog G (bK GB) (cF (bQ Try.prog 5) 3) aNy (eK ([n,dx,dy]++[i,L])):=by
 intro hw hp
 have hb:dQ yD [n,dx,dy,i,0]:=hw
 unfold yD at hb
 obtain⟨_,_,_,b3,_⟩:=hb
 have hi:i<G 54 [L,n]:=of_decide_eq_true hp
 have e:fL G (eK ([n,dx,dy]++[i,L])) aNy.es=eI n dx dy i L 0:=by
  rw[eE]
  rfl
 rw[e]
 exact⟨(G 90 [G 88 [G 61 [L,n],i,0]]).toNat+1,dJ (ι:=Nat) (ρ:=eI n dx dy i L) (ρT:=eK ([n,dx,dy]++[i,L])) (m:=fun k=>(G 90 [G 88 [G 61 [L,n],i,0]]).toNat-k) (Good:=fun k=>(k:Int)≤G 90 [G 88 [G 61 [L,n],i,0]]) (run:=vO Try.prog) (fun _=>rfl) fits rfl eX (fun k h=>aK8 n dx dy i L hN b0 b1 b2 ⟨b3.1,hi⟩ k h) (fun _ _ X hX hG=>qV hX hG) (fun _ _ X hX hG=>cQ) (fun k h=>aMQ n dx dy i L hN b0 b1 b2 hk hr ⟨b3.1,hi⟩ k h) (by decide) _ 0 (aIy _).1 (Nat.lt_succ_of_le (Nat.sub_le _ _))⟩
def jV (n dx dy L:Int) (i:Nat):Nat→Int:=eK ([n,dx,dy]++[(i:Int),L])
theorem aLp (n dx dy L:Int) (hN:n=((Lc.dec L).length:Int)) (b0:0≤n∧n≤40) (b1 : -32768≤dx∧dx≤32767) (b2 : -32768≤dy∧dy≤32767) (i:Nat) (hi:(i:Int)≤G 54 [L,n]):∀ q r,zT[q]?=some r→r.1≤jV n dx dy L i q∧jV n dx dy L i q≤r.2:=by
 have h1:=(aDU L n).2
 unfold jV zT
 exact cS (xs:=[n,dx,dy,(i:Int)]) (ls:=[L]) (by exact⟨b0,b1,b2,⟨Int.natCast_nonneg i,Int.le_trans hi h1⟩,trivial⟩)
set_option maxHeartbeats 4000000 in
set_option maxRecDepth 100000 in
theorem aNk (n dx dy L:Int) (hN:n=((Lc.dec L).length:Int)) (b0:0≤n∧n≤40) (b1 : -32768≤dx∧dx≤32767) (b2 : -32768≤dy∧dy≤32767) (hk:G 55 [L,n]=1) (hr:G 60 [L,n,dx,dy]=1) (i:Nat) (hi:(i:Int)≤G 54 [L,n]):Sx.yE (xC Try.prog) G (jV n dx dy L i) (bD G (jV n dx dy L) (eK ([n,dx,dy]++[L])) 3 (.lit true) (fun i=>(i:Int)≤G 54 [L,n]) (fun i=>(G 54 [L,n]).toNat-i) i) []:=by
 refine aQ jR (fun h0=>?_) (fun h0=>?_)
 rotate_left
 ·skip
  refine aP aJE ?_
  unfold jR at h0;clear h0;simp only[bD];refine⟨rfl,bF (by simp),?_⟩;simp only[aL]
 refine aQ nO (fun h1=>?_) (fun h1=>?_)
 rotate_left
 ·skip
  refine bE ?_
  unfold jR at h0;unfold nO at h1;exfalso;simp only[nn,jV,List.cons_append,List.nil_append,Bool.or_eq_true,aY,ne_eq]at h0 h1;have hb:n≤300:=(by omega);have hr':=(tY hN hb).1 hr;rw[(lK (dx:=dx) (dy:=dy) hN hb).2]at h1;exact h1 h0
 refine aQ qP (fun h2=>?_) (fun h2=>?_)
 ·skip
  refine aP aIq ?_
  unfold jR at h0;unfold nO at h1;unfold qP at h2;unfold aCl;simp only[nn,jV,List.cons_append,List.nil_append,Bool.or_eq_true,aY,ne_eq]at h0;have hm:(G 54 [L,n]).toNat-(i+1)<(G 54 [L,n]).toNat-i:=aDu h0;have hg:((i+1:Nat):Int)≤G 54 [L,n]:=aI3 h0;clear h0 h1 h2;simp only[bD];refine⟨i+1,hg,hm,bF (by simp),?_⟩;simp only[aL];clear hm hg;simp only[nn,Int.natCast_add,Int.cast_ofNat_Int,Int.natCast_one,jV,List.cons_append,List.nil_append,Bool.or_eq_true,aY,ne_eq];all_goals ((repeat' refine And.intro ?_ ?_)<;>first|with_reducible rfl|with_reducible trivial)
 refine bE ?_
 unfold jR at h0;unfold nO at h1;unfold qP at h2;exfalso;simp only[nn,jV,List.cons_append,List.nil_append,Bool.or_eq_true,aY,ne_eq]at h0 h1 h2;have hb:n≤300:=(by omega);have hr':=(tY hN hb).1 hr;exact h2 (yO hN hb hr' hk (Int.natCast_nonneg i) h0).symm
theorem aFV:bC (cF (bQ Try.prog 5) 2)=[cF (bQ Try.prog 5) 3]:=by kernel_rfl
theorem aNB (n dx dy L:Int) (hN:n=((Lc.dec L).length:Int)):fJ Try.prog G (bK GB) (cF (bQ Try.prog 5) 2) aNR (eK ([n,dx,dy]++[L])):=by
 intro hw hp
 have hb:dQ zT [n,dx,dy,0]:=hw
 unfold zT at hb
 obtain⟨b0,b1,b2,_⟩:=hb
 obtain⟨p1,p2⟩:=(Bool.and_eq_true _ _).mp (show (decide (G 55 [L,n]=1) && decide (G 60 [L,n,dx,dy]=1))=true from hp)
 have hk:G 55 [L,n]=1:=of_decide_eq_true p1
 have hr:G 60 [L,n,dx,dy]=1:=of_decide_eq_true p2
 have e:fL G (eK ([n,dx,dy]++[L])) aNR.es=jV n dx dy L 0:=by
  rw[eE]
  rfl
 rw[e]
 refine⟨(G 54 [L,n]).toNat+1,dJ (ι:=Nat) (ρ:=jV n dx dy L) (ρT:=eK ([n,dx,dy]++[L])) (m:=fun i=>(G 54 [L,n]).toNat-i) (Good:=fun i=>(i:Int)≤G 54 [L,n]) (run:=xC Try.prog) (fun _=>rfl) fits rfl eX (fun i h=>aLp n dx dy L hN b0 b1 b2 i h) (fun _ _ X hX hG=>qV hX hG) (fun i h X hX hG=>?_) (fun i h=>aNk n dx dy L hN b0 b1 b2 hk hr i h) (by decide) _ 0 (aDU _ _).1 (Nat.lt_succ_of_le (Nat.sub_le _ _))⟩
 refine gE (bs:=[cF (bQ Try.prog 5) 3]) aFV ?_
 intro b hb
 simp only[List.mem_cons,List.mem_nil_iff,or_false]at hb
 subst hb
 refine gN hX hG (by kernel_rfl) ?_
 intro p hp'
 simp only[List.mem_cons,List.mem_nil_iff,or_false]at hp'
 subst hp'
 exact aNK n dx dy (i:Int) L hN b0 b1 b2 hk hr
def aOi:FunS:=⟨[(.own 0 (.var 0) none),(.int .i16 (.var 1)),(.int .i16 (.var 2))],[some ([.vec [.int .u8,.int .i32,.int .i32,.int .i32,.int .i32,.int .i32,.int .i32] (.var 3) (.var 0) true],bA)],.lit true,.bool (.lit true),[none],.bool (.lit true),[none]⟩
def aMy:eG:=fP 5 (eJ (bK GB) [aMP]) (fP 24 (aAY (bK GB) [aNR]) dP)
def aIs (P:Program) (fs:List B):Res SV:=bY G GI aNb fs fun X=>gA P X GB aCb aMy 4000 5 aOi
end Go.Proofs.Ythiehfhphgkaeaa
set_option maxRecDepth 100000
namespace Go.Proofs.Ythiehfhphgkaeaa
open Go Go.RowKit Sx Wi
def uC (P:Program) (fs:List B):Res SV:=aIs P fs
def aCQ:List B:=[]
def fS:B:=(.cmp .lt (.lit 40) (.var 0))
def aKu:List B:=aW fS++aCQ
def aBk:List B:=aW (B.neg fS)++aCQ
def gK:B:=(.cmp .eq (.app 60 (.cons (.var 3) (.cons (.var 0) (.cons (.var 1) (.cons (.var 2) .nil))))) (.lit 1))
def aCc:List B:=aW gK++aBk
def iQ:B:=(.and (.cmp .le (.var 0) (.lit 256)) (.cmp .eq (.app 55 (.cons (.var 3) (.cons (.var 0) .nil))) (.lit 1)))
def aJm:List B:=aW iQ++aCc
def gT:B:=(.and (.cmp .le (.var 0) (.lit 256)) (.cmp .eq (.app 55 (.cons (.app 59 (.cons (.var 3) (.cons (.var 0) (.cons (.var 1) (.cons (.var 2) .nil))))) (.cons (.var 0) .nil))) (.lit 1)))
def aIv:List B:=aW gT++aJm
def qX:B:=(.cmp .eq (.app 54 (.cons (.var 3) (.cons (.var 0) .nil))) (.app 54 (.cons (.app 59 (.cons (.var 3) (.cons (.var 0) (.cons (.var 1) (.cons (.var 2) .nil))))) (.cons (.var 0) .nil))))
def aKG:List B:=aW qX++aIv
def aK3:List B:=aW (B.neg iQ)++aCc
def aGq:List B:=aW (B.neg gT)++aK3
def aGS:List B:=aW (B.neg gK)++aBk
end Go.Proofs.Ythiehfhphgkaeaa
set_option maxRecDepth 100000
namespace Go.Proofs.Ythiehfhphgkaeaa
open Go Go.RowKit Sx Wi
theorem aIl:uC Try.prog aKu = .ok (.tuple [(.agg []),(.bool (.lit true))]):=by kernel_rfl
theorem aIp:uC Try.prog aKG = .ok (.tuple [(.agg []),(.bool (.lit true))]):=by kernel_rfl
end Go.Proofs.Ythiehfhphgkaeaa
set_option maxRecDepth 100000
namespace Go.Proofs.Ythiehfhphgkaeaa
open Go Go.RowKit Sx Wi
theorem aGV:uC Try.prog aGq = .ok (.tuple [(.agg []),(.bool (.lit true))]):=by kernel_rfl
theorem aGw:uC Try.prog aGS = .ok (.tuple [(.agg []),(.bool (.lit true))]):=by kernel_rfl
end Go.Proofs.Ythiehfhphgkaeaa
namespace Go.Proofs.Ythiehfhphgkaeaa
open Go Go.RowKit Sx Wi
theorem aAw {p q:Prop} [Decidable p] [Decidable q] (h:(decide p && decide q)=false):¬(p∧q):=fun z=>by simp [z.1,z.2]at h
theorem aJC {n:Int} (h:¬40<n):n≤300:=by omega
theorem aJY:bC (bQ Try.prog 5)=[cF (bQ Try.prog 5) 0,cF (bQ Try.prog 5) 1,cF (bQ Try.prog 5) 2,cF (bQ Try.prog 5) 3]:=by kernel_rfl
set_option maxHeartbeats 1000000 in
set_option maxRecDepth 100000 in
theorem aMH (n dx dy L:Int) (b0:0≤n∧n≤9223372036854775807) (b1 : -32768≤dx∧dx≤32767) (b2 : -32768≤dy∧dy≤32767) (hN:n=((Lc.dec L).length:Int)):eT Try.prog G GB 5 aOi (eK [n,dx,dy,L]):=by
 refine dC (lp:=aMy) (run:=aIs Try.prog) (fun _=>rfl) fits (cS (xs:=[n,dx,dy]) (ls:=[L]) (by exact⟨b0,b1,b2,trivial⟩)) eX (fun X hX hG=>qV hX hG) (fun X hX hG fn c hf hc=>?_) rfl ?_
 ·refine gE ((congrArg bC (jM hf hc)).symm.trans aJY) ?_
  intro b hb
  simp only[List.mem_cons,List.mem_nil_iff,or_false]at hb
  rcases hb with rfl|rfl|rfl|rfl
  ·refine gN hX hG (by kernel_rfl) ?_
   intro p hp'
   simp only[List.mem_cons,List.mem_nil_iff,or_false]at hp'
   subst hp'
   exact aNx n dx dy L hN
  ·exact iA (j:=9) (by kernel_rfl) (by decide) (iA (j:=9) (by kernel_rfl) (by decide) qO)
  ·refine iA (j:=24) (by kernel_rfl) (by decide) (aKr hX hG (by kernel_rfl) ?_)
   intro p hp'
   simp only[List.mem_cons,List.mem_nil_iff,or_false]at hp'
   subst hp'
   exact aNB n dx dy L hN
  ·exact iA (j:=29) (by kernel_rfl) (by decide) (iA (j:=29) (by kernel_rfl) (by decide) qO)
 ·skip
  refine aQ fS (fun h0=>?_) (fun h0=>?_)
  ·skip
   refine aP aIl ?_
   unfold fS at h0;exact⟨rfl,trivial⟩
  refine aQ gK (fun h1=>?_) (fun h1=>?_)
  rotate_left
  ·skip
   refine aP aGw ?_
   unfold fS at h0;unfold gK at h1;exact⟨rfl,trivial⟩
  refine aQ iQ (fun h2=>?_) (fun h2=>?_)
  rotate_left
  ·skip
   refine aQ gT (fun h3=>?_) (fun h3=>?_)
   ·skip
    refine bE ?_
    unfold fS at h0;unfold gK at h1;unfold iQ at h2;unfold gT at h3;exfalso;simp only[nn,List.cons_append,List.nil_append,Bool.or_eq_true,aY,ne_eq]at h0 h1 h2 h3;have q:=lK (dx:=dx) (dy:=dy) hN (aJC h0);first|exact aAw h3 ⟨h2.1,q.1.2 h2.2⟩|exact aAw h2 ⟨h3.1,q.1.1 h3.2⟩
   refine aP aGV ?_
   unfold fS at h0;unfold gK at h1;unfold iQ at h2;unfold gT at h3;exact⟨rfl,trivial⟩
  refine aQ gT (fun h3=>?_) (fun h3=>?_)
  rotate_left
  ·skip
   refine bE ?_
   unfold fS at h0;unfold gK at h1;unfold iQ at h2;unfold gT at h3;exfalso;simp only[nn,List.cons_append,List.nil_append,Bool.or_eq_true,aY,ne_eq]at h0 h1 h2 h3;have q:=lK (dx:=dx) (dy:=dy) hN (aJC h0);first|exact aAw h3 ⟨h2.1,q.1.2 h2.2⟩|exact aAw h2 ⟨h3.1,q.1.1 h3.2⟩
  refine aQ qX (fun h4=>?_) (fun h4=>?_)
  ·skip
   refine aP aIp ?_
   unfold fS at h0;unfold gK at h1;unfold iQ at h2;unfold gT at h3;unfold qX at h4;exact⟨rfl,trivial⟩
  refine bE ?_
  unfold fS at h0;unfold gK at h1;unfold iQ at h2;unfold gT at h3;unfold qX at h4;exfalso;simp only[nn,List.cons_append,List.nil_append,Bool.or_eq_true,aY,ne_eq]at h0 h1 h2 h3 h4;have q:=lK (dx:=dx) (dy:=dy) hN (aJC h0);exact h4 q.2.symm
end Go.Proofs.Ythiehfhphgkaeaa
