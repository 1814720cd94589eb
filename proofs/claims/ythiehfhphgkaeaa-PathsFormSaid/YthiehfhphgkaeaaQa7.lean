/- What is proved: the run of a function over its ways,and what is known on each. No condition. -/
import Derived.Test.YthiehfhphgkaeaaQa6
import Derived.Test.YthiehfhphgkaeaaProg
import Derived.Test.YthiehfhphgkaeaaQa1
import Derived.Test.YthiehfhphgkaeaaQa4
set_option linter.unusedSimpArgs false
set_option linter.unusedVariables false
set_option maxRecDepth 100000
namespace Go.Proofs.Ythiehfhphgkaeaa
open Go Go.RowKit Sx Wi
def jN (P:Program) (fs:List B):Res SV:=qF P fs
def xO:List B:=[]
def dZ:B:=(.cmp .lt (.var 1) (.var 0))
def xW:List B:=aU dZ++xO
def eQ:B:=(.cmp .lt (.lit 3) (.app 84 (.cons (.var 4) (.cons (.var 1) (.cons (.lit 0) .nil)))))
def aEi:List B:=aU eQ++xW
def wV:List B:=aU (B.neg eQ)++xW
def fO:B:=(.cmp .ne (.app 84 (.cons (.var 4) (.cons (.var 1) (.cons (.lit 0) .nil)))) (.lit 0))
def vX:List B:=aU fO++wV
def gA:B:=(.cmp .eq (.var 1) (.lit 0))
def aEO:List B:=aU gA++vX
def aFF:List B:=aU (B.neg gA)++vX
def kE:B:=(.cmp .lt (.op .sub (.var 1) (.lit 1)) (.var 0))
def wD:List B:=aU kE++aFF
def jU:B:=(.cmp .eq (.app 84 (.cons (.var 4) (.cons (.op .sub (.var 1) (.lit 1)) (.cons (.lit 0) .nil)))) (.lit 3))
def aEr:List B:=aU jU++wD
def aEa:List B:=aU (B.neg jU)++wD
def aBV:List B:=aU (B.neg fO)++wV
def aBw:List B:=aU (B.neg dZ)++xO
theorem aFU:jN Try.prog aEi = .ok (.agg [(.bool (.lit false)),(.bool (.cmp .eq (.var 2) (.lit 1))),(.int .i64 (.var 3)),(.int .i64 (.var 3)),(.int .i64 (.op .add (.var 1) (.lit 1))),(.int .i64 (.var 1)),(.int .i64 (.var 4)),(.int .i64 (.var 4))]):=by kernel_rfl
theorem aD1:jN Try.prog aEO = .ok (.agg [(.bool (.lit false)),(.bool (.cmp .eq (.var 2) (.lit 1))),(.int .i64 (.var 3)),(.int .i64 (.var 3)),(.int .i64 (.op .add (.var 1) (.lit 1))),(.int .i64 (.var 1)),(.int .i64 (.var 4)),(.int .i64 (.var 4))]):=by kernel_rfl
theorem aEZ:jN Try.prog aEr = .ok (.agg [(.bool (.lit false)),(.bool (.cmp .eq (.var 2) (.lit 1))),(.int .i64 (.var 3)),(.int .i64 (.var 3)),(.int .i64 (.op .add (.var 1) (.lit 1))),(.int .i64 (.var 1)),(.int .i64 (.var 4)),(.int .i64 (.var 4))]):=by kernel_rfl
theorem aF4:jN Try.prog aEa = .ok (.agg [(.bool (.cmp .eq (.var 2) (.lit 1))),(.bool (.cmp .eq (.var 2) (.lit 1))),(.int .i64 (.var 3)),(.int .i64 (.var 3)),(.int .i64 (.op .add (.var 1) (.lit 1))),(.int .i64 (.var 1)),(.int .i64 (.var 4)),(.int .i64 (.var 4))]):=by kernel_rfl
theorem aCt:jN Try.prog aBV = .ok (.agg [(.bool (.cmp .eq (.var 2) (.lit 1))),(.bool (.cmp .eq (.var 2) (.lit 1))),(.int .i64 (.op .add (.var 3) (.lit 1))),(.int .i64 (.var 3)),(.int .i64 (.op .add (.var 1) (.lit 1))),(.int .i64 (.var 1)),(.int .i64 (.var 4)),(.int .i64 (.var 4))]):=by kernel_rfl
theorem aBG:jN Try.prog aBw = .ok (.tuple [(.agg [(.bool (.cmp .eq (.var 2) (.lit 1))),(.bool (.cmp .eq (.app 55 (.cons (.var 1) (.cons (.var 0) .nil))) (.lit 1))),(.int .i64 (.var 3)),(.int .i64 (.app 58 (.cons (.var 1) (.cons (.var 0) .nil)))),(.int .i64 (.var 4)),(.int .i64 (.var 1))]),(.bool (.lit true))]):=by kernel_rfl
end Go.Proofs.Ythiehfhphgkaeaa
namespace Go.Proofs.Ythiehfhphgkaeaa
open Go Go.RowKit Sx Wi
def bR (N L:Int) (i:Nat):Nat→Int:=eH ([N]++[(i:Int),G 55 [L,(i:Int)],G 58 [L,(i:Int)],L])
theorem aDz (N L:Int) (b0:0≤N∧N≤256) (i:Nat) (hi:(i:Int)≤N):∀ k q,nB[k]?=some q→q.1≤bR N L i k∧bR N L i k≤q.2:=by
 have h:0≤G 58 [L,(i:Int)]∧G 58 [L,(i:Int)]≤256:=by
  have h1:=aBR (aF L 0 (i:Int))
  have h2:(aF L 0 (i:Int)).length≤(i:Int).toNat:=by unfold aF;rw[List.length_take];omega
  show 0≤((sE (aF L 0 (i:Int)):Nat):Int)∧((sE (aF L 0 (i:Int)):Nat):Int)≤256
  omega
 unfold bR nB
 exact cZ (xs:=[N,(i:Int),G 55 [L,(i:Int)],G 58 [L,(i:Int)]]) (ls:=[L]) (by exact⟨b0,by omega,aCS [L,(i:Int)],h,trivial⟩)
theorem pI {p q:Prop} [Decidable p] [Decidable q] (h:p↔q):decide p=decide q:=by simp [h]
theorem mR {q:Prop} [Decidable q] (h:¬q):false=decide q:=by simp [h]
set_option maxHeartbeats 4000000 in
set_option maxRecDepth 100000 in
theorem aI2 (N L:Int) (b0:0≤N∧N≤256) (hN:N=((Lc.dec L).length:Int)) (i:Nat) (hi:(i:Int)≤N):Sx.zL (qD Try.prog) G (bR N L i) (bF G (bR N L) (eH ([N]++[L])) 1 (.lit true) (fun i=>(i:Int)≤N) (fun i=>N.toNat-i) i) []:=by
 refine aR dV (fun h0=>?_) (fun h0=>?_)
 rotate_left
 ·skip
  refine aM aB1 ?_
  unfold dV at h0;unfold xB;simp only[nn,bR,List.cons_append,List.nil_append,Bool.or_eq_true,aZ,ne_eq]at h0;have e:(i:Int)=N:=(by omega);clear h0;simp only[bF];refine⟨rfl,bL (by simp),?_⟩;simp only[aP];simp only[nn,bR,List.cons_append,List.nil_append,Bool.or_eq_true,aZ,ne_eq];rw[e];(repeat' refine And.intro ?_ ?_)<;>first|with_reducible rfl|with_reducible trivial
 refine aR eN (fun h1=>?_) (fun h1=>?_)
 ·skip
  refine aM aEu ?_
  unfold dV at h0;unfold eN at h1;unfold iC;simp only[nn,bR,List.cons_append,List.nil_append,Bool.or_eq_true,aZ,ne_eq]at h0 h1;have q:=dW (L:=L) (i:=i) (by clear h1;omega) (by clear h1;omega);obtain⟨q1,q2⟩:=q;have hm:N.toNat-(i+1)<N.toNat-i:=(by clear q1 q2 h1;omega);have hg:((i+1:Nat):Int)≤N:=(by clear q1 q2 h1;omega);rw[if_neg (by omega:¬G 84 [L,(i:Int),0]=0),Int.add_zero]at q1;have ec:¬G 55 [L,(i:Int)+1]=1:=fun w=>absurd (q2.1 w) (fun z=>z.2 (.inl h1));clear q2 h0 h1;simp only[bF];refine⟨i+1,hg,hm,bL (by simp),?_⟩;simp only[aP];clear hm hg;simp only[nn,Int.natCast_add,Int.cast_ofNat_Int,Int.natCast_one,bR,List.cons_append,List.nil_append,Bool.or_eq_true,aZ,ne_eq];(repeat' refine And.intro ?_ ?_)<;>first|with_reducible exact mR ec|with_reducible exact q1.symm|with_reducible rfl|with_reducible trivial
 refine aR fN (fun h2=>?_) (fun h2=>?_)
 rotate_left
 ·skip
  refine aM aCa ?_
  unfold dV at h0;unfold eN at h1;unfold fN at h2;unfold xS;simp only[nn,bR,List.cons_append,List.nil_append,Bool.or_eq_true,aZ,ne_eq]at h0 h1 h2;have q:=dW (L:=L) (i:=i) (by clear h1 h2;omega) (by clear h1 h2;omega);obtain⟨q1,q2⟩:=q;have hm:N.toNat-(i+1)<N.toNat-i:=(by clear q1 q2 h1 h2;omega);have hg:((i+1:Nat):Int)≤N:=(by clear q1 q2 h1 h2;omega);rw[if_pos (by first|exact h2|exact Classical.not_not.1 h2)]at q1;have ec:G 55 [L,(i:Int)]=1↔G 55 [L,(i:Int)+1]=1:=⟨fun w=>q2.2 ⟨w,fun w=>w.elim (fun w=>h1 w) (fun w=>w.1 (by first|exact h2|exact Classical.not_not.1 h2))⟩,fun w=>(q2.1 w).1⟩;clear q2 h0 h1 h2;simp only[bF];refine⟨i+1,hg,hm,bL (by simp),?_⟩;simp only[aP];clear hm hg;simp only[nn,Int.natCast_add,Int.cast_ofNat_Int,Int.natCast_one,bR,List.cons_append,List.nil_append,Bool.or_eq_true,aZ,ne_eq];(repeat' refine And.intro ?_ ?_)<;>first|with_reducible exact pI ec|with_reducible exact q1.symm|with_reducible rfl|with_reducible trivial
 refine aR gJ (fun h3=>?_) (fun h3=>?_)
 ·skip
  refine aM aFM ?_
  unfold dV at h0;unfold eN at h1;unfold fN at h2;unfold gJ at h3;unfold iC;simp only[nn,bR,List.cons_append,List.nil_append,Bool.or_eq_true,aZ,ne_eq]at h0 h1 h2 h3;have q:=dW (L:=L) (i:=i) (by clear h1 h2 h3;omega) (by clear h1 h2 h3;omega);obtain⟨q1,q2⟩:=q;have hm:N.toNat-(i+1)<N.toNat-i:=(by clear q1 q2 h1 h2 h3;omega);have hg:((i+1:Nat):Int)≤N:=(by clear q1 q2 h1 h2 h3;omega);rw[if_neg (by first|exact h2|(clear h1;omega))]at q1;rw[Int.add_zero]at q1;have ec:¬G 55 [L,(i:Int)+1]=1:=fun w=>absurd (q2.1 w) (fun z=>z.2 (.inr ⟨h2,.inl h3⟩));clear q2 h0 h1 h2 h3;simp only[bF];refine⟨i+1,hg,hm,bL (by simp),?_⟩;simp only[aP];clear hm hg;simp only[nn,Int.natCast_add,Int.cast_ofNat_Int,Int.natCast_one,bR,List.cons_append,List.nil_append,Bool.or_eq_true,aZ,ne_eq];(repeat' refine And.intro ?_ ?_)<;>first|with_reducible exact mR ec|with_reducible exact q1.symm|with_reducible rfl|with_reducible trivial
 refine aR kF (fun h4=>?_) (fun h4=>?_)
 rotate_left
 ·skip
  refine bS ?_
  unfold dV at h0;unfold eN at h1;unfold fN at h2;unfold gJ at h3;unfold kF at h4;simp only[nn,bR,List.cons_append,List.nil_append,Bool.or_eq_true,aZ,ne_eq]at h0 h1 h2 h3 h4;first|(clear h2 h3;omega)|omega
 refine aR kB (fun h5=>?_) (fun h5=>?_)
 ·skip
  refine aM aE8 ?_
  unfold dV at h0;unfold eN at h1;unfold fN at h2;unfold gJ at h3;unfold kF at h4;unfold kB at h5;unfold iC;simp only[nn,bR,List.cons_append,List.nil_append,Bool.or_eq_true,aZ,ne_eq]at h0 h1 h2 h3 h4 h5;have q:=dW (L:=L) (i:=i) (by clear h1 h2 h3 h4 h5;omega) (by clear h1 h2 h3 h4 h5;omega);obtain⟨q1,q2⟩:=q;have hm:N.toNat-(i+1)<N.toNat-i:=(by clear q1 q2 h1 h2 h3 h4 h5;omega);have hg:((i+1:Nat):Int)≤N:=(by clear q1 q2 h1 h2 h3 h4 h5;omega);rw[if_neg (by first|exact h2|(clear h1;omega))]at q1;rw[Int.add_zero]at q1;have ec:¬G 55 [L,(i:Int)+1]=1:=fun w=>absurd (q2.1 w) (fun z=>z.2 (.inr ⟨h2,.inr h5⟩));clear q2 h0 h1 h2 h3 h4 h5;simp only[bF];refine⟨i+1,hg,hm,bL (by simp),?_⟩;simp only[aP];clear hm hg;simp only[nn,Int.natCast_add,Int.cast_ofNat_Int,Int.natCast_one,bR,List.cons_append,List.nil_append,Bool.or_eq_true,aZ,ne_eq];(repeat' refine And.intro ?_ ?_)<;>first|with_reducible exact mR ec|with_reducible exact q1.symm|with_reducible rfl|with_reducible trivial
 refine aM aDF ?_
 unfold dV at h0;unfold eN at h1;unfold fN at h2;unfold gJ at h3;unfold kF at h4;unfold kB at h5;unfold xT;simp only[nn,bR,List.cons_append,List.nil_append,Bool.or_eq_true,aZ,ne_eq]at h0 h1 h2 h3 h4 h5;have q:=dW (L:=L) (i:=i) (by clear h1 h2 h3 h4 h5;omega) (by clear h1 h2 h3 h4 h5;omega);obtain⟨q1,q2⟩:=q;have hm:N.toNat-(i+1)<N.toNat-i:=(by clear q1 q2 h1 h2 h3 h4 h5;omega);have hg:((i+1:Nat):Int)≤N:=(by clear q1 q2 h1 h2 h3 h4 h5;omega);rw[if_neg (by first|exact h2|(clear h1;omega))]at q1;rw[Int.add_zero]at q1;have ec:G 55 [L,(i:Int)]=1↔G 55 [L,(i:Int)+1]=1:=⟨fun w=>q2.2 ⟨w,fun w=>w.elim (fun w=>h1 w) (fun w=>w.2.elim (fun w=>h3 w) (fun w=>h5 w))⟩,fun w=>(q2.1 w).1⟩;clear q2 h0 h1 h2 h3 h4 h5;simp only[bF];refine⟨i+1,hg,hm,bL (by simp),?_⟩;simp only[aP];clear hm hg;simp only[nn,Int.natCast_add,Int.cast_ofNat_Int,Int.natCast_one,bR,List.cons_append,List.nil_append,Bool.or_eq_true,aZ,ne_eq];(repeat' refine And.intro ?_ ?_)<;>first|with_reducible exact pI ec|with_reducible exact q1.symm|with_reducible rfl|with_reducible trivial
set_option maxHeartbeats 4000000 in
set_option maxRecDepth 100000 in
theorem aJp (N L:Int) (b0:0≤N∧N≤256) (hN:N=((Lc.dec L).length:Int)) (i:Nat) (hi:(i:Int)≤N):Sx.zL (qF Try.prog) G (bR N L i) (bF G (bR N L) (eH ([N]++[L])) 1 (.lit true) (fun i=>(i:Int)≤N) (fun i=>N.toNat-i) i) []:=by
 refine aR dZ (fun h0=>?_) (fun h0=>?_)
 rotate_left
 ·skip
  refine aM aBG ?_
  unfold dZ at h0;simp only[nn,bR,List.cons_append,List.nil_append,Bool.or_eq_true,aZ,ne_eq]at h0;have e:(i:Int)=N:=(by omega);clear h0;simp only[bF];refine⟨rfl,bL (by simp),?_⟩;simp only[aP];simp only[nn,bR,List.cons_append,List.nil_append,Bool.or_eq_true,aZ,ne_eq];rw[e];(repeat' refine And.intro ?_ ?_)<;>first|with_reducible rfl|with_reducible trivial
 refine aR eQ (fun h1=>?_) (fun h1=>?_)
 ·skip
  refine aM aFU ?_
  unfold dZ at h0;unfold eQ at h1;simp only[nn,bR,List.cons_append,List.nil_append,Bool.or_eq_true,aZ,ne_eq]at h0 h1;have q:=dW (L:=L) (i:=i) (by clear h1;omega) (by clear h1;omega);obtain⟨q1,q2⟩:=q;have hm:N.toNat-(i+1)<N.toNat-i:=(by clear q1 q2 h1;omega);have hg:((i+1:Nat):Int)≤N:=(by clear q1 q2 h1;omega);rw[if_neg (by omega:¬G 84 [L,(i:Int),0]=0),Int.add_zero]at q1;have ec:¬G 55 [L,(i:Int)+1]=1:=fun w=>absurd (q2.1 w) (fun z=>z.2 (.inl h1));clear q2 h0 h1;simp only[bF];refine⟨i+1,hg,hm,bL (by simp),?_⟩;simp only[aP];clear hm hg;simp only[nn,Int.natCast_add,Int.cast_ofNat_Int,Int.natCast_one,bR,List.cons_append,List.nil_append,Bool.or_eq_true,aZ,ne_eq];(repeat' refine And.intro ?_ ?_)<;>first|with_reducible exact mR ec|with_reducible exact q1.symm|with_reducible rfl|with_reducible trivial
 refine aR fO (fun h2=>?_) (fun h2=>?_)
 rotate_left
 ·skip
  refine aM aCt ?_
  unfold dZ at h0;unfold eQ at h1;unfold fO at h2;simp only[nn,bR,List.cons_append,List.nil_append,Bool.or_eq_true,aZ,ne_eq]at h0 h1 h2;have q:=dW (L:=L) (i:=i) (by clear h1 h2;omega) (by clear h1 h2;omega);obtain⟨q1,q2⟩:=q;have hm:N.toNat-(i+1)<N.toNat-i:=(by clear q1 q2 h1 h2;omega);have hg:((i+1:Nat):Int)≤N:=(by clear q1 q2 h1 h2;omega);rw[if_pos (by first|exact h2|exact Classical.not_not.1 h2)]at q1;have ec:G 55 [L,(i:Int)]=1↔G 55 [L,(i:Int)+1]=1:=⟨fun w=>q2.2 ⟨w,fun w=>w.elim (fun w=>h1 w) (fun w=>w.1 (by first|exact h2|exact Classical.not_not.1 h2))⟩,fun w=>(q2.1 w).1⟩;clear q2 h0 h1 h2;simp only[bF];refine⟨i+1,hg,hm,bL (by simp),?_⟩;simp only[aP];clear hm hg;simp only[nn,Int.natCast_add,Int.cast_ofNat_Int,Int.natCast_one,bR,List.cons_append,List.nil_append,Bool.or_eq_true,aZ,ne_eq];(repeat' refine And.intro ?_ ?_)<;>first|with_reducible exact pI ec|with_reducible exact q1.symm|with_reducible rfl|with_reducible trivial
 refine aR gA (fun h3=>?_) (fun h3=>?_)
 ·skip
  refine aM aD1 ?_
  unfold dZ at h0;unfold eQ at h1;unfold fO at h2;unfold gA at h3;simp only[nn,bR,List.cons_append,List.nil_append,Bool.or_eq_true,aZ,ne_eq]at h0 h1 h2 h3;have q:=dW (L:=L) (i:=i) (by clear h1 h2 h3;omega) (by clear h1 h2 h3;omega);obtain⟨q1,q2⟩:=q;have hm:N.toNat-(i+1)<N.toNat-i:=(by clear q1 q2 h1 h2 h3;omega);have hg:((i+1:Nat):Int)≤N:=(by clear q1 q2 h1 h2 h3;omega);rw[if_neg (by first|exact h2|(clear h1;omega))]at q1;rw[Int.add_zero]at q1;have ec:¬G 55 [L,(i:Int)+1]=1:=fun w=>absurd (q2.1 w) (fun z=>z.2 (.inr ⟨h2,.inl h3⟩));clear q2 h0 h1 h2 h3;simp only[bF];refine⟨i+1,hg,hm,bL (by simp),?_⟩;simp only[aP];clear hm hg;simp only[nn,Int.natCast_add,Int.cast_ofNat_Int,Int.natCast_one,bR,List.cons_append,List.nil_append,Bool.or_eq_true,aZ,ne_eq];(repeat' refine And.intro ?_ ?_)<;>first|with_reducible exact mR ec|with_reducible exact q1.symm|with_reducible rfl|with_reducible trivial
 refine aR kE (fun h4=>?_) (fun h4=>?_)
 rotate_left
 ·skip
  refine bS ?_
  unfold dZ at h0;unfold eQ at h1;unfold fO at h2;unfold gA at h3;unfold kE at h4;simp only[nn,bR,List.cons_append,List.nil_append,Bool.or_eq_true,aZ,ne_eq]at h0 h1 h2 h3 h4;first|(clear h2 h3;omega)|omega
 refine aR jU (fun h5=>?_) (fun h5=>?_)
 ·skip
  refine aM aEZ ?_
  unfold dZ at h0;unfold eQ at h1;unfold fO at h2;unfold gA at h3;unfold kE at h4;unfold jU at h5;simp only[nn,bR,List.cons_append,List.nil_append,Bool.or_eq_true,aZ,ne_eq]at h0 h1 h2 h3 h4 h5;have q:=dW (L:=L) (i:=i) (by clear h1 h2 h3 h4 h5;omega) (by clear h1 h2 h3 h4 h5;omega);obtain⟨q1,q2⟩:=q;have hm:N.toNat-(i+1)<N.toNat-i:=(by clear q1 q2 h1 h2 h3 h4 h5;omega);have hg:((i+1:Nat):Int)≤N:=(by clear q1 q2 h1 h2 h3 h4 h5;omega);rw[if_neg (by first|exact h2|(clear h1;omega))]at q1;rw[Int.add_zero]at q1;have ec:¬G 55 [L,(i:Int)+1]=1:=fun w=>absurd (q2.1 w) (fun z=>z.2 (.inr ⟨h2,.inr h5⟩));clear q2 h0 h1 h2 h3 h4 h5;simp only[bF];refine⟨i+1,hg,hm,bL (by simp),?_⟩;simp only[aP];clear hm hg;simp only[nn,Int.natCast_add,Int.cast_ofNat_Int,Int.natCast_one,bR,List.cons_append,List.nil_append,Bool.or_eq_true,aZ,ne_eq];(repeat' refine And.intro ?_ ?_)<;>first|with_reducible exact mR ec|with_reducible exact q1.symm|with_reducible rfl|with_reducible trivial
 refine aM aF4 ?_
 unfold dZ at h0;unfold eQ at h1;unfold fO at h2;unfold gA at h3;unfold kE at h4;unfold jU at h5;simp only[nn,bR,List.cons_append,List.nil_append,Bool.or_eq_true,aZ,ne_eq]at h0 h1 h2 h3 h4 h5;have q:=dW (L:=L) (i:=i) (by clear h1 h2 h3 h4 h5;omega) (by clear h1 h2 h3 h4 h5;omega);obtain⟨q1,q2⟩:=q;have hm:N.toNat-(i+1)<N.toNat-i:=(by clear q1 q2 h1 h2 h3 h4 h5;omega);have hg:((i+1:Nat):Int)≤N:=(by clear q1 q2 h1 h2 h3 h4 h5;omega);rw[if_neg (by first|exact h2|(clear h1;omega))]at q1;rw[Int.add_zero]at q1;have ec:G 55 [L,(i:Int)]=1↔G 55 [L,(i:Int)+1]=1:=⟨fun w=>q2.2 ⟨w,fun w=>w.elim (fun w=>h1 w) (fun w=>w.2.elim (fun w=>h3 w) (fun w=>h5 w))⟩,fun w=>(q2.1 w).1⟩;clear q2 h0 h1 h2 h3 h4 h5;simp only[bF];refine⟨i+1,hg,hm,bL (by simp),?_⟩;simp only[aP];clear hm hg;simp only[nn,Int.natCast_add,Int.cast_ofNat_Int,Int.natCast_one,bR,List.cons_append,List.nil_append,Bool.or_eq_true,aZ,ne_eq];(repeat' refine And.intro ?_ ?_)<;>first|with_reducible exact pI ec|with_reducible exact q1.symm|with_reducible rfl|with_reducible trivial
theorem aHp:bA (bZ Try.prog 8)=[cY (bZ Try.prog 8) 0]:=by kernel_rfl
set_option maxRecDepth 100000 in
theorem aJD (N L:Int) (hN:N=((Lc.dec L).length:Int)):fT Try.prog G (bI GB) (cY (bZ Try.prog 8) 0) aHd (eH ([N]++[L])):=by
 intro hw _
 have hb:dJ nB [N,0,1,0]:=hw
 unfold nB at hb
 obtain⟨b0,_⟩:=hb
 have e:eU G (eH ([N]++[L])) aHd.es=bR N L 0:=by
  rw[eA]
  rfl
 rw[e]
 exact⟨N.toNat+1,dI (ι:=Nat) (ρ:=bR N L) (ρT:=eH ([N]++[L])) (m:=fun i=>N.toNat-i) (Good:=fun i=>(i:Int)≤N) (run:=qD Try.prog) (fun _=>rfl) fits rfl eL (fun i hi=>aDz N L b0 i hi) (fun _ _ X hX hG=>tQ hX hG) (fun _ _ X hX hG=>cH) (fun i hi=>aI2 N L b0 hN i hi) (by decide) (N.toNat+1) 0 b0.1 (by show N.toNat-0<N.toNat+1;omega)⟩
set_option maxRecDepth 100000 in
theorem aJM (N L:Int) (hN:N=((Lc.dec L).length:Int)):fT Try.prog G (bI GB) (cY (bZ Try.prog 8) 0) aGt (eH ([N]++[L])):=by
 intro hw _
 have hb:dJ nB [N,0,1,0]:=hw
 unfold nB at hb
 obtain⟨b0,_⟩:=hb
 have e:eU G (eH ([N]++[L])) aGt.es=bR N L 0:=by
  rw[eA]
  rfl
 rw[e]
 exact⟨N.toNat+1,dI (ι:=Nat) (ρ:=bR N L) (ρT:=eH ([N]++[L])) (m:=fun i=>N.toNat-i) (Good:=fun i=>(i:Int)≤N) (run:=qF Try.prog) (fun _=>rfl) fits rfl eL (fun i hi=>aDz N L b0 i hi) (fun _ _ X hX hG=>tQ hX hG) (fun _ _ X hX hG=>cH) (fun i hi=>aJp N L b0 hN i hi) (by decide) (N.toNat+1) 0 b0.1 (by show N.toNat-0<N.toNat+1;omega)⟩
set_option maxHeartbeats 1000000 in
set_option maxRecDepth 100000 in
theorem aKQ (N L:Int) (b0:0≤N∧N≤9223372036854775807) (hN:N=((Lc.dec L).length:Int)):eC Try.prog G GB 8 aLB (eH [N,L]):=by
 refine cS (lp:=aJ8) (run:=aGx Try.prog) (fun _=>rfl) fits (cZ (xs:=[N]) (ls:=[L]) (by exact⟨b0,trivial⟩)) eL (fun X hX hG=>tQ hX hG) (fun X hX hG fn c hf hc=>?_) rfl ?_
 ·refine gD ((congrArg bA (hZ hf hc)).symm.trans aHp) ?_
  intro b hb
  simp only[List.mem_cons,List.mem_nil_iff,or_false]at hb
  subst hb
  refine iI hX hG (by kernel_rfl) ?_
  intro p hp'
  simp only[List.mem_cons,List.mem_nil_iff,or_false]at hp'
  rcases hp' with rfl|rfl
  ·exact aJD N L hN
  ·exact aJM N L hN
 ·skip
  refine aR eV (fun h0=>?_) (fun h0=>?_)
  ·skip
   refine aM aGL ?_
   unfold eV at h0;exact⟨rfl,trivial⟩
  refine aR fQ (fun h1=>?_) (fun h1=>?_)
  ·skip
   refine aR eX (fun h2=>?_) (fun h2=>?_)
   ·skip
    refine aM aG7 ?_
    unfold eV at h0;unfold fQ at h1;unfold eX at h2;exact⟨rfl,trivial⟩
   refine aM aIz ?_
   unfold eV at h0;unfold fQ at h1;unfold eX at h2;exfalso;simp only[nn,List.cons_append,List.nil_append,Bool.or_eq_true,aZ,ne_eq]at h0 h1 h2;have q:=(sO (L:=L) (N:=N) (by have:=h1.1;clear h1 h2;omega)).2 h1.2;exact absurd q h2
  refine aR iF (fun h2=>?_) (fun h2=>?_)
  ·skip
   refine aM aHi ?_
   unfold eV at h0;unfold fQ at h1;unfold iF at h2;exact⟨rfl,trivial⟩
  refine aR jR (fun h3=>?_) (fun h3=>?_)
  ·skip
   refine aM aGN ?_
   unfold eV at h0;unfold fQ at h1;unfold iF at h2;unfold jR at h3;exact⟨rfl,trivial⟩
  refine aR eX (fun h4=>?_) (fun h4=>?_)
  ·skip
   refine aM aEf ?_
   unfold eV at h0;unfold fQ at h1;unfold iF at h2;unfold jR at h3;unfold eX at h4;exact⟨rfl,trivial⟩
  refine aM aD3 ?_
  unfold eV at h0;unfold fQ at h1;unfold iF at h2;unfold jR at h3;unfold eX at h4;exfalso;simp only[nn,List.cons_append,List.nil_append,Bool.or_eq_true,aZ,ne_eq]at h0 h1 h2 h3 h4;have q:=(sO (L:=L) (N:=N) (by clear h1 h3 h4;omega)).2 (by first|exact h3|exact Classical.not_not.1 h3);exact absurd q h4
end Go.Proofs.Ythiehfhphgkaeaa
