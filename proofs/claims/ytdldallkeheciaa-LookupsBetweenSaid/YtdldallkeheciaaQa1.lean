/- What is proved: small facts for the contracts of this seat,in plain Lean. No condition but those that are stated. -/
import Derived.Test.YtdldallkeheciaaQg6
import Derived.Test.YtdldallkeheciaaQg4
import Derived.Test.YtdldallkeheciaaQNn
import Derived.Test.YtdldallkeheciaaQg3
import Derived.Test.YtdldallkeheciaaProg
set_option linter.unusedSimpArgs false
set_option linter.unusedVariables false
namespace Go.Proofs.Ytdldallkeheciaa
open Go Go.RowKit Sx Wi
theorem aY {p:Int × Int} {l:List (Int × Int)} {xs:List Int} (h:fQ (p::l) xs):∃ x ys,xs=x::ys∧(p.1≤x∧x≤p.2)∧fQ l ys:=by
 cases xs with
 |nil=>exact h.elim
 |cons x ys=>exact⟨x,ys,rfl,h.1,h.2⟩
theorem kG {xs:List Int} (h:fQ [] xs):xs=[]:=by
 cases xs with
 |nil=>rfl
 |cons x ys=>exact h.elim
theorem bL {xs:List Int} {n:Nat} (h:xs.length=n+1):∃ a ys,xs=a::ys∧ys.length=n:=by
 cases xs with
 |nil=>cases h
 |cons a ys=>exact⟨a,ys,rfl,by simpa using h⟩
theorem aT (ρ:Nat→Int) (x y:B):B.den G ρ (.and x y)=(B.den G ρ x && B.den G ρ y):=by simp only[B.den]
theorem gN (ρ:Nat→Int) (x y:B):B.den G ρ (.or x y)=(B.den G ρ x ||B.den G ρ y):=by simp only[B.den]
theorem cD (ρ:Nat→Int) (x:Bool):B.den G ρ (.lit x)=x:=by simp only[B.den]
theorem eO (ρ:Nat→Int) (x:B):B.den G ρ (B.neg x) = !B.den G ρ x:=B.neg_den G ρ x
theorem aQJ (x:Int):bZ .and .i64 x 7=x % 8:=by
 have e:(BitVec.ofInt 64 x &&& BitVec.ofInt 64 7).toNat=(BitVec.ofInt 64 x).toNat % 8:=by
  rw[BitVec.toNat_and]
  exact Nat.and_two_pow_sub_one_eq_mod _ 3
 have e2:=BitVec.toNat_ofInt (n:=64) (i:=x)
 show IntKind.i64.wrap ((BitVec.ofInt 64 x &&& BitVec.ofInt 64 7).toNat:Int)=_
 rw[e,e2,IntKind.wrap_i64]
 omega
theorem aBF {x:Int} (h:0≤x∧x<18446744073709551616):(BitVec.ofInt 64 x).toNat=x.toNat:=by
 rw[BitVec.toNat_ofInt];omega
theorem aOR (x:Int) (n:Nat) (hn:n≤16) (h:0≤x∧x<18446744073709551616):bZ .and .u64 x (1*2 ^ n-1)=x % 2 ^ n:=by
 have hp:2 ^ n≤2 ^ 16:=Nat.pow_le_pow_right (by decide) hn
 have h1:1≤2 ^ n:=Nat.one_le_two_pow
 have c:((2 ^ n:Nat):Int)=2 ^ n:=by rw[Int.natCast_pow];rfl
 have e0:(1*2 ^ n-1:Int)=((2 ^ n-1:Nat):Int):=by rw[Int.natCast_sub h1,c];omega
 show IntKind.u64.wrap ((BitVec.ofInt 64 x &&& BitVec.ofInt 64 (1*2 ^ n-1)).toNat:Int)=_
 rw[BitVec.toNat_and,aBF h,e0,aBF ⟨by omega,by omega⟩,Int.toNat_natCast,Nat.and_two_pow_sub_one_eq_mod,IntKind.wrap_u64]
 have e1:((x.toNat % 2 ^ n:Nat):Int)=x % 2 ^ n:=by rw[Int.natCast_emod,c,Int.toNat_of_nonneg h.1]
 have e2:x.toNat % 2 ^ n<2 ^ n:=Nat.mod_lt _ (by omega)
 rw[←e1]
 omega
theorem aE7 (x c:Int) (h:0≤x∧x<72057594037927936) (hc:0≤c∧c<256):bZ .or .u64 (x*256) c=x*256+c:=by
 obtain⟨a,rfl⟩:=Int.eq_ofNat_of_zero_le h.1
 obtain⟨b,rfl⟩:=Int.eq_ofNat_of_zero_le hc.1
 show IntKind.u64.wrap ((BitVec.ofInt 64 ((a:Int)*256) |||BitVec.ofInt 64 (b:Int)).toNat:Int)=_
 rw[BitVec.toNat_or,aBF ⟨by omega,by omega⟩,aBF ⟨by omega,by omega⟩,Int.toNat_natCast,show ((a:Int)*256).toNat=a*2 ^ 8 by omega,IntKind.wrap_u64]
 have k:=Nat.shiftLeft_add_eq_or_of_lt (b:=b) (i:=8) (by omega) a
 rw[Nat.shiftLeft_eq]at k
 rw[←k]
 omega
def aA7 (g h:Ctx→List SV→aM→Res (SV × aM)):Ctx→List SV→aM→Res (SV × aM):=fun X args σ=>
 match g X args σ with
 | .fail _=>h X args σ
 |r=>r
theorem aAH {P:Program} {X:Ctx} {ρ:Nat→Int} {gb:cZ} {f:FuncId} {g h:Ctx→List SV→aM→Res (SV × aM)} (hg:eT P X ρ gb f g) (hh:eT P X ρ gb f h):eT P X ρ gb f (aA7 g h):=by
 intro args σ s σ' e
 unfold aA7 at e
 split at e
 ·exact hh args σ s σ' e
 ·exact hg args σ s σ' e
def rZ (g:Ctx→List SV→aM→Res (SV × aM)):Ctx→List SV→aM→Res (SV × aM):=fun X args σ=>
 (g X args σ).bind fun r=>match r.1 with
  | .bool b=>(Res.testW X b).bind fun t => .ok (.bool (.lit t),r.2)
  |_ => .ok r
theorem mY {P:Program} {X:Ctx} {ρ:Nat→Int} {gb:cZ} {f:FuncId} {g:Ctx→List SV→aM→Res (SV × aM)} (hX:X.Ok ρ) (hg:eT P X ρ gb f g):eT P X ρ gb f (rZ g):=by
 intro args σ s σ' e α w vals hW hv
 unfold rZ at e
 obtain⟨r,hr,e⟩:=Res.bind_ok e
 obtain⟨s0,σ0⟩:=r
 obtain⟨hk,hc⟩:=hg args σ s0 σ0 hr α w vals hW hv
 refine⟨hk,hc.mono ?_⟩
 rintro en w' ⟨v,α',rfl,rv,q⟩
 simp only at e
 split at e
 ·rename_i _ b
  obtain⟨t,ht,e⟩:=Res.bind_ok e
  have ht:=Res.testW_ok hX ht
  cases e
  refine⟨v,α',rfl,?_,q⟩
  simp only[SV.R,B.den]at rv ⊢
  rw[rv,ht]
 ·cases e;exact⟨v,α',rfl,rv,q⟩
end Go.Proofs.Ytdldallkeheciaa
namespace Go.Proofs.Ytdldallkeheciaa
open Go Go.RowKit Sx Wi Lk
def aQV (x0 x1 x2 x3 x4 x5 x6 D R S:Int):Prop:=
 x0=1∧(1≤x1∧x1≤4)∧(∀ i:Nat,(i:Int)<x1→r32 D i 0<r32 D i 1)∧(1≤x2∧x2≤4)∧(∀ i:Nat,(i:Int)<x2→r32 R i 0≤r32 R i 1)∧x3=x1∧
 (∀ i:Nat,(i:Int)<x3→1≤r64 S i 0∧r64 S i 0≤256)∧(x4=1∨x4=2∨x4=4∨x4=8∨x4=12∨x4=16)∧(x5=0∨x5=x1)∧(x6=0∨x6=x2)
set_option maxHeartbeats 4000000 in
set_option maxRecDepth 100000 in
theorem dT {x0 x1 x2 x3 x4 x5 x6 x7 D R S:Int} {ls:List Int} (h:B.den G (dM ([x0,x1,x2,x3,x4,x5,x6,x7]++(D::R::S::ls))) bQ=true):aQV x0 x1 x2 x3 x4 x5 x6 D R S:=by
 unfold bQ at h
 simp only[nn,B.neg_den,List.cons_append,List.nil_append,Bool.or_eq_true,Bool.or_eq_false_iff,Bool.and_eq_false_iff]at h
 obtain⟨h0,h1,h2,h3,h4,h5,h6,h7,h8,h9,h10,h11⟩:=h
 refine⟨h0,⟨by omega,h2⟩,?_,⟨by omega,h5⟩,?_,h7,?_,h9,h10,h11⟩
 ·intro i hi
  clear h6 h8
  have:i=0∨i=1∨i=2∨i=3:=by omega
  rcases this with rfl|rfl|rfl|rfl
  ·show G 82 [D,0,0]<G 82 [D,0,1]
   obtain⟨q,_⟩:=h3
   generalize G 82 [D,0,0]=a at *
   generalize G 82 [D,0,1]=b at *
   omega
  ·show G 82 [D,1,0]<G 82 [D,1,1]
   obtain⟨_,q,_⟩:=h3
   generalize G 82 [D,1,0]=a at *
   generalize G 82 [D,1,1]=b at *
   omega
  ·show G 82 [D,2,0]<G 82 [D,2,1]
   obtain⟨_,_,q,_⟩:=h3
   generalize G 82 [D,2,0]=a at *
   generalize G 82 [D,2,1]=b at *
   omega
  ·show G 82 [D,3,0]<G 82 [D,3,1]
   obtain⟨_,_,_,q⟩:=h3
   generalize G 82 [D,3,0]=a at *
   generalize G 82 [D,3,1]=b at *
   omega
 ·intro i hi
  clear h3 h8
  have:i=0∨i=1∨i=2∨i=3:=by omega
  rcases this with rfl|rfl|rfl|rfl
  ·show G 82 [R,0,0]≤G 82 [R,0,1]
   obtain⟨q,_⟩:=h6
   generalize G 82 [R,0,0]=a at *
   generalize G 82 [R,0,1]=b at *
   omega
  ·show G 82 [R,1,0]≤G 82 [R,1,1]
   obtain⟨_,q,_⟩:=h6
   generalize G 82 [R,1,0]=a at *
   generalize G 82 [R,1,1]=b at *
   omega
  ·show G 82 [R,2,0]≤G 82 [R,2,1]
   obtain⟨_,_,q,_⟩:=h6
   generalize G 82 [R,2,0]=a at *
   generalize G 82 [R,2,1]=b at *
   omega
  ·show G 82 [R,3,0]≤G 82 [R,3,1]
   obtain⟨_,_,_,q⟩:=h6
   generalize G 82 [R,3,0]=a at *
   generalize G 82 [R,3,1]=b at *
   omega
 ·intro i hi
  clear h3 h6
  have:i=0∨i=1∨i=2∨i=3:=by omega
  rcases this with rfl|rfl|rfl|rfl
  ·show 1≤G 83 [S,0,0]∧G 83 [S,0,0]≤256
   obtain⟨q,_⟩:=h8
   generalize G 83 [S,0,0]=a at *
   omega
  ·show 1≤G 83 [S,1,0]∧G 83 [S,1,0]≤256
   obtain⟨_,q,_⟩:=h8
   generalize G 83 [S,1,0]=a at *
   omega
  ·show 1≤G 83 [S,2,0]∧G 83 [S,2,0]≤256
   obtain⟨_,_,q,_⟩:=h8
   generalize G 83 [S,2,0]=a at *
   omega
  ·show 1≤G 83 [S,3,0]∧G 83 [S,3,0]≤256
   obtain⟨_,_,_,q,_⟩:=h8
   generalize G 83 [S,3,0]=a at *
   omega
theorem tQ {nR bits S:Int} {m:Nat} (h0:1≤nR*bits) (hs:∀ i:Nat,i<m→1≤r64 S i 0):∀ k,k≤m→1≤aL nR bits S k
 |0,_=>h0
 |k+1,hk=>by
  have a:=tQ h0 hs k (by omega)
  have b:=hs k (by omega)
  have:=Int.mul_le_mul a b (by decide) (by omega)
  simpa [aL]using this
theorem aFl {nR bits S:Int} {m:Nat} (h0:1≤nR*bits) (hs:∀ i:Nat,i<m→1≤r64 S i 0) {k:Nat}:∀ d,k+d≤m→aL nR bits S k≤aL nR bits S (k+d)
 |0,_=>Int.le_refl _
 |d+1,hd=>by
  have a:=aFl h0 hs (k:=k) d (by omega)
  have p:=tQ h0 hs (k+d) (by omega)
  have b:=hs (k+d) (by omega)
  have:=Int.mul_le_mul_of_nonneg_left b (show 0≤aL nR bits S (k+d)by omega)
  rw[Int.mul_one]at this
  show _≤aL nR bits S (k+d)*r64 S ((k+d:Nat):Int) 0
  omega
theorem aGP {nR bits S:Int} {m:Nat} (h0:nR*bits≤64) (hp:1≤nR*bits) (hs:∀ i:Nat,i<m→1≤r64 S i 0∧r64 S i 0≤256):∀ k,k≤m→aL nR bits S k≤64*256 ^ k
 |0,_=>by simpa [aL]using h0
 |k+1,hk=>by
  have a:=aGP h0 hp hs k (by omega)
  have p:=tQ hp (fun i hi=>(hs i hi).1) k (by omega)
  have b:=hs k (by omega)
  have q:=Int.mul_le_mul a b.2 (by omega) (by have:(0:Int)≤256 ^ k:=Int.pow_nonneg (by decide);omega)
  show aL nR bits S k*r64 S k 0≤_
  rw[Int.pow_succ,←Int.mul_assoc];exact q
theorem aHG {x0 x1 x2 x3 x4 x5 x6 D R S:Int} (h:aQV x0 x1 x2 x3 x4 x5 x6 D R S):(1≤x2*x4∧x2*x4≤64)∧
  (∀ k:Nat,(k:Int)≤x3→1≤aL x2 x4 S k∧aL x2 x4 S k≤64*256 ^ k∧aL x2 x4 S k≤aL x2 x4 S x3.toNat):=by
 obtain⟨_,h1,_,h2,_,e3,hs,h4,_⟩:=h
 have hb:1≤x4∧x4≤16:=by omega
 have a:=Int.mul_le_mul h2.1 hb.1 (by decide) (by omega)
 have b:=Int.mul_le_mul h2.2 hb.2 (by omega) (by decide)
 have ab:1≤x2*x4∧x2*x4≤64:=⟨by simpa using a,by simpa using b⟩
 refine⟨ab,fun k hk=>?_⟩
 have hs':∀ i:Nat,i<x3.toNat→1≤r64 S i 0∧r64 S i 0≤256:=fun i hi=>hs i (by omega)
 refine⟨tQ ab.1 (fun i hi=>(hs' i hi).1) k (by omega),aGP ab.2 ab.1 hs' k (by omega),?_⟩
 have:=aFl ab.1 (fun i hi=>(hs' i hi).1) (k:=k) (x3.toNat-k) (by omega)
 rwa [show k+(x3.toNat-k)=x3.toNat by omega]at this
section
variable {x0 x1 x2 x3 x4 x5 x6 x7 D R S:Int} {ls:List Int}
theorem aI5 (h:B.den G (dM ([x0,x1,x2,x3,x4,x5,x6,x7]++(D::R::S::ls))) bQ=false):(4:Int)=G 72 [x0,x1,x2,x3,x4,x5,x6,x7,D,R,S]:=by
 have h':B.den wG (dM [x0,x1,x2,x3,x4,x5,x6,x7,D,R,S]) bQ=false:=h
 have e:G 72 [x0,x1,x2,x3,x4,x5,x6,x7,D,R,S]=if B.den wG (dM [x0,x1,x2,x3,x4,x5,x6,x7,D,R,S]) bQ=true then (if 524288<aL x2 x4 S x3.toNat then 3 else 5) else 4:=rfl
 rw[e,if_neg (by rw[h'];decide)]
theorem lT (h:B.den G (dM ([x0,x1,x2,x3,x4,x5,x6,x7]++(D::R::S::ls))) bQ=true) (q:524288<aL x2 x4 S x3.toNat):(3:Int)=G 72 [x0,x1,x2,x3,x4,x5,x6,x7,D,R,S]:=by
 have h':B.den wG (dM [x0,x1,x2,x3,x4,x5,x6,x7,D,R,S]) bQ=true:=h
 have e:G 72 [x0,x1,x2,x3,x4,x5,x6,x7,D,R,S]=if B.den wG (dM [x0,x1,x2,x3,x4,x5,x6,x7,D,R,S]) bQ=true then (if 524288<aL x2 x4 S x3.toNat then 3 else 5) else 4:=rfl
 rw[e,if_pos h',if_pos q]
theorem gY (h:B.den G (dM ([x0,x1,x2,x3,x4,x5,x6,x7]++(D::R::S::ls))) bQ=true) (q:aL x2 x4 S x3.toNat≤524288):(5:Int)=G 72 [x0,x1,x2,x3,x4,x5,x6,x7,D,R,S]:=by
 have h':B.den wG (dM [x0,x1,x2,x3,x4,x5,x6,x7,D,R,S]) bQ=true:=h
 have e:G 72 [x0,x1,x2,x3,x4,x5,x6,x7,D,R,S]=if B.den wG (dM [x0,x1,x2,x3,x4,x5,x6,x7,D,R,S]) bQ=true then (if 524288<aL x2 x4 S x3.toNat then 3 else 5) else 4:=rfl
 rw[e,if_pos h',if_neg (by omega)]
end
end Go.Proofs.Ytdldallkeheciaa
set_option maxRecDepth 100000
namespace Go.Proofs.Ytdldallkeheciaa
open Go Go.RowKit Sx Wi Lk
def iK (P:Program) (fs:List B):Res SV:=cO G GI [((-2147483648),2147483647),((-2147483648),2147483647),((-2147483648),2147483647),((-2147483648),2147483647),((-2147483648),2147483647)] fs (fun X=>aAr P X GB aNa 3000 50 [(.int .i32 (.var 0)),(.agg [(.int .i32 (.var 1)),(.int .i32 (.var 2))]),(.agg [(.int .i32 (.var 3)),(.int .i32 (.var 4))])])
def aCa:List B:=[]
def aFw:B:=(.cmp .eq (.op .sub (.var 2) (.var 1)) (.lit 0))
def aP2:List B:=aI aFw++aCa
def aBP:List B:=aI (B.neg aFw)++aCa
def aFM:B:=(.cmp .lt (.op .sub (.var 2) (.var 1)) (.lit 0))
def aBD:List B:=aI aFM++aBP
def aEP:B:=(.cmp .le (.lit (-9223372036854775808)) (.app 2 (.cons (.op .add (.op .mul (.op .sub (.lit 0) (.op .sub (.var 0) (.var 1))) (.op .sub (.var 4) (.var 3))) (.op .mul (.var 3) (.op .sub (.lit 0) (.op .sub (.var 2) (.var 1))))) (.cons (.op .sub (.lit 0) (.op .sub (.var 2) (.var 1))) .nil))))
def aBU:List B:=aI aEP++aBD
def aE1:B:=(.cmp .le (.app 2 (.cons (.op .add (.op .mul (.op .sub (.lit 0) (.op .sub (.var 0) (.var 1))) (.op .sub (.var 4) (.var 3))) (.op .mul (.var 3) (.op .sub (.lit 0) (.op .sub (.var 2) (.var 1))))) (.cons (.op .sub (.lit 0) (.op .sub (.var 2) (.var 1))) .nil))) (.lit 9223372036854775807))
def aMD:List B:=aI aE1++aBU
def aLv:List B:=aI (B.neg aE1)++aBU
def aPo:List B:=aI (B.neg aEP)++aBD
def aA4:List B:=aI (B.neg aFM)++aBP
def aGv:B:=(.cmp .le (.lit (-9223372036854775808)) (.app 2 (.cons (.op .add (.op .mul (.op .sub (.var 0) (.var 1)) (.op .sub (.var 4) (.var 3))) (.op .mul (.var 3) (.op .sub (.var 2) (.var 1)))) (.cons (.op .sub (.var 2) (.var 1)) .nil))))
def aB8:List B:=aI aGv++aA4
def aFf:B:=(.cmp .le (.app 2 (.cons (.op .add (.op .mul (.op .sub (.var 0) (.var 1)) (.op .sub (.var 4) (.var 3))) (.op .mul (.var 3) (.op .sub (.var 2) (.var 1)))) (.cons (.op .sub (.var 2) (.var 1)) .nil))) (.lit 9223372036854775807))
def aJD:List B:=aI aFf++aB8
def aKK:List B:=aI (B.neg aFf)++aB8
def aJb:List B:=aI (B.neg aGv)++aA4
theorem aNY:iK Try.prog aCa = .need (.cmp .eq (.op .sub (.var 2) (.var 1)) (.lit 0)):=by kernel_rfl
theorem aQs:iK Try.prog aP2 = .ok (.tuple [(.int .i32 (.lit 0)),(.int .i64 (.lit 12))]):=by kernel_rfl
theorem aLC:iK Try.prog aBP = .need (.cmp .lt (.op .sub (.var 2) (.var 1)) (.lit 0)):=by kernel_rfl
theorem aNQ:iK Try.prog aBD = .need (.cmp .le (.lit (-9223372036854775808)) (.app 2 (.cons (.op .add (.op .mul (.op .sub (.lit 0) (.op .sub (.var 0) (.var 1))) (.op .sub (.var 4) (.var 3))) (.op .mul (.var 3) (.op .sub (.lit 0) (.op .sub (.var 2) (.var 1))))) (.cons (.op .sub (.lit 0) (.op .sub (.var 2) (.var 1))) .nil)))):=by kernel_rfl
theorem aPA:iK Try.prog aBU = .need (.cmp .le (.app 2 (.cons (.op .add (.op .mul (.op .sub (.lit 0) (.op .sub (.var 0) (.var 1))) (.op .sub (.var 4) (.var 3))) (.op .mul (.var 3) (.op .sub (.lit 0) (.op .sub (.var 2) (.var 1))))) (.cons (.op .sub (.lit 0) (.op .sub (.var 2) (.var 1))) .nil))) (.lit 9223372036854775807)):=by kernel_rfl
theorem aOE:iK Try.prog aMD = .ok (.tuple [(.int .i32 (.op .max (.lit (-2147483648)) (.op .min (.lit 2147483647) (.app 2 (.cons (.op .add (.op .mul (.op .sub (.lit 0) (.op .sub (.var 0) (.var 1))) (.op .sub (.var 4) (.var 3))) (.op .mul (.var 3) (.op .sub (.lit 0) (.op .sub (.var 2) (.var 1))))) (.cons (.op .sub (.lit 0) (.op .sub (.var 2) (.var 1))) .nil)))))),(.int .i64 (.lit 0))]):=by kernel_rfl
theorem aNp:iK Try.prog aLv = .ok (.tuple [(.int .i32 (.lit 2147483647)),(.int .i64 (.lit 0))]):=by kernel_rfl
theorem aNP:iK Try.prog aPo = .ok (.tuple [(.int .i32 (.lit (-2147483648))),(.int .i64 (.lit 0))]):=by kernel_rfl
theorem aNb:iK Try.prog aA4 = .need (.cmp .le (.lit (-9223372036854775808)) (.app 2 (.cons (.op .add (.op .mul (.op .sub (.var 0) (.var 1)) (.op .sub (.var 4) (.var 3))) (.op .mul (.var 3) (.op .sub (.var 2) (.var 1)))) (.cons (.op .sub (.var 2) (.var 1)) .nil)))):=by kernel_rfl
theorem aNw:iK Try.prog aB8 = .need (.cmp .le (.app 2 (.cons (.op .add (.op .mul (.op .sub (.var 0) (.var 1)) (.op .sub (.var 4) (.var 3))) (.op .mul (.var 3) (.op .sub (.var 2) (.var 1)))) (.cons (.op .sub (.var 2) (.var 1)) .nil))) (.lit 9223372036854775807)):=by kernel_rfl
theorem aJS:iK Try.prog aJD = .ok (.tuple [(.int .i32 (.op .max (.lit (-2147483648)) (.op .min (.lit 2147483647) (.app 2 (.cons (.op .add (.op .mul (.op .sub (.var 0) (.var 1)) (.op .sub (.var 4) (.var 3))) (.op .mul (.var 3) (.op .sub (.var 2) (.var 1)))) (.cons (.op .sub (.var 2) (.var 1)) .nil)))))),(.int .i64 (.lit 0))]):=by kernel_rfl
theorem aKB:iK Try.prog aKK = .ok (.tuple [(.int .i32 (.lit 2147483647)),(.int .i64 (.lit 0))]):=by kernel_rfl
theorem aKN:iK Try.prog aJb = .ok (.tuple [(.int .i32 (.lit (-2147483648))),(.int .i64 (.lit 0))]):=by kernel_rfl
end Go.Proofs.Ytdldallkeheciaa
set_option maxRecDepth 100000
namespace Go.Proofs.Ytdldallkeheciaa
open Go Go.RowKit Sx Wi Lk
def aQQ (P:Program) (fs:List B):Res SV:=cO G GI [(0,30000)] fs (fun X=>aAr P X GB aNa 3000 49 [(.int .i64 (.var 0))])
def aTn:List B:=[]
theorem aSO:aQQ Try.prog aTn = .ok (.int .i32 (.op .max (.lit (-2147483648)) (.op .min (.lit 2147483647) (.app 2 (.cons (.op .mul (.var 0) (.lit 65536)) (.cons (.lit 1) .nil)))))):=by kernel_rfl
end Go.Proofs.Ytdldallkeheciaa
namespace Go.Proofs.Ytdldallkeheciaa
open Go Go.RowKit Sx Wi Lk
set_option maxRecDepth 100000 in
theorem aH7 (x0 x1 x2 x3 x4:Int) (b0:(-2147483648)≤x0∧x0≤2147483647) (b1:(-2147483648)≤x1∧x1≤2147483647) (b2:(-2147483648)≤x2∧x2≤2147483647) (b3:(-2147483648)≤x3∧x3≤2147483647) (b4:(-2147483648)≤x4∧x4≤2147483647) (w:World) (hw:WOk GB w):fH Try.prog 50∧Calls Try.prog 50 #[.int .i32 x0,(.agg #[.int .i32 x1,.int .i32 x2]),(.agg #[.int .i32 x3,.int .i32 x4])] w (fun e w'=>e = .returned (if x2-x1=0 then .tuple #[.int .i32 0,.int .i64 12] else .tuple #[.int .i32 (Fx.line x0 x1 x2 x3 x4),.int .i64 0])∧Below w.heap.size w w'):=by
 refine xU (sG (ρ:=dM [x0,x1,x2,x3,x4]) (run:=fun fs=>iK Try.prog fs) (fun _=>rfl) fits (lA ⟨b0,b1,b2,b3,b4,trivial⟩) iJ (fun X hX hG=>aBn hX hG) rfl rfl pI ?_ w hw)
 refine nH aNY (fun h0=>?_) (fun h0=>?_)
 ·skip
  refine aH aQs ?_
  refine⟨rfl,?_⟩;simp only[nn,G,wG,xG4]at *;first|(rw[if_pos (by omega)]<;>rfl)|(rw[if_neg (by omega),rD _ _ _ _ _ (by omega)];first|(rw[iF (by omega)]<;>rfl)|(rw[iA (by omega)]<;>rfl)|(rw[←iT]<;>rfl))|(rw[if_neg (by omega),rJ _ _ _ _ _ (by omega)];first|(rw[iF (by omega)]<;>rfl)|(rw[iA (by omega)]<;>rfl)|(rw[←iT]<;>rfl))
 refine nH aLC (fun h1=>?_) (fun h1=>?_)
 ·skip
  refine nH aNQ (fun h2=>?_) (fun h2=>?_)
  rotate_left
  ·skip
   refine aH aNP ?_
   refine⟨rfl,?_⟩;simp only[nn,G,wG,xG4]at *;first|(rw[if_pos (by omega)]<;>rfl)|(rw[if_neg (by omega),rD _ _ _ _ _ (by omega)];first|(rw[iF (by omega)]<;>rfl)|(rw[iA (by omega)]<;>rfl)|(rw[←iT]<;>rfl))|(rw[if_neg (by omega),rJ _ _ _ _ _ (by omega)];first|(rw[iF (by omega)]<;>rfl)|(rw[iA (by omega)]<;>rfl)|(rw[←iT]<;>rfl))
  refine nH aPA (fun h3=>?_) (fun h3=>?_)
  ·skip
   refine aH aOE ?_
   refine⟨rfl,?_⟩;simp only[nn,G,wG,xG4]at *;first|(rw[if_pos (by omega)]<;>rfl)|(rw[if_neg (by omega),rD _ _ _ _ _ (by omega)];first|(rw[iF (by omega)]<;>rfl)|(rw[iA (by omega)]<;>rfl)|(rw[←iT]<;>rfl))|(rw[if_neg (by omega),rJ _ _ _ _ _ (by omega)];first|(rw[iF (by omega)]<;>rfl)|(rw[iA (by omega)]<;>rfl)|(rw[←iT]<;>rfl))
  refine aH aNp ?_
  refine⟨rfl,?_⟩;simp only[nn,G,wG,xG4]at *;first|(rw[if_pos (by omega)]<;>rfl)|(rw[if_neg (by omega),rD _ _ _ _ _ (by omega)];first|(rw[iF (by omega)]<;>rfl)|(rw[iA (by omega)]<;>rfl)|(rw[←iT]<;>rfl))|(rw[if_neg (by omega),rJ _ _ _ _ _ (by omega)];first|(rw[iF (by omega)]<;>rfl)|(rw[iA (by omega)]<;>rfl)|(rw[←iT]<;>rfl))
 refine nH aNb (fun h2=>?_) (fun h2=>?_)
 rotate_left
 ·skip
  refine aH aKN ?_
  refine⟨rfl,?_⟩;simp only[nn,G,wG,xG4]at *;first|(rw[if_pos (by omega)]<;>rfl)|(rw[if_neg (by omega),rD _ _ _ _ _ (by omega)];first|(rw[iF (by omega)]<;>rfl)|(rw[iA (by omega)]<;>rfl)|(rw[←iT]<;>rfl))|(rw[if_neg (by omega),rJ _ _ _ _ _ (by omega)];first|(rw[iF (by omega)]<;>rfl)|(rw[iA (by omega)]<;>rfl)|(rw[←iT]<;>rfl))
 refine nH aNw (fun h3=>?_) (fun h3=>?_)
 ·skip
  refine aH aJS ?_
  refine⟨rfl,?_⟩;simp only[nn,G,wG,xG4]at *;first|(rw[if_pos (by omega)]<;>rfl)|(rw[if_neg (by omega),rD _ _ _ _ _ (by omega)];first|(rw[iF (by omega)]<;>rfl)|(rw[iA (by omega)]<;>rfl)|(rw[←iT]<;>rfl))|(rw[if_neg (by omega),rJ _ _ _ _ _ (by omega)];first|(rw[iF (by omega)]<;>rfl)|(rw[iA (by omega)]<;>rfl)|(rw[←iT]<;>rfl))
 refine aH aKB ?_
 refine⟨rfl,?_⟩;simp only[nn,G,wG,xG4]at *;first|(rw[if_pos (by omega)]<;>rfl)|(rw[if_neg (by omega),rD _ _ _ _ _ (by omega)];first|(rw[iF (by omega)]<;>rfl)|(rw[iA (by omega)]<;>rfl)|(rw[←iT]<;>rfl))|(rw[if_neg (by omega),rJ _ _ _ _ _ (by omega)];first|(rw[iF (by omega)]<;>rfl)|(rw[iA (by omega)]<;>rfl)|(rw[←iT]<;>rfl))
def rI:nI:=fun X args=>
 match args with
 |[.int .i32 a0,(.agg [.int .i32 a1,.int .i32 a2]),(.agg [.int .i32 a3,.int .i32 a4])]=>if a0.fits X .i32 && a1.fits X .i32 && a2.fits X .i32 && a3.fits X .i32 && a4.fits X .i32 then (Res.test X (.cmp .eq (.op .sub a2 a1) (.lit 0))).bind fun t=>if t then .ok (.tuple [.int .i32 (.lit 0),.int .i64 (.lit 12)]) else .ok (.tuple [.int .i32 (.app 4 (.cons a0 (.cons a1 (.cons a2 (.cons a3 (.cons a4 .nil)))))),.int .i64 (.lit 0)]) else .fail 200
 |_ => .fail 201
theorem aPS {X:Ctx} {ρ:Nat→Int} (hX:X.Ok ρ) (hG:X.G=G):iL Try.prog X ρ GB 50 rI:=by
 obtain⟨XG,XI,XV,XF⟩:=X
 simp only at hG
 subst hG
 intro args s h α w vals hv hw
 unfold rI at h
 split at h
 ·split at h
  ·rename_i hg
   try simp only[Bool.and_eq_true]at hg
   obtain⟨⟨⟨⟨g0,g1⟩,g2⟩,g3⟩,g4⟩:=hg
   obtain⟨t,ht,h⟩:=Res.bind_ok h
   have ht:=Res.test_ok hX ht
   have k:=aH7 _ _ _ _ _ (E.fits_in hX g0) (E.fits_in hX g1) (E.fits_in hX g2) (E.fits_in hX g3) (E.fits_in hX g4) w hw
   cases t with
   |true=>
    cases h
    simp only[B.den,aJi,E.den,aEQ,decide_eq_true_eq]at ht
    rw[if_pos ht]at k
    exact cW hv rfl rfl k
   |false=>
    cases h
    simp only[B.den,aJi,E.den,aEQ,decide_eq_false_iff_not]at ht
    rw[if_neg ht]at k
    exact cW hv rfl rfl k
  ·cases h
 ·cases h
set_option maxRecDepth 100000 in
theorem aL2 (x0:Int) (b0:0≤x0∧x0≤30000) (w:World) (hw:WOk GB w):fH Try.prog 49∧Calls Try.prog 49 #[.int .i64 x0] w (fun e w'=>e = .returned (.int .i32 (x0*65536))∧Below w.heap.size w w'):=by
 refine xU (sG (ρ:=dM [x0]) (run:=fun fs=>aQQ Try.prog fs) (fun _=>rfl) fits (lA ⟨b0,trivial⟩) iJ (fun X hX hG=>aBn hX hG) rfl rfl pI ?_ w hw)
 refine aH aSO ?_
 refine⟨rfl,?_⟩;simp only[nn,G,wG,xG4]at *;rw[aSo];congr 1;omega
def uX:nI:=fun X args=>
 match args with
 |[.int .i64 a0]=>if a0.lies X 0 30000 then .ok (.int .i32 (.op .mul a0 (.lit 65536))) else .fail 200
 |_ => .fail 201
theorem aSf {X:Ctx} {ρ:Nat→Int} (hX:X.Ok ρ) (hG:X.G=G):iL Try.prog X ρ GB 49 uX:=by
 obtain⟨XG,XI,XV,XF⟩:=X
 simp only at hG
 subst hG
 intro args s h α w vals hv hw
 unfold uX at h
 split at h
 ·split at h
  ·rename_i hg
   try simp only[Bool.and_eq_true]at hg
   have g0:=hg
   cases h
   exact cW hv rfl rfl (aL2 _ (E.lies_in hX g0) w hw)
  ·cases h
 ·cases h
def aGf:bA:=kC 50 rI aNa
theorem aEr {X:Ctx} {ρ:Nat→Int} (hX:X.Ok ρ) (hG:X.G=G):fL Try.prog X ρ GB aGf:=eZ (aPS hX hG) (aBn hX hG)
def jY:bA:=kC 49 uX aGf
theorem eL {X:Ctx} {ρ:Nat→Int} (hX:X.Ok ρ) (hG:X.G=G):fL Try.prog X ρ GB jY:=eZ (aSf hX hG) (aEr hX hG)
def aUi:B:=(.lit true)
def aSu:FunS:=⟨[(.own 0 (.var 0) none),(.func (.func 92) [] [(.ptr 1 0)])],[some ([.vec [.int .i32,.int .i32] (.var 1) (.var 0) true],aG),some ([(.bool (.lit true))],4)],aUi,(.bool (.or (.and (.cmp .lt (.lit 0) (.var 0)) (.cmp .le (.app 82 (.cons (.var 1) (.cons (.lit 0) (.cons (.lit 1) .nil)))) (.app 82 (.cons (.var 1) (.cons (.lit 0) (.cons (.lit 0) .nil)))))) (.or (.and (.cmp .lt (.lit 1) (.var 0)) (.cmp .le (.app 82 (.cons (.var 1) (.cons (.lit 1) (.cons (.lit 1) .nil)))) (.app 82 (.cons (.var 1) (.cons (.lit 1) (.cons (.lit 0) .nil)))))) (.or (.and (.cmp .lt (.lit 2) (.var 0)) (.cmp .le (.app 82 (.cons (.var 1) (.cons (.lit 2) (.cons (.lit 1) .nil)))) (.app 82 (.cons (.var 1) (.cons (.lit 2) (.cons (.lit 0) .nil)))))) (.and (.cmp .lt (.lit 3) (.var 0)) (.cmp .le (.app 82 (.cons (.var 1) (.cons (.lit 3) (.cons (.lit 1) .nil)))) (.app 82 (.cons (.var 1) (.cons (.lit 3) (.cons (.lit 0) .nil)))))))))),[some ([.vec [.int .i32,.int .i32] (.var 1) (.var 0) true],aG),some ([(.bool (.lit true))],4)],(.bool (.or (.and (.cmp .lt (.lit 0) (.var 0)) (.cmp .le (.app 82 (.cons (.var 1) (.cons (.lit 0) (.cons (.lit 1) .nil)))) (.app 82 (.cons (.var 1) (.cons (.lit 0) (.cons (.lit 0) .nil)))))) (.or (.and (.cmp .lt (.lit 1) (.var 0)) (.cmp .le (.app 82 (.cons (.var 1) (.cons (.lit 1) (.cons (.lit 1) .nil)))) (.app 82 (.cons (.var 1) (.cons (.lit 1) (.cons (.lit 0) .nil)))))) (.or (.and (.cmp .lt (.lit 2) (.var 0)) (.cmp .le (.app 82 (.cons (.var 1) (.cons (.lit 2) (.cons (.lit 1) .nil)))) (.app 82 (.cons (.var 1) (.cons (.lit 2) (.cons (.lit 0) .nil)))))) (.and (.cmp .lt (.lit 3) (.var 0)) (.cmp .le (.app 82 (.cons (.var 1) (.cons (.lit 3) (.cons (.lit 1) .nil)))) (.app 82 (.cons (.var 1) (.cons (.lit 3) (.cons (.lit 0) .nil)))))))))),[some ([.vec [.int .i32,.int .i32] (.var 1) (.var 0) true],aG),some ([(.bool (.lit true))],4)]⟩
def aIX (P:Program) (fs:List B):Res SV:=cO G GI [(1,4)] fs fun X=>gQ P X GB jY eG 4000 91 aSu
def aUd:B:=(.lit true)
def aSW:FunS:=⟨[(.own 0 (.var 0) none),(.func (.func 92) [] [(.ptr 1 0)])],[some ([.vec [.int .i32,.int .i32] (.var 1) (.var 0) true],aG),some ([(.bool (.lit false))],4)],aUd,(.bool (.or (.and (.cmp .lt (.lit 0) (.var 0)) (.cmp .lt (.app 82 (.cons (.var 1) (.cons (.lit 0) (.cons (.lit 1) .nil)))) (.app 82 (.cons (.var 1) (.cons (.lit 0) (.cons (.lit 0) .nil)))))) (.or (.and (.cmp .lt (.lit 1) (.var 0)) (.cmp .lt (.app 82 (.cons (.var 1) (.cons (.lit 1) (.cons (.lit 1) .nil)))) (.app 82 (.cons (.var 1) (.cons (.lit 1) (.cons (.lit 0) .nil)))))) (.or (.and (.cmp .lt (.lit 2) (.var 0)) (.cmp .lt (.app 82 (.cons (.var 1) (.cons (.lit 2) (.cons (.lit 1) .nil)))) (.app 82 (.cons (.var 1) (.cons (.lit 2) (.cons (.lit 0) .nil)))))) (.and (.cmp .lt (.lit 3) (.var 0)) (.cmp .lt (.app 82 (.cons (.var 1) (.cons (.lit 3) (.cons (.lit 1) .nil)))) (.app 82 (.cons (.var 1) (.cons (.lit 3) (.cons (.lit 0) .nil)))))))))),[some ([.vec [.int .i32,.int .i32] (.var 1) (.var 0) true],aG),some ([(.bool (.lit false))],4)],(.bool (.or (.and (.cmp .lt (.lit 0) (.var 0)) (.cmp .lt (.app 82 (.cons (.var 1) (.cons (.lit 0) (.cons (.lit 1) .nil)))) (.app 82 (.cons (.var 1) (.cons (.lit 0) (.cons (.lit 0) .nil)))))) (.or (.and (.cmp .lt (.lit 1) (.var 0)) (.cmp .lt (.app 82 (.cons (.var 1) (.cons (.lit 1) (.cons (.lit 1) .nil)))) (.app 82 (.cons (.var 1) (.cons (.lit 1) (.cons (.lit 0) .nil)))))) (.or (.and (.cmp .lt (.lit 2) (.var 0)) (.cmp .lt (.app 82 (.cons (.var 1) (.cons (.lit 2) (.cons (.lit 1) .nil)))) (.app 82 (.cons (.var 1) (.cons (.lit 2) (.cons (.lit 0) .nil)))))) (.and (.cmp .lt (.lit 3) (.var 0)) (.cmp .lt (.app 82 (.cons (.var 1) (.cons (.lit 3) (.cons (.lit 1) .nil)))) (.app 82 (.cons (.var 1) (.cons (.lit 3) (.cons (.lit 0) .nil)))))))))),[some ([.vec [.int .i32,.int .i32] (.var 1) (.var 0) true],aG),some ([(.bool (.lit false))],4)]⟩
def aI1 (P:Program) (fs:List B):Res SV:=cO G GI [(1,4)] fs fun X=>gQ P X GB jY eG 4000 91 aSW
def aUb:B:=(.lit true)
def aSc:FunS:=⟨[(.own 0 (.var 0) none),(.func (.func 71) [] [])],[some ([.vec [.int .i64] (.var 1) (.var 0) true],aG)],aUb,(.bool (.or (.and (.cmp .lt (.lit 0) (.var 0)) (.or (.cmp .lt (.app 83 (.cons (.var 1) (.cons (.lit 0) (.cons (.lit 0) .nil)))) (.lit 1)) (.cmp .lt (.lit 256) (.app 83 (.cons (.var 1) (.cons (.lit 0) (.cons (.lit 0) .nil))))))) (.or (.and (.cmp .lt (.lit 1) (.var 0)) (.or (.cmp .lt (.app 83 (.cons (.var 1) (.cons (.lit 1) (.cons (.lit 0) .nil)))) (.lit 1)) (.cmp .lt (.lit 256) (.app 83 (.cons (.var 1) (.cons (.lit 1) (.cons (.lit 0) .nil))))))) (.or (.and (.cmp .lt (.lit 2) (.var 0)) (.or (.cmp .lt (.app 83 (.cons (.var 1) (.cons (.lit 2) (.cons (.lit 0) .nil)))) (.lit 1)) (.cmp .lt (.lit 256) (.app 83 (.cons (.var 1) (.cons (.lit 2) (.cons (.lit 0) .nil))))))) (.or (.and (.cmp .lt (.lit 3) (.var 0)) (.or (.cmp .lt (.app 83 (.cons (.var 1) (.cons (.lit 3) (.cons (.lit 0) .nil)))) (.lit 1)) (.cmp .lt (.lit 256) (.app 83 (.cons (.var 1) (.cons (.lit 3) (.cons (.lit 0) .nil))))))) (.or (.and (.cmp .lt (.lit 4) (.var 0)) (.or (.cmp .lt (.app 83 (.cons (.var 1) (.cons (.lit 4) (.cons (.lit 0) .nil)))) (.lit 1)) (.cmp .lt (.lit 256) (.app 83 (.cons (.var 1) (.cons (.lit 4) (.cons (.lit 0) .nil))))))) (.or (.and (.cmp .lt (.lit 5) (.var 0)) (.or (.cmp .lt (.app 83 (.cons (.var 1) (.cons (.lit 5) (.cons (.lit 0) .nil)))) (.lit 1)) (.cmp .lt (.lit 256) (.app 83 (.cons (.var 1) (.cons (.lit 5) (.cons (.lit 0) .nil))))))) (.or (.and (.cmp .lt (.lit 6) (.var 0)) (.or (.cmp .lt (.app 83 (.cons (.var 1) (.cons (.lit 6) (.cons (.lit 0) .nil)))) (.lit 1)) (.cmp .lt (.lit 256) (.app 83 (.cons (.var 1) (.cons (.lit 6) (.cons (.lit 0) .nil))))))) (.and (.cmp .lt (.lit 7) (.var 0)) (.or (.cmp .lt (.app 83 (.cons (.var 1) (.cons (.lit 7) (.cons (.lit 0) .nil)))) (.lit 1)) (.cmp .lt (.lit 256) (.app 83 (.cons (.var 1) (.cons (.lit 7) (.cons (.lit 0) .nil))))))))))))))),[some ([.vec [.int .i64] (.var 1) (.var 0) true],aG)],(.bool (.or (.and (.cmp .lt (.lit 0) (.var 0)) (.or (.cmp .lt (.app 83 (.cons (.var 1) (.cons (.lit 0) (.cons (.lit 0) .nil)))) (.lit 1)) (.cmp .lt (.lit 256) (.app 83 (.cons (.var 1) (.cons (.lit 0) (.cons (.lit 0) .nil))))))) (.or (.and (.cmp .lt (.lit 1) (.var 0)) (.or (.cmp .lt (.app 83 (.cons (.var 1) (.cons (.lit 1) (.cons (.lit 0) .nil)))) (.lit 1)) (.cmp .lt (.lit 256) (.app 83 (.cons (.var 1) (.cons (.lit 1) (.cons (.lit 0) .nil))))))) (.or (.and (.cmp .lt (.lit 2) (.var 0)) (.or (.cmp .lt (.app 83 (.cons (.var 1) (.cons (.lit 2) (.cons (.lit 0) .nil)))) (.lit 1)) (.cmp .lt (.lit 256) (.app 83 (.cons (.var 1) (.cons (.lit 2) (.cons (.lit 0) .nil))))))) (.or (.and (.cmp .lt (.lit 3) (.var 0)) (.or (.cmp .lt (.app 83 (.cons (.var 1) (.cons (.lit 3) (.cons (.lit 0) .nil)))) (.lit 1)) (.cmp .lt (.lit 256) (.app 83 (.cons (.var 1) (.cons (.lit 3) (.cons (.lit 0) .nil))))))) (.or (.and (.cmp .lt (.lit 4) (.var 0)) (.or (.cmp .lt (.app 83 (.cons (.var 1) (.cons (.lit 4) (.cons (.lit 0) .nil)))) (.lit 1)) (.cmp .lt (.lit 256) (.app 83 (.cons (.var 1) (.cons (.lit 4) (.cons (.lit 0) .nil))))))) (.or (.and (.cmp .lt (.lit 5) (.var 0)) (.or (.cmp .lt (.app 83 (.cons (.var 1) (.cons (.lit 5) (.cons (.lit 0) .nil)))) (.lit 1)) (.cmp .lt (.lit 256) (.app 83 (.cons (.var 1) (.cons (.lit 5) (.cons (.lit 0) .nil))))))) (.or (.and (.cmp .lt (.lit 6) (.var 0)) (.or (.cmp .lt (.app 83 (.cons (.var 1) (.cons (.lit 6) (.cons (.lit 0) .nil)))) (.lit 1)) (.cmp .lt (.lit 256) (.app 83 (.cons (.var 1) (.cons (.lit 6) (.cons (.lit 0) .nil))))))) (.and (.cmp .lt (.lit 7) (.var 0)) (.or (.cmp .lt (.app 83 (.cons (.var 1) (.cons (.lit 7) (.cons (.lit 0) .nil)))) (.lit 1)) (.cmp .lt (.lit 256) (.app 83 (.cons (.var 1) (.cons (.lit 7) (.cons (.lit 0) .nil))))))))))))))),[some ([.vec [.int .i64] (.var 1) (.var 0) true],aG)]⟩
def aHX (P:Program) (fs:List B):Res SV:=cO G GI [(0,8)] fs fun X=>gQ P X GB jY eG 4000 70 aSc
end Go.Proofs.Ytdldallkeheciaa
set_option maxRecDepth 100000
namespace Go.Proofs.Ytdldallkeheciaa
open Go Go.RowKit Sx Wi Lk
def oS (P:Program) (fs:List B):Res SV:=aIX P fs
def aIb:List B:=[]
def gT:B:=(.cmp .lt (.app 82 (.cons (.var 1) (.cons (.lit 0) (.cons (.lit 1) .nil)))) (.app 82 (.cons (.var 1) (.cons (.lit 0) (.cons (.lit 0) .nil)))))
def aSi:List B:=aI gT++aIb
def aB0:SV:=(.tuple [(.agg [(.bool (.cmp .le (.lit 0) (.lit 0))),(.bool (.or (.and (.cmp .lt (.lit 0) (.var 0)) (.cmp .le (.app 82 (.cons (.var 1) (.cons (.lit 0) (.cons (.lit 1) .nil)))) (.app 82 (.cons (.var 1) (.cons (.lit 0) (.cons (.lit 0) .nil)))))) (.or (.and (.cmp .lt (.lit 1) (.var 0)) (.cmp .le (.app 82 (.cons (.var 1) (.cons (.lit 1) (.cons (.lit 1) .nil)))) (.app 82 (.cons (.var 1) (.cons (.lit 1) (.cons (.lit 0) .nil)))))) (.or (.and (.cmp .lt (.lit 2) (.var 0)) (.cmp .le (.app 82 (.cons (.var 1) (.cons (.lit 2) (.cons (.lit 1) .nil)))) (.app 82 (.cons (.var 1) (.cons (.lit 2) (.cons (.lit 0) .nil)))))) (.and (.cmp .lt (.lit 3) (.var 0)) (.cmp .le (.app 82 (.cons (.var 1) (.cons (.lit 3) (.cons (.lit 1) .nil)))) (.app 82 (.cons (.var 1) (.cons (.lit 3) (.cons (.lit 0) .nil))))))))))]),(.bool (.lit true))])
def aKQ:List B:=aI (B.neg gT)++aIb
def iB:B:=(.cmp .eq (.app 82 (.cons (.var 1) (.cons (.lit 0) (.cons (.lit 0) .nil)))) (.app 82 (.cons (.var 1) (.cons (.lit 0) (.cons (.lit 1) .nil)))))
def aTi:List B:=aI iB++aKQ
def aKT:List B:=aI (B.neg iB)++aKQ
def iZ:B:=(.cmp .lt (.lit 1) (.var 0))
def aIP:List B:=aI iZ++aKT
def kH:B:=(.cmp .lt (.app 82 (.cons (.var 1) (.cons (.lit 1) (.cons (.lit 1) .nil)))) (.app 82 (.cons (.var 1) (.cons (.lit 1) (.cons (.lit 0) .nil)))))
def aRc:List B:=aI kH++aIP
def aBk:SV:=(.tuple [(.agg [(.bool (.cmp .le (.lit 0) (.lit 1))),(.bool (.or (.and (.cmp .lt (.lit 0) (.var 0)) (.cmp .le (.app 82 (.cons (.var 1) (.cons (.lit 0) (.cons (.lit 1) .nil)))) (.app 82 (.cons (.var 1) (.cons (.lit 0) (.cons (.lit 0) .nil)))))) (.or (.and (.cmp .lt (.lit 1) (.var 0)) (.cmp .le (.app 82 (.cons (.var 1) (.cons (.lit 1) (.cons (.lit 1) .nil)))) (.app 82 (.cons (.var 1) (.cons (.lit 1) (.cons (.lit 0) .nil)))))) (.or (.and (.cmp .lt (.lit 2) (.var 0)) (.cmp .le (.app 82 (.cons (.var 1) (.cons (.lit 2) (.cons (.lit 1) .nil)))) (.app 82 (.cons (.var 1) (.cons (.lit 2) (.cons (.lit 0) .nil)))))) (.and (.cmp .lt (.lit 3) (.var 0)) (.cmp .le (.app 82 (.cons (.var 1) (.cons (.lit 3) (.cons (.lit 1) .nil)))) (.app 82 (.cons (.var 1) (.cons (.lit 3) (.cons (.lit 0) .nil))))))))))]),(.bool (.lit true))])
def aJo:List B:=aI (B.neg kH)++aIP
def lF:B:=(.cmp .eq (.app 82 (.cons (.var 1) (.cons (.lit 1) (.cons (.lit 0) .nil)))) (.app 82 (.cons (.var 1) (.cons (.lit 1) (.cons (.lit 1) .nil)))))
def aTl:List B:=aI lF++aJo
def aJf:List B:=aI (B.neg lF)++aJo
def mD:B:=(.cmp .lt (.lit 2) (.var 0))
def aE5:List B:=aI mD++aJf
def oL:B:=(.cmp .lt (.app 82 (.cons (.var 1) (.cons (.lit 2) (.cons (.lit 1) .nil)))) (.app 82 (.cons (.var 1) (.cons (.lit 2) (.cons (.lit 0) .nil)))))
def aP8:List B:=aI oL++aE5
def aA3:SV:=(.tuple [(.agg [(.bool (.cmp .le (.lit 0) (.lit 2))),(.bool (.or (.and (.cmp .lt (.lit 0) (.var 0)) (.cmp .le (.app 82 (.cons (.var 1) (.cons (.lit 0) (.cons (.lit 1) .nil)))) (.app 82 (.cons (.var 1) (.cons (.lit 0) (.cons (.lit 0) .nil)))))) (.or (.and (.cmp .lt (.lit 1) (.var 0)) (.cmp .le (.app 82 (.cons (.var 1) (.cons (.lit 1) (.cons (.lit 1) .nil)))) (.app 82 (.cons (.var 1) (.cons (.lit 1) (.cons (.lit 0) .nil)))))) (.or (.and (.cmp .lt (.lit 2) (.var 0)) (.cmp .le (.app 82 (.cons (.var 1) (.cons (.lit 2) (.cons (.lit 1) .nil)))) (.app 82 (.cons (.var 1) (.cons (.lit 2) (.cons (.lit 0) .nil)))))) (.and (.cmp .lt (.lit 3) (.var 0)) (.cmp .le (.app 82 (.cons (.var 1) (.cons (.lit 3) (.cons (.lit 1) .nil)))) (.app 82 (.cons (.var 1) (.cons (.lit 3) (.cons (.lit 0) .nil))))))))))]),(.bool (.lit true))])
def aGQ:List B:=aI (B.neg oL)++aE5
def pH:B:=(.cmp .eq (.app 82 (.cons (.var 1) (.cons (.lit 2) (.cons (.lit 0) .nil)))) (.app 82 (.cons (.var 1) (.cons (.lit 2) (.cons (.lit 1) .nil)))))
def aOI:List B:=aI pH++aGQ
def aGr:List B:=aI (B.neg pH)++aGQ
def rL:B:=(.cmp .lt (.lit 3) (.var 0))
def aEM:List B:=aI rL++aGr
def uO:B:=(.cmp .lt (.app 82 (.cons (.var 1) (.cons (.lit 3) (.cons (.lit 1) .nil)))) (.app 82 (.cons (.var 1) (.cons (.lit 3) (.cons (.lit 0) .nil)))))
def aLA:List B:=aI uO++aEM
def aBy:SV:=(.tuple [(.agg [(.bool (.cmp .le (.lit 0) (.lit 3))),(.bool (.or (.and (.cmp .lt (.lit 0) (.var 0)) (.cmp .le (.app 82 (.cons (.var 1) (.cons (.lit 0) (.cons (.lit 1) .nil)))) (.app 82 (.cons (.var 1) (.cons (.lit 0) (.cons (.lit 0) .nil)))))) (.or (.and (.cmp .lt (.lit 1) (.var 0)) (.cmp .le (.app 82 (.cons (.var 1) (.cons (.lit 1) (.cons (.lit 1) .nil)))) (.app 82 (.cons (.var 1) (.cons (.lit 1) (.cons (.lit 0) .nil)))))) (.or (.and (.cmp .lt (.lit 2) (.var 0)) (.cmp .le (.app 82 (.cons (.var 1) (.cons (.lit 2) (.cons (.lit 1) .nil)))) (.app 82 (.cons (.var 1) (.cons (.lit 2) (.cons (.lit 0) .nil)))))) (.and (.cmp .lt (.lit 3) (.var 0)) (.cmp .le (.app 82 (.cons (.var 1) (.cons (.lit 3) (.cons (.lit 1) .nil)))) (.app 82 (.cons (.var 1) (.cons (.lit 3) (.cons (.lit 0) .nil))))))))))]),(.bool (.lit true))])
def aGe:List B:=aI (B.neg uO)++aEM
def tF:B:=(.cmp .eq (.app 82 (.cons (.var 1) (.cons (.lit 3) (.cons (.lit 0) .nil)))) (.app 82 (.cons (.var 1) (.cons (.lit 3) (.cons (.lit 1) .nil)))))
def aMQ:List B:=aI tF++aGe
def aOk:List B:=aI (B.neg tF)++aGe
def qB:SV:=(.tuple [(.agg [(.bool (.cmp .le (.lit 0) (.lit (-1)))),(.bool (.or (.and (.cmp .lt (.lit 0) (.var 0)) (.cmp .le (.app 82 (.cons (.var 1) (.cons (.lit 0) (.cons (.lit 1) .nil)))) (.app 82 (.cons (.var 1) (.cons (.lit 0) (.cons (.lit 0) .nil)))))) (.or (.and (.cmp .lt (.lit 1) (.var 0)) (.cmp .le (.app 82 (.cons (.var 1) (.cons (.lit 1) (.cons (.lit 1) .nil)))) (.app 82 (.cons (.var 1) (.cons (.lit 1) (.cons (.lit 0) .nil)))))) (.or (.and (.cmp .lt (.lit 2) (.var 0)) (.cmp .le (.app 82 (.cons (.var 1) (.cons (.lit 2) (.cons (.lit 1) .nil)))) (.app 82 (.cons (.var 1) (.cons (.lit 2) (.cons (.lit 0) .nil)))))) (.and (.cmp .lt (.lit 3) (.var 0)) (.cmp .le (.app 82 (.cons (.var 1) (.cons (.lit 3) (.cons (.lit 1) .nil)))) (.app 82 (.cons (.var 1) (.cons (.lit 3) (.cons (.lit 0) .nil))))))))))]),(.bool (.lit true))])
def aQn:List B:=aI (B.neg rL)++aGr
def aOt:List B:=aI (B.neg mD)++aJf
def aOb:List B:=aI (B.neg iZ)++aKT
theorem aRG:oS Try.prog aSi = .ok aB0:=by kernel_rfl
theorem aRf:oS Try.prog aTi = .ok aB0:=by kernel_rfl
theorem aS2:oS Try.prog aRc = .ok aBk:=by kernel_rfl
theorem aRe:oS Try.prog aTl = .ok aBk:=by kernel_rfl
theorem aO2:oS Try.prog aP8 = .ok aA3:=by kernel_rfl
theorem aOD:oS Try.prog aOI = .ok aA3:=by kernel_rfl
theorem aNR:oS Try.prog aLA = .ok aBy:=by kernel_rfl
theorem aO4:oS Try.prog aMQ = .ok aBy:=by kernel_rfl
theorem aLm:oS Try.prog aOk = .ok qB:=by kernel_rfl
theorem aOG:oS Try.prog aQn = .ok qB:=by kernel_rfl
theorem aOV:oS Try.prog aOt = .ok qB:=by kernel_rfl
theorem aQb:oS Try.prog aOb = .ok qB:=by kernel_rfl
end Go.Proofs.Ytdldallkeheciaa
set_option maxRecDepth 100000
namespace Go.Proofs.Ytdldallkeheciaa
open Go Go.RowKit Sx Wi Lk
def wA (P:Program) (fs:List B):Res SV:=aI1 P fs
def aKA:List B:=[]
def lB:B:=(.cmp .lt (.app 82 (.cons (.var 1) (.cons (.lit 0) (.cons (.lit 1) .nil)))) (.app 82 (.cons (.var 1) (.cons (.lit 0) (.cons (.lit 0) .nil)))))
def aSs:List B:=aI lB++aKA
def aJZ:SV:=(.tuple [(.agg [(.bool (.cmp .le (.lit 0) (.lit 0))),(.bool (.or (.and (.cmp .lt (.lit 0) (.var 0)) (.cmp .lt (.app 82 (.cons (.var 1) (.cons (.lit 0) (.cons (.lit 1) .nil)))) (.app 82 (.cons (.var 1) (.cons (.lit 0) (.cons (.lit 0) .nil)))))) (.or (.and (.cmp .lt (.lit 1) (.var 0)) (.cmp .lt (.app 82 (.cons (.var 1) (.cons (.lit 1) (.cons (.lit 1) .nil)))) (.app 82 (.cons (.var 1) (.cons (.lit 1) (.cons (.lit 0) .nil)))))) (.or (.and (.cmp .lt (.lit 2) (.var 0)) (.cmp .lt (.app 82 (.cons (.var 1) (.cons (.lit 2) (.cons (.lit 1) .nil)))) (.app 82 (.cons (.var 1) (.cons (.lit 2) (.cons (.lit 0) .nil)))))) (.and (.cmp .lt (.lit 3) (.var 0)) (.cmp .lt (.app 82 (.cons (.var 1) (.cons (.lit 3) (.cons (.lit 1) .nil)))) (.app 82 (.cons (.var 1) (.cons (.lit 3) (.cons (.lit 0) .nil))))))))))]),(.bool (.lit true))])
def aIc:List B:=aI (B.neg lB)++aKA
def mC:B:=(.cmp .lt (.lit 1) (.var 0))
def aIv:List B:=aI mC++aIc
def oP:B:=(.cmp .lt (.app 82 (.cons (.var 1) (.cons (.lit 1) (.cons (.lit 1) .nil)))) (.app 82 (.cons (.var 1) (.cons (.lit 1) (.cons (.lit 0) .nil)))))
def aRJ:List B:=aI oP++aIv
def aJC:SV:=(.tuple [(.agg [(.bool (.cmp .le (.lit 0) (.lit 1))),(.bool (.or (.and (.cmp .lt (.lit 0) (.var 0)) (.cmp .lt (.app 82 (.cons (.var 1) (.cons (.lit 0) (.cons (.lit 1) .nil)))) (.app 82 (.cons (.var 1) (.cons (.lit 0) (.cons (.lit 0) .nil)))))) (.or (.and (.cmp .lt (.lit 1) (.var 0)) (.cmp .lt (.app 82 (.cons (.var 1) (.cons (.lit 1) (.cons (.lit 1) .nil)))) (.app 82 (.cons (.var 1) (.cons (.lit 1) (.cons (.lit 0) .nil)))))) (.or (.and (.cmp .lt (.lit 2) (.var 0)) (.cmp .lt (.app 82 (.cons (.var 1) (.cons (.lit 2) (.cons (.lit 1) .nil)))) (.app 82 (.cons (.var 1) (.cons (.lit 2) (.cons (.lit 0) .nil)))))) (.and (.cmp .lt (.lit 3) (.var 0)) (.cmp .lt (.app 82 (.cons (.var 1) (.cons (.lit 3) (.cons (.lit 1) .nil)))) (.app 82 (.cons (.var 1) (.cons (.lit 3) (.cons (.lit 0) .nil))))))))))]),(.bool (.lit true))])
def aI0:List B:=aI (B.neg oP)++aIv
def oX:B:=(.cmp .lt (.lit 2) (.var 0))
def aKE:List B:=aI oX++aI0
def sE:B:=(.cmp .lt (.app 82 (.cons (.var 1) (.cons (.lit 2) (.cons (.lit 1) .nil)))) (.app 82 (.cons (.var 1) (.cons (.lit 2) (.cons (.lit 0) .nil)))))
def aRQ:List B:=aI sE++aKE
def aLa:SV:=(.tuple [(.agg [(.bool (.cmp .le (.lit 0) (.lit 2))),(.bool (.or (.and (.cmp .lt (.lit 0) (.var 0)) (.cmp .lt (.app 82 (.cons (.var 1) (.cons (.lit 0) (.cons (.lit 1) .nil)))) (.app 82 (.cons (.var 1) (.cons (.lit 0) (.cons (.lit 0) .nil)))))) (.or (.and (.cmp .lt (.lit 1) (.var 0)) (.cmp .lt (.app 82 (.cons (.var 1) (.cons (.lit 1) (.cons (.lit 1) .nil)))) (.app 82 (.cons (.var 1) (.cons (.lit 1) (.cons (.lit 0) .nil)))))) (.or (.and (.cmp .lt (.lit 2) (.var 0)) (.cmp .lt (.app 82 (.cons (.var 1) (.cons (.lit 2) (.cons (.lit 1) .nil)))) (.app 82 (.cons (.var 1) (.cons (.lit 2) (.cons (.lit 0) .nil)))))) (.and (.cmp .lt (.lit 3) (.var 0)) (.cmp .lt (.app 82 (.cons (.var 1) (.cons (.lit 3) (.cons (.lit 1) .nil)))) (.app 82 (.cons (.var 1) (.cons (.lit 3) (.cons (.lit 0) .nil))))))))))]),(.bool (.lit true))])
def aLc:List B:=aI (B.neg sE)++aKE
def vU:B:=(.cmp .lt (.lit 3) (.var 0))
def aIF:List B:=aI vU++aLc
def zG:B:=(.cmp .lt (.app 82 (.cons (.var 1) (.cons (.lit 3) (.cons (.lit 1) .nil)))) (.app 82 (.cons (.var 1) (.cons (.lit 3) (.cons (.lit 0) .nil)))))
def aPv:List B:=aI zG++aIF
def aJr:SV:=(.tuple [(.agg [(.bool (.cmp .le (.lit 0) (.lit 3))),(.bool (.or (.and (.cmp .lt (.lit 0) (.var 0)) (.cmp .lt (.app 82 (.cons (.var 1) (.cons (.lit 0) (.cons (.lit 1) .nil)))) (.app 82 (.cons (.var 1) (.cons (.lit 0) (.cons (.lit 0) .nil)))))) (.or (.and (.cmp .lt (.lit 1) (.var 0)) (.cmp .lt (.app 82 (.cons (.var 1) (.cons (.lit 1) (.cons (.lit 1) .nil)))) (.app 82 (.cons (.var 1) (.cons (.lit 1) (.cons (.lit 0) .nil)))))) (.or (.and (.cmp .lt (.lit 2) (.var 0)) (.cmp .lt (.app 82 (.cons (.var 1) (.cons (.lit 2) (.cons (.lit 1) .nil)))) (.app 82 (.cons (.var 1) (.cons (.lit 2) (.cons (.lit 0) .nil)))))) (.and (.cmp .lt (.lit 3) (.var 0)) (.cmp .lt (.app 82 (.cons (.var 1) (.cons (.lit 3) (.cons (.lit 1) .nil)))) (.app 82 (.cons (.var 1) (.cons (.lit 3) (.cons (.lit 0) .nil))))))))))]),(.bool (.lit true))])
def aLR:List B:=aI (B.neg zG)++aIF
def pE:SV:=(.tuple [(.agg [(.bool (.cmp .le (.lit 0) (.lit (-1)))),(.bool (.or (.and (.cmp .lt (.lit 0) (.var 0)) (.cmp .lt (.app 82 (.cons (.var 1) (.cons (.lit 0) (.cons (.lit 1) .nil)))) (.app 82 (.cons (.var 1) (.cons (.lit 0) (.cons (.lit 0) .nil)))))) (.or (.and (.cmp .lt (.lit 1) (.var 0)) (.cmp .lt (.app 82 (.cons (.var 1) (.cons (.lit 1) (.cons (.lit 1) .nil)))) (.app 82 (.cons (.var 1) (.cons (.lit 1) (.cons (.lit 0) .nil)))))) (.or (.and (.cmp .lt (.lit 2) (.var 0)) (.cmp .lt (.app 82 (.cons (.var 1) (.cons (.lit 2) (.cons (.lit 1) .nil)))) (.app 82 (.cons (.var 1) (.cons (.lit 2) (.cons (.lit 0) .nil)))))) (.and (.cmp .lt (.lit 3) (.var 0)) (.cmp .lt (.app 82 (.cons (.var 1) (.cons (.lit 3) (.cons (.lit 1) .nil)))) (.app 82 (.cons (.var 1) (.cons (.lit 3) (.cons (.lit 0) .nil))))))))))]),(.bool (.lit true))])
def aLr:List B:=aI (B.neg vU)++aLc
def aPy:List B:=aI (B.neg oX)++aI0
def aMT:List B:=aI (B.neg mC)++aIc
theorem aSI:wA Try.prog aSs = .ok aJZ:=by kernel_rfl
theorem aTp:wA Try.prog aRJ = .ok aJC:=by kernel_rfl
theorem aRk:wA Try.prog aRQ = .ok aLa:=by kernel_rfl
theorem aMV:wA Try.prog aPv = .ok aJr:=by kernel_rfl
theorem aPj:wA Try.prog aLR = .ok pE:=by kernel_rfl
theorem aPL:wA Try.prog aLr = .ok pE:=by kernel_rfl
theorem aOn:wA Try.prog aPy = .ok pE:=by kernel_rfl
theorem aPD:wA Try.prog aMT = .ok pE:=by kernel_rfl
end Go.Proofs.Ytdldallkeheciaa
