/- What is proved: small facts for the contracts of this seat,in plain Lean. No condition but those that are stated. -/
import Derived.Test.YtdldallkeheciaaQg6
import Derived.Test.YtdldallkeheciaaQg4
import Derived.Test.YtdldallkeheciaaQNn
import Derived.Test.YtdldallkeheciaaQg3
import Derived.Test.YtdldallkeheciaaProg
set_option linter.unusedSimpArgs false
set_option linter.unusedVariables false
namespace Go.Proofs.Ytdldallkeheciaa
open Go Go.RowKit Sx Wi
theorem aY {p:Int × Int} {l:List (Int × Int)} {xs:List Int} (h:eJ (p::l) xs):∃ x ys,xs=x::ys∧(p.1≤x∧x≤p.2)∧eJ l ys:=by
 cases xs with
 |nil=>exact h.elim
 |cons x ys=>exact⟨x,ys,rfl,h.1,h.2⟩
theorem jJ {xs:List Int} (h:eJ [] xs):xs=[]:=by
 cases xs with
 |nil=>rfl
 |cons x ys=>exact h.elim
theorem bJ {xs:List Int} {n:Nat} (h:xs.length=n+1):∃ a ys,xs=a::ys∧ys.length=n:=by
 cases xs with
 |nil=>cases h
 |cons a ys=>exact⟨a,ys,rfl,by simpa using h⟩
theorem aZ (ρ:Nat→Int) (x y:B):B.den G ρ (.and x y)=(B.den G ρ x && B.den G ρ y):=by simp only[B.den]
theorem hJ (ρ:Nat→Int) (x y:B):B.den G ρ (.or x y)=(B.den G ρ x ||B.den G ρ y):=by simp only[B.den]
theorem cD (ρ:Nat→Int) (x:Bool):B.den G ρ (.lit x)=x:=by simp only[B.den]
theorem eX (ρ:Nat→Int) (x:B):B.den G ρ (B.neg x) = !B.den G ρ x:=B.neg_den G ρ x
theorem aNI (x:Int):bS .and .i64 x 7=x % 8:=by
 have e:(BitVec.ofInt 64 x &&& BitVec.ofInt 64 7).toNat=(BitVec.ofInt 64 x).toNat % 8:=by
  rw[BitVec.toNat_and]
  exact Nat.and_two_pow_sub_one_eq_mod _ 3
 have e2:=BitVec.toNat_ofInt (n:=64) (i:=x)
 show IntKind.i64.wrap ((BitVec.ofInt 64 x &&& BitVec.ofInt 64 7).toNat:Int)=_
 rw[e,e2,IntKind.wrap_i64]
 omega
theorem aBP {x:Int} (h:0≤x∧x<18446744073709551616):(BitVec.ofInt 64 x).toNat=x.toNat:=by
 rw[BitVec.toNat_ofInt];omega
theorem aSb (x:Int) (n:Nat) (hn:n≤16) (h:0≤x∧x<18446744073709551616):bS .and .u64 x (1*2 ^ n-1)=x % 2 ^ n:=by
 have hp:2 ^ n≤2 ^ 16:=Nat.pow_le_pow_right (by decide) hn
 have h1:1≤2 ^ n:=Nat.one_le_two_pow
 have c:((2 ^ n:Nat):Int)=2 ^ n:=by rw[Int.natCast_pow];rfl
 have e0:(1*2 ^ n-1:Int)=((2 ^ n-1:Nat):Int):=by rw[Int.natCast_sub h1,c];omega
 show IntKind.u64.wrap ((BitVec.ofInt 64 x &&& BitVec.ofInt 64 (1*2 ^ n-1)).toNat:Int)=_
 rw[BitVec.toNat_and,aBP h,e0,aBP ⟨by omega,by omega⟩,Int.toNat_natCast,Nat.and_two_pow_sub_one_eq_mod,IntKind.wrap_u64]
 have e1:((x.toNat % 2 ^ n:Nat):Int)=x % 2 ^ n:=by rw[Int.natCast_emod,c,Int.toNat_of_nonneg h.1]
 have e2:x.toNat % 2 ^ n<2 ^ n:=Nat.mod_lt _ (by omega)
 rw[←e1]
 omega
theorem aGv (x c:Int) (h:0≤x∧x<72057594037927936) (hc:0≤c∧c<256):bS .or .u64 (x*256) c=x*256+c:=by
 obtain⟨a,rfl⟩:=Int.eq_ofNat_of_zero_le h.1
 obtain⟨b,rfl⟩:=Int.eq_ofNat_of_zero_le hc.1
 show IntKind.u64.wrap ((BitVec.ofInt 64 ((a:Int)*256) |||BitVec.ofInt 64 (b:Int)).toNat:Int)=_
 rw[BitVec.toNat_or,aBP ⟨by omega,by omega⟩,aBP ⟨by omega,by omega⟩,Int.toNat_natCast,show ((a:Int)*256).toNat=a*2 ^ 8 by omega,IntKind.wrap_u64]
 have k:=Nat.shiftLeft_add_eq_or_of_lt (b:=b) (i:=8) (by omega) a
 rw[Nat.shiftLeft_eq]at k
 rw[←k]
 omega
def aCf (g h:Ctx→List SV→aM→Res (SV × aM)):Ctx→List SV→aM→Res (SV × aM):=fun X args σ=>
 match g X args σ with
 | .fail _=>h X args σ
 |r=>r
theorem aA9 {P:Program} {X:Ctx} {ρ:Nat→Int} {gb:dE} {f:FuncId} {g h:Ctx→List SV→aM→Res (SV × aM)} (hg:eV P X ρ gb f g) (hh:eV P X ρ gb f h):eV P X ρ gb f (aCf g h):=by
 intro args σ s σ' e
 unfold aCf at e
 split at e
 ·exact hh args σ s σ' e
 ·exact hg args σ s σ' e
def rW (g:Ctx→List SV→aM→Res (SV × aM)):Ctx→List SV→aM→Res (SV × aM):=fun X args σ=>
 (g X args σ).bind fun r=>match r.1 with
  | .bool b=>(Res.testW X b).bind fun t => .ok (.bool (.lit t),r.2)
  |_ => .ok r
theorem nH {P:Program} {X:Ctx} {ρ:Nat→Int} {gb:dE} {f:FuncId} {g:Ctx→List SV→aM→Res (SV × aM)} (hX:X.Ok ρ) (hg:eV P X ρ gb f g):eV P X ρ gb f (rW g):=by
 intro args σ s σ' e α w vals hW hv
 unfold rW at e
 obtain⟨r,hr,e⟩:=Res.bind_ok e
 obtain⟨s0,σ0⟩:=r
 obtain⟨hk,hc⟩:=hg args σ s0 σ0 hr α w vals hW hv
 refine⟨hk,hc.mono ?_⟩
 rintro en w' ⟨v,α',rfl,rv,q⟩
 simp only at e
 split at e
 ·rename_i _ b
  obtain⟨t,ht,e⟩:=Res.bind_ok e
  have ht:=Res.testW_ok hX ht
  cases e
  refine⟨v,α',rfl,?_,q⟩
  simp only[SV.R,B.den]at rv ⊢
  rw[rv,ht]
 ·cases e;exact⟨v,α',rfl,rv,q⟩
end Go.Proofs.Ytdldallkeheciaa
namespace Go.Proofs.Ytdldallkeheciaa
open Go Go.RowKit Sx Wi Lk
def oR (x0 x1 x2 x3 x4 x5 x6 D R S:Int):Prop:=
 x0=1∧(1≤x1∧x1≤4)∧(∀ i:Nat,(i:Int)<x1→gM D i 0<gM D i 1)∧(1≤x2∧x2≤4)∧(∀ i:Nat,(i:Int)<x2→gM R i 0≤gM R i 1)∧x3=x1∧
 (∀ i:Nat,(i:Int)<x3→1≤qT S i 0∧qT S i 0≤256)∧(x4=1∨x4=2∨x4=4∨x4=8∨x4=12∨x4=16)∧(x5=0∨x5=x1)∧(x6=0∨x6=x2)
set_option maxHeartbeats 4000000 in
set_option maxRecDepth 100000 in
theorem mY {x0 x1 x2 x3 x4 x5 x6 x7 D R S:Int} {ls:List Int} (h:B.den G (cQ ([x0,x1,x2,x3,x4,x5,x6,x7]++(D::R::S::ls))) bU=true):oR x0 x1 x2 x3 x4 x5 x6 D R S:=by
 unfold bU at h
 simp only[nn,B.neg_den,List.cons_append,List.nil_append,Bool.or_eq_true,Bool.or_eq_false_iff,Bool.and_eq_false_iff]at h
 obtain⟨h0,h1,h2,h3,h4,h5,h6,h7,h8,h9,h10,h11⟩:=h
 refine⟨h0,⟨by omega,h2⟩,?_,⟨by omega,h5⟩,?_,h7,?_,h9,h10,h11⟩
 ·intro i hi
  clear h6 h8
  have:i=0∨i=1∨i=2∨i=3:=by omega
  rcases this with rfl|rfl|rfl|rfl
  ·show G 82 [D,0,0]<G 82 [D,0,1]
   obtain⟨q,_⟩:=h3
   generalize G 82 [D,0,0]=a at *
   generalize G 82 [D,0,1]=b at *
   omega
  ·show G 82 [D,1,0]<G 82 [D,1,1]
   obtain⟨_,q,_⟩:=h3
   generalize G 82 [D,1,0]=a at *
   generalize G 82 [D,1,1]=b at *
   omega
  ·show G 82 [D,2,0]<G 82 [D,2,1]
   obtain⟨_,_,q,_⟩:=h3
   generalize G 82 [D,2,0]=a at *
   generalize G 82 [D,2,1]=b at *
   omega
  ·show G 82 [D,3,0]<G 82 [D,3,1]
   obtain⟨_,_,_,q⟩:=h3
   generalize G 82 [D,3,0]=a at *
   generalize G 82 [D,3,1]=b at *
   omega
 ·intro i hi
  clear h3 h8
  have:i=0∨i=1∨i=2∨i=3:=by omega
  rcases this with rfl|rfl|rfl|rfl
  ·show G 82 [R,0,0]≤G 82 [R,0,1]
   obtain⟨q,_⟩:=h6
   generalize G 82 [R,0,0]=a at *
   generalize G 82 [R,0,1]=b at *
   omega
  ·show G 82 [R,1,0]≤G 82 [R,1,1]
   obtain⟨_,q,_⟩:=h6
   generalize G 82 [R,1,0]=a at *
   generalize G 82 [R,1,1]=b at *
   omega
  ·show G 82 [R,2,0]≤G 82 [R,2,1]
   obtain⟨_,_,q,_⟩:=h6
   generalize G 82 [R,2,0]=a at *
   generalize G 82 [R,2,1]=b at *
   omega
  ·show G 82 [R,3,0]≤G 82 [R,3,1]
   obtain⟨_,_,_,q⟩:=h6
   generalize G 82 [R,3,0]=a at *
   generalize G 82 [R,3,1]=b at *
   omega
 ·intro i hi
  clear h3 h6
  have:i=0∨i=1∨i=2∨i=3:=by omega
  rcases this with rfl|rfl|rfl|rfl
  ·show 1≤G 83 [S,0,0]∧G 83 [S,0,0]≤256
   obtain⟨q,_⟩:=h8
   generalize G 83 [S,0,0]=a at *
   omega
  ·show 1≤G 83 [S,1,0]∧G 83 [S,1,0]≤256
   obtain⟨_,q,_⟩:=h8
   generalize G 83 [S,1,0]=a at *
   omega
  ·show 1≤G 83 [S,2,0]∧G 83 [S,2,0]≤256
   obtain⟨_,_,q,_⟩:=h8
   generalize G 83 [S,2,0]=a at *
   omega
  ·show 1≤G 83 [S,3,0]∧G 83 [S,3,0]≤256
   obtain⟨_,_,_,q,_⟩:=h8
   generalize G 83 [S,3,0]=a at *
   omega
theorem tE {nR bits S:Int} {m:Nat} (h0:1≤nR*bits) (hs:∀ i:Nat,i<m→1≤qT S i 0):∀ k,k≤m→1≤aL nR bits S k
 |0,_=>h0
 |k+1,hk=>by
  have a:=tE h0 hs k (by omega)
  have b:=hs k (by omega)
  have:=Int.mul_le_mul a b (by decide) (by omega)
  simpa [aL]using this
theorem aFL {nR bits S:Int} {m:Nat} (h0:1≤nR*bits) (hs:∀ i:Nat,i<m→1≤qT S i 0) {k:Nat}:∀ d,k+d≤m→aL nR bits S k≤aL nR bits S (k+d)
 |0,_=>Int.le_refl _
 |d+1,hd=>by
  have a:=aFL h0 hs (k:=k) d (by omega)
  have p:=tE h0 hs (k+d) (by omega)
  have b:=hs (k+d) (by omega)
  have:=Int.mul_le_mul_of_nonneg_left b (show 0≤aL nR bits S (k+d)by omega)
  rw[Int.mul_one]at this
  show _≤aL nR bits S (k+d)*qT S ((k+d:Nat):Int) 0
  omega
theorem aHF {nR bits S:Int} {m:Nat} (h0:nR*bits≤64) (hp:1≤nR*bits) (hs:∀ i:Nat,i<m→1≤qT S i 0∧qT S i 0≤256):∀ k,k≤m→aL nR bits S k≤64*256 ^ k
 |0,_=>by simpa [aL]using h0
 |k+1,hk=>by
  have a:=aHF h0 hp hs k (by omega)
  have p:=tE hp (fun i hi=>(hs i hi).1) k (by omega)
  have b:=hs k (by omega)
  have q:=Int.mul_le_mul a b.2 (by omega) (by have:(0:Int)≤256 ^ k:=Int.pow_nonneg (by decide);omega)
  show aL nR bits S k*qT S k 0≤_
  rw[Int.pow_succ,←Int.mul_assoc];exact q
theorem aHJ {x0 x1 x2 x3 x4 x5 x6 D R S:Int} (h:oR x0 x1 x2 x3 x4 x5 x6 D R S):(1≤x2*x4∧x2*x4≤64)∧
  (∀ k:Nat,(k:Int)≤x3→1≤aL x2 x4 S k∧aL x2 x4 S k≤64*256 ^ k∧aL x2 x4 S k≤aL x2 x4 S x3.toNat):=by
 obtain⟨_,h1,_,h2,_,e3,hs,h4,_⟩:=h
 have hb:1≤x4∧x4≤16:=by omega
 have a:=Int.mul_le_mul h2.1 hb.1 (by decide) (by omega)
 have b:=Int.mul_le_mul h2.2 hb.2 (by omega) (by decide)
 have ab:1≤x2*x4∧x2*x4≤64:=⟨by simpa using a,by simpa using b⟩
 refine⟨ab,fun k hk=>?_⟩
 have hs':∀ i:Nat,i<x3.toNat→1≤qT S i 0∧qT S i 0≤256:=fun i hi=>hs i (by omega)
 refine⟨tE ab.1 (fun i hi=>(hs' i hi).1) k (by omega),aHF ab.2 ab.1 hs' k (by omega),?_⟩
 have:=aFL ab.1 (fun i hi=>(hs' i hi).1) (k:=k) (x3.toNat-k) (by omega)
 rwa [show k+(x3.toNat-k)=x3.toNat by omega]at this
section
variable {x0 x1 x2 x3 x4 x5 x6 x7 D R S:Int} {ls:List Int}
theorem aKI (h:B.den G (cQ ([x0,x1,x2,x3,x4,x5,x6,x7]++(D::R::S::ls))) bU=false):(4:Int)=G 72 [x0,x1,x2,x3,x4,x5,x6,x7,D,R,S]:=by
 have h':B.den wG (cQ [x0,x1,x2,x3,x4,x5,x6,x7,D,R,S]) bU=false:=h
 have e:G 72 [x0,x1,x2,x3,x4,x5,x6,x7,D,R,S]=if B.den wG (cQ [x0,x1,x2,x3,x4,x5,x6,x7,D,R,S]) bU=true then (if 524288<aL x2 x4 S x3.toNat then 3 else 5) else 4:=rfl
 rw[e,if_neg (by rw[h'];decide)]
theorem lT (h:B.den G (cQ ([x0,x1,x2,x3,x4,x5,x6,x7]++(D::R::S::ls))) bU=true) (q:524288<aL x2 x4 S x3.toNat):(3:Int)=G 72 [x0,x1,x2,x3,x4,x5,x6,x7,D,R,S]:=by
 have h':B.den wG (cQ [x0,x1,x2,x3,x4,x5,x6,x7,D,R,S]) bU=true:=h
 have e:G 72 [x0,x1,x2,x3,x4,x5,x6,x7,D,R,S]=if B.den wG (cQ [x0,x1,x2,x3,x4,x5,x6,x7,D,R,S]) bU=true then (if 524288<aL x2 x4 S x3.toNat then 3 else 5) else 4:=rfl
 rw[e,if_pos h',if_pos q]
theorem iI (h:B.den G (cQ ([x0,x1,x2,x3,x4,x5,x6,x7]++(D::R::S::ls))) bU=true) (q:aL x2 x4 S x3.toNat≤524288):(5:Int)=G 72 [x0,x1,x2,x3,x4,x5,x6,x7,D,R,S]:=by
 have h':B.den wG (cQ [x0,x1,x2,x3,x4,x5,x6,x7,D,R,S]) bU=true:=h
 have e:G 72 [x0,x1,x2,x3,x4,x5,x6,x7,D,R,S]=if B.den wG (cQ [x0,x1,x2,x3,x4,x5,x6,x7,D,R,S]) bU=true then (if 524288<aL x2 x4 S x3.toNat then 3 else 5) else 4:=rfl
 rw[e,if_pos h',if_neg (by omega)]
end
end Go.Proofs.Ytdldallkeheciaa
set_option maxRecDepth 100000
namespace Go.Proofs.Ytdldallkeheciaa
open Go Go.RowKit Sx Wi Lk
def iP (P:Program) (fs:List B):Res SV:=cA G GI [((-2147483648),2147483647),((-2147483648),2147483647),((-2147483648),2147483647),((-2147483648),2147483647),((-2147483648),2147483647)] fs (fun X=>aAx P X GB aOs 3000 50 [(.int .i32 (.var 0)),(.agg [(.int .i32 (.var 1)),(.int .i32 (.var 2))]),(.agg [(.int .i32 (.var 3)),(.int .i32 (.var 4))])])
def aBM:List B:=[]
def aGc:B:=(.cmp .eq (.op .sub (.var 2) (.var 1)) (.lit 0))
def aPl:List B:=aJ aGc++aBM
def aC0:List B:=aJ (B.neg aGc)++aBM
def aG2:B:=(.cmp .lt (.op .sub (.var 2) (.var 1)) (.lit 0))
def aC4:List B:=aJ aG2++aC0
def aG0:B:=(.cmp .le (.lit (-9223372036854775808)) (.app 2 (.cons (.op .add (.op .mul (.op .sub (.lit 0) (.op .sub (.var 0) (.var 1))) (.op .sub (.var 4) (.var 3))) (.op .mul (.var 3) (.op .sub (.lit 0) (.op .sub (.var 2) (.var 1))))) (.cons (.op .sub (.lit 0) (.op .sub (.var 2) (.var 1))) .nil))))
def aBr:List B:=aJ aG0++aC4
def aGQ:B:=(.cmp .le (.app 2 (.cons (.op .add (.op .mul (.op .sub (.lit 0) (.op .sub (.var 0) (.var 1))) (.op .sub (.var 4) (.var 3))) (.op .mul (.var 3) (.op .sub (.lit 0) (.op .sub (.var 2) (.var 1))))) (.cons (.op .sub (.lit 0) (.op .sub (.var 2) (.var 1))) .nil))) (.lit 9223372036854775807))
def aRG:List B:=aJ aGQ++aBr
def aQU:List B:=aJ (B.neg aGQ)++aBr
def aRa:List B:=aJ (B.neg aG0)++aC4
def aCD:List B:=aJ (B.neg aG2)++aC0
def aFF:B:=(.cmp .le (.lit (-9223372036854775808)) (.app 2 (.cons (.op .add (.op .mul (.op .sub (.var 0) (.var 1)) (.op .sub (.var 4) (.var 3))) (.op .mul (.var 3) (.op .sub (.var 2) (.var 1)))) (.cons (.op .sub (.var 2) (.var 1)) .nil))))
def aCy:List B:=aJ aFF++aCD
def aGO:B:=(.cmp .le (.app 2 (.cons (.op .add (.op .mul (.op .sub (.var 0) (.var 1)) (.op .sub (.var 4) (.var 3))) (.op .mul (.var 3) (.op .sub (.var 2) (.var 1)))) (.cons (.op .sub (.var 2) (.var 1)) .nil))) (.lit 9223372036854775807))
def aL0:List B:=aJ aGO++aCy
def aKl:List B:=aJ (B.neg aGO)++aCy
def aJ3:List B:=aJ (B.neg aFF)++aCD
theorem aMV:iP Try.prog aBM = .need (.cmp .eq (.op .sub (.var 2) (.var 1)) (.lit 0)):=by kernel_rfl
theorem aOq:iP Try.prog aPl = .ok (.tuple [(.int .i32 (.lit 0)),(.int .i64 (.lit 12))]):=by kernel_rfl
theorem aRx:iP Try.prog aC0 = .need (.cmp .lt (.op .sub (.var 2) (.var 1)) (.lit 0)):=by kernel_rfl
theorem aSg:iP Try.prog aC4 = .need (.cmp .le (.lit (-9223372036854775808)) (.app 2 (.cons (.op .add (.op .mul (.op .sub (.lit 0) (.op .sub (.var 0) (.var 1))) (.op .sub (.var 4) (.var 3))) (.op .mul (.var 3) (.op .sub (.lit 0) (.op .sub (.var 2) (.var 1))))) (.cons (.op .sub (.lit 0) (.op .sub (.var 2) (.var 1))) .nil)))):=by kernel_rfl
theorem aPQ:iP Try.prog aBr = .need (.cmp .le (.app 2 (.cons (.op .add (.op .mul (.op .sub (.lit 0) (.op .sub (.var 0) (.var 1))) (.op .sub (.var 4) (.var 3))) (.op .mul (.var 3) (.op .sub (.lit 0) (.op .sub (.var 2) (.var 1))))) (.cons (.op .sub (.lit 0) (.op .sub (.var 2) (.var 1))) .nil))) (.lit 9223372036854775807)):=by kernel_rfl
theorem aRA:iP Try.prog aRG = .ok (.tuple [(.int .i32 (.op .max (.lit (-2147483648)) (.op .min (.lit 2147483647) (.app 2 (.cons (.op .add (.op .mul (.op .sub (.lit 0) (.op .sub (.var 0) (.var 1))) (.op .sub (.var 4) (.var 3))) (.op .mul (.var 3) (.op .sub (.lit 0) (.op .sub (.var 2) (.var 1))))) (.cons (.op .sub (.lit 0) (.op .sub (.var 2) (.var 1))) .nil)))))),(.int .i64 (.lit 0))]):=by kernel_rfl
theorem aRN:iP Try.prog aQU = .ok (.tuple [(.int .i32 (.lit 2147483647)),(.int .i64 (.lit 0))]):=by kernel_rfl
theorem aON:iP Try.prog aRa = .ok (.tuple [(.int .i32 (.lit (-2147483648))),(.int .i64 (.lit 0))]):=by kernel_rfl
theorem aOp:iP Try.prog aCD = .need (.cmp .le (.lit (-9223372036854775808)) (.app 2 (.cons (.op .add (.op .mul (.op .sub (.var 0) (.var 1)) (.op .sub (.var 4) (.var 3))) (.op .mul (.var 3) (.op .sub (.var 2) (.var 1)))) (.cons (.op .sub (.var 2) (.var 1)) .nil)))):=by kernel_rfl
theorem aR8:iP Try.prog aCy = .need (.cmp .le (.app 2 (.cons (.op .add (.op .mul (.op .sub (.var 0) (.var 1)) (.op .sub (.var 4) (.var 3))) (.op .mul (.var 3) (.op .sub (.var 2) (.var 1)))) (.cons (.op .sub (.var 2) (.var 1)) .nil))) (.lit 9223372036854775807)):=by kernel_rfl
theorem aL3:iP Try.prog aL0 = .ok (.tuple [(.int .i32 (.op .max (.lit (-2147483648)) (.op .min (.lit 2147483647) (.app 2 (.cons (.op .add (.op .mul (.op .sub (.var 0) (.var 1)) (.op .sub (.var 4) (.var 3))) (.op .mul (.var 3) (.op .sub (.var 2) (.var 1)))) (.cons (.op .sub (.var 2) (.var 1)) .nil)))))),(.int .i64 (.lit 0))]):=by kernel_rfl
theorem aJv:iP Try.prog aKl = .ok (.tuple [(.int .i32 (.lit 2147483647)),(.int .i64 (.lit 0))]):=by kernel_rfl
theorem aJJ:iP Try.prog aJ3 = .ok (.tuple [(.int .i32 (.lit (-2147483648))),(.int .i64 (.lit 0))]):=by kernel_rfl
end Go.Proofs.Ytdldallkeheciaa
set_option maxRecDepth 100000
namespace Go.Proofs.Ytdldallkeheciaa
open Go Go.RowKit Sx Wi Lk
def aSx (P:Program) (fs:List B):Res SV:=cA G GI [(0,30000)] fs (fun X=>aAx P X GB aOs 3000 49 [(.int .i64 (.var 0))])
def aUa:List B:=[]
theorem aTQ:aSx Try.prog aUa = .ok (.int .i32 (.op .max (.lit (-2147483648)) (.op .min (.lit 2147483647) (.app 2 (.cons (.op .mul (.var 0) (.lit 65536)) (.cons (.lit 1) .nil)))))):=by kernel_rfl
end Go.Proofs.Ytdldallkeheciaa
namespace Go.Proofs.Ytdldallkeheciaa
open Go Go.RowKit Sx Wi Lk
set_option maxRecDepth 100000 in
theorem aKf (x0 x1 x2 x3 x4:Int) (b0:(-2147483648)≤x0∧x0≤2147483647) (b1:(-2147483648)≤x1∧x1≤2147483647) (b2:(-2147483648)≤x2∧x2≤2147483647) (b3:(-2147483648)≤x3∧x3≤2147483647) (b4:(-2147483648)≤x4∧x4≤2147483647) (w:World) (hw:WOk GB w):fO Try.prog 50∧Calls Try.prog 50 #[.int .i32 x0,(.agg #[.int .i32 x1,.int .i32 x2]),(.agg #[.int .i32 x3,.int .i32 x4])] w (fun e w'=>e = .returned (if x2-x1=0 then .tuple #[.int .i32 0,.int .i64 12] else .tuple #[.int .i32 (Fx.line x0 x1 x2 x3 x4),.int .i64 0])∧Below w.heap.size w w'):=by
 refine wV (rU (ρ:=cQ [x0,x1,x2,x3,x4]) (run:=fun fs=>iP Try.prog fs) (fun _=>rfl) fits (kZ ⟨b0,b1,b2,b3,b4,trivial⟩) eU (fun X hX hG=>aBF hX hG) rfl rfl oY ?_ w hw)
 refine mQ aMV (fun h0=>?_) (fun h0=>?_)
 ·skip
  refine aH aOq ?_
  refine⟨rfl,?_⟩;simp only[nn,G,wG,xG4]at *;first|(rw[if_pos (by omega)]<;>rfl)|(rw[if_neg (by omega),rZ _ _ _ _ _ (by omega)];first|(rw[iY (by omega)]<;>rfl)|(rw[jB (by omega)]<;>rfl)|(rw[←jF]<;>rfl))|(rw[if_neg (by omega),rG _ _ _ _ _ (by omega)];first|(rw[iY (by omega)]<;>rfl)|(rw[jB (by omega)]<;>rfl)|(rw[←jF]<;>rfl))
 refine mQ aRx (fun h1=>?_) (fun h1=>?_)
 ·skip
  refine mQ aSg (fun h2=>?_) (fun h2=>?_)
  rotate_left
  ·skip
   refine aH aON ?_
   refine⟨rfl,?_⟩;simp only[nn,G,wG,xG4]at *;first|(rw[if_pos (by omega)]<;>rfl)|(rw[if_neg (by omega),rZ _ _ _ _ _ (by omega)];first|(rw[iY (by omega)]<;>rfl)|(rw[jB (by omega)]<;>rfl)|(rw[←jF]<;>rfl))|(rw[if_neg (by omega),rG _ _ _ _ _ (by omega)];first|(rw[iY (by omega)]<;>rfl)|(rw[jB (by omega)]<;>rfl)|(rw[←jF]<;>rfl))
  refine mQ aPQ (fun h3=>?_) (fun h3=>?_)
  ·skip
   refine aH aRA ?_
   refine⟨rfl,?_⟩;simp only[nn,G,wG,xG4]at *;first|(rw[if_pos (by omega)]<;>rfl)|(rw[if_neg (by omega),rZ _ _ _ _ _ (by omega)];first|(rw[iY (by omega)]<;>rfl)|(rw[jB (by omega)]<;>rfl)|(rw[←jF]<;>rfl))|(rw[if_neg (by omega),rG _ _ _ _ _ (by omega)];first|(rw[iY (by omega)]<;>rfl)|(rw[jB (by omega)]<;>rfl)|(rw[←jF]<;>rfl))
  refine aH aRN ?_
  refine⟨rfl,?_⟩;simp only[nn,G,wG,xG4]at *;first|(rw[if_pos (by omega)]<;>rfl)|(rw[if_neg (by omega),rZ _ _ _ _ _ (by omega)];first|(rw[iY (by omega)]<;>rfl)|(rw[jB (by omega)]<;>rfl)|(rw[←jF]<;>rfl))|(rw[if_neg (by omega),rG _ _ _ _ _ (by omega)];first|(rw[iY (by omega)]<;>rfl)|(rw[jB (by omega)]<;>rfl)|(rw[←jF]<;>rfl))
 refine mQ aOp (fun h2=>?_) (fun h2=>?_)
 rotate_left
 ·skip
  refine aH aJJ ?_
  refine⟨rfl,?_⟩;simp only[nn,G,wG,xG4]at *;first|(rw[if_pos (by omega)]<;>rfl)|(rw[if_neg (by omega),rZ _ _ _ _ _ (by omega)];first|(rw[iY (by omega)]<;>rfl)|(rw[jB (by omega)]<;>rfl)|(rw[←jF]<;>rfl))|(rw[if_neg (by omega),rG _ _ _ _ _ (by omega)];first|(rw[iY (by omega)]<;>rfl)|(rw[jB (by omega)]<;>rfl)|(rw[←jF]<;>rfl))
 refine mQ aR8 (fun h3=>?_) (fun h3=>?_)
 ·skip
  refine aH aL3 ?_
  refine⟨rfl,?_⟩;simp only[nn,G,wG,xG4]at *;first|(rw[if_pos (by omega)]<;>rfl)|(rw[if_neg (by omega),rZ _ _ _ _ _ (by omega)];first|(rw[iY (by omega)]<;>rfl)|(rw[jB (by omega)]<;>rfl)|(rw[←jF]<;>rfl))|(rw[if_neg (by omega),rG _ _ _ _ _ (by omega)];first|(rw[iY (by omega)]<;>rfl)|(rw[jB (by omega)]<;>rfl)|(rw[←jF]<;>rfl))
 refine aH aJv ?_
 refine⟨rfl,?_⟩;simp only[nn,G,wG,xG4]at *;first|(rw[if_pos (by omega)]<;>rfl)|(rw[if_neg (by omega),rZ _ _ _ _ _ (by omega)];first|(rw[iY (by omega)]<;>rfl)|(rw[jB (by omega)]<;>rfl)|(rw[←jF]<;>rfl))|(rw[if_neg (by omega),rG _ _ _ _ _ (by omega)];first|(rw[iY (by omega)]<;>rfl)|(rw[jB (by omega)]<;>rfl)|(rw[←jF]<;>rfl))
def rC:mU:=fun X args=>
 match args with
 |[.int .i32 a0,(.agg [.int .i32 a1,.int .i32 a2]),(.agg [.int .i32 a3,.int .i32 a4])]=>if a0.fits X .i32 && a1.fits X .i32 && a2.fits X .i32 && a3.fits X .i32 && a4.fits X .i32 then (Res.test X (.cmp .eq (.op .sub a2 a1) (.lit 0))).bind fun t=>if t then .ok (.tuple [.int .i32 (.lit 0),.int .i64 (.lit 12)]) else .ok (.tuple [.int .i32 (.app 4 (.cons a0 (.cons a1 (.cons a2 (.cons a3 (.cons a4 .nil)))))),.int .i64 (.lit 0)]) else .fail 200
 |_ => .fail 201
theorem aOF {X:Ctx} {ρ:Nat→Int} (hX:X.Ok ρ) (hG:X.G=G):iO Try.prog X ρ GB 50 rC:=by
 obtain⟨XG,XI,XV,XF⟩:=X
 simp only at hG
 subst hG
 intro args s h α w vals hv hw
 unfold rC at h
 split at h
 ·split at h
  ·rename_i hg
   try simp only[Bool.and_eq_true]at hg
   obtain⟨⟨⟨⟨g0,g1⟩,g2⟩,g3⟩,g4⟩:=hg
   obtain⟨t,ht,h⟩:=Res.bind_ok h
   have ht:=Res.test_ok hX ht
   have k:=aKf _ _ _ _ _ (E.fits_in hX g0) (E.fits_in hX g1) (E.fits_in hX g2) (E.fits_in hX g3) (E.fits_in hX g4) w hw
   cases t with
   |true=>
    cases h
    simp only[B.den,aI7,E.den,aHz,decide_eq_true_eq]at ht
    rw[if_pos ht]at k
    exact dB hv rfl rfl k
   |false=>
    cases h
    simp only[B.den,aI7,E.den,aHz,decide_eq_false_iff_not]at ht
    rw[if_neg ht]at k
    exact dB hv rfl rfl k
  ·cases h
 ·cases h
set_option maxRecDepth 100000 in
theorem aOv (x0:Int) (b0:0≤x0∧x0≤30000) (w:World) (hw:WOk GB w):fO Try.prog 49∧Calls Try.prog 49 #[.int .i64 x0] w (fun e w'=>e = .returned (.int .i32 (x0*65536))∧Below w.heap.size w w'):=by
 refine wV (rU (ρ:=cQ [x0]) (run:=fun fs=>aSx Try.prog fs) (fun _=>rfl) fits (kZ ⟨b0,trivial⟩) eU (fun X hX hG=>aBF hX hG) rfl rfl oY ?_ w hw)
 refine aH aTQ ?_
 refine⟨rfl,?_⟩;simp only[nn,G,wG,xG4]at *;rw[aTj];congr 1;omega
def vI:mU:=fun X args=>
 match args with
 |[.int .i64 a0]=>if a0.lies X 0 30000 then .ok (.int .i32 (.op .mul a0 (.lit 65536))) else .fail 200
 |_ => .fail 201
theorem aUk {X:Ctx} {ρ:Nat→Int} (hX:X.Ok ρ) (hG:X.G=G):iO Try.prog X ρ GB 49 vI:=by
 obtain⟨XG,XI,XV,XF⟩:=X
 simp only at hG
 subst hG
 intro args s h α w vals hv hw
 unfold vI at h
 split at h
 ·split at h
  ·rename_i hg
   try simp only[Bool.and_eq_true]at hg
   have g0:=hg
   cases h
   exact dB hv rfl rfl (aOv _ (E.lies_in hX g0) w hw)
  ·cases h
 ·cases h
def aFP:bA:=kG 50 rC aOs
theorem aED {X:Ctx} {ρ:Nat→Int} (hX:X.Ok ρ) (hG:X.G=G):fF Try.prog X ρ GB aFP:=fI (aOF hX hG) (aBF hX hG)
def gH:bA:=kG 49 vI aFP
theorem dA {X:Ctx} {ρ:Nat→Int} (hX:X.Ok ρ) (hG:X.G=G):fF Try.prog X ρ GB gH:=fI (aUk hX hG) (aED hX hG)
def aWy:B:=(.lit true)
def aTo:FunS:=⟨[(.own 0 (.var 0) none),(.func (.func 92) [] [(.ptr 1 0)])],[some ([.vec [.int .i32,.int .i32] (.var 1) (.var 0) true],aF),some ([(.bool (.lit true))],4)],aWy,(.bool (.or (.and (.cmp .lt (.lit 0) (.var 0)) (.cmp .le (.app 82 (.cons (.var 1) (.cons (.lit 0) (.cons (.lit 1) .nil)))) (.app 82 (.cons (.var 1) (.cons (.lit 0) (.cons (.lit 0) .nil)))))) (.or (.and (.cmp .lt (.lit 1) (.var 0)) (.cmp .le (.app 82 (.cons (.var 1) (.cons (.lit 1) (.cons (.lit 1) .nil)))) (.app 82 (.cons (.var 1) (.cons (.lit 1) (.cons (.lit 0) .nil)))))) (.or (.and (.cmp .lt (.lit 2) (.var 0)) (.cmp .le (.app 82 (.cons (.var 1) (.cons (.lit 2) (.cons (.lit 1) .nil)))) (.app 82 (.cons (.var 1) (.cons (.lit 2) (.cons (.lit 0) .nil)))))) (.and (.cmp .lt (.lit 3) (.var 0)) (.cmp .le (.app 82 (.cons (.var 1) (.cons (.lit 3) (.cons (.lit 1) .nil)))) (.app 82 (.cons (.var 1) (.cons (.lit 3) (.cons (.lit 0) .nil)))))))))),[some ([.vec [.int .i32,.int .i32] (.var 1) (.var 0) true],aF),some ([(.bool (.lit true))],4)],(.bool (.or (.and (.cmp .lt (.lit 0) (.var 0)) (.cmp .le (.app 82 (.cons (.var 1) (.cons (.lit 0) (.cons (.lit 1) .nil)))) (.app 82 (.cons (.var 1) (.cons (.lit 0) (.cons (.lit 0) .nil)))))) (.or (.and (.cmp .lt (.lit 1) (.var 0)) (.cmp .le (.app 82 (.cons (.var 1) (.cons (.lit 1) (.cons (.lit 1) .nil)))) (.app 82 (.cons (.var 1) (.cons (.lit 1) (.cons (.lit 0) .nil)))))) (.or (.and (.cmp .lt (.lit 2) (.var 0)) (.cmp .le (.app 82 (.cons (.var 1) (.cons (.lit 2) (.cons (.lit 1) .nil)))) (.app 82 (.cons (.var 1) (.cons (.lit 2) (.cons (.lit 0) .nil)))))) (.and (.cmp .lt (.lit 3) (.var 0)) (.cmp .le (.app 82 (.cons (.var 1) (.cons (.lit 3) (.cons (.lit 1) .nil)))) (.app 82 (.cons (.var 1) (.cons (.lit 3) (.cons (.lit 0) .nil)))))))))),[some ([.vec [.int .i32,.int .i32] (.var 1) (.var 0) true],aF),some ([(.bool (.lit true))],4)]⟩
def aMi (P:Program) (fs:List B):Res SV:=cA G GI [(1,4)] fs fun X=>gJ P X GB gH dO 4000 91 aTo
def aWP:B:=(.lit true)
def aSW:FunS:=⟨[(.own 0 (.var 0) none),(.func (.func 92) [] [(.ptr 1 0)])],[some ([.vec [.int .i32,.int .i32] (.var 1) (.var 0) true],aF),some ([(.bool (.lit false))],4)],aWP,(.bool (.or (.and (.cmp .lt (.lit 0) (.var 0)) (.cmp .lt (.app 82 (.cons (.var 1) (.cons (.lit 0) (.cons (.lit 1) .nil)))) (.app 82 (.cons (.var 1) (.cons (.lit 0) (.cons (.lit 0) .nil)))))) (.or (.and (.cmp .lt (.lit 1) (.var 0)) (.cmp .lt (.app 82 (.cons (.var 1) (.cons (.lit 1) (.cons (.lit 1) .nil)))) (.app 82 (.cons (.var 1) (.cons (.lit 1) (.cons (.lit 0) .nil)))))) (.or (.and (.cmp .lt (.lit 2) (.var 0)) (.cmp .lt (.app 82 (.cons (.var 1) (.cons (.lit 2) (.cons (.lit 1) .nil)))) (.app 82 (.cons (.var 1) (.cons (.lit 2) (.cons (.lit 0) .nil)))))) (.and (.cmp .lt (.lit 3) (.var 0)) (.cmp .lt (.app 82 (.cons (.var 1) (.cons (.lit 3) (.cons (.lit 1) .nil)))) (.app 82 (.cons (.var 1) (.cons (.lit 3) (.cons (.lit 0) .nil)))))))))),[some ([.vec [.int .i32,.int .i32] (.var 1) (.var 0) true],aF),some ([(.bool (.lit false))],4)],(.bool (.or (.and (.cmp .lt (.lit 0) (.var 0)) (.cmp .lt (.app 82 (.cons (.var 1) (.cons (.lit 0) (.cons (.lit 1) .nil)))) (.app 82 (.cons (.var 1) (.cons (.lit 0) (.cons (.lit 0) .nil)))))) (.or (.and (.cmp .lt (.lit 1) (.var 0)) (.cmp .lt (.app 82 (.cons (.var 1) (.cons (.lit 1) (.cons (.lit 1) .nil)))) (.app 82 (.cons (.var 1) (.cons (.lit 1) (.cons (.lit 0) .nil)))))) (.or (.and (.cmp .lt (.lit 2) (.var 0)) (.cmp .lt (.app 82 (.cons (.var 1) (.cons (.lit 2) (.cons (.lit 1) .nil)))) (.app 82 (.cons (.var 1) (.cons (.lit 2) (.cons (.lit 0) .nil)))))) (.and (.cmp .lt (.lit 3) (.var 0)) (.cmp .lt (.app 82 (.cons (.var 1) (.cons (.lit 3) (.cons (.lit 1) .nil)))) (.app 82 (.cons (.var 1) (.cons (.lit 3) (.cons (.lit 0) .nil)))))))))),[some ([.vec [.int .i32,.int .i32] (.var 1) (.var 0) true],aF),some ([(.bool (.lit false))],4)]⟩
def aMh (P:Program) (fs:List B):Res SV:=cA G GI [(1,4)] fs fun X=>gJ P X GB gH dO 4000 91 aSW
def aWN:B:=(.lit true)
def aS2:FunS:=⟨[(.own 0 (.var 0) none),(.func (.func 71) [] [])],[some ([.vec [.int .i64] (.var 1) (.var 0) true],aF)],aWN,(.bool (.or (.and (.cmp .lt (.lit 0) (.var 0)) (.or (.cmp .lt (.app 83 (.cons (.var 1) (.cons (.lit 0) (.cons (.lit 0) .nil)))) (.lit 1)) (.cmp .lt (.lit 256) (.app 83 (.cons (.var 1) (.cons (.lit 0) (.cons (.lit 0) .nil))))))) (.or (.and (.cmp .lt (.lit 1) (.var 0)) (.or (.cmp .lt (.app 83 (.cons (.var 1) (.cons (.lit 1) (.cons (.lit 0) .nil)))) (.lit 1)) (.cmp .lt (.lit 256) (.app 83 (.cons (.var 1) (.cons (.lit 1) (.cons (.lit 0) .nil))))))) (.or (.and (.cmp .lt (.lit 2) (.var 0)) (.or (.cmp .lt (.app 83 (.cons (.var 1) (.cons (.lit 2) (.cons (.lit 0) .nil)))) (.lit 1)) (.cmp .lt (.lit 256) (.app 83 (.cons (.var 1) (.cons (.lit 2) (.cons (.lit 0) .nil))))))) (.or (.and (.cmp .lt (.lit 3) (.var 0)) (.or (.cmp .lt (.app 83 (.cons (.var 1) (.cons (.lit 3) (.cons (.lit 0) .nil)))) (.lit 1)) (.cmp .lt (.lit 256) (.app 83 (.cons (.var 1) (.cons (.lit 3) (.cons (.lit 0) .nil))))))) (.or (.and (.cmp .lt (.lit 4) (.var 0)) (.or (.cmp .lt (.app 83 (.cons (.var 1) (.cons (.lit 4) (.cons (.lit 0) .nil)))) (.lit 1)) (.cmp .lt (.lit 256) (.app 83 (.cons (.var 1) (.cons (.lit 4) (.cons (.lit 0) .nil))))))) (.or (.and (.cmp .lt (.lit 5) (.var 0)) (.or (.cmp .lt (.app 83 (.cons (.var 1) (.cons (.lit 5) (.cons (.lit 0) .nil)))) (.lit 1)) (.cmp .lt (.lit 256) (.app 83 (.cons (.var 1) (.cons (.lit 5) (.cons (.lit 0) .nil))))))) (.or (.and (.cmp .lt (.lit 6) (.var 0)) (.or (.cmp .lt (.app 83 (.cons (.var 1) (.cons (.lit 6) (.cons (.lit 0) .nil)))) (.lit 1)) (.cmp .lt (.lit 256) (.app 83 (.cons (.var 1) (.cons (.lit 6) (.cons (.lit 0) .nil))))))) (.and (.cmp .lt (.lit 7) (.var 0)) (.or (.cmp .lt (.app 83 (.cons (.var 1) (.cons (.lit 7) (.cons (.lit 0) .nil)))) (.lit 1)) (.cmp .lt (.lit 256) (.app 83 (.cons (.var 1) (.cons (.lit 7) (.cons (.lit 0) .nil))))))))))))))),[some ([.vec [.int .i64] (.var 1) (.var 0) true],aF)],(.bool (.or (.and (.cmp .lt (.lit 0) (.var 0)) (.or (.cmp .lt (.app 83 (.cons (.var 1) (.cons (.lit 0) (.cons (.lit 0) .nil)))) (.lit 1)) (.cmp .lt (.lit 256) (.app 83 (.cons (.var 1) (.cons (.lit 0) (.cons (.lit 0) .nil))))))) (.or (.and (.cmp .lt (.lit 1) (.var 0)) (.or (.cmp .lt (.app 83 (.cons (.var 1) (.cons (.lit 1) (.cons (.lit 0) .nil)))) (.lit 1)) (.cmp .lt (.lit 256) (.app 83 (.cons (.var 1) (.cons (.lit 1) (.cons (.lit 0) .nil))))))) (.or (.and (.cmp .lt (.lit 2) (.var 0)) (.or (.cmp .lt (.app 83 (.cons (.var 1) (.cons (.lit 2) (.cons (.lit 0) .nil)))) (.lit 1)) (.cmp .lt (.lit 256) (.app 83 (.cons (.var 1) (.cons (.lit 2) (.cons (.lit 0) .nil))))))) (.or (.and (.cmp .lt (.lit 3) (.var 0)) (.or (.cmp .lt (.app 83 (.cons (.var 1) (.cons (.lit 3) (.cons (.lit 0) .nil)))) (.lit 1)) (.cmp .lt (.lit 256) (.app 83 (.cons (.var 1) (.cons (.lit 3) (.cons (.lit 0) .nil))))))) (.or (.and (.cmp .lt (.lit 4) (.var 0)) (.or (.cmp .lt (.app 83 (.cons (.var 1) (.cons (.lit 4) (.cons (.lit 0) .nil)))) (.lit 1)) (.cmp .lt (.lit 256) (.app 83 (.cons (.var 1) (.cons (.lit 4) (.cons (.lit 0) .nil))))))) (.or (.and (.cmp .lt (.lit 5) (.var 0)) (.or (.cmp .lt (.app 83 (.cons (.var 1) (.cons (.lit 5) (.cons (.lit 0) .nil)))) (.lit 1)) (.cmp .lt (.lit 256) (.app 83 (.cons (.var 1) (.cons (.lit 5) (.cons (.lit 0) .nil))))))) (.or (.and (.cmp .lt (.lit 6) (.var 0)) (.or (.cmp .lt (.app 83 (.cons (.var 1) (.cons (.lit 6) (.cons (.lit 0) .nil)))) (.lit 1)) (.cmp .lt (.lit 256) (.app 83 (.cons (.var 1) (.cons (.lit 6) (.cons (.lit 0) .nil))))))) (.and (.cmp .lt (.lit 7) (.var 0)) (.or (.cmp .lt (.app 83 (.cons (.var 1) (.cons (.lit 7) (.cons (.lit 0) .nil)))) (.lit 1)) (.cmp .lt (.lit 256) (.app 83 (.cons (.var 1) (.cons (.lit 7) (.cons (.lit 0) .nil))))))))))))))),[some ([.vec [.int .i64] (.var 1) (.var 0) true],aF)]⟩
def aMP (P:Program) (fs:List B):Res SV:=cA G GI [(0,8)] fs fun X=>gJ P X GB gH dO 4000 70 aS2
end Go.Proofs.Ytdldallkeheciaa
set_option maxRecDepth 100000
namespace Go.Proofs.Ytdldallkeheciaa
open Go Go.RowKit Sx Wi Lk
def oT (P:Program) (fs:List B):Res SV:=aMi P fs
def aJ6:List B:=[]
def iD:B:=(.cmp .lt (.app 82 (.cons (.var 1) (.cons (.lit 0) (.cons (.lit 1) .nil)))) (.app 82 (.cons (.var 1) (.cons (.lit 0) (.cons (.lit 0) .nil)))))
def aT5:List B:=aJ iD++aJ6
def aCj:SV:=(.tuple [(.agg [(.bool (.cmp .le (.lit 0) (.lit 0))),(.bool (.or (.and (.cmp .lt (.lit 0) (.var 0)) (.cmp .le (.app 82 (.cons (.var 1) (.cons (.lit 0) (.cons (.lit 1) .nil)))) (.app 82 (.cons (.var 1) (.cons (.lit 0) (.cons (.lit 0) .nil)))))) (.or (.and (.cmp .lt (.lit 1) (.var 0)) (.cmp .le (.app 82 (.cons (.var 1) (.cons (.lit 1) (.cons (.lit 1) .nil)))) (.app 82 (.cons (.var 1) (.cons (.lit 1) (.cons (.lit 0) .nil)))))) (.or (.and (.cmp .lt (.lit 2) (.var 0)) (.cmp .le (.app 82 (.cons (.var 1) (.cons (.lit 2) (.cons (.lit 1) .nil)))) (.app 82 (.cons (.var 1) (.cons (.lit 2) (.cons (.lit 0) .nil)))))) (.and (.cmp .lt (.lit 3) (.var 0)) (.cmp .le (.app 82 (.cons (.var 1) (.cons (.lit 3) (.cons (.lit 1) .nil)))) (.app 82 (.cons (.var 1) (.cons (.lit 3) (.cons (.lit 0) .nil))))))))))]),(.bool (.lit true))])
def aKr:List B:=aJ (B.neg iD)++aJ6
def jA:B:=(.cmp .eq (.app 82 (.cons (.var 1) (.cons (.lit 0) (.cons (.lit 0) .nil)))) (.app 82 (.cons (.var 1) (.cons (.lit 0) (.cons (.lit 1) .nil)))))
def aU1:List B:=aJ jA++aKr
def aKj:List B:=aJ (B.neg jA)++aKr
def jR:B:=(.cmp .lt (.lit 1) (.var 0))
def aMu:List B:=aJ jR++aKj
def kK:B:=(.cmp .lt (.app 82 (.cons (.var 1) (.cons (.lit 1) (.cons (.lit 1) .nil)))) (.app 82 (.cons (.var 1) (.cons (.lit 1) (.cons (.lit 0) .nil)))))
def aUJ:List B:=aJ kK++aMu
def aBT:SV:=(.tuple [(.agg [(.bool (.cmp .le (.lit 0) (.lit 1))),(.bool (.or (.and (.cmp .lt (.lit 0) (.var 0)) (.cmp .le (.app 82 (.cons (.var 1) (.cons (.lit 0) (.cons (.lit 1) .nil)))) (.app 82 (.cons (.var 1) (.cons (.lit 0) (.cons (.lit 0) .nil)))))) (.or (.and (.cmp .lt (.lit 1) (.var 0)) (.cmp .le (.app 82 (.cons (.var 1) (.cons (.lit 1) (.cons (.lit 1) .nil)))) (.app 82 (.cons (.var 1) (.cons (.lit 1) (.cons (.lit 0) .nil)))))) (.or (.and (.cmp .lt (.lit 2) (.var 0)) (.cmp .le (.app 82 (.cons (.var 1) (.cons (.lit 2) (.cons (.lit 1) .nil)))) (.app 82 (.cons (.var 1) (.cons (.lit 2) (.cons (.lit 0) .nil)))))) (.and (.cmp .lt (.lit 3) (.var 0)) (.cmp .le (.app 82 (.cons (.var 1) (.cons (.lit 3) (.cons (.lit 1) .nil)))) (.app 82 (.cons (.var 1) (.cons (.lit 3) (.cons (.lit 0) .nil))))))))))]),(.bool (.lit true))])
def aJh:List B:=aJ (B.neg kK)++aMu
def lH:B:=(.cmp .eq (.app 82 (.cons (.var 1) (.cons (.lit 1) (.cons (.lit 0) .nil)))) (.app 82 (.cons (.var 1) (.cons (.lit 1) (.cons (.lit 1) .nil)))))
def aTD:List B:=aJ lH++aJh
def aMp:List B:=aJ (B.neg lH)++aJh
def mE:B:=(.cmp .lt (.lit 2) (.var 0))
def aGm:List B:=aJ mE++aMp
def nZ:B:=(.cmp .lt (.app 82 (.cons (.var 1) (.cons (.lit 2) (.cons (.lit 1) .nil)))) (.app 82 (.cons (.var 1) (.cons (.lit 2) (.cons (.lit 0) .nil)))))
def aRc:List B:=aJ nZ++aGm
def aBz:SV:=(.tuple [(.agg [(.bool (.cmp .le (.lit 0) (.lit 2))),(.bool (.or (.and (.cmp .lt (.lit 0) (.var 0)) (.cmp .le (.app 82 (.cons (.var 1) (.cons (.lit 0) (.cons (.lit 1) .nil)))) (.app 82 (.cons (.var 1) (.cons (.lit 0) (.cons (.lit 0) .nil)))))) (.or (.and (.cmp .lt (.lit 1) (.var 0)) (.cmp .le (.app 82 (.cons (.var 1) (.cons (.lit 1) (.cons (.lit 1) .nil)))) (.app 82 (.cons (.var 1) (.cons (.lit 1) (.cons (.lit 0) .nil)))))) (.or (.and (.cmp .lt (.lit 2) (.var 0)) (.cmp .le (.app 82 (.cons (.var 1) (.cons (.lit 2) (.cons (.lit 1) .nil)))) (.app 82 (.cons (.var 1) (.cons (.lit 2) (.cons (.lit 0) .nil)))))) (.and (.cmp .lt (.lit 3) (.var 0)) (.cmp .le (.app 82 (.cons (.var 1) (.cons (.lit 3) (.cons (.lit 1) .nil)))) (.app 82 (.cons (.var 1) (.cons (.lit 3) (.cons (.lit 0) .nil))))))))))]),(.bool (.lit true))])
def aGC:List B:=aJ (B.neg nZ)++aGm
def pG:B:=(.cmp .eq (.app 82 (.cons (.var 1) (.cons (.lit 2) (.cons (.lit 0) .nil)))) (.app 82 (.cons (.var 1) (.cons (.lit 2) (.cons (.lit 1) .nil)))))
def aSf:List B:=aJ pG++aGC
def aFQ:List B:=aJ (B.neg pG)++aGC
def sD:B:=(.cmp .lt (.lit 3) (.var 0))
def aGN:List B:=aJ sD++aFQ
def uQ:B:=(.cmp .lt (.app 82 (.cons (.var 1) (.cons (.lit 3) (.cons (.lit 1) .nil)))) (.app 82 (.cons (.var 1) (.cons (.lit 3) (.cons (.lit 0) .nil)))))
def aP3:List B:=aJ uQ++aGN
def aCL:SV:=(.tuple [(.agg [(.bool (.cmp .le (.lit 0) (.lit 3))),(.bool (.or (.and (.cmp .lt (.lit 0) (.var 0)) (.cmp .le (.app 82 (.cons (.var 1) (.cons (.lit 0) (.cons (.lit 1) .nil)))) (.app 82 (.cons (.var 1) (.cons (.lit 0) (.cons (.lit 0) .nil)))))) (.or (.and (.cmp .lt (.lit 1) (.var 0)) (.cmp .le (.app 82 (.cons (.var 1) (.cons (.lit 1) (.cons (.lit 1) .nil)))) (.app 82 (.cons (.var 1) (.cons (.lit 1) (.cons (.lit 0) .nil)))))) (.or (.and (.cmp .lt (.lit 2) (.var 0)) (.cmp .le (.app 82 (.cons (.var 1) (.cons (.lit 2) (.cons (.lit 1) .nil)))) (.app 82 (.cons (.var 1) (.cons (.lit 2) (.cons (.lit 0) .nil)))))) (.and (.cmp .lt (.lit 3) (.var 0)) (.cmp .le (.app 82 (.cons (.var 1) (.cons (.lit 3) (.cons (.lit 1) .nil)))) (.app 82 (.cons (.var 1) (.cons (.lit 3) (.cons (.lit 0) .nil))))))))))]),(.bool (.lit true))])
def aG8:List B:=aJ (B.neg uQ)++aGN
def tL:B:=(.cmp .eq (.app 82 (.cons (.var 1) (.cons (.lit 3) (.cons (.lit 0) .nil)))) (.app 82 (.cons (.var 1) (.cons (.lit 3) (.cons (.lit 1) .nil)))))
def aOc:List B:=aJ tL++aG8
def aOo:List B:=aJ (B.neg tL)++aG8
def pU:SV:=(.tuple [(.agg [(.bool (.cmp .le (.lit 0) (.lit (-1)))),(.bool (.or (.and (.cmp .lt (.lit 0) (.var 0)) (.cmp .le (.app 82 (.cons (.var 1) (.cons (.lit 0) (.cons (.lit 1) .nil)))) (.app 82 (.cons (.var 1) (.cons (.lit 0) (.cons (.lit 0) .nil)))))) (.or (.and (.cmp .lt (.lit 1) (.var 0)) (.cmp .le (.app 82 (.cons (.var 1) (.cons (.lit 1) (.cons (.lit 1) .nil)))) (.app 82 (.cons (.var 1) (.cons (.lit 1) (.cons (.lit 0) .nil)))))) (.or (.and (.cmp .lt (.lit 2) (.var 0)) (.cmp .le (.app 82 (.cons (.var 1) (.cons (.lit 2) (.cons (.lit 1) .nil)))) (.app 82 (.cons (.var 1) (.cons (.lit 2) (.cons (.lit 0) .nil)))))) (.and (.cmp .lt (.lit 3) (.var 0)) (.cmp .le (.app 82 (.cons (.var 1) (.cons (.lit 3) (.cons (.lit 1) .nil)))) (.app 82 (.cons (.var 1) (.cons (.lit 3) (.cons (.lit 0) .nil))))))))))]),(.bool (.lit true))])
def aQn:List B:=aJ (B.neg sD)++aFQ
def aP8:List B:=aJ (B.neg mE)++aMp
def aOO:List B:=aJ (B.neg jR)++aKj
theorem aU7:oT Try.prog aT5 = .ok aCj:=by kernel_rfl
theorem aTx:oT Try.prog aU1 = .ok aCj:=by kernel_rfl
theorem aTM:oT Try.prog aUJ = .ok aBT:=by kernel_rfl
theorem aTS:oT Try.prog aTD = .ok aBT:=by kernel_rfl
theorem aOl:oT Try.prog aRc = .ok aBz:=by kernel_rfl
theorem aPf:oT Try.prog aSf = .ok aBz:=by kernel_rfl
theorem aQH:oT Try.prog aP3 = .ok aCL:=by kernel_rfl
theorem aQ2:oT Try.prog aOc = .ok aCL:=by kernel_rfl
theorem aPv:oT Try.prog aOo = .ok pU:=by kernel_rfl
theorem aPh:oT Try.prog aQn = .ok pU:=by kernel_rfl
theorem aQi:oT Try.prog aP8 = .ok pU:=by kernel_rfl
theorem aPE:oT Try.prog aOO = .ok pU:=by kernel_rfl
end Go.Proofs.Ytdldallkeheciaa
set_option maxRecDepth 100000
namespace Go.Proofs.Ytdldallkeheciaa
open Go Go.RowKit Sx Wi Lk
def wD (P:Program) (fs:List B):Res SV:=aMh P fs
def aLt:List B:=[]
def lA:B:=(.cmp .lt (.app 82 (.cons (.var 1) (.cons (.lit 0) (.cons (.lit 1) .nil)))) (.app 82 (.cons (.var 1) (.cons (.lit 0) (.cons (.lit 0) .nil)))))
def aTh:List B:=aJ lA++aLt
def aMz:SV:=(.tuple [(.agg [(.bool (.cmp .le (.lit 0) (.lit 0))),(.bool (.or (.and (.cmp .lt (.lit 0) (.var 0)) (.cmp .lt (.app 82 (.cons (.var 1) (.cons (.lit 0) (.cons (.lit 1) .nil)))) (.app 82 (.cons (.var 1) (.cons (.lit 0) (.cons (.lit 0) .nil)))))) (.or (.and (.cmp .lt (.lit 1) (.var 0)) (.cmp .lt (.app 82 (.cons (.var 1) (.cons (.lit 1) (.cons (.lit 1) .nil)))) (.app 82 (.cons (.var 1) (.cons (.lit 1) (.cons (.lit 0) .nil)))))) (.or (.and (.cmp .lt (.lit 2) (.var 0)) (.cmp .lt (.app 82 (.cons (.var 1) (.cons (.lit 2) (.cons (.lit 1) .nil)))) (.app 82 (.cons (.var 1) (.cons (.lit 2) (.cons (.lit 0) .nil)))))) (.and (.cmp .lt (.lit 3) (.var 0)) (.cmp .lt (.app 82 (.cons (.var 1) (.cons (.lit 3) (.cons (.lit 1) .nil)))) (.app 82 (.cons (.var 1) (.cons (.lit 3) (.cons (.lit 0) .nil))))))))))]),(.bool (.lit true))])
def aMt:List B:=aJ (B.neg lA)++aLt
def mN:B:=(.cmp .lt (.lit 1) (.var 0))
def aI5:List B:=aJ mN++aMt
def oL:B:=(.cmp .lt (.app 82 (.cons (.var 1) (.cons (.lit 1) (.cons (.lit 1) .nil)))) (.app 82 (.cons (.var 1) (.cons (.lit 1) (.cons (.lit 0) .nil)))))
def aUu:List B:=aJ oL++aI5
def aJY:SV:=(.tuple [(.agg [(.bool (.cmp .le (.lit 0) (.lit 1))),(.bool (.or (.and (.cmp .lt (.lit 0) (.var 0)) (.cmp .lt (.app 82 (.cons (.var 1) (.cons (.lit 0) (.cons (.lit 1) .nil)))) (.app 82 (.cons (.var 1) (.cons (.lit 0) (.cons (.lit 0) .nil)))))) (.or (.and (.cmp .lt (.lit 1) (.var 0)) (.cmp .lt (.app 82 (.cons (.var 1) (.cons (.lit 1) (.cons (.lit 1) .nil)))) (.app 82 (.cons (.var 1) (.cons (.lit 1) (.cons (.lit 0) .nil)))))) (.or (.and (.cmp .lt (.lit 2) (.var 0)) (.cmp .lt (.app 82 (.cons (.var 1) (.cons (.lit 2) (.cons (.lit 1) .nil)))) (.app 82 (.cons (.var 1) (.cons (.lit 2) (.cons (.lit 0) .nil)))))) (.and (.cmp .lt (.lit 3) (.var 0)) (.cmp .lt (.app 82 (.cons (.var 1) (.cons (.lit 3) (.cons (.lit 1) .nil)))) (.app 82 (.cons (.var 1) (.cons (.lit 3) (.cons (.lit 0) .nil))))))))))]),(.bool (.lit true))])
def aK6:List B:=aJ (B.neg oL)++aI5
def pH:B:=(.cmp .lt (.lit 2) (.var 0))
def aL5:List B:=aJ pH++aK6
def sB:B:=(.cmp .lt (.app 82 (.cons (.var 1) (.cons (.lit 2) (.cons (.lit 1) .nil)))) (.app 82 (.cons (.var 1) (.cons (.lit 2) (.cons (.lit 0) .nil)))))
def aUZ:List B:=aJ sB++aL5
def aL6:SV:=(.tuple [(.agg [(.bool (.cmp .le (.lit 0) (.lit 2))),(.bool (.or (.and (.cmp .lt (.lit 0) (.var 0)) (.cmp .lt (.app 82 (.cons (.var 1) (.cons (.lit 0) (.cons (.lit 1) .nil)))) (.app 82 (.cons (.var 1) (.cons (.lit 0) (.cons (.lit 0) .nil)))))) (.or (.and (.cmp .lt (.lit 1) (.var 0)) (.cmp .lt (.app 82 (.cons (.var 1) (.cons (.lit 1) (.cons (.lit 1) .nil)))) (.app 82 (.cons (.var 1) (.cons (.lit 1) (.cons (.lit 0) .nil)))))) (.or (.and (.cmp .lt (.lit 2) (.var 0)) (.cmp .lt (.app 82 (.cons (.var 1) (.cons (.lit 2) (.cons (.lit 1) .nil)))) (.app 82 (.cons (.var 1) (.cons (.lit 2) (.cons (.lit 0) .nil)))))) (.and (.cmp .lt (.lit 3) (.var 0)) (.cmp .lt (.app 82 (.cons (.var 1) (.cons (.lit 3) (.cons (.lit 1) .nil)))) (.app 82 (.cons (.var 1) (.cons (.lit 3) (.cons (.lit 0) .nil))))))))))]),(.bool (.lit true))])
def aLs:List B:=aJ (B.neg sB)++aL5
def uN:B:=(.cmp .lt (.lit 3) (.var 0))
def aLk:List B:=aJ uN++aLs
def xK:B:=(.cmp .lt (.app 82 (.cons (.var 1) (.cons (.lit 3) (.cons (.lit 1) .nil)))) (.app 82 (.cons (.var 1) (.cons (.lit 3) (.cons (.lit 0) .nil)))))
def aRt:List B:=aJ xK++aLk
def aK3:SV:=(.tuple [(.agg [(.bool (.cmp .le (.lit 0) (.lit 3))),(.bool (.or (.and (.cmp .lt (.lit 0) (.var 0)) (.cmp .lt (.app 82 (.cons (.var 1) (.cons (.lit 0) (.cons (.lit 1) .nil)))) (.app 82 (.cons (.var 1) (.cons (.lit 0) (.cons (.lit 0) .nil)))))) (.or (.and (.cmp .lt (.lit 1) (.var 0)) (.cmp .lt (.app 82 (.cons (.var 1) (.cons (.lit 1) (.cons (.lit 1) .nil)))) (.app 82 (.cons (.var 1) (.cons (.lit 1) (.cons (.lit 0) .nil)))))) (.or (.and (.cmp .lt (.lit 2) (.var 0)) (.cmp .lt (.app 82 (.cons (.var 1) (.cons (.lit 2) (.cons (.lit 1) .nil)))) (.app 82 (.cons (.var 1) (.cons (.lit 2) (.cons (.lit 0) .nil)))))) (.and (.cmp .lt (.lit 3) (.var 0)) (.cmp .lt (.app 82 (.cons (.var 1) (.cons (.lit 3) (.cons (.lit 1) .nil)))) (.app 82 (.cons (.var 1) (.cons (.lit 3) (.cons (.lit 0) .nil))))))))))]),(.bool (.lit true))])
def aNd:List B:=aJ (B.neg xK)++aLk
def pY:SV:=(.tuple [(.agg [(.bool (.cmp .le (.lit 0) (.lit (-1)))),(.bool (.or (.and (.cmp .lt (.lit 0) (.var 0)) (.cmp .lt (.app 82 (.cons (.var 1) (.cons (.lit 0) (.cons (.lit 1) .nil)))) (.app 82 (.cons (.var 1) (.cons (.lit 0) (.cons (.lit 0) .nil)))))) (.or (.and (.cmp .lt (.lit 1) (.var 0)) (.cmp .lt (.app 82 (.cons (.var 1) (.cons (.lit 1) (.cons (.lit 1) .nil)))) (.app 82 (.cons (.var 1) (.cons (.lit 1) (.cons (.lit 0) .nil)))))) (.or (.and (.cmp .lt (.lit 2) (.var 0)) (.cmp .lt (.app 82 (.cons (.var 1) (.cons (.lit 2) (.cons (.lit 1) .nil)))) (.app 82 (.cons (.var 1) (.cons (.lit 2) (.cons (.lit 0) .nil)))))) (.and (.cmp .lt (.lit 3) (.var 0)) (.cmp .lt (.app 82 (.cons (.var 1) (.cons (.lit 3) (.cons (.lit 1) .nil)))) (.app 82 (.cons (.var 1) (.cons (.lit 3) (.cons (.lit 0) .nil))))))))))]),(.bool (.lit true))])
def aOd:List B:=aJ (B.neg uN)++aLs
def aOG:List B:=aJ (B.neg pH)++aK6
def aNf:List B:=aJ (B.neg mN)++aMt
theorem aS0:wD Try.prog aTh = .ok aMz:=by kernel_rfl
theorem aUc:wD Try.prog aUu = .ok aJY:=by kernel_rfl
theorem aUA:wD Try.prog aUZ = .ok aL6:=by kernel_rfl
theorem aPW:wD Try.prog aRt = .ok aK3:=by kernel_rfl
theorem aNP:wD Try.prog aNd = .ok pY:=by kernel_rfl
theorem aPt:wD Try.prog aOd = .ok pY:=by kernel_rfl
theorem aNo:wD Try.prog aOG = .ok pY:=by kernel_rfl
theorem aPA:wD Try.prog aNf = .ok pY:=by kernel_rfl
end Go.Proofs.Ytdldallkeheciaa
