/- What is proved: small facts for the contracts of this seat,in plain Lean. No condition but those that are stated. -/
import Derived.Test.YtdldallkeheciaaQg6
import Derived.Test.YtdldallkeheciaaQg4
import Derived.Test.YtdldallkeheciaaQNn
import Derived.Test.YtdldallkeheciaaQg3
import Derived.Test.YtdldallkeheciaaProg
set_option linter.unusedSimpArgs false
set_option linter.unusedVariables false
namespace Go.Proofs.Ytdldallkeheciaa
open Go Go.RowKit Sx Wi
theorem aY {p:Int × Int} {l:List (Int × Int)} {xs:List Int} (h:dW (p::l) xs):∃ x ys,xs=x::ys∧(p.1≤x∧x≤p.2)∧dW l ys:=by
 cases xs with
 |nil=>exact h.elim
 |cons x ys=>exact⟨x,ys,rfl,h.1,h.2⟩
theorem jS {xs:List Int} (h:dW [] xs):xs=[]:=by
 cases xs with
 |nil=>rfl
 |cons x ys=>exact h.elim
theorem bJ {xs:List Int} {n:Nat} (h:xs.length=n+1):∃ a ys,xs=a::ys∧ys.length=n:=by
 cases xs with
 |nil=>cases h
 |cons a ys=>exact⟨a,ys,rfl,by simpa using h⟩
theorem aZ (ρ:Nat→Int) (x y:B):B.den G ρ (.and x y)=(B.den G ρ x && B.den G ρ y):=by simp only[B.den]
theorem gY (ρ:Nat→Int) (x y:B):B.den G ρ (.or x y)=(B.den G ρ x ||B.den G ρ y):=by simp only[B.den]
theorem cE (ρ:Nat→Int) (x:Bool):B.den G ρ (.lit x)=x:=by simp only[B.den]
theorem eV (ρ:Nat→Int) (x:B):B.den G ρ (B.neg x) = !B.den G ρ x:=B.neg_den G ρ x
theorem aPg (x:Int):bT .and .i64 x 7=x % 8:=by
 have e:(BitVec.ofInt 64 x &&& BitVec.ofInt 64 7).toNat=(BitVec.ofInt 64 x).toNat % 8:=by
  rw[BitVec.toNat_and]
  exact Nat.and_two_pow_sub_one_eq_mod _ 3
 have e2:=BitVec.toNat_ofInt (n:=64) (i:=x)
 show IntKind.i64.wrap ((BitVec.ofInt 64 x &&& BitVec.ofInt 64 7).toNat:Int)=_
 rw[e,e2,IntKind.wrap_i64]
 omega
theorem aBs {x:Int} (h:0≤x∧x<18446744073709551616):(BitVec.ofInt 64 x).toNat=x.toNat:=by
 rw[BitVec.toNat_ofInt];omega
theorem aRT (x:Int) (n:Nat) (hn:n≤16) (h:0≤x∧x<18446744073709551616):bT .and .u64 x (1*2 ^ n-1)=x % 2 ^ n:=by
 have hp:2 ^ n≤2 ^ 16:=Nat.pow_le_pow_right (by decide) hn
 have h1:1≤2 ^ n:=Nat.one_le_two_pow
 have c:((2 ^ n:Nat):Int)=2 ^ n:=by rw[Int.natCast_pow];rfl
 have e0:(1*2 ^ n-1:Int)=((2 ^ n-1:Nat):Int):=by rw[Int.natCast_sub h1,c];omega
 show IntKind.u64.wrap ((BitVec.ofInt 64 x &&& BitVec.ofInt 64 (1*2 ^ n-1)).toNat:Int)=_
 rw[BitVec.toNat_and,aBs h,e0,aBs ⟨by omega,by omega⟩,Int.toNat_natCast,Nat.and_two_pow_sub_one_eq_mod,IntKind.wrap_u64]
 have e1:((x.toNat % 2 ^ n:Nat):Int)=x % 2 ^ n:=by rw[Int.natCast_emod,c,Int.toNat_of_nonneg h.1]
 have e2:x.toNat % 2 ^ n<2 ^ n:=Nat.mod_lt _ (by omega)
 rw[←e1]
 omega
theorem aHq (x c:Int) (h:0≤x∧x<72057594037927936) (hc:0≤c∧c<256):bT .or .u64 (x*256) c=x*256+c:=by
 obtain⟨a,rfl⟩:=Int.eq_ofNat_of_zero_le h.1
 obtain⟨b,rfl⟩:=Int.eq_ofNat_of_zero_le hc.1
 show IntKind.u64.wrap ((BitVec.ofInt 64 ((a:Int)*256) |||BitVec.ofInt 64 (b:Int)).toNat:Int)=_
 rw[BitVec.toNat_or,aBs ⟨by omega,by omega⟩,aBs ⟨by omega,by omega⟩,Int.toNat_natCast,show ((a:Int)*256).toNat=a*2 ^ 8 by omega,IntKind.wrap_u64]
 have k:=Nat.shiftLeft_add_eq_or_of_lt (b:=b) (i:=8) (by omega) a
 rw[Nat.shiftLeft_eq]at k
 rw[←k]
 omega
def aBR (g h:Ctx→List SV→aM→Res (SV × aM)):Ctx→List SV→aM→Res (SV × aM):=fun X args σ=>
 match g X args σ with
 | .fail _=>h X args σ
 |r=>r
theorem aA4 {P:Program} {X:Ctx} {ρ:Nat→Int} {gb:dF} {f:FuncId} {g h:Ctx→List SV→aM→Res (SV × aM)} (hg:eU P X ρ gb f g) (hh:eU P X ρ gb f h):eU P X ρ gb f (aBR g h):=by
 intro args σ s σ' e
 unfold aBR at e
 split at e
 ·exact hh args σ s σ' e
 ·exact hg args σ s σ' e
def rG (g:Ctx→List SV→aM→Res (SV × aM)):Ctx→List SV→aM→Res (SV × aM):=fun X args σ=>
 (g X args σ).bind fun r=>match r.1 with
  | .bool b=>(Res.testW X b).bind fun t => .ok (.bool (.lit t),r.2)
  |_ => .ok r
theorem nC {P:Program} {X:Ctx} {ρ:Nat→Int} {gb:dF} {f:FuncId} {g:Ctx→List SV→aM→Res (SV × aM)} (hX:X.Ok ρ) (hg:eU P X ρ gb f g):eU P X ρ gb f (rG g):=by
 intro args σ s σ' e α w vals hW hv
 unfold rG at e
 obtain⟨r,hr,e⟩:=Res.bind_ok e
 obtain⟨s0,σ0⟩:=r
 obtain⟨hk,hc⟩:=hg args σ s0 σ0 hr α w vals hW hv
 refine⟨hk,hc.mono ?_⟩
 rintro en w' ⟨v,α',rfl,rv,q⟩
 simp only at e
 split at e
 ·rename_i _ b
  obtain⟨t,ht,e⟩:=Res.bind_ok e
  have ht:=Res.testW_ok hX ht
  cases e
  refine⟨v,α',rfl,?_,q⟩
  simp only[SV.R,B.den]at rv ⊢
  rw[rv,ht]
 ·cases e;exact⟨v,α',rfl,rv,q⟩
end Go.Proofs.Ytdldallkeheciaa
namespace Go.Proofs.Ytdldallkeheciaa
open Go Go.RowKit Sx Wi Lk
def oX (x0 x1 x2 x3 x4 x5 x6 D R S:Int):Prop:=
 x0=1∧(1≤x1∧x1≤4)∧(∀ i:Nat,(i:Int)<x1→nN D i 0<nN D i 1)∧(1≤x2∧x2≤4)∧(∀ i:Nat,(i:Int)<x2→nN R i 0≤nN R i 1)∧x3=x1∧
 (∀ i:Nat,(i:Int)<x3→1≤kR S i 0∧kR S i 0≤256)∧(x4=1∨x4=2∨x4=4∨x4=8∨x4=12∨x4=16)∧(x5=0∨x5=x1)∧(x6=0∨x6=x2)
set_option maxHeartbeats 4000000 in
set_option maxRecDepth 100000 in
theorem nF {x0 x1 x2 x3 x4 x5 x6 x7 D R S:Int} {ls:List Int} (h:B.den G (cR ([x0,x1,x2,x3,x4,x5,x6,x7]++(D::R::S::ls))) bV=true):oX x0 x1 x2 x3 x4 x5 x6 D R S:=by
 unfold bV at h
 simp only[nn,B.neg_den,List.cons_append,List.nil_append,Bool.or_eq_true,Bool.or_eq_false_iff,Bool.and_eq_false_iff]at h
 obtain⟨h0,h1,h2,h3,h4,h5,h6,h7,h8,h9,h10,h11⟩:=h
 refine⟨h0,⟨by omega,h2⟩,?_,⟨by omega,h5⟩,?_,h7,?_,h9,h10,h11⟩
 ·intro i hi
  clear h6 h8
  have:i=0∨i=1∨i=2∨i=3:=by omega
  rcases this with rfl|rfl|rfl|rfl
  ·show G 82 [D,0,0]<G 82 [D,0,1]
   obtain⟨q,_⟩:=h3
   generalize G 82 [D,0,0]=a at *
   generalize G 82 [D,0,1]=b at *
   omega
  ·show G 82 [D,1,0]<G 82 [D,1,1]
   obtain⟨_,q,_⟩:=h3
   generalize G 82 [D,1,0]=a at *
   generalize G 82 [D,1,1]=b at *
   omega
  ·show G 82 [D,2,0]<G 82 [D,2,1]
   obtain⟨_,_,q,_⟩:=h3
   generalize G 82 [D,2,0]=a at *
   generalize G 82 [D,2,1]=b at *
   omega
  ·show G 82 [D,3,0]<G 82 [D,3,1]
   obtain⟨_,_,_,q⟩:=h3
   generalize G 82 [D,3,0]=a at *
   generalize G 82 [D,3,1]=b at *
   omega
 ·intro i hi
  clear h3 h8
  have:i=0∨i=1∨i=2∨i=3:=by omega
  rcases this with rfl|rfl|rfl|rfl
  ·show G 82 [R,0,0]≤G 82 [R,0,1]
   obtain⟨q,_⟩:=h6
   generalize G 82 [R,0,0]=a at *
   generalize G 82 [R,0,1]=b at *
   omega
  ·show G 82 [R,1,0]≤G 82 [R,1,1]
   obtain⟨_,q,_⟩:=h6
   generalize G 82 [R,1,0]=a at *
   generalize G 82 [R,1,1]=b at *
   omega
  ·show G 82 [R,2,0]≤G 82 [R,2,1]
   obtain⟨_,_,q,_⟩:=h6
   generalize G 82 [R,2,0]=a at *
   generalize G 82 [R,2,1]=b at *
   omega
  ·show G 82 [R,3,0]≤G 82 [R,3,1]
   obtain⟨_,_,_,q⟩:=h6
   generalize G 82 [R,3,0]=a at *
   generalize G 82 [R,3,1]=b at *
   omega
 ·intro i hi
  clear h3 h6
  have:i=0∨i=1∨i=2∨i=3:=by omega
  rcases this with rfl|rfl|rfl|rfl
  ·show 1≤G 83 [S,0,0]∧G 83 [S,0,0]≤256
   obtain⟨q,_⟩:=h8
   generalize G 83 [S,0,0]=a at *
   omega
  ·show 1≤G 83 [S,1,0]∧G 83 [S,1,0]≤256
   obtain⟨_,q,_⟩:=h8
   generalize G 83 [S,1,0]=a at *
   omega
  ·show 1≤G 83 [S,2,0]∧G 83 [S,2,0]≤256
   obtain⟨_,_,q,_⟩:=h8
   generalize G 83 [S,2,0]=a at *
   omega
  ·show 1≤G 83 [S,3,0]∧G 83 [S,3,0]≤256
   obtain⟨_,_,_,q,_⟩:=h8
   generalize G 83 [S,3,0]=a at *
   omega
theorem tY {nR bits S:Int} {m:Nat} (h0:1≤nR*bits) (hs:∀ i:Nat,i<m→1≤kR S i 0):∀ k,k≤m→1≤aK nR bits S k
 |0,_=>h0
 |k+1,hk=>by
  have a:=tY h0 hs k (by omega)
  have b:=hs k (by omega)
  have:=Int.mul_le_mul a b (by decide) (by omega)
  simpa [aK]using this
theorem aGL {nR bits S:Int} {m:Nat} (h0:1≤nR*bits) (hs:∀ i:Nat,i<m→1≤kR S i 0) {k:Nat}:∀ d,k+d≤m→aK nR bits S k≤aK nR bits S (k+d)
 |0,_=>Int.le_refl _
 |d+1,hd=>by
  have a:=aGL h0 hs (k:=k) d (by omega)
  have p:=tY h0 hs (k+d) (by omega)
  have b:=hs (k+d) (by omega)
  have:=Int.mul_le_mul_of_nonneg_left b (show 0≤aK nR bits S (k+d)by omega)
  rw[Int.mul_one]at this
  show _≤aK nR bits S (k+d)*kR S ((k+d:Nat):Int) 0
  omega
theorem aG1 {nR bits S:Int} {m:Nat} (h0:nR*bits≤64) (hp:1≤nR*bits) (hs:∀ i:Nat,i<m→1≤kR S i 0∧kR S i 0≤256):∀ k,k≤m→aK nR bits S k≤64*256 ^ k
 |0,_=>by simpa [aK]using h0
 |k+1,hk=>by
  have a:=aG1 h0 hp hs k (by omega)
  have p:=tY hp (fun i hi=>(hs i hi).1) k (by omega)
  have b:=hs k (by omega)
  have q:=Int.mul_le_mul a b.2 (by omega) (by have:(0:Int)≤256 ^ k:=Int.pow_nonneg (by decide);omega)
  show aK nR bits S k*kR S k 0≤_
  rw[Int.pow_succ,←Int.mul_assoc];exact q
theorem aIt {x0 x1 x2 x3 x4 x5 x6 D R S:Int} (h:oX x0 x1 x2 x3 x4 x5 x6 D R S):(1≤x2*x4∧x2*x4≤64)∧
  (∀ k:Nat,(k:Int)≤x3→1≤aK x2 x4 S k∧aK x2 x4 S k≤64*256 ^ k∧aK x2 x4 S k≤aK x2 x4 S x3.toNat):=by
 obtain⟨_,h1,_,h2,_,e3,hs,h4,_⟩:=h
 have hb:1≤x4∧x4≤16:=by omega
 have a:=Int.mul_le_mul h2.1 hb.1 (by decide) (by omega)
 have b:=Int.mul_le_mul h2.2 hb.2 (by omega) (by decide)
 have ab:1≤x2*x4∧x2*x4≤64:=⟨by simpa using a,by simpa using b⟩
 refine⟨ab,fun k hk=>?_⟩
 have hs':∀ i:Nat,i<x3.toNat→1≤kR S i 0∧kR S i 0≤256:=fun i hi=>hs i (by omega)
 refine⟨tY ab.1 (fun i hi=>(hs' i hi).1) k (by omega),aG1 ab.2 ab.1 hs' k (by omega),?_⟩
 have:=aGL ab.1 (fun i hi=>(hs' i hi).1) (k:=k) (x3.toNat-k) (by omega)
 rwa [show k+(x3.toNat-k)=x3.toNat by omega]at this
section
variable {x0 x1 x2 x3 x4 x5 x6 x7 D R S:Int} {ls:List Int}
theorem aKN (h:B.den G (cR ([x0,x1,x2,x3,x4,x5,x6,x7]++(D::R::S::ls))) bV=false):(4:Int)=G 72 [x0,x1,x2,x3,x4,x5,x6,x7,D,R,S]:=by
 have h':B.den wG (cR [x0,x1,x2,x3,x4,x5,x6,x7,D,R,S]) bV=false:=h
 have e:G 72 [x0,x1,x2,x3,x4,x5,x6,x7,D,R,S]=if B.den wG (cR [x0,x1,x2,x3,x4,x5,x6,x7,D,R,S]) bV=true then (if 524288<aK x2 x4 S x3.toNat then 3 else 5) else 4:=rfl
 rw[e,if_neg (by rw[h'];decide)]
theorem mE (h:B.den G (cR ([x0,x1,x2,x3,x4,x5,x6,x7]++(D::R::S::ls))) bV=true) (q:524288<aK x2 x4 S x3.toNat):(3:Int)=G 72 [x0,x1,x2,x3,x4,x5,x6,x7,D,R,S]:=by
 have h':B.den wG (cR [x0,x1,x2,x3,x4,x5,x6,x7,D,R,S]) bV=true:=h
 have e:G 72 [x0,x1,x2,x3,x4,x5,x6,x7,D,R,S]=if B.den wG (cR [x0,x1,x2,x3,x4,x5,x6,x7,D,R,S]) bV=true then (if 524288<aK x2 x4 S x3.toNat then 3 else 5) else 4:=rfl
 rw[e,if_pos h',if_pos q]
theorem iH (h:B.den G (cR ([x0,x1,x2,x3,x4,x5,x6,x7]++(D::R::S::ls))) bV=true) (q:aK x2 x4 S x3.toNat≤524288):(5:Int)=G 72 [x0,x1,x2,x3,x4,x5,x6,x7,D,R,S]:=by
 have h':B.den wG (cR [x0,x1,x2,x3,x4,x5,x6,x7,D,R,S]) bV=true:=h
 have e:G 72 [x0,x1,x2,x3,x4,x5,x6,x7,D,R,S]=if B.den wG (cR [x0,x1,x2,x3,x4,x5,x6,x7,D,R,S]) bV=true then (if 524288<aK x2 x4 S x3.toNat then 3 else 5) else 4:=rfl
 rw[e,if_pos h',if_neg (by omega)]
end
end Go.Proofs.Ytdldallkeheciaa
set_option maxRecDepth 100000
namespace Go.Proofs.Ytdldallkeheciaa
open Go Go.RowKit Sx Wi Lk
def iL (P:Program) (fs:List B):Res SV:=cB G GI [((-2147483648),2147483647),((-2147483648),2147483647),((-2147483648),2147483647),((-2147483648),2147483647),((-2147483648),2147483647)] fs (fun X=>aA8 P X GB aOo 3000 50 [(.int .i32 (.var 0)),(.agg [(.int .i32 (.var 1)),(.int .i32 (.var 2))]),(.agg [(.int .i32 (.var 3)),(.int .i32 (.var 4))])])
def aCo:List B:=[]
def aHy:B:=(.cmp .eq (.op .sub (.var 2) (.var 1)) (.lit 0))
def aQE:List B:=aJ aHy++aCo
def aCU:List B:=aJ (B.neg aHy)++aCo
def aH2:B:=(.cmp .lt (.op .sub (.var 2) (.var 1)) (.lit 0))
def aCI:List B:=aJ aH2++aCU
def aHz:B:=(.cmp .le (.lit (-9223372036854775808)) (.app 2 (.cons (.op .add (.op .mul (.op .sub (.lit 0) (.op .sub (.var 0) (.var 1))) (.op .sub (.var 4) (.var 3))) (.op .mul (.var 3) (.op .sub (.lit 0) (.op .sub (.var 2) (.var 1))))) (.cons (.op .sub (.lit 0) (.op .sub (.var 2) (.var 1))) .nil))))
def aBn:List B:=aJ aHz++aCI
def aHh:B:=(.cmp .le (.app 2 (.cons (.op .add (.op .mul (.op .sub (.lit 0) (.op .sub (.var 0) (.var 1))) (.op .sub (.var 4) (.var 3))) (.op .mul (.var 3) (.op .sub (.lit 0) (.op .sub (.var 2) (.var 1))))) (.cons (.op .sub (.lit 0) (.op .sub (.var 2) (.var 1))) .nil))) (.lit 9223372036854775807))
def aPE:List B:=aJ aHh++aBn
def aN8:List B:=aJ (B.neg aHh)++aBn
def aOR:List B:=aJ (B.neg aHz)++aCI
def aBH:List B:=aJ (B.neg aH2)++aCU
def aHd:B:=(.cmp .le (.lit (-9223372036854775808)) (.app 2 (.cons (.op .add (.op .mul (.op .sub (.var 0) (.var 1)) (.op .sub (.var 4) (.var 3))) (.op .mul (.var 3) (.op .sub (.var 2) (.var 1)))) (.cons (.op .sub (.var 2) (.var 1)) .nil))))
def aBp:List B:=aJ aHd++aBH
def aHa:B:=(.cmp .le (.app 2 (.cons (.op .add (.op .mul (.op .sub (.var 0) (.var 1)) (.op .sub (.var 4) (.var 3))) (.op .mul (.var 3) (.op .sub (.var 2) (.var 1)))) (.cons (.op .sub (.var 2) (.var 1)) .nil))) (.lit 9223372036854775807))
def aLY:List B:=aJ aHa++aBp
def aJ7:List B:=aJ (B.neg aHa)++aBp
def aMF:List B:=aJ (B.neg aHd)++aBH
theorem aSd:iL Try.prog aCo = .need (.cmp .eq (.op .sub (.var 2) (.var 1)) (.lit 0)):=by kernel_rfl
theorem aQ8:iL Try.prog aQE = .ok (.tuple [(.int .i32 (.lit 0)),(.int .i64 (.lit 12))]):=by kernel_rfl
theorem aRy:iL Try.prog aCU = .need (.cmp .lt (.op .sub (.var 2) (.var 1)) (.lit 0)):=by kernel_rfl
theorem aRt:iL Try.prog aCI = .need (.cmp .le (.lit (-9223372036854775808)) (.app 2 (.cons (.op .add (.op .mul (.op .sub (.lit 0) (.op .sub (.var 0) (.var 1))) (.op .sub (.var 4) (.var 3))) (.op .mul (.var 3) (.op .sub (.lit 0) (.op .sub (.var 2) (.var 1))))) (.cons (.op .sub (.lit 0) (.op .sub (.var 2) (.var 1))) .nil)))):=by kernel_rfl
theorem aPH:iL Try.prog aBn = .need (.cmp .le (.app 2 (.cons (.op .add (.op .mul (.op .sub (.lit 0) (.op .sub (.var 0) (.var 1))) (.op .sub (.var 4) (.var 3))) (.op .mul (.var 3) (.op .sub (.lit 0) (.op .sub (.var 2) (.var 1))))) (.cons (.op .sub (.lit 0) (.op .sub (.var 2) (.var 1))) .nil))) (.lit 9223372036854775807)):=by kernel_rfl
theorem aQG:iL Try.prog aPE = .ok (.tuple [(.int .i32 (.op .max (.lit (-2147483648)) (.op .min (.lit 2147483647) (.app 2 (.cons (.op .add (.op .mul (.op .sub (.lit 0) (.op .sub (.var 0) (.var 1))) (.op .sub (.var 4) (.var 3))) (.op .mul (.var 3) (.op .sub (.lit 0) (.op .sub (.var 2) (.var 1))))) (.cons (.op .sub (.lit 0) (.op .sub (.var 2) (.var 1))) .nil)))))),(.int .i64 (.lit 0))]):=by kernel_rfl
theorem aRq:iL Try.prog aN8 = .ok (.tuple [(.int .i32 (.lit 2147483647)),(.int .i64 (.lit 0))]):=by kernel_rfl
theorem aRJ:iL Try.prog aOR = .ok (.tuple [(.int .i32 (.lit (-2147483648))),(.int .i64 (.lit 0))]):=by kernel_rfl
theorem aRm:iL Try.prog aBH = .need (.cmp .le (.lit (-9223372036854775808)) (.app 2 (.cons (.op .add (.op .mul (.op .sub (.var 0) (.var 1)) (.op .sub (.var 4) (.var 3))) (.op .mul (.var 3) (.op .sub (.var 2) (.var 1)))) (.cons (.op .sub (.var 2) (.var 1)) .nil)))):=by kernel_rfl
theorem aRX:iL Try.prog aBp = .need (.cmp .le (.app 2 (.cons (.op .add (.op .mul (.op .sub (.var 0) (.var 1)) (.op .sub (.var 4) (.var 3))) (.op .mul (.var 3) (.op .sub (.var 2) (.var 1)))) (.cons (.op .sub (.var 2) (.var 1)) .nil))) (.lit 9223372036854775807)):=by kernel_rfl
theorem aL1:iL Try.prog aLY = .ok (.tuple [(.int .i32 (.op .max (.lit (-2147483648)) (.op .min (.lit 2147483647) (.app 2 (.cons (.op .add (.op .mul (.op .sub (.var 0) (.var 1)) (.op .sub (.var 4) (.var 3))) (.op .mul (.var 3) (.op .sub (.var 2) (.var 1)))) (.cons (.op .sub (.var 2) (.var 1)) .nil)))))),(.int .i64 (.lit 0))]):=by kernel_rfl
theorem aMe:iL Try.prog aJ7 = .ok (.tuple [(.int .i32 (.lit 2147483647)),(.int .i64 (.lit 0))]):=by kernel_rfl
theorem aMH:iL Try.prog aMF = .ok (.tuple [(.int .i32 (.lit (-2147483648))),(.int .i64 (.lit 0))]):=by kernel_rfl
end Go.Proofs.Ytdldallkeheciaa
set_option maxRecDepth 100000
namespace Go.Proofs.Ytdldallkeheciaa
open Go Go.RowKit Sx Wi Lk
def aSZ (P:Program) (fs:List B):Res SV:=cB G GI [(0,30000)] fs (fun X=>aA8 P X GB aOo 3000 49 [(.int .i64 (.var 0))])
def aWa:List B:=[]
theorem aUe:aSZ Try.prog aWa = .ok (.int .i32 (.op .max (.lit (-2147483648)) (.op .min (.lit 2147483647) (.app 2 (.cons (.op .mul (.var 0) (.lit 65536)) (.cons (.lit 1) .nil)))))):=by kernel_rfl
end Go.Proofs.Ytdldallkeheciaa
namespace Go.Proofs.Ytdldallkeheciaa
open Go Go.RowKit Sx Wi Lk
set_option maxRecDepth 100000 in
theorem aJD (x0 x1 x2 x3 x4:Int) (b0:(-2147483648)≤x0∧x0≤2147483647) (b1:(-2147483648)≤x1∧x1≤2147483647) (b2:(-2147483648)≤x2∧x2≤2147483647) (b3:(-2147483648)≤x3∧x3≤2147483647) (b4:(-2147483648)≤x4∧x4≤2147483647) (w:World) (hw:WOk GB w):fU Try.prog 50∧Calls Try.prog 50 #[.int .i32 x0,(.agg #[.int .i32 x1,.int .i32 x2]),(.agg #[.int .i32 x3,.int .i32 x4])] w (fun e w'=>e = .returned (if x2-x1=0 then .tuple #[.int .i32 0,.int .i64 12] else .tuple #[.int .i32 (Fx.line x0 x1 x2 x3 x4),.int .i64 0])∧Below w.heap.size w w'):=by
 refine zE (rR (ρ:=cR [x0,x1,x2,x3,x4]) (run:=fun fs=>iL Try.prog fs) (fun _=>rfl) fits (lD ⟨b0,b1,b2,b3,b4,trivial⟩) eS (fun X hX hG=>aCm hX hG) rfl rfl qF ?_ w hw)
 refine nK aSd (fun h0=>?_) (fun h0=>?_)
 ·skip
  refine aH aQ8 ?_
  refine⟨rfl,?_⟩;simp only[nn,G,wG,xG4]at *;first|(rw[if_pos (by omega)]<;>rfl)|(rw[if_neg (by omega),rQ _ _ _ _ _ (by omega)];first|(rw[iU (by omega)]<;>rfl)|(rw[iS (by omega)]<;>rfl)|(rw[←iE]<;>rfl))|(rw[if_neg (by omega),rU _ _ _ _ _ (by omega)];first|(rw[iU (by omega)]<;>rfl)|(rw[iS (by omega)]<;>rfl)|(rw[←iE]<;>rfl))
 refine nK aRy (fun h1=>?_) (fun h1=>?_)
 ·skip
  refine nK aRt (fun h2=>?_) (fun h2=>?_)
  rotate_left
  ·skip
   refine aH aRJ ?_
   refine⟨rfl,?_⟩;simp only[nn,G,wG,xG4]at *;first|(rw[if_pos (by omega)]<;>rfl)|(rw[if_neg (by omega),rQ _ _ _ _ _ (by omega)];first|(rw[iU (by omega)]<;>rfl)|(rw[iS (by omega)]<;>rfl)|(rw[←iE]<;>rfl))|(rw[if_neg (by omega),rU _ _ _ _ _ (by omega)];first|(rw[iU (by omega)]<;>rfl)|(rw[iS (by omega)]<;>rfl)|(rw[←iE]<;>rfl))
  refine nK aPH (fun h3=>?_) (fun h3=>?_)
  ·skip
   refine aH aQG ?_
   refine⟨rfl,?_⟩;simp only[nn,G,wG,xG4]at *;first|(rw[if_pos (by omega)]<;>rfl)|(rw[if_neg (by omega),rQ _ _ _ _ _ (by omega)];first|(rw[iU (by omega)]<;>rfl)|(rw[iS (by omega)]<;>rfl)|(rw[←iE]<;>rfl))|(rw[if_neg (by omega),rU _ _ _ _ _ (by omega)];first|(rw[iU (by omega)]<;>rfl)|(rw[iS (by omega)]<;>rfl)|(rw[←iE]<;>rfl))
  refine aH aRq ?_
  refine⟨rfl,?_⟩;simp only[nn,G,wG,xG4]at *;first|(rw[if_pos (by omega)]<;>rfl)|(rw[if_neg (by omega),rQ _ _ _ _ _ (by omega)];first|(rw[iU (by omega)]<;>rfl)|(rw[iS (by omega)]<;>rfl)|(rw[←iE]<;>rfl))|(rw[if_neg (by omega),rU _ _ _ _ _ (by omega)];first|(rw[iU (by omega)]<;>rfl)|(rw[iS (by omega)]<;>rfl)|(rw[←iE]<;>rfl))
 refine nK aRm (fun h2=>?_) (fun h2=>?_)
 rotate_left
 ·skip
  refine aH aMH ?_
  refine⟨rfl,?_⟩;simp only[nn,G,wG,xG4]at *;first|(rw[if_pos (by omega)]<;>rfl)|(rw[if_neg (by omega),rQ _ _ _ _ _ (by omega)];first|(rw[iU (by omega)]<;>rfl)|(rw[iS (by omega)]<;>rfl)|(rw[←iE]<;>rfl))|(rw[if_neg (by omega),rU _ _ _ _ _ (by omega)];first|(rw[iU (by omega)]<;>rfl)|(rw[iS (by omega)]<;>rfl)|(rw[←iE]<;>rfl))
 refine nK aRX (fun h3=>?_) (fun h3=>?_)
 ·skip
  refine aH aL1 ?_
  refine⟨rfl,?_⟩;simp only[nn,G,wG,xG4]at *;first|(rw[if_pos (by omega)]<;>rfl)|(rw[if_neg (by omega),rQ _ _ _ _ _ (by omega)];first|(rw[iU (by omega)]<;>rfl)|(rw[iS (by omega)]<;>rfl)|(rw[←iE]<;>rfl))|(rw[if_neg (by omega),rU _ _ _ _ _ (by omega)];first|(rw[iU (by omega)]<;>rfl)|(rw[iS (by omega)]<;>rfl)|(rw[←iE]<;>rfl))
 refine aH aMe ?_
 refine⟨rfl,?_⟩;simp only[nn,G,wG,xG4]at *;first|(rw[if_pos (by omega)]<;>rfl)|(rw[if_neg (by omega),rQ _ _ _ _ _ (by omega)];first|(rw[iU (by omega)]<;>rfl)|(rw[iS (by omega)]<;>rfl)|(rw[←iE]<;>rfl))|(rw[if_neg (by omega),rU _ _ _ _ _ (by omega)];first|(rw[iU (by omega)]<;>rfl)|(rw[iS (by omega)]<;>rfl)|(rw[←iE]<;>rfl))
def rV:nL:=fun X args=>
 match args with
 |[.int .i32 a0,(.agg [.int .i32 a1,.int .i32 a2]),(.agg [.int .i32 a3,.int .i32 a4])]=>if a0.fits X .i32 && a1.fits X .i32 && a2.fits X .i32 && a3.fits X .i32 && a4.fits X .i32 then (Res.test X (.cmp .eq (.op .sub a2 a1) (.lit 0))).bind fun t=>if t then .ok (.tuple [.int .i32 (.lit 0),.int .i64 (.lit 12)]) else .ok (.tuple [.int .i32 (.app 4 (.cons a0 (.cons a1 (.cons a2 (.cons a3 (.cons a4 .nil)))))),.int .i64 (.lit 0)]) else .fail 200
 |_ => .fail 201
theorem aOG {X:Ctx} {ρ:Nat→Int} (hX:X.Ok ρ) (hG:X.G=G):iW Try.prog X ρ GB 50 rV:=by
 obtain⟨XG,XI,XV,XF⟩:=X
 simp only at hG
 subst hG
 intro args s h α w vals hv hw
 unfold rV at h
 split at h
 ·split at h
  ·rename_i hg
   try simp only[Bool.and_eq_true]at hg
   obtain⟨⟨⟨⟨g0,g1⟩,g2⟩,g3⟩,g4⟩:=hg
   obtain⟨t,ht,h⟩:=Res.bind_ok h
   have ht:=Res.test_ok hX ht
   have k:=aJD _ _ _ _ _ (E.fits_in hX g0) (E.fits_in hX g1) (E.fits_in hX g2) (E.fits_in hX g3) (E.fits_in hX g4) w hw
   cases t with
   |true=>
    cases h
    simp only[B.den,aMT,E.den,aHk,decide_eq_true_eq]at ht
    rw[if_pos ht]at k
    exact dB hv rfl rfl k
   |false=>
    cases h
    simp only[B.den,aMT,E.den,aHk,decide_eq_false_iff_not]at ht
    rw[if_neg ht]at k
    exact dB hv rfl rfl k
  ·cases h
 ·cases h
set_option maxRecDepth 100000 in
theorem aOW (x0:Int) (b0:0≤x0∧x0≤30000) (w:World) (hw:WOk GB w):fU Try.prog 49∧Calls Try.prog 49 #[.int .i64 x0] w (fun e w'=>e = .returned (.int .i32 (x0*65536))∧Below w.heap.size w w'):=by
 refine zE (rR (ρ:=cR [x0]) (run:=fun fs=>aSZ Try.prog fs) (fun _=>rfl) fits (lD ⟨b0,trivial⟩) eS (fun X hX hG=>aCm hX hG) rfl rfl qF ?_ w hw)
 refine aH aUe ?_
 refine⟨rfl,?_⟩;simp only[nn,G,wG,xG4]at *;rw[aVg];congr 1;omega
def vP:nL:=fun X args=>
 match args with
 |[.int .i64 a0]=>if a0.lies X 0 30000 then .ok (.int .i32 (.op .mul a0 (.lit 65536))) else .fail 200
 |_ => .fail 201
theorem aU1 {X:Ctx} {ρ:Nat→Int} (hX:X.Ok ρ) (hG:X.G=G):iW Try.prog X ρ GB 49 vP:=by
 obtain⟨XG,XI,XV,XF⟩:=X
 simp only at hG
 subst hG
 intro args s h α w vals hv hw
 unfold vP at h
 split at h
 ·split at h
  ·rename_i hg
   try simp only[Bool.and_eq_true]at hg
   have g0:=hg
   cases h
   exact dB hv rfl rfl (aOW _ (E.lies_in hX g0) w hw)
  ·cases h
 ·cases h
def aG2:bA:=kJ 50 rV aOo
theorem aEI {X:Ctx} {ρ:Nat→Int} (hX:X.Ok ρ) (hG:X.G=G):fF Try.prog X ρ GB aG2:=fJ (aOG hX hG) (aCm hX hG)
def gN:bA:=kJ 49 vP aG2
theorem dA {X:Ctx} {ρ:Nat→Int} (hX:X.Ok ρ) (hG:X.G=G):fF Try.prog X ρ GB gN:=fJ (aU1 hX hG) (aEI hX hG)
def aXq:B:=(.lit true)
def aVW:FunS:=⟨[(.own 0 (.var 0) none),(.func (.func 92) [] [(.ptr 1 0)])],[some ([.vec [.int .i32,.int .i32] (.var 1) (.var 0) true],aF),some ([(.bool (.lit true))],4)],aXq,(.bool (.or (.and (.cmp .lt (.lit 0) (.var 0)) (.cmp .le (.app 82 (.cons (.var 1) (.cons (.lit 0) (.cons (.lit 1) .nil)))) (.app 82 (.cons (.var 1) (.cons (.lit 0) (.cons (.lit 0) .nil)))))) (.or (.and (.cmp .lt (.lit 1) (.var 0)) (.cmp .le (.app 82 (.cons (.var 1) (.cons (.lit 1) (.cons (.lit 1) .nil)))) (.app 82 (.cons (.var 1) (.cons (.lit 1) (.cons (.lit 0) .nil)))))) (.or (.and (.cmp .lt (.lit 2) (.var 0)) (.cmp .le (.app 82 (.cons (.var 1) (.cons (.lit 2) (.cons (.lit 1) .nil)))) (.app 82 (.cons (.var 1) (.cons (.lit 2) (.cons (.lit 0) .nil)))))) (.and (.cmp .lt (.lit 3) (.var 0)) (.cmp .le (.app 82 (.cons (.var 1) (.cons (.lit 3) (.cons (.lit 1) .nil)))) (.app 82 (.cons (.var 1) (.cons (.lit 3) (.cons (.lit 0) .nil)))))))))),[some ([.vec [.int .i32,.int .i32] (.var 1) (.var 0) true],aF),some ([(.bool (.lit true))],4)],(.bool (.or (.and (.cmp .lt (.lit 0) (.var 0)) (.cmp .le (.app 82 (.cons (.var 1) (.cons (.lit 0) (.cons (.lit 1) .nil)))) (.app 82 (.cons (.var 1) (.cons (.lit 0) (.cons (.lit 0) .nil)))))) (.or (.and (.cmp .lt (.lit 1) (.var 0)) (.cmp .le (.app 82 (.cons (.var 1) (.cons (.lit 1) (.cons (.lit 1) .nil)))) (.app 82 (.cons (.var 1) (.cons (.lit 1) (.cons (.lit 0) .nil)))))) (.or (.and (.cmp .lt (.lit 2) (.var 0)) (.cmp .le (.app 82 (.cons (.var 1) (.cons (.lit 2) (.cons (.lit 1) .nil)))) (.app 82 (.cons (.var 1) (.cons (.lit 2) (.cons (.lit 0) .nil)))))) (.and (.cmp .lt (.lit 3) (.var 0)) (.cmp .le (.app 82 (.cons (.var 1) (.cons (.lit 3) (.cons (.lit 1) .nil)))) (.app 82 (.cons (.var 1) (.cons (.lit 3) (.cons (.lit 0) .nil)))))))))),[some ([.vec [.int .i32,.int .i32] (.var 1) (.var 0) true],aF),some ([(.bool (.lit true))],4)]⟩
def aJe (P:Program) (fs:List B):Res SV:=cB G GI [(1,4)] fs fun X=>gJ P X GB gN dQ 4000 91 aVW
def aXo:B:=(.lit true)
def aTJ:FunS:=⟨[(.own 0 (.var 0) none),(.func (.func 92) [] [(.ptr 1 0)])],[some ([.vec [.int .i32,.int .i32] (.var 1) (.var 0) true],aF),some ([(.bool (.lit false))],4)],aXo,(.bool (.or (.and (.cmp .lt (.lit 0) (.var 0)) (.cmp .lt (.app 82 (.cons (.var 1) (.cons (.lit 0) (.cons (.lit 1) .nil)))) (.app 82 (.cons (.var 1) (.cons (.lit 0) (.cons (.lit 0) .nil)))))) (.or (.and (.cmp .lt (.lit 1) (.var 0)) (.cmp .lt (.app 82 (.cons (.var 1) (.cons (.lit 1) (.cons (.lit 1) .nil)))) (.app 82 (.cons (.var 1) (.cons (.lit 1) (.cons (.lit 0) .nil)))))) (.or (.and (.cmp .lt (.lit 2) (.var 0)) (.cmp .lt (.app 82 (.cons (.var 1) (.cons (.lit 2) (.cons (.lit 1) .nil)))) (.app 82 (.cons (.var 1) (.cons (.lit 2) (.cons (.lit 0) .nil)))))) (.and (.cmp .lt (.lit 3) (.var 0)) (.cmp .lt (.app 82 (.cons (.var 1) (.cons (.lit 3) (.cons (.lit 1) .nil)))) (.app 82 (.cons (.var 1) (.cons (.lit 3) (.cons (.lit 0) .nil)))))))))),[some ([.vec [.int .i32,.int .i32] (.var 1) (.var 0) true],aF),some ([(.bool (.lit false))],4)],(.bool (.or (.and (.cmp .lt (.lit 0) (.var 0)) (.cmp .lt (.app 82 (.cons (.var 1) (.cons (.lit 0) (.cons (.lit 1) .nil)))) (.app 82 (.cons (.var 1) (.cons (.lit 0) (.cons (.lit 0) .nil)))))) (.or (.and (.cmp .lt (.lit 1) (.var 0)) (.cmp .lt (.app 82 (.cons (.var 1) (.cons (.lit 1) (.cons (.lit 1) .nil)))) (.app 82 (.cons (.var 1) (.cons (.lit 1) (.cons (.lit 0) .nil)))))) (.or (.and (.cmp .lt (.lit 2) (.var 0)) (.cmp .lt (.app 82 (.cons (.var 1) (.cons (.lit 2) (.cons (.lit 1) .nil)))) (.app 82 (.cons (.var 1) (.cons (.lit 2) (.cons (.lit 0) .nil)))))) (.and (.cmp .lt (.lit 3) (.var 0)) (.cmp .lt (.app 82 (.cons (.var 1) (.cons (.lit 3) (.cons (.lit 1) .nil)))) (.app 82 (.cons (.var 1) (.cons (.lit 3) (.cons (.lit 0) .nil)))))))))),[some ([.vec [.int .i32,.int .i32] (.var 1) (.var 0) true],aF),some ([(.bool (.lit false))],4)]⟩
def aM9 (P:Program) (fs:List B):Res SV:=cB G GI [(1,4)] fs fun X=>gJ P X GB gN dQ 4000 91 aTJ
def aXf:B:=(.lit true)
def aTX:FunS:=⟨[(.own 0 (.var 0) none),(.func (.func 71) [] [])],[some ([.vec [.int .i64] (.var 1) (.var 0) true],aF)],aXf,(.bool (.or (.and (.cmp .lt (.lit 0) (.var 0)) (.or (.cmp .lt (.app 83 (.cons (.var 1) (.cons (.lit 0) (.cons (.lit 0) .nil)))) (.lit 1)) (.cmp .lt (.lit 256) (.app 83 (.cons (.var 1) (.cons (.lit 0) (.cons (.lit 0) .nil))))))) (.or (.and (.cmp .lt (.lit 1) (.var 0)) (.or (.cmp .lt (.app 83 (.cons (.var 1) (.cons (.lit 1) (.cons (.lit 0) .nil)))) (.lit 1)) (.cmp .lt (.lit 256) (.app 83 (.cons (.var 1) (.cons (.lit 1) (.cons (.lit 0) .nil))))))) (.or (.and (.cmp .lt (.lit 2) (.var 0)) (.or (.cmp .lt (.app 83 (.cons (.var 1) (.cons (.lit 2) (.cons (.lit 0) .nil)))) (.lit 1)) (.cmp .lt (.lit 256) (.app 83 (.cons (.var 1) (.cons (.lit 2) (.cons (.lit 0) .nil))))))) (.or (.and (.cmp .lt (.lit 3) (.var 0)) (.or (.cmp .lt (.app 83 (.cons (.var 1) (.cons (.lit 3) (.cons (.lit 0) .nil)))) (.lit 1)) (.cmp .lt (.lit 256) (.app 83 (.cons (.var 1) (.cons (.lit 3) (.cons (.lit 0) .nil))))))) (.or (.and (.cmp .lt (.lit 4) (.var 0)) (.or (.cmp .lt (.app 83 (.cons (.var 1) (.cons (.lit 4) (.cons (.lit 0) .nil)))) (.lit 1)) (.cmp .lt (.lit 256) (.app 83 (.cons (.var 1) (.cons (.lit 4) (.cons (.lit 0) .nil))))))) (.or (.and (.cmp .lt (.lit 5) (.var 0)) (.or (.cmp .lt (.app 83 (.cons (.var 1) (.cons (.lit 5) (.cons (.lit 0) .nil)))) (.lit 1)) (.cmp .lt (.lit 256) (.app 83 (.cons (.var 1) (.cons (.lit 5) (.cons (.lit 0) .nil))))))) (.or (.and (.cmp .lt (.lit 6) (.var 0)) (.or (.cmp .lt (.app 83 (.cons (.var 1) (.cons (.lit 6) (.cons (.lit 0) .nil)))) (.lit 1)) (.cmp .lt (.lit 256) (.app 83 (.cons (.var 1) (.cons (.lit 6) (.cons (.lit 0) .nil))))))) (.and (.cmp .lt (.lit 7) (.var 0)) (.or (.cmp .lt (.app 83 (.cons (.var 1) (.cons (.lit 7) (.cons (.lit 0) .nil)))) (.lit 1)) (.cmp .lt (.lit 256) (.app 83 (.cons (.var 1) (.cons (.lit 7) (.cons (.lit 0) .nil))))))))))))))),[some ([.vec [.int .i64] (.var 1) (.var 0) true],aF)],(.bool (.or (.and (.cmp .lt (.lit 0) (.var 0)) (.or (.cmp .lt (.app 83 (.cons (.var 1) (.cons (.lit 0) (.cons (.lit 0) .nil)))) (.lit 1)) (.cmp .lt (.lit 256) (.app 83 (.cons (.var 1) (.cons (.lit 0) (.cons (.lit 0) .nil))))))) (.or (.and (.cmp .lt (.lit 1) (.var 0)) (.or (.cmp .lt (.app 83 (.cons (.var 1) (.cons (.lit 1) (.cons (.lit 0) .nil)))) (.lit 1)) (.cmp .lt (.lit 256) (.app 83 (.cons (.var 1) (.cons (.lit 1) (.cons (.lit 0) .nil))))))) (.or (.and (.cmp .lt (.lit 2) (.var 0)) (.or (.cmp .lt (.app 83 (.cons (.var 1) (.cons (.lit 2) (.cons (.lit 0) .nil)))) (.lit 1)) (.cmp .lt (.lit 256) (.app 83 (.cons (.var 1) (.cons (.lit 2) (.cons (.lit 0) .nil))))))) (.or (.and (.cmp .lt (.lit 3) (.var 0)) (.or (.cmp .lt (.app 83 (.cons (.var 1) (.cons (.lit 3) (.cons (.lit 0) .nil)))) (.lit 1)) (.cmp .lt (.lit 256) (.app 83 (.cons (.var 1) (.cons (.lit 3) (.cons (.lit 0) .nil))))))) (.or (.and (.cmp .lt (.lit 4) (.var 0)) (.or (.cmp .lt (.app 83 (.cons (.var 1) (.cons (.lit 4) (.cons (.lit 0) .nil)))) (.lit 1)) (.cmp .lt (.lit 256) (.app 83 (.cons (.var 1) (.cons (.lit 4) (.cons (.lit 0) .nil))))))) (.or (.and (.cmp .lt (.lit 5) (.var 0)) (.or (.cmp .lt (.app 83 (.cons (.var 1) (.cons (.lit 5) (.cons (.lit 0) .nil)))) (.lit 1)) (.cmp .lt (.lit 256) (.app 83 (.cons (.var 1) (.cons (.lit 5) (.cons (.lit 0) .nil))))))) (.or (.and (.cmp .lt (.lit 6) (.var 0)) (.or (.cmp .lt (.app 83 (.cons (.var 1) (.cons (.lit 6) (.cons (.lit 0) .nil)))) (.lit 1)) (.cmp .lt (.lit 256) (.app 83 (.cons (.var 1) (.cons (.lit 6) (.cons (.lit 0) .nil))))))) (.and (.cmp .lt (.lit 7) (.var 0)) (.or (.cmp .lt (.app 83 (.cons (.var 1) (.cons (.lit 7) (.cons (.lit 0) .nil)))) (.lit 1)) (.cmp .lt (.lit 256) (.app 83 (.cons (.var 1) (.cons (.lit 7) (.cons (.lit 0) .nil))))))))))))))),[some ([.vec [.int .i64] (.var 1) (.var 0) true],aF)]⟩
def aL8 (P:Program) (fs:List B):Res SV:=cB G GI [(0,8)] fs fun X=>gJ P X GB gN dQ 4000 70 aTX
end Go.Proofs.Ytdldallkeheciaa
set_option maxRecDepth 100000
namespace Go.Proofs.Ytdldallkeheciaa
open Go Go.RowKit Sx Wi Lk
def oY (P:Program) (fs:List B):Res SV:=aJe P fs
def aJU:List B:=[]
def hC:B:=(.cmp .lt (.app 82 (.cons (.var 1) (.cons (.lit 0) (.cons (.lit 1) .nil)))) (.app 82 (.cons (.var 1) (.cons (.lit 0) (.cons (.lit 0) .nil)))))
def aTE:List B:=aJ hC++aJU
def aCn:SV:=(.tuple [(.agg [(.bool (.cmp .le (.lit 0) (.lit 0))),(.bool (.or (.and (.cmp .lt (.lit 0) (.var 0)) (.cmp .le (.app 82 (.cons (.var 1) (.cons (.lit 0) (.cons (.lit 1) .nil)))) (.app 82 (.cons (.var 1) (.cons (.lit 0) (.cons (.lit 0) .nil)))))) (.or (.and (.cmp .lt (.lit 1) (.var 0)) (.cmp .le (.app 82 (.cons (.var 1) (.cons (.lit 1) (.cons (.lit 1) .nil)))) (.app 82 (.cons (.var 1) (.cons (.lit 1) (.cons (.lit 0) .nil)))))) (.or (.and (.cmp .lt (.lit 2) (.var 0)) (.cmp .le (.app 82 (.cons (.var 1) (.cons (.lit 2) (.cons (.lit 1) .nil)))) (.app 82 (.cons (.var 1) (.cons (.lit 2) (.cons (.lit 0) .nil)))))) (.and (.cmp .lt (.lit 3) (.var 0)) (.cmp .le (.app 82 (.cons (.var 1) (.cons (.lit 3) (.cons (.lit 1) .nil)))) (.app 82 (.cons (.var 1) (.cons (.lit 3) (.cons (.lit 0) .nil))))))))))]),(.bool (.lit true))])
def aL4:List B:=aJ (B.neg hC)++aJU
def jC:B:=(.cmp .eq (.app 82 (.cons (.var 1) (.cons (.lit 0) (.cons (.lit 0) .nil)))) (.app 82 (.cons (.var 1) (.cons (.lit 0) (.cons (.lit 1) .nil)))))
def aTC:List B:=aJ jC++aL4
def aLp:List B:=aJ (B.neg jC)++aL4
def jR:B:=(.cmp .lt (.lit 1) (.var 0))
def aKa:List B:=aJ jR++aLp
def kI:B:=(.cmp .lt (.app 82 (.cons (.var 1) (.cons (.lit 1) (.cons (.lit 1) .nil)))) (.app 82 (.cons (.var 1) (.cons (.lit 1) (.cons (.lit 0) .nil)))))
def aVd:List B:=aJ kI++aKa
def aCq:SV:=(.tuple [(.agg [(.bool (.cmp .le (.lit 0) (.lit 1))),(.bool (.or (.and (.cmp .lt (.lit 0) (.var 0)) (.cmp .le (.app 82 (.cons (.var 1) (.cons (.lit 0) (.cons (.lit 1) .nil)))) (.app 82 (.cons (.var 1) (.cons (.lit 0) (.cons (.lit 0) .nil)))))) (.or (.and (.cmp .lt (.lit 1) (.var 0)) (.cmp .le (.app 82 (.cons (.var 1) (.cons (.lit 1) (.cons (.lit 1) .nil)))) (.app 82 (.cons (.var 1) (.cons (.lit 1) (.cons (.lit 0) .nil)))))) (.or (.and (.cmp .lt (.lit 2) (.var 0)) (.cmp .le (.app 82 (.cons (.var 1) (.cons (.lit 2) (.cons (.lit 1) .nil)))) (.app 82 (.cons (.var 1) (.cons (.lit 2) (.cons (.lit 0) .nil)))))) (.and (.cmp .lt (.lit 3) (.var 0)) (.cmp .le (.app 82 (.cons (.var 1) (.cons (.lit 3) (.cons (.lit 1) .nil)))) (.app 82 (.cons (.var 1) (.cons (.lit 3) (.cons (.lit 0) .nil))))))))))]),(.bool (.lit true))])
def aMm:List B:=aJ (B.neg kI)++aKa
def lG:B:=(.cmp .eq (.app 82 (.cons (.var 1) (.cons (.lit 1) (.cons (.lit 0) .nil)))) (.app 82 (.cons (.var 1) (.cons (.lit 1) (.cons (.lit 1) .nil)))))
def aVt:List B:=aJ lG++aMm
def aNl:List B:=aJ (B.neg lG)++aMm
def mI:B:=(.cmp .lt (.lit 2) (.var 0))
def aHx:List B:=aJ mI++aNl
def oE:B:=(.cmp .lt (.app 82 (.cons (.var 1) (.cons (.lit 2) (.cons (.lit 1) .nil)))) (.app 82 (.cons (.var 1) (.cons (.lit 2) (.cons (.lit 0) .nil)))))
def aRf:List B:=aJ oE++aHx
def aCz:SV:=(.tuple [(.agg [(.bool (.cmp .le (.lit 0) (.lit 2))),(.bool (.or (.and (.cmp .lt (.lit 0) (.var 0)) (.cmp .le (.app 82 (.cons (.var 1) (.cons (.lit 0) (.cons (.lit 1) .nil)))) (.app 82 (.cons (.var 1) (.cons (.lit 0) (.cons (.lit 0) .nil)))))) (.or (.and (.cmp .lt (.lit 1) (.var 0)) (.cmp .le (.app 82 (.cons (.var 1) (.cons (.lit 1) (.cons (.lit 1) .nil)))) (.app 82 (.cons (.var 1) (.cons (.lit 1) (.cons (.lit 0) .nil)))))) (.or (.and (.cmp .lt (.lit 2) (.var 0)) (.cmp .le (.app 82 (.cons (.var 1) (.cons (.lit 2) (.cons (.lit 1) .nil)))) (.app 82 (.cons (.var 1) (.cons (.lit 2) (.cons (.lit 0) .nil)))))) (.and (.cmp .lt (.lit 3) (.var 0)) (.cmp .le (.app 82 (.cons (.var 1) (.cons (.lit 3) (.cons (.lit 1) .nil)))) (.app 82 (.cons (.var 1) (.cons (.lit 3) (.cons (.lit 0) .nil))))))))))]),(.bool (.lit true))])
def aHi:List B:=aJ (B.neg oE)++aHx
def pS:B:=(.cmp .eq (.app 82 (.cons (.var 1) (.cons (.lit 2) (.cons (.lit 0) .nil)))) (.app 82 (.cons (.var 1) (.cons (.lit 2) (.cons (.lit 1) .nil)))))
def aOY:List B:=aJ pS++aHi
def aGf:List B:=aJ (B.neg pS)++aHi
def rW:B:=(.cmp .lt (.lit 3) (.var 0))
def aGb:List B:=aJ rW++aGf
def uK:B:=(.cmp .lt (.app 82 (.cons (.var 1) (.cons (.lit 3) (.cons (.lit 1) .nil)))) (.app 82 (.cons (.var 1) (.cons (.lit 3) (.cons (.lit 0) .nil)))))
def aSO:List B:=aJ uK++aGb
def aBx:SV:=(.tuple [(.agg [(.bool (.cmp .le (.lit 0) (.lit 3))),(.bool (.or (.and (.cmp .lt (.lit 0) (.var 0)) (.cmp .le (.app 82 (.cons (.var 1) (.cons (.lit 0) (.cons (.lit 1) .nil)))) (.app 82 (.cons (.var 1) (.cons (.lit 0) (.cons (.lit 0) .nil)))))) (.or (.and (.cmp .lt (.lit 1) (.var 0)) (.cmp .le (.app 82 (.cons (.var 1) (.cons (.lit 1) (.cons (.lit 1) .nil)))) (.app 82 (.cons (.var 1) (.cons (.lit 1) (.cons (.lit 0) .nil)))))) (.or (.and (.cmp .lt (.lit 2) (.var 0)) (.cmp .le (.app 82 (.cons (.var 1) (.cons (.lit 2) (.cons (.lit 1) .nil)))) (.app 82 (.cons (.var 1) (.cons (.lit 2) (.cons (.lit 0) .nil)))))) (.and (.cmp .lt (.lit 3) (.var 0)) (.cmp .le (.app 82 (.cons (.var 1) (.cons (.lit 3) (.cons (.lit 1) .nil)))) (.app 82 (.cons (.var 1) (.cons (.lit 3) (.cons (.lit 0) .nil))))))))))]),(.bool (.lit true))])
def aGF:List B:=aJ (B.neg uK)++aGb
def tL:B:=(.cmp .eq (.app 82 (.cons (.var 1) (.cons (.lit 3) (.cons (.lit 0) .nil)))) (.app 82 (.cons (.var 1) (.cons (.lit 3) (.cons (.lit 1) .nil)))))
def aSb:List B:=aJ tL++aGF
def aSy:List B:=aJ (B.neg tL)++aGF
def pM:SV:=(.tuple [(.agg [(.bool (.cmp .le (.lit 0) (.lit (-1)))),(.bool (.or (.and (.cmp .lt (.lit 0) (.var 0)) (.cmp .le (.app 82 (.cons (.var 1) (.cons (.lit 0) (.cons (.lit 1) .nil)))) (.app 82 (.cons (.var 1) (.cons (.lit 0) (.cons (.lit 0) .nil)))))) (.or (.and (.cmp .lt (.lit 1) (.var 0)) (.cmp .le (.app 82 (.cons (.var 1) (.cons (.lit 1) (.cons (.lit 1) .nil)))) (.app 82 (.cons (.var 1) (.cons (.lit 1) (.cons (.lit 0) .nil)))))) (.or (.and (.cmp .lt (.lit 2) (.var 0)) (.cmp .le (.app 82 (.cons (.var 1) (.cons (.lit 2) (.cons (.lit 1) .nil)))) (.app 82 (.cons (.var 1) (.cons (.lit 2) (.cons (.lit 0) .nil)))))) (.and (.cmp .lt (.lit 3) (.var 0)) (.cmp .le (.app 82 (.cons (.var 1) (.cons (.lit 3) (.cons (.lit 1) .nil)))) (.app 82 (.cons (.var 1) (.cons (.lit 3) (.cons (.lit 0) .nil))))))))))]),(.bool (.lit true))])
def aN7:List B:=aJ (B.neg rW)++aGf
def aQo:List B:=aJ (B.neg mI)++aNl
def aOZ:List B:=aJ (B.neg jR)++aLp
theorem aU0:oY Try.prog aTE = .ok aCn:=by kernel_rfl
theorem aTw:oY Try.prog aTC = .ok aCn:=by kernel_rfl
theorem aVz:oY Try.prog aVd = .ok aCq:=by kernel_rfl
theorem aUl:oY Try.prog aVt = .ok aCq:=by kernel_rfl
theorem aPb:oY Try.prog aRf = .ok aCz:=by kernel_rfl
theorem aQZ:oY Try.prog aOY = .ok aCz:=by kernel_rfl
theorem aOi:oY Try.prog aSO = .ok aBx:=by kernel_rfl
theorem aSX:oY Try.prog aSb = .ok aBx:=by kernel_rfl
theorem aQb:oY Try.prog aSy = .ok pM:=by kernel_rfl
theorem aPS:oY Try.prog aN7 = .ok pM:=by kernel_rfl
theorem aOd:oY Try.prog aQo = .ok pM:=by kernel_rfl
theorem aSw:oY Try.prog aOZ = .ok pM:=by kernel_rfl
end Go.Proofs.Ytdldallkeheciaa
set_option maxRecDepth 100000
namespace Go.Proofs.Ytdldallkeheciaa
open Go Go.RowKit Sx Wi Lk
def wP (P:Program) (fs:List B):Res SV:=aM9 P fs
def aNo:List B:=[]
def lI:B:=(.cmp .lt (.app 82 (.cons (.var 1) (.cons (.lit 0) (.cons (.lit 1) .nil)))) (.app 82 (.cons (.var 1) (.cons (.lit 0) (.cons (.lit 0) .nil)))))
def aWi:List B:=aJ lI++aNo
def aJd:SV:=(.tuple [(.agg [(.bool (.cmp .le (.lit 0) (.lit 0))),(.bool (.or (.and (.cmp .lt (.lit 0) (.var 0)) (.cmp .lt (.app 82 (.cons (.var 1) (.cons (.lit 0) (.cons (.lit 1) .nil)))) (.app 82 (.cons (.var 1) (.cons (.lit 0) (.cons (.lit 0) .nil)))))) (.or (.and (.cmp .lt (.lit 1) (.var 0)) (.cmp .lt (.app 82 (.cons (.var 1) (.cons (.lit 1) (.cons (.lit 1) .nil)))) (.app 82 (.cons (.var 1) (.cons (.lit 1) (.cons (.lit 0) .nil)))))) (.or (.and (.cmp .lt (.lit 2) (.var 0)) (.cmp .lt (.app 82 (.cons (.var 1) (.cons (.lit 2) (.cons (.lit 1) .nil)))) (.app 82 (.cons (.var 1) (.cons (.lit 2) (.cons (.lit 0) .nil)))))) (.and (.cmp .lt (.lit 3) (.var 0)) (.cmp .lt (.app 82 (.cons (.var 1) (.cons (.lit 3) (.cons (.lit 1) .nil)))) (.app 82 (.cons (.var 1) (.cons (.lit 3) (.cons (.lit 0) .nil))))))))))]),(.bool (.lit true))])
def aLJ:List B:=aJ (B.neg lI)++aNo
def mP:B:=(.cmp .lt (.lit 1) (.var 0))
def aNb:List B:=aJ mP++aLJ
def oK:B:=(.cmp .lt (.app 82 (.cons (.var 1) (.cons (.lit 1) (.cons (.lit 1) .nil)))) (.app 82 (.cons (.var 1) (.cons (.lit 1) (.cons (.lit 0) .nil)))))
def aUo:List B:=aJ oK++aNb
def aNd:SV:=(.tuple [(.agg [(.bool (.cmp .le (.lit 0) (.lit 1))),(.bool (.or (.and (.cmp .lt (.lit 0) (.var 0)) (.cmp .lt (.app 82 (.cons (.var 1) (.cons (.lit 0) (.cons (.lit 1) .nil)))) (.app 82 (.cons (.var 1) (.cons (.lit 0) (.cons (.lit 0) .nil)))))) (.or (.and (.cmp .lt (.lit 1) (.var 0)) (.cmp .lt (.app 82 (.cons (.var 1) (.cons (.lit 1) (.cons (.lit 1) .nil)))) (.app 82 (.cons (.var 1) (.cons (.lit 1) (.cons (.lit 0) .nil)))))) (.or (.and (.cmp .lt (.lit 2) (.var 0)) (.cmp .lt (.app 82 (.cons (.var 1) (.cons (.lit 2) (.cons (.lit 1) .nil)))) (.app 82 (.cons (.var 1) (.cons (.lit 2) (.cons (.lit 0) .nil)))))) (.and (.cmp .lt (.lit 3) (.var 0)) (.cmp .lt (.app 82 (.cons (.var 1) (.cons (.lit 3) (.cons (.lit 1) .nil)))) (.app 82 (.cons (.var 1) (.cons (.lit 3) (.cons (.lit 0) .nil))))))))))]),(.bool (.lit true))])
def aMg:List B:=aJ (B.neg oK)++aNb
def qE:B:=(.cmp .lt (.lit 2) (.var 0))
def aMy:List B:=aJ qE++aMg
def sL:B:=(.cmp .lt (.app 82 (.cons (.var 1) (.cons (.lit 2) (.cons (.lit 1) .nil)))) (.app 82 (.cons (.var 1) (.cons (.lit 2) (.cons (.lit 0) .nil)))))
def aV3:List B:=aJ sL++aMy
def aKc:SV:=(.tuple [(.agg [(.bool (.cmp .le (.lit 0) (.lit 2))),(.bool (.or (.and (.cmp .lt (.lit 0) (.var 0)) (.cmp .lt (.app 82 (.cons (.var 1) (.cons (.lit 0) (.cons (.lit 1) .nil)))) (.app 82 (.cons (.var 1) (.cons (.lit 0) (.cons (.lit 0) .nil)))))) (.or (.and (.cmp .lt (.lit 1) (.var 0)) (.cmp .lt (.app 82 (.cons (.var 1) (.cons (.lit 1) (.cons (.lit 1) .nil)))) (.app 82 (.cons (.var 1) (.cons (.lit 1) (.cons (.lit 0) .nil)))))) (.or (.and (.cmp .lt (.lit 2) (.var 0)) (.cmp .lt (.app 82 (.cons (.var 1) (.cons (.lit 2) (.cons (.lit 1) .nil)))) (.app 82 (.cons (.var 1) (.cons (.lit 2) (.cons (.lit 0) .nil)))))) (.and (.cmp .lt (.lit 3) (.var 0)) (.cmp .lt (.app 82 (.cons (.var 1) (.cons (.lit 3) (.cons (.lit 1) .nil)))) (.app 82 (.cons (.var 1) (.cons (.lit 3) (.cons (.lit 0) .nil))))))))))]),(.bool (.lit true))])
def aMV:List B:=aJ (B.neg sL)++aMy
def vM:B:=(.cmp .lt (.lit 3) (.var 0))
def aJA:List B:=aJ vM++aMV
def zZ:B:=(.cmp .lt (.app 82 (.cons (.var 1) (.cons (.lit 3) (.cons (.lit 1) .nil)))) (.app 82 (.cons (.var 1) (.cons (.lit 3) (.cons (.lit 0) .nil)))))
def aQL:List B:=aJ zZ++aJA
def aKh:SV:=(.tuple [(.agg [(.bool (.cmp .le (.lit 0) (.lit 3))),(.bool (.or (.and (.cmp .lt (.lit 0) (.var 0)) (.cmp .lt (.app 82 (.cons (.var 1) (.cons (.lit 0) (.cons (.lit 1) .nil)))) (.app 82 (.cons (.var 1) (.cons (.lit 0) (.cons (.lit 0) .nil)))))) (.or (.and (.cmp .lt (.lit 1) (.var 0)) (.cmp .lt (.app 82 (.cons (.var 1) (.cons (.lit 1) (.cons (.lit 1) .nil)))) (.app 82 (.cons (.var 1) (.cons (.lit 1) (.cons (.lit 0) .nil)))))) (.or (.and (.cmp .lt (.lit 2) (.var 0)) (.cmp .lt (.app 82 (.cons (.var 1) (.cons (.lit 2) (.cons (.lit 1) .nil)))) (.app 82 (.cons (.var 1) (.cons (.lit 2) (.cons (.lit 0) .nil)))))) (.and (.cmp .lt (.lit 3) (.var 0)) (.cmp .lt (.app 82 (.cons (.var 1) (.cons (.lit 3) (.cons (.lit 1) .nil)))) (.app 82 (.cons (.var 1) (.cons (.lit 3) (.cons (.lit 0) .nil))))))))))]),(.bool (.lit true))])
def aPd:List B:=aJ (B.neg zZ)++aJA
def pV:SV:=(.tuple [(.agg [(.bool (.cmp .le (.lit 0) (.lit (-1)))),(.bool (.or (.and (.cmp .lt (.lit 0) (.var 0)) (.cmp .lt (.app 82 (.cons (.var 1) (.cons (.lit 0) (.cons (.lit 1) .nil)))) (.app 82 (.cons (.var 1) (.cons (.lit 0) (.cons (.lit 0) .nil)))))) (.or (.and (.cmp .lt (.lit 1) (.var 0)) (.cmp .lt (.app 82 (.cons (.var 1) (.cons (.lit 1) (.cons (.lit 1) .nil)))) (.app 82 (.cons (.var 1) (.cons (.lit 1) (.cons (.lit 0) .nil)))))) (.or (.and (.cmp .lt (.lit 2) (.var 0)) (.cmp .lt (.app 82 (.cons (.var 1) (.cons (.lit 2) (.cons (.lit 1) .nil)))) (.app 82 (.cons (.var 1) (.cons (.lit 2) (.cons (.lit 0) .nil)))))) (.and (.cmp .lt (.lit 3) (.var 0)) (.cmp .lt (.app 82 (.cons (.var 1) (.cons (.lit 3) (.cons (.lit 1) .nil)))) (.app 82 (.cons (.var 1) (.cons (.lit 3) (.cons (.lit 0) .nil))))))))))]),(.bool (.lit true))])
def aOJ:List B:=aJ (B.neg vM)++aMV
def aRS:List B:=aJ (B.neg qE)++aMg
def aSP:List B:=aJ (B.neg mP)++aLJ
theorem aVs:wP Try.prog aWi = .ok aJd:=by kernel_rfl
theorem aVX:wP Try.prog aUo = .ok aNd:=by kernel_rfl
theorem aV5:wP Try.prog aV3 = .ok aKc:=by kernel_rfl
theorem aPY:wP Try.prog aQL = .ok aKh:=by kernel_rfl
theorem aSG:wP Try.prog aPd = .ok pV:=by kernel_rfl
theorem aRR:wP Try.prog aOJ = .ok pV:=by kernel_rfl
theorem aQw:wP Try.prog aRS = .ok pV:=by kernel_rfl
theorem aQn:wP Try.prog aSP = .ok pV:=by kernel_rfl
end Go.Proofs.Ytdldallkeheciaa
