/- What is proved: sums over the corners of a table of samples,weighted,in plain Lean. No condition but those that are stated. -/
import Derived.Test.YtdldallkeheciaaQg1
set_option linter.unusedSimpArgs false
set_option linter.unusedVariables false
namespace Go.Proofs.Ytdldallkeheciaa.Lk
def nD (w:Nat) (f:Nat→List Int) (m k:Nat):List (List Int):=(List.range m).map fun i=>if i<k then f i else List.replicate w 0
theorem aDO (w:Nat) (f:Nat→List Int) (m:Nat):nD w f m 0=List.replicate m (List.replicate w 0):=by
 unfold nD
 simp only[Nat.not_lt_zero,if_false]
 apply List.ext_getElem
 ·simp
 ·intro i h1 h2;simp
theorem aHb (w:Nat) (f:Nat→List Int) (m k:Nat) (hk:k<m):(nD w f m k).set k (f k)=nD w f m (k+1):=by
 unfold nD
 apply List.ext_getElem
 ·simp
 ·intro i h1 h2
  rw[List.getElem_set,List.getElem_map,List.getElem_map,List.getElem_range]
  by_cases e:k=i
  ·subst e;rw[if_pos rfl,if_pos (by omega)]
  ·rw[if_neg e]
   by_cases g:i<k
   ·rw[if_pos g,if_pos (by omega)]
   ·rw[if_neg g,if_neg (by omega)]
theorem aHp (w:Nat) (f:Nat→List Int) (m:Nat):nD w f m m=(List.range m).map f:=by
 unfold nD
 apply List.map_congr_left
 intro i hi
 rw[if_pos (by simpa using hi)]
def mT (g:Nat→Int):Nat→Int
 |0=>0
 |n+1=>mT g n+g n
theorem aCl (g:Nat→Int) (a:Nat):∀ b,mT g (a+b)=mT g a+mT (fun t=>g (a+t)) b
 |0=>by simp [mT]
 |b+1=>by
  show mT g (a+b)+g (a+b)=_
  rw[aCl g a b]
  simp only[mT];omega
theorem rM {g h:Nat→Int}:∀ {n:Nat},(∀ t,t<n→g t=h t)→mT g n=mT h n
 |0,_=>rfl
 |n+1,e=>by
  simp only[mT]
  rw[rM (fun t ht=>e t (by omega)),e n (by omega)]
theorem zQ (c:Int) (g:Nat→Int):∀ n,mT (fun t=>c*g t) n=c*mT g n
 |0=>by simp [mT]
 |n+1=>by simp only[mT];rw[zQ c g n,Int.mul_add]
theorem aFi {g h:Nat→Int}:∀ {n:Nat},(∀ t,t<n→g t≤h t)→mT g n≤mT h n
 |0,_=>Int.le_refl _
 |n+1,e=>by
  simp only[mT]
  have:=aFi (g:=g) (h:=h) (n:=n) (fun t ht=>e t (by omega))
  have:=e n (by omega)
  omega
def bit (t i:Nat):Nat:=t / 2 ^ i % 2
theorem aI3 {t m:Nat} (h:t<2 ^ m):bit t m=0∧bit (2 ^ m+t) m=1:=by
 unfold bit
 have hp:0<2 ^ m:=Nat.two_pow_pos m
 rw[Nat.div_eq_of_lt h,Nat.add_div_left _ hp,Nat.div_eq_of_lt h]
 exact⟨rfl,rfl⟩
theorem aJQ {t m i:Nat} (hi:i<m):bit (2 ^ m+t) i=bit t i:=by
 unfold bit
 have e:2 ^ m=2 ^ i*(2*2 ^ (m-i-1)):=by
  rw[show 2*2 ^ (m-i-1)=2 ^ (m-i-1+1)by rw[Nat.pow_succ,Nat.mul_comm],←Nat.pow_add];congr 1;omega
 rw[e,Nat.mul_add_div (Nat.two_pow_pos i)]
 omega
structure Ax where
 lo:Nat→Int
 hi:Nat→Int
 w:Nat→Int
 siz:Nat→Int
def aCY (A:Ax):Nat→Int
 |0=>1
 |k+1=>aCY A k*A.siz k
def atF (A:Ax) (t:Nat):Nat→Int
 |0=>0
 |k+1=>atF A t k+(if bit t k=1 then A.hi k else A.lo k)*aCY A k
def wtF (A:Ax) (t:Nat):Nat→Int
 |0=>1
 |k+1=>wtF A t k*(if bit t k=1 then A.w k else 65536-A.w k)
theorem aAk (A:Ax) {t u:Nat}:∀ {k:Nat},(∀ i,i<k→bit t i=bit u i)→atF A t k=atF A u k
 |0,_=>rfl
 |k+1,e=>by simp only[atF];rw[aAk A (fun i hi=>e i (by omega)),e k (by omega)]
theorem aAO (A:Ax) {t u:Nat}:∀ {k:Nat},(∀ i,i<k→bit t i=bit u i)→wtF A t k=wtF A u k
 |0,_=>rfl
 |k+1,e=>by simp only[wtF];rw[aAO A (fun i hi=>e i (by omega)),e k (by omega)]
def yO (A:Ax) (r:Int→Int) (m n:Nat):Int:=mT (fun t=>wtF A t m*r (atF A t m)) n
theorem aEb (A:Ax) (r:Int→Int) (m:Nat):yO A r (m+1) (2 ^ (m+1))=(65536-A.w m)*yO A (fun a=>r (a+A.lo m*aCY A m)) m (2 ^ m)+A.w m*yO A (fun a=>r (a+A.hi m*aCY A m)) m (2 ^ m):=by
 unfold yO
 rw[show 2 ^ (m+1)=2 ^ m+2 ^ m by rw[Nat.pow_succ];omega,aCl,←zQ,←zQ]
 congr 1
 ·apply rM
  intro t ht
  simp only[wtF,atF]
  rw[(aI3 ht).1,if_neg (by omega),if_neg (by omega)]
  grind
 ·apply rM
  intro t ht
  simp only[wtF,atF]
  rw[(aI3 ht).2,if_pos rfl,if_pos rfl,aAO A (u:=t) (fun i hi=>aJQ hi),aAk A (u:=t) (fun i hi=>aJQ hi)]
  grind
theorem aCu (A:Ax):∀ (m:Nat) (c:Int),yO A (fun _=>c) m (2 ^ m)=65536 ^ m*c
 |0,c=>by simp [yO,mT,wtF]
 |m+1,c=>by
  rw[aEb,aCu A m c,Int.pow_succ]
  grind
theorem xW (A:Ax) (t:Nat):∀ (m:Nat),(∀ i,i<m→0≤A.w i∧A.w i≤65536)→0≤wtF A t m
 |0,_=>by simp [wtF]
 |m+1,h=>by
  simp only[wtF]
  refine Int.mul_nonneg (xW A t m (fun i hi=>h i (by omega))) ?_
  have:=h m (by omega)
  split<;>omega
theorem aGp (A:Ax) {m:Nat} (h:∀ i,i<m→0≤A.w i∧A.w i≤65536) {r s:Int→Int} (e:∀ a,r a≤s a) (n:Nat):yO A r m n≤yO A s m n:=by
 unfold yO
 exact aFi (fun t _=>Int.mul_le_mul_of_nonneg_left (e _) (xW A t m h))
end Go.Proofs.Ytdldallkeheciaa.Lk
