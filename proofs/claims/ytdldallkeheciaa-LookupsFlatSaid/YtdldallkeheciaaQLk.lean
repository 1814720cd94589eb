/- What is proved: sums over the corners of a table of samples,weighted,in plain Lean. No condition but those that are stated. -/
import Derived.Test.YtdldallkeheciaaQg1
set_option linter.unusedSimpArgs false
set_option linter.unusedVariables false
namespace Go.Proofs.Ytdldallkeheciaa.Lk
def gC (w:Nat) (f:Nat→List Int) (m k:Nat):List (List Int):=(List.range m).map fun i=>if i<k then f i else List.replicate w 0
theorem rT (w:Nat) (f:Nat→List Int) (m:Nat):gC w f m 0=List.replicate m (List.replicate w 0):=by
 unfold gC
 simp only[Nat.not_lt_zero,if_false]
 apply List.ext_getElem
 ·simp
 ·intro i h1 h2;simp
theorem uM (w:Nat) (f:Nat→List Int) (m k:Nat) (hk:k<m):(gC w f m k).set k (f k)=gC w f m (k+1):=by
 unfold gC
 apply List.ext_getElem
 ·simp
 ·intro i h1 h2
  rw[List.getElem_set,List.getElem_map,List.getElem_map,List.getElem_range]
  by_cases e:k=i
  ·subst e;rw[if_pos rfl,if_pos (by omega)]
  ·rw[if_neg e]
   by_cases g:i<k
   ·rw[if_pos g,if_pos (by omega)]
   ·rw[if_neg g,if_neg (by omega)]
theorem uS (w:Nat) (f:Nat→List Int) (m:Nat):gC w f m m=(List.range m).map f:=by
 unfold gC
 apply List.map_congr_left
 intro i hi
 rw[if_pos (by simpa using hi)]
def lO (g:Nat→Int):Nat→Int
 |0=>0
 |n+1=>lO g n+g n
theorem aEy (g:Nat→Int) (a:Nat):∀ b,lO g (a+b)=lO g a+lO (fun t=>g (a+t)) b
 |0=>by simp [lO]
 |b+1=>by
  show lO g (a+b)+g (a+b)=_
  rw[aEy g a b]
  simp only[lO];omega
theorem oV {g h:Nat→Int}:∀ {n:Nat},(∀ t,t<n→g t=h t)→lO g n=lO h n
 |0,_=>rfl
 |n+1,e=>by
  simp only[lO]
  rw[oV (fun t ht=>e t (by omega)),e n (by omega)]
theorem yV (c:Int) (g:Nat→Int):∀ n,lO (fun t=>c*g t) n=c*lO g n
 |0=>by simp [lO]
 |n+1=>by simp only[lO];rw[yV c g n,Int.mul_add]
theorem aF9 {g h:Nat→Int}:∀ {n:Nat},(∀ t,t<n→g t≤h t)→lO g n≤lO h n
 |0,_=>Int.le_refl _
 |n+1,e=>by
  simp only[lO]
  have:=aF9 (g:=g) (h:=h) (n:=n) (fun t ht=>e t (by omega))
  have:=e n (by omega)
  omega
def bit (t i:Nat):Nat:=t / 2 ^ i % 2
theorem aNi {t m:Nat} (h:t<2 ^ m):bit t m=0∧bit (2 ^ m+t) m=1:=by
 unfold bit
 have hp:0<2 ^ m:=Nat.two_pow_pos m
 rw[Nat.div_eq_of_lt h,Nat.add_div_left _ hp,Nat.div_eq_of_lt h]
 exact⟨rfl,rfl⟩
theorem aNr {t m i:Nat} (hi:i<m):bit (2 ^ m+t) i=bit t i:=by
 unfold bit
 have e:2 ^ m=2 ^ i*(2*2 ^ (m-i-1)):=by
  rw[show 2*2 ^ (m-i-1)=2 ^ (m-i-1+1)by rw[Nat.pow_succ,Nat.mul_comm],←Nat.pow_add];congr 1;omega
 rw[e,Nat.mul_add_div (Nat.two_pow_pos i)]
 omega
structure Ax where
 lo:Nat→Int
 hi:Nat→Int
 w:Nat→Int
 siz:Nat→Int
def dL (A:Ax):Nat→Int
 |0=>1
 |k+1=>dL A k*A.siz k
def pC (A:Ax) (t:Nat):Nat→Int
 |0=>0
 |k+1=>pC A t k+(if bit t k=1 then A.hi k else A.lo k)*dL A k
def wM (A:Ax) (t:Nat):Nat→Int
 |0=>1
 |k+1=>wM A t k*(if bit t k=1 then A.w k else 65536-A.w k)
theorem aAZ (A:Ax) {t u:Nat}:∀ {k:Nat},(∀ i,i<k→bit t i=bit u i)→pC A t k=pC A u k
 |0,_=>rfl
 |k+1,e=>by simp only[pC];rw[aAZ A (fun i hi=>e i (by omega)),e k (by omega)]
theorem aA2 (A:Ax) {t u:Nat}:∀ {k:Nat},(∀ i,i<k→bit t i=bit u i)→wM A t k=wM A u k
 |0,_=>rfl
 |k+1,e=>by simp only[wM];rw[aA2 A (fun i hi=>e i (by omega)),e k (by omega)]
def sS (A:Ax) (r:Int→Int) (m n:Nat):Int:=lO (fun t=>wM A t m*r (pC A t m)) n
theorem aFD (A:Ax) (r:Int→Int) (m:Nat):sS A r (m+1) (2 ^ (m+1))=(65536-A.w m)*sS A (fun a=>r (a+A.lo m*dL A m)) m (2 ^ m)+A.w m*sS A (fun a=>r (a+A.hi m*dL A m)) m (2 ^ m):=by
 unfold sS
 rw[show 2 ^ (m+1)=2 ^ m+2 ^ m by rw[Nat.pow_succ];omega,aEy,←yV,←yV]
 congr 1
 ·apply oV
  intro t ht
  simp only[wM,pC]
  rw[(aNi ht).1,if_neg (by omega),if_neg (by omega)]
  grind
 ·apply oV
  intro t ht
  simp only[wM,pC]
  rw[(aNi ht).2,if_pos rfl,if_pos rfl,aA2 A (u:=t) (fun i hi=>aNr hi),aAZ A (u:=t) (fun i hi=>aNr hi)]
  grind
theorem aAe (A:Ax):∀ (m:Nat) (c:Int),sS A (fun _=>c) m (2 ^ m)=65536 ^ m*c
 |0,c=>by simp [sS,lO,wM]
 |m+1,c=>by
  rw[aFD,aAe A m c,Int.pow_succ]
  grind
theorem xY (A:Ax) (t:Nat):∀ (m:Nat),(∀ i,i<m→0≤A.w i∧A.w i≤65536)→0≤wM A t m
 |0,_=>by simp [wM]
 |m+1,h=>by
  simp only[wM]
  refine Int.mul_nonneg (xY A t m (fun i hi=>h i (by omega))) ?_
  have:=h m (by omega)
  split<;>omega
theorem aHb (A:Ax) {m:Nat} (h:∀ i,i<m→0≤A.w i∧A.w i≤65536) {r s:Int→Int} (e:∀ a,r a≤s a) (n:Nat):sS A r m n≤sS A s m n:=by
 unfold sS
 exact aF9 (fun t _=>Int.mul_le_mul_of_nonneg_left (e _) (xY A t m h))
end Go.Proofs.Ytdldallkeheciaa.Lk
