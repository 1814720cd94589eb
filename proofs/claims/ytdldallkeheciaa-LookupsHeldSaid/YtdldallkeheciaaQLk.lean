/- What is proved: sums over the corners of a table of samples,weighted,in plain Lean. No condition but those that are stated. -/
import Derived.Test.YtdldallkeheciaaQg1
set_option linter.unusedSimpArgs false
set_option linter.unusedVariables false
namespace Go.Proofs.Ytdldallkeheciaa.Lk
def fR (w:Nat) (f:Nat→List Int) (m k:Nat):List (List Int):=(List.range m).map fun i=>if i<k then f i else List.replicate w 0
theorem yX (w:Nat) (f:Nat→List Int) (m:Nat):fR w f m 0=List.replicate m (List.replicate w 0):=by
 unfold fR
 simp only[Nat.not_lt_zero,if_false]
 apply List.ext_getElem
 ·simp
 ·intro i h1 h2;simp
theorem aAV (w:Nat) (f:Nat→List Int) (m k:Nat) (hk:k<m):(fR w f m k).set k (f k)=fR w f m (k+1):=by
 unfold fR
 apply List.ext_getElem
 ·simp
 ·intro i h1 h2
  rw[List.getElem_set,List.getElem_map,List.getElem_map,List.getElem_range]
  by_cases e:k=i
  ·subst e;rw[if_pos rfl,if_pos (by omega)]
  ·rw[if_neg e]
   by_cases g:i<k
   ·rw[if_pos g,if_pos (by omega)]
   ·rw[if_neg g,if_neg (by omega)]
theorem aAI (w:Nat) (f:Nat→List Int) (m:Nat):fR w f m m=(List.range m).map f:=by
 unfold fR
 apply List.map_congr_left
 intro i hi
 rw[if_pos (by simpa using hi)]
def lI (g:Nat→Int):Nat→Int
 |0=>0
 |n+1=>lI g n+g n
theorem aDT (g:Nat→Int) (a:Nat):∀ b,lI g (a+b)=lI g a+lI (fun t=>g (a+t)) b
 |0=>by simp [lI]
 |b+1=>by
  show lI g (a+b)+g (a+b)=_
  rw[aDT g a b]
  simp only[lI];omega
theorem rF {g h:Nat→Int}:∀ {n:Nat},(∀ t,t<n→g t=h t)→lI g n=lI h n
 |0,_=>rfl
 |n+1,e=>by
  simp only[lI]
  rw[rF (fun t ht=>e t (by omega)),e n (by omega)]
theorem yJ (c:Int) (g:Nat→Int):∀ n,lI (fun t=>c*g t) n=c*lI g n
 |0=>by simp [lI]
 |n+1=>by simp only[lI];rw[yJ c g n,Int.mul_add]
theorem aF5 {g h:Nat→Int}:∀ {n:Nat},(∀ t,t<n→g t≤h t)→lI g n≤lI h n
 |0,_=>Int.le_refl _
 |n+1,e=>by
  simp only[lI]
  have:=aF5 (g:=g) (h:=h) (n:=n) (fun t ht=>e t (by omega))
  have:=e n (by omega)
  omega
def bit (t i:Nat):Nat:=t / 2 ^ i % 2
theorem aLD {t m:Nat} (h:t<2 ^ m):bit t m=0∧bit (2 ^ m+t) m=1:=by
 unfold bit
 have hp:0<2 ^ m:=Nat.two_pow_pos m
 rw[Nat.div_eq_of_lt h,Nat.add_div_left _ hp,Nat.div_eq_of_lt h]
 exact⟨rfl,rfl⟩
theorem aJu {t m i:Nat} (hi:i<m):bit (2 ^ m+t) i=bit t i:=by
 unfold bit
 have e:2 ^ m=2 ^ i*(2*2 ^ (m-i-1)):=by
  rw[show 2*2 ^ (m-i-1)=2 ^ (m-i-1+1)by rw[Nat.pow_succ,Nat.mul_comm],←Nat.pow_add];congr 1;omega
 rw[e,Nat.mul_add_div (Nat.two_pow_pos i)]
 omega
structure Ax where
 lo:Nat→Int
 hi:Nat→Int
 w:Nat→Int
 siz:Nat→Int
def kB (A:Ax):Nat→Int
 |0=>1
 |k+1=>kB A k*A.siz k
def atF (A:Ax) (t:Nat):Nat→Int
 |0=>0
 |k+1=>atF A t k+(if bit t k=1 then A.hi k else A.lo k)*kB A k
def wI (A:Ax) (t:Nat):Nat→Int
 |0=>1
 |k+1=>wI A t k*(if bit t k=1 then A.w k else 65536-A.w k)
theorem aAR (A:Ax) {t u:Nat}:∀ {k:Nat},(∀ i,i<k→bit t i=bit u i)→atF A t k=atF A u k
 |0,_=>rfl
 |k+1,e=>by simp only[atF];rw[aAR A (fun i hi=>e i (by omega)),e k (by omega)]
theorem aAE (A:Ax) {t u:Nat}:∀ {k:Nat},(∀ i,i<k→bit t i=bit u i)→wI A t k=wI A u k
 |0,_=>rfl
 |k+1,e=>by simp only[wI];rw[aAE A (fun i hi=>e i (by omega)),e k (by omega)]
def vL (A:Ax) (r:Int→Int) (m n:Nat):Int:=lI (fun t=>wI A t m*r (atF A t m)) n
theorem aEG (A:Ax) (r:Int→Int) (m:Nat):vL A r (m+1) (2 ^ (m+1))=(65536-A.w m)*vL A (fun a=>r (a+A.lo m*kB A m)) m (2 ^ m)+A.w m*vL A (fun a=>r (a+A.hi m*kB A m)) m (2 ^ m):=by
 unfold vL
 rw[show 2 ^ (m+1)=2 ^ m+2 ^ m by rw[Nat.pow_succ];omega,aDT,←yJ,←yJ]
 congr 1
 ·apply rF
  intro t ht
  simp only[wI,atF]
  rw[(aLD ht).1,if_neg (by omega),if_neg (by omega)]
  grind
 ·apply rF
  intro t ht
  simp only[wI,atF]
  rw[(aLD ht).2,if_pos rfl,if_pos rfl,aAE A (u:=t) (fun i hi=>aJu hi),aAR A (u:=t) (fun i hi=>aJu hi)]
  grind
theorem aDl (A:Ax):∀ (m:Nat) (c:Int),vL A (fun _=>c) m (2 ^ m)=65536 ^ m*c
 |0,c=>by simp [vL,lI,wI]
 |m+1,c=>by
  rw[aEG,aDl A m c,Int.pow_succ]
  grind
theorem zO (A:Ax) (t:Nat):∀ (m:Nat),(∀ i,i<m→0≤A.w i∧A.w i≤65536)→0≤wI A t m
 |0,_=>by simp [wI]
 |m+1,h=>by
  simp only[wI]
  refine Int.mul_nonneg (zO A t m (fun i hi=>h i (by omega))) ?_
  have:=h m (by omega)
  split<;>omega
theorem aF1 (A:Ax) {m:Nat} (h:∀ i,i<m→0≤A.w i∧A.w i≤65536) {r s:Int→Int} (e:∀ a,r a≤s a) (n:Nat):vL A r m n≤vL A s m n:=by
 unfold vL
 exact aF5 (fun t _=>Int.mul_le_mul_of_nonneg_left (e _) (zO A t m h))
end Go.Proofs.Ytdldallkeheciaa.Lk
