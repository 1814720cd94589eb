/- What is proved: the corners of a cell of a table of any number of inputs,one by one,in plain Lean. No condition but those that are stated. -/
import Derived.Test.YtdldallkeheciaaQa7
import Derived.Test.YtdldallkeheciaaQa6
import Derived.Test.YtdldallkeheciaaProg
import Derived.Test.YtdldallkeheciaaQNn
import Derived.Test.YtdldallkeheciaaQg4
set_option linter.unusedSimpArgs false
set_option linter.unusedVariables false
namespace Go.Proofs.Ytdldallkeheciaa
open Go Go.RowKit Sx Wi Lk
def eK (S L m:Int):Prop:=∀ k:Nat,(k:Int)<m→(0≤G 83 [L,k,0]∧G 83 [L,k,0]≤255)∧(0≤G 83 [L,k,1]∧G 83 [L,k,1]≤255)∧(0≤G 83 [L,k,2]∧G 83 [L,k,2]≤65536)∧(1≤G 83 [S,k,0]∧G 83 [S,k,0]≤256)
def gdB (S L m:E):B:=(.and (.or (.cmp .le m (.lit 0)) (.and (.cmp .le (.lit 0) (.app 83 (.cons L (.cons (.lit 0) (.cons (.lit 0) .nil))))) (.and (.cmp .le (.app 83 (.cons L (.cons (.lit 0) (.cons (.lit 0) .nil)))) (.lit 255)) (.and (.cmp .le (.lit 0) (.app 83 (.cons L (.cons (.lit 0) (.cons (.lit 1) .nil))))) (.and (.cmp .le (.app 83 (.cons L (.cons (.lit 0) (.cons (.lit 1) .nil)))) (.lit 255)) (.and (.cmp .le (.lit 0) (.app 83 (.cons L (.cons (.lit 0) (.cons (.lit 2) .nil))))) (.and (.cmp .le (.app 83 (.cons L (.cons (.lit 0) (.cons (.lit 2) .nil)))) (.lit 65536)) (.and (.cmp .le (.lit 1) (.app 83 (.cons S (.cons (.lit 0) (.cons (.lit 0) .nil))))) (.cmp .le (.app 83 (.cons S (.cons (.lit 0) (.cons (.lit 0) .nil)))) (.lit 256)))))))))) (.and (.or (.cmp .le m (.lit 1)) (.and (.cmp .le (.lit 0) (.app 83 (.cons L (.cons (.lit 1) (.cons (.lit 0) .nil))))) (.and (.cmp .le (.app 83 (.cons L (.cons (.lit 1) (.cons (.lit 0) .nil)))) (.lit 255)) (.and (.cmp .le (.lit 0) (.app 83 (.cons L (.cons (.lit 1) (.cons (.lit 1) .nil))))) (.and (.cmp .le (.app 83 (.cons L (.cons (.lit 1) (.cons (.lit 1) .nil)))) (.lit 255)) (.and (.cmp .le (.lit 0) (.app 83 (.cons L (.cons (.lit 1) (.cons (.lit 2) .nil))))) (.and (.cmp .le (.app 83 (.cons L (.cons (.lit 1) (.cons (.lit 2) .nil)))) (.lit 65536)) (.and (.cmp .le (.lit 1) (.app 83 (.cons S (.cons (.lit 1) (.cons (.lit 0) .nil))))) (.cmp .le (.app 83 (.cons S (.cons (.lit 1) (.cons (.lit 0) .nil)))) (.lit 256)))))))))) (.and (.or (.cmp .le m (.lit 2)) (.and (.cmp .le (.lit 0) (.app 83 (.cons L (.cons (.lit 2) (.cons (.lit 0) .nil))))) (.and (.cmp .le (.app 83 (.cons L (.cons (.lit 2) (.cons (.lit 0) .nil)))) (.lit 255)) (.and (.cmp .le (.lit 0) (.app 83 (.cons L (.cons (.lit 2) (.cons (.lit 1) .nil))))) (.and (.cmp .le (.app 83 (.cons L (.cons (.lit 2) (.cons (.lit 1) .nil)))) (.lit 255)) (.and (.cmp .le (.lit 0) (.app 83 (.cons L (.cons (.lit 2) (.cons (.lit 2) .nil))))) (.and (.cmp .le (.app 83 (.cons L (.cons (.lit 2) (.cons (.lit 2) .nil)))) (.lit 65536)) (.and (.cmp .le (.lit 1) (.app 83 (.cons S (.cons (.lit 2) (.cons (.lit 0) .nil))))) (.cmp .le (.app 83 (.cons S (.cons (.lit 2) (.cons (.lit 0) .nil)))) (.lit 256)))))))))) (.or (.cmp .le m (.lit 3)) (.and (.cmp .le (.lit 0) (.app 83 (.cons L (.cons (.lit 3) (.cons (.lit 0) .nil))))) (.and (.cmp .le (.app 83 (.cons L (.cons (.lit 3) (.cons (.lit 0) .nil)))) (.lit 255)) (.and (.cmp .le (.lit 0) (.app 83 (.cons L (.cons (.lit 3) (.cons (.lit 1) .nil))))) (.and (.cmp .le (.app 83 (.cons L (.cons (.lit 3) (.cons (.lit 1) .nil)))) (.lit 255)) (.and (.cmp .le (.lit 0) (.app 83 (.cons L (.cons (.lit 3) (.cons (.lit 2) .nil))))) (.and (.cmp .le (.app 83 (.cons L (.cons (.lit 3) (.cons (.lit 2) .nil)))) (.lit 65536)) (.and (.cmp .le (.lit 1) (.app 83 (.cons S (.cons (.lit 3) (.cons (.lit 0) .nil))))) (.cmp .le (.app 83 (.cons S (.cons (.lit 3) (.cons (.lit 0) .nil)))) (.lit 256)))))))))))))
theorem tI {ρ:Nat→Int} {S L m:E} (h4:m.den G ρ≤4):(gdB S L m).den G ρ=true↔eK (S.den G ρ) (L.den G ρ) (m.den G ρ):=by
 unfold gdB
 simp only[E.den,EL.den,B.den,aFo,Bool.and_eq_true,Bool.or_eq_true,decide_eq_true_eq]
 generalize E.den G ρ S=s at *
 generalize E.den G ρ L=l at *
 generalize E.den G ρ m=n at *
 constructor
 ·rintro⟨h0,h1,h2,h3⟩ k hk
  have:k=0∨k=1∨k=2∨k=3:=by omega
  rcases this with rfl|rfl|rfl|rfl
  ·rcases h0 with q|⟨a0,a1,a2,a3,a4,a5,a6,a7⟩
   ·exact absurd hk (by omega)
   ·exact⟨⟨a0,a1⟩,⟨a2,a3⟩,⟨a4,a5⟩,a6,a7⟩
  ·rcases h1 with q|⟨a0,a1,a2,a3,a4,a5,a6,a7⟩
   ·exact absurd hk (by omega)
   ·exact⟨⟨a0,a1⟩,⟨a2,a3⟩,⟨a4,a5⟩,a6,a7⟩
  ·rcases h2 with q|⟨a0,a1,a2,a3,a4,a5,a6,a7⟩
   ·exact absurd hk (by omega)
   ·exact⟨⟨a0,a1⟩,⟨a2,a3⟩,⟨a4,a5⟩,a6,a7⟩
  ·rcases h3 with q|⟨a0,a1,a2,a3,a4,a5,a6,a7⟩
   ·exact absurd hk (by omega)
   ·exact⟨⟨a0,a1⟩,⟨a2,a3⟩,⟨a4,a5⟩,a6,a7⟩
 ·intro h
  refine⟨?_,?_,?_,?_⟩
  ·by_cases q:n≤0
   ·exact .inl q
   ·obtain⟨⟨a0,a1⟩,⟨a2,a3⟩,⟨a4,a5⟩,a6,a7⟩:=h 0 (by omega)
    exact .inr ⟨a0,a1,a2,a3,a4,a5,a6,a7⟩
  ·by_cases q:n≤1
   ·exact .inl q
   ·obtain⟨⟨a0,a1⟩,⟨a2,a3⟩,⟨a4,a5⟩,a6,a7⟩:=h 1 (by omega)
    exact .inr ⟨a0,a1,a2,a3,a4,a5,a6,a7⟩
  ·by_cases q:n≤2
   ·exact .inl q
   ·obtain⟨⟨a0,a1⟩,⟨a2,a3⟩,⟨a4,a5⟩,a6,a7⟩:=h 2 (by omega)
    exact .inr ⟨a0,a1,a2,a3,a4,a5,a6,a7⟩
  ·by_cases q:n≤3
   ·exact .inl q
   ·obtain⟨⟨a0,a1⟩,⟨a2,a3⟩,⟨a4,a5⟩,a6,a7⟩:=h 3 (by omega)
    exact .inr ⟨a0,a1,a2,a3,a4,a5,a6,a7⟩
theorem aRh (x:Int):bS .and .i64 x 1=x % 2:=by
 have e:(BitVec.ofInt 64 x &&& BitVec.ofInt 64 1).toNat=(BitVec.ofInt 64 x).toNat % 2:=by
  rw[BitVec.toNat_and]
  exact Nat.and_two_pow_sub_one_eq_mod _ 1
 have e2:=BitVec.toNat_ofInt (n:=64) (i:=x)
 show IntKind.i64.wrap ((BitVec.ofInt 64 x &&& BitVec.ofInt 64 1).toNat:Int)=_
 rw[e,e2,IntKind.wrap_i64]
 omega
theorem aMK (t i:Nat):bS .and .i64 (Int.fdiv (t:Int) (1*2 ^ (i:Int).toNat)) 1=((Lk.bit t i:Nat):Int):=by
 rw[aRh,Int.toNat_natCast,Int.one_mul]
 have c:((2 ^ i:Nat):Int)=2 ^ i:=by rw[Int.natCast_pow];rfl
 rw[←c,Int.fdiv_eq_ediv_of_nonneg _ (Int.natCast_nonneg _)]
 unfold Lk.bit
 rw[Int.natCast_emod,Int.natCast_ediv]
 rfl
section
variable {S L m:Int} {t:Nat}
theorem aVZ:∀ i:Nat,(1:Int)≤256 ^ i
 |0=>by decide
 |i+1=>by have:=aVZ i;rw[Int.pow_succ];omega
theorem aCr (h:eK S L m):∀ {i:Nat},(i:Int)≤m→1≤kB (pA S L) i∧kB (pA S L) i≤256 ^ i
 |0,_=>by simp [kB]
 |i+1,hi=>by
  obtain⟨a,b⟩:=aCr h (i:=i) (by omega)
  have hs:=(h i (by omega)).2.2.2
  have hs1:1≤qT S i 0:=hs.1
  have hs2:qT S i 0≤256:=hs.2
  show 1≤kB (pA S L) i*qT S i 0∧kB (pA S L) i*qT S i 0≤256 ^ (i+1)
  rw[Int.pow_succ]
  have q1:=Int.mul_le_mul a hs1 (by decide) (by omega)
  have q2:=Int.mul_le_mul b hs2 (by omega) (by have:=aVZ i;omega)
  exact⟨by simpa using q1,q2⟩
theorem aSM (h:eK S L m):∀ {i:Nat},(i:Int)≤m→0≤atF (pA S L) t i∧atF (pA S L) t i+1≤256 ^ i
 |0,_=>by simp [atF]
 |i+1,hi=>by
  obtain⟨a,b⟩:=aSM h (i:=i) (by omega)
  obtain⟨c,d⟩:=aCr h (i:=i) (by omega)
  obtain⟨q0,q1,_,_⟩:=h i (by omega)
  have q0':0≤qT L i 0∧qT L i 0≤255:=q0
  have q1':0≤qT L i 1∧qT L i 1≤255:=q1
  have key:∀ n:Int,0≤n→n≤255→0≤atF (pA S L) t i+n*kB (pA S L) i∧atF (pA S L) t i+n*kB (pA S L) i+1≤256 ^ (i+1):=by
   intro n h0 h1
   rw[Int.pow_succ]
   have u:=Int.mul_nonneg h0 (show 0≤kB (pA S L) i by omega)
   have v:=Int.mul_le_mul h1 d (by omega) (by decide)
   omega
  simp only[atF]
  split
  ·exact key _ q1'.1 q1'.2
  ·exact key _ q0'.1 q0'.2
theorem aLe:∀ i:Nat,(1:Int)≤65536 ^ i
 |0=>by decide
 |i+1=>by have:=aLe i;rw[Int.pow_succ];omega
theorem aKb (h:eK S L m):∀ {i:Nat},(i:Int)≤m→0≤wI (pA S L) t i∧wI (pA S L) t i≤65536 ^ i
 |0,_=>by simp [wI]
 |i+1,hi=>by
  obtain⟨a,b⟩:=aKb h (i:=i) (by omega)
  have q:0≤qT L i 2∧qT L i 2≤65536:=(h i (by omega)).2.2.1
  have key:∀ n:Int,0≤n→n≤65536→0≤wI (pA S L) t i*n∧wI (pA S L) t i*n≤65536 ^ (i+1):=by
   intro n h0 h1
   rw[Int.pow_succ]
   exact⟨Int.mul_nonneg a h0,Int.mul_le_mul b h1 h0 (by have:=aLe i;omega)⟩
  simp only[wI]
  split
  ·exact key _ q.1 q.2
  ·exact key _ (by show 0≤65536-qT L i 2;omega) (by show 65536-qT L i 2≤65536;omega)
theorem aNa {i:Nat} (h:(i:Int)≤m) (hm:m≤4):(256:Int) ^ i≤4294967296∧(65536:Int) ^ i≤18446744073709551616:=by
 have:i=0∨i=1∨i=2∨i=3∨i=4:=by omega
 rcases this with rfl|rfl|rfl|rfl|rfl<;>decide
theorem g78 (h:eK S L m) (hm:m≤4) {i:Nat} (hi:(i:Int)≤m):G 78 [S,L,t,i]=atF (pA S L) t i:=by
 show iJ 0 8589934592 (atF (pA S L) (t:Int).toNat (i:Int).toNat)=_
 rw[Int.toNat_natCast,Int.toNat_natCast]
 have a:=aSM (t:=t) h hi
 have b:=(aNa hi hm).1
 unfold iJ;omega
theorem g79 (h:eK S L m) (hm:m≤4) {i:Nat} (hi:(i:Int)≤m):G 79 [S,L,i]=kB (pA S L) i:=by
 show iJ 0 4294967296 (kB (pA S L) (i:Int).toNat)=_
 rw[Int.toNat_natCast]
 have a:=aCr h hi
 have b:=(aNa hi hm).1
 unfold iJ;omega
theorem g77 (h:eK S L m) (hm:m≤4) {i:Nat} (hi:(i:Int)≤m):G 77 [S,L,t,i]=wI (pA S L) t i:=by
 show iJ 0 18446744073709551616 (wI (pA S L) (t:Int).toNat (i:Int).toNat)=_
 rw[Int.toNat_natCast,Int.toNat_natCast]
 have a:=aKb (t:=t) h hi
 have b:=(aNa hi hm).2
 unfold iJ;omega
theorem aU0 (h:eK S L m) (hm:m≤4) {i:Nat} (hi:(i:Int)<m) (hb:bS .and .i64 (Int.fdiv (t:Int) (1*2 ^ (i:Int).toNat)) 1=1):
  G 78 [S,L,t,i]+G 83 [L,i,1]*G 79 [S,L,i]=G 78 [S,L,t,((i+1:Nat):Int)]∧G 79 [S,L,i]*G 83 [S,i,0]=G 79 [S,L,((i+1:Nat):Int)]∧G 77 [S,L,t,i]*G 83 [L,i,2]=G 77 [S,L,t,((i+1:Nat):Int)]:=by
 rw[g78 h hm (by omega),g78 h hm (by omega),g79 h hm (by omega),g79 h hm (by omega),g77 h hm (by omega),g77 h hm (by omega)]
 rw[aMK]at hb
 have hb':Lk.bit t i=1:=by omega
 simp only[atF,kB,wI]
 rw[if_pos hb',if_pos hb']
 exact⟨rfl,rfl,rfl⟩
theorem aV4 (h:eK S L m) (hm:m≤4) {i:Nat} (hi:(i:Int)<m) (hb:¬bS .and .i64 (Int.fdiv (t:Int) (1*2 ^ (i:Int).toNat)) 1=1):
  G 78 [S,L,t,i]+G 83 [L,i,0]*G 79 [S,L,i]=G 78 [S,L,t,((i+1:Nat):Int)]∧G 79 [S,L,i]*G 83 [S,i,0]=G 79 [S,L,((i+1:Nat):Int)]∧G 77 [S,L,t,i]*(65536-G 83 [L,i,2])=G 77 [S,L,t,((i+1:Nat):Int)]:=by
 rw[g78 h hm (by omega),g78 h hm (by omega),g79 h hm (by omega),g79 h hm (by omega),g77 h hm (by omega),g77 h hm (by omega)]
 rw[aMK]at hb
 have hb':¬Lk.bit t i=1:=by omega
 simp only[atF,kB,wI]
 rw[if_neg hb',if_neg hb']
 exact⟨rfl,rfl,rfl⟩
theorem aMT:G 78 [S,L,t,0]=0∧G 79 [S,L,0]=1∧G 77 [S,L,t,0]=1:=⟨rfl,rfl,rfl⟩
theorem aHI {g:Nat→Int} {c:Int}:∀ {n:Nat},(∀ k,k<n→0≤g k∧g k≤c)→0≤lI g n∧lI g n≤n*c
 |0,_=>by simp [lI]
 |n+1,h=>by
  obtain⟨a,b⟩:=aHI (n:=n) (fun k hk=>h k (by omega))
  obtain⟨c1,c2⟩:=h n (by omega)
  simp only[lI]
  have:((n+1:Nat):Int)*c=n*c+c:=by rw[Int.natCast_add,Int.add_mul];simp
  omega
variable {B nB bits nR j:Int}
theorem aNB (h:eK S L m) (hm:0≤m∧m≤4) {n:Nat} (hn:n≤16):0≤aEU S B nB bits nR L m j n∧aEU S B nB bits nR L m j n≤19342813113834066795298816:=by
 unfold aEU vL
 have key:=aHI (g:=fun t=>wI (pA S L) t m.toNat*qU B nB ((atF (pA S L) t m.toNat*nR+j)*bits) bits) (c:=1208925819614629174706176) (n:=n) (fun k hk=>by
  have a:=aKb (t:=k) h (i:=m.toNat) (by omega)
  have b:=(aNa (m:=m) (i:=m.toNat) (by omega) hm.2).2
  obtain⟨r0,r1⟩:=aCF B nB ((atF (pA S L) k m.toNat*nR+j)*bits) bits
  refine⟨Int.mul_nonneg a.1 r0,?_⟩
  have:=Int.mul_le_mul (show wI (pA S L) k m.toNat≤18446744073709551616 by omega) r1 r0 (by decide)
  omega)
 refine⟨key.1,Int.le_trans key.2 ?_⟩
 have:=Int.mul_le_mul_of_nonneg_right (show (n:Int)≤16 by omega) (show (0:Int)≤1208925819614629174706176 by decide)
 omega
theorem g76 (h:eK S L m) (hm:0≤m∧m≤4) {n:Nat} (hn:n≤16):G 76 [S,B,nB,bits,nR,L,m,j,n]=aEU S B nB bits nR L m j n:=by
 show iJ 0 19342813113834066795298816 (aEU S B nB bits nR L m j (n:Int).toNat)=_
 rw[Int.toNat_natCast]
 have:=aNB (B:=B) (nB:=nB) (bits:=bits) (nR:=nR) (j:=j) h hm hn
 unfold iJ;omega
theorem aKG (hm:0≤m∧m≤4):(1:Int)*2 ^ m.toNat≤16:=by
 have:m=0∨m=1∨m=2∨m=3∨m=4:=by omega
 rcases this with rfl|rfl|rfl|rfl|rfl<;>decide
theorem aJd:(0:Int)=G 76 [S,B,nB,bits,nR,L,m,j,0]:=rfl
theorem aJg (h:eK S L m) (hm:0≤m∧m≤4) (ht:(t:Int)<1*2 ^ m.toNat):
  G 76 [S,B,nB,bits,nR,L,m,j,t]+G 77 [S,L,t,m]*G 67 [B,nB,(G 78 [S,L,t,m]*nR+j)*bits,bits]=G 76 [S,B,nB,bits,nR,L,m,j,((t+1:Nat):Int)]:=by
 have h16:=aKG hm
 rw[g76 h hm (by omega),g76 h hm (by omega)]
 obtain⟨k,rfl⟩:=Int.eq_ofNat_of_zero_le hm.1
 rw[g77 h hm.2 (Int.le_refl _),g78 h hm.2 (Int.le_refl _)]
 show _+wI (pA S L) t k*qU B nB ((atF (pA S L) t k*nR+j)*bits) bits=_
 unfold aEU vL
 rw[Int.toNat_natCast]
 rfl
end
end Go.Proofs.Ytdldallkeheciaa
namespace Go.Proofs.Ytdldallkeheciaa
open Go Go.RowKit Sx Wi Lk
def aLx:bA:=fQ 20 xH gH
theorem aD2 {X:Ctx} {ρ:Nat→Int} (hX:X.Ok ρ) (hG:X.G=G):fF Try.prog X ρ GB aLx:=dN (aSP hX hG) (dA hX hG)
def aWM:St:=⟨[(.yld 10),(.ptr 9 0),(.ptr 8 0),.any,.any,.any,.any,.any,.any,.any,.any,.any,(.own 2 (.var 0) none),(.int .i64 (.var 0)),(.int .i64 (.op .shl (.lit 1) (.var 0))),(.int .i64 (.var 5)),.any,.any,.any,.any,.any,.any,.any,.any,.any,.any,.any,.any,.any,.any,.any,.any,.any,.any,.any,.any,.any,.any,.any,.any,.any,.any,.any,.any,.any,.any,.any,.any,.any,.any,.any,.any,.any,.any,.any,.any,.any,.any,.any,.any,.any,.any,.any,.any,.any],[some ([.vec [.int .i64] (.var 7) (.var 0) true],aF),some ([.vec [.int .u8] (.var 8) (.var 3) true],aF),some ([.vec [.int .i64,.int .i64,.int .i64] (.var 9) (.var 0) true],aU+65),some ([.vec [.int .i32] (.var 10) (.var 1) true],aU+27),some ([.any,.any,.any,(.own 0 (.var 0) none),(.int .i64 (.var 2)),.any,.any,(.own 1 (.var 3) none),.any,.any,.any,.any,.any,.any],30),some ([(.own 3 (.var 1) (some (.var 1)))],26),some ([(.int .i64 (.var 4))],3),some ([(.int .i64 (.app 0 (.cons (.var 6) .nil))),(.int .u64 (.app 1 (.cons (.var 6) .nil)))],53),some ([.any,.any,.any,(.own 0 (.var 0) none),(.int .i64 (.var 2)),.any,.any,(.own 1 (.var 3) none),.any,.any,.any,.any,.any,.any],30),some ([(.own 2 (.var 0) none)],63),some (([.any,.any,(.ptr 4 0),.any,.any,.any,.any,.any,.any,.any,.any,(.ptr 5 0),(.ptr 6 0),.any,(.ptr 7 0),.any,.any,.any,.any,.any,.any,.any,.any,.any,.any,.any,.any,.any,.any,.any,.any,.any,.any,.any,.any,.any,.any,.any,.any,.any,.any,.any,.any,.any,.any,.any,.any,.any,.any,.any,.any,.any,.any,.any,.any,.any,.any,.any,.any,.any,.any,.any,.any,.any,.any,.any,.any,.any,.any,.any,.any,.any,.any,.any,.any,.any,.any,.any,.any,.any,.any,.any,.any,.any,.any,.any,.any,.any,.any,.any,.any,.any,.any,.any,.any,.any,.any,.any,.any,.any,.any,.any,.any,.any,.any,.any,.any,.any,.any,.any,.any,.any,.any,.any,.any,.any,.any]:List SV)++[cW (-1)],bL+11)]⟩
def aVY:St:=⟨[.any,.any,.any,.any,.any,.any,.any,.any,.any,.any,.any,.any,.any,.any,.any,.any,.any,.any,.any,.any,.any,.any,.any,.any,.any,.any,.any,.any,.any,.any,.any,.any,.any,.any,.any,.any,.any,.any,.any,.any,.any,.any,.any,.any,.any,.any,.any,.any,.any,.any,.any,.any,.any,.any,.any,.any,.any,.any,.any,.any,.any,.any,.any,.any,.any],[some ([.vec [.int .i64] (.var 5) (.var 0) true],aF),some ([.vec [.int .u8] (.var 6) (.var 3) true],aF),some ([.vec [.int .i64,.int .i64,.int .i64] (.var 7) (.var 0) true],aU+65),some ([.vec [.int .i32] (.var 8) (.var 1) true],aU+27),some ([.any,.any,.any,(.own 0 (.var 0) none),(.int .i64 (.var 2)),.any,.any,(.own 1 (.var 3) none),.any,.any,.any,.any,.any,.any],30),some ([(.own 3 (.var 1) (some (.var 1)))],26),some ([(.int .i64 (.var 4))],3),some ([(.int .i64 (.app 0 (.cons (.app 76 (.cons (.var 5) (.cons (.var 6) (.cons (.var 3) (.cons (.var 2) (.cons (.var 1) (.cons (.var 7) (.cons (.var 0) (.cons (.var 4) (.cons (.op .shl (.lit 1) (.var 0)) .nil)))))))))) .nil))),(.int .u64 (.app 1 (.cons (.app 76 (.cons (.var 5) (.cons (.var 6) (.cons (.var 3) (.cons (.var 2) (.cons (.var 1) (.cons (.var 7) (.cons (.var 0) (.cons (.var 4) (.cons (.op .shl (.lit 1) (.var 0)) .nil)))))))))) .nil)))],53),some ([.any,.any,.any,(.own 0 (.var 0) none),(.int .i64 (.var 2)),.any,.any,(.own 1 (.var 3) none),.any,.any,.any,.any,.any,.any],30),some ([(.own 2 (.var 0) none)],63),some (([.any,.any,(.ptr 4 0),.any,.any,.any,.any,.any,.any,.any,.any,(.ptr 5 0),(.ptr 6 0),.any,(.ptr 7 0),.any,.any,.any,.any,.any,.any,.any,.any,.any,.any,.any,.any,.any,.any,.any,.any,.any,.any,.any,.any,.any,.any,.any,.any,.any,.any,.any,.any,.any,.any,.any,.any,.any,.any,.any,.any,.any,.any,.any,.any,.any,.any,.any,.any,.any,.any,.any,.any,.any,.any,.any,.any,.any,.any,.any,.any,.any,.any,.any,.any,.any,.any,.any,.any,.any,.any,.any,.any,.any,.any,.any,.any,.any,.any,.any,.any,.any,.any,.any,.any,.any,.any,.any,.any,.any,.any,.any,.any,.any,.any,.any,.any,.any,.any,.any,.any,.any,.any,.any,.any,.any,.any]:List SV)++[cW (-1)],bL+11)]⟩
def aVK:LoopS:=⟨5,11,aWM,.lit true,.exit 0,aVY,.exit 0,aVY⟩
def aHt:List (Int × Int):=[(1,4),(1,4),(1,16),(0,70000),(0,3),(0,16),(0,19342813113834066795298816)]
def aUX:LoopU:=⟨aWm,[(.var 0),(.var 1),(.var 2),(.var 3),(.var 4),(.var 5),(.lit 0),(.lit 0),(.lit 1),(.lit 1),(.var 7),(.var 8),(.var 9),(.var 10),(.var 6)],aA4,(gdB (.var 10) (.var 12) (.var 0))⟩
def aVS:fG:=jL 5 (fT (bN GB) [aUX]) dO
def wX (P:Program) (fs:List B):Res SV:=cA G GI aHt fs fun X=>nX P X GB aLx aVS 4000 (cN (bV P 51) 0) aVK
def aTn:LoopU:=⟨aVK,[(.var 0),(.var 1),(.var 2),(.var 3),(.var 4),(.lit 0),(.lit 0),(.var 5),(.var 6),(.var 7),(.var 8)],aHt,.lit true⟩
def aSQ:fG:=jL 1 (fT (bN GB) [aTn]) dO
def aFj:B:=(gdB (.var 5) (.var 7) (.var 0))
def aTJ:FunS:=⟨[(.yld 10),(.ptr 9 0),(.ptr 8 0)],[some ([.vec [.int .i64] (.var 5) (.var 0) true],aF),some ([.vec [.int .u8] (.var 6) (.var 3) true],aF),some ([.vec [.int .i64,.int .i64,.int .i64] (.var 7) (.var 0) true],aU+65),some ([.vec [.int .i32] (.var 8) (.var 1) true],aU+27),some ([.any,.any,.any,(.own 0 (.var 0) none),(.int .i64 (.var 2)),.any,.any,(.own 1 (.var 3) none),.any,.any,.any,.any,.any,.any],30),some ([(.own 3 (.var 1) (some (.var 1)))],26),some ([(.int .i64 (.var 4))],3),some ([(.int .i64 (.app 0 (.cons (.lit 0) .nil))),(.int .u64 (.app 1 (.cons (.lit 0) .nil)))],53),some ([.any,.any,.any,(.own 0 (.var 0) none),(.int .i64 (.var 2)),.any,.any,(.own 1 (.var 3) none),.any,.any,.any,.any,.any,.any],30),some ([(.own 2 (.var 0) none)],63),some (([.any,.any,(.ptr 4 0),.any,.any,.any,.any,.any,.any,.any,.any,(.ptr 5 0),(.ptr 6 0),.any,(.ptr 7 0),.any,.any,.any,.any,.any,.any,.any,.any,.any,.any,.any,.any,.any,.any,.any,.any,.any,.any,.any,.any,.any,.any,.any,.any,.any,.any,.any,.any,.any,.any,.any,.any,.any,.any,.any,.any,.any,.any,.any,.any,.any,.any,.any,.any,.any,.any,.any,.any,.any,.any,.any,.any,.any,.any,.any,.any,.any,.any,.any,.any,.any,.any,.any,.any,.any,.any,.any,.any,.any,.any,.any,.any,.any,.any,.any,.any,.any,.any,.any,.any,.any,.any,.any,.any,.any,.any,.any,.any,.any,.any,.any,.any,.any,.any,.any,.any,.any,.any,.any,.any,.any,.any]:List SV)++[cW (-1)],bL+11)],.lit true,(.tuple []),[some ([.vec [.int .i64] (.var 5) (.var 0) true],aF),some ([.vec [.int .u8] (.var 6) (.var 3) true],aF),some ([.vec [.int .i64,.int .i64,.int .i64] (.var 7) (.var 0) true],aU+65),some ([.vec [.int .i32] (.var 8) (.var 1) true],aU+27),some ([.any,.any,.any,(.own 0 (.var 0) none),(.int .i64 (.var 2)),.any,.any,(.own 1 (.var 3) none),.any,.any,.any,.any,.any,.any],30),some ([(.own 3 (.var 1) (some (.var 1)))],26),some ([(.int .i64 (.var 4))],3),some ([(.int .i64 (.app 0 (.cons (.app 76 (.cons (.var 5) (.cons (.var 6) (.cons (.var 3) (.cons (.var 2) (.cons (.var 1) (.cons (.var 7) (.cons (.var 0) (.cons (.var 4) (.cons (.op .shl (.lit 1) (.var 0)) .nil)))))))))) .nil))),(.int .u64 (.app 1 (.cons (.app 76 (.cons (.var 5) (.cons (.var 6) (.cons (.var 3) (.cons (.var 2) (.cons (.var 1) (.cons (.var 7) (.cons (.var 0) (.cons (.var 4) (.cons (.op .shl (.lit 1) (.var 0)) .nil)))))))))) .nil)))],53),some ([.any,.any,.any,(.own 0 (.var 0) none),(.int .i64 (.var 2)),.any,.any,(.own 1 (.var 3) none),.any,.any,.any,.any,.any,.any],30),some ([(.own 2 (.var 0) none)],63),some (([.any,.any,(.ptr 4 0),.any,.any,.any,.any,.any,.any,.any,.any,(.ptr 5 0),(.ptr 6 0),.any,(.ptr 7 0),.any,.any,.any,.any,.any,.any,.any,.any,.any,.any,.any,.any,.any,.any,.any,.any,.any,.any,.any,.any,.any,.any,.any,.any,.any,.any,.any,.any,.any,.any,.any,.any,.any,.any,.any,.any,.any,.any,.any,.any,.any,.any,.any,.any,.any,.any,.any,.any,.any,.any,.any,.any,.any,.any,.any,.any,.any,.any,.any,.any,.any,.any,.any,.any,.any,.any,.any,.any,.any,.any,.any,.any,.any,.any,.any,.any,.any,.any,.any,.any,.any,.any,.any,.any,.any,.any,.any,.any,.any,.any,.any,.any,.any,.any,.any,.any,.any,.any,.any,.any,.any,.any]:List SV)++[cW (-1)],bL+11)],(.tuple []),[some ([.vec [.int .i64] (.var 5) (.var 0) true],aF),some ([.vec [.int .u8] (.var 6) (.var 3) true],aF),some ([.vec [.int .i64,.int .i64,.int .i64] (.var 7) (.var 0) true],aU+65),some ([.vec [.int .i32] (.var 8) (.var 1) true],aU+27),some ([.any,.any,.any,(.own 0 (.var 0) none),(.int .i64 (.var 2)),.any,.any,(.own 1 (.var 3) none),.any,.any,.any,.any,.any,.any],30),some ([(.own 3 (.var 1) (some (.var 1)))],26),some ([(.int .i64 (.var 4))],3),some ([(.int .i64 (.app 0 (.cons (.app 76 (.cons (.var 5) (.cons (.var 6) (.cons (.var 3) (.cons (.var 2) (.cons (.var 1) (.cons (.var 7) (.cons (.var 0) (.cons (.var 4) (.cons (.op .shl (.lit 1) (.var 0)) .nil)))))))))) .nil))),(.int .u64 (.app 1 (.cons (.app 76 (.cons (.var 5) (.cons (.var 6) (.cons (.var 3) (.cons (.var 2) (.cons (.var 1) (.cons (.var 7) (.cons (.var 0) (.cons (.var 4) (.cons (.op .shl (.lit 1) (.var 0)) .nil)))))))))) .nil)))],53),some ([.any,.any,.any,(.own 0 (.var 0) none),(.int .i64 (.var 2)),.any,.any,(.own 1 (.var 3) none),.any,.any,.any,.any,.any,.any],30),some ([(.own 2 (.var 0) none)],63),some (([.any,.any,(.ptr 4 0),.any,.any,.any,.any,.any,.any,.any,.any,(.ptr 5 0),(.ptr 6 0),.any,(.ptr 7 0),.any,.any,.any,.any,.any,.any,.any,.any,.any,.any,.any,.any,.any,.any,.any,.any,.any,.any,.any,.any,.any,.any,.any,.any,.any,.any,.any,.any,.any,.any,.any,.any,.any,.any,.any,.any,.any,.any,.any,.any,.any,.any,.any,.any,.any,.any,.any,.any,.any,.any,.any,.any,.any,.any,.any,.any,.any,.any,.any,.any,.any,.any,.any,.any,.any,.any,.any,.any,.any,.any,.any,.any,.any,.any,.any,.any,.any,.any,.any,.any,.any,.any,.any,.any,.any,.any,.any,.any,.any,.any,.any,.any,.any,.any,.any,.any,.any,.any,.any,.any,.any,.any]:List SV)++[cW (-1)],bL+11)]⟩
def aKS (P:Program) (fs:List B):Res SV:=cA G GI [(1,4),(1,4),(1,16),(0,70000),(0,3)] fs fun X=>gJ P X GB aLx aSQ 4000 51 aTJ
end Go.Proofs.Ytdldallkeheciaa
set_option maxRecDepth 100000
namespace Go.Proofs.Ytdldallkeheciaa
open Go Go.RowKit Sx Wi Lk
def aSB (P:Program) (fs:List B):Res SV:=wX P fs
def aUz:List B:=[]
def aEm:B:=(gdB (.var 7) (.var 9) (.var 0))
def aMe:List B:=aJ aEm++aUz
def zP:B:=(.cmp .lt (.var 5) (.op .shl (.lit 1) (.var 0)))
def aT7:List B:=aJ zP++aMe
def aJF:SV:=(.agg [(.int .i64 (.op .add (.var 5) (.lit 1))),(.int .i64 (.var 5)),(.int .i64 (.var 7)),(.int .i64 (.var 7)),(.int .i64 (.var 8)),(.int .i64 (.var 8)),(.int .i64 (.var 9)),(.int .i64 (.var 9)),(.int .i64 (.var 10)),(.int .i64 (.var 10)),(.int .i64 (.app 0 (.cons (.op .add (.var 6) (.op .mul (.app 77 (.cons (.var 7) (.cons (.var 9) (.cons (.var 5) (.cons (.var 0) .nil))))) (.app 67 (.cons (.var 8) (.cons (.var 3) (.cons (.op .mul (.op .add (.op .mul (.app 78 (.cons (.var 7) (.cons (.var 9) (.cons (.var 5) (.cons (.var 0) .nil))))) (.var 1)) (.var 4)) (.var 2)) (.cons (.var 2) .nil))))))) .nil))),(.int .i64 (.app 0 (.cons (.var 6) .nil))),(.int .i64 (.app 1 (.cons (.op .add (.var 6) (.op .mul (.app 77 (.cons (.var 7) (.cons (.var 9) (.cons (.var 5) (.cons (.var 0) .nil))))) (.app 67 (.cons (.var 8) (.cons (.var 3) (.cons (.op .mul (.op .add (.op .mul (.app 78 (.cons (.var 7) (.cons (.var 9) (.cons (.var 5) (.cons (.var 0) .nil))))) (.var 1)) (.var 4)) (.var 2)) (.cons (.var 2) .nil))))))) .nil))),(.int .i64 (.app 1 (.cons (.var 6) .nil)))])
def aTH:List B:=aJ (B.neg zP)++aMe
def aLJ:SV:=(.tuple [(.agg [(.int .i64 (.var 7)),(.int .i64 (.var 5)),(.int .i64 (.var 8)),(.int .i64 (.var 6)),(.int .i64 (.var 9)),(.int .i64 (.var 7)),(.int .i64 (.var 10)),(.int .i64 (.var 8)),(.int .i64 (.app 0 (.cons (.var 6) .nil))),(.int .i64 (.app 0 (.cons (.app 76 (.cons (.var 5) (.cons (.var 6) (.cons (.var 3) (.cons (.var 2) (.cons (.var 1) (.cons (.var 7) (.cons (.var 0) (.cons (.var 4) (.cons (.op .shl (.lit 1) (.var 0)) .nil)))))))))) .nil))),(.int .i64 (.app 1 (.cons (.var 6) .nil))),(.int .i64 (.app 1 (.cons (.app 76 (.cons (.var 5) (.cons (.var 6) (.cons (.var 3) (.cons (.var 2) (.cons (.var 1) (.cons (.var 7) (.cons (.var 0) (.cons (.var 4) (.cons (.op .shl (.lit 1) (.var 0)) .nil)))))))))) .nil)))]),(.bool (.lit true))])
theorem aUP:aSB Try.prog aT7 = .ok aJF:=by kernel_rfl
theorem aU6:aSB Try.prog aTH = .ok aLJ:=by kernel_rfl
end Go.Proofs.Ytdldallkeheciaa
set_option maxRecDepth 100000
namespace Go.Proofs.Ytdldallkeheciaa
open Go Go.RowKit Sx Wi Lk
def aV0 (P:Program) (fs:List B):Res SV:=aKS P fs
def aSV:List B:=[]
def aBg:B:=(gdB (.var 5) (.var 7) (.var 0))
def aVf:List B:=aJ aBg++aSV
theorem aVz:aV0 Try.prog aVf = .ok (.tuple [(.agg []),(.bool (.lit true))]):=by kernel_rfl
end Go.Proofs.Ytdldallkeheciaa
set_option maxRecDepth 100000
namespace Go.Proofs.Ytdldallkeheciaa
open Go Go.RowKit Sx Wi Lk
def aMm (P:Program) (fs:List B):Res SV:=yZ P fs
def aLW:List B:=[]
def iR:B:=(.cmp .lt (.var 6) (.var 0))
def aTm:List B:=aJ iR++aLW
def aFa:B:=(.cmp .le (.lit 0) (.app 83 (.cons (.var 12) (.cons (.var 6) (.cons (.lit 0) .nil)))))
def aT9:List B:=aJ aFa++aTm
def aEK:B:=(.cmp .le (.app 83 (.cons (.var 12) (.cons (.var 6) (.cons (.lit 0) .nil)))) (.lit 255))
def aUS:List B:=aJ aEK++aT9
def aFk:B:=(.cmp .le (.lit 0) (.app 83 (.cons (.var 12) (.cons (.var 6) (.cons (.lit 1) .nil)))))
def aVd:List B:=aJ aFk++aUS
def aFl:B:=(.cmp .le (.app 83 (.cons (.var 12) (.cons (.var 6) (.cons (.lit 1) .nil)))) (.lit 255))
def aU2:List B:=aJ aFl++aVd
def aE8:B:=(.cmp .le (.lit 0) (.app 83 (.cons (.var 12) (.cons (.var 6) (.cons (.lit 2) .nil)))))
def aVm:List B:=aJ aE8++aU2
def aEr:B:=(.cmp .le (.app 83 (.cons (.var 12) (.cons (.var 6) (.cons (.lit 2) .nil)))) (.lit 65536))
def aT6:List B:=aJ aEr++aVm
def aEW:B:=(.cmp .le (.lit 1) (.app 83 (.cons (.var 10) (.cons (.var 6) (.cons (.lit 0) .nil)))))
def aTO:List B:=aJ aEW++aT6
def aEB:B:=(.cmp .le (.app 83 (.cons (.var 10) (.cons (.var 6) (.cons (.lit 0) .nil)))) (.lit 256))
def aKP:List B:=aJ aEB++aTO
def xJ:B:=(.cmp .eq (.bit .and .i64 (.op .fdiv (.var 5) (.op .shl (.lit 1) (.var 6))) (.lit 1)) (.lit 1))
def aR9:List B:=aJ xJ++aKP
def aI8:SV:=(.agg [(.int .i64 (.op .add (.var 7) (.op .mul (.app 83 (.cons (.var 12) (.cons (.var 6) (.cons (.lit 1) .nil)))) (.var 8)))),(.int .i64 (.var 7)),(.int .i64 (.op .mul (.var 8) (.app 83 (.cons (.var 10) (.cons (.var 6) (.cons (.lit 0) .nil)))))),(.int .i64 (.var 8)),(.int .i64 (.op .add (.var 6) (.lit 1))),(.int .i64 (.var 6)),(.int .i64 (.var 10)),(.int .i64 (.var 10)),(.int .i64 (.var 11)),(.int .i64 (.var 11)),(.int .i64 (.var 12)),(.int .i64 (.var 12)),(.int .i64 (.var 13)),(.int .i64 (.var 13)),(.int .i64 (.app 0 (.cons (.var 14) .nil))),(.int .i64 (.app 0 (.cons (.var 14) .nil))),(.int .i64 (.app 1 (.cons (.var 14) .nil))),(.int .i64 (.app 1 (.cons (.var 14) .nil))),(.int .i64 (.app 0 (.cons (.op .mul (.var 9) (.app 83 (.cons (.var 12) (.cons (.var 6) (.cons (.lit 2) .nil))))) .nil))),(.int .i64 (.app 0 (.cons (.var 9) .nil))),(.int .i64 (.app 1 (.cons (.op .mul (.var 9) (.app 83 (.cons (.var 12) (.cons (.var 6) (.cons (.lit 2) .nil))))) .nil))),(.int .i64 (.app 1 (.cons (.var 9) .nil)))])
def aPo:List B:=aJ (B.neg xJ)++aKP
def aMO:SV:=(.agg [(.int .i64 (.op .add (.var 7) (.op .mul (.app 83 (.cons (.var 12) (.cons (.var 6) (.cons (.lit 0) .nil)))) (.var 8)))),(.int .i64 (.var 7)),(.int .i64 (.op .mul (.var 8) (.app 83 (.cons (.var 10) (.cons (.var 6) (.cons (.lit 0) .nil)))))),(.int .i64 (.var 8)),(.int .i64 (.op .add (.var 6) (.lit 1))),(.int .i64 (.var 6)),(.int .i64 (.var 10)),(.int .i64 (.var 10)),(.int .i64 (.var 11)),(.int .i64 (.var 11)),(.int .i64 (.var 12)),(.int .i64 (.var 12)),(.int .i64 (.var 13)),(.int .i64 (.var 13)),(.int .i64 (.app 0 (.cons (.var 14) .nil))),(.int .i64 (.app 0 (.cons (.var 14) .nil))),(.int .i64 (.app 1 (.cons (.var 14) .nil))),(.int .i64 (.app 1 (.cons (.var 14) .nil))),(.int .i64 (.app 0 (.cons (.op .mul (.var 9) (.op .sub (.lit 65536) (.app 83 (.cons (.var 12) (.cons (.var 6) (.cons (.lit 2) .nil)))))) .nil))),(.int .i64 (.app 0 (.cons (.var 9) .nil))),(.int .i64 (.app 1 (.cons (.op .mul (.var 9) (.op .sub (.lit 65536) (.app 83 (.cons (.var 12) (.cons (.var 6) (.cons (.lit 2) .nil)))))) .nil))),(.int .i64 (.app 1 (.cons (.var 9) .nil)))])
def aO4:List B:=aJ (B.neg iR)++aLW
def aLL:SV:=(.tuple [(.agg [(.int .i64 (.var 7)),(.int .i64 (.app 78 (.cons (.var 7) (.cons (.var 9) (.cons (.var 5) (.cons (.var 0) .nil)))))),(.int .i64 (.var 10)),(.int .i64 (.var 7)),(.int .i64 (.var 11)),(.int .i64 (.var 8)),(.int .i64 (.var 12)),(.int .i64 (.var 9)),(.int .i64 (.var 13)),(.int .i64 (.var 10)),(.int .i64 (.app 0 (.cons (.var 14) .nil))),(.int .i64 (.app 0 (.cons (.var 6) .nil))),(.int .i64 (.app 1 (.cons (.var 14) .nil))),(.int .i64 (.app 1 (.cons (.var 6) .nil))),(.int .i64 (.app 0 (.cons (.var 9) .nil))),(.int .i64 (.app 0 (.cons (.app 77 (.cons (.var 7) (.cons (.var 9) (.cons (.var 5) (.cons (.var 0) .nil))))) .nil))),(.int .i64 (.app 1 (.cons (.var 9) .nil))),(.int .i64 (.app 1 (.cons (.app 77 (.cons (.var 7) (.cons (.var 9) (.cons (.var 5) (.cons (.var 0) .nil))))) .nil)))]),(.bool (.lit true))])
theorem aO0:aMm Try.prog aR9 = .ok aI8:=by kernel_rfl
theorem aQo:aMm Try.prog aPo = .ok aMO:=by kernel_rfl
theorem aQr:aMm Try.prog aO4 = .ok aLL:=by kernel_rfl
end Go.Proofs.Ytdldallkeheciaa
namespace Go.Proofs.Ytdldallkeheciaa
open Go Go.RowKit Sx Wi Lk
def dZ (x0 x1 x2 x3 x4 l0 l1 l2 l3 sm:Int) (t i:Nat):Nat→Int:=cQ ([x0,x1,x2,x3,x4,(t:Int),(i:Int),G 78 [l0,l2,(t:Int),(i:Int)],G 79 [l0,l2,(i:Int)],G 77 [l0,l2,(t:Int),(i:Int)]]++[l0,l1,l2,l3,sm])
theorem aOH (x0 x1 x2 x3 x4 l0 l1 l2 l3 sm:Int) (b0:1≤x0∧x0≤4) (b1:1≤x1∧x1≤4) (b2:1≤x2∧x2≤16) (b3:0≤x3∧x3≤70000) (b4:0≤x4∧x4≤3) (t:Nat) (ht:t≤15) (i:Nat) (hi:(i:Int)≤x0):∀ k q,aA4[k]?=some q→q.1≤dZ x0 x1 x2 x3 x4 l0 l1 l2 l3 sm t i k∧dZ x0 x1 x2 x3 x4 l0 l1 l2 l3 sm t i k≤q.2:=by
 unfold dZ aA4
 exact bP (xs:=[x0,x1,x2,x3,x4,(t:Int),(i:Int),G 78 [l0,l2,(t:Int),(i:Int)],G 79 [l0,l2,(i:Int)],G 77 [l0,l2,(t:Int),(i:Int)]]) (by exact⟨b0,b1,b2,b3,b4,by omega,by omega,aHf [l0,l2,(t:Int),(i:Int)],aF9 [l0,l2,(i:Int)],aG3 [l0,l2,(t:Int),(i:Int)],trivial⟩)
set_option maxHeartbeats 4000000 in
set_option maxRecDepth 100000 in
theorem aTB (x0 x1 x2 x3 x4 l0 l1 l2 l3 sm:Int) (b0:1≤x0∧x0≤4) (b1:1≤x1∧x1≤4) (b2:1≤x2∧x2≤16) (b3:0≤x3∧x3≤70000) (b4:0≤x4∧x4≤3) (hr:eK l0 l2 x0) (t:Nat) (ht:t≤15) (i:Nat) (hi:(i:Int)≤x0):Sx.Way (yZ Try.prog) G (dZ x0 x1 x2 x3 x4 l0 l1 l2 l3 sm t i) (cM G (dZ x0 x1 x2 x3 x4 l0 l1 l2 l3 sm t) (cQ ([x0,x1,x2,x3,x4,(t:Int),sm]++[l0,l1,l2,l3])) 6 (.lit true) (fun i=>(i:Int)≤x0) (fun i=>x0.toNat-i) i) []:=by
 refine aG iR (fun h0=>?_) (fun h0=>?_)
 rotate_left
 ·skip
  refine aH aQr ?_
  unfold iR at h0;unfold aLL;simp only[nn,dZ,List.cons_append,List.nil_append,Bool.or_eq_true,aP,ne_eq]at h0;have he:(i:Int)=x0:=(by omega);clear h0;simp only[cM];refine⟨rfl,(fun k hk=>by (match k,hk with|0,_=>rfl|1,_=>rfl|2,_=>rfl|3,_=>rfl|4,_=>rfl|5,_=>rfl)),?_⟩;simp only[aI];simp only[nn,dZ,List.cons_append,List.nil_append,Bool.or_eq_true,aP,ne_eq];rw[he];(repeat' refine And.intro ?_ ?_)<;>first|with_reducible rfl|trivial
 refine aG aFa (fun h1=>?_) (fun h1=>?_)
 rotate_left
 ·skip
  refine aQ ?_
  unfold iR at h0;unfold aFa at h1;exfalso;have z:=h0;have z1:=h1;clear h0 h1;simp only[nn,dZ,List.cons_append,List.nil_append,Bool.or_eq_true,aP,ne_eq]at z z1;obtain⟨⟨q0,q1⟩,⟨q2,q3⟩,⟨q4,q5⟩,q6,q7⟩:=hr i z;clear hr;generalize G 83 [l2,(i:Int),0]=c0 at *;generalize G 83 [l2,(i:Int),1]=c1 at *;generalize G 83 [l2,(i:Int),2]=c2 at *;generalize G 83 [l0,(i:Int),0]=c3 at *;omega
 refine aG aEK (fun h2=>?_) (fun h2=>?_)
 rotate_left
 ·skip
  refine aQ ?_
  unfold iR at h0;unfold aEK at h2;exfalso;have z:=h0;have z1:=h2;clear h0 h1 h2;simp only[nn,dZ,List.cons_append,List.nil_append,Bool.or_eq_true,aP,ne_eq]at z z1;obtain⟨⟨q0,q1⟩,⟨q2,q3⟩,⟨q4,q5⟩,q6,q7⟩:=hr i z;clear hr;generalize G 83 [l2,(i:Int),0]=c0 at *;generalize G 83 [l2,(i:Int),1]=c1 at *;generalize G 83 [l2,(i:Int),2]=c2 at *;generalize G 83 [l0,(i:Int),0]=c3 at *;omega
 refine aG aFk (fun h3=>?_) (fun h3=>?_)
 rotate_left
 ·skip
  refine aQ ?_
  unfold iR at h0;unfold aFk at h3;exfalso;have z:=h0;have z1:=h3;clear h0 h1 h2 h3;simp only[nn,dZ,List.cons_append,List.nil_append,Bool.or_eq_true,aP,ne_eq]at z z1;obtain⟨⟨q0,q1⟩,⟨q2,q3⟩,⟨q4,q5⟩,q6,q7⟩:=hr i z;clear hr;generalize G 83 [l2,(i:Int),0]=c0 at *;generalize G 83 [l2,(i:Int),1]=c1 at *;generalize G 83 [l2,(i:Int),2]=c2 at *;generalize G 83 [l0,(i:Int),0]=c3 at *;omega
 refine aG aFl (fun h4=>?_) (fun h4=>?_)
 rotate_left
 ·skip
  refine aQ ?_
  unfold iR at h0;unfold aFl at h4;exfalso;have z:=h0;have z1:=h4;clear h0 h1 h2 h3 h4;simp only[nn,dZ,List.cons_append,List.nil_append,Bool.or_eq_true,aP,ne_eq]at z z1;obtain⟨⟨q0,q1⟩,⟨q2,q3⟩,⟨q4,q5⟩,q6,q7⟩:=hr i z;clear hr;generalize G 83 [l2,(i:Int),0]=c0 at *;generalize G 83 [l2,(i:Int),1]=c1 at *;generalize G 83 [l2,(i:Int),2]=c2 at *;generalize G 83 [l0,(i:Int),0]=c3 at *;omega
 refine aG aE8 (fun h5=>?_) (fun h5=>?_)
 rotate_left
 ·skip
  refine aQ ?_
  unfold iR at h0;unfold aE8 at h5;exfalso;have z:=h0;have z1:=h5;clear h0 h1 h2 h3 h4 h5;simp only[nn,dZ,List.cons_append,List.nil_append,Bool.or_eq_true,aP,ne_eq]at z z1;obtain⟨⟨q0,q1⟩,⟨q2,q3⟩,⟨q4,q5⟩,q6,q7⟩:=hr i z;clear hr;generalize G 83 [l2,(i:Int),0]=c0 at *;generalize G 83 [l2,(i:Int),1]=c1 at *;generalize G 83 [l2,(i:Int),2]=c2 at *;generalize G 83 [l0,(i:Int),0]=c3 at *;omega
 refine aG aEr (fun h6=>?_) (fun h6=>?_)
 rotate_left
 ·skip
  refine aQ ?_
  unfold iR at h0;unfold aEr at h6;exfalso;have z:=h0;have z1:=h6;clear h0 h1 h2 h3 h4 h5 h6;simp only[nn,dZ,List.cons_append,List.nil_append,Bool.or_eq_true,aP,ne_eq]at z z1;obtain⟨⟨q0,q1⟩,⟨q2,q3⟩,⟨q4,q5⟩,q6,q7⟩:=hr i z;clear hr;generalize G 83 [l2,(i:Int),0]=c0 at *;generalize G 83 [l2,(i:Int),1]=c1 at *;generalize G 83 [l2,(i:Int),2]=c2 at *;generalize G 83 [l0,(i:Int),0]=c3 at *;omega
 refine aG aEW (fun h7=>?_) (fun h7=>?_)
 rotate_left
 ·skip
  refine aQ ?_
  unfold iR at h0;unfold aEW at h7;exfalso;have z:=h0;have z1:=h7;clear h0 h1 h2 h3 h4 h5 h6 h7;simp only[nn,dZ,List.cons_append,List.nil_append,Bool.or_eq_true,aP,ne_eq]at z z1;obtain⟨⟨q0,q1⟩,⟨q2,q3⟩,⟨q4,q5⟩,q6,q7⟩:=hr i z;clear hr;generalize G 83 [l2,(i:Int),0]=c0 at *;generalize G 83 [l2,(i:Int),1]=c1 at *;generalize G 83 [l2,(i:Int),2]=c2 at *;generalize G 83 [l0,(i:Int),0]=c3 at *;omega
 refine aG aEB (fun h8=>?_) (fun h8=>?_)
 rotate_left
 ·skip
  refine aQ ?_
  unfold iR at h0;unfold aEB at h8;exfalso;have z:=h0;have z1:=h8;clear h0 h1 h2 h3 h4 h5 h6 h7 h8;simp only[nn,dZ,List.cons_append,List.nil_append,Bool.or_eq_true,aP,ne_eq]at z z1;obtain⟨⟨q0,q1⟩,⟨q2,q3⟩,⟨q4,q5⟩,q6,q7⟩:=hr i z;clear hr;generalize G 83 [l2,(i:Int),0]=c0 at *;generalize G 83 [l2,(i:Int),1]=c1 at *;generalize G 83 [l2,(i:Int),2]=c2 at *;generalize G 83 [l0,(i:Int),0]=c3 at *;omega
 refine aG xJ (fun h9=>?_) (fun h9=>?_)
 ·skip
  refine aH aO0 ?_
  unfold iR at h0;unfold xJ at h9;unfold aI8;simp only[nn,dZ,List.cons_append,List.nil_append,Bool.or_eq_true,aP,ne_eq]at h0 h9;have hm:x0.toNat-(i+1)<x0.toNat-i:=(by clear h1 h2 h3 h4 h5 h6 h7 h8 h9;omega);have hg:((i+1:Nat):Int)≤x0:=(by clear h1 h2 h3 h4 h5 h6 h7 h8 h9;omega);have key:=aU0 hr b0.2 h0 h9;clear h0 h1 h2 h3 h4 h5 h6 h7 h8 h9;simp only[cM];refine⟨i+1,hg,hm,(fun k hk=>by (match k,hk with|0,_=>rfl|1,_=>rfl|2,_=>rfl|3,_=>rfl|4,_=>rfl|5,_=>rfl)),?_⟩;simp only[aI];obtain⟨k1,k2,k3⟩:=key;simp only[nn,dZ,List.cons_append,List.nil_append,Bool.or_eq_true,aP,ne_eq];rw[k1,k2,k3];(repeat' refine And.intro ?_ ?_)<;>first|with_reducible rfl|trivial|omega
 refine aH aQo ?_
 unfold iR at h0;unfold xJ at h9;unfold aMO;simp only[nn,dZ,List.cons_append,List.nil_append,Bool.or_eq_true,aP,ne_eq]at h0 h9;have hm:x0.toNat-(i+1)<x0.toNat-i:=(by clear h1 h2 h3 h4 h5 h6 h7 h8 h9;omega);have hg:((i+1:Nat):Int)≤x0:=(by clear h1 h2 h3 h4 h5 h6 h7 h8 h9;omega);have key:=aV4 hr b0.2 h0 h9;clear h0 h1 h2 h3 h4 h5 h6 h7 h8 h9;simp only[cM];refine⟨i+1,hg,hm,(fun k hk=>by (match k,hk with|0,_=>rfl|1,_=>rfl|2,_=>rfl|3,_=>rfl|4,_=>rfl|5,_=>rfl)),?_⟩;simp only[aI];obtain⟨k1,k2,k3⟩:=key;simp only[nn,dZ,List.cons_append,List.nil_append,Bool.or_eq_true,aP,ne_eq];rw[k1,k2,k3];(repeat' refine And.intro ?_ ?_)<;>first|with_reducible rfl|trivial|omega
def fY (x0 x1 x2 x3 x4 l0 l1 l2 l3:Int) (t:Nat):Nat→Int:=cQ ([x0,x1,x2,x3,x4,(t:Int),G 76 [l0,l1,x3,x2,x1,l2,x0,x4,(t:Int)]]++[l0,l1,l2,l3])
theorem aM9 (x0 x1 x2 x3 x4 l0 l1 l2 l3:Int) (b0:1≤x0∧x0≤4) (b1:1≤x1∧x1≤4) (b2:1≤x2∧x2≤16) (b3:0≤x3∧x3≤70000) (b4:0≤x4∧x4≤3) (t:Nat) (ht:(t:Int)≤1*2 ^ x0.toNat):∀ k q,aHt[k]?=some q→q.1≤fY x0 x1 x2 x3 x4 l0 l1 l2 l3 t k∧fY x0 x1 x2 x3 x4 l0 l1 l2 l3 t k≤q.2:=by
 have h16:=aKG (m:=x0) ⟨by omega,b0.2⟩
 unfold fY aHt
 exact bP (xs:=[x0,x1,x2,x3,x4,(t:Int),G 76 [l0,l1,x3,x2,x1,l2,x0,x4,(t:Int)]]) (by exact⟨b0,b1,b2,b3,b4,by omega,aHC [l0,l1,x3,x2,x1,l2,x0,x4,(t:Int)],trivial⟩)
set_option maxRecDepth 100000 in
theorem aVj (x0 x1 x2 x3 x4 l0 l1 l2 l3:Int) (b0:1≤x0∧x0≤4) (b1:1≤x1∧x1≤4) (b2:1≤x2∧x2≤16) (b3:0≤x3∧x3≤70000) (b4:0≤x4∧x4≤3) (t:Nat):gE Try.prog G (bN GB) (cN (bV Try.prog 51) 1) aUX (fY x0 x1 x2 x3 x4 l0 l1 l2 l3 t):=by
 intro hw hpre
 have hb:eJ aA4 [x0,x1,x2,x3,x4,(t:Int),0,0,1,1]:=hw
 unfold aA4 at hb
 obtain⟨_,_,_,_,_,⟨_,ht⟩,_⟩:=hb
 have e:gC G (fY x0 x1 x2 x3 x4 l0 l1 l2 l3 t) aUX.es=dZ x0 x1 x2 x3 x4 l0 l1 l2 l3 (G 76 [l0,l1,x3,x2,x1,l2,x0,x4,(t:Int)]) t 0:=by
  rw[eG]
  unfold dZ
  obtain⟨c1,c2,c3⟩:=aMT (S:=l0) (L:=l2) (t:=t)
  rw[show ((0:Nat):Int)=0 from rfl,c1,c2,c3]
  rfl
 have hr:eK l0 l2 x0:=by
  rw[e]at hpre
  exact(tI (S := .var 10) (L := .var 12) (m := .var 0) (ρ:=dZ x0 x1 x2 x3 x4 l0 l1 l2 l3 (G 76 [l0,l1,x3,x2,x1,l2,x0,x4,(t:Int)]) t 0) b0.2).1 hpre
 rw[e]
 exact⟨x0.toNat+1,gB (ι:=Nat) (ρ:=dZ x0 x1 x2 x3 x4 l0 l1 l2 l3 (G 76 [l0,l1,x3,x2,x1,l2,x0,x4,(t:Int)]) t) (ρT:=fY x0 x1 x2 x3 x4 l0 l1 l2 l3 t) (m:=fun i=>x0.toNat-i) (Good:=fun i=>(i:Int)≤x0) (run:=yZ Try.prog) (fun _=>rfl) fits rfl eU (fun i hi=>aOH x0 x1 x2 x3 x4 l0 l1 l2 l3 _ b0 b1 b2 b3 b4 t (by omega) i hi) (fun _ _ X hX hG=>dA hX hG) (fun _ _ X hX hG=>cF) (fun i hi=>aTB x0 x1 x2 x3 x4 l0 l1 l2 l3 _ b0 b1 b2 b3 b4 hr t (by omega) i hi) (by decide) _ 0 (by show ((0:Nat):Int)≤x0;omega) (by show x0.toNat-0<x0.toNat+1;omega)⟩
set_option maxHeartbeats 4000000 in
set_option maxRecDepth 100000 in
theorem aTv (x0 x1 x2 x3 x4 l0 l1 l2 l3:Int) (b0:1≤x0∧x0≤4) (b1:1≤x1∧x1≤4) (b2:1≤x2∧x2≤16) (b3:0≤x3∧x3≤70000) (b4:0≤x4∧x4≤3) (hr:eK l0 l2 x0) (t:Nat) (ht:(t:Int)≤1*2 ^ x0.toNat):Sx.Way (wX Try.prog) G (fY x0 x1 x2 x3 x4 l0 l1 l2 l3 t) (cM G (fY x0 x1 x2 x3 x4 l0 l1 l2 l3) (cQ ([x0,x1,x2,x3,x4]++[l0,l1,l2,l3])) 5 (.lit true) (fun t=>(t:Int)≤1*2 ^ x0.toNat) (fun t=>((1:Int)*2 ^ x0.toNat).toNat-t) t) []:=by
 refine aG aEm (fun h0=>?_) (fun h0=>?_)
 rotate_left
 ·skip
  refine aQ ?_
  unfold aEm at h0;exfalso;have z:B.den G (fY x0 x1 x2 x3 x4 l0 l1 l2 l3 t) (gdB (.var 7) (.var 9) (.var 0))=true:=(tI (S := .var 7) (L := .var 9) (m := .var 0) (ρ:=fY x0 x1 x2 x3 x4 l0 l1 l2 l3 t) b0.2).2 hr;rw[h0]at z;cases z
 refine aG zP (fun h1=>?_) (fun h1=>?_)
 ·skip
  refine aH aUP ?_
  unfold zP at h1;unfold aJF;clear h0;simp only[nn,fY,List.cons_append,List.nil_append,Bool.or_eq_true,aP,ne_eq]at h1;have key:=aJg (B:=l1) (nB:=x3) (bits:=x2) (nR:=x1) (j:=x4) hr ⟨by omega,b0.2⟩ h1;have hm:((1:Int)*2 ^ x0.toNat).toNat-(t+1)<((1:Int)*2 ^ x0.toNat).toNat-t:=(by omega);have hg:((t+1:Nat):Int)≤1*2 ^ x0.toNat:=(by omega);clear h1;simp only[cM];refine⟨t+1,hg,hm,(fun k hk=>by (match k,hk with|0,_=>rfl|1,_=>rfl|2,_=>rfl|3,_=>rfl|4,_=>rfl)),?_⟩;simp only[aI];simp only[nn,fY,List.cons_append,List.nil_append,Bool.or_eq_true,aP,ne_eq];rw[key];(repeat' refine And.intro ?_ ?_)<;>first|with_reducible rfl|trivial|omega
 refine aH aU6 ?_
 unfold zP at h1;unfold aLJ;clear h0;simp only[nn,fY,List.cons_append,List.nil_append,Bool.or_eq_true,aP,ne_eq]at h1;have he:(t:Int)=1*2 ^ x0.toNat:=(by omega);clear h1;simp only[cM];refine⟨rfl,(fun k hk=>by (match k,hk with|0,_=>rfl|1,_=>rfl|2,_=>rfl|3,_=>rfl|4,_=>rfl)),?_⟩;simp only[aI];simp only[nn,fY,List.cons_append,List.nil_append,Bool.or_eq_true,aP,ne_eq];rw[he];(repeat' refine And.intro ?_ ?_)<;>first|with_reducible rfl|trivial
theorem aLY:bI (bV Try.prog 51)=[cN (bV Try.prog 51) 0,cN (bV Try.prog 51) 1]:=by kernel_rfl
theorem aIu:bI (cN (bV Try.prog 51) 0)=[cN (bV Try.prog 51) 1]:=by kernel_rfl
set_option maxRecDepth 100000 in
theorem aS8 (x0 x1 x2 x3 x4 l0 l1 l2 l3:Int) (b0:1≤x0∧x0≤4) (b1:1≤x1∧x1≤4) (b2:1≤x2∧x2≤16) (b3:0≤x3∧x3≤70000) (b4:0≤x4∧x4≤3) (hr:eK l0 l2 x0):gE Try.prog G (bN GB) (cN (bV Try.prog 51) 0) aTn (cQ ([x0,x1,x2,x3,x4]++[l0,l1,l2,l3])):=by
 intro hw _
 have e:gC G (cQ ([x0,x1,x2,x3,x4]++[l0,l1,l2,l3])) aTn.es=fY x0 x1 x2 x3 x4 l0 l1 l2 l3 0:=by
  rw[eG]
  unfold fY
  rw[show ((0:Nat):Int)=0 from rfl,←aJd]
  rfl
 rw[e]
 have hp2:(1:Int)≤1*2 ^ x0.toNat:=by have:(0:Int)<2 ^ x0.toNat:=Int.pow_pos (by decide);omega
 exact⟨((1:Int)*2 ^ x0.toNat).toNat+1,gB (ι:=Nat) (ρ:=fY x0 x1 x2 x3 x4 l0 l1 l2 l3) (ρT:=(cQ ([x0,x1,x2,x3,x4]++[l0,l1,l2,l3]))) (m:=fun t=>((1:Int)*2 ^ x0.toNat).toNat-t) (Good:=fun t=>(t:Int)≤1*2 ^ x0.toNat) (run:=wX Try.prog) (fun _=>rfl) fits rfl eU (fun t ht=>aM9 x0 x1 x2 x3 x4 l0 l1 l2 l3 b0 b1 b2 b3 b4 t ht) (fun _ _ X hX hG=>aD2 hX hG) (fun t ht X hX hG=>by
  refine kS (bs:=[cN (bV Try.prog 51) 1]) aIu ?_
  intro b hb
  simp only[List.mem_cons,List.mem_nil_iff,or_false]at hb
  subst hb
  refine iX hX hG (by kernel_rfl) ?_
  intro p hp'
  simp only[List.mem_cons,List.mem_nil_iff,or_false]at hp'
  subst hp'
  exact aVj x0 x1 x2 x3 x4 l0 l1 l2 l3 b0 b1 b2 b3 b4 t) (fun t ht=>aTv x0 x1 x2 x3 x4 l0 l1 l2 l3 b0 b1 b2 b3 b4 hr t ht) (by decide) _ 0 (by show ((0:Nat):Int)≤1*2 ^ x0.toNat;omega) (by show ((1:Int)*2 ^ x0.toNat).toNat-0<((1:Int)*2 ^ x0.toNat).toNat+1;omega)⟩
set_option maxHeartbeats 4000000 in
set_option maxRecDepth 100000 in
theorem aUv (x0 x1 x2 x3 x4 l0 l1 l2 l3:Int) (b0:1≤x0∧x0≤4) (b1:1≤x1∧x1≤4) (b2:1≤x2∧x2≤16) (b3:0≤x3∧x3≤70000) (b4:0≤x4∧x4≤3) (hp:aFj.den G (cQ ([x0,x1,x2,x3,x4]++[l0,l1,l2,l3]))=true):fX Try.prog G GB 51 aTJ (cQ ([x0,x1,x2,x3,x4]++[l0,l1,l2,l3])):=by
 have hr:eK l0 l2 x0:=(tI (S := .var 5) (L := .var 7) (m := .var 0) (ρ:=(cQ ([x0,x1,x2,x3,x4]++[l0,l1,l2,l3]))) b0.2).1 hp
 refine cY (lp:=aSQ) (run:=aKS Try.prog) (fun _=>rfl) fits (bP (xs:=[x0,x1,x2,x3,x4]) (ls:=[l0,l1,l2,l3]) (by exact⟨b0,b1,b2,b3,b4,trivial⟩)) eU (fun X hX hG=>aD2 hX hG) (fun X hX hG fn c hf hc=>?_) rfl ?_
 ·refine kS ((congrArg bI (nG hf hc)).symm.trans aLY) ?_
  intro b hb
  simp only[List.mem_cons,List.mem_nil_iff,or_false]at hb
  rcases hb with rfl|rfl
  ·refine iX hX hG (by kernel_rfl) ?_
   intro p hp'
   simp only[List.mem_cons,List.mem_nil_iff,or_false]at hp'
   subst hp'
   exact aS8 x0 x1 x2 x3 x4 l0 l1 l2 l3 b0 b1 b2 b3 b4 hr
  ·exact qO (j:=5) (by kernel_rfl) (by decide) aJ7
 ·skip
  refine aG aBg (fun h0=>?_) (fun h0=>?_)
  ·skip
   refine aH aVz ?_
   unfold aBg at h0;exact⟨rfl,trivial⟩
  refine aQ ?_
  unfold aBg at h0;exfalso;unfold aFj at hp;exact absurd (h0.symm.trans hp) (by decide)
def aDL:Ctx→List SV→aM→Res (SV × aM):=dW GB [(1,4),(1,4),(1,16),(0,70000),(0,3)] 4 aFj aTJ
theorem aVU {X:Ctx} {ρ:Nat→Int} (hX:X.Ok ρ) (hG:X.G=G):eV Try.prog X ρ GB 51 aDL:=by
 obtain⟨XG,XI,XV,XF⟩:=X
 simp only at hG
 subst hG
 refine cU hX ?_
 intro xs ls hw hl hp
 obtain⟨x0,y0,e0,b0,h0⟩:=aY hw
 obtain⟨x1,y1,e1,b1,h1⟩:=aY h0
 obtain⟨x2,y2,e2,b2,h2⟩:=aY h1
 obtain⟨x3,y3,e3,b3,h3⟩:=aY h2
 obtain⟨x4,y4,e4,b4,h4⟩:=aY h3
 have e5:=jJ h4
 subst e5 e4 e3 e2 e1 e0
 obtain⟨l0,z0,q0,hl0⟩:=bJ hl
 obtain⟨l1,z1,q1,hl1⟩:=bJ hl0
 obtain⟨l2,z2,q2,hl2⟩:=bJ hl1
 obtain⟨l3,z3,q3,hl3⟩:=bJ hl2
 have q4:=List.length_eq_zero_iff.1 hl3
 subst q4 q3 q2 q1 q0
 exact aUv x0 x1 x2 x3 x4 l0 l1 l2 l3 b0 b1 b2 b3 b4 hp
def xT:bA:=fQ 51 aDL aSE
theorem lK {X:Ctx} {ρ:Nat→Int} (hX:X.Ok ρ) (hG:X.G=G):fF Try.prog X ρ GB xT:=dN (aVU hX hG) (aMa hX hG)
def aWu:St:=⟨[.any,.any,(.ptr 7 0),.any,(.con (.slice none 0 0)),(.int .i64 (.lit 0)),(.int .i64 (.lit 0)),(.own 8 (.var 8) (some (.var 8))),.any,.any,.any,.any,.any,.any,.any,.any,.any,.any,.any,.any,.any,.any,.any,.any,.any,.any,.any,.any,.any,.any,.any,.any,.any,(.own 6 (.var 8) none),(.int .i64 (.var 8)),(.int .i64 (.var 9)),.any,.any,.any,.any,.any,.any,.any,.any,.any,.any,.any,.any,.any,.any,.any,.any,.any,.any,.any,.any,.any,.any,.any,.any,.any,.any,.any,.any,.any,.any,.any,.any,.any,.any,.any,.any,.any,.any,.any,.any,.any,.any,.any,.any,.any,.any,.any,.any,.any,.any,.any,.any,.any,.any,.any,.any,.any,.any,.any,.any,.any,.any,.any,.any,.any,.any,.any,.any,.any,.any,.any,.any,.any,.any,.any,.any,.any,.any,.any,.any,.any],[some ([.vec [.int .i32,.int .i32] (.var 10) (.var 1) true],aF),some ([.vec [.int .i32,.int .i32] (.var 11) (.var 2) true],aF),some ([.vec [.int .i64] (.var 12) (.var 3) true],aF),some ([.vec [.int .i32,.int .i32] (.var 13) (.var 5) true],aF),some ([.vec [.int .i32,.int .i32] (.var 14) (.var 6) true],aF),some ([.vec [.int .u8] (.var 15) (.var 7) true],aF),some ([.vec [.int .i32] (.var 16) (.var 8) true],aF),some ([.any,(.own 0 (.var 1) none),(.own 1 (.var 2) none),(.own 2 (.var 3) none),(.int .i64 (.var 4)),(.own 3 (.var 5) none),(.own 4 (.var 6) none),(.own 5 (.var 7) none),.any,.any,.any,.any,.any,.any],30),some ([.vec [.int .i64,.int .i64,.int .i64] (.var 17) (.var 8) true],aU+65)]⟩
def aVW:St:=⟨[.any,.any,(.ptr 7 0),.any,(.con (.slice none 0 0)),(.int .i64 (.lit 0)),(.int .i64 (.lit 0)),(.own 8 (.var 8) (some (.var 8))),.any,.any,.any,.any,.any,.any,.any,.any,.any,.any,.any,.any,.any,.any,.any,.any,.any,.any,.any,.any,.any,.any,.any,.any,.any,.any,.any,.any,.any,.any,.any,.any,.any,.any,.any,.any,.any,.any,.any,.any,.any,.any,.any,.any,.any,.any,.any,.any,.any,.any,.any,.any,.any,.any,.any,.any,.any,.any,.any,.any,.any,.any,.any,.any,.any,.any,.any,.any,.any,.any,.any,.any,.any,.any,.any,.any,.any,.any,.any,.any,.any,.any,.any,.any,.any,.any,.any,.any,.any,.any,.any,.any,.any,.any,.any,.any,.any,.any,.any,.any,.any,.any,.any,.any,.any,.any,.any,.any,.any],[some ([.vec [.int .i32,.int .i32] (.var 9) (.var 1) true],aF),some ([.vec [.int .i32,.int .i32] (.var 10) (.var 2) true],aF),some ([.vec [.int .i64] (.var 11) (.var 3) true],aF),some ([.vec [.int .i32,.int .i32] (.var 12) (.var 5) true],aF),some ([.vec [.int .i32,.int .i32] (.var 13) (.var 6) true],aF),some ([.vec [.int .u8] (.var 14) (.var 7) true],aF),some ([.vec [.int .i32] (.var 15) (.var 8) true],aF),some ([.any,(.own 0 (.var 1) none),(.own 1 (.var 2) none),(.own 2 (.var 3) none),(.int .i64 (.var 4)),(.own 3 (.var 5) none),(.own 4 (.var 6) none),(.own 5 (.var 7) none),.any,.any,.any,.any,.any,.any],30),some ([.vec [.int .i64,.int .i64,.int .i64] (.app 65 (.cons (.var 9) (.cons (.var 11) (.cons (.var 12) (.cons (.var 5) (.cons (.var 15) (.cons (.var 8) (.cons (.var 8) .nil)))))))) (.var 8) true],aU+65)]⟩
def aUl:LoopS:=⟨9,9,aWu,.lit true,.exit 0,aVW,.exit 0,aVW⟩
def tH:List (Int × Int):=[(0,255),(1,4),(1,4),(1,4),(1,16),(0,8),(0,8),(0,70000),(1,4),(0,4)]
def sQ (P:Program) (fs:List B):Res SV:=cA G GI tH fs fun X=>pP P X GB xT dO 4000 11 (cN (bV P 11) 0) aUl
def aV5:St:=⟨[.any,.any,(.ptr 7 0),.any,.any,.any,.any,(.own 8 (.var 8) (some (.var 8))),.any,.any,(.own 1 (.var 2) none),(.ptr 10 0),.any,.any,.any,.any,.any,.any,.any,.any,.any,.any,.any,.any,.any,.any,.any,.any,.any,.any,.any,.any,.any,.any,.any,.any,.any,.any,.any,.any,.any,.any,.any,.any,.any,.any,.any,.any,.any,.any,.any,.any,.any,.any,.any,.any,.any,.any,.any,.any,(.own 1 (.var 2) none),(.int .i64 (.var 2)),(.int .i64 (.var 9)),.any,.any,.any,.any,.any,.any,.any,.any,.any,.any,.any,.any,.any,.any,.any,.any,.any,.any,.any,.any,.any,.any,.any,.any,.any,.any,.any,.any,.any,.any,.any,.any,.any,.any,.any,.any,.any,.any,.any,.any,.any,.any,.any,.any,.any,.any,.any,.any,.any,.any,.any,.any,.any,.any],[some ([.vec [.int .i32,.int .i32] (.var 10) (.var 1) true],aF),some ([.vec [.int .i32,.int .i32] (.var 11) (.var 2) true],aF),some ([.vec [.int .i64] (.var 12) (.var 3) true],aF),some ([.vec [.int .i32,.int .i32] (.var 13) (.var 5) true],aF),some ([.vec [.int .i32,.int .i32] (.var 14) (.var 6) true],aF),some ([.vec [.int .u8] (.var 15) (.var 7) true],aF),some ([.vec [.int .i32] (.var 16) (.var 8) true],aF),some ([.any,.any,.any,(.own 2 (.var 3) none),(.int .i64 (.var 4)),.any,.any,(.own 5 (.var 7) none),.any,.any,.any,.any,.any,.any],30),some ([.vec [.int .i64,.int .i64,.int .i64] (.app 65 (.cons (.var 10) (.cons (.var 12) (.cons (.var 13) (.cons (.var 5) (.cons (.var 16) (.cons (.var 8) (.cons (.var 8) .nil)))))))) (.var 3) true],aU+65),some ([.vec [.int .i32] (.var 17) (.var 2) true],aU+27),some ([(.own 9 (.var 2) (some (.var 2)))],26)]⟩
def aSJ:St:=⟨[.any,.any,(.ptr 7 0),.any,.any,.any,.any,.any,.any,.any,.any,(.ptr 10 0),.any,.any,.any,.any,.any,.any,.any,.any,.any,.any,.any,.any,.any,.any,.any,.any,.any,.any,.any,.any,.any,.any,.any,.any,.any,.any,.any,.any,.any,.any,.any,.any,.any,.any,.any,.any,.any,.any,.any,.any,.any,.any,.any,.any,.any,.any,.any,.any,.any,.any,.any,.any,.any,.any,.any,.any,.any,.any,.any,.any,.any,.any,.any,.any,.any,.any,.any,.any,.any,.any,.any,.any,.any,.any,.any,.any,.any,.any,.any,.any,.any,.any,.any,.any,.any,.any,.any,.any,.any,.any,.any,.any,.any,.any,.any,.any,.any,.any,.any,.any,.any,.any,.any,.any,.any],[some ([.vec [.int .i32,.int .i32] (.var 9) (.var 1) true],aF),some ([.vec [.int .i32,.int .i32] (.var 10) (.var 2) true],aF),some ([.vec [.int .i64] (.var 11) (.var 3) true],aF),some ([.vec [.int .i32,.int .i32] (.var 12) (.var 5) true],aF),some ([.vec [.int .i32,.int .i32] (.var 13) (.var 6) true],aF),some ([.vec [.int .u8] (.var 14) (.var 7) true],aF),some ([.vec [.int .i32] (.var 15) (.var 8) true],aF),some ([.any,.any,.any,(.own 2 (.var 3) none),(.int .i64 (.var 4)),.any,.any,(.own 5 (.var 7) none),.any,.any,.any,.any,.any,.any],30),some ([.vec [.int .i64,.int .i64,.int .i64] (.app 65 (.cons (.var 9) (.cons (.var 11) (.cons (.var 12) (.cons (.var 5) (.cons (.var 15) (.cons (.var 8) (.cons (.var 8) .nil)))))))) (.var 3) true],aU+65),some ([.vec [.int .i32] (.app 73 (.cons (.var 11) (.cons (.var 14) (.cons (.var 7) (.cons (.var 4) (.cons (.var 10) (.cons (.var 10) (.cons (.var 2) (.cons (.app 65 (.cons (.var 9) (.cons (.var 11) (.cons (.var 12) (.cons (.var 5) (.cons (.var 15) (.cons (.var 8) (.cons (.var 8) .nil)))))))) (.cons (.var 3) (.cons (.var 2) .nil))))))))))) (.var 2) true],aU+27),some ([(.own 9 (.var 2) (some (.var 2)))],26)]⟩
def aSv:LoopS:=⟨9,11,aV5,.lit true,.exit 2,aSJ,.exit 2,aSJ⟩
def uK:List (Int × Int):=[(0,255),(1,4),(1,4),(1,4),(1,16),(0,8),(0,8),(0,70000),(1,4),(0,4)]
def uO (P:Program) (fs:List B):Res SV:=cA G GI uK fs fun X=>pP P X GB xT dO 4000 11 (cN (bV P 11) 1) aSv
end Go.Proofs.Ytdldallkeheciaa
