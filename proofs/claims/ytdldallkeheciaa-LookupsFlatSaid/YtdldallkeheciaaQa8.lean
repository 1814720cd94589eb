/- What is proved: the corners of a cell of a table of any number of inputs,one by one,in plain Lean. No condition but those that are stated. -/
import Derived.Test.YtdldallkeheciaaQa7
import Derived.Test.YtdldallkeheciaaQa6
import Derived.Test.YtdldallkeheciaaProg
import Derived.Test.YtdldallkeheciaaQNn
import Derived.Test.YtdldallkeheciaaQg4
set_option linter.unusedSimpArgs false
set_option linter.unusedVariables false
namespace Go.Proofs.Ytdldallkeheciaa
open Go Go.RowKit Sx Wi Lk
def dP (S L m:Int):Prop:=∀ k:Nat,(k:Int)<m→(0≤G 83 [L,k,0]∧G 83 [L,k,0]≤255)∧(0≤G 83 [L,k,1]∧G 83 [L,k,1]≤255)∧(0≤G 83 [L,k,2]∧G 83 [L,k,2]≤65536)∧(1≤G 83 [S,k,0]∧G 83 [S,k,0]≤256)
def gdB (S L m:E):B:=(.and (.or (.cmp .le m (.lit 0)) (.and (.cmp .le (.lit 0) (.app 83 (.cons L (.cons (.lit 0) (.cons (.lit 0) .nil))))) (.and (.cmp .le (.app 83 (.cons L (.cons (.lit 0) (.cons (.lit 0) .nil)))) (.lit 255)) (.and (.cmp .le (.lit 0) (.app 83 (.cons L (.cons (.lit 0) (.cons (.lit 1) .nil))))) (.and (.cmp .le (.app 83 (.cons L (.cons (.lit 0) (.cons (.lit 1) .nil)))) (.lit 255)) (.and (.cmp .le (.lit 0) (.app 83 (.cons L (.cons (.lit 0) (.cons (.lit 2) .nil))))) (.and (.cmp .le (.app 83 (.cons L (.cons (.lit 0) (.cons (.lit 2) .nil)))) (.lit 65536)) (.and (.cmp .le (.lit 1) (.app 83 (.cons S (.cons (.lit 0) (.cons (.lit 0) .nil))))) (.cmp .le (.app 83 (.cons S (.cons (.lit 0) (.cons (.lit 0) .nil)))) (.lit 256)))))))))) (.and (.or (.cmp .le m (.lit 1)) (.and (.cmp .le (.lit 0) (.app 83 (.cons L (.cons (.lit 1) (.cons (.lit 0) .nil))))) (.and (.cmp .le (.app 83 (.cons L (.cons (.lit 1) (.cons (.lit 0) .nil)))) (.lit 255)) (.and (.cmp .le (.lit 0) (.app 83 (.cons L (.cons (.lit 1) (.cons (.lit 1) .nil))))) (.and (.cmp .le (.app 83 (.cons L (.cons (.lit 1) (.cons (.lit 1) .nil)))) (.lit 255)) (.and (.cmp .le (.lit 0) (.app 83 (.cons L (.cons (.lit 1) (.cons (.lit 2) .nil))))) (.and (.cmp .le (.app 83 (.cons L (.cons (.lit 1) (.cons (.lit 2) .nil)))) (.lit 65536)) (.and (.cmp .le (.lit 1) (.app 83 (.cons S (.cons (.lit 1) (.cons (.lit 0) .nil))))) (.cmp .le (.app 83 (.cons S (.cons (.lit 1) (.cons (.lit 0) .nil)))) (.lit 256)))))))))) (.and (.or (.cmp .le m (.lit 2)) (.and (.cmp .le (.lit 0) (.app 83 (.cons L (.cons (.lit 2) (.cons (.lit 0) .nil))))) (.and (.cmp .le (.app 83 (.cons L (.cons (.lit 2) (.cons (.lit 0) .nil)))) (.lit 255)) (.and (.cmp .le (.lit 0) (.app 83 (.cons L (.cons (.lit 2) (.cons (.lit 1) .nil))))) (.and (.cmp .le (.app 83 (.cons L (.cons (.lit 2) (.cons (.lit 1) .nil)))) (.lit 255)) (.and (.cmp .le (.lit 0) (.app 83 (.cons L (.cons (.lit 2) (.cons (.lit 2) .nil))))) (.and (.cmp .le (.app 83 (.cons L (.cons (.lit 2) (.cons (.lit 2) .nil)))) (.lit 65536)) (.and (.cmp .le (.lit 1) (.app 83 (.cons S (.cons (.lit 2) (.cons (.lit 0) .nil))))) (.cmp .le (.app 83 (.cons S (.cons (.lit 2) (.cons (.lit 0) .nil)))) (.lit 256)))))))))) (.or (.cmp .le m (.lit 3)) (.and (.cmp .le (.lit 0) (.app 83 (.cons L (.cons (.lit 3) (.cons (.lit 0) .nil))))) (.and (.cmp .le (.app 83 (.cons L (.cons (.lit 3) (.cons (.lit 0) .nil)))) (.lit 255)) (.and (.cmp .le (.lit 0) (.app 83 (.cons L (.cons (.lit 3) (.cons (.lit 1) .nil))))) (.and (.cmp .le (.app 83 (.cons L (.cons (.lit 3) (.cons (.lit 1) .nil)))) (.lit 255)) (.and (.cmp .le (.lit 0) (.app 83 (.cons L (.cons (.lit 3) (.cons (.lit 2) .nil))))) (.and (.cmp .le (.app 83 (.cons L (.cons (.lit 3) (.cons (.lit 2) .nil)))) (.lit 65536)) (.and (.cmp .le (.lit 1) (.app 83 (.cons S (.cons (.lit 3) (.cons (.lit 0) .nil))))) (.cmp .le (.app 83 (.cons S (.cons (.lit 3) (.cons (.lit 0) .nil)))) (.lit 256)))))))))))))
theorem tU {ρ:Nat→Int} {S L m:E} (h4:m.den G ρ≤4):(gdB S L m).den G ρ=true↔dP (S.den G ρ) (L.den G ρ) (m.den G ρ):=by
 unfold gdB
 simp only[E.den,EL.den,B.den,aFR,Bool.and_eq_true,Bool.or_eq_true,decide_eq_true_eq]
 generalize E.den G ρ S=s at *
 generalize E.den G ρ L=l at *
 generalize E.den G ρ m=n at *
 constructor
 ·rintro⟨h0,h1,h2,h3⟩ k hk
  have:k=0∨k=1∨k=2∨k=3:=by omega
  rcases this with rfl|rfl|rfl|rfl
  ·rcases h0 with q|⟨a0,a1,a2,a3,a4,a5,a6,a7⟩
   ·exact absurd hk (by omega)
   ·exact⟨⟨a0,a1⟩,⟨a2,a3⟩,⟨a4,a5⟩,a6,a7⟩
  ·rcases h1 with q|⟨a0,a1,a2,a3,a4,a5,a6,a7⟩
   ·exact absurd hk (by omega)
   ·exact⟨⟨a0,a1⟩,⟨a2,a3⟩,⟨a4,a5⟩,a6,a7⟩
  ·rcases h2 with q|⟨a0,a1,a2,a3,a4,a5,a6,a7⟩
   ·exact absurd hk (by omega)
   ·exact⟨⟨a0,a1⟩,⟨a2,a3⟩,⟨a4,a5⟩,a6,a7⟩
  ·rcases h3 with q|⟨a0,a1,a2,a3,a4,a5,a6,a7⟩
   ·exact absurd hk (by omega)
   ·exact⟨⟨a0,a1⟩,⟨a2,a3⟩,⟨a4,a5⟩,a6,a7⟩
 ·intro h
  refine⟨?_,?_,?_,?_⟩
  ·by_cases q:n≤0
   ·exact .inl q
   ·obtain⟨⟨a0,a1⟩,⟨a2,a3⟩,⟨a4,a5⟩,a6,a7⟩:=h 0 (by omega)
    exact .inr ⟨a0,a1,a2,a3,a4,a5,a6,a7⟩
  ·by_cases q:n≤1
   ·exact .inl q
   ·obtain⟨⟨a0,a1⟩,⟨a2,a3⟩,⟨a4,a5⟩,a6,a7⟩:=h 1 (by omega)
    exact .inr ⟨a0,a1,a2,a3,a4,a5,a6,a7⟩
  ·by_cases q:n≤2
   ·exact .inl q
   ·obtain⟨⟨a0,a1⟩,⟨a2,a3⟩,⟨a4,a5⟩,a6,a7⟩:=h 2 (by omega)
    exact .inr ⟨a0,a1,a2,a3,a4,a5,a6,a7⟩
  ·by_cases q:n≤3
   ·exact .inl q
   ·obtain⟨⟨a0,a1⟩,⟨a2,a3⟩,⟨a4,a5⟩,a6,a7⟩:=h 3 (by omega)
    exact .inr ⟨a0,a1,a2,a3,a4,a5,a6,a7⟩
theorem aSV (x:Int):bT .and .i64 x 1=x % 2:=by
 have e:(BitVec.ofInt 64 x &&& BitVec.ofInt 64 1).toNat=(BitVec.ofInt 64 x).toNat % 2:=by
  rw[BitVec.toNat_and]
  exact Nat.and_two_pow_sub_one_eq_mod _ 1
 have e2:=BitVec.toNat_ofInt (n:=64) (i:=x)
 show IntKind.i64.wrap ((BitVec.ofInt 64 x &&& BitVec.ofInt 64 1).toNat:Int)=_
 rw[e,e2,IntKind.wrap_i64]
 omega
theorem aKq (t i:Nat):bT .and .i64 (Int.fdiv (t:Int) (1*2 ^ (i:Int).toNat)) 1=((Lk.bit t i:Nat):Int):=by
 rw[aSV,Int.toNat_natCast,Int.one_mul]
 have c:((2 ^ i:Nat):Int)=2 ^ i:=by rw[Int.natCast_pow];rfl
 rw[←c,Int.fdiv_eq_ediv_of_nonneg _ (Int.natCast_nonneg _)]
 unfold Lk.bit
 rw[Int.natCast_emod,Int.natCast_ediv]
 rfl
section
variable {S L m:Int} {t:Nat}
theorem aWu:∀ i:Nat,(1:Int)≤256 ^ i
 |0=>by decide
 |i+1=>by have:=aWu i;rw[Int.pow_succ];omega
theorem aCE (h:dP S L m):∀ {i:Nat},(i:Int)≤m→1≤dL (iB S L) i∧dL (iB S L) i≤256 ^ i
 |0,_=>by simp [dL]
 |i+1,hi=>by
  obtain⟨a,b⟩:=aCE h (i:=i) (by omega)
  have hs:=(h i (by omega)).2.2.2
  have hs1:1≤kR S i 0:=hs.1
  have hs2:kR S i 0≤256:=hs.2
  show 1≤dL (iB S L) i*kR S i 0∧dL (iB S L) i*kR S i 0≤256 ^ (i+1)
  rw[Int.pow_succ]
  have q1:=Int.mul_le_mul a hs1 (by decide) (by omega)
  have q2:=Int.mul_le_mul b hs2 (by omega) (by have:=aWu i;omega)
  exact⟨by simpa using q1,q2⟩
theorem aTj (h:dP S L m):∀ {i:Nat},(i:Int)≤m→0≤pC (iB S L) t i∧pC (iB S L) t i+1≤256 ^ i
 |0,_=>by simp [pC]
 |i+1,hi=>by
  obtain⟨a,b⟩:=aTj h (i:=i) (by omega)
  obtain⟨c,d⟩:=aCE h (i:=i) (by omega)
  obtain⟨q0,q1,_,_⟩:=h i (by omega)
  have q0':0≤kR L i 0∧kR L i 0≤255:=q0
  have q1':0≤kR L i 1∧kR L i 1≤255:=q1
  have key:∀ n:Int,0≤n→n≤255→0≤pC (iB S L) t i+n*dL (iB S L) i∧pC (iB S L) t i+n*dL (iB S L) i+1≤256 ^ (i+1):=by
   intro n h0 h1
   rw[Int.pow_succ]
   have u:=Int.mul_nonneg h0 (show 0≤dL (iB S L) i by omega)
   have v:=Int.mul_le_mul h1 d (by omega) (by decide)
   omega
  simp only[pC]
  split
  ·exact key _ q1'.1 q1'.2
  ·exact key _ q0'.1 q0'.2
theorem aKS:∀ i:Nat,(1:Int)≤65536 ^ i
 |0=>by decide
 |i+1=>by have:=aKS i;rw[Int.pow_succ];omega
theorem aJi (h:dP S L m):∀ {i:Nat},(i:Int)≤m→0≤wM (iB S L) t i∧wM (iB S L) t i≤65536 ^ i
 |0,_=>by simp [wM]
 |i+1,hi=>by
  obtain⟨a,b⟩:=aJi h (i:=i) (by omega)
  have q:0≤kR L i 2∧kR L i 2≤65536:=(h i (by omega)).2.2.1
  have key:∀ n:Int,0≤n→n≤65536→0≤wM (iB S L) t i*n∧wM (iB S L) t i*n≤65536 ^ (i+1):=by
   intro n h0 h1
   rw[Int.pow_succ]
   exact⟨Int.mul_nonneg a h0,Int.mul_le_mul b h1 h0 (by have:=aKS i;omega)⟩
  simp only[wM]
  split
  ·exact key _ q.1 q.2
  ·exact key _ (by show 0≤65536-kR L i 2;omega) (by show 65536-kR L i 2≤65536;omega)
theorem aOU {i:Nat} (h:(i:Int)≤m) (hm:m≤4):(256:Int) ^ i≤4294967296∧(65536:Int) ^ i≤18446744073709551616:=by
 have:i=0∨i=1∨i=2∨i=3∨i=4:=by omega
 rcases this with rfl|rfl|rfl|rfl|rfl<;>decide
theorem g78 (h:dP S L m) (hm:m≤4) {i:Nat} (hi:(i:Int)≤m):G 78 [S,L,t,i]=pC (iB S L) t i:=by
 show gH 0 8589934592 (pC (iB S L) (t:Int).toNat (i:Int).toNat)=_
 rw[Int.toNat_natCast,Int.toNat_natCast]
 have a:=aTj (t:=t) h hi
 have b:=(aOU hi hm).1
 unfold gH;omega
theorem g79 (h:dP S L m) (hm:m≤4) {i:Nat} (hi:(i:Int)≤m):G 79 [S,L,i]=dL (iB S L) i:=by
 show gH 0 4294967296 (dL (iB S L) (i:Int).toNat)=_
 rw[Int.toNat_natCast]
 have a:=aCE h hi
 have b:=(aOU hi hm).1
 unfold gH;omega
theorem g77 (h:dP S L m) (hm:m≤4) {i:Nat} (hi:(i:Int)≤m):G 77 [S,L,t,i]=wM (iB S L) t i:=by
 show gH 0 18446744073709551616 (wM (iB S L) (t:Int).toNat (i:Int).toNat)=_
 rw[Int.toNat_natCast,Int.toNat_natCast]
 have a:=aJi (t:=t) h hi
 have b:=(aOU hi hm).2
 unfold gH;omega
theorem aUS (h:dP S L m) (hm:m≤4) {i:Nat} (hi:(i:Int)<m) (hb:bT .and .i64 (Int.fdiv (t:Int) (1*2 ^ (i:Int).toNat)) 1=1):
  G 78 [S,L,t,i]+G 83 [L,i,1]*G 79 [S,L,i]=G 78 [S,L,t,((i+1:Nat):Int)]∧G 79 [S,L,i]*G 83 [S,i,0]=G 79 [S,L,((i+1:Nat):Int)]∧G 77 [S,L,t,i]*G 83 [L,i,2]=G 77 [S,L,t,((i+1:Nat):Int)]:=by
 rw[g78 h hm (by omega),g78 h hm (by omega),g79 h hm (by omega),g79 h hm (by omega),g77 h hm (by omega),g77 h hm (by omega)]
 rw[aKq]at hb
 have hb':Lk.bit t i=1:=by omega
 simp only[pC,dL,wM]
 rw[if_pos hb',if_pos hb']
 exact⟨rfl,rfl,rfl⟩
theorem aW0 (h:dP S L m) (hm:m≤4) {i:Nat} (hi:(i:Int)<m) (hb:¬bT .and .i64 (Int.fdiv (t:Int) (1*2 ^ (i:Int).toNat)) 1=1):
  G 78 [S,L,t,i]+G 83 [L,i,0]*G 79 [S,L,i]=G 78 [S,L,t,((i+1:Nat):Int)]∧G 79 [S,L,i]*G 83 [S,i,0]=G 79 [S,L,((i+1:Nat):Int)]∧G 77 [S,L,t,i]*(65536-G 83 [L,i,2])=G 77 [S,L,t,((i+1:Nat):Int)]:=by
 rw[g78 h hm (by omega),g78 h hm (by omega),g79 h hm (by omega),g79 h hm (by omega),g77 h hm (by omega),g77 h hm (by omega)]
 rw[aKq]at hb
 have hb':¬Lk.bit t i=1:=by omega
 simp only[pC,dL,wM]
 rw[if_neg hb',if_neg hb']
 exact⟨rfl,rfl,rfl⟩
theorem aOF:G 78 [S,L,t,0]=0∧G 79 [S,L,0]=1∧G 77 [S,L,t,0]=1:=⟨rfl,rfl,rfl⟩
theorem aGk {g:Nat→Int} {c:Int}:∀ {n:Nat},(∀ k,k<n→0≤g k∧g k≤c)→0≤lO g n∧lO g n≤n*c
 |0,_=>by simp [lO]
 |n+1,h=>by
  obtain⟨a,b⟩:=aGk (n:=n) (fun k hk=>h k (by omega))
  obtain⟨c1,c2⟩:=h n (by omega)
  simp only[lO]
  have:((n+1:Nat):Int)*c=n*c+c:=by rw[Int.natCast_add,Int.add_mul];simp
  omega
variable {B nB bits nR j:Int}
theorem aSI (h:dP S L m) (hm:0≤m∧m≤4) {n:Nat} (hn:n≤16):0≤aEe S B nB bits nR L m j n∧aEe S B nB bits nR L m j n≤19342813113834066795298816:=by
 unfold aEe sS
 have key:=aGk (g:=fun t=>wM (iB S L) t m.toNat*mS B nB ((pC (iB S L) t m.toNat*nR+j)*bits) bits) (c:=1208925819614629174706176) (n:=n) (fun k hk=>by
  have a:=aJi (t:=k) h (i:=m.toNat) (by omega)
  have b:=(aOU (m:=m) (i:=m.toNat) (by omega) hm.2).2
  obtain⟨r0,r1⟩:=aBB B nB ((pC (iB S L) k m.toNat*nR+j)*bits) bits
  refine⟨Int.mul_nonneg a.1 r0,?_⟩
  have:=Int.mul_le_mul (show wM (iB S L) k m.toNat≤18446744073709551616 by omega) r1 r0 (by decide)
  omega)
 refine⟨key.1,Int.le_trans key.2 ?_⟩
 have:=Int.mul_le_mul_of_nonneg_right (show (n:Int)≤16 by omega) (show (0:Int)≤1208925819614629174706176 by decide)
 omega
theorem g76 (h:dP S L m) (hm:0≤m∧m≤4) {n:Nat} (hn:n≤16):G 76 [S,B,nB,bits,nR,L,m,j,n]=aEe S B nB bits nR L m j n:=by
 show gH 0 19342813113834066795298816 (aEe S B nB bits nR L m j (n:Int).toNat)=_
 rw[Int.toNat_natCast]
 have:=aSI (B:=B) (nB:=nB) (bits:=bits) (nR:=nR) (j:=j) h hm hn
 unfold gH;omega
theorem aGe (hm:0≤m∧m≤4):(1:Int)*2 ^ m.toNat≤16:=by
 have:m=0∨m=1∨m=2∨m=3∨m=4:=by omega
 rcases this with rfl|rfl|rfl|rfl|rfl<;>decide
theorem aL7:(0:Int)=G 76 [S,B,nB,bits,nR,L,m,j,0]:=rfl
theorem aNn (h:dP S L m) (hm:0≤m∧m≤4) (ht:(t:Int)<1*2 ^ m.toNat):
  G 76 [S,B,nB,bits,nR,L,m,j,t]+G 77 [S,L,t,m]*G 67 [B,nB,(G 78 [S,L,t,m]*nR+j)*bits,bits]=G 76 [S,B,nB,bits,nR,L,m,j,((t+1:Nat):Int)]:=by
 have h16:=aGe hm
 rw[g76 h hm (by omega),g76 h hm (by omega)]
 obtain⟨k,rfl⟩:=Int.eq_ofNat_of_zero_le hm.1
 rw[g77 h hm.2 (Int.le_refl _),g78 h hm.2 (Int.le_refl _)]
 show _+wM (iB S L) t k*mS B nB ((pC (iB S L) t k*nR+j)*bits) bits=_
 unfold aEe sS
 rw[Int.toNat_natCast]
 rfl
end
end Go.Proofs.Ytdldallkeheciaa
namespace Go.Proofs.Ytdldallkeheciaa
open Go Go.RowKit Sx Wi Lk
def aLL:bA:=fT 20 zJ gN
theorem aDJ {X:Ctx} {ρ:Nat→Int} (hX:X.Ok ρ) (hG:X.G=G):fF Try.prog X ρ GB aLL:=dM (aS6 hX hG) (dA hX hG)
def aXr:St:=⟨[(.yld 10),(.ptr 9 0),(.ptr 8 0),.any,.any,.any,.any,.any,.any,.any,.any,.any,(.own 2 (.var 0) none),(.int .i64 (.var 0)),(.int .i64 (.op .shl (.lit 1) (.var 0))),(.int .i64 (.var 5)),.any,.any,.any,.any,.any,.any,.any,.any,.any,.any,.any,.any,.any,.any,.any,.any,.any,.any,.any,.any,.any,.any,.any,.any,.any,.any,.any,.any,.any,.any,.any,.any,.any,.any,.any,.any,.any,.any,.any,.any,.any,.any,.any,.any,.any,.any,.any,.any,.any],[some ([.vec [.int .i64] (.var 7) (.var 0) true],aF),some ([.vec [.int .u8] (.var 8) (.var 3) true],aF),some ([.vec [.int .i64,.int .i64,.int .i64] (.var 9) (.var 0) true],aU+65),some ([.vec [.int .i32] (.var 10) (.var 1) true],aU+27),some ([.any,.any,.any,(.own 0 (.var 0) none),(.int .i64 (.var 2)),.any,.any,(.own 1 (.var 3) none),.any,.any,.any,.any,.any,.any],30),some ([(.own 3 (.var 1) (some (.var 1)))],26),some ([(.int .i64 (.var 4))],3),some ([(.int .i64 (.app 0 (.cons (.var 6) .nil))),(.int .u64 (.app 1 (.cons (.var 6) .nil)))],53),some ([.any,.any,.any,(.own 0 (.var 0) none),(.int .i64 (.var 2)),.any,.any,(.own 1 (.var 3) none),.any,.any,.any,.any,.any,.any],30),some ([(.own 2 (.var 0) none)],63),some (([.any,.any,(.ptr 4 0),.any,.any,.any,.any,.any,.any,.any,.any,(.ptr 5 0),(.ptr 6 0),.any,(.ptr 7 0),.any,.any,.any,.any,.any,.any,.any,.any,.any,.any,.any,.any,.any,.any,.any,.any,.any,.any,.any,.any,.any,.any,.any,.any,.any,.any,.any,.any,.any,.any,.any,.any,.any,.any,.any,.any,.any,.any,.any,.any,.any,.any,.any,.any,.any,.any,.any,.any,.any,.any,.any,.any,.any,.any,.any,.any,.any,.any,.any,.any,.any,.any,.any,.any,.any,.any,.any,.any,.any,.any,.any,.any,.any,.any,.any,.any,.any,.any,.any,.any,.any,.any,.any,.any,.any,.any,.any,.any,.any,.any,.any,.any,.any,.any,.any,.any,.any,.any,.any,.any,.any,.any]:List SV)++[cY (-1)],bL+11)]⟩
def aWF:St:=⟨[.any,.any,.any,.any,.any,.any,.any,.any,.any,.any,.any,.any,.any,.any,.any,.any,.any,.any,.any,.any,.any,.any,.any,.any,.any,.any,.any,.any,.any,.any,.any,.any,.any,.any,.any,.any,.any,.any,.any,.any,.any,.any,.any,.any,.any,.any,.any,.any,.any,.any,.any,.any,.any,.any,.any,.any,.any,.any,.any,.any,.any,.any,.any,.any,.any],[some ([.vec [.int .i64] (.var 5) (.var 0) true],aF),some ([.vec [.int .u8] (.var 6) (.var 3) true],aF),some ([.vec [.int .i64,.int .i64,.int .i64] (.var 7) (.var 0) true],aU+65),some ([.vec [.int .i32] (.var 8) (.var 1) true],aU+27),some ([.any,.any,.any,(.own 0 (.var 0) none),(.int .i64 (.var 2)),.any,.any,(.own 1 (.var 3) none),.any,.any,.any,.any,.any,.any],30),some ([(.own 3 (.var 1) (some (.var 1)))],26),some ([(.int .i64 (.var 4))],3),some ([(.int .i64 (.app 0 (.cons (.app 76 (.cons (.var 5) (.cons (.var 6) (.cons (.var 3) (.cons (.var 2) (.cons (.var 1) (.cons (.var 7) (.cons (.var 0) (.cons (.var 4) (.cons (.op .shl (.lit 1) (.var 0)) .nil)))))))))) .nil))),(.int .u64 (.app 1 (.cons (.app 76 (.cons (.var 5) (.cons (.var 6) (.cons (.var 3) (.cons (.var 2) (.cons (.var 1) (.cons (.var 7) (.cons (.var 0) (.cons (.var 4) (.cons (.op .shl (.lit 1) (.var 0)) .nil)))))))))) .nil)))],53),some ([.any,.any,.any,(.own 0 (.var 0) none),(.int .i64 (.var 2)),.any,.any,(.own 1 (.var 3) none),.any,.any,.any,.any,.any,.any],30),some ([(.own 2 (.var 0) none)],63),some (([.any,.any,(.ptr 4 0),.any,.any,.any,.any,.any,.any,.any,.any,(.ptr 5 0),(.ptr 6 0),.any,(.ptr 7 0),.any,.any,.any,.any,.any,.any,.any,.any,.any,.any,.any,.any,.any,.any,.any,.any,.any,.any,.any,.any,.any,.any,.any,.any,.any,.any,.any,.any,.any,.any,.any,.any,.any,.any,.any,.any,.any,.any,.any,.any,.any,.any,.any,.any,.any,.any,.any,.any,.any,.any,.any,.any,.any,.any,.any,.any,.any,.any,.any,.any,.any,.any,.any,.any,.any,.any,.any,.any,.any,.any,.any,.any,.any,.any,.any,.any,.any,.any,.any,.any,.any,.any,.any,.any,.any,.any,.any,.any,.any,.any,.any,.any,.any,.any,.any,.any,.any,.any,.any,.any,.any,.any]:List SV)++[cY (-1)],bL+11)]⟩
def aWl:LoopS:=⟨5,11,aXr,.lit true,.exit 0,aWF,.exit 0,aWF⟩
def aF1:List (Int × Int):=[(1,4),(1,4),(1,16),(0,70000),(0,3),(0,16),(0,19342813113834066795298816)]
def aT1:LoopU:=⟨aWz,[(.var 0),(.var 1),(.var 2),(.var 3),(.var 4),(.var 5),(.lit 0),(.lit 0),(.lit 1),(.lit 1),(.var 7),(.var 8),(.var 9),(.var 10),(.var 6)],aAT,(gdB (.var 10) (.var 12) (.var 0))⟩
def aW2:fH:=jM 5 (fS (bN GB) [aT1]) dQ
def aAo (P:Program) (fs:List B):Res SV:=cB G GI aF1 fs fun X=>oP P X GB aLL aW2 4000 (cN (bW P 51) 0) aWl
def aTK:LoopU:=⟨aWl,[(.var 0),(.var 1),(.var 2),(.var 3),(.var 4),(.lit 0),(.lit 0),(.var 5),(.var 6),(.var 7),(.var 8)],aF1,.lit true⟩
def aS8:fH:=jM 1 (fS (bN GB) [aTK]) dQ
def aEK:B:=(gdB (.var 5) (.var 7) (.var 0))
def aUh:FunS:=⟨[(.yld 10),(.ptr 9 0),(.ptr 8 0)],[some ([.vec [.int .i64] (.var 5) (.var 0) true],aF),some ([.vec [.int .u8] (.var 6) (.var 3) true],aF),some ([.vec [.int .i64,.int .i64,.int .i64] (.var 7) (.var 0) true],aU+65),some ([.vec [.int .i32] (.var 8) (.var 1) true],aU+27),some ([.any,.any,.any,(.own 0 (.var 0) none),(.int .i64 (.var 2)),.any,.any,(.own 1 (.var 3) none),.any,.any,.any,.any,.any,.any],30),some ([(.own 3 (.var 1) (some (.var 1)))],26),some ([(.int .i64 (.var 4))],3),some ([(.int .i64 (.app 0 (.cons (.lit 0) .nil))),(.int .u64 (.app 1 (.cons (.lit 0) .nil)))],53),some ([.any,.any,.any,(.own 0 (.var 0) none),(.int .i64 (.var 2)),.any,.any,(.own 1 (.var 3) none),.any,.any,.any,.any,.any,.any],30),some ([(.own 2 (.var 0) none)],63),some (([.any,.any,(.ptr 4 0),.any,.any,.any,.any,.any,.any,.any,.any,(.ptr 5 0),(.ptr 6 0),.any,(.ptr 7 0),.any,.any,.any,.any,.any,.any,.any,.any,.any,.any,.any,.any,.any,.any,.any,.any,.any,.any,.any,.any,.any,.any,.any,.any,.any,.any,.any,.any,.any,.any,.any,.any,.any,.any,.any,.any,.any,.any,.any,.any,.any,.any,.any,.any,.any,.any,.any,.any,.any,.any,.any,.any,.any,.any,.any,.any,.any,.any,.any,.any,.any,.any,.any,.any,.any,.any,.any,.any,.any,.any,.any,.any,.any,.any,.any,.any,.any,.any,.any,.any,.any,.any,.any,.any,.any,.any,.any,.any,.any,.any,.any,.any,.any,.any,.any,.any,.any,.any,.any,.any,.any,.any]:List SV)++[cY (-1)],bL+11)],.lit true,(.tuple []),[some ([.vec [.int .i64] (.var 5) (.var 0) true],aF),some ([.vec [.int .u8] (.var 6) (.var 3) true],aF),some ([.vec [.int .i64,.int .i64,.int .i64] (.var 7) (.var 0) true],aU+65),some ([.vec [.int .i32] (.var 8) (.var 1) true],aU+27),some ([.any,.any,.any,(.own 0 (.var 0) none),(.int .i64 (.var 2)),.any,.any,(.own 1 (.var 3) none),.any,.any,.any,.any,.any,.any],30),some ([(.own 3 (.var 1) (some (.var 1)))],26),some ([(.int .i64 (.var 4))],3),some ([(.int .i64 (.app 0 (.cons (.app 76 (.cons (.var 5) (.cons (.var 6) (.cons (.var 3) (.cons (.var 2) (.cons (.var 1) (.cons (.var 7) (.cons (.var 0) (.cons (.var 4) (.cons (.op .shl (.lit 1) (.var 0)) .nil)))))))))) .nil))),(.int .u64 (.app 1 (.cons (.app 76 (.cons (.var 5) (.cons (.var 6) (.cons (.var 3) (.cons (.var 2) (.cons (.var 1) (.cons (.var 7) (.cons (.var 0) (.cons (.var 4) (.cons (.op .shl (.lit 1) (.var 0)) .nil)))))))))) .nil)))],53),some ([.any,.any,.any,(.own 0 (.var 0) none),(.int .i64 (.var 2)),.any,.any,(.own 1 (.var 3) none),.any,.any,.any,.any,.any,.any],30),some ([(.own 2 (.var 0) none)],63),some (([.any,.any,(.ptr 4 0),.any,.any,.any,.any,.any,.any,.any,.any,(.ptr 5 0),(.ptr 6 0),.any,(.ptr 7 0),.any,.any,.any,.any,.any,.any,.any,.any,.any,.any,.any,.any,.any,.any,.any,.any,.any,.any,.any,.any,.any,.any,.any,.any,.any,.any,.any,.any,.any,.any,.any,.any,.any,.any,.any,.any,.any,.any,.any,.any,.any,.any,.any,.any,.any,.any,.any,.any,.any,.any,.any,.any,.any,.any,.any,.any,.any,.any,.any,.any,.any,.any,.any,.any,.any,.any,.any,.any,.any,.any,.any,.any,.any,.any,.any,.any,.any,.any,.any,.any,.any,.any,.any,.any,.any,.any,.any,.any,.any,.any,.any,.any,.any,.any,.any,.any,.any,.any,.any,.any,.any,.any]:List SV)++[cY (-1)],bL+11)],(.tuple []),[some ([.vec [.int .i64] (.var 5) (.var 0) true],aF),some ([.vec [.int .u8] (.var 6) (.var 3) true],aF),some ([.vec [.int .i64,.int .i64,.int .i64] (.var 7) (.var 0) true],aU+65),some ([.vec [.int .i32] (.var 8) (.var 1) true],aU+27),some ([.any,.any,.any,(.own 0 (.var 0) none),(.int .i64 (.var 2)),.any,.any,(.own 1 (.var 3) none),.any,.any,.any,.any,.any,.any],30),some ([(.own 3 (.var 1) (some (.var 1)))],26),some ([(.int .i64 (.var 4))],3),some ([(.int .i64 (.app 0 (.cons (.app 76 (.cons (.var 5) (.cons (.var 6) (.cons (.var 3) (.cons (.var 2) (.cons (.var 1) (.cons (.var 7) (.cons (.var 0) (.cons (.var 4) (.cons (.op .shl (.lit 1) (.var 0)) .nil)))))))))) .nil))),(.int .u64 (.app 1 (.cons (.app 76 (.cons (.var 5) (.cons (.var 6) (.cons (.var 3) (.cons (.var 2) (.cons (.var 1) (.cons (.var 7) (.cons (.var 0) (.cons (.var 4) (.cons (.op .shl (.lit 1) (.var 0)) .nil)))))))))) .nil)))],53),some ([.any,.any,.any,(.own 0 (.var 0) none),(.int .i64 (.var 2)),.any,.any,(.own 1 (.var 3) none),.any,.any,.any,.any,.any,.any],30),some ([(.own 2 (.var 0) none)],63),some (([.any,.any,(.ptr 4 0),.any,.any,.any,.any,.any,.any,.any,.any,(.ptr 5 0),(.ptr 6 0),.any,(.ptr 7 0),.any,.any,.any,.any,.any,.any,.any,.any,.any,.any,.any,.any,.any,.any,.any,.any,.any,.any,.any,.any,.any,.any,.any,.any,.any,.any,.any,.any,.any,.any,.any,.any,.any,.any,.any,.any,.any,.any,.any,.any,.any,.any,.any,.any,.any,.any,.any,.any,.any,.any,.any,.any,.any,.any,.any,.any,.any,.any,.any,.any,.any,.any,.any,.any,.any,.any,.any,.any,.any,.any,.any,.any,.any,.any,.any,.any,.any,.any,.any,.any,.any,.any,.any,.any,.any,.any,.any,.any,.any,.any,.any,.any,.any,.any,.any,.any,.any,.any,.any,.any,.any,.any]:List SV)++[cY (-1)],bL+11)]⟩
def aLl (P:Program) (fs:List B):Res SV:=cB G GI [(1,4),(1,4),(1,16),(0,70000),(0,3)] fs fun X=>gJ P X GB aLL aS8 4000 51 aUh
end Go.Proofs.Ytdldallkeheciaa
set_option maxRecDepth 100000
namespace Go.Proofs.Ytdldallkeheciaa
open Go Go.RowKit Sx Wi Lk
def aTq (P:Program) (fs:List B):Res SV:=aAo P fs
def aVj:List B:=[]
def aFB:B:=(gdB (.var 7) (.var 9) (.var 0))
def aLz:List B:=aJ aFB++aVj
def zR:B:=(.cmp .lt (.var 5) (.op .shl (.lit 1) (.var 0)))
def aUP:List B:=aJ zR++aLz
def aMq:SV:=(.agg [(.int .i64 (.op .add (.var 5) (.lit 1))),(.int .i64 (.var 5)),(.int .i64 (.var 7)),(.int .i64 (.var 7)),(.int .i64 (.var 8)),(.int .i64 (.var 8)),(.int .i64 (.var 9)),(.int .i64 (.var 9)),(.int .i64 (.var 10)),(.int .i64 (.var 10)),(.int .i64 (.app 0 (.cons (.op .add (.var 6) (.op .mul (.app 77 (.cons (.var 7) (.cons (.var 9) (.cons (.var 5) (.cons (.var 0) .nil))))) (.app 67 (.cons (.var 8) (.cons (.var 3) (.cons (.op .mul (.op .add (.op .mul (.app 78 (.cons (.var 7) (.cons (.var 9) (.cons (.var 5) (.cons (.var 0) .nil))))) (.var 1)) (.var 4)) (.var 2)) (.cons (.var 2) .nil))))))) .nil))),(.int .i64 (.app 0 (.cons (.var 6) .nil))),(.int .i64 (.app 1 (.cons (.op .add (.var 6) (.op .mul (.app 77 (.cons (.var 7) (.cons (.var 9) (.cons (.var 5) (.cons (.var 0) .nil))))) (.app 67 (.cons (.var 8) (.cons (.var 3) (.cons (.op .mul (.op .add (.op .mul (.app 78 (.cons (.var 7) (.cons (.var 9) (.cons (.var 5) (.cons (.var 0) .nil))))) (.var 1)) (.var 4)) (.var 2)) (.cons (.var 2) .nil))))))) .nil))),(.int .i64 (.app 1 (.cons (.var 6) .nil)))])
def aUL:List B:=aJ (B.neg zR)++aLz
def aMB:SV:=(.tuple [(.agg [(.int .i64 (.var 7)),(.int .i64 (.var 5)),(.int .i64 (.var 8)),(.int .i64 (.var 6)),(.int .i64 (.var 9)),(.int .i64 (.var 7)),(.int .i64 (.var 10)),(.int .i64 (.var 8)),(.int .i64 (.app 0 (.cons (.var 6) .nil))),(.int .i64 (.app 0 (.cons (.app 76 (.cons (.var 5) (.cons (.var 6) (.cons (.var 3) (.cons (.var 2) (.cons (.var 1) (.cons (.var 7) (.cons (.var 0) (.cons (.var 4) (.cons (.op .shl (.lit 1) (.var 0)) .nil)))))))))) .nil))),(.int .i64 (.app 1 (.cons (.var 6) .nil))),(.int .i64 (.app 1 (.cons (.app 76 (.cons (.var 5) (.cons (.var 6) (.cons (.var 3) (.cons (.var 2) (.cons (.var 1) (.cons (.var 7) (.cons (.var 0) (.cons (.var 4) (.cons (.op .shl (.lit 1) (.var 0)) .nil)))))))))) .nil)))]),(.bool (.lit true))])
theorem aVE:aTq Try.prog aUP = .ok aMq:=by kernel_rfl
theorem aUj:aTq Try.prog aUL = .ok aMB:=by kernel_rfl
end Go.Proofs.Ytdldallkeheciaa
set_option maxRecDepth 100000
namespace Go.Proofs.Ytdldallkeheciaa
open Go Go.RowKit Sx Wi Lk
def aWo (P:Program) (fs:List B):Res SV:=aLl P fs
def aUF:List B:=[]
def aBV:B:=(gdB (.var 5) (.var 7) (.var 0))
def aTx:List B:=aJ aBV++aUF
theorem aWg:aWo Try.prog aTx = .ok (.tuple [(.agg []),(.bool (.lit true))]):=by kernel_rfl
end Go.Proofs.Ytdldallkeheciaa
set_option maxRecDepth 100000
namespace Go.Proofs.Ytdldallkeheciaa
open Go Go.RowKit Sx Wi Lk
def aL5 (P:Program) (fs:List B):Res SV:=zI P fs
def aLX:List B:=[]
def iR:B:=(.cmp .lt (.var 6) (.var 0))
def aV2:List B:=aJ iR++aLX
def aEN:B:=(.cmp .le (.lit 0) (.app 83 (.cons (.var 12) (.cons (.var 6) (.cons (.lit 0) .nil)))))
def aWf:List B:=aJ aEN++aV2
def aFM:B:=(.cmp .le (.app 83 (.cons (.var 12) (.cons (.var 6) (.cons (.lit 0) .nil)))) (.lit 255))
def aU8:List B:=aJ aFM++aWf
def aE5:B:=(.cmp .le (.lit 0) (.app 83 (.cons (.var 12) (.cons (.var 6) (.cons (.lit 1) .nil)))))
def aVH:List B:=aJ aE5++aU8
def aFc:B:=(.cmp .le (.app 83 (.cons (.var 12) (.cons (.var 6) (.cons (.lit 1) .nil)))) (.lit 255))
def aVc:List B:=aJ aFc++aVH
def aFv:B:=(.cmp .le (.lit 0) (.app 83 (.cons (.var 12) (.cons (.var 6) (.cons (.lit 2) .nil)))))
def aTA:List B:=aJ aFv++aVc
def aFe:B:=(.cmp .le (.app 83 (.cons (.var 12) (.cons (.var 6) (.cons (.lit 2) .nil)))) (.lit 65536))
def aVB:List B:=aJ aFe++aTA
def aFs:B:=(.cmp .le (.lit 1) (.app 83 (.cons (.var 10) (.cons (.var 6) (.cons (.lit 0) .nil)))))
def aVZ:List B:=aJ aFs++aVB
def aFa:B:=(.cmp .le (.app 83 (.cons (.var 10) (.cons (.var 6) (.cons (.lit 0) .nil)))) (.lit 256))
def aKO:List B:=aJ aFa++aVZ
def aAr:B:=(.cmp .eq (.bit .and .i64 (.op .fdiv (.var 5) (.op .shl (.lit 1) (.var 6))) (.lit 1)) (.lit 1))
def aRN:List B:=aJ aAr++aKO
def aLf:SV:=(.agg [(.int .i64 (.op .add (.var 7) (.op .mul (.app 83 (.cons (.var 12) (.cons (.var 6) (.cons (.lit 1) .nil)))) (.var 8)))),(.int .i64 (.var 7)),(.int .i64 (.op .mul (.var 8) (.app 83 (.cons (.var 10) (.cons (.var 6) (.cons (.lit 0) .nil)))))),(.int .i64 (.var 8)),(.int .i64 (.op .add (.var 6) (.lit 1))),(.int .i64 (.var 6)),(.int .i64 (.var 10)),(.int .i64 (.var 10)),(.int .i64 (.var 11)),(.int .i64 (.var 11)),(.int .i64 (.var 12)),(.int .i64 (.var 12)),(.int .i64 (.var 13)),(.int .i64 (.var 13)),(.int .i64 (.app 0 (.cons (.var 14) .nil))),(.int .i64 (.app 0 (.cons (.var 14) .nil))),(.int .i64 (.app 1 (.cons (.var 14) .nil))),(.int .i64 (.app 1 (.cons (.var 14) .nil))),(.int .i64 (.app 0 (.cons (.op .mul (.var 9) (.app 83 (.cons (.var 12) (.cons (.var 6) (.cons (.lit 2) .nil))))) .nil))),(.int .i64 (.app 0 (.cons (.var 9) .nil))),(.int .i64 (.app 1 (.cons (.op .mul (.var 9) (.app 83 (.cons (.var 12) (.cons (.var 6) (.cons (.lit 2) .nil))))) .nil))),(.int .i64 (.app 1 (.cons (.var 9) .nil)))])
def aR3:List B:=aJ (B.neg aAr)++aKO
def aKF:SV:=(.agg [(.int .i64 (.op .add (.var 7) (.op .mul (.app 83 (.cons (.var 12) (.cons (.var 6) (.cons (.lit 0) .nil)))) (.var 8)))),(.int .i64 (.var 7)),(.int .i64 (.op .mul (.var 8) (.app 83 (.cons (.var 10) (.cons (.var 6) (.cons (.lit 0) .nil)))))),(.int .i64 (.var 8)),(.int .i64 (.op .add (.var 6) (.lit 1))),(.int .i64 (.var 6)),(.int .i64 (.var 10)),(.int .i64 (.var 10)),(.int .i64 (.var 11)),(.int .i64 (.var 11)),(.int .i64 (.var 12)),(.int .i64 (.var 12)),(.int .i64 (.var 13)),(.int .i64 (.var 13)),(.int .i64 (.app 0 (.cons (.var 14) .nil))),(.int .i64 (.app 0 (.cons (.var 14) .nil))),(.int .i64 (.app 1 (.cons (.var 14) .nil))),(.int .i64 (.app 1 (.cons (.var 14) .nil))),(.int .i64 (.app 0 (.cons (.op .mul (.var 9) (.op .sub (.lit 65536) (.app 83 (.cons (.var 12) (.cons (.var 6) (.cons (.lit 2) .nil)))))) .nil))),(.int .i64 (.app 0 (.cons (.var 9) .nil))),(.int .i64 (.app 1 (.cons (.op .mul (.var 9) (.op .sub (.lit 65536) (.app 83 (.cons (.var 12) (.cons (.var 6) (.cons (.lit 2) .nil)))))) .nil))),(.int .i64 (.app 1 (.cons (.var 9) .nil)))])
def aQ1:List B:=aJ (B.neg iR)++aLX
def aLy:SV:=(.tuple [(.agg [(.int .i64 (.var 7)),(.int .i64 (.app 78 (.cons (.var 7) (.cons (.var 9) (.cons (.var 5) (.cons (.var 0) .nil)))))),(.int .i64 (.var 10)),(.int .i64 (.var 7)),(.int .i64 (.var 11)),(.int .i64 (.var 8)),(.int .i64 (.var 12)),(.int .i64 (.var 9)),(.int .i64 (.var 13)),(.int .i64 (.var 10)),(.int .i64 (.app 0 (.cons (.var 14) .nil))),(.int .i64 (.app 0 (.cons (.var 6) .nil))),(.int .i64 (.app 1 (.cons (.var 14) .nil))),(.int .i64 (.app 1 (.cons (.var 6) .nil))),(.int .i64 (.app 0 (.cons (.var 9) .nil))),(.int .i64 (.app 0 (.cons (.app 77 (.cons (.var 7) (.cons (.var 9) (.cons (.var 5) (.cons (.var 0) .nil))))) .nil))),(.int .i64 (.app 1 (.cons (.var 9) .nil))),(.int .i64 (.app 1 (.cons (.app 77 (.cons (.var 7) (.cons (.var 9) (.cons (.var 5) (.cons (.var 0) .nil))))) .nil)))]),(.bool (.lit true))])
theorem aQW:aL5 Try.prog aRN = .ok aLf:=by kernel_rfl
theorem aP1:aL5 Try.prog aR3 = .ok aKF:=by kernel_rfl
theorem aOH:aL5 Try.prog aQ1 = .ok aLy:=by kernel_rfl
end Go.Proofs.Ytdldallkeheciaa
namespace Go.Proofs.Ytdldallkeheciaa
open Go Go.RowKit Sx Wi Lk
def dY (x0 x1 x2 x3 x4 l0 l1 l2 l3 sm:Int) (t i:Nat):Nat→Int:=cR ([x0,x1,x2,x3,x4,(t:Int),(i:Int),G 78 [l0,l2,(t:Int),(i:Int)],G 79 [l0,l2,(i:Int)],G 77 [l0,l2,(t:Int),(i:Int)]]++[l0,l1,l2,l3,sm])
theorem aRv (x0 x1 x2 x3 x4 l0 l1 l2 l3 sm:Int) (b0:1≤x0∧x0≤4) (b1:1≤x1∧x1≤4) (b2:1≤x2∧x2≤16) (b3:0≤x3∧x3≤70000) (b4:0≤x4∧x4≤3) (t:Nat) (ht:t≤15) (i:Nat) (hi:(i:Int)≤x0):∀ k q,aAT[k]?=some q→q.1≤dY x0 x1 x2 x3 x4 l0 l1 l2 l3 sm t i k∧dY x0 x1 x2 x3 x4 l0 l1 l2 l3 sm t i k≤q.2:=by
 unfold dY aAT
 exact bP (xs:=[x0,x1,x2,x3,x4,(t:Int),(i:Int),G 78 [l0,l2,(t:Int),(i:Int)],G 79 [l0,l2,(i:Int)],G 77 [l0,l2,(t:Int),(i:Int)]]) (by exact⟨b0,b1,b2,b3,b4,by omega,by omega,aHQ [l0,l2,(t:Int),(i:Int)],aGp [l0,l2,(i:Int)],aF3 [l0,l2,(t:Int),(i:Int)],trivial⟩)
set_option maxHeartbeats 4000000 in
set_option maxRecDepth 100000 in
theorem aVh (x0 x1 x2 x3 x4 l0 l1 l2 l3 sm:Int) (b0:1≤x0∧x0≤4) (b1:1≤x1∧x1≤4) (b2:1≤x2∧x2≤16) (b3:0≤x3∧x3≤70000) (b4:0≤x4∧x4≤3) (hr:dP l0 l2 x0) (t:Nat) (ht:t≤15) (i:Nat) (hi:(i:Int)≤x0):Sx.Way (zI Try.prog) G (dY x0 x1 x2 x3 x4 l0 l1 l2 l3 sm t i) (cF G (dY x0 x1 x2 x3 x4 l0 l1 l2 l3 sm t) (cR ([x0,x1,x2,x3,x4,(t:Int),sm]++[l0,l1,l2,l3])) 6 (.lit true) (fun i=>(i:Int)≤x0) (fun i=>x0.toNat-i) i) []:=by
 refine aG iR (fun h0=>?_) (fun h0=>?_)
 rotate_left
 ·skip
  refine aH aOH ?_
  unfold iR at h0;unfold aLy;simp only[nn,dY,List.cons_append,List.nil_append,Bool.or_eq_true,aP,ne_eq]at h0;have he:(i:Int)=x0:=(by omega);clear h0;simp only[cF];refine⟨rfl,(fun k hk=>by (match k,hk with|0,_=>rfl|1,_=>rfl|2,_=>rfl|3,_=>rfl|4,_=>rfl|5,_=>rfl)),?_⟩;simp only[aI];simp only[nn,dY,List.cons_append,List.nil_append,Bool.or_eq_true,aP,ne_eq];rw[he];(repeat' refine And.intro ?_ ?_)<;>first|with_reducible rfl|trivial
 refine aG aEN (fun h1=>?_) (fun h1=>?_)
 rotate_left
 ·skip
  refine aQ ?_
  unfold iR at h0;unfold aEN at h1;exfalso;have z:=h0;have z1:=h1;clear h0 h1;simp only[nn,dY,List.cons_append,List.nil_append,Bool.or_eq_true,aP,ne_eq]at z z1;obtain⟨⟨q0,q1⟩,⟨q2,q3⟩,⟨q4,q5⟩,q6,q7⟩:=hr i z;clear hr;generalize G 83 [l2,(i:Int),0]=c0 at *;generalize G 83 [l2,(i:Int),1]=c1 at *;generalize G 83 [l2,(i:Int),2]=c2 at *;generalize G 83 [l0,(i:Int),0]=c3 at *;omega
 refine aG aFM (fun h2=>?_) (fun h2=>?_)
 rotate_left
 ·skip
  refine aQ ?_
  unfold iR at h0;unfold aFM at h2;exfalso;have z:=h0;have z1:=h2;clear h0 h1 h2;simp only[nn,dY,List.cons_append,List.nil_append,Bool.or_eq_true,aP,ne_eq]at z z1;obtain⟨⟨q0,q1⟩,⟨q2,q3⟩,⟨q4,q5⟩,q6,q7⟩:=hr i z;clear hr;generalize G 83 [l2,(i:Int),0]=c0 at *;generalize G 83 [l2,(i:Int),1]=c1 at *;generalize G 83 [l2,(i:Int),2]=c2 at *;generalize G 83 [l0,(i:Int),0]=c3 at *;omega
 refine aG aE5 (fun h3=>?_) (fun h3=>?_)
 rotate_left
 ·skip
  refine aQ ?_
  unfold iR at h0;unfold aE5 at h3;exfalso;have z:=h0;have z1:=h3;clear h0 h1 h2 h3;simp only[nn,dY,List.cons_append,List.nil_append,Bool.or_eq_true,aP,ne_eq]at z z1;obtain⟨⟨q0,q1⟩,⟨q2,q3⟩,⟨q4,q5⟩,q6,q7⟩:=hr i z;clear hr;generalize G 83 [l2,(i:Int),0]=c0 at *;generalize G 83 [l2,(i:Int),1]=c1 at *;generalize G 83 [l2,(i:Int),2]=c2 at *;generalize G 83 [l0,(i:Int),0]=c3 at *;omega
 refine aG aFc (fun h4=>?_) (fun h4=>?_)
 rotate_left
 ·skip
  refine aQ ?_
  unfold iR at h0;unfold aFc at h4;exfalso;have z:=h0;have z1:=h4;clear h0 h1 h2 h3 h4;simp only[nn,dY,List.cons_append,List.nil_append,Bool.or_eq_true,aP,ne_eq]at z z1;obtain⟨⟨q0,q1⟩,⟨q2,q3⟩,⟨q4,q5⟩,q6,q7⟩:=hr i z;clear hr;generalize G 83 [l2,(i:Int),0]=c0 at *;generalize G 83 [l2,(i:Int),1]=c1 at *;generalize G 83 [l2,(i:Int),2]=c2 at *;generalize G 83 [l0,(i:Int),0]=c3 at *;omega
 refine aG aFv (fun h5=>?_) (fun h5=>?_)
 rotate_left
 ·skip
  refine aQ ?_
  unfold iR at h0;unfold aFv at h5;exfalso;have z:=h0;have z1:=h5;clear h0 h1 h2 h3 h4 h5;simp only[nn,dY,List.cons_append,List.nil_append,Bool.or_eq_true,aP,ne_eq]at z z1;obtain⟨⟨q0,q1⟩,⟨q2,q3⟩,⟨q4,q5⟩,q6,q7⟩:=hr i z;clear hr;generalize G 83 [l2,(i:Int),0]=c0 at *;generalize G 83 [l2,(i:Int),1]=c1 at *;generalize G 83 [l2,(i:Int),2]=c2 at *;generalize G 83 [l0,(i:Int),0]=c3 at *;omega
 refine aG aFe (fun h6=>?_) (fun h6=>?_)
 rotate_left
 ·skip
  refine aQ ?_
  unfold iR at h0;unfold aFe at h6;exfalso;have z:=h0;have z1:=h6;clear h0 h1 h2 h3 h4 h5 h6;simp only[nn,dY,List.cons_append,List.nil_append,Bool.or_eq_true,aP,ne_eq]at z z1;obtain⟨⟨q0,q1⟩,⟨q2,q3⟩,⟨q4,q5⟩,q6,q7⟩:=hr i z;clear hr;generalize G 83 [l2,(i:Int),0]=c0 at *;generalize G 83 [l2,(i:Int),1]=c1 at *;generalize G 83 [l2,(i:Int),2]=c2 at *;generalize G 83 [l0,(i:Int),0]=c3 at *;omega
 refine aG aFs (fun h7=>?_) (fun h7=>?_)
 rotate_left
 ·skip
  refine aQ ?_
  unfold iR at h0;unfold aFs at h7;exfalso;have z:=h0;have z1:=h7;clear h0 h1 h2 h3 h4 h5 h6 h7;simp only[nn,dY,List.cons_append,List.nil_append,Bool.or_eq_true,aP,ne_eq]at z z1;obtain⟨⟨q0,q1⟩,⟨q2,q3⟩,⟨q4,q5⟩,q6,q7⟩:=hr i z;clear hr;generalize G 83 [l2,(i:Int),0]=c0 at *;generalize G 83 [l2,(i:Int),1]=c1 at *;generalize G 83 [l2,(i:Int),2]=c2 at *;generalize G 83 [l0,(i:Int),0]=c3 at *;omega
 refine aG aFa (fun h8=>?_) (fun h8=>?_)
 rotate_left
 ·skip
  refine aQ ?_
  unfold iR at h0;unfold aFa at h8;exfalso;have z:=h0;have z1:=h8;clear h0 h1 h2 h3 h4 h5 h6 h7 h8;simp only[nn,dY,List.cons_append,List.nil_append,Bool.or_eq_true,aP,ne_eq]at z z1;obtain⟨⟨q0,q1⟩,⟨q2,q3⟩,⟨q4,q5⟩,q6,q7⟩:=hr i z;clear hr;generalize G 83 [l2,(i:Int),0]=c0 at *;generalize G 83 [l2,(i:Int),1]=c1 at *;generalize G 83 [l2,(i:Int),2]=c2 at *;generalize G 83 [l0,(i:Int),0]=c3 at *;omega
 refine aG aAr (fun h9=>?_) (fun h9=>?_)
 ·skip
  refine aH aQW ?_
  unfold iR at h0;unfold aAr at h9;unfold aLf;simp only[nn,dY,List.cons_append,List.nil_append,Bool.or_eq_true,aP,ne_eq]at h0 h9;have hm:x0.toNat-(i+1)<x0.toNat-i:=(by clear h1 h2 h3 h4 h5 h6 h7 h8 h9;omega);have hg:((i+1:Nat):Int)≤x0:=(by clear h1 h2 h3 h4 h5 h6 h7 h8 h9;omega);have key:=aUS hr b0.2 h0 h9;clear h0 h1 h2 h3 h4 h5 h6 h7 h8 h9;simp only[cF];refine⟨i+1,hg,hm,(fun k hk=>by (match k,hk with|0,_=>rfl|1,_=>rfl|2,_=>rfl|3,_=>rfl|4,_=>rfl|5,_=>rfl)),?_⟩;simp only[aI];obtain⟨k1,k2,k3⟩:=key;simp only[nn,dY,List.cons_append,List.nil_append,Bool.or_eq_true,aP,ne_eq];rw[k1,k2,k3];(repeat' refine And.intro ?_ ?_)<;>first|with_reducible rfl|trivial|omega
 refine aH aP1 ?_
 unfold iR at h0;unfold aAr at h9;unfold aKF;simp only[nn,dY,List.cons_append,List.nil_append,Bool.or_eq_true,aP,ne_eq]at h0 h9;have hm:x0.toNat-(i+1)<x0.toNat-i:=(by clear h1 h2 h3 h4 h5 h6 h7 h8 h9;omega);have hg:((i+1:Nat):Int)≤x0:=(by clear h1 h2 h3 h4 h5 h6 h7 h8 h9;omega);have key:=aW0 hr b0.2 h0 h9;clear h0 h1 h2 h3 h4 h5 h6 h7 h8 h9;simp only[cF];refine⟨i+1,hg,hm,(fun k hk=>by (match k,hk with|0,_=>rfl|1,_=>rfl|2,_=>rfl|3,_=>rfl|4,_=>rfl|5,_=>rfl)),?_⟩;simp only[aI];obtain⟨k1,k2,k3⟩:=key;simp only[nn,dY,List.cons_append,List.nil_append,Bool.or_eq_true,aP,ne_eq];rw[k1,k2,k3];(repeat' refine And.intro ?_ ?_)<;>first|with_reducible rfl|trivial|omega
def gE (x0 x1 x2 x3 x4 l0 l1 l2 l3:Int) (t:Nat):Nat→Int:=cR ([x0,x1,x2,x3,x4,(t:Int),G 76 [l0,l1,x3,x2,x1,l2,x0,x4,(t:Int)]]++[l0,l1,l2,l3])
theorem aSM (x0 x1 x2 x3 x4 l0 l1 l2 l3:Int) (b0:1≤x0∧x0≤4) (b1:1≤x1∧x1≤4) (b2:1≤x2∧x2≤16) (b3:0≤x3∧x3≤70000) (b4:0≤x4∧x4≤3) (t:Nat) (ht:(t:Int)≤1*2 ^ x0.toNat):∀ k q,aF1[k]?=some q→q.1≤gE x0 x1 x2 x3 x4 l0 l1 l2 l3 t k∧gE x0 x1 x2 x3 x4 l0 l1 l2 l3 t k≤q.2:=by
 have h16:=aGe (m:=x0) ⟨by omega,b0.2⟩
 unfold gE aF1
 exact bP (xs:=[x0,x1,x2,x3,x4,(t:Int),G 76 [l0,l1,x3,x2,x1,l2,x0,x4,(t:Int)]]) (by exact⟨b0,b1,b2,b3,b4,by omega,aGY [l0,l1,x3,x2,x1,l2,x0,x4,(t:Int)],trivial⟩)
set_option maxRecDepth 100000 in
theorem aUX (x0 x1 x2 x3 x4 l0 l1 l2 l3:Int) (b0:1≤x0∧x0≤4) (b1:1≤x1∧x1≤4) (b2:1≤x2∧x2≤16) (b3:0≤x3∧x3≤70000) (b4:0≤x4∧x4≤3) (t:Nat):gG Try.prog G (bN GB) (cN (bW Try.prog 51) 1) aT1 (gE x0 x1 x2 x3 x4 l0 l1 l2 l3 t):=by
 intro hw hpre
 have hb:dW aAT [x0,x1,x2,x3,x4,(t:Int),0,0,1,1]:=hw
 unfold aAT at hb
 obtain⟨_,_,_,_,_,⟨_,ht⟩,_⟩:=hb
 have e:gA G (gE x0 x1 x2 x3 x4 l0 l1 l2 l3 t) aT1.es=dY x0 x1 x2 x3 x4 l0 l1 l2 l3 (G 76 [l0,l1,x3,x2,x1,l2,x0,x4,(t:Int)]) t 0:=by
  rw[eI]
  unfold dY
  obtain⟨c1,c2,c3⟩:=aOF (S:=l0) (L:=l2) (t:=t)
  rw[show ((0:Nat):Int)=0 from rfl,c1,c2,c3]
  rfl
 have hr:dP l0 l2 x0:=by
  rw[e]at hpre
  exact(tU (S := .var 10) (L := .var 12) (m := .var 0) (ρ:=dY x0 x1 x2 x3 x4 l0 l1 l2 l3 (G 76 [l0,l1,x3,x2,x1,l2,x0,x4,(t:Int)]) t 0) b0.2).1 hpre
 rw[e]
 exact⟨x0.toNat+1,gB (ι:=Nat) (ρ:=dY x0 x1 x2 x3 x4 l0 l1 l2 l3 (G 76 [l0,l1,x3,x2,x1,l2,x0,x4,(t:Int)]) t) (ρT:=gE x0 x1 x2 x3 x4 l0 l1 l2 l3 t) (m:=fun i=>x0.toNat-i) (Good:=fun i=>(i:Int)≤x0) (run:=zI Try.prog) (fun _=>rfl) fits rfl eS (fun i hi=>aRv x0 x1 x2 x3 x4 l0 l1 l2 l3 _ b0 b1 b2 b3 b4 t (by omega) i hi) (fun _ _ X hX hG=>dA hX hG) (fun _ _ X hX hG=>cG) (fun i hi=>aVh x0 x1 x2 x3 x4 l0 l1 l2 l3 _ b0 b1 b2 b3 b4 hr t (by omega) i hi) (by decide) _ 0 (by show ((0:Nat):Int)≤x0;omega) (by show x0.toNat-0<x0.toNat+1;omega)⟩
set_option maxHeartbeats 4000000 in
set_option maxRecDepth 100000 in
theorem aVq (x0 x1 x2 x3 x4 l0 l1 l2 l3:Int) (b0:1≤x0∧x0≤4) (b1:1≤x1∧x1≤4) (b2:1≤x2∧x2≤16) (b3:0≤x3∧x3≤70000) (b4:0≤x4∧x4≤3) (hr:dP l0 l2 x0) (t:Nat) (ht:(t:Int)≤1*2 ^ x0.toNat):Sx.Way (aAo Try.prog) G (gE x0 x1 x2 x3 x4 l0 l1 l2 l3 t) (cF G (gE x0 x1 x2 x3 x4 l0 l1 l2 l3) (cR ([x0,x1,x2,x3,x4]++[l0,l1,l2,l3])) 5 (.lit true) (fun t=>(t:Int)≤1*2 ^ x0.toNat) (fun t=>((1:Int)*2 ^ x0.toNat).toNat-t) t) []:=by
 refine aG aFB (fun h0=>?_) (fun h0=>?_)
 rotate_left
 ·skip
  refine aQ ?_
  unfold aFB at h0;exfalso;have z:B.den G (gE x0 x1 x2 x3 x4 l0 l1 l2 l3 t) (gdB (.var 7) (.var 9) (.var 0))=true:=(tU (S := .var 7) (L := .var 9) (m := .var 0) (ρ:=gE x0 x1 x2 x3 x4 l0 l1 l2 l3 t) b0.2).2 hr;rw[h0]at z;cases z
 refine aG zR (fun h1=>?_) (fun h1=>?_)
 ·skip
  refine aH aVE ?_
  unfold zR at h1;unfold aMq;clear h0;simp only[nn,gE,List.cons_append,List.nil_append,Bool.or_eq_true,aP,ne_eq]at h1;have key:=aNn (B:=l1) (nB:=x3) (bits:=x2) (nR:=x1) (j:=x4) hr ⟨by omega,b0.2⟩ h1;have hm:((1:Int)*2 ^ x0.toNat).toNat-(t+1)<((1:Int)*2 ^ x0.toNat).toNat-t:=(by omega);have hg:((t+1:Nat):Int)≤1*2 ^ x0.toNat:=(by omega);clear h1;simp only[cF];refine⟨t+1,hg,hm,(fun k hk=>by (match k,hk with|0,_=>rfl|1,_=>rfl|2,_=>rfl|3,_=>rfl|4,_=>rfl)),?_⟩;simp only[aI];simp only[nn,gE,List.cons_append,List.nil_append,Bool.or_eq_true,aP,ne_eq];rw[key];(repeat' refine And.intro ?_ ?_)<;>first|with_reducible rfl|trivial|omega
 refine aH aUj ?_
 unfold zR at h1;unfold aMB;clear h0;simp only[nn,gE,List.cons_append,List.nil_append,Bool.or_eq_true,aP,ne_eq]at h1;have he:(t:Int)=1*2 ^ x0.toNat:=(by omega);clear h1;simp only[cF];refine⟨rfl,(fun k hk=>by (match k,hk with|0,_=>rfl|1,_=>rfl|2,_=>rfl|3,_=>rfl|4,_=>rfl)),?_⟩;simp only[aI];simp only[nn,gE,List.cons_append,List.nil_append,Bool.or_eq_true,aP,ne_eq];rw[he];(repeat' refine And.intro ?_ ?_)<;>first|with_reducible rfl|trivial
theorem aLQ:bI (bW Try.prog 51)=[cN (bW Try.prog 51) 0,cN (bW Try.prog 51) 1]:=by kernel_rfl
theorem aIm:bI (cN (bW Try.prog 51) 0)=[cN (bW Try.prog 51) 1]:=by kernel_rfl
set_option maxRecDepth 100000 in
theorem aVF (x0 x1 x2 x3 x4 l0 l1 l2 l3:Int) (b0:1≤x0∧x0≤4) (b1:1≤x1∧x1≤4) (b2:1≤x2∧x2≤16) (b3:0≤x3∧x3≤70000) (b4:0≤x4∧x4≤3) (hr:dP l0 l2 x0):gG Try.prog G (bN GB) (cN (bW Try.prog 51) 0) aTK (cR ([x0,x1,x2,x3,x4]++[l0,l1,l2,l3])):=by
 intro hw _
 have e:gA G (cR ([x0,x1,x2,x3,x4]++[l0,l1,l2,l3])) aTK.es=gE x0 x1 x2 x3 x4 l0 l1 l2 l3 0:=by
  rw[eI]
  unfold gE
  rw[show ((0:Nat):Int)=0 from rfl,←aL7]
  rfl
 rw[e]
 have hp2:(1:Int)≤1*2 ^ x0.toNat:=by have:(0:Int)<2 ^ x0.toNat:=Int.pow_pos (by decide);omega
 exact⟨((1:Int)*2 ^ x0.toNat).toNat+1,gB (ι:=Nat) (ρ:=gE x0 x1 x2 x3 x4 l0 l1 l2 l3) (ρT:=(cR ([x0,x1,x2,x3,x4]++[l0,l1,l2,l3]))) (m:=fun t=>((1:Int)*2 ^ x0.toNat).toNat-t) (Good:=fun t=>(t:Int)≤1*2 ^ x0.toNat) (run:=aAo Try.prog) (fun _=>rfl) fits rfl eS (fun t ht=>aSM x0 x1 x2 x3 x4 l0 l1 l2 l3 b0 b1 b2 b3 b4 t ht) (fun _ _ X hX hG=>aDJ hX hG) (fun t ht X hX hG=>by
  refine kX (bs:=[cN (bW Try.prog 51) 1]) aIm ?_
  intro b hb
  simp only[List.mem_cons,List.mem_nil_iff,or_false]at hb
  subst hb
  refine iJ hX hG (by kernel_rfl) ?_
  intro p hp'
  simp only[List.mem_cons,List.mem_nil_iff,or_false]at hp'
  subst hp'
  exact aUX x0 x1 x2 x3 x4 l0 l1 l2 l3 b0 b1 b2 b3 b4 t) (fun t ht=>aVq x0 x1 x2 x3 x4 l0 l1 l2 l3 b0 b1 b2 b3 b4 hr t ht) (by decide) _ 0 (by show ((0:Nat):Int)≤1*2 ^ x0.toNat;omega) (by show ((1:Int)*2 ^ x0.toNat).toNat-0<((1:Int)*2 ^ x0.toNat).toNat+1;omega)⟩
set_option maxHeartbeats 4000000 in
set_option maxRecDepth 100000 in
theorem aVT (x0 x1 x2 x3 x4 l0 l1 l2 l3:Int) (b0:1≤x0∧x0≤4) (b1:1≤x1∧x1≤4) (b2:1≤x2∧x2≤16) (b3:0≤x3∧x3≤70000) (b4:0≤x4∧x4≤3) (hp:aEK.den G (cR ([x0,x1,x2,x3,x4]++[l0,l1,l2,l3]))=true):gD Try.prog G GB 51 aUh (cR ([x0,x1,x2,x3,x4]++[l0,l1,l2,l3])):=by
 have hr:dP l0 l2 x0:=(tU (S := .var 5) (L := .var 7) (m := .var 0) (ρ:=(cR ([x0,x1,x2,x3,x4]++[l0,l1,l2,l3]))) b0.2).1 hp
 refine cX (lp:=aS8) (run:=aLl Try.prog) (fun _=>rfl) fits (bP (xs:=[x0,x1,x2,x3,x4]) (ls:=[l0,l1,l2,l3]) (by exact⟨b0,b1,b2,b3,b4,trivial⟩)) eS (fun X hX hG=>aDJ hX hG) (fun X hX hG fn c hf hc=>?_) rfl ?_
 ·refine kX ((congrArg bI (nM hf hc)).symm.trans aLQ) ?_
  intro b hb
  simp only[List.mem_cons,List.mem_nil_iff,or_false]at hb
  rcases hb with rfl|rfl
  ·refine iJ hX hG (by kernel_rfl) ?_
   intro p hp'
   simp only[List.mem_cons,List.mem_nil_iff,or_false]at hp'
   subst hp'
   exact aVF x0 x1 x2 x3 x4 l0 l1 l2 l3 b0 b1 b2 b3 b4 hr
  ·exact qX (j:=5) (by kernel_rfl) (by decide) aKH
 ·skip
  refine aG aBV (fun h0=>?_) (fun h0=>?_)
  ·skip
   refine aH aWg ?_
   unfold aBV at h0;exact⟨rfl,trivial⟩
  refine aQ ?_
  unfold aBV at h0;exfalso;unfold aEK at hp;exact absurd (h0.symm.trans hp) (by decide)
def aDn:Ctx→List SV→aM→Res (SV × aM):=dZ GB [(1,4),(1,4),(1,16),(0,70000),(0,3)] 4 aEK aUh
theorem aWK {X:Ctx} {ρ:Nat→Int} (hX:X.Ok ρ) (hG:X.G=G):eU Try.prog X ρ GB 51 aDn:=by
 obtain⟨XG,XI,XV,XF⟩:=X
 simp only at hG
 subst hG
 refine cU hX ?_
 intro xs ls hw hl hp
 obtain⟨x0,y0,e0,b0,h0⟩:=aY hw
 obtain⟨x1,y1,e1,b1,h1⟩:=aY h0
 obtain⟨x2,y2,e2,b2,h2⟩:=aY h1
 obtain⟨x3,y3,e3,b3,h3⟩:=aY h2
 obtain⟨x4,y4,e4,b4,h4⟩:=aY h3
 have e5:=jS h4
 subst e5 e4 e3 e2 e1 e0
 obtain⟨l0,z0,q0,hl0⟩:=bJ hl
 obtain⟨l1,z1,q1,hl1⟩:=bJ hl0
 obtain⟨l2,z2,q2,hl2⟩:=bJ hl1
 obtain⟨l3,z3,q3,hl3⟩:=bJ hl2
 have q4:=List.length_eq_zero_iff.1 hl3
 subst q4 q3 q2 q1 q0
 exact aVT x0 x1 x2 x3 x4 l0 l1 l2 l3 b0 b1 b2 b3 b4 hp
def zU:bA:=fT 51 aDn aTb
theorem lK {X:Ctx} {ρ:Nat→Int} (hX:X.Ok ρ) (hG:X.G=G):fF Try.prog X ρ GB zU:=dM (aWK hX hG) (aJG hX hG)
def aXt:St:=⟨[.any,.any,(.ptr 7 0),.any,(.con (.slice none 0 0)),(.int .i64 (.lit 0)),(.int .i64 (.lit 0)),(.own 8 (.var 8) (some (.var 8))),.any,.any,.any,.any,.any,.any,.any,.any,.any,.any,.any,.any,.any,.any,.any,.any,.any,.any,.any,.any,.any,.any,.any,.any,.any,(.own 6 (.var 8) none),(.int .i64 (.var 8)),(.int .i64 (.var 9)),.any,.any,.any,.any,.any,.any,.any,.any,.any,.any,.any,.any,.any,.any,.any,.any,.any,.any,.any,.any,.any,.any,.any,.any,.any,.any,.any,.any,.any,.any,.any,.any,.any,.any,.any,.any,.any,.any,.any,.any,.any,.any,.any,.any,.any,.any,.any,.any,.any,.any,.any,.any,.any,.any,.any,.any,.any,.any,.any,.any,.any,.any,.any,.any,.any,.any,.any,.any,.any,.any,.any,.any,.any,.any,.any,.any,.any,.any,.any,.any,.any],[some ([.vec [.int .i32,.int .i32] (.var 10) (.var 1) true],aF),some ([.vec [.int .i32,.int .i32] (.var 11) (.var 2) true],aF),some ([.vec [.int .i64] (.var 12) (.var 3) true],aF),some ([.vec [.int .i32,.int .i32] (.var 13) (.var 5) true],aF),some ([.vec [.int .i32,.int .i32] (.var 14) (.var 6) true],aF),some ([.vec [.int .u8] (.var 15) (.var 7) true],aF),some ([.vec [.int .i32] (.var 16) (.var 8) true],aF),some ([.any,(.own 0 (.var 1) none),(.own 1 (.var 2) none),(.own 2 (.var 3) none),(.int .i64 (.var 4)),(.own 3 (.var 5) none),(.own 4 (.var 6) none),(.own 5 (.var 7) none),.any,.any,.any,.any,.any,.any],30),some ([.vec [.int .i64,.int .i64,.int .i64] (.var 17) (.var 8) true],aU+65)]⟩
def aWR:St:=⟨[.any,.any,(.ptr 7 0),.any,(.con (.slice none 0 0)),(.int .i64 (.lit 0)),(.int .i64 (.lit 0)),(.own 8 (.var 8) (some (.var 8))),.any,.any,.any,.any,.any,.any,.any,.any,.any,.any,.any,.any,.any,.any,.any,.any,.any,.any,.any,.any,.any,.any,.any,.any,.any,.any,.any,.any,.any,.any,.any,.any,.any,.any,.any,.any,.any,.any,.any,.any,.any,.any,.any,.any,.any,.any,.any,.any,.any,.any,.any,.any,.any,.any,.any,.any,.any,.any,.any,.any,.any,.any,.any,.any,.any,.any,.any,.any,.any,.any,.any,.any,.any,.any,.any,.any,.any,.any,.any,.any,.any,.any,.any,.any,.any,.any,.any,.any,.any,.any,.any,.any,.any,.any,.any,.any,.any,.any,.any,.any,.any,.any,.any,.any,.any,.any,.any,.any,.any],[some ([.vec [.int .i32,.int .i32] (.var 9) (.var 1) true],aF),some ([.vec [.int .i32,.int .i32] (.var 10) (.var 2) true],aF),some ([.vec [.int .i64] (.var 11) (.var 3) true],aF),some ([.vec [.int .i32,.int .i32] (.var 12) (.var 5) true],aF),some ([.vec [.int .i32,.int .i32] (.var 13) (.var 6) true],aF),some ([.vec [.int .u8] (.var 14) (.var 7) true],aF),some ([.vec [.int .i32] (.var 15) (.var 8) true],aF),some ([.any,(.own 0 (.var 1) none),(.own 1 (.var 2) none),(.own 2 (.var 3) none),(.int .i64 (.var 4)),(.own 3 (.var 5) none),(.own 4 (.var 6) none),(.own 5 (.var 7) none),.any,.any,.any,.any,.any,.any],30),some ([.vec [.int .i64,.int .i64,.int .i64] (.app 65 (.cons (.var 9) (.cons (.var 11) (.cons (.var 12) (.cons (.var 5) (.cons (.var 15) (.cons (.var 8) (.cons (.var 8) .nil)))))))) (.var 8) true],aU+65)]⟩
def aUW:LoopS:=⟨9,9,aXt,.lit true,.exit 0,aWR,.exit 0,aWR⟩
def sW:List (Int × Int):=[(0,255),(1,4),(1,4),(1,4),(1,16),(0,8),(0,8),(0,70000),(1,4),(0,4)]
def tJ (P:Program) (fs:List B):Res SV:=cB G GI sW fs fun X=>pH P X GB zU dQ 4000 11 (cN (bW P 11) 0) aUW
def aWy:St:=⟨[.any,.any,(.ptr 7 0),.any,.any,.any,.any,(.own 8 (.var 8) (some (.var 8))),.any,.any,(.own 1 (.var 2) none),(.ptr 10 0),.any,.any,.any,.any,.any,.any,.any,.any,.any,.any,.any,.any,.any,.any,.any,.any,.any,.any,.any,.any,.any,.any,.any,.any,.any,.any,.any,.any,.any,.any,.any,.any,.any,.any,.any,.any,.any,.any,.any,.any,.any,.any,.any,.any,.any,.any,.any,.any,(.own 1 (.var 2) none),(.int .i64 (.var 2)),(.int .i64 (.var 9)),.any,.any,.any,.any,.any,.any,.any,.any,.any,.any,.any,.any,.any,.any,.any,.any,.any,.any,.any,.any,.any,.any,.any,.any,.any,.any,.any,.any,.any,.any,.any,.any,.any,.any,.any,.any,.any,.any,.any,.any,.any,.any,.any,.any,.any,.any,.any,.any,.any,.any,.any,.any,.any,.any],[some ([.vec [.int .i32,.int .i32] (.var 10) (.var 1) true],aF),some ([.vec [.int .i32,.int .i32] (.var 11) (.var 2) true],aF),some ([.vec [.int .i64] (.var 12) (.var 3) true],aF),some ([.vec [.int .i32,.int .i32] (.var 13) (.var 5) true],aF),some ([.vec [.int .i32,.int .i32] (.var 14) (.var 6) true],aF),some ([.vec [.int .u8] (.var 15) (.var 7) true],aF),some ([.vec [.int .i32] (.var 16) (.var 8) true],aF),some ([.any,.any,.any,(.own 2 (.var 3) none),(.int .i64 (.var 4)),.any,.any,(.own 5 (.var 7) none),.any,.any,.any,.any,.any,.any],30),some ([.vec [.int .i64,.int .i64,.int .i64] (.app 65 (.cons (.var 10) (.cons (.var 12) (.cons (.var 13) (.cons (.var 5) (.cons (.var 16) (.cons (.var 8) (.cons (.var 8) .nil)))))))) (.var 3) true],aU+65),some ([.vec [.int .i32] (.var 17) (.var 2) true],aU+27),some ([(.own 9 (.var 2) (some (.var 2)))],26)]⟩
def aTa:St:=⟨[.any,.any,(.ptr 7 0),.any,.any,.any,.any,.any,.any,.any,.any,(.ptr 10 0),.any,.any,.any,.any,.any,.any,.any,.any,.any,.any,.any,.any,.any,.any,.any,.any,.any,.any,.any,.any,.any,.any,.any,.any,.any,.any,.any,.any,.any,.any,.any,.any,.any,.any,.any,.any,.any,.any,.any,.any,.any,.any,.any,.any,.any,.any,.any,.any,.any,.any,.any,.any,.any,.any,.any,.any,.any,.any,.any,.any,.any,.any,.any,.any,.any,.any,.any,.any,.any,.any,.any,.any,.any,.any,.any,.any,.any,.any,.any,.any,.any,.any,.any,.any,.any,.any,.any,.any,.any,.any,.any,.any,.any,.any,.any,.any,.any,.any,.any,.any,.any,.any,.any,.any,.any],[some ([.vec [.int .i32,.int .i32] (.var 9) (.var 1) true],aF),some ([.vec [.int .i32,.int .i32] (.var 10) (.var 2) true],aF),some ([.vec [.int .i64] (.var 11) (.var 3) true],aF),some ([.vec [.int .i32,.int .i32] (.var 12) (.var 5) true],aF),some ([.vec [.int .i32,.int .i32] (.var 13) (.var 6) true],aF),some ([.vec [.int .u8] (.var 14) (.var 7) true],aF),some ([.vec [.int .i32] (.var 15) (.var 8) true],aF),some ([.any,.any,.any,(.own 2 (.var 3) none),(.int .i64 (.var 4)),.any,.any,(.own 5 (.var 7) none),.any,.any,.any,.any,.any,.any],30),some ([.vec [.int .i64,.int .i64,.int .i64] (.app 65 (.cons (.var 9) (.cons (.var 11) (.cons (.var 12) (.cons (.var 5) (.cons (.var 15) (.cons (.var 8) (.cons (.var 8) .nil)))))))) (.var 3) true],aU+65),some ([.vec [.int .i32] (.app 73 (.cons (.var 11) (.cons (.var 14) (.cons (.var 7) (.cons (.var 4) (.cons (.var 10) (.cons (.var 10) (.cons (.var 2) (.cons (.app 65 (.cons (.var 9) (.cons (.var 11) (.cons (.var 12) (.cons (.var 5) (.cons (.var 15) (.cons (.var 8) (.cons (.var 8) .nil)))))))) (.cons (.var 3) (.cons (.var 2) .nil))))))))))) (.var 2) true],aU+27),some ([(.own 9 (.var 2) (some (.var 2)))],26)]⟩
def aTh:LoopS:=⟨9,11,aWy,.lit true,.exit 2,aTa,.exit 2,aTa⟩
def vD:List (Int × Int):=[(0,255),(1,4),(1,4),(1,4),(1,16),(0,8),(0,8),(0,70000),(1,4),(0,4)]
def uY (P:Program) (fs:List B):Res SV:=cB G GI vD fs fun X=>pH P X GB zU dQ 4000 11 (cN (bW P 11) 1) aTh
end Go.Proofs.Ytdldallkeheciaa
