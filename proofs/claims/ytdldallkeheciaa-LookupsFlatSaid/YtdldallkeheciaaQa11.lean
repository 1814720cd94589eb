/- What is proved: what a table all of whose bits are 0,or 1,tells,in plain Lean. No condition but those that are stated. -/
import Derived.Test.YtdldallkeheciaaQa9
import Derived.Test.YtdldallkeheciaaQa6
import Derived.Test.YtdldallkeheciaaQa10
set_option linter.unusedSimpArgs false
set_option linter.unusedVariables false
namespace Go.Proofs.Ytdldallkeheciaa
open Go Go.RowKit Sx Wi Lk
theorem aNe (c n:Int):G 96 [n,0]=G 75 [c,n,0]:=by
 show Lc.enc (List.replicate n.toNat [0])=Lc.enc (gC 1 (fun _=>[c]) n.toNat (0:Int).toNat)
 rw[show (0:Int).toNat=0 from rfl,rT];rfl
theorem aJY {c n:Int} {i:Nat} (hi:(i:Int)<n):G 92 [G 75 [c,n,i],i,c]=G 75 [c,n,((i+1:Nat):Int)]:=by
 show Lc.enc ((Lc.dec (Lc.enc (gC 1 (fun _=>[c]) n.toNat (i:Int).toNat))).set (i:Int).toNat [c])=Lc.enc (gC 1 (fun _=>[c]) n.toNat ((i+1:Nat):Int).toNat)
 rw[Lc.dec_enc,Int.toNat_natCast,Int.toNat_natCast]
 exact congrArg Lc.enc (uM 1 (fun _=>[c]) n.toNat i (by omega))
theorem aHp (c n:Int):Lc.dec (G 75 [c,n,n])=(List.range n.toNat).map fun _=>[c]:=by
 show Lc.dec (Lc.enc (gC 1 (fun _=>[c]) n.toNat n.toNat))=_
 rw[Lc.dec_enc,uS]
theorem aNc {c n:Int} (hc:0≤c∧c≤255) {k:Int} (h0:0≤k) (hk:k<n):r8 (G 75 [c,n,n]) k 0=c:=by
 have e:r8 (G 75 [c,n,n]) k 0=IntKind.u8.wrap (((Lc.dec (G 75 [c,n,n])).getD k.toNat []).getD (0:Int).toNat 0):=rfl
 have e2:((List.range n.toNat).map fun _=>[c]).getD k.toNat []=[c]:=by
  rw[List.getD_eq_getElem?_getD,List.getElem?_map,List.getElem?_range (by omega)];rfl
 rw[e,aHp,e2]
 show IntKind.u8.wrap c=c
 rw[IntKind.wrap_u8];omega
theorem aIh (n k:Int):r8 (G 75 [0,n,n]) k 0=0:=by
 have e:r8 (G 75 [0,n,n]) k 0=IntKind.u8.wrap (((Lc.dec (G 75 [0,n,n])).getD k.toNat []).getD (0:Int).toNat 0):=rfl
 rw[e,aHp]
 have e2:∀ o:Option Nat,IntKind.u8.wrap (((o.map fun _=>[(0:Int)]).getD []).getD (0:Int).toNat 0)=0:=by intro o;cases o<;>rfl
 have e3:((List.range n.toNat).map fun _=>[(0:Int)]).getD k.toNat []=(((List.range n.toNat)[k.toNat]?).map fun _=>[(0:Int)]).getD []:=by rw[List.getD_eq_getElem?_getD,List.getElem?_map]
 rw[e3]
 exact e2 _
theorem vV (n off:Int):∀ k,pR (G 75 [0,n,n]) off k=0
 |0=>rfl
 |k+1=>by
  show pR (G 75 [0,n,n]) off k*256+r8 (G 75 [0,n,n]) (off+k) 0=0
  rw[vV n off k,aIh];rfl
theorem wC {n off:Int} (h0:0≤off):∀ {k:Nat},off+k≤n→pR (G 75 [255,n,n]) off k=256 ^ k-1
 |0,_=>rfl
 |k+1,h=>by
  show pR (G 75 [255,n,n]) off k*256+r8 (G 75 [255,n,n]) (off+k) 0=_
  rw[wC h0 (k:=k) (by omega),aNc (by decide) (by omega) (by omega),Int.pow_succ];omega
theorem aMX (n a b:Int):mS (G 75 [0,n,n]) n a b=0:=by
 unfold mS
 split
 ·rfl
 ·rw[vV];simp only[Int.zero_ediv,Int.zero_emod];rfl
theorem aHJ (k:Nat):(0:Int)<2 ^ k:=Int.pow_pos (by decide)
theorem aK6 (s e:Nat):((2:Int) ^ (s+e)-1) / 2 ^ s=2 ^ e-1:=by
 have ps:=aHJ s
 have h:(2:Int) ^ (s+e)-1=(2 ^ s-1)+2 ^ s*(2 ^ e-1):=by rw[Int.pow_add];grind
 rw[h,Int.add_mul_ediv_left _ _ (by omega),Int.ediv_eq_zero_of_lt (by omega) (by omega)];omega
theorem aM0 {n e:Nat} (h:n≤e):((2:Int) ^ e-1) % 2 ^ n=2 ^ n-1:=by
 have pn:=aHJ n
 obtain⟨d,rfl⟩:=Nat.exists_eq_add_of_le h
 have h:(2:Int) ^ (n+d)-1=(2 ^ n-1)+2 ^ n*(2 ^ d-1):=by rw[Int.pow_add];grind
 rw[h,Int.add_mul_emod_self_left,Int.emod_eq_of_lt (by omega) (by omega)]
theorem aLP {n a b:Int} (ha:0≤a) (hb:1≤b∧b≤16) (hab:a+b≤8*n):mS (G 75 [255,n,n]) n a b=2 ^ b.toNat-1:=by
 unfold mS
 rw[if_neg (by omega)]
 have hk:a / 8+(((a+b+7) / 8-a / 8).toNat:Int)≤n:=by omega
 rw[wC (by omega) hk]
 obtain⟨k,hk'⟩:∃ k,k=((a+b+7) / 8-a / 8).toNat:=⟨_,rfl⟩
 obtain⟨s,hs⟩:∃ s,s=((0-(a+b)) % 8).toNat:=⟨_,rfl⟩
 rw[←hk',←hs]
 have he:8*k=s+(8*k-s):=by omega
 have hle:b.toNat≤8*k-s:=by omega
 have e256:(256:Int) ^ k=2 ^ (s+(8*k-s)):=by
  rw[←he,Int.pow_mul];rfl
 rw[e256,aK6,aM0 hle]
 have q:=fC hb
 unfold gH;omega
def aCw (S L m:Int):Prop:=∀ k:Nat,(k:Int)<m→kR L k 0≤kR S k 0-1∧kR L k 1≤kR S k 0-1
theorem aWr {D S En nE IN m:Int} (hs:∀ k:Nat,(k:Int)<m→1≤kR S k 0∧kR S k 0≤256):aCw S (G 65 [D,S,En,nE,IN,m,m]) m:=by
 intro k hk
 obtain⟨e0,e1,_⟩:=aDW (D:=D) (S:=S) (En:=En) (nE:=nE) (IN:=IN) hk
 have h:=hs k hk
 show G 83 [_,_,0]≤_∧G 83 [_,_,1]≤_
 rw[e0,e1]
 show gH 0 255 (stS (nN D k 0) (nN D k 1) (kR S k 0) nE (nN En k 0) (nN En k 1) (nN IN k 0))≤_∧gH 0 255 (min (stS (nN D k 0) (nN D k 1) (kR S k 0) nE (nN En k 0) (nN En k 1) (nN IN k 0)+1) (kR S k 0-1))≤_
 unfold stS gH
 omega
section
variable {S L m nR bits nB j:Int}
theorem aTe (h:dP S L m) (hi:aCw S L m) (t:Nat):∀ {i:Nat},(i:Int)≤m→0≤pC (iB S L) t i∧pC (iB S L) t i+1≤dL (iB S L) i
 |0,_=>by simp [pC,dL]
 |i+1,hle=>by
  obtain⟨a,b⟩:=aTe h hi t (i:=i) (by omega)
  obtain⟨⟨q0,_⟩,⟨q1,_⟩,_,_⟩:=h i (by omega)
  obtain⟨p0,p1⟩:=hi i (by omega)
  have key:∀ n:Int,0≤n→n≤kR S i 0-1→0≤pC (iB S L) t i+n*dL (iB S L) i∧pC (iB S L) t i+n*dL (iB S L) i+1≤dL (iB S L) i*kR S i 0:=by
   intro n h0 h1
   have u:=Int.mul_nonneg h0 (show 0≤dL (iB S L) i by omega)
   have v:=Int.mul_le_mul_of_nonneg_right h1 (show 0≤dL (iB S L) i by omega)
   have w:(kR S i 0-1)*dL (iB S L) i=dL (iB S L) i*kR S i 0-dL (iB S L) i:=by grind
   omega
  simp only[pC,dL]
  split
  ·exact key _ q1 p1
  ·exact key _ q0 p0
theorem aBj:∀ i:Nat,aK nR bits S i=nR*bits*dL (iB S L) i
 |0=>by simp [aK,dL]
 |i+1=>by
  show aK nR bits S i*kR S i 0=nR*bits*(dL (iB S L) i*kR S i 0)
  rw[aBj i];grind
theorem aSD (h:dP S L m) (hi:aCw S L m) (hm:0≤m) (hN:aK nR bits S m.toNat≤8*nB) (hb:1≤bits) (hj:0≤j∧j<nR) (t:Nat):0≤(pC (iB S L) t m.toNat*nR+j)*bits∧(pC (iB S L) t m.toNat*nR+j)*bits+bits≤8*nB:=by
 obtain⟨a,b⟩:=aTe h hi t (i:=m.toNat) (by omega)
 rw[aBj (L:=L)]at hN
 have u:=Int.mul_nonneg a (show 0≤nR by omega)
 refine⟨Int.mul_nonneg (by omega) (by omega),?_⟩
 have v:=Int.mul_le_mul_of_nonneg_right b (show 0≤nR by omega)
 have v2:(pC (iB S L) t m.toNat+1)*nR=pC (iB S L) t m.toNat*nR+nR:=by grind
 have w:=Int.mul_le_mul_of_nonneg_right (show pC (iB S L) t m.toNat*nR+j+1≤dL (iB S L) m.toNat*nR by omega) (show 0≤bits by omega)
 have e1:(pC (iB S L) t m.toNat*nR+j+1)*bits=(pC (iB S L) t m.toNat*nR+j)*bits+bits:=by grind
 have e2:dL (iB S L) m.toNat*nR*bits=nR*bits*dL (iB S L) m.toNat:=by grind
 omega
theorem aA0 (h:dP S L m) (hm:0≤m∧m≤4) {B c:Int} (hc:∀ t:Nat,mS B nB ((pC (iB S L) t m.toNat*nR+j)*bits) bits=c):G 76 [S,B,nB,bits,nR,L,m,j,1*2 ^ m.toNat]=65536 ^ m.toNat*c:=by
 have h16:=aGe hm
 have e:(1:Int)*2 ^ m.toNat=((2 ^ m.toNat:Nat):Int):=by rw[Int.one_mul,Int.natCast_pow];rfl
 rw[e]at h16
 rw[e,g76 h hm (by omega),←aAe (iB S L) m.toNat c]
 unfold aEe sS
 refine oV (fun t _=>?_)
 exact congrArg (wM (iB S L) t m.toNat*·) (hc t)
end
theorem dec_zero {m bits lo hi:Int} (hb:1≤bits∧bits≤16) (hl : -2147483648≤lo∧lo≤2147483647) (c:Int) (hc:c=0):wU m bits lo hi (65536 ^ m.toNat*c)=lo:=by
 subst hc
 have p:=fC hb
 unfold wU
 rw[Int.mul_zero,Int.zero_mul,Int.zero_add]
 have a:=aCi (m:=m.toNat) (c:=2 ^ bits.toNat-1) (n:=(2 ^ bits.toNat-1)*65536 ^ m.toNat) (Int.le_refl _)
 have b:=aC6 (m:=m.toNat) (c:=2 ^ bits.toNat-1) (n:=(2 ^ bits.toNat-1)*65536 ^ m.toNat) (Int.le_refl _)
 have e:fqN m.toNat ((2 ^ bits.toNat-1)*65536 ^ m.toNat)=2 ^ bits.toNat-1:=by omega
 rw[e]
 have u:=aGd (n:=2 ^ bits.toNat-1) (d:=2*(2 ^ bits.toNat-1)) (k:=0) (by omega) (by omega)
 have v:=aGM (n:=2 ^ bits.toNat-1) (d:=2*(2 ^ bits.toNat-1)) (k:=0) (by omega) (by omega)
 rw[show fq (2 ^ bits.toNat-1) (2*(2 ^ bits.toNat-1))=0 by omega,Int.add_zero,←iE]
 omega
theorem aJn {m bits lo hi:Int} (hb:1≤bits∧bits≤16) (hl : -2147483648≤hi∧hi≤2147483647) (c:Int) (hc:c=2 ^ bits.toNat-1):wU m bits lo hi (65536 ^ m.toNat*c)=hi:=by
 subst hc
 have p:=fC hb
 unfold wU
 generalize hg:(2:Int) ^ bits.toNat-1=g at *
 have g1:1≤g:=by omega
 have e0:65536 ^ m.toNat*g*(2*(hi-lo))+g*65536 ^ m.toNat=g*(2*(hi-lo)+1)*65536 ^ m.toNat:=by grind
 rw[e0]
 have a:=aCi (m:=m.toNat) (c:=g*(2*(hi-lo)+1)) (n:=g*(2*(hi-lo)+1)*65536 ^ m.toNat) (Int.le_refl _)
 have b:=aC6 (m:=m.toNat) (c:=g*(2*(hi-lo)+1)) (n:=g*(2*(hi-lo)+1)*65536 ^ m.toNat) (Int.le_refl _)
 have e:fqN m.toNat (g*(2*(hi-lo)+1)*65536 ^ m.toNat)=g*(2*(hi-lo)+1):=by omega
 rw[e]
 have x1:g*(2*(hi-lo)+1)=(hi-lo)*(2*g)+g:=by grind
 have x2:(hi-lo+1)*(2*g)=(hi-lo)*(2*g)+2*g:=by grind
 have u:=aGd (n:=g*(2*(hi-lo)+1)) (d:=2*g) (k:=hi-lo) (by omega) (by omega)
 have v:=aGM (n:=g*(2*(hi-lo)+1)) (d:=2*g) (k:=hi-lo) (by omega) (by omega)
 rw[show fq (g*(2*(hi-lo)+1)) (2*g)=hi-lo by omega,show lo+(hi-lo)=hi by omega,←iE]
 omega
def aBY (R C nR x15 X:Int):Prop:=∀ j:Nat,(j:Int)<nR→G 82 [X,j,0]=max (G 82 [R,j,0]) (min (if 0<x15 then G 82 [C,j,1] else G 82 [C,j,0]) (G 82 [R,j,1]))
theorem aBf {D S En nE IN m R nR nB bits C x15:Int} (hs:∀ k:Nat,(k:Int)<m→1≤kR S k 0∧kR S k 0≤256) (hm:0≤m∧m≤4) (hR:∀ k:Nat,(k:Int)<nR→nN R k 0≤nN R k 1)
  (hN:aK nR bits S m.toNat≤8*nB) (hb:1≤bits∧bits≤16) (h15:x15=0∨x15=1):
  aBY R C nR x15 (G 73 [S,G 75 [255*x15,nB,nB],nB,bits,C,R,nR,G 65 [D,S,En,nE,IN,m,m],m,nR]):=by
 intro j hj
 rw[aIj hj]
 have hr:dP S (G 65 [D,S,En,nE,IN,m,m]) m:=aJs hs
 have hi:aCw S (G 65 [D,S,En,nE,IN,m,m]) m:=aWr hs
 have h:=hR j hj
 have c0:=aCT C j 0
 have c1:=aCT C j 1
 unfold oZ
 show min (max (wU m bits (nN C j 0) (nN C j 1) (G 76 [S,G 75 [255*x15,nB,nB],nB,bits,nR,G 65 [D,S,En,nE,IN,m,m],m,j,1*2 ^ m.toNat])) (nN R j 0)) (nN R j 1)=max (nN R j 0) (min (if 0<x15 then nN C j 1 else nN C j 0) (nN R j 1))
 rcases h15 with rfl|rfl
 ·rw[show (255:Int)*0=0 from rfl,aA0 hr hm (c:=0) (fun t=>aMX _ _ _),dec_zero hb c0 0 rfl,if_neg (by decide)]
  omega
 ·rw[show (255:Int)*1=255 from rfl,aA0 hr hm (c:=2 ^ bits.toNat-1) (fun t=>by
   have q:=aSD hr hi hm.1 hN hb.1 (j:=(j:Int)) ⟨by omega,hj⟩ t
   exact aLP q.1 hb q.2),aJn hb c1 _ rfl,if_pos (by decide)]
  omega
end Go.Proofs.Ytdldallkeheciaa
namespace Go.Proofs.Ytdldallkeheciaa
open Go Go.RowKit Sx Wi Lk
def aXp:St:=⟨[.any,.any,(.bool (.cmp .lt (.lit 0) (.var 15))),(.ptr 11 0),.any,.any,.any,.any,.any,.any,(.own 13 (.var 2) (some (.var 2))),.any,(.int .i64 (.var 16)),.any,.any,.any,.any,.any,.any,.any,.any,.any,.any,.any,.any,.any,.any,.any,.any,.any,.any,.any,.any,.any,.any,.any,.any,.any,.any,.any,.any,.any,.any,.any,.any,.any,.any,.any,.any,.any,.any,.any,.any,.any,.any,.any,.any,.any,.any,.any,.any,.any,.any,.any,.any,.any,.any,.any,.any,.any,.any,.any,.any,.any,.any,.any,.any,.any,.any,.any,.any,.any,.any,.any,.any,.any,.any,.any,.any,.any,.any,.any,.any,.any,.any,.any,.any,.any,.any],[some ([.vec [.int .i32,.int .i32] (.var 17) (.var 1) true],aF),some ([.vec [.int .i32,.int .i32] (.var 18) (.var 2) true],aF),some ([.vec [.int .i64] (.var 19) (.var 3) true],aF),some ([.vec [.int .i32,.int .i32] (.var 20) (.var 5) true],aF),some ([.vec [.int .i32,.int .i32] (.var 21) (.var 6) true],aF),some ([.vec [.int .u8] (.var 22) (.var 7) true],aF),some ([.vec [.int .i64] (.lit 0) (.lit 0) true],aF),some ([.vec [.int .i64] (.lit 0) (.lit 0) true],aF),some ([.vec [.int .i64] (.lit 0) (.lit 0) true],aF),some ([.vec [.int .i64] (.lit 0) (.lit 0) true],aF),some ([.vec [.int .i32] (.var 23) (.var 14) true],aF),some ([(.int .u8 (.var 0)),(.own 0 (.var 1) none),(.own 1 (.var 2) none),(.own 2 (.var 3) none),(.int .i64 (.var 4)),(.own 3 (.var 5) none),(.own 4 (.var 6) none),(.own 12 (.var 7) (some (.var 7))),(.own 6 (.var 8) none),(.own 7 (.var 9) none),(.int .i32 (.var 10)),(.own 8 (.var 11) none),(.own 9 (.var 12) none),(.text (.var 13))],30),some ([.vec [.int .u8] (.app 75 (.cons (.op .mul (.lit 255) (.var 15)) (.cons (.var 7) (.cons (.var 7) .nil)))) (.var 7) true],aU+5),some ([.vec [.int .i32] (.var 24) (.var 2) true],aU+27)]⟩
def aWW:St:=⟨[.any,.any,.any,.any,.any,.any,.any,.any,.any,.any,.any,.any,.any,.any,.any,.any,.any,.any,.any,.any,.any,.any,.any,.any,.any,.any,.any,.any,.any,.any,.any,.any,.any,.any,.any,.any,.any,.any,.any,.any,.any,.any,.any,.any,.any,.any,.any,.any,.any,.any,.any,.any,.any,.any,.any,.any,.any,.any,.any,.any,.any,.any,.any,.any,.any,.any,.any,.any,.any,.any,.any,.any,.any,.any,.any,.any,.any,.any,.any,.any,.any,.any,.any,.any,.any,.any,.any,.any,.any,.any,.any,.any,.any,.any,.any,.any,.any,.any,.any],[some ([.vec [.int .i32,.int .i32] (.var 16) (.var 1) true],aF),some ([.vec [.int .i32,.int .i32] (.var 17) (.var 2) true],aF),some ([.vec [.int .i64] (.var 18) (.var 3) true],aF),some ([.vec [.int .i32,.int .i32] (.var 19) (.var 5) true],aF),some ([.vec [.int .i32,.int .i32] (.var 20) (.var 6) true],aF),some ([.vec [.int .u8] (.var 21) (.var 7) true],aF),some ([.vec [.int .i64] (.lit 0) (.lit 0) true],aF),some ([.vec [.int .i64] (.lit 0) (.lit 0) true],aF),some ([.vec [.int .i64] (.lit 0) (.lit 0) true],aF),some ([.vec [.int .i64] (.lit 0) (.lit 0) true],aF),some ([.vec [.int .i32] (.var 22) (.var 14) true],aF),none,none,none]⟩
def sV:List (Int × Int):=[(0,255),(0,9223372036854775807),(0,9223372036854775807),(0,17592186043904),((-9223372036854775808),9223372036854775807),(0,9223372036854775807),(0,9223372036854775807),(0,70000),(0,9223372036854775807),(0,9223372036854775807),((-2147483648),2147483647),(0,9223372036854775807),(0,9223372036854775807),(0,9223372036854775807),(0,9223372036854775807),(0,1),(0,4)]
def aVl:LoopS:=⟨16,14,aXp,.lit true,.exit 2,aWW,.exit 2,aWW⟩
def aME:LoopU:=⟨aVl,[(.var 0),(.var 1),(.var 2),(.var 3),(.var 4),(.var 5),(.var 6),(.var 7),(.var 8),(.var 9),(.var 10),(.var 11),(.var 12),(.var 13),(.var 14),(.var 15),(.lit 0),(.var 16),(.var 17),(.var 18),(.var 19),(.var 20),(.var 21),(.var 22),(.app 73 (.cons (.var 18) (.cons (.app 75 (.cons (.op .mul (.lit 255) (.var 15)) (.cons (.var 7) (.cons (.var 7) .nil)))) (.cons (.var 7) (.cons (.var 4) (.cons (.var 17) (.cons (.var 17) (.cons (.var 2) (.cons (.app 65 (.cons (.var 16) (.cons (.var 18) (.cons (.var 19) (.cons (.var 5) (.cons (.var 22) (.cons (.var 14) (.cons (.var 14) .nil)))))))) (.cons (.var 3) (.cons (.var 2) .nil)))))))))))],sV,(.and (.and (.and (.cmp .eq (.var 0) (.lit 1)) (.and (.cmp .lt (.lit 0) (.var 1)) (.and (.cmp .le (.var 1) (.lit 4)) (.and (B.neg (.or (.and (.cmp .lt (.lit 0) (.var 1)) (.cmp .le (.app 82 (.cons (.var 17) (.cons (.lit 0) (.cons (.lit 1) .nil)))) (.app 82 (.cons (.var 17) (.cons (.lit 0) (.cons (.lit 0) .nil)))))) (.or (.and (.cmp .lt (.lit 1) (.var 1)) (.cmp .le (.app 82 (.cons (.var 17) (.cons (.lit 1) (.cons (.lit 1) .nil)))) (.app 82 (.cons (.var 17) (.cons (.lit 1) (.cons (.lit 0) .nil)))))) (.or (.and (.cmp .lt (.lit 2) (.var 1)) (.cmp .le (.app 82 (.cons (.var 17) (.cons (.lit 2) (.cons (.lit 1) .nil)))) (.app 82 (.cons (.var 17) (.cons (.lit 2) (.cons (.lit 0) .nil)))))) (.and (.cmp .lt (.lit 3) (.var 1)) (.cmp .le (.app 82 (.cons (.var 17) (.cons (.lit 3) (.cons (.lit 1) .nil)))) (.app 82 (.cons (.var 17) (.cons (.lit 3) (.cons (.lit 0) .nil)))))))))) (.and (.cmp .lt (.lit 0) (.var 2)) (.and (.cmp .le (.var 2) (.lit 4)) (.and (B.neg (.or (.and (.cmp .lt (.lit 0) (.var 2)) (.cmp .lt (.app 82 (.cons (.var 18) (.cons (.lit 0) (.cons (.lit 1) .nil)))) (.app 82 (.cons (.var 18) (.cons (.lit 0) (.cons (.lit 0) .nil)))))) (.or (.and (.cmp .lt (.lit 1) (.var 2)) (.cmp .lt (.app 82 (.cons (.var 18) (.cons (.lit 1) (.cons (.lit 1) .nil)))) (.app 82 (.cons (.var 18) (.cons (.lit 1) (.cons (.lit 0) .nil)))))) (.or (.and (.cmp .lt (.lit 2) (.var 2)) (.cmp .lt (.app 82 (.cons (.var 18) (.cons (.lit 2) (.cons (.lit 1) .nil)))) (.app 82 (.cons (.var 18) (.cons (.lit 2) (.cons (.lit 0) .nil)))))) (.and (.cmp .lt (.lit 3) (.var 2)) (.cmp .lt (.app 82 (.cons (.var 18) (.cons (.lit 3) (.cons (.lit 1) .nil)))) (.app 82 (.cons (.var 18) (.cons (.lit 3) (.cons (.lit 0) .nil)))))))))) (.and (.cmp .eq (.var 3) (.var 1)) (.and (B.neg (.or (.and (.cmp .lt (.lit 0) (.var 3)) (.or (.cmp .lt (.app 83 (.cons (.var 19) (.cons (.lit 0) (.cons (.lit 0) .nil)))) (.lit 1)) (.cmp .lt (.lit 256) (.app 83 (.cons (.var 19) (.cons (.lit 0) (.cons (.lit 0) .nil))))))) (.or (.and (.cmp .lt (.lit 1) (.var 3)) (.or (.cmp .lt (.app 83 (.cons (.var 19) (.cons (.lit 1) (.cons (.lit 0) .nil)))) (.lit 1)) (.cmp .lt (.lit 256) (.app 83 (.cons (.var 19) (.cons (.lit 1) (.cons (.lit 0) .nil))))))) (.or (.and (.cmp .lt (.lit 2) (.var 3)) (.or (.cmp .lt (.app 83 (.cons (.var 19) (.cons (.lit 2) (.cons (.lit 0) .nil)))) (.lit 1)) (.cmp .lt (.lit 256) (.app 83 (.cons (.var 19) (.cons (.lit 2) (.cons (.lit 0) .nil))))))) (.or (.and (.cmp .lt (.lit 3) (.var 3)) (.or (.cmp .lt (.app 83 (.cons (.var 19) (.cons (.lit 3) (.cons (.lit 0) .nil)))) (.lit 1)) (.cmp .lt (.lit 256) (.app 83 (.cons (.var 19) (.cons (.lit 3) (.cons (.lit 0) .nil))))))) (.or (.and (.cmp .lt (.lit 4) (.var 3)) (.or (.cmp .lt (.app 83 (.cons (.var 19) (.cons (.lit 4) (.cons (.lit 0) .nil)))) (.lit 1)) (.cmp .lt (.lit 256) (.app 83 (.cons (.var 19) (.cons (.lit 4) (.cons (.lit 0) .nil))))))) (.or (.and (.cmp .lt (.lit 5) (.var 3)) (.or (.cmp .lt (.app 83 (.cons (.var 19) (.cons (.lit 5) (.cons (.lit 0) .nil)))) (.lit 1)) (.cmp .lt (.lit 256) (.app 83 (.cons (.var 19) (.cons (.lit 5) (.cons (.lit 0) .nil))))))) (.or (.and (.cmp .lt (.lit 6) (.var 3)) (.or (.cmp .lt (.app 83 (.cons (.var 19) (.cons (.lit 6) (.cons (.lit 0) .nil)))) (.lit 1)) (.cmp .lt (.lit 256) (.app 83 (.cons (.var 19) (.cons (.lit 6) (.cons (.lit 0) .nil))))))) (.and (.cmp .lt (.lit 7) (.var 3)) (.or (.cmp .lt (.app 83 (.cons (.var 19) (.cons (.lit 7) (.cons (.lit 0) .nil)))) (.lit 1)) (.cmp .lt (.lit 256) (.app 83 (.cons (.var 19) (.cons (.lit 7) (.cons (.lit 0) .nil))))))))))))))) (.and (.or (.cmp .eq (.var 4) (.lit 1)) (.or (.cmp .eq (.var 4) (.lit 2)) (.or (.cmp .eq (.var 4) (.lit 4)) (.or (.cmp .eq (.var 4) (.lit 8)) (.or (.cmp .eq (.var 4) (.lit 12)) (.cmp .eq (.var 4) (.lit 16))))))) (.and (.or (.cmp .eq (.var 5) (.lit 0)) (.cmp .eq (.var 5) (.var 1))) (.or (.cmp .eq (.var 6) (.lit 0)) (.cmp .eq (.var 6) (.var 2)))))))))))))) (.and (.cmp .le (.app 63 (.cons (.var 2) (.cons (.var 4) (.cons (.var 19) (.cons (.var 3) .nil))))) (.lit 524288)) (.cmp .le (.app 63 (.cons (.var 2) (.cons (.var 4) (.cons (.var 19) (.cons (.var 3) .nil))))) (.op .mul (.lit 8) (.var 7))))) (.and (.cmp .eq (.var 14) (.var 1)) (.cmp .eq (.var 6) (.lit 0))))⟩
def aK0:LoopU:=⟨aVl,[(.var 0),(.var 1),(.var 2),(.var 3),(.var 4),(.var 5),(.var 6),(.var 7),(.var 8),(.var 9),(.var 10),(.var 11),(.var 12),(.var 13),(.var 14),(.var 15),(.lit 0),(.var 16),(.var 17),(.var 18),(.var 19),(.var 20),(.var 21),(.var 22),(.app 73 (.cons (.var 18) (.cons (.app 75 (.cons (.op .mul (.lit 255) (.var 15)) (.cons (.var 7) (.cons (.var 7) .nil)))) (.cons (.var 7) (.cons (.var 4) (.cons (.var 20) (.cons (.var 17) (.cons (.var 2) (.cons (.app 65 (.cons (.var 16) (.cons (.var 18) (.cons (.var 19) (.cons (.var 5) (.cons (.var 22) (.cons (.var 14) (.cons (.var 14) .nil)))))))) (.cons (.var 3) (.cons (.var 2) .nil)))))))))))],sV,(.and (.and (.and (.cmp .eq (.var 0) (.lit 1)) (.and (.cmp .lt (.lit 0) (.var 1)) (.and (.cmp .le (.var 1) (.lit 4)) (.and (B.neg (.or (.and (.cmp .lt (.lit 0) (.var 1)) (.cmp .le (.app 82 (.cons (.var 17) (.cons (.lit 0) (.cons (.lit 1) .nil)))) (.app 82 (.cons (.var 17) (.cons (.lit 0) (.cons (.lit 0) .nil)))))) (.or (.and (.cmp .lt (.lit 1) (.var 1)) (.cmp .le (.app 82 (.cons (.var 17) (.cons (.lit 1) (.cons (.lit 1) .nil)))) (.app 82 (.cons (.var 17) (.cons (.lit 1) (.cons (.lit 0) .nil)))))) (.or (.and (.cmp .lt (.lit 2) (.var 1)) (.cmp .le (.app 82 (.cons (.var 17) (.cons (.lit 2) (.cons (.lit 1) .nil)))) (.app 82 (.cons (.var 17) (.cons (.lit 2) (.cons (.lit 0) .nil)))))) (.and (.cmp .lt (.lit 3) (.var 1)) (.cmp .le (.app 82 (.cons (.var 17) (.cons (.lit 3) (.cons (.lit 1) .nil)))) (.app 82 (.cons (.var 17) (.cons (.lit 3) (.cons (.lit 0) .nil)))))))))) (.and (.cmp .lt (.lit 0) (.var 2)) (.and (.cmp .le (.var 2) (.lit 4)) (.and (B.neg (.or (.and (.cmp .lt (.lit 0) (.var 2)) (.cmp .lt (.app 82 (.cons (.var 18) (.cons (.lit 0) (.cons (.lit 1) .nil)))) (.app 82 (.cons (.var 18) (.cons (.lit 0) (.cons (.lit 0) .nil)))))) (.or (.and (.cmp .lt (.lit 1) (.var 2)) (.cmp .lt (.app 82 (.cons (.var 18) (.cons (.lit 1) (.cons (.lit 1) .nil)))) (.app 82 (.cons (.var 18) (.cons (.lit 1) (.cons (.lit 0) .nil)))))) (.or (.and (.cmp .lt (.lit 2) (.var 2)) (.cmp .lt (.app 82 (.cons (.var 18) (.cons (.lit 2) (.cons (.lit 1) .nil)))) (.app 82 (.cons (.var 18) (.cons (.lit 2) (.cons (.lit 0) .nil)))))) (.and (.cmp .lt (.lit 3) (.var 2)) (.cmp .lt (.app 82 (.cons (.var 18) (.cons (.lit 3) (.cons (.lit 1) .nil)))) (.app 82 (.cons (.var 18) (.cons (.lit 3) (.cons (.lit 0) .nil)))))))))) (.and (.cmp .eq (.var 3) (.var 1)) (.and (B.neg (.or (.and (.cmp .lt (.lit 0) (.var 3)) (.or (.cmp .lt (.app 83 (.cons (.var 19) (.cons (.lit 0) (.cons (.lit 0) .nil)))) (.lit 1)) (.cmp .lt (.lit 256) (.app 83 (.cons (.var 19) (.cons (.lit 0) (.cons (.lit 0) .nil))))))) (.or (.and (.cmp .lt (.lit 1) (.var 3)) (.or (.cmp .lt (.app 83 (.cons (.var 19) (.cons (.lit 1) (.cons (.lit 0) .nil)))) (.lit 1)) (.cmp .lt (.lit 256) (.app 83 (.cons (.var 19) (.cons (.lit 1) (.cons (.lit 0) .nil))))))) (.or (.and (.cmp .lt (.lit 2) (.var 3)) (.or (.cmp .lt (.app 83 (.cons (.var 19) (.cons (.lit 2) (.cons (.lit 0) .nil)))) (.lit 1)) (.cmp .lt (.lit 256) (.app 83 (.cons (.var 19) (.cons (.lit 2) (.cons (.lit 0) .nil))))))) (.or (.and (.cmp .lt (.lit 3) (.var 3)) (.or (.cmp .lt (.app 83 (.cons (.var 19) (.cons (.lit 3) (.cons (.lit 0) .nil)))) (.lit 1)) (.cmp .lt (.lit 256) (.app 83 (.cons (.var 19) (.cons (.lit 3) (.cons (.lit 0) .nil))))))) (.or (.and (.cmp .lt (.lit 4) (.var 3)) (.or (.cmp .lt (.app 83 (.cons (.var 19) (.cons (.lit 4) (.cons (.lit 0) .nil)))) (.lit 1)) (.cmp .lt (.lit 256) (.app 83 (.cons (.var 19) (.cons (.lit 4) (.cons (.lit 0) .nil))))))) (.or (.and (.cmp .lt (.lit 5) (.var 3)) (.or (.cmp .lt (.app 83 (.cons (.var 19) (.cons (.lit 5) (.cons (.lit 0) .nil)))) (.lit 1)) (.cmp .lt (.lit 256) (.app 83 (.cons (.var 19) (.cons (.lit 5) (.cons (.lit 0) .nil))))))) (.or (.and (.cmp .lt (.lit 6) (.var 3)) (.or (.cmp .lt (.app 83 (.cons (.var 19) (.cons (.lit 6) (.cons (.lit 0) .nil)))) (.lit 1)) (.cmp .lt (.lit 256) (.app 83 (.cons (.var 19) (.cons (.lit 6) (.cons (.lit 0) .nil))))))) (.and (.cmp .lt (.lit 7) (.var 3)) (.or (.cmp .lt (.app 83 (.cons (.var 19) (.cons (.lit 7) (.cons (.lit 0) .nil)))) (.lit 1)) (.cmp .lt (.lit 256) (.app 83 (.cons (.var 19) (.cons (.lit 7) (.cons (.lit 0) .nil))))))))))))))) (.and (.or (.cmp .eq (.var 4) (.lit 1)) (.or (.cmp .eq (.var 4) (.lit 2)) (.or (.cmp .eq (.var 4) (.lit 4)) (.or (.cmp .eq (.var 4) (.lit 8)) (.or (.cmp .eq (.var 4) (.lit 12)) (.cmp .eq (.var 4) (.lit 16))))))) (.and (.or (.cmp .eq (.var 5) (.lit 0)) (.cmp .eq (.var 5) (.var 1))) (.or (.cmp .eq (.var 6) (.lit 0)) (.cmp .eq (.var 6) (.var 2)))))))))))))) (.and (.cmp .le (.app 63 (.cons (.var 2) (.cons (.var 4) (.cons (.var 19) (.cons (.var 3) .nil))))) (.lit 524288)) (.cmp .le (.app 63 (.cons (.var 2) (.cons (.var 4) (.cons (.var 19) (.cons (.var 3) .nil))))) (.op .mul (.lit 8) (.var 7))))) (.and (.cmp .eq (.var 14) (.var 1)) (.cmp .lt (.lit 0) (.var 6))))⟩
def sX (P:Program) (fs:List B):Res SV:=cB G GI sV fs fun X=>oP P X GB gN dQ 4000 (cN (bW P 4) 1) aVl
def aTl:fH:=jM 8 (fS (bN GB) [aUd]) (jM 18 (fS (bN GB) [aME,aK0]) dQ)
def aWC:FunS:=⟨[(.agg [(.int .u8 (.var 0)),(.own 0 (.var 1) none),(.own 1 (.var 2) none),(.own 2 (.var 3) none),(.int .i64 (.var 4)),(.own 3 (.var 5) none),(.own 4 (.var 6) none),(.own 5 (.var 7) none),(.own 6 (.var 8) none),(.own 7 (.var 9) none),(.int .i32 (.var 10)),(.own 8 (.var 11) none),(.own 9 (.var 12) none),(.text (.var 13))]),(.own 10 (.var 14) none),(.bool (.cmp .lt (.lit 0) (.var 15)))],[some ([.vec [.int .i32,.int .i32] (.var 16) (.var 1) true],aF),some ([.vec [.int .i32,.int .i32] (.var 17) (.var 2) true],aF),some ([.vec [.int .i64] (.var 18) (.var 3) true],aF),some ([.vec [.int .i32,.int .i32] (.var 19) (.var 5) true],aF),some ([.vec [.int .i32,.int .i32] (.var 20) (.var 6) true],aF),some ([.vec [.int .u8] (.var 21) (.var 7) true],aF),some ([.vec [.int .i64] (.lit 0) (.lit 0) true],aF),some ([.vec [.int .i64] (.lit 0) (.lit 0) true],aF),some ([.vec [.int .i64] (.lit 0) (.lit 0) true],aF),some ([.vec [.int .i64] (.lit 0) (.lit 0) true],aF),some ([.vec [.int .i32] (.var 22) (.var 14) true],aF)],.lit true,.bool (.lit true),[some ([.vec [.int .i32,.int .i32] (.var 16) (.var 1) true],aF),some ([.vec [.int .i32,.int .i32] (.var 17) (.var 2) true],aF),some ([.vec [.int .i64] (.var 18) (.var 3) true],aF),some ([.vec [.int .i32,.int .i32] (.var 19) (.var 5) true],aF),some ([.vec [.int .i32,.int .i32] (.var 20) (.var 6) true],aF),some ([.vec [.int .u8] (.var 21) (.var 7) true],aF),some ([.vec [.int .i64] (.lit 0) (.lit 0) true],aF),some ([.vec [.int .i64] (.lit 0) (.lit 0) true],aF),some ([.vec [.int .i64] (.lit 0) (.lit 0) true],aF),some ([.vec [.int .i64] (.lit 0) (.lit 0) true],aF),some ([.vec [.int .i32] (.var 22) (.var 14) true],aF)],.bool (.lit true),[some ([.vec [.int .i32,.int .i32] (.var 16) (.var 1) true],aF),some ([.vec [.int .i32,.int .i32] (.var 17) (.var 2) true],aF),some ([.vec [.int .i64] (.var 18) (.var 3) true],aF),some ([.vec [.int .i32,.int .i32] (.var 19) (.var 5) true],aF),some ([.vec [.int .i32,.int .i32] (.var 20) (.var 6) true],aF),some ([.vec [.int .u8] (.var 21) (.var 7) true],aF),some ([.vec [.int .i64] (.lit 0) (.lit 0) true],aF),some ([.vec [.int .i64] (.lit 0) (.lit 0) true],aF),some ([.vec [.int .i64] (.lit 0) (.lit 0) true],aF),some ([.vec [.int .i64] (.lit 0) (.lit 0) true],aF),some ([.vec [.int .i32] (.var 22) (.var 14) true],aF)]⟩
def aJy (P:Program) (fs:List B):Res SV:=cB G GI [(0,255),(0,9223372036854775807),(0,9223372036854775807),(0,17592186043904),((-9223372036854775808),9223372036854775807),(0,9223372036854775807),(0,9223372036854775807),(0,9223372036854775807),(0,9223372036854775807),(0,9223372036854775807),((-2147483648),2147483647),(0,9223372036854775807),(0,9223372036854775807),(0,9223372036854775807),(0,9223372036854775807),(0,1)] fs fun X=>gJ P X GB aS5 aTl 4000 4 aWC
theorem aLa:bI (bW Try.prog 4)=[cN (bW Try.prog 4) 0,cN (bW Try.prog 4) 1]:=by kernel_rfl
end Go.Proofs.Ytdldallkeheciaa
set_option maxRecDepth 100000
namespace Go.Proofs.Ytdldallkeheciaa
open Go Go.RowKit Sx Wi Lk
def aAs (P:Program) (fs:List B):Res SV:=sX P fs
def aHX:List B:=[]
def fP:B:=(.cmp .lt (.var 16) (.var 2))
def aPa:List B:=aJ fP++aHX
def aCd:B:=(.cmp .le (.var 2) (.lit 4))
def aG0:List B:=aJ aCd++aPa
def jW:B:=(.cmp .eq (.var 6) (.lit 0))
def aGS:List B:=aJ jW++aG0
def jU:B:=(.cmp .lt (.lit 0) (.var 15))
def aSc:List B:=aJ jU++aGS
def aDe:B:=(.cmp .eq (.app 82 (.cons (.var 24) (.cons (.var 16) (.cons (.lit 0) .nil)))) (.op .max (.app 82 (.cons (.var 18) (.cons (.var 16) (.cons (.lit 0) .nil)))) (.op .min (.app 82 (.cons (.var 18) (.cons (.var 16) (.cons (.lit 1) .nil)))) (.app 82 (.cons (.var 18) (.cons (.var 16) (.cons (.lit 1) .nil)))))))
def aNB:List B:=aJ aDe++aSc
def mA:SV:=(.agg [(.int .i64 (.op .add (.var 16) (.lit 1))),(.int .i64 (.var 16)),(.int .i64 (.var 17)),(.int .i64 (.var 17)),(.int .i64 (.var 18)),(.int .i64 (.var 18)),(.int .i64 (.var 19)),(.int .i64 (.var 19)),(.int .i64 (.var 20)),(.int .i64 (.var 20)),(.int .i64 (.var 21)),(.int .i64 (.var 21)),(.int .i64 (.var 22)),(.int .i64 (.var 22)),(.int .i64 (.var 23)),(.int .i64 (.var 23)),(.int .i64 (.var 24)),(.int .i64 (.var 24))])
def aRu:List B:=aJ (B.neg jU)++aGS
def aC3:B:=(.cmp .eq (.app 82 (.cons (.var 24) (.cons (.var 16) (.cons (.lit 0) .nil)))) (.op .max (.app 82 (.cons (.var 18) (.cons (.var 16) (.cons (.lit 0) .nil)))) (.op .min (.app 82 (.cons (.var 18) (.cons (.var 16) (.cons (.lit 0) .nil)))) (.app 82 (.cons (.var 18) (.cons (.var 16) (.cons (.lit 1) .nil)))))))
def aPq:List B:=aJ aC3++aRu
def aLi:List B:=aJ (B.neg jW)++aG0
def xG:B:=(.cmp .eq (.var 6) (.var 2))
def aLU:List B:=aJ xG++aLi
def xB:B:=(.cmp .lt (.lit 0) (.var 6))
def aJr:List B:=aJ xB++aLU
def aCk:B:=(.cmp .lt (.var 16) (.var 6))
def aDH:List B:=aJ aCk++aJr
def aNg:List B:=aJ jU++aDH
def aBv:B:=(.cmp .eq (.app 82 (.cons (.var 24) (.cons (.var 16) (.cons (.lit 0) .nil)))) (.op .max (.app 82 (.cons (.var 18) (.cons (.var 16) (.cons (.lit 0) .nil)))) (.op .min (.app 82 (.cons (.var 21) (.cons (.var 16) (.cons (.lit 1) .nil)))) (.app 82 (.cons (.var 18) (.cons (.var 16) (.cons (.lit 1) .nil)))))))
def aM7:List B:=aJ aBv++aNg
def aJz:List B:=aJ (B.neg jU)++aDH
def zX:B:=(.cmp .eq (.app 82 (.cons (.var 24) (.cons (.var 16) (.cons (.lit 0) .nil)))) (.op .max (.app 82 (.cons (.var 18) (.cons (.var 16) (.cons (.lit 0) .nil)))) (.op .min (.app 82 (.cons (.var 21) (.cons (.var 16) (.cons (.lit 0) .nil)))) (.app 82 (.cons (.var 18) (.cons (.var 16) (.cons (.lit 1) .nil)))))))
def aJb:List B:=aJ zX++aJz
def aMM:List B:=aJ (B.neg fP)++aHX
def aHT:SV:=(.tuple [(.agg [(.int .i64 (.var 17)),(.int .i64 (.var 16)),(.int .i64 (.var 18)),(.int .i64 (.var 17)),(.int .i64 (.var 19)),(.int .i64 (.var 18)),(.int .i64 (.var 20)),(.int .i64 (.var 19)),(.int .i64 (.var 21)),(.int .i64 (.var 20)),(.int .i64 (.var 22)),(.int .i64 (.var 21)),(.int .i64 (.var 23)),(.int .i64 (.var 22))]),(.bool (.lit true))])
theorem aOD:aAs Try.prog aNB = .ok mA:=by kernel_rfl
theorem aPA:aAs Try.prog aPq = .ok mA:=by kernel_rfl
theorem aMv:aAs Try.prog aM7 = .ok mA:=by kernel_rfl
theorem aJv:aAs Try.prog aJb = .ok mA:=by kernel_rfl
theorem aNp:aAs Try.prog aMM = .ok aHT:=by kernel_rfl
end Go.Proofs.Ytdldallkeheciaa
set_option maxRecDepth 100000
namespace Go.Proofs.Ytdldallkeheciaa
open Go Go.RowKit Sx Wi Lk
def fD (P:Program) (fs:List B):Res SV:=aJy P fs
def aGX:List B:=[]
def aBr:B:=(.cmp .lt (.lit 8) (.var 1))
def aPh:List B:=aJ aBr++aGX
def aGU:List B:=aJ (B.neg aBr)++aGX
def aCR:B:=(.cmp .lt (.lit 8) (.var 2))
def aRa:List B:=aJ aCR++aGU
def aHM:List B:=aJ (B.neg aCR)++aGU
def aBE:B:=(.cmp .lt (.lit 8) (.var 3))
def aSm:List B:=aJ aBE++aHM
def aGZ:List B:=aJ (B.neg aBE)++aHM
def aBF:B:=(.cmp .lt (.lit 8) (.var 5))
def aSr:List B:=aJ aBF++aGZ
def aGB:List B:=aJ (B.neg aBF)++aGZ
def aCX:B:=(.cmp .lt (.lit 8) (.var 6))
def aRM:List B:=aJ aCX++aGB
def aDU:List B:=aJ (B.neg aCX)++aGB
def aBA:B:=(.cmp .lt (.lit 70000) (.var 7))
def aMA:List B:=aJ aBA++aDU
def aDQ:List B:=aJ (B.neg aBA)++aDU
def aCA:B:=(.cmp .lt (.lit 8) (.var 8))
def aLs:List B:=aJ aCA++aDQ
def aDF:List B:=aJ (B.neg aCA)++aDQ
def aB0:B:=(.cmp .lt (.lit 8) (.var 9))
def aLb:List B:=aJ aB0++aDF
def aD0:List B:=aJ (B.neg aB0)++aDF
def aCe:B:=(.cmp .lt (.lit 10) (.var 12))
def aLZ:List B:=aJ aCe++aD0
def aEw:List B:=aJ (B.neg aCe)++aD0
def aCH:B:=(.cmp .lt (.lit 10) (.var 11))
def aMk:List B:=aJ aCH++aEw
def aEd:List B:=aJ (B.neg aCH)++aEw
def yK:B:=(.cmp .lt (.lit 5000) (.var 13))
def aJZ:List B:=aJ yK++aEd
def aDu:List B:=aJ (B.neg yK)++aEd
def aAb:B:=(.cmp .lt (.lit 8) (.var 14))
def aLB:List B:=aJ aAb++aDu
def aDK:List B:=aJ (B.neg aAb)++aDu
def dR:B:=(.and (.and (.cmp .eq (.var 0) (.lit 1)) (.and (.cmp .lt (.lit 0) (.var 1)) (.and (.cmp .le (.var 1) (.lit 4)) (.and (B.neg (.or (.and (.cmp .lt (.lit 0) (.var 1)) (.cmp .le (.app 82 (.cons (.var 16) (.cons (.lit 0) (.cons (.lit 1) .nil)))) (.app 82 (.cons (.var 16) (.cons (.lit 0) (.cons (.lit 0) .nil)))))) (.or (.and (.cmp .lt (.lit 1) (.var 1)) (.cmp .le (.app 82 (.cons (.var 16) (.cons (.lit 1) (.cons (.lit 1) .nil)))) (.app 82 (.cons (.var 16) (.cons (.lit 1) (.cons (.lit 0) .nil)))))) (.or (.and (.cmp .lt (.lit 2) (.var 1)) (.cmp .le (.app 82 (.cons (.var 16) (.cons (.lit 2) (.cons (.lit 1) .nil)))) (.app 82 (.cons (.var 16) (.cons (.lit 2) (.cons (.lit 0) .nil)))))) (.and (.cmp .lt (.lit 3) (.var 1)) (.cmp .le (.app 82 (.cons (.var 16) (.cons (.lit 3) (.cons (.lit 1) .nil)))) (.app 82 (.cons (.var 16) (.cons (.lit 3) (.cons (.lit 0) .nil)))))))))) (.and (.cmp .lt (.lit 0) (.var 2)) (.and (.cmp .le (.var 2) (.lit 4)) (.and (B.neg (.or (.and (.cmp .lt (.lit 0) (.var 2)) (.cmp .lt (.app 82 (.cons (.var 17) (.cons (.lit 0) (.cons (.lit 1) .nil)))) (.app 82 (.cons (.var 17) (.cons (.lit 0) (.cons (.lit 0) .nil)))))) (.or (.and (.cmp .lt (.lit 1) (.var 2)) (.cmp .lt (.app 82 (.cons (.var 17) (.cons (.lit 1) (.cons (.lit 1) .nil)))) (.app 82 (.cons (.var 17) (.cons (.lit 1) (.cons (.lit 0) .nil)))))) (.or (.and (.cmp .lt (.lit 2) (.var 2)) (.cmp .lt (.app 82 (.cons (.var 17) (.cons (.lit 2) (.cons (.lit 1) .nil)))) (.app 82 (.cons (.var 17) (.cons (.lit 2) (.cons (.lit 0) .nil)))))) (.and (.cmp .lt (.lit 3) (.var 2)) (.cmp .lt (.app 82 (.cons (.var 17) (.cons (.lit 3) (.cons (.lit 1) .nil)))) (.app 82 (.cons (.var 17) (.cons (.lit 3) (.cons (.lit 0) .nil)))))))))) (.and (.cmp .eq (.var 3) (.var 1)) (.and (B.neg (.or (.and (.cmp .lt (.lit 0) (.var 3)) (.or (.cmp .lt (.app 83 (.cons (.var 18) (.cons (.lit 0) (.cons (.lit 0) .nil)))) (.lit 1)) (.cmp .lt (.lit 256) (.app 83 (.cons (.var 18) (.cons (.lit 0) (.cons (.lit 0) .nil))))))) (.or (.and (.cmp .lt (.lit 1) (.var 3)) (.or (.cmp .lt (.app 83 (.cons (.var 18) (.cons (.lit 1) (.cons (.lit 0) .nil)))) (.lit 1)) (.cmp .lt (.lit 256) (.app 83 (.cons (.var 18) (.cons (.lit 1) (.cons (.lit 0) .nil))))))) (.or (.and (.cmp .lt (.lit 2) (.var 3)) (.or (.cmp .lt (.app 83 (.cons (.var 18) (.cons (.lit 2) (.cons (.lit 0) .nil)))) (.lit 1)) (.cmp .lt (.lit 256) (.app 83 (.cons (.var 18) (.cons (.lit 2) (.cons (.lit 0) .nil))))))) (.or (.and (.cmp .lt (.lit 3) (.var 3)) (.or (.cmp .lt (.app 83 (.cons (.var 18) (.cons (.lit 3) (.cons (.lit 0) .nil)))) (.lit 1)) (.cmp .lt (.lit 256) (.app 83 (.cons (.var 18) (.cons (.lit 3) (.cons (.lit 0) .nil))))))) (.or (.and (.cmp .lt (.lit 4) (.var 3)) (.or (.cmp .lt (.app 83 (.cons (.var 18) (.cons (.lit 4) (.cons (.lit 0) .nil)))) (.lit 1)) (.cmp .lt (.lit 256) (.app 83 (.cons (.var 18) (.cons (.lit 4) (.cons (.lit 0) .nil))))))) (.or (.and (.cmp .lt (.lit 5) (.var 3)) (.or (.cmp .lt (.app 83 (.cons (.var 18) (.cons (.lit 5) (.cons (.lit 0) .nil)))) (.lit 1)) (.cmp .lt (.lit 256) (.app 83 (.cons (.var 18) (.cons (.lit 5) (.cons (.lit 0) .nil))))))) (.or (.and (.cmp .lt (.lit 6) (.var 3)) (.or (.cmp .lt (.app 83 (.cons (.var 18) (.cons (.lit 6) (.cons (.lit 0) .nil)))) (.lit 1)) (.cmp .lt (.lit 256) (.app 83 (.cons (.var 18) (.cons (.lit 6) (.cons (.lit 0) .nil))))))) (.and (.cmp .lt (.lit 7) (.var 3)) (.or (.cmp .lt (.app 83 (.cons (.var 18) (.cons (.lit 7) (.cons (.lit 0) .nil)))) (.lit 1)) (.cmp .lt (.lit 256) (.app 83 (.cons (.var 18) (.cons (.lit 7) (.cons (.lit 0) .nil))))))))))))))) (.and (.or (.cmp .eq (.var 4) (.lit 1)) (.or (.cmp .eq (.var 4) (.lit 2)) (.or (.cmp .eq (.var 4) (.lit 4)) (.or (.cmp .eq (.var 4) (.lit 8)) (.or (.cmp .eq (.var 4) (.lit 12)) (.cmp .eq (.var 4) (.lit 16))))))) (.and (.or (.cmp .eq (.var 5) (.lit 0)) (.cmp .eq (.var 5) (.var 1))) (.or (.cmp .eq (.var 6) (.lit 0)) (.cmp .eq (.var 6) (.var 2)))))))))))))) (.and (.cmp .le (.app 63 (.cons (.var 2) (.cons (.var 4) (.cons (.var 18) (.cons (.var 3) .nil))))) (.lit 524288)) (.cmp .le (.app 63 (.cons (.var 2) (.cons (.var 4) (.cons (.var 18) (.cons (.var 3) .nil))))) (.op .mul (.lit 8) (.var 7)))))
def aJC:List B:=aJ dR++aDK
def yE:B:=(.cmp .le (.lit 1) (.var 1))
def aLM:List B:=aJ yE++aJC
def zC:B:=(.cmp .le (.var 1) (.lit 4))
def aLk:List B:=aJ zC++aLM
def zB:B:=(.cmp .eq (.var 3) (.var 1))
def aMP:List B:=aJ zB++aLk
def xR:B:=(.cmp .le (.lit 1) (.var 3))
def aJp:List B:=aJ xR++aMP
def yZ:B:=(.cmp .le (.var 3) (.lit 4))
def aJ2:List B:=aJ yZ++aJp
def zW:B:=(.cmp .le (.lit 1) (.var 2))
def aLe:List B:=aJ zW++aJ2
def xU:B:=(.cmp .le (.var 2) (.lit 4))
def aL2:List B:=aJ xU++aLe
def xT:B:=(.cmp .le (.lit 1) (.var 4))
def aLx:List B:=aJ xT++aL2
def zV:B:=(.cmp .le (.var 4) (.lit 16))
def aEn:List B:=aJ zV++aLx
def lF:B:=(.cmp .eq (.var 14) (.var 1))
def aKk:List B:=aJ lF++aEn
def yO:B:=(.cmp .le (.lit 1) (.var 14))
def aLn:List B:=aJ yO++aKk
def yS:B:=(.cmp .le (.var 14) (.lit 4))
def aD1:List B:=aJ yS++aLn
def pY:B:=(.cmp .eq (.var 6) (.lit 0))
def aDM:List B:=aJ pY++aD1
def iY:B:=(.cmp .lt (.lit 0) (.var 15))
def aMp:List B:=aJ iY++aDM
def aMN:List B:=aJ (B.neg iY)++aDM
def aKK:List B:=aJ (B.neg pY)++aD1
def yR:B:=(.cmp .eq (.var 6) (.var 2))
def aMQ:List B:=aJ yR++aKK
def zK:B:=(.cmp .lt (.lit 0) (.var 6))
def aEo:List B:=aJ zK++aMQ
def aL9:List B:=aJ iY++aEo
def aL6:List B:=aJ (B.neg iY)++aEo
def aD7:List B:=aJ (B.neg lF)++aEn
def aLc:List B:=aJ iY++aD7
def aMI:List B:=aJ (B.neg iY)++aD7
def aMK:List B:=aJ (B.neg dR)++aDK
end Go.Proofs.Ytdldallkeheciaa
set_option maxRecDepth 100000
namespace Go.Proofs.Ytdldallkeheciaa
open Go Go.RowKit Sx Wi Lk
theorem aQa:fD Try.prog aPh = .ok (.tuple [(.agg []),(.bool (.lit true))]):=by kernel_rfl
theorem aNV:fD Try.prog aRa = .ok (.tuple [(.agg []),(.bool (.lit true))]):=by kernel_rfl
theorem aN6:fD Try.prog aSm = .ok (.tuple [(.agg []),(.bool (.lit true))]):=by kernel_rfl
theorem aOq:fD Try.prog aSr = .ok (.tuple [(.agg []),(.bool (.lit true))]):=by kernel_rfl
theorem aSz:fD Try.prog aRM = .ok (.tuple [(.agg []),(.bool (.lit true))]):=by kernel_rfl
theorem aL3:fD Try.prog aMA = .ok (.tuple [(.agg []),(.bool (.lit true))]):=by kernel_rfl
end Go.Proofs.Ytdldallkeheciaa
set_option maxRecDepth 100000
namespace Go.Proofs.Ytdldallkeheciaa
open Go Go.RowKit Sx Wi Lk
theorem aMS:fD Try.prog aLs = .ok (.tuple [(.agg []),(.bool (.lit true))]):=by kernel_rfl
theorem aJ9:fD Try.prog aLb = .ok (.tuple [(.agg []),(.bool (.lit true))]):=by kernel_rfl
theorem aLK:fD Try.prog aLZ = .ok (.tuple [(.agg []),(.bool (.lit true))]):=by kernel_rfl
theorem aK4:fD Try.prog aMk = .ok (.tuple [(.agg []),(.bool (.lit true))]):=by kernel_rfl
theorem aJL:fD Try.prog aJZ = .ok (.tuple [(.agg []),(.bool (.lit true))]):=by kernel_rfl
theorem aKo:fD Try.prog aLB = .ok (.tuple [(.agg []),(.bool (.lit true))]):=by kernel_rfl
end Go.Proofs.Ytdldallkeheciaa
set_option maxRecDepth 100000
namespace Go.Proofs.Ytdldallkeheciaa
open Go Go.RowKit Sx Wi Lk
theorem aKY:fD Try.prog aMp = .ok (.tuple [(.agg []),(.bool (.lit true))]):=by kernel_rfl
theorem aNa:fD Try.prog aMN = .ok (.tuple [(.agg []),(.bool (.lit true))]):=by kernel_rfl
theorem aKM:fD Try.prog aL9 = .ok (.tuple [(.agg []),(.bool (.lit true))]):=by kernel_rfl
theorem aMj:fD Try.prog aL6 = .ok (.tuple [(.agg []),(.bool (.lit true))]):=by kernel_rfl
theorem aJE:fD Try.prog aLc = .ok (.tuple [(.agg []),(.bool (.lit true))]):=by kernel_rfl
theorem aJ6:fD Try.prog aMI = .ok (.tuple [(.agg []),(.bool (.lit true))]):=by kernel_rfl
end Go.Proofs.Ytdldallkeheciaa
set_option maxRecDepth 100000
namespace Go.Proofs.Ytdldallkeheciaa
open Go Go.RowKit Sx Wi Lk
theorem aLm:fD Try.prog aMK = .ok (.tuple [(.agg []),(.bool (.lit true))]):=by kernel_rfl
end Go.Proofs.Ytdldallkeheciaa
