/- What is proved: triangles of patches,laid in whatever order,leave the same samples,in plain Lean. No condition but those that are stated. -/
import Derived.Test.YtoiecphddchknaaQa10
import Derived.Test.YtoiecphddchknaaQNn
set_option linter.unusedSimpArgs false
set_option linter.unusedVariables false
namespace Go.Proofs.Ytoiecphddchknaa
open Go Go.RowKit Sx Wi
theorem qT (r:List Int) (w h:Int) (hr:12≤r.length):(bO r w h).take 6=r.take 6:=by
 unfold bO;rw[List.take_append_of_le_length (by rw[List.length_take];omega),List.take_take,show min 6 12=6 from rfl]
theorem aCl (r:List Int) (w h:Int) (hr:12≤r.length):6≤(bO r w h).length:=by unfold bO;rw[List.length_append,List.length_take];omega
theorem aEN (r:List Int) (w h:Int) (hr:12≤r.length) (k:Nat) (hk:k<12):(bO r w h).getD k 0=r.getD k 0:=by
 unfold bO
 rw[List.getD_eq_getElem?_getD,List.getElem?_append_left (by rw[List.length_take];omega),List.getElem?_take,if_pos hk,←List.getD_eq_getElem?_getD]
theorem kJ (r:List Int) (w h:Int) (hr:12≤r.length) (k:Nat):(bO r w h).getD (12+k) 0=([dB r 12,dB r 15,dB r 18,dB r 21,dB r 24,dB r 27,dB r 30,dB r 33,dB r 36,dB r 39,dB r 42,dB r 45,dB r 48,dB r 51,dB r 54,dB r 57,r.getD 14 0,r.getD 17 0,r.getD 20 0,r.getD 23 0,r.getD 60 0,r.getD 61 0,w,h]:List Int).getD k 0:=by
 unfold bO
 rw[List.getD_eq_getElem?_getD,List.getElem?_append_right (by rw[List.length_take];omega),List.length_take,Nat.min_eq_left (by omega),show 12+k-12=k by omega,←List.getD_eq_getElem?_getD]
def wE (r:List Int) (y x:Int):Prop:=iS r∧eV (r.take 6++[x*256+128,y*256+128])≠0
def uF (r:List Int) (y x:Int):Int:=uL (bO r 12 12) y x
def vF (r:List Int) (y x:Int):Int:=vL (bO r 12 12) y x
def qK (r:List Int) (y x:Int):List Int:=uJ (bO r 12 12) (uF r y x) (vF r y x)
def kR (f v u f' v' u':Int):Prop:=f<f'∨(f=f'∧(v<v'∨(v=v'∧u≤u')))
def pA (r:List Int):Prop:=r.length=62 ∧ -9223372036854775808≤r.getD 61 0∧r.getD 61 0≤9223372036854775807
def aDv (M:List (List Int)) (y x:Int) (row:List Int):Prop:=
 (row=[0,0,0,0,0,0,0,0]∧∀ r,r ∈ M→¬wE r y x)∨
 ∃ r,r ∈ M∧wE r y x∧row=qK r y x∧∀ r',r' ∈ M→wE r' y x→kR (r'.getD 61 0) (vF r' y x) (uF r' y x) (r.getD 61 0) (vF r y x) (uF r y x)
theorem aQn {r:List Int} (hr:pA r) (hk:iS r) (y x:Int):(0≤uF r y x∧uF r y x≤65536)∧(0≤vF r y x∧vF r y x≤65536):=by
 have hb:=hk.2.1
 have hl:12≤r.length:=by rw[hr.1];decide
 have b:∀ k,6≤k→k<12→0≤(bO r 12 12).getD k 0∧(bO r 12 12).getD k 0≤65536:=fun k h1 h2=>by rw[aEN r 12 12 hl k h2];exact hb k h1 h2
 exact⟨tW (b 6 (by decide) (by decide)) (b 7 (by decide) (by decide)) (b 8 (by decide) (by decide)) (by decide) (by decide),tW (b 9 (by decide) (by decide)) (b 10 (by decide) (by decide)) (b 11 (by decide) (by decide)) (by decide) (by decide)⟩
theorem vJ {r:List Int} (hr:pA r):(bO r 12 12).getD 33 0=r.getD 61 0:=by
 rw[show (33:Nat)=12+21 from rfl,kJ _ _ _ (by rw[hr.1];decide)];rfl
theorem aIS {r:List Int} (hr:pA r) (hk:iS r) (y x f u v:Int):yP (qK r y x) f u v↔kR (r.getD 61 0) (vF r y x) (uF r y x) f v u:=by
 obtain⟨hu,hv⟩:=aQn hr hk y x
 have e0:(qK r y x).getD 0 0=1:=rfl
 have e1:IntKind.i64.wrap ((qK r y x).getD 1 0)=r.getD 61 0:=by
  have e:(qK r y x).getD 1 0=(bO r 12 12).getD 33 0:=rfl
  rw[e,vJ hr]
  exact oQ .i64 _ hr.2.1 hr.2.2
 have e2:IntKind.i32.wrap ((qK r y x).getD 2 0)=uF r y x:=oQ .i32 _ (by show (-2147483648:Int)≤uF r y x;omega) (by show uF r y x≤(2147483647:Int);omega)
 have e3:IntKind.i32.wrap ((qK r y x).getD 3 0)=vF r y x:=oQ .i32 _ (by show (-2147483648:Int)≤vF r y x;omega) (by show vF r y x≤(2147483647:Int);omega)
 unfold yP kR
 rw[e0,e1,e2,e3]
 constructor<;>intro h<;>omega
theorem aHN {f v u f' v' u':Int} (h:¬kR f v u f' v' u'):kR f' v' u' f v u:=by unfold kR at *;omega
theorem aGH {f v u f' v' u' f'' v'' u'':Int} (h:kR f v u f' v' u') (g:kR f' v' u' f'' v'' u''):kR f v u f'' v'' u'':=by unfold kR at *;omega
theorem aCu (f v u:Int):kR f v u f v u:=by unfold kR;omega
theorem aGz {M:List (List Int)} {y x:Int} {row r:List Int} (hM:∀ r,r ∈ M→pA r) (hr:pA r) (hok:iS r) (h:aDv M y x row):aDv (M++[r]) y x (wJ (bO r 12 12) y x row):=by
 have hl:12≤r.length:=by rw[hr.1];decide
 have mem:∀ s,s ∈ M++[r]↔s ∈ M∨s=r:=fun s=>by simp
 by_cases hc:eV (r.take 6++[x*256+128,y*256+128])=0
 ·have e:wJ (bO r 12 12) y x row=row:=by unfold wJ;rw[qT _ _ _ hl,if_pos hc]
  have hn:¬wE r y x:=fun q=>q.2 hc
  rw[e]
  rcases h with⟨h1,h2⟩|⟨s,h1,h2,h3,h4⟩
  ·exact .inl ⟨h1,fun s hs q=>((mem s).1 hs).elim (fun z=>h2 s z q) fun z=>hn (z ▸ q)⟩
  ·exact .inr ⟨s,(mem s).2 (.inl h1),h2,h3,fun t ht q=>((mem t).1 ht).elim (fun z=>h4 t z q) fun z=>absurd (z ▸ q) hn⟩
 ·have hcl:wE r y x:=⟨hok,hc⟩
  have e:wJ (bO r 12 12) y x row=if yP row (r.getD 61 0) (uF r y x) (vF r y x) then qK r y x else row:=by
   unfold wJ;rw[qT _ _ _ hl,if_neg hc,vJ hr];rfl
  rw[e]
  rcases h with⟨h1,h2⟩|⟨s,h1,h2,h3,h4⟩
  ·have hw:yP row (r.getD 61 0) (uF r y x) (vF r y x) := .inl (by rw[h1];rfl)
   rw[if_pos hw]
   refine .inr ⟨r,(mem r).2 (.inr rfl),hcl,rfl,fun t ht q=>((mem t).1 ht).elim (fun z=>absurd q (h2 t z)) fun z=>?_⟩
   rw[z]
   exact aCu _ _ _
  ·have hwi:=aIS (hM s h1) h2.1 y x (r.getD 61 0) (uF r y x) (vF r y x)
   rw[←h3]at hwi
   by_cases hw:yP row (r.getD 61 0) (uF r y x) (vF r y x)
   ·rw[if_pos hw]
    refine .inr ⟨r,(mem r).2 (.inr rfl),hcl,rfl,fun t ht q=>((mem t).1 ht).elim (fun z=>aGH (h4 t z q) (hwi.1 hw)) fun z=>?_⟩
    rw[z]
    exact aCu _ _ _
   ·rw[if_neg hw]
    refine .inr ⟨s,(mem s).2 (.inl h1),h2,h3,fun t ht q=>((mem t).1 ht).elim (fun z=>h4 t z q) fun z=>?_⟩
    rw[z]
    exact aHN fun z=>hw (hwi.2 z)
theorem xH (L:List (List Int)) (C:Int) (hr:∀ r,r ∈ L→pA r) (hC:(Lc.dec C).length=144) (hb:∀ k,k<144→(Lc.dec C).getD k []=[0,0,0,0,0,0,0,0]):
  ∀ n:Nat,n≤L.length→(Lc.dec (dS L 12 12 C n)).length=144∧∀ k:Nat,k<144→aDv (L.take n) ((k / 12:Nat):Int) ((k % 12:Nat):Int) ((Lc.dec (dS L 12 12 C n)).getD k [])
 |0,_=>⟨hC,fun k hk => .inl ⟨hb k hk,fun r h=>by simp at h⟩⟩
 |n+1,hn=>by
  obtain⟨h1,h2⟩:=xH L C hr hC hb n (by omega)
  have eg:L.getD n []=L[n]:=by rw[List.getD_eq_getElem?_getD,List.getElem?_eq_getElem (by omega)];rfl
  have hrl:pA (L.getD n []):=hr _ (by rw[eg];exact List.getElem_mem _)
  have et:L.take (n+1)=L.take n++[L.getD n []]:=by rw[eg];exact(List.take_append_getElem (by omega)).symm
  have hM:∀ r,r ∈ L.take n→pA r:=fun r h=>hr r (List.mem_of_mem_take h)
  have hl:12≤(L.getD n []).length:=by rw[hrl.1];decide
  show (Lc.dec (jP (L.getD n []) 12 12 (dS L 12 12 C n))).length=144∧∀ k:Nat,k<144→aDv (L.take (n+1)) _ _ ((Lc.dec (jP (L.getD n []) 12 12 (dS L 12 12 C n))).getD k [])
  rw[et]
  generalize L.getD n []=r at *
  by_cases hok:iS r
  ·have a34:(bO r 12 12).getD 34 0=12:=by rw[show (34:Nat)=12+22 from rfl,kJ _ _ _ hl];rfl
   have a35:(bO r 12 12).getD 35 0=12:=by rw[show (35:Nat)=12+23 from rfl,kJ _ _ _ hl];rfl
   have hp:=aEE (C:=dS L 12 12 C n) (aCl r 12 12 hl) a34 a35 h1
   have e:jP r 12 12 (dS L 12 12 C n)=cD (bO r 12 12) (dS L 12 12 C n) (max (bA (bO r 12 12)) (eY (bO r 12 12))-bA (bO r 12 12)).toNat:=if_pos hok
   rw[e]
   refine⟨(hp 0 (by decide)).2,fun k hk=>?_⟩
   rw[(hp k hk).1]
   exact aGz hM hrl hok (h2 k hk)
  ·have e:jP r 12 12 (dS L 12 12 C n)=dS L 12 12 C n:=if_neg hok
   rw[e]
   refine⟨h1,fun k hk=>?_⟩
   rcases h2 k hk with⟨g1,g2⟩|⟨s,g1,g2,g3,g4⟩
   ·exact .inl ⟨g1,fun t ht q=>(List.mem_append.1 ht).elim (fun z=>g2 t z q) fun z=>hok ((List.mem_singleton.1 z) ▸ q.1)⟩
   ·exact .inr ⟨s,List.mem_append.2 (.inl g1),g2,g3,fun t ht q=>(List.mem_append.1 ht).elim (fun z=>g4 t z q) fun z=>absurd ((List.mem_singleton.1 z) ▸ q.1) hok⟩
theorem aG8 {M T:List (List Int)} {y x:Int} {row row':List Int} (hM:∀ r,r ∈ M→pA r) (hmem:∀ r,r ∈ M↔r ∈ T) (hs:∀ r,r ∈ M→∀ r',r' ∈ M→∀ k,12≤k→k<61→r.getD k 0=r'.getD k 0) (h:aDv M y x row) (g:aDv T y x row'):row=row':=by
 rcases h with⟨h1,h2⟩|⟨r,h1,h2,h3,h4⟩<;>rcases g with⟨g1,g2⟩|⟨s,g1,g2,g3,g4⟩
 ·rw[h1,g1]
 ·exact absurd g2 (h2 s ((hmem s).2 g1))
 ·exact absurd h2 (g2 r ((hmem r).1 h1))
 ·have q1:=h4 s ((hmem s).2 g1) g2
  have q2:=g4 r ((hmem r).1 h1) h2
  have hrs:=hM r h1
  have hss:=hM s ((hmem s).2 g1)
  have hk:=hs r h1 s ((hmem s).2 g1)
  have ef:r.getD 61 0=s.getD 61 0:=by unfold kR at *;omega
  have ev:vF r y x=vF s y x:=by unfold kR at *;omega
  have eu:uF r y x=uF s y x:=by unfold kR at *;omega
  have hl:12≤r.length:=by rw[hrs.1];decide
  have hl':12≤s.length:=by rw[hss.1];decide
  have n_:∀ k,12≤k→k<60→dB r k=dB s k:=fun k a b=>by unfold dB;rw[hk k a (by omega),hk (k+1) (by omega) (by omega)]
  have ea:∀ k,k<21→(bO r 12 12).getD (12+k) 0=(bO s 12 12).getD (12+k) 0:=by
   intro k hk21
   rw[kJ _ _ _ hl,kJ _ _ _ hl',n_ 12 (by decide) (by decide),n_ 15 (by decide) (by decide),n_ 18 (by decide) (by decide),n_ 21 (by decide) (by decide),n_ 24 (by decide) (by decide),n_ 27 (by decide) (by decide),n_ 30 (by decide) (by decide),n_ 33 (by decide) (by decide),n_ 36 (by decide) (by decide),n_ 39 (by decide) (by decide),n_ 42 (by decide) (by decide),n_ 45 (by decide) (by decide),n_ 48 (by decide) (by decide),n_ 51 (by decide) (by decide),n_ 54 (by decide) (by decide),n_ 57 (by decide) (by decide),hk 14 (by decide) (by decide),hk 17 (by decide) (by decide),hk 20 (by decide) (by decide),hk 23 (by decide) (by decide),hk 60 (by decide) (by decide),ef]
  have ec:∀ (u v:Int) (j:Nat),j<4→cL (bO r 12 12) u v j=cL (bO s 12 12) u v j:=by
   intro u v j hj
   unfold cL
   rw[show (32:Nat)=12+20 from rfl,show 16+j=12+(4+j)by omega,show 20+j=12+(8+j)by omega,show 24+j=12+(12+j)by omega,show 28+j=12+(16+j)by omega,ea 20 (by decide),ea j (by omega),ea (4+j) (by omega),ea (8+j) (by omega),ea (12+j) (by omega),ea (16+j) (by omega)]
  rw[h3,g3]
  unfold qK uJ
  rw[vJ hrs,vJ hss,ef,eu,ev,ec _ _ 0 (by decide),ec _ _ 1 (by decide),ec _ _ 2 (by decide),ec _ _ 3 (by decide)]
theorem aCx (r:List Int):iS r↔(-671088640≤r.getD 0 0∧r.getD 0 0≤671088640 ∧ -671088640≤r.getD 1 0∧r.getD 1 0≤671088640 ∧ -671088640≤r.getD 2 0∧r.getD 2 0≤671088640 ∧ -671088640≤r.getD 3 0∧r.getD 3 0≤671088640 ∧ -671088640≤r.getD 4 0∧r.getD 4 0≤671088640 ∧ -671088640≤r.getD 5 0∧r.getD 5 0≤671088640)∧0≤r.getD 6 0∧r.getD 6 0≤65536∧0≤r.getD 7 0∧r.getD 7 0≤65536∧0≤r.getD 8 0∧r.getD 8 0≤65536∧0≤r.getD 9 0∧r.getD 9 0≤65536∧0≤r.getD 10 0∧r.getD 10 0≤65536∧0≤r.getD 11 0∧r.getD 11 0≤65536∧1≤r.getD 60 0∧r.getD 60 0≤4∧(r.getD 60 0≤0∨(-1125899906842624≤r.getD 12 0*18446744073709551616+r.getD 13 0∧r.getD 12 0*18446744073709551616+r.getD 13 0≤1125899906842624 ∧ -1125899906842624≤r.getD 24 0*18446744073709551616+r.getD 25 0∧r.getD 24 0*18446744073709551616+r.getD 25 0≤1125899906842624 ∧ -1125899906842624≤r.getD 36 0*18446744073709551616+r.getD 37 0∧r.getD 36 0*18446744073709551616+r.getD 37 0≤1125899906842624 ∧ -1125899906842624≤r.getD 48 0*18446744073709551616+r.getD 49 0∧r.getD 48 0*18446744073709551616+r.getD 49 0≤1125899906842624∧1≤r.getD 14 0∧r.getD 14 0≤65535∧r.getD 26 0=r.getD 14 0∧r.getD 38 0=r.getD 14 0∧r.getD 50 0=r.getD 14 0))∧(r.getD 60 0≤1∨(-1125899906842624≤r.getD 15 0*18446744073709551616+r.getD 16 0∧r.getD 15 0*18446744073709551616+r.getD 16 0≤1125899906842624 ∧ -1125899906842624≤r.getD 27 0*18446744073709551616+r.getD 28 0∧r.getD 27 0*18446744073709551616+r.getD 28 0≤1125899906842624 ∧ -1125899906842624≤r.getD 39 0*18446744073709551616+r.getD 40 0∧r.getD 39 0*18446744073709551616+r.getD 40 0≤1125899906842624 ∧ -1125899906842624≤r.getD 51 0*18446744073709551616+r.getD 52 0∧r.getD 51 0*18446744073709551616+r.getD 52 0≤1125899906842624∧1≤r.getD 17 0∧r.getD 17 0≤65535∧r.getD 29 0=r.getD 17 0∧r.getD 41 0=r.getD 17 0∧r.getD 53 0=r.getD 17 0))∧(r.getD 60 0≤2∨(-1125899906842624≤r.getD 18 0*18446744073709551616+r.getD 19 0∧r.getD 18 0*18446744073709551616+r.getD 19 0≤1125899906842624 ∧ -1125899906842624≤r.getD 30 0*18446744073709551616+r.getD 31 0∧r.getD 30 0*18446744073709551616+r.getD 31 0≤1125899906842624 ∧ -1125899906842624≤r.getD 42 0*18446744073709551616+r.getD 43 0∧r.getD 42 0*18446744073709551616+r.getD 43 0≤1125899906842624 ∧ -1125899906842624≤r.getD 54 0*18446744073709551616+r.getD 55 0∧r.getD 54 0*18446744073709551616+r.getD 55 0≤1125899906842624∧1≤r.getD 20 0∧r.getD 20 0≤65535∧r.getD 32 0=r.getD 20 0∧r.getD 44 0=r.getD 20 0∧r.getD 56 0=r.getD 20 0))∧(r.getD 60 0≤3∨(-1125899906842624≤r.getD 21 0*18446744073709551616+r.getD 22 0∧r.getD 21 0*18446744073709551616+r.getD 22 0≤1125899906842624 ∧ -1125899906842624≤r.getD 33 0*18446744073709551616+r.getD 34 0∧r.getD 33 0*18446744073709551616+r.getD 34 0≤1125899906842624 ∧ -1125899906842624≤r.getD 45 0*18446744073709551616+r.getD 46 0∧r.getD 45 0*18446744073709551616+r.getD 46 0≤1125899906842624 ∧ -1125899906842624≤r.getD 57 0*18446744073709551616+r.getD 58 0∧r.getD 57 0*18446744073709551616+r.getD 58 0≤1125899906842624∧1≤r.getD 23 0∧r.getD 23 0≤65535∧r.getD 35 0=r.getD 23 0∧r.getD 47 0=r.getD 23 0∧r.getD 59 0=r.getD 23 0)):=by
 constructor
 ·rintro⟨hm,hu,h1,h4,hj⟩
  have m0:=hm 0 (by decide)
  have m1:=hm 1 (by decide)
  have m2:=hm 2 (by decide)
  have m3:=hm 3 (by decide)
  have m4:=hm 4 (by decide)
  have m5:=hm 5 (by decide)
  have m6:=hu 6 (by decide) (by decide)
  have m7:=hu 7 (by decide) (by decide)
  have m8:=hu 8 (by decide) (by decide)
  have m9:=hu 9 (by decide) (by decide)
  have m10:=hu 10 (by decide) (by decide)
  have m11:=hu 11 (by decide) (by decide)
  refine⟨by omega,m6.1,m6.2,m7.1,m7.2,m8.1,m8.2,m9.1,m9.2,m10.1,m10.2,m11.1,m11.2,h1,h4,?_,?_,?_,?_⟩
  ·by_cases z:r.getD 60 0≤0
   ·exact .inl z
   ·have g:=hj 0 (by decide) (by omega)
    unfold aBd rF dB at g
    simp only[Nat.reduceMul,Nat.reduceAdd]at g
    clear hm hu hj
    exact .inr (by omega)
  ·by_cases z:r.getD 60 0≤1
   ·exact .inl z
   ·have g:=hj 1 (by decide) (by omega)
    unfold aBd rF dB at g
    simp only[Nat.reduceMul,Nat.reduceAdd]at g
    clear hm hu hj
    exact .inr (by omega)
  ·by_cases z:r.getD 60 0≤2
   ·exact .inl z
   ·have g:=hj 2 (by decide) (by omega)
    unfold aBd rF dB at g
    simp only[Nat.reduceMul,Nat.reduceAdd]at g
    clear hm hu hj
    exact .inr (by omega)
  ·by_cases z:r.getD 60 0≤3
   ·exact .inl z
   ·have g:=hj 3 (by decide) (by omega)
    unfold aBd rF dB at g
    simp only[Nat.reduceMul,Nat.reduceAdd]at g
    clear hm hu hj
    exact .inr (by omega)
 ·rintro⟨hm,u0,u1,u2,u3,u4,u5,u6,u7,u8,u9,u10,u11,h1,h4,g0,g1,g2,g3⟩
  refine⟨fun k hk=>?_,fun k hk hk2=>?_,h1,h4,fun j hj hjk=>?_⟩
  ·clear g0 g1 g2 g3
   obtain rfl|rfl|rfl|rfl|rfl|rfl:k=0∨k=1∨k=2∨k=3∨k=4∨k=5:=by omega
   all_goals omega
  ·clear g0 g1 g2 g3
   obtain rfl|rfl|rfl|rfl|rfl|rfl:k=6∨k=7∨k=8∨k=9∨k=10∨k=11:=by omega
   all_goals omega
  ·unfold aBd rF dB
   obtain rfl|rfl|rfl|rfl:j=0∨j=1∨j=2∨j=3:=by omega
   ·have g:=g0.resolve_left (by omega)
    clear g0 g1 g2 g3 hm
    simp only[Nat.reduceMul,Nat.reduceAdd]
    omega
   ·have g:=g1.resolve_left (by omega)
    clear g0 g1 g2 g3 hm
    simp only[Nat.reduceMul,Nat.reduceAdd]
    omega
   ·have g:=g2.resolve_left (by omega)
    clear g0 g1 g2 g3 hm
    simp only[Nat.reduceMul,Nat.reduceAdd]
    omega
   ·have g:=g3.resolve_left (by omega)
    clear g0 g1 g2 g3 hm
    simp only[Nat.reduceMul,Nat.reduceAdd]
    omega
theorem aPt {r:List Int} (h:12≤r.length):r.take 12=[r.getD 0 0,r.getD 1 0,r.getD 2 0,r.getD 3 0,r.getD 4 0,r.getD 5 0,r.getD 6 0,r.getD 7 0,r.getD 8 0,r.getD 9 0,r.getD 10 0,r.getD 11 0]:=by
 match r,h with
 |a::b::c::d::e::f::a2::b2::c2::d2::e2::f2::l,_=>rfl
theorem aIw (L:List (List Int)) {i:Nat} (hi:i<60):(lP L).getD i []=aW (L.getD i []):=by
 unfold lP
 rw[List.getD_eq_getElem?_getD,List.getElem?_map,List.getElem?_range hi]
 rfl
theorem aAk (L i:Int) (hi:0≤i∧i<60):G 43 [L,i+1]=jP (aW ((Lc.dec L).getD i.toNat [])) 12 12 (G 43 [L,i]):=by
 show dS (lP (Lc.dec L)) 12 12 _ (i+1).toNat=_
 rw[show (i+1).toNat=i.toNat+1 by omega]
 show jP ((lP (Lc.dec L)).getD i.toNat []) 12 12 _=_
 rw[aIw _ (by omega)]
 rfl
theorem zO {L i:Int} (hi:0≤i∧i<60):iS (aW ((Lc.dec L).getD i.toNat []))↔(-671088640≤G 83 [L,i,0]∧G 83 [L,i,0]≤671088640 ∧ -671088640≤G 83 [L,i,1]∧G 83 [L,i,1]≤671088640 ∧ -671088640≤G 83 [L,i,2]∧G 83 [L,i,2]≤671088640 ∧ -671088640≤G 83 [L,i,3]∧G 83 [L,i,3]≤671088640 ∧ -671088640≤G 83 [L,i,4]∧G 83 [L,i,4]≤671088640 ∧ -671088640≤G 83 [L,i,5]∧G 83 [L,i,5]≤671088640)∧0≤G 82 [L,i,6]∧G 82 [L,i,6]≤65536∧0≤G 82 [L,i,7]∧G 82 [L,i,7]≤65536∧0≤G 82 [L,i,8]∧G 82 [L,i,8]≤65536∧0≤G 82 [L,i,9]∧G 82 [L,i,9]≤65536∧0≤G 82 [L,i,10]∧G 82 [L,i,10]≤65536∧0≤G 82 [L,i,11]∧G 82 [L,i,11]≤65536∧1≤G 83 [L,i,60]∧G 83 [L,i,60]≤4∧(G 83 [L,i,60]≤0∨(-1125899906842624≤G 83 [L,i,12]*18446744073709551616+G 87 [L,i,13]∧G 83 [L,i,12]*18446744073709551616+G 87 [L,i,13]≤1125899906842624 ∧ -1125899906842624≤G 83 [L,i,24]*18446744073709551616+G 87 [L,i,25]∧G 83 [L,i,24]*18446744073709551616+G 87 [L,i,25]≤1125899906842624 ∧ -1125899906842624≤G 83 [L,i,36]*18446744073709551616+G 87 [L,i,37]∧G 83 [L,i,36]*18446744073709551616+G 87 [L,i,37]≤1125899906842624 ∧ -1125899906842624≤G 83 [L,i,48]*18446744073709551616+G 87 [L,i,49]∧G 83 [L,i,48]*18446744073709551616+G 87 [L,i,49]≤1125899906842624∧1≤G 83 [L,i,14]∧G 83 [L,i,14]≤65535∧G 83 [L,i,26]=G 83 [L,i,14]∧G 83 [L,i,38]=G 83 [L,i,14]∧G 83 [L,i,50]=G 83 [L,i,14]))∧(G 83 [L,i,60]≤1∨(-1125899906842624≤G 83 [L,i,15]*18446744073709551616+G 87 [L,i,16]∧G 83 [L,i,15]*18446744073709551616+G 87 [L,i,16]≤1125899906842624 ∧ -1125899906842624≤G 83 [L,i,27]*18446744073709551616+G 87 [L,i,28]∧G 83 [L,i,27]*18446744073709551616+G 87 [L,i,28]≤1125899906842624 ∧ -1125899906842624≤G 83 [L,i,39]*18446744073709551616+G 87 [L,i,40]∧G 83 [L,i,39]*18446744073709551616+G 87 [L,i,40]≤1125899906842624 ∧ -1125899906842624≤G 83 [L,i,51]*18446744073709551616+G 87 [L,i,52]∧G 83 [L,i,51]*18446744073709551616+G 87 [L,i,52]≤1125899906842624∧1≤G 83 [L,i,17]∧G 83 [L,i,17]≤65535∧G 83 [L,i,29]=G 83 [L,i,17]∧G 83 [L,i,41]=G 83 [L,i,17]∧G 83 [L,i,53]=G 83 [L,i,17]))∧(G 83 [L,i,60]≤2∨(-1125899906842624≤G 83 [L,i,18]*18446744073709551616+G 87 [L,i,19]∧G 83 [L,i,18]*18446744073709551616+G 87 [L,i,19]≤1125899906842624 ∧ -1125899906842624≤G 83 [L,i,30]*18446744073709551616+G 87 [L,i,31]∧G 83 [L,i,30]*18446744073709551616+G 87 [L,i,31]≤1125899906842624 ∧ -1125899906842624≤G 83 [L,i,42]*18446744073709551616+G 87 [L,i,43]∧G 83 [L,i,42]*18446744073709551616+G 87 [L,i,43]≤1125899906842624 ∧ -1125899906842624≤G 83 [L,i,54]*18446744073709551616+G 87 [L,i,55]∧G 83 [L,i,54]*18446744073709551616+G 87 [L,i,55]≤1125899906842624∧1≤G 83 [L,i,20]∧G 83 [L,i,20]≤65535∧G 83 [L,i,32]=G 83 [L,i,20]∧G 83 [L,i,44]=G 83 [L,i,20]∧G 83 [L,i,56]=G 83 [L,i,20]))∧(G 83 [L,i,60]≤3∨(-1125899906842624≤G 83 [L,i,21]*18446744073709551616+G 87 [L,i,22]∧G 83 [L,i,21]*18446744073709551616+G 87 [L,i,22]≤1125899906842624 ∧ -1125899906842624≤G 83 [L,i,33]*18446744073709551616+G 87 [L,i,34]∧G 83 [L,i,33]*18446744073709551616+G 87 [L,i,34]≤1125899906842624 ∧ -1125899906842624≤G 83 [L,i,45]*18446744073709551616+G 87 [L,i,46]∧G 83 [L,i,45]*18446744073709551616+G 87 [L,i,46]≤1125899906842624 ∧ -1125899906842624≤G 83 [L,i,57]*18446744073709551616+G 87 [L,i,58]∧G 83 [L,i,57]*18446744073709551616+G 87 [L,i,58]≤1125899906842624∧1≤G 83 [L,i,23]∧G 83 [L,i,23]≤65535∧G 83 [L,i,35]=G 83 [L,i,23]∧G 83 [L,i,47]=G 83 [L,i,23]∧G 83 [L,i,59]=G 83 [L,i,23])):=by
 have a0:G 83 [L,i,0]=(aW ((Lc.dec L).getD i.toNat [])).getD 0 0:=aP 83 _ (by decide) (by decide)
 have a1:G 83 [L,i,1]=(aW ((Lc.dec L).getD i.toNat [])).getD 1 0:=aP 83 _ (by decide) (by decide)
 have a2:G 83 [L,i,2]=(aW ((Lc.dec L).getD i.toNat [])).getD 2 0:=aP 83 _ (by decide) (by decide)
 have a3:G 83 [L,i,3]=(aW ((Lc.dec L).getD i.toNat [])).getD 3 0:=aP 83 _ (by decide) (by decide)
 have a4:G 83 [L,i,4]=(aW ((Lc.dec L).getD i.toNat [])).getD 4 0:=aP 83 _ (by decide) (by decide)
 have a5:G 83 [L,i,5]=(aW ((Lc.dec L).getD i.toNat [])).getD 5 0:=aP 83 _ (by decide) (by decide)
 have a6:G 82 [L,i,6]=(aW ((Lc.dec L).getD i.toNat [])).getD 6 0:=aP 82 _ (by decide) (by decide)
 have a7:G 82 [L,i,7]=(aW ((Lc.dec L).getD i.toNat [])).getD 7 0:=aP 82 _ (by decide) (by decide)
 have a8:G 82 [L,i,8]=(aW ((Lc.dec L).getD i.toNat [])).getD 8 0:=aP 82 _ (by decide) (by decide)
 have a9:G 82 [L,i,9]=(aW ((Lc.dec L).getD i.toNat [])).getD 9 0:=aP 82 _ (by decide) (by decide)
 have a10:G 82 [L,i,10]=(aW ((Lc.dec L).getD i.toNat [])).getD 10 0:=aP 82 _ (by decide) (by decide)
 have a11:G 82 [L,i,11]=(aW ((Lc.dec L).getD i.toNat [])).getD 11 0:=aP 82 _ (by decide) (by decide)
 have a12:G 83 [L,i,12]=(aW ((Lc.dec L).getD i.toNat [])).getD 12 0:=aP 83 _ (by decide) (by decide)
 have a13:G 87 [L,i,13]=(aW ((Lc.dec L).getD i.toNat [])).getD 13 0:=aP 87 _ (by decide) (by decide)
 have a14:G 83 [L,i,14]=(aW ((Lc.dec L).getD i.toNat [])).getD 14 0:=aP 83 _ (by decide) (by decide)
 have a15:G 83 [L,i,15]=(aW ((Lc.dec L).getD i.toNat [])).getD 15 0:=aP 83 _ (by decide) (by decide)
 have a16:G 87 [L,i,16]=(aW ((Lc.dec L).getD i.toNat [])).getD 16 0:=aP 87 _ (by decide) (by decide)
 have a17:G 83 [L,i,17]=(aW ((Lc.dec L).getD i.toNat [])).getD 17 0:=aP 83 _ (by decide) (by decide)
 have a18:G 83 [L,i,18]=(aW ((Lc.dec L).getD i.toNat [])).getD 18 0:=aP 83 _ (by decide) (by decide)
 have a19:G 87 [L,i,19]=(aW ((Lc.dec L).getD i.toNat [])).getD 19 0:=aP 87 _ (by decide) (by decide)
 have a20:G 83 [L,i,20]=(aW ((Lc.dec L).getD i.toNat [])).getD 20 0:=aP 83 _ (by decide) (by decide)
 have a21:G 83 [L,i,21]=(aW ((Lc.dec L).getD i.toNat [])).getD 21 0:=aP 83 _ (by decide) (by decide)
 have a22:G 87 [L,i,22]=(aW ((Lc.dec L).getD i.toNat [])).getD 22 0:=aP 87 _ (by decide) (by decide)
 have a23:G 83 [L,i,23]=(aW ((Lc.dec L).getD i.toNat [])).getD 23 0:=aP 83 _ (by decide) (by decide)
 have a24:G 83 [L,i,24]=(aW ((Lc.dec L).getD i.toNat [])).getD 24 0:=aP 83 _ (by decide) (by decide)
 have a25:G 87 [L,i,25]=(aW ((Lc.dec L).getD i.toNat [])).getD 25 0:=aP 87 _ (by decide) (by decide)
 have a26:G 83 [L,i,26]=(aW ((Lc.dec L).getD i.toNat [])).getD 26 0:=aP 83 _ (by decide) (by decide)
 have a27:G 83 [L,i,27]=(aW ((Lc.dec L).getD i.toNat [])).getD 27 0:=aP 83 _ (by decide) (by decide)
 have a28:G 87 [L,i,28]=(aW ((Lc.dec L).getD i.toNat [])).getD 28 0:=aP 87 _ (by decide) (by decide)
 have a29:G 83 [L,i,29]=(aW ((Lc.dec L).getD i.toNat [])).getD 29 0:=aP 83 _ (by decide) (by decide)
 have a30:G 83 [L,i,30]=(aW ((Lc.dec L).getD i.toNat [])).getD 30 0:=aP 83 _ (by decide) (by decide)
 have a31:G 87 [L,i,31]=(aW ((Lc.dec L).getD i.toNat [])).getD 31 0:=aP 87 _ (by decide) (by decide)
 have a32:G 83 [L,i,32]=(aW ((Lc.dec L).getD i.toNat [])).getD 32 0:=aP 83 _ (by decide) (by decide)
 have a33:G 83 [L,i,33]=(aW ((Lc.dec L).getD i.toNat [])).getD 33 0:=aP 83 _ (by decide) (by decide)
 have a34:G 87 [L,i,34]=(aW ((Lc.dec L).getD i.toNat [])).getD 34 0:=aP 87 _ (by decide) (by decide)
 have a35:G 83 [L,i,35]=(aW ((Lc.dec L).getD i.toNat [])).getD 35 0:=aP 83 _ (by decide) (by decide)
 have a36:G 83 [L,i,36]=(aW ((Lc.dec L).getD i.toNat [])).getD 36 0:=aP 83 _ (by decide) (by decide)
 have a37:G 87 [L,i,37]=(aW ((Lc.dec L).getD i.toNat [])).getD 37 0:=aP 87 _ (by decide) (by decide)
 have a38:G 83 [L,i,38]=(aW ((Lc.dec L).getD i.toNat [])).getD 38 0:=aP 83 _ (by decide) (by decide)
 have a39:G 83 [L,i,39]=(aW ((Lc.dec L).getD i.toNat [])).getD 39 0:=aP 83 _ (by decide) (by decide)
 have a40:G 87 [L,i,40]=(aW ((Lc.dec L).getD i.toNat [])).getD 40 0:=aP 87 _ (by decide) (by decide)
 have a41:G 83 [L,i,41]=(aW ((Lc.dec L).getD i.toNat [])).getD 41 0:=aP 83 _ (by decide) (by decide)
 have a42:G 83 [L,i,42]=(aW ((Lc.dec L).getD i.toNat [])).getD 42 0:=aP 83 _ (by decide) (by decide)
 have a43:G 87 [L,i,43]=(aW ((Lc.dec L).getD i.toNat [])).getD 43 0:=aP 87 _ (by decide) (by decide)
 have a44:G 83 [L,i,44]=(aW ((Lc.dec L).getD i.toNat [])).getD 44 0:=aP 83 _ (by decide) (by decide)
 have a45:G 83 [L,i,45]=(aW ((Lc.dec L).getD i.toNat [])).getD 45 0:=aP 83 _ (by decide) (by decide)
 have a46:G 87 [L,i,46]=(aW ((Lc.dec L).getD i.toNat [])).getD 46 0:=aP 87 _ (by decide) (by decide)
 have a47:G 83 [L,i,47]=(aW ((Lc.dec L).getD i.toNat [])).getD 47 0:=aP 83 _ (by decide) (by decide)
 have a48:G 83 [L,i,48]=(aW ((Lc.dec L).getD i.toNat [])).getD 48 0:=aP 83 _ (by decide) (by decide)
 have a49:G 87 [L,i,49]=(aW ((Lc.dec L).getD i.toNat [])).getD 49 0:=aP 87 _ (by decide) (by decide)
 have a50:G 83 [L,i,50]=(aW ((Lc.dec L).getD i.toNat [])).getD 50 0:=aP 83 _ (by decide) (by decide)
 have a51:G 83 [L,i,51]=(aW ((Lc.dec L).getD i.toNat [])).getD 51 0:=aP 83 _ (by decide) (by decide)
 have a52:G 87 [L,i,52]=(aW ((Lc.dec L).getD i.toNat [])).getD 52 0:=aP 87 _ (by decide) (by decide)
 have a53:G 83 [L,i,53]=(aW ((Lc.dec L).getD i.toNat [])).getD 53 0:=aP 83 _ (by decide) (by decide)
 have a54:G 83 [L,i,54]=(aW ((Lc.dec L).getD i.toNat [])).getD 54 0:=aP 83 _ (by decide) (by decide)
 have a55:G 87 [L,i,55]=(aW ((Lc.dec L).getD i.toNat [])).getD 55 0:=aP 87 _ (by decide) (by decide)
 have a56:G 83 [L,i,56]=(aW ((Lc.dec L).getD i.toNat [])).getD 56 0:=aP 83 _ (by decide) (by decide)
 have a57:G 83 [L,i,57]=(aW ((Lc.dec L).getD i.toNat [])).getD 57 0:=aP 83 _ (by decide) (by decide)
 have a58:G 87 [L,i,58]=(aW ((Lc.dec L).getD i.toNat [])).getD 58 0:=aP 87 _ (by decide) (by decide)
 have a59:G 83 [L,i,59]=(aW ((Lc.dec L).getD i.toNat [])).getD 59 0:=aP 83 _ (by decide) (by decide)
 have a60:G 83 [L,i,60]=(aW ((Lc.dec L).getD i.toNat [])).getD 60 0:=aP 83 _ (by decide) (by decide)
 rw[aCx,a0,a1,a2,a3,a4,a5,a6,a7,a8,a9,a10,a11,a12,a13,a14,a15,a16,a17,a18,a19,a20,a21,a22,a23,a24,a25,a26,a27,a28,a29,a30,a31,a32,a33,a34,a35,a36,a37,a38,a39,a40,a41,a42,a43,a44,a45,a46,a47,a48,a49,a50,a51,a52,a53,a54,a55,a56,a57,a58,a59,a60]
theorem aO6 {L i:Int} (hi:0≤i∧i<60) (h:(-671088640≤G 83 [L,i,0]∧G 83 [L,i,0]≤671088640 ∧ -671088640≤G 83 [L,i,1]∧G 83 [L,i,1]≤671088640 ∧ -671088640≤G 83 [L,i,2]∧G 83 [L,i,2]≤671088640 ∧ -671088640≤G 83 [L,i,3]∧G 83 [L,i,3]≤671088640 ∧ -671088640≤G 83 [L,i,4]∧G 83 [L,i,4]≤671088640 ∧ -671088640≤G 83 [L,i,5]∧G 83 [L,i,5]≤671088640)∧0≤G 82 [L,i,6]∧G 82 [L,i,6]≤65536∧0≤G 82 [L,i,7]∧G 82 [L,i,7]≤65536∧0≤G 82 [L,i,8]∧G 82 [L,i,8]≤65536∧0≤G 82 [L,i,9]∧G 82 [L,i,9]≤65536∧0≤G 82 [L,i,10]∧G 82 [L,i,10]≤65536∧0≤G 82 [L,i,11]∧G 82 [L,i,11]≤65536∧1≤G 83 [L,i,60]∧G 83 [L,i,60]≤4∧(G 83 [L,i,60]≤0∨(-1125899906842624≤G 83 [L,i,12]*18446744073709551616+G 87 [L,i,13]∧G 83 [L,i,12]*18446744073709551616+G 87 [L,i,13]≤1125899906842624 ∧ -1125899906842624≤G 83 [L,i,24]*18446744073709551616+G 87 [L,i,25]∧G 83 [L,i,24]*18446744073709551616+G 87 [L,i,25]≤1125899906842624 ∧ -1125899906842624≤G 83 [L,i,36]*18446744073709551616+G 87 [L,i,37]∧G 83 [L,i,36]*18446744073709551616+G 87 [L,i,37]≤1125899906842624 ∧ -1125899906842624≤G 83 [L,i,48]*18446744073709551616+G 87 [L,i,49]∧G 83 [L,i,48]*18446744073709551616+G 87 [L,i,49]≤1125899906842624∧1≤G 83 [L,i,14]∧G 83 [L,i,14]≤65535∧G 83 [L,i,26]=G 83 [L,i,14]∧G 83 [L,i,38]=G 83 [L,i,14]∧G 83 [L,i,50]=G 83 [L,i,14]))∧(G 83 [L,i,60]≤1∨(-1125899906842624≤G 83 [L,i,15]*18446744073709551616+G 87 [L,i,16]∧G 83 [L,i,15]*18446744073709551616+G 87 [L,i,16]≤1125899906842624 ∧ -1125899906842624≤G 83 [L,i,27]*18446744073709551616+G 87 [L,i,28]∧G 83 [L,i,27]*18446744073709551616+G 87 [L,i,28]≤1125899906842624 ∧ -1125899906842624≤G 83 [L,i,39]*18446744073709551616+G 87 [L,i,40]∧G 83 [L,i,39]*18446744073709551616+G 87 [L,i,40]≤1125899906842624 ∧ -1125899906842624≤G 83 [L,i,51]*18446744073709551616+G 87 [L,i,52]∧G 83 [L,i,51]*18446744073709551616+G 87 [L,i,52]≤1125899906842624∧1≤G 83 [L,i,17]∧G 83 [L,i,17]≤65535∧G 83 [L,i,29]=G 83 [L,i,17]∧G 83 [L,i,41]=G 83 [L,i,17]∧G 83 [L,i,53]=G 83 [L,i,17]))∧(G 83 [L,i,60]≤2∨(-1125899906842624≤G 83 [L,i,18]*18446744073709551616+G 87 [L,i,19]∧G 83 [L,i,18]*18446744073709551616+G 87 [L,i,19]≤1125899906842624 ∧ -1125899906842624≤G 83 [L,i,30]*18446744073709551616+G 87 [L,i,31]∧G 83 [L,i,30]*18446744073709551616+G 87 [L,i,31]≤1125899906842624 ∧ -1125899906842624≤G 83 [L,i,42]*18446744073709551616+G 87 [L,i,43]∧G 83 [L,i,42]*18446744073709551616+G 87 [L,i,43]≤1125899906842624 ∧ -1125899906842624≤G 83 [L,i,54]*18446744073709551616+G 87 [L,i,55]∧G 83 [L,i,54]*18446744073709551616+G 87 [L,i,55]≤1125899906842624∧1≤G 83 [L,i,20]∧G 83 [L,i,20]≤65535∧G 83 [L,i,32]=G 83 [L,i,20]∧G 83 [L,i,44]=G 83 [L,i,20]∧G 83 [L,i,56]=G 83 [L,i,20]))∧(G 83 [L,i,60]≤3∨(-1125899906842624≤G 83 [L,i,21]*18446744073709551616+G 87 [L,i,22]∧G 83 [L,i,21]*18446744073709551616+G 87 [L,i,22]≤1125899906842624 ∧ -1125899906842624≤G 83 [L,i,33]*18446744073709551616+G 87 [L,i,34]∧G 83 [L,i,33]*18446744073709551616+G 87 [L,i,34]≤1125899906842624 ∧ -1125899906842624≤G 83 [L,i,45]*18446744073709551616+G 87 [L,i,46]∧G 83 [L,i,45]*18446744073709551616+G 87 [L,i,46]≤1125899906842624 ∧ -1125899906842624≤G 83 [L,i,57]*18446744073709551616+G 87 [L,i,58]∧G 83 [L,i,57]*18446744073709551616+G 87 [L,i,58]≤1125899906842624∧1≤G 83 [L,i,23]∧G 83 [L,i,23]≤65535∧G 83 [L,i,35]=G 83 [L,i,23]∧G 83 [L,i,47]=G 83 [L,i,23]∧G 83 [L,i,59]=G 83 [L,i,23]))):G 79 [G 83 [L,i,0],G 83 [L,i,1],G 83 [L,i,2],G 83 [L,i,3],G 83 [L,i,4],G 83 [L,i,5],G 82 [L,i,6],G 82 [L,i,7],G 82 [L,i,8],G 82 [L,i,9],G 82 [L,i,10],G 82 [L,i,11],G 83 [L,i,12]*18446744073709551616+G 87 [L,i,13],G 83 [L,i,15]*18446744073709551616+G 87 [L,i,16],G 83 [L,i,18]*18446744073709551616+G 87 [L,i,19],G 83 [L,i,21]*18446744073709551616+G 87 [L,i,22],G 83 [L,i,24]*18446744073709551616+G 87 [L,i,25],G 83 [L,i,27]*18446744073709551616+G 87 [L,i,28],G 83 [L,i,30]*18446744073709551616+G 87 [L,i,31],G 83 [L,i,33]*18446744073709551616+G 87 [L,i,34],G 83 [L,i,36]*18446744073709551616+G 87 [L,i,37],G 83 [L,i,39]*18446744073709551616+G 87 [L,i,40],G 83 [L,i,42]*18446744073709551616+G 87 [L,i,43],G 83 [L,i,45]*18446744073709551616+G 87 [L,i,46],G 83 [L,i,48]*18446744073709551616+G 87 [L,i,49],G 83 [L,i,51]*18446744073709551616+G 87 [L,i,52],G 83 [L,i,54]*18446744073709551616+G 87 [L,i,55],G 83 [L,i,57]*18446744073709551616+G 87 [L,i,58],G 83 [L,i,14],G 83 [L,i,17],G 83 [L,i,20],G 83 [L,i,23],G 83 [L,i,60],G 83 [L,i,61],12,12,G 43 [L,i],max (max 0 (Int.fdiv (min (min (G 83 [L,i,1]) (G 83 [L,i,3])) (G 83 [L,i,5])-128+256-1) 256)) (min 12 (Int.fdiv (max (max (G 83 [L,i,1]) (G 83 [L,i,3])) (G 83 [L,i,5])-128) 256+1))]=G 43 [L,i+1]:=by
 have hok:=(zO hi).2 h
 clear h
 rw[aAk L i hi]
 have a0:G 83 [L,i,0]=(aW ((Lc.dec L).getD i.toNat [])).getD 0 0:=aP 83 _ (by decide) (by decide)
 have a1:G 83 [L,i,1]=(aW ((Lc.dec L).getD i.toNat [])).getD 1 0:=aP 83 _ (by decide) (by decide)
 have a2:G 83 [L,i,2]=(aW ((Lc.dec L).getD i.toNat [])).getD 2 0:=aP 83 _ (by decide) (by decide)
 have a3:G 83 [L,i,3]=(aW ((Lc.dec L).getD i.toNat [])).getD 3 0:=aP 83 _ (by decide) (by decide)
 have a4:G 83 [L,i,4]=(aW ((Lc.dec L).getD i.toNat [])).getD 4 0:=aP 83 _ (by decide) (by decide)
 have a5:G 83 [L,i,5]=(aW ((Lc.dec L).getD i.toNat [])).getD 5 0:=aP 83 _ (by decide) (by decide)
 have a6:G 82 [L,i,6]=(aW ((Lc.dec L).getD i.toNat [])).getD 6 0:=aP 82 _ (by decide) (by decide)
 have a7:G 82 [L,i,7]=(aW ((Lc.dec L).getD i.toNat [])).getD 7 0:=aP 82 _ (by decide) (by decide)
 have a8:G 82 [L,i,8]=(aW ((Lc.dec L).getD i.toNat [])).getD 8 0:=aP 82 _ (by decide) (by decide)
 have a9:G 82 [L,i,9]=(aW ((Lc.dec L).getD i.toNat [])).getD 9 0:=aP 82 _ (by decide) (by decide)
 have a10:G 82 [L,i,10]=(aW ((Lc.dec L).getD i.toNat [])).getD 10 0:=aP 82 _ (by decide) (by decide)
 have a11:G 82 [L,i,11]=(aW ((Lc.dec L).getD i.toNat [])).getD 11 0:=aP 82 _ (by decide) (by decide)
 have a12:G 83 [L,i,12]=(aW ((Lc.dec L).getD i.toNat [])).getD 12 0:=aP 83 _ (by decide) (by decide)
 have a13:G 87 [L,i,13]=(aW ((Lc.dec L).getD i.toNat [])).getD 13 0:=aP 87 _ (by decide) (by decide)
 have a14:G 83 [L,i,14]=(aW ((Lc.dec L).getD i.toNat [])).getD 14 0:=aP 83 _ (by decide) (by decide)
 have a15:G 83 [L,i,15]=(aW ((Lc.dec L).getD i.toNat [])).getD 15 0:=aP 83 _ (by decide) (by decide)
 have a16:G 87 [L,i,16]=(aW ((Lc.dec L).getD i.toNat [])).getD 16 0:=aP 87 _ (by decide) (by decide)
 have a17:G 83 [L,i,17]=(aW ((Lc.dec L).getD i.toNat [])).getD 17 0:=aP 83 _ (by decide) (by decide)
 have a18:G 83 [L,i,18]=(aW ((Lc.dec L).getD i.toNat [])).getD 18 0:=aP 83 _ (by decide) (by decide)
 have a19:G 87 [L,i,19]=(aW ((Lc.dec L).getD i.toNat [])).getD 19 0:=aP 87 _ (by decide) (by decide)
 have a20:G 83 [L,i,20]=(aW ((Lc.dec L).getD i.toNat [])).getD 20 0:=aP 83 _ (by decide) (by decide)
 have a21:G 83 [L,i,21]=(aW ((Lc.dec L).getD i.toNat [])).getD 21 0:=aP 83 _ (by decide) (by decide)
 have a22:G 87 [L,i,22]=(aW ((Lc.dec L).getD i.toNat [])).getD 22 0:=aP 87 _ (by decide) (by decide)
 have a23:G 83 [L,i,23]=(aW ((Lc.dec L).getD i.toNat [])).getD 23 0:=aP 83 _ (by decide) (by decide)
 have a24:G 83 [L,i,24]=(aW ((Lc.dec L).getD i.toNat [])).getD 24 0:=aP 83 _ (by decide) (by decide)
 have a25:G 87 [L,i,25]=(aW ((Lc.dec L).getD i.toNat [])).getD 25 0:=aP 87 _ (by decide) (by decide)
 have a26:G 83 [L,i,26]=(aW ((Lc.dec L).getD i.toNat [])).getD 26 0:=aP 83 _ (by decide) (by decide)
 have a27:G 83 [L,i,27]=(aW ((Lc.dec L).getD i.toNat [])).getD 27 0:=aP 83 _ (by decide) (by decide)
 have a28:G 87 [L,i,28]=(aW ((Lc.dec L).getD i.toNat [])).getD 28 0:=aP 87 _ (by decide) (by decide)
 have a29:G 83 [L,i,29]=(aW ((Lc.dec L).getD i.toNat [])).getD 29 0:=aP 83 _ (by decide) (by decide)
 have a30:G 83 [L,i,30]=(aW ((Lc.dec L).getD i.toNat [])).getD 30 0:=aP 83 _ (by decide) (by decide)
 have a31:G 87 [L,i,31]=(aW ((Lc.dec L).getD i.toNat [])).getD 31 0:=aP 87 _ (by decide) (by decide)
 have a32:G 83 [L,i,32]=(aW ((Lc.dec L).getD i.toNat [])).getD 32 0:=aP 83 _ (by decide) (by decide)
 have a33:G 83 [L,i,33]=(aW ((Lc.dec L).getD i.toNat [])).getD 33 0:=aP 83 _ (by decide) (by decide)
 have a34:G 87 [L,i,34]=(aW ((Lc.dec L).getD i.toNat [])).getD 34 0:=aP 87 _ (by decide) (by decide)
 have a35:G 83 [L,i,35]=(aW ((Lc.dec L).getD i.toNat [])).getD 35 0:=aP 83 _ (by decide) (by decide)
 have a36:G 83 [L,i,36]=(aW ((Lc.dec L).getD i.toNat [])).getD 36 0:=aP 83 _ (by decide) (by decide)
 have a37:G 87 [L,i,37]=(aW ((Lc.dec L).getD i.toNat [])).getD 37 0:=aP 87 _ (by decide) (by decide)
 have a38:G 83 [L,i,38]=(aW ((Lc.dec L).getD i.toNat [])).getD 38 0:=aP 83 _ (by decide) (by decide)
 have a39:G 83 [L,i,39]=(aW ((Lc.dec L).getD i.toNat [])).getD 39 0:=aP 83 _ (by decide) (by decide)
 have a40:G 87 [L,i,40]=(aW ((Lc.dec L).getD i.toNat [])).getD 40 0:=aP 87 _ (by decide) (by decide)
 have a41:G 83 [L,i,41]=(aW ((Lc.dec L).getD i.toNat [])).getD 41 0:=aP 83 _ (by decide) (by decide)
 have a42:G 83 [L,i,42]=(aW ((Lc.dec L).getD i.toNat [])).getD 42 0:=aP 83 _ (by decide) (by decide)
 have a43:G 87 [L,i,43]=(aW ((Lc.dec L).getD i.toNat [])).getD 43 0:=aP 87 _ (by decide) (by decide)
 have a44:G 83 [L,i,44]=(aW ((Lc.dec L).getD i.toNat [])).getD 44 0:=aP 83 _ (by decide) (by decide)
 have a45:G 83 [L,i,45]=(aW ((Lc.dec L).getD i.toNat [])).getD 45 0:=aP 83 _ (by decide) (by decide)
 have a46:G 87 [L,i,46]=(aW ((Lc.dec L).getD i.toNat [])).getD 46 0:=aP 87 _ (by decide) (by decide)
 have a47:G 83 [L,i,47]=(aW ((Lc.dec L).getD i.toNat [])).getD 47 0:=aP 83 _ (by decide) (by decide)
 have a48:G 83 [L,i,48]=(aW ((Lc.dec L).getD i.toNat [])).getD 48 0:=aP 83 _ (by decide) (by decide)
 have a49:G 87 [L,i,49]=(aW ((Lc.dec L).getD i.toNat [])).getD 49 0:=aP 87 _ (by decide) (by decide)
 have a50:G 83 [L,i,50]=(aW ((Lc.dec L).getD i.toNat [])).getD 50 0:=aP 83 _ (by decide) (by decide)
 have a51:G 83 [L,i,51]=(aW ((Lc.dec L).getD i.toNat [])).getD 51 0:=aP 83 _ (by decide) (by decide)
 have a52:G 87 [L,i,52]=(aW ((Lc.dec L).getD i.toNat [])).getD 52 0:=aP 87 _ (by decide) (by decide)
 have a53:G 83 [L,i,53]=(aW ((Lc.dec L).getD i.toNat [])).getD 53 0:=aP 83 _ (by decide) (by decide)
 have a54:G 83 [L,i,54]=(aW ((Lc.dec L).getD i.toNat [])).getD 54 0:=aP 83 _ (by decide) (by decide)
 have a55:G 87 [L,i,55]=(aW ((Lc.dec L).getD i.toNat [])).getD 55 0:=aP 87 _ (by decide) (by decide)
 have a56:G 83 [L,i,56]=(aW ((Lc.dec L).getD i.toNat [])).getD 56 0:=aP 83 _ (by decide) (by decide)
 have a57:G 83 [L,i,57]=(aW ((Lc.dec L).getD i.toNat [])).getD 57 0:=aP 83 _ (by decide) (by decide)
 have a58:G 87 [L,i,58]=(aW ((Lc.dec L).getD i.toNat [])).getD 58 0:=aP 87 _ (by decide) (by decide)
 have a59:G 83 [L,i,59]=(aW ((Lc.dec L).getD i.toNat [])).getD 59 0:=aP 83 _ (by decide) (by decide)
 have a60:G 83 [L,i,60]=(aW ((Lc.dec L).getD i.toNat [])).getD 60 0:=aP 83 _ (by decide) (by decide)
 have a61:G 83 [L,i,61]=(aW ((Lc.dec L).getD i.toNat [])).getD 61 0:=aP 83 _ (by decide) (by decide)
 have e:jP (aW ((Lc.dec L).getD i.toNat [])) 12 12 (G 43 [L,i])=cD (bO (aW ((Lc.dec L).getD i.toNat [])) 12 12) (G 43 [L,i]) (max (bA (bO (aW ((Lc.dec L).getD i.toNat [])) 12 12)) (eY (bO (aW ((Lc.dec L).getD i.toNat [])) 12 12))-bA (bO (aW ((Lc.dec L).getD i.toNat [])) 12 12)).toNat:=if_pos hok
 rw[e]
 have ex:bO (aW ((Lc.dec L).getD i.toNat [])) 12 12=[G 83 [L,i,0],G 83 [L,i,1],G 83 [L,i,2],G 83 [L,i,3],G 83 [L,i,4],G 83 [L,i,5],G 82 [L,i,6],G 82 [L,i,7],G 82 [L,i,8],G 82 [L,i,9],G 82 [L,i,10],G 82 [L,i,11],G 83 [L,i,12]*18446744073709551616+G 87 [L,i,13],G 83 [L,i,15]*18446744073709551616+G 87 [L,i,16],G 83 [L,i,18]*18446744073709551616+G 87 [L,i,19],G 83 [L,i,21]*18446744073709551616+G 87 [L,i,22],G 83 [L,i,24]*18446744073709551616+G 87 [L,i,25],G 83 [L,i,27]*18446744073709551616+G 87 [L,i,28],G 83 [L,i,30]*18446744073709551616+G 87 [L,i,31],G 83 [L,i,33]*18446744073709551616+G 87 [L,i,34],G 83 [L,i,36]*18446744073709551616+G 87 [L,i,37],G 83 [L,i,39]*18446744073709551616+G 87 [L,i,40],G 83 [L,i,42]*18446744073709551616+G 87 [L,i,43],G 83 [L,i,45]*18446744073709551616+G 87 [L,i,46],G 83 [L,i,48]*18446744073709551616+G 87 [L,i,49],G 83 [L,i,51]*18446744073709551616+G 87 [L,i,52],G 83 [L,i,54]*18446744073709551616+G 87 [L,i,55],G 83 [L,i,57]*18446744073709551616+G 87 [L,i,58],G 83 [L,i,14],G 83 [L,i,17],G 83 [L,i,20],G 83 [L,i,23],G 83 [L,i,60],G 83 [L,i,61],12,12]:=by
  unfold bO dB
  rw[aPt (show 12≤(aW ((Lc.dec L).getD i.toNat [])).length from(by decide:12≤62)),a0,a1,a2,a3,a4,a5,a6,a7,a8,a9,a10,a11,a12,a13,a14,a15,a16,a17,a18,a19,a20,a21,a22,a23,a24,a25,a27,a28,a30,a31,a33,a34,a36,a37,a39,a40,a42,a43,a45,a46,a48,a49,a51,a52,a54,a55,a57,a58,a60,a61]
  rfl
 rw[ex]
 rfl
theorem aPH {L i:Int} (hi:0≤i∧i<60) (h:¬((-671088640≤G 83 [L,i,0]∧G 83 [L,i,0]≤671088640 ∧ -671088640≤G 83 [L,i,1]∧G 83 [L,i,1]≤671088640 ∧ -671088640≤G 83 [L,i,2]∧G 83 [L,i,2]≤671088640 ∧ -671088640≤G 83 [L,i,3]∧G 83 [L,i,3]≤671088640 ∧ -671088640≤G 83 [L,i,4]∧G 83 [L,i,4]≤671088640 ∧ -671088640≤G 83 [L,i,5]∧G 83 [L,i,5]≤671088640)∧0≤G 82 [L,i,6]∧G 82 [L,i,6]≤65536∧0≤G 82 [L,i,7]∧G 82 [L,i,7]≤65536∧0≤G 82 [L,i,8]∧G 82 [L,i,8]≤65536∧0≤G 82 [L,i,9]∧G 82 [L,i,9]≤65536∧0≤G 82 [L,i,10]∧G 82 [L,i,10]≤65536∧0≤G 82 [L,i,11]∧G 82 [L,i,11]≤65536∧1≤G 83 [L,i,60]∧G 83 [L,i,60]≤4∧(G 83 [L,i,60]≤0∨(-1125899906842624≤G 83 [L,i,12]*18446744073709551616+G 87 [L,i,13]∧G 83 [L,i,12]*18446744073709551616+G 87 [L,i,13]≤1125899906842624 ∧ -1125899906842624≤G 83 [L,i,24]*18446744073709551616+G 87 [L,i,25]∧G 83 [L,i,24]*18446744073709551616+G 87 [L,i,25]≤1125899906842624 ∧ -1125899906842624≤G 83 [L,i,36]*18446744073709551616+G 87 [L,i,37]∧G 83 [L,i,36]*18446744073709551616+G 87 [L,i,37]≤1125899906842624 ∧ -1125899906842624≤G 83 [L,i,48]*18446744073709551616+G 87 [L,i,49]∧G 83 [L,i,48]*18446744073709551616+G 87 [L,i,49]≤1125899906842624∧1≤G 83 [L,i,14]∧G 83 [L,i,14]≤65535∧G 83 [L,i,26]=G 83 [L,i,14]∧G 83 [L,i,38]=G 83 [L,i,14]∧G 83 [L,i,50]=G 83 [L,i,14]))∧(G 83 [L,i,60]≤1∨(-1125899906842624≤G 83 [L,i,15]*18446744073709551616+G 87 [L,i,16]∧G 83 [L,i,15]*18446744073709551616+G 87 [L,i,16]≤1125899906842624 ∧ -1125899906842624≤G 83 [L,i,27]*18446744073709551616+G 87 [L,i,28]∧G 83 [L,i,27]*18446744073709551616+G 87 [L,i,28]≤1125899906842624 ∧ -1125899906842624≤G 83 [L,i,39]*18446744073709551616+G 87 [L,i,40]∧G 83 [L,i,39]*18446744073709551616+G 87 [L,i,40]≤1125899906842624 ∧ -1125899906842624≤G 83 [L,i,51]*18446744073709551616+G 87 [L,i,52]∧G 83 [L,i,51]*18446744073709551616+G 87 [L,i,52]≤1125899906842624∧1≤G 83 [L,i,17]∧G 83 [L,i,17]≤65535∧G 83 [L,i,29]=G 83 [L,i,17]∧G 83 [L,i,41]=G 83 [L,i,17]∧G 83 [L,i,53]=G 83 [L,i,17]))∧(G 83 [L,i,60]≤2∨(-1125899906842624≤G 83 [L,i,18]*18446744073709551616+G 87 [L,i,19]∧G 83 [L,i,18]*18446744073709551616+G 87 [L,i,19]≤1125899906842624 ∧ -1125899906842624≤G 83 [L,i,30]*18446744073709551616+G 87 [L,i,31]∧G 83 [L,i,30]*18446744073709551616+G 87 [L,i,31]≤1125899906842624 ∧ -1125899906842624≤G 83 [L,i,42]*18446744073709551616+G 87 [L,i,43]∧G 83 [L,i,42]*18446744073709551616+G 87 [L,i,43]≤1125899906842624 ∧ -1125899906842624≤G 83 [L,i,54]*18446744073709551616+G 87 [L,i,55]∧G 83 [L,i,54]*18446744073709551616+G 87 [L,i,55]≤1125899906842624∧1≤G 83 [L,i,20]∧G 83 [L,i,20]≤65535∧G 83 [L,i,32]=G 83 [L,i,20]∧G 83 [L,i,44]=G 83 [L,i,20]∧G 83 [L,i,56]=G 83 [L,i,20]))∧(G 83 [L,i,60]≤3∨(-1125899906842624≤G 83 [L,i,21]*18446744073709551616+G 87 [L,i,22]∧G 83 [L,i,21]*18446744073709551616+G 87 [L,i,22]≤1125899906842624 ∧ -1125899906842624≤G 83 [L,i,33]*18446744073709551616+G 87 [L,i,34]∧G 83 [L,i,33]*18446744073709551616+G 87 [L,i,34]≤1125899906842624 ∧ -1125899906842624≤G 83 [L,i,45]*18446744073709551616+G 87 [L,i,46]∧G 83 [L,i,45]*18446744073709551616+G 87 [L,i,46]≤1125899906842624 ∧ -1125899906842624≤G 83 [L,i,57]*18446744073709551616+G 87 [L,i,58]∧G 83 [L,i,57]*18446744073709551616+G 87 [L,i,58]≤1125899906842624∧1≤G 83 [L,i,23]∧G 83 [L,i,23]≤65535∧G 83 [L,i,35]=G 83 [L,i,23]∧G 83 [L,i,47]=G 83 [L,i,23]∧G 83 [L,i,59]=G 83 [L,i,23])))):G 43 [L,i]=G 43 [L,i+1]:=by
 have hok:¬iS (aW ((Lc.dec L).getD i.toNat [])):=fun q=>h ((zO hi).1 q)
 rw[aAk L i hi]
 exact(if_neg hok).symm
def gJ (n L:Int) (i:Nat):Nat→Int:=fF ([n]++[(i:Int),L,G 43 [L,(i:Int)]])
theorem aL3 (n L:Int) (h0:0≤n) (h30:n≤60) (i:Nat) (hi:(i:Int)≤n):∀ k q,aBC[k]?=some q→q.1≤gJ n L i k∧gJ n L i k≤q.2:=by
 unfold gJ aBC
 exact fM (xs:=[n,(i:Int)]) (by exact⟨⟨h0,h30⟩,by omega,trivial⟩)
set_option maxHeartbeats 2000000 in
set_option maxRecDepth 100000 in
theorem aOs (n L:Int) (h30:n≤60) (i:Nat) (hi:(i:Int)≤n):Sx.Way (vV Try.prog) G (gJ n L i) (dK G (gJ n L) (fF [n,L]) 1 (.lit true) (fun i=>(i:Int)≤n) (fun i=>n.toNat-i) i) []:=by
 refine aL lK (fun h0=>?_) (fun h0=>?_)
 rotate_left
 ·skip
  refine aH aKW ?_
  unfold lK at h0;simp only[nn,gJ,List.cons_append,List.nil_append,Bool.or_eq_true,aS,ne_eq]at h0;have e:(i:Int)=n:=(by omega);clear h0;simp only[dK];refine⟨rfl,eZ (by simp),?_⟩;simp only[aT];simp only[nn,gJ,List.cons_append,List.nil_append,Bool.or_eq_true,aS,ne_eq];rw[e];(repeat' refine And.intro ?_ ?_)<;>first|with_reducible rfl|with_reducible trivial
 refine aL nQ (fun h1=>?_) (fun h1=>?_)
 ·skip
  refine aH aLe ?_
  unfold lK at h0;unfold nQ at h1;unfold aCn;have hi':0≤(i:Int)∧(i:Int)<60:=(by have h0':=h0;simp only[nn,gJ,List.cons_append,List.nil_append,Bool.or_eq_true,aS,ne_eq]at h0';omega);have hn':(i:Int)<n:=(by have h0':=h0;simp only[nn,gJ,List.cons_append,List.nil_append,Bool.or_eq_true,aS,ne_eq]at h0';exact h0');have q:=aO6 hi' (by have h1':=h1;simp only[nn,gJ,List.cons_append,List.nil_append,Bool.or_eq_true,aS,ne_eq]at h1';exact h1');have hm:n.toNat-(i+1)<n.toNat-i:=(by omega);have hg:((i+1:Nat):Int)≤n:=(by omega);clear h0 h1 hi' hn';simp only[dK];refine⟨i+1,hg,hm,eZ (by simp),?_⟩;simp only[aT];clear hm hg;simp only[nn,Int.natCast_add,Int.cast_ofNat_Int,Int.natCast_one,gJ,List.cons_append,List.nil_append,Bool.or_eq_true,aS,ne_eq];(repeat' refine And.intro ?_ ?_)<;>first|with_reducible exact q|with_reducible rfl|with_reducible trivial
 refine aH aJR ?_
 unfold lK at h0;unfold nQ at h1;have hi':0≤(i:Int)∧(i:Int)<60:=(by have h0':=h0;simp only[nn,gJ,List.cons_append,List.nil_append,Bool.or_eq_true,aS,ne_eq]at h0';omega);have hn':(i:Int)<n:=(by have h0':=h0;simp only[nn,gJ,List.cons_append,List.nil_append,Bool.or_eq_true,aS,ne_eq]at h0';exact h0');have q:=aPH hi' (fun z=>by refine absurd ?_ (Bool.eq_false_iff.1 h1);simp only[nn,gJ,List.cons_append,List.nil_append,Bool.or_eq_true,aS,ne_eq];exact z);have hm:n.toNat-(i+1)<n.toNat-i:=(by omega);have hg:((i+1:Nat):Int)≤n:=(by omega);clear h0 h1 hi' hn';simp only[dK];refine⟨i+1,hg,hm,eZ (by simp),?_⟩;simp only[aT];clear hm hg;simp only[nn,Int.natCast_add,Int.cast_ofNat_Int,Int.natCast_one,gJ,List.cons_append,List.nil_append,Bool.or_eq_true,aS,ne_eq];(repeat' refine And.intro ?_ ?_)<;>first|with_reducible exact q|with_reducible rfl|with_reducible trivial
theorem aJO:bQ (eI Try.prog 30)=[fZ (eI Try.prog 30) 0]:=by kernel_rfl
set_option maxRecDepth 100000 in
theorem aPl (n L:Int) (h0n:0≤n) (h30:n≤60):lA Try.prog G (bV GB) (fZ (eI Try.prog 30) 0) aOW (fF [n,L]):=by
 intro _ _
 have e:iX G (fF [n,L]) aOW.es=gJ n L 0:=by
  rw[iH]
  rfl
 rw[e]
 exact⟨n.toNat+1,iL (ι:=Nat) (ρ:=gJ n L) (ρT:=fF [n,L]) (m:=fun i=>n.toNat-i) (Good:=fun i=>(i:Int)≤n) (run:=vV Try.prog) (fun _=>rfl) fits rfl iM (fun i hi=>aL3 n L h0n h30 i hi) (fun _ _ X hX hG=>pM hX hG) (fun _ _ X hX hG=>iB) (fun i hi=>aOs n L h30 i hi) (by decide) (n.toNat+1) 0 h0n (by show n.toNat-0<n.toNat+1;omega)⟩
set_option maxHeartbeats 1000000 in
set_option maxRecDepth 100000 in
theorem aOD (n L:Int) (b0:0≤n∧n≤60):mE Try.prog G GB 30 aO7 (fF [n,L]):=by
 refine jC (lp:=aNN) (run:=aKS Try.prog) (fun _=>rfl) fits (fM (xs:=[n]) (ls:=[L]) (by exact⟨b0,trivial⟩)) iM (fun X hX hG=>pM hX hG) (fun X hX hG fn c hf hc=>?_) rfl ?_
 ·refine oT ((congrArg bQ (sP hf hc)).symm.trans aJO) ?_
  intro b hb
  simp only[List.mem_cons,List.mem_nil_iff,or_false]at hb
  subst hb
  refine nJ hX hG (by kernel_rfl) ?_
  intro p hp'
  simp only[List.mem_cons,List.mem_nil_iff,or_false]at hp'
  subst hp'
  exact aPl n L b0.1 b0.2
 ·skip
  refine aH aJH ?_
  exact⟨rfl,trivial⟩
def aC2:Ctx→List SV→aI→Res (SV × aI):=kH GB aKD 1 (.lit true) aO7
theorem aPZ {X:Ctx} {ρ:Nat→Int} (hX:X.Ok ρ) (hG:X.G=G):nX Try.prog X ρ GB 30 aC2:=by
 obtain⟨XG,XI,XV,XF⟩:=X
 simp only at hG
 subst hG
 refine jN hX ?_
 intro xs ls hw hl hp
 unfold aKD at hw
 obtain⟨x0,y0,e0,b0,h0⟩:=aF hw
 have e1:=wL h0
 subst e1 e0
 obtain⟨l0,rfl⟩:=aD7 hl
 exact aOD x0 l0 b0
def aF3:aX:=mD 30 aC2 vD
theorem xO {X:Ctx} {ρ:Nat→Int} (hX:X.Ok ρ) (hG:X.G=G):gF Try.prog X ρ GB aF3:=kN (aPZ hX hG) (pM hX hG)
end Go.Proofs.Ytoiecphddchknaa
