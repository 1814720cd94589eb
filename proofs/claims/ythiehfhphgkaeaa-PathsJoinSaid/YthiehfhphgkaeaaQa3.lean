/- What is proved: a path's rows,a line's dots so far,where a sub-path ends,in plain Lean. No condition but those that are stated. -/
import Derived.Test.YthiehfhphgkaeaaQg6
import Derived.Test.YthiehfhphgkaeaaQg4
import Derived.Test.YthiehfhphgkaeaaQa2
import Derived.Test.YthiehfhphgkaeaaProg
import Derived.Test.YthiehfhphgkaeaaQa1
set_option linter.unusedSimpArgs false
set_option linter.unusedVariables false
namespace Go.Proofs.Ythiehfhphgkaeaa
open Go Go.RowKit Sx Wi
theorem bX {L off n:Int} (h0:0≤off) (hn:0≤n∧n≤300) (hl:off+n≤((Lc.dec L).length:Int)):(aF L off n).length=n.toNat:=by
 unfold aF;rw[List.length_take,List.length_drop];omega
theorem wP {L off n i:Int} (h0:0≤off) (hn:n≤300) (hi:0≤i∧i<n):(aF L off n).getD i.toNat []=(Lc.dec L).getD (off+i).toNat []:=by
 unfold aF
 rw[List.getD_eq_getElem?_getD,List.getD_eq_getElem?_getD,List.getElem?_take,if_pos (by omega),List.getElem?_drop]
 congr 2;omega
theorem jG {L off i:Int} (h0:0≤off) (hi:0≤i∧i<300) (hl:off+i<((Lc.dec L).length:Int)):aF L off (i+1)=aF L off i++[(Lc.dec L).getD (off+i).toNat []]:=by
 unfold aF
 rw[show min (i+1).toNat 300=i.toNat+1 by omega,show min i.toNat 300=i.toNat by omega]
 have hlt:i.toNat<((Lc.dec L).drop off.toNat).length:=by rw[List.length_drop];omega
 rw[List.take_add_one,List.getElem?_eq_getElem hlt]
 simp only[Option.toList]
 congr 2
 rw[List.getElem_drop,List.getD_eq_getElem?_getD,List.getElem?_eq_getElem (by omega)]
 simp only[Option.getD_some]
 congr 1;omega
theorem aMC (k:IntKind):Lc.kNo k<8:=by cases k<;>decide
theorem qN (k:IntKind) (L i j:Int):G (80+Lc.kNo k) [L,i,j]=k.wrap (((Lc.dec L).getD i.toNat []).getD j.toNat 0):=by
 have h8:=aMC k
 rw[iZ _ _ (by omega) (by omega),Lc.fn_rd]
 rfl
theorem aCI {L off i:Int} (h0:0≤off) (hi:0≤i∧i<300) (hl:off+i<((Lc.dec L).length:Int)) (hk:sk ((Lc.dec L).getD (off+i).toNat [])=2):
  let r:=(Lc.dec L).getD (off+i).toNat []
  G 47 [G 51 [L,off,i],G 52 [L,off,i],sp r 0,sp r 1,sp r 2,sp r 3,sp r 4,sp r 5,G 50 [L,off,i]]=G 50 [L,off,i+1]∧sp r 4=G 51 [L,off,i+1]∧sp r 5=G 52 [L,off,i+1]:=by
 intro r
 have e:cA (aF L off (i+1))=fJ (cA (aF L off i)) r:=by
  rw[jG h0 hi hl];unfold cA;rw[List.foldl_append];rfl
 have e2:fJ (cA (aF L off i)) r=((cA (aF L off i)).1++mA [(cA (aF L off i)).2.1,(cA (aF L off i)).2.2,sp r 0,sp r 1,sp r 2,sp r 3,sp r 4,sp r 5] (cW [(cA (aF L off i)).2.1,(cA (aF L off i)).2.2,sp r 0,sp r 1,sp r 2,sp r 3,sp r 4,sp r 5]).toNat,sp r 4,sp r 5):=by
  unfold fJ;rw[if_pos hk]
 refine⟨?_,?_,?_⟩
 ·show Lc.enc (Lc.dec (Lc.enc (cA (aF L off i)).1)++_)=Lc.enc (cA (aF L off (i+1))).1
  rw[e,e2,Lc.dec_enc]
  rfl
 ·show _=(cA (aF L off (i+1))).2.1
  rw[e,e2]
 ·show _=(cA (aF L off (i+1))).2.2
  rw[e,e2]
theorem aHa {L off i:Int} (h0:0≤off) (hi:0≤i∧i<300) (hl:off+i<((Lc.dec L).length:Int)) (hk:¬sk ((Lc.dec L).getD (off+i).toNat [])=2):
  let r:=(Lc.dec L).getD (off+i).toNat []
  G 91 [G 50 [L,off,i],G 2 [sp r 0,1*256],G 2 [sp r 1,1*256]]=G 50 [L,off,i+1]∧sp r 0=G 51 [L,off,i+1]∧sp r 1=G 52 [L,off,i+1]:=by
 intro r
 have e:cA (aF L off (i+1))=fJ (cA (aF L off i)) r:=by
  rw[jG h0 hi hl];unfold cA;rw[List.foldl_append];rfl
 have e2:fJ (cA (aF L off i)) r=((cA (aF L off i)).1++[[Fx.near (sp r 0) (1*256),Fx.near (sp r 1) (1*256)]],sp r 0,sp r 1):=by
  unfold fJ;rw[if_neg hk]
 refine⟨?_,?_,?_⟩
 ·show G 91 [Lc.enc (cA (aF L off i)).1,_,_]=Lc.enc (cA (aF L off (i+1))).1
  rw[e,e2]
  exact iT iZ _ _
 ·show _=(cA (aF L off (i+1))).2.1
  rw[e,e2]
 ·show _=(cA (aF L off (i+1))).2.2
  rw[e,e2]
theorem pN (xs:List Int) (m:Nat):(mA xs m).length=m:=by unfold mA;rw[List.length_map,List.length_range]
theorem zJ (L off i:Int) (hi:0≤i):(cA (aF L off i)).1.length≤64*i.toNat:=by
 have:∀ (rows:List (List Int)) (t:List (List Int) × Int × Int),(rows.foldl fJ t).1.length≤t.1.length+64*rows.length:=by
  intro rows
  induction rows with
  |nil=>intro t;exact Nat.le_refl _
  |cons r rs ih=>
   intro t
   have h1:=ih (fJ t r)
   have h2:(fJ t r).1.length≤t.1.length+64:=by
    unfold fJ
    split
    ·have:=fZ [t.2.1,t.2.2,sp r 0,sp r 1,sp r 2,sp r 3,sp r 4,sp r 5]
     simp only[List.length_append,pN];omega
    ·simp only[List.length_append,List.length_cons,List.length_nil];omega
   simp only[List.foldl_cons,List.length_cons]
   omega
 have h:=this (aF L off i) ([],0,0)
 have hl:(aF L off i).length≤i.toNat:=by unfold aF;rw[List.length_take];omega
 have e:(cA (aF L off i)).1.length≤0+64*(aF L off i).length:=h
 omega
theorem lV:∀ l:List (List Int),aX l≤l.length
 |[]=>Nat.le_refl _
 |r::rs=>by unfold aX;split<;>simp only[List.length_cons]<;>have:=lV rs<;>omega
theorem aDV:∀ {l:List (List Int)} {i:Nat},i<aX l→¬(sk (l.getD i [])=0∨sk (l.getD i [])=3)
 |[],i,h=>by simp [aX]at h
 |r::rs,0,h=>by
  unfold aX at h
  split at h
  ·omega
  ·assumption
 |r::rs,i+1,h=>by
  unfold aX at h
  split at h
  ·omega
  ·have:=aDV (l:=rs) (i:=i) (by omega)
   simpa using this
theorem aAa:∀ {l:List (List Int)},aX l<l.length→(sk (l.getD (aX l) [])=0∨sk (l.getD (aX l) [])=3)
 |[],h=>by simp [aX]at h
 |r::rs,h=>by
  by_cases hr:sk r=0∨sk r=3
  ·have e:aX (r::rs)=0:=by unfold aX;rw[if_pos hr]
   rw[e];simpa using hr
  ·have e:aX (r::rs)=aX rs+1:=by rw[aX,if_neg hr]
   rw[e]at h ⊢
   have:=aAa (l:=rs) (by simp only[List.length_cons]at h;omega)
   simpa using this
theorem aDF:∀ l:List (List Int),eN l≤l.length
 |[]=>Nat.le_refl _
 |r::rs=>by unfold eN;split<;>simp only[List.length_cons]<;>have:=aDF rs<;>omega
theorem aDy:∀ {l:List (List Int)} {i:Nat},i<eN l→¬3<sk (l.getD i [])
 |[],i,h=>by simp [eN]at h
 |r::rs,0,h=>by
  unfold eN at h
  split at h
  ·omega
  ·assumption
 |r::rs,i+1,h=>by
  unfold eN at h
  split at h
  ·omega
  ·have:=aDy (l:=rs) (i:=i) (by omega)
   simpa using this
theorem aDP:∀ {l:List (List Int)},eN l<l.length→3<sk (l.getD (eN l) [])
 |[],h=>by simp [eN]at h
 |r::rs,h=>by
  by_cases hr:3<sk r
  ·have e:eN (r::rs)=0:=by unfold eN;rw[if_pos hr]
   rw[e];simpa using hr
  ·have e:eN (r::rs)=eN rs+1:=by rw[eN,if_neg hr]
   rw[e]at h ⊢
   have:=aDP (l:=rs) (by simp only[List.length_cons]at h;omega)
   simpa using this
theorem tP {L off n i:Int} (h0:0≤off) (hn:n≤256) (hi:0≤i∧i<n):G 84 [L,off+i,0]=sk ((aF L off n).getD i.toNat []):=by
 rw[wP h0 (by omega) hi]
 exact qN .u8 L (off+i) 0
theorem yA {L off n:Int} {i:Nat} (h0:0≤off) (hn:0≤n∧n≤256) (hl:off+n≤((Lc.dec L).length:Int)) (hi:(i:Int)<n) (hg:i≤aX (aF L off n)) (hk:G 84 [L,off+(i:Int),0]=0∨G 84 [L,off+(i:Int),0]=3):(i:Int)=G 53 [L,off,n]∧0≤G 53 [L,off,n]:=by
 rw[tP h0 hn.2 ⟨by omega,hi⟩,Int.toNat_natCast]at hk
 have hlen:=bX h0 ⟨hn.1,by omega⟩ hl
 have e:aX (aF L off n)=i:=by
  rcases Nat.lt_or_ge i (aX (aF L off n))with q|q
  ·exact absurd hk (aDV q)
  ·omega
 have e2:G 53 [L,off,n]=idx (aX (aF L off n)) (aF L off n):=rfl
 rw[e2,e]
 unfold idx
 rw[if_pos (by omega)]
 omega
theorem aJ9 {L off n:Int} {i:Nat} (h0:0≤off) (hn:0≤n∧n≤256) (hl:off+n≤((Lc.dec L).length:Int)) (hi:(i:Int)<n) (hg:i≤aX (aF L off n)) (hk:¬G 84 [L,off+(i:Int),0]=0) (hk3:¬G 84 [L,off+(i:Int),0]=3):i+1≤aX (aF L off n):=by
 rw[tP h0 hn.2 ⟨by omega,hi⟩,Int.toNat_natCast]at hk hk3
 have hlen:=bX h0 ⟨hn.1,by omega⟩ hl
 rcases Nat.lt_or_ge i (aX (aF L off n))with q|q
 ·exact q
 ·have e:aX (aF L off n)=i:=by omega
  have:=aAa (l:=aF L off n) (by omega)
  rw[e]at this
  rcases this with q|q
  ·exact absurd q hk
  ·exact absurd q hk3
theorem aLo {L off n:Int} {i:Nat} (h0:0≤off) (hn:0≤n∧n≤256) (hl:off+n≤((Lc.dec L).length:Int)) (hi:¬(i:Int)<n) (hg:i≤aX (aF L off n)):G 53 [L,off,n] = -1:=by
 have hlen:=bX h0 ⟨hn.1,by omega⟩ hl
 show idx (aX (aF L off n)) (aF L off n) = -1
 unfold idx
 rw[if_neg (by omega)]
theorem aF0 {L off n:Int} {i:Nat} (h0:0≤off) (hn:0≤n∧n≤256) (hl:off+n≤((Lc.dec L).length:Int)) (hi:(i:Int)<n) (hg:i≤eN (aF L off n)) (hk:3<G 84 [L,off+(i:Int),0]):(i:Int)=G 56 [L,off,n]∧0≤G 56 [L,off,n]:=by
 rw[tP h0 hn.2 ⟨by omega,hi⟩,Int.toNat_natCast]at hk
 have hlen:=bX h0 ⟨hn.1,by omega⟩ hl
 have e:eN (aF L off n)=i:=by
  rcases Nat.lt_or_ge i (eN (aF L off n))with q|q
  ·exact absurd hk (aDy q)
  ·omega
 have e2:G 56 [L,off,n]=idx (eN (aF L off n)) (aF L off n):=rfl
 rw[e2,e]
 unfold idx
 rw[if_pos (by omega)]
 omega
theorem aIA {L off n:Int} {i:Nat} (h0:0≤off) (hn:0≤n∧n≤256) (hl:off+n≤((Lc.dec L).length:Int)) (hi:(i:Int)<n) (hg:i≤eN (aF L off n)) (hk:¬3<G 84 [L,off+(i:Int),0]):i+1≤eN (aF L off n):=by
 rw[tP h0 hn.2 ⟨by omega,hi⟩,Int.toNat_natCast]at hk
 have hlen:=bX h0 ⟨hn.1,by omega⟩ hl
 rcases Nat.lt_or_ge i (eN (aF L off n))with q|q
 ·exact q
 ·have e:eN (aF L off n)=i:=by omega
  have:=aDP (l:=aF L off n) (by omega)
  rw[e]at this
  exact absurd this hk
theorem aK1 {L off n:Int} {i:Nat} (h0:0≤off) (hn:0≤n∧n≤256) (hl:off+n≤((Lc.dec L).length:Int)) (hi:¬(i:Int)<n) (hg:i≤eN (aF L off n)):G 56 [L,off,n] = -1:=by
 have hlen:=bX h0 ⟨hn.1,by omega⟩ hl
 show idx (eN (aF L off n)) (aF L off n) = -1
 unfold idx
 rw[if_neg (by omega)]
theorem eF {p:Int × Int} {l:List (Int × Int)} {xs:List Int} (h:eC (p::l) xs):∃ x ys,xs=x::ys∧(p.1≤x∧x≤p.2)∧eC l ys:=by
 cases xs with
 |nil=>exact h.elim
 |cons x ys=>exact⟨x,ys,rfl,h.1,h.2⟩
theorem oS {xs:List Int} (h:eC [] xs):xs=[]:=by
 cases xs with
 |nil=>rfl
 |cons x ys=>exact h.elim
theorem rX {xs:List Int} (h:xs.length=1):∃ a,xs=[a]:=by
 match xs,h with
 |[a],_=>exact⟨a,rfl⟩
theorem lX {P:Program} {gb:dG} {f:FuncId} {F:FunS} {ρ:Nat→Int} (id:Nat) {sh:List CK} {C n:E} {ex:Bool} {T:TypeId} (hH:F.H[id]?=some (some ([.vec sh C n ex],T))) (h:n.den G ρ=((Lc.dec (C.den G ρ)).length:Int)→dW P G gb f F ρ):dW P G gb f F ρ:=by
 intro α w vals hW hv
 refine h ?_ α w vals hW hv
 obtain⟨b,vs,h1,h2,h3⟩:=hW.blk id _ _ hH
 simp only[SV.RL,SV.R]at h3
 obtain⟨v,vs',e1,⟨_,e3⟩,_⟩:=h3
 exact e3.symm
theorem aDD {L off i:Int} (hi:0≤i∧i≤300):G 57 [L,off,i]=((cA (aF L off i)).1.length:Int):=by
 have h:=zJ L off i hi.1
 show min _ (19200:Int)=_
 omega
theorem aAJ {L off i:Int} (h0:0≤off) (hi:0≤i∧i<300) (hl:off+i<((Lc.dec L).length:Int)) (hk:G 84 [L,off+i,0]=2):
  G 47 [G 51 [L,off,i],G 52 [L,off,i],G 82 [L,off+i,1],G 82 [L,off+i,2],G 82 [L,off+i,3],G 82 [L,off+i,4],G 82 [L,off+i,5],G 82 [L,off+i,6],G 50 [L,off,i]]=G 50 [L,off,i+1]∧G 82 [L,off+i,5]=G 51 [L,off,i+1]∧G 82 [L,off+i,6]=G 52 [L,off,i+1]∧
   G 57 [L,off,i]+1*2 ^ (G 43 [G 51 [L,off,i],G 52 [L,off,i],G 82 [L,off+i,1],G 82 [L,off+i,2],G 82 [L,off+i,3],G 82 [L,off+i,4],G 82 [L,off+i,5],G 82 [L,off+i,6]]).toNat=G 57 [L,off,i+1]:=by
 have e0:G 84 [L,off+i,0]=sk ((Lc.dec L).getD (off+i).toNat []):=qN .u8 L (off+i) 0
 rw[e0]at hk
 have q:=aCI h0 hi hl hk
 have e:cA (aF L off (i+1))=fJ (cA (aF L off i)) ((Lc.dec L).getD (off+i).toNat []):=by
  rw[jG h0 hi hl];unfold cA;rw[List.foldl_append];rfl
 have a1:G 82 [L,off+i,1]=sp ((Lc.dec L).getD (off+i).toNat []) 0:=qN .i32 L (off+i) 1
 have a2:G 82 [L,off+i,2]=sp ((Lc.dec L).getD (off+i).toNat []) 1:=qN .i32 L (off+i) 2
 have a3:G 82 [L,off+i,3]=sp ((Lc.dec L).getD (off+i).toNat []) 2:=qN .i32 L (off+i) 3
 have a4:G 82 [L,off+i,4]=sp ((Lc.dec L).getD (off+i).toNat []) 3:=qN .i32 L (off+i) 4
 have a5:G 82 [L,off+i,5]=sp ((Lc.dec L).getD (off+i).toNat []) 4:=qN .i32 L (off+i) 5
 have a6:G 82 [L,off+i,6]=sp ((Lc.dec L).getD (off+i).toNat []) 5:=qN .i32 L (off+i) 6
 rw[a1,a2,a3,a4,a5,a6]
 refine⟨q.1,q.2.1,q.2.2,?_⟩
 have f1:G 51 [L,off,i]=(cA (aF L off i)).2.1:=rfl
 have f2:G 52 [L,off,i]=(cA (aF L off i)).2.2:=rfl
 rw[aDD ⟨hi.1,by omega⟩,aDD ⟨by omega,by omega⟩,e,f1,f2]
 generalize cA (aF L off i)=t
 generalize (Lc.dec L).getD (off+i).toNat []=r at hk ⊢
 unfold fJ
 rw[if_pos hk]
 simp only[List.length_append,pN]
 have hp:=fZ [t.2.1,t.2.2,sp r 0,sp r 1,sp r 2,sp r 3,sp r 4,sp r 5]
 have hq:1*2 ^ (G 43 [t.2.1,t.2.2,sp r 0,sp r 1,sp r 2,sp r 3,sp r 4,sp r 5]).toNat=cW [t.2.1,t.2.2,sp r 0,sp r 1,sp r 2,sp r 3,sp r 4,sp r 5]:=rfl
 rw[hq]
 omega
theorem aF9 {L off i:Int} (h0:0≤off) (hi:0≤i∧i<300) (hl:off+i<((Lc.dec L).length:Int)) (hk:¬G 84 [L,off+i,0]=2):
  G 91 [G 50 [L,off,i],G 2 [G 82 [L,off+i,1],1*256],G 2 [G 82 [L,off+i,2],1*256]]=G 50 [L,off,i+1]∧G 82 [L,off+i,1]=G 51 [L,off,i+1]∧G 82 [L,off+i,2]=G 52 [L,off,i+1]∧G 57 [L,off,i]+1=G 57 [L,off,i+1]:=by
 have e0:G 84 [L,off+i,0]=sk ((Lc.dec L).getD (off+i).toNat []):=qN .u8 L (off+i) 0
 rw[e0]at hk
 have q:=aHa h0 hi hl hk
 have e:cA (aF L off (i+1))=fJ (cA (aF L off i)) ((Lc.dec L).getD (off+i).toNat []):=by
  rw[jG h0 hi hl];unfold cA;rw[List.foldl_append];rfl
 have a1:G 82 [L,off+i,1]=sp ((Lc.dec L).getD (off+i).toNat []) 0:=qN .i32 L (off+i) 1
 have a2:G 82 [L,off+i,2]=sp ((Lc.dec L).getD (off+i).toNat []) 1:=qN .i32 L (off+i) 2
 rw[a1,a2]
 refine⟨q.1,q.2.1,q.2.2,?_⟩
 rw[aDD ⟨hi.1,by omega⟩,aDD ⟨by omega,by omega⟩,e]
 unfold fJ
 rw[if_neg hk]
 simp only[List.length_append,List.length_cons,List.length_nil]
 omega
theorem aC5 (xs:List Int) (a:Nat):mA xs (a+1)=mA xs a++[qI xs (cW xs) ((a:Int)+1)]:=by
 unfold mA;rw[List.range_succ,List.map_append];rfl
def oX (C:Int) (xs:List Int) (a:Nat):Int:=if a=0 then C else Lc.enc (Lc.dec C++mA xs a)
theorem aHQ (C:Int) (xs:List Int) (a:Nat):Lc.dec (oX C xs a)=Lc.dec C++mA xs a:=by
 unfold oX
 split
 ·rename_i h;subst h;unfold mA;simp
 ·rw[Lc.dec_enc]
theorem aET (C:Int) (xs:List Int) (a:Nat):G 91 (oX C xs a::qI xs (cW xs) ((a:Int)+1))=oX C xs (a+1):=by
 have e:G 91 (oX C xs a::qI xs (cW xs) ((a:Int)+1))=Lc.enc (Lc.dec (oX C xs a)++[qI xs (cW xs) ((a:Int)+1)]):=iZ 91 _ (by decide) (by decide)
 rw[e,aHQ]
 have e2:oX C xs (a+1)=Lc.enc (Lc.dec C++mA xs (a+1)):=by unfold oX;rw[if_neg (by omega)]
 rw[e2,aC5,List.append_assoc]
theorem aID (C a b c d e f g h:Int):oX C [a,b,c,d,e,f,g,h] (cW [a,b,c,d,e,f,g,h]).toNat=G 47 [a,b,c,d,e,f,g,h,C]:=by
 have hp:=fZ [a,b,c,d,e,f,g,h]
 unfold oX
 rw[if_neg (by omega)]
 rfl
def yF:List (Int × Int):=[(0,300),(0,256),(0,256),(0,256),((-2147483648),2147483647),((-2147483648),2147483647),(0,19200),((-2147483648),2147483647),((-2147483648),2147483647),((-2147483648),2147483647),((-2147483648),2147483647),((-2147483648),2147483647),((-2147483648),2147483647),(0,64),(0,19264)]
def aDQ:List (Int × Int):=[(0,300),(0,256),(0,256),(0,256),((-2147483648),2147483647),((-2147483648),2147483647),(0,19200)]
def aCy:List (Int × Int):=[(0,300),(0,256),(0,256)]
def zT:B:=(.cmp .le (.op .add (.var 0) (.var 1)) (.var 2))
def aNI:St:=⟨[(.vsl 0 7 (.var 0) (.var 1) none),.any,(.own 13 (.var 14) none),(.ptr 1 0),.any,.any,(.ptr 12 0),(.int .i64 (.op .shl (.lit 1) (.app 43 (.cons (.var 4) (.cons (.var 5) (.cons (.var 7) (.cons (.var 8) (.cons (.var 9) (.cons (.var 10) (.cons (.var 11) (.cons (.var 12) .nil))))))))))),.any,(.vsl 0 7 (.var 0) (.var 1) none),(.int .i64 (.var 1)),(.int .i64 (.var 3)),.any,.any,.any,.any,.any,.any,.any,.any,.any,.any,.any,.any,.any,.any,.any,.any,.any,(.int .i64 (.op .shl (.lit 1) (.app 43 (.cons (.var 4) (.cons (.var 5) (.cons (.var 7) (.cons (.var 8) (.cons (.var 9) (.cons (.var 10) (.cons (.var 11) (.cons (.var 12) .nil))))))))))),(.int .i64 (.var 13)),.any,.any,.any,.any,.any,.any,.any,.any,.any,.any,.any,.any,.any,.any,.any,.any,.any,.any,.any,.any,.any,.any,.any],[some ([.vec [.int .u8,.int .i32,.int .i32,.int .i32,.int .i32,.int .i32,.int .i32] (.var 16) (.var 2) true],bC),some ([(.int .i64 (.var 4)),(.int .i64 (.var 5))],57),none,none,none,none,none,none,none,none,none,none,some ([(.int .i64 (.var 4)),(.int .i64 (.var 5)),(.int .i64 (.var 7)),(.int .i64 (.var 8)),(.int .i64 (.var 9)),(.int .i64 (.var 10)),(.int .i64 (.var 11)),(.int .i64 (.var 12))],60),kM [.int .i64,.int .i64] (.var 15) (.var 14) 32]⟩
def aMV:St:=⟨[(.vsl 0 7 (.var 0) (.var 1) none),.any,(.own 13 (.op .add (.var 6) (.op .shl (.lit 1) (.app 43 (.cons (.var 4) (.cons (.var 5) (.cons (.app 82 (.cons (.var 8) (.cons (.op .add (.var 0) (.var 3)) (.cons (.lit 1) .nil)))) (.cons (.app 82 (.cons (.var 8) (.cons (.op .add (.var 0) (.var 3)) (.cons (.lit 2) .nil)))) (.cons (.app 82 (.cons (.var 8) (.cons (.op .add (.var 0) (.var 3)) (.cons (.lit 3) .nil)))) (.cons (.app 82 (.cons (.var 8) (.cons (.op .add (.var 0) (.var 3)) (.cons (.lit 4) .nil)))) (.cons (.app 82 (.cons (.var 8) (.cons (.op .add (.var 0) (.var 3)) (.cons (.lit 5) .nil)))) (.cons (.app 82 (.cons (.var 8) (.cons (.op .add (.var 0) (.var 3)) (.cons (.lit 6) .nil)))) .nil))))))))))) none),(.ptr 1 0),.any,.any,(.ptr 12 0),.any,.any,(.vsl 0 7 (.var 0) (.var 1) none),(.int .i64 (.var 1)),(.int .i64 (.var 3)),.any,.any,.any,.any,.any,.any,.any,.any,.any,.any,.any,.any,.any,.any,.any,.any,.any,.any,.any,.any,.any,.any,.any,.any,.any,.any,.any,.any,.any,.any,.any,.any,.any,.any,.any,.any,.any,.any,.any,.any,.any,.any],[some ([.vec [.int .u8,.int .i32,.int .i32,.int .i32,.int .i32,.int .i32,.int .i32] (.var 8) (.var 2) true],bC),some ([(.int .i64 (.var 4)),(.int .i64 (.var 5))],57),none,none,none,none,none,none,none,none,none,none,some ([(.int .i64 (.var 4)),(.int .i64 (.var 5)),(.int .i64 (.app 82 (.cons (.var 8) (.cons (.op .add (.var 0) (.var 3)) (.cons (.lit 1) .nil))))),(.int .i64 (.app 82 (.cons (.var 8) (.cons (.op .add (.var 0) (.var 3)) (.cons (.lit 2) .nil))))),(.int .i64 (.app 82 (.cons (.var 8) (.cons (.op .add (.var 0) (.var 3)) (.cons (.lit 3) .nil))))),(.int .i64 (.app 82 (.cons (.var 8) (.cons (.op .add (.var 0) (.var 3)) (.cons (.lit 4) .nil))))),(.int .i64 (.app 82 (.cons (.var 8) (.cons (.op .add (.var 0) (.var 3)) (.cons (.lit 5) .nil))))),(.int .i64 (.app 82 (.cons (.var 8) (.cons (.op .add (.var 0) (.var 3)) (.cons (.lit 6) .nil)))))],60),kM [.int .i64,.int .i64] (.app 47 (.cons (.var 4) (.cons (.var 5) (.cons (.app 82 (.cons (.var 8) (.cons (.op .add (.var 0) (.var 3)) (.cons (.lit 1) .nil)))) (.cons (.app 82 (.cons (.var 8) (.cons (.op .add (.var 0) (.var 3)) (.cons (.lit 2) .nil)))) (.cons (.app 82 (.cons (.var 8) (.cons (.op .add (.var 0) (.var 3)) (.cons (.lit 3) .nil)))) (.cons (.app 82 (.cons (.var 8) (.cons (.op .add (.var 0) (.var 3)) (.cons (.lit 4) .nil)))) (.cons (.app 82 (.cons (.var 8) (.cons (.op .add (.var 0) (.var 3)) (.cons (.lit 5) .nil)))) (.cons (.app 82 (.cons (.var 8) (.cons (.op .add (.var 0) (.var 3)) (.cons (.lit 6) .nil)))) (.cons (.var 7) .nil)))))))))) (.op .add (.var 6) (.op .shl (.lit 1) (.app 43 (.cons (.var 4) (.cons (.var 5) (.cons (.app 82 (.cons (.var 8) (.cons (.op .add (.var 0) (.var 3)) (.cons (.lit 1) .nil)))) (.cons (.app 82 (.cons (.var 8) (.cons (.op .add (.var 0) (.var 3)) (.cons (.lit 2) .nil)))) (.cons (.app 82 (.cons (.var 8) (.cons (.op .add (.var 0) (.var 3)) (.cons (.lit 3) .nil)))) (.cons (.app 82 (.cons (.var 8) (.cons (.op .add (.var 0) (.var 3)) (.cons (.lit 4) .nil)))) (.cons (.app 82 (.cons (.var 8) (.cons (.op .add (.var 0) (.var 3)) (.cons (.lit 5) .nil)))) (.cons (.app 82 (.cons (.var 8) (.cons (.op .add (.var 0) (.var 3)) (.cons (.lit 6) .nil)))) .nil))))))))))) 32]⟩
def aNa:LoopS:=⟨7,13,aNI,.lit true,.exit 2,aMV,.exit 2,aMV⟩
def aMD:LoopU:=⟨aNa,[(.var 0),(.var 1),(.var 2),(.var 3),(.var 4),(.var 5),(.var 6),(.app 82 (.cons (.var 8) (.cons (.op .add (.var 0) (.var 3)) (.cons (.lit 1) .nil)))),(.app 82 (.cons (.var 8) (.cons (.op .add (.var 0) (.var 3)) (.cons (.lit 2) .nil)))),(.app 82 (.cons (.var 8) (.cons (.op .add (.var 0) (.var 3)) (.cons (.lit 3) .nil)))),(.app 82 (.cons (.var 8) (.cons (.op .add (.var 0) (.var 3)) (.cons (.lit 4) .nil)))),(.app 82 (.cons (.var 8) (.cons (.op .add (.var 0) (.var 3)) (.cons (.lit 5) .nil)))),(.app 82 (.cons (.var 8) (.cons (.op .add (.var 0) (.var 3)) (.cons (.lit 6) .nil)))),(.lit 0),(.var 6),(.var 7),(.var 8)],yF,.lit true⟩
def uM (P:Program) (fs:List B):Res SV:=bW G GI yF fs fun X=>gZ P X GB cU dK 4000 (dJ (cH P 16) 1) aNa
def aNF:St:=⟨[(.vsl 0 7 (.var 0) (.var 1) none),.any,(.own 2 (.var 6) none),(.ptr 1 0),.any,.any,.any,.any,.any,(.vsl 0 7 (.var 0) (.var 1) none),(.int .i64 (.var 1)),(.int .i64 (.var 3)),.any,.any,.any,.any,.any,.any,.any,.any,.any,.any,.any,.any,.any,.any,.any,.any,.any,.any,.any,.any,.any,.any,.any,.any,.any,.any,.any,.any,.any,.any,.any,.any,.any,.any,.any,.any,.any,.any,.any,.any,.any,.any],[some ([.vec [.int .u8,.int .i32,.int .i32,.int .i32,.int .i32,.int .i32,.int .i32] (.var 8) (.var 2) true],bC),some ([(.int .i64 (.var 4)),(.int .i64 (.var 5))],57),kM [.int .i64,.int .i64] (.var 7) (.var 6) 32]⟩
def aNh:St:=⟨[.any,.any,(.own 2 (.app 57 (.cons (.var 3) (.cons (.var 0) (.cons (.var 1) .nil)))) none),.any,.any,.any,.any,.any,.any,.any,.any,.any,.any,.any,.any,.any,.any,.any,.any,.any,.any,.any,.any,.any,.any,.any,.any,.any,.any,.any,.any,.any,.any,.any,.any,.any,.any,.any,.any,.any,.any,.any,.any,.any,.any,.any,.any,.any,.any,.any,.any,.any,.any,.any],[some ([.vec [.int .u8,.int .i32,.int .i32,.int .i32,.int .i32,.int .i32,.int .i32] (.var 3) (.var 2) true],bC),none,kM [.int .i64,.int .i64] (.app 50 (.cons (.var 3) (.cons (.var 0) (.cons (.var 1) .nil)))) (.app 57 (.cons (.var 3) (.cons (.var 0) (.cons (.var 1) .nil)))) 32]⟩
def aNf:LoopS:=⟨3,2,aNF,.lit true,.exit 0,aNh,.exit 0,aNh⟩
def aNb:eJ:=iD 9 (fC (bO GB) [aMD]) dK
def aLU:LoopU:=⟨aNf,[(.var 0),(.var 1),(.var 2),(.lit 0),(.lit 0),(.lit 0),(.lit 0),(.lit 0),(.var 3)],aDQ,.lit true⟩
def wT (P:Program) (fs:List B):Res SV:=bW G GI aDQ fs fun X=>gZ P X GB cU aNb 4000 (dJ (cH P 16) 0) aNf
def aLw:eJ:=iD 3 (fC (bO GB) [aLU]) dK
def aLP:FunS:=⟨[(.vsl 0 7 (.var 0) (.var 1) none)],[some ([.vec [.int .u8,.int .i32,.int .i32,.int .i32,.int .i32,.int .i32,.int .i32] (.var 3) (.var 2) true],bC)],.lit true,(.vsl 1 2 (.lit 0) (.app 57 (.cons (.var 3) (.cons (.var 0) (.cons (.var 1) .nil)))) (some (.app 57 (.cons (.var 3) (.cons (.var 0) (.cons (.var 1) .nil)))))),[some ([.vec [.int .u8,.int .i32,.int .i32,.int .i32,.int .i32,.int .i32,.int .i32] (.var 3) (.var 2) true],bC),kM [.int .i64,.int .i64] (.app 50 (.cons (.var 3) (.cons (.var 0) (.cons (.var 1) .nil)))) (.app 57 (.cons (.var 3) (.cons (.var 0) (.cons (.var 1) .nil)))) 32],(.vsl 1 2 (.lit 0) (.app 57 (.cons (.var 3) (.cons (.var 0) (.cons (.var 1) .nil)))) (some (.app 57 (.cons (.var 3) (.cons (.var 0) (.cons (.var 1) .nil)))))),[some ([.vec [.int .u8,.int .i32,.int .i32,.int .i32,.int .i32,.int .i32,.int .i32] (.var 3) (.var 2) true],bC),kM [.int .i64,.int .i64] (.app 50 (.cons (.var 3) (.cons (.var 0) (.cons (.var 1) .nil)))) (.app 57 (.cons (.var 3) (.cons (.var 0) (.cons (.var 1) .nil)))) 32]⟩
def aH6 (P:Program) (fs:List B):Res SV:=bW G GI aCy fs fun X=>fB P X GB cU aLw 4000 16 aLP
end Go.Proofs.Ythiehfhphgkaeaa
set_option maxRecDepth 100000
namespace Go.Proofs.Ythiehfhphgkaeaa
open Go Go.RowKit Sx Wi
def aKk (P:Program) (fs:List B):Res SV:=aH6 P fs
def aHt:List B:=[]
theorem aIk:aKk Try.prog aHt = .ok (.tuple [(.agg []),(.bool (.lit true))]):=by kernel_rfl
end Go.Proofs.Ythiehfhphgkaeaa
set_option maxRecDepth 100000
namespace Go.Proofs.Ythiehfhphgkaeaa
open Go Go.RowKit Sx Wi
def aAe (P:Program) (fs:List B):Res SV:=wT P fs
def aCh:List B:=[]
def jC:B:=(.cmp .lt (.var 3) (.var 1))
def aH7:List B:=bA jC++aCh
def mV:B:=(.cmp .lt (.op .add (.var 0) (.var 3)) (.var 2))
def aBZ:List B:=bA mV++aH7
def nD:B:=(.cmp .eq (.app 84 (.cons (.var 8) (.cons (.op .add (.var 0) (.var 3)) (.cons (.lit 0) .nil)))) (.lit 2))
def aHk:List B:=bA nD++aBZ
def aBi:SV:=(.agg [(.int .i64 (.op .add (.var 6) (.op .shl (.lit 1) (.app 43 (.cons (.var 4) (.cons (.var 5) (.cons (.app 82 (.cons (.var 8) (.cons (.op .add (.var 0) (.var 3)) (.cons (.lit 1) .nil)))) (.cons (.app 82 (.cons (.var 8) (.cons (.op .add (.var 0) (.var 3)) (.cons (.lit 2) .nil)))) (.cons (.app 82 (.cons (.var 8) (.cons (.op .add (.var 0) (.var 3)) (.cons (.lit 3) .nil)))) (.cons (.app 82 (.cons (.var 8) (.cons (.op .add (.var 0) (.var 3)) (.cons (.lit 4) .nil)))) (.cons (.app 82 (.cons (.var 8) (.cons (.op .add (.var 0) (.var 3)) (.cons (.lit 5) .nil)))) (.cons (.app 82 (.cons (.var 8) (.cons (.op .add (.var 0) (.var 3)) (.cons (.lit 6) .nil)))) .nil)))))))))))),(.int .i64 (.var 6)),(.int .i64 (.op .add (.var 3) (.lit 1))),(.int .i64 (.var 3)),(.int .i64 (.var 8)),(.int .i64 (.var 8)),(.int .i64 (.app 82 (.cons (.var 8) (.cons (.op .add (.var 0) (.var 3)) (.cons (.lit 5) .nil))))),(.int .i64 (.var 4)),(.int .i64 (.app 82 (.cons (.var 8) (.cons (.op .add (.var 0) (.var 3)) (.cons (.lit 6) .nil))))),(.int .i64 (.var 5)),(.int .i64 (.app 47 (.cons (.var 4) (.cons (.var 5) (.cons (.app 82 (.cons (.var 8) (.cons (.op .add (.var 0) (.var 3)) (.cons (.lit 1) .nil)))) (.cons (.app 82 (.cons (.var 8) (.cons (.op .add (.var 0) (.var 3)) (.cons (.lit 2) .nil)))) (.cons (.app 82 (.cons (.var 8) (.cons (.op .add (.var 0) (.var 3)) (.cons (.lit 3) .nil)))) (.cons (.app 82 (.cons (.var 8) (.cons (.op .add (.var 0) (.var 3)) (.cons (.lit 4) .nil)))) (.cons (.app 82 (.cons (.var 8) (.cons (.op .add (.var 0) (.var 3)) (.cons (.lit 5) .nil)))) (.cons (.app 82 (.cons (.var 8) (.cons (.op .add (.var 0) (.var 3)) (.cons (.lit 6) .nil)))) (.cons (.var 7) .nil))))))))))),(.int .i64 (.var 7)),(.int .i64 (.op .add (.var 6) (.op .shl (.lit 1) (.app 43 (.cons (.var 4) (.cons (.var 5) (.cons (.app 82 (.cons (.var 8) (.cons (.op .add (.var 0) (.var 3)) (.cons (.lit 1) .nil)))) (.cons (.app 82 (.cons (.var 8) (.cons (.op .add (.var 0) (.var 3)) (.cons (.lit 2) .nil)))) (.cons (.app 82 (.cons (.var 8) (.cons (.op .add (.var 0) (.var 3)) (.cons (.lit 3) .nil)))) (.cons (.app 82 (.cons (.var 8) (.cons (.op .add (.var 0) (.var 3)) (.cons (.lit 4) .nil)))) (.cons (.app 82 (.cons (.var 8) (.cons (.op .add (.var 0) (.var 3)) (.cons (.lit 5) .nil)))) (.cons (.app 82 (.cons (.var 8) (.cons (.op .add (.var 0) (.var 3)) (.cons (.lit 6) .nil)))) .nil)))))))))))),(.int .i64 (.var 6))])
def aHm:List B:=bA (B.neg nD)++aBZ
def aBC:SV:=(.agg [(.int .i64 (.op .add (.var 6) (.lit 1))),(.int .i64 (.var 6)),(.int .i64 (.op .add (.var 3) (.lit 1))),(.int .i64 (.var 3)),(.int .i64 (.var 8)),(.int .i64 (.var 8)),(.int .i64 (.app 82 (.cons (.var 8) (.cons (.op .add (.var 0) (.var 3)) (.cons (.lit 1) .nil))))),(.int .i64 (.var 4)),(.int .i64 (.app 82 (.cons (.var 8) (.cons (.op .add (.var 0) (.var 3)) (.cons (.lit 2) .nil))))),(.int .i64 (.var 5)),(.int .i64 (.app 91 (.cons (.var 7) (.cons (.app 2 (.cons (.app 82 (.cons (.var 8) (.cons (.op .add (.var 0) (.var 3)) (.cons (.lit 1) .nil)))) (.cons (.op .mul (.lit 1) (.lit 256)) .nil))) (.cons (.app 2 (.cons (.app 82 (.cons (.var 8) (.cons (.op .add (.var 0) (.var 3)) (.cons (.lit 2) .nil)))) (.cons (.op .mul (.lit 1) (.lit 256)) .nil))) .nil))))),(.int .i64 (.var 7)),(.int .i64 (.op .add (.var 6) (.lit 1))),(.int .i64 (.var 6))])
def aJ2:List B:=bA (B.neg jC)++aCh
def aAL:SV:=(.tuple [(.agg [(.int .i64 (.var 6)),(.int .i64 (.app 57 (.cons (.var 3) (.cons (.var 0) (.cons (.var 1) .nil))))),(.int .i64 (.var 8)),(.int .i64 (.var 3)),(.int .i64 (.var 7)),(.int .i64 (.app 50 (.cons (.var 3) (.cons (.var 0) (.cons (.var 1) .nil))))),(.int .i64 (.var 6)),(.int .i64 (.app 57 (.cons (.var 3) (.cons (.var 0) (.cons (.var 1) .nil)))))]),(.bool (.lit true))])
theorem aIi:aAe Try.prog aHk = .ok aBi:=by kernel_rfl
theorem aJf:aAe Try.prog aHm = .ok aBC:=by kernel_rfl
theorem aI2:aAe Try.prog aJ2 = .ok aAL:=by kernel_rfl
end Go.Proofs.Ythiehfhphgkaeaa
set_option maxRecDepth 100000
namespace Go.Proofs.Ythiehfhphgkaeaa
open Go Go.RowKit Sx Wi
def aDT (P:Program) (fs:List B):Res SV:=uM P fs
def aB0:List B:=[]
def nF:B:=(.cmp .lt (.var 13) (.op .shl (.lit 1) (.app 43 (.cons (.var 4) (.cons (.var 5) (.cons (.var 7) (.cons (.var 8) (.cons (.var 9) (.cons (.var 10) (.cons (.var 11) (.cons (.var 12) .nil)))))))))))
def aIu:List B:=bA nF++aB0
def aBz:SV:=(.agg [(.int .i64 (.op .add (.var 14) (.lit 1))),(.int .i64 (.var 14)),(.int .i64 (.op .shl (.lit 1) (.app 43 (.cons (.var 4) (.cons (.var 5) (.cons (.var 7) (.cons (.var 8) (.cons (.var 9) (.cons (.var 10) (.cons (.var 11) (.cons (.var 12) .nil))))))))))),(.int .i64 (.op .shl (.lit 1) (.app 43 (.cons (.var 4) (.cons (.var 5) (.cons (.var 7) (.cons (.var 8) (.cons (.var 9) (.cons (.var 10) (.cons (.var 11) (.cons (.var 12) .nil))))))))))),(.int .i64 (.op .shl (.lit 1) (.app 43 (.cons (.var 4) (.cons (.var 5) (.cons (.var 7) (.cons (.var 8) (.cons (.var 9) (.cons (.var 10) (.cons (.var 11) (.cons (.var 12) .nil))))))))))),(.int .i64 (.op .shl (.lit 1) (.app 43 (.cons (.var 4) (.cons (.var 5) (.cons (.var 7) (.cons (.var 8) (.cons (.var 9) (.cons (.var 10) (.cons (.var 11) (.cons (.var 12) .nil))))))))))),(.int .i64 (.op .add (.var 13) (.lit 1))),(.int .i64 (.var 13)),(.int .i64 (.var 16)),(.int .i64 (.var 16)),(.int .i64 (.var 7)),(.int .i64 (.var 7)),(.int .i64 (.var 8)),(.int .i64 (.var 8)),(.int .i64 (.var 9)),(.int .i64 (.var 9)),(.int .i64 (.var 10)),(.int .i64 (.var 10)),(.int .i64 (.var 11)),(.int .i64 (.var 11)),(.int .i64 (.var 12)),(.int .i64 (.var 12)),(.int .i64 (.app 91 (.cons (.var 15) (.cons (.app 2 (.cons (.op .add (.op .add (.op .add (.op .mul (.op .mul (.op .mul (.op .sub (.op .shl (.lit 1) (.app 43 (.cons (.var 4) (.cons (.var 5) (.cons (.var 7) (.cons (.var 8) (.cons (.var 9) (.cons (.var 10) (.cons (.var 11) (.cons (.var 12) .nil)))))))))) (.op .add (.var 13) (.lit 1))) (.op .sub (.op .shl (.lit 1) (.app 43 (.cons (.var 4) (.cons (.var 5) (.cons (.var 7) (.cons (.var 8) (.cons (.var 9) (.cons (.var 10) (.cons (.var 11) (.cons (.var 12) .nil)))))))))) (.op .add (.var 13) (.lit 1)))) (.op .sub (.op .shl (.lit 1) (.app 43 (.cons (.var 4) (.cons (.var 5) (.cons (.var 7) (.cons (.var 8) (.cons (.var 9) (.cons (.var 10) (.cons (.var 11) (.cons (.var 12) .nil)))))))))) (.op .add (.var 13) (.lit 1)))) (.var 4)) (.op .mul (.op .mul (.op .mul (.op .mul (.lit 3) (.op .sub (.op .shl (.lit 1) (.app 43 (.cons (.var 4) (.cons (.var 5) (.cons (.var 7) (.cons (.var 8) (.cons (.var 9) (.cons (.var 10) (.cons (.var 11) (.cons (.var 12) .nil)))))))))) (.op .add (.var 13) (.lit 1)))) (.op .sub (.op .shl (.lit 1) (.app 43 (.cons (.var 4) (.cons (.var 5) (.cons (.var 7) (.cons (.var 8) (.cons (.var 9) (.cons (.var 10) (.cons (.var 11) (.cons (.var 12) .nil)))))))))) (.op .add (.var 13) (.lit 1)))) (.op .add (.var 13) (.lit 1))) (.var 7))) (.op .mul (.op .mul (.op .mul (.op .mul (.lit 3) (.op .sub (.op .shl (.lit 1) (.app 43 (.cons (.var 4) (.cons (.var 5) (.cons (.var 7) (.cons (.var 8) (.cons (.var 9) (.cons (.var 10) (.cons (.var 11) (.cons (.var 12) .nil)))))))))) (.op .add (.var 13) (.lit 1)))) (.op .add (.var 13) (.lit 1))) (.op .add (.var 13) (.lit 1))) (.var 9))) (.op .mul (.op .mul (.op .mul (.op .add (.var 13) (.lit 1)) (.op .add (.var 13) (.lit 1))) (.op .add (.var 13) (.lit 1))) (.var 11))) (.cons (.op .mul (.op .mul (.op .shl (.lit 1) (.app 43 (.cons (.var 4) (.cons (.var 5) (.cons (.var 7) (.cons (.var 8) (.cons (.var 9) (.cons (.var 10) (.cons (.var 11) (.cons (.var 12) .nil)))))))))) (.op .mul (.op .shl (.lit 1) (.app 43 (.cons (.var 4) (.cons (.var 5) (.cons (.var 7) (.cons (.var 8) (.cons (.var 9) (.cons (.var 10) (.cons (.var 11) (.cons (.var 12) .nil)))))))))) (.op .shl (.lit 1) (.app 43 (.cons (.var 4) (.cons (.var 5) (.cons (.var 7) (.cons (.var 8) (.cons (.var 9) (.cons (.var 10) (.cons (.var 11) (.cons (.var 12) .nil)))))))))))) (.lit 256)) .nil))) (.cons (.app 2 (.cons (.op .add (.op .add (.op .add (.op .mul (.op .mul (.op .mul (.op .sub (.op .shl (.lit 1) (.app 43 (.cons (.var 4) (.cons (.var 5) (.cons (.var 7) (.cons (.var 8) (.cons (.var 9) (.cons (.var 10) (.cons (.var 11) (.cons (.var 12) .nil)))))))))) (.op .add (.var 13) (.lit 1))) (.op .sub (.op .shl (.lit 1) (.app 43 (.cons (.var 4) (.cons (.var 5) (.cons (.var 7) (.cons (.var 8) (.cons (.var 9) (.cons (.var 10) (.cons (.var 11) (.cons (.var 12) .nil)))))))))) (.op .add (.var 13) (.lit 1)))) (.op .sub (.op .shl (.lit 1) (.app 43 (.cons (.var 4) (.cons (.var 5) (.cons (.var 7) (.cons (.var 8) (.cons (.var 9) (.cons (.var 10) (.cons (.var 11) (.cons (.var 12) .nil)))))))))) (.op .add (.var 13) (.lit 1)))) (.var 5)) (.op .mul (.op .mul (.op .mul (.op .mul (.lit 3) (.op .sub (.op .shl (.lit 1) (.app 43 (.cons (.var 4) (.cons (.var 5) (.cons (.var 7) (.cons (.var 8) (.cons (.var 9) (.cons (.var 10) (.cons (.var 11) (.cons (.var 12) .nil)))))))))) (.op .add (.var 13) (.lit 1)))) (.op .sub (.op .shl (.lit 1) (.app 43 (.cons (.var 4) (.cons (.var 5) (.cons (.var 7) (.cons (.var 8) (.cons (.var 9) (.cons (.var 10) (.cons (.var 11) (.cons (.var 12) .nil)))))))))) (.op .add (.var 13) (.lit 1)))) (.op .add (.var 13) (.lit 1))) (.var 8))) (.op .mul (.op .mul (.op .mul (.op .mul (.lit 3) (.op .sub (.op .shl (.lit 1) (.app 43 (.cons (.var 4) (.cons (.var 5) (.cons (.var 7) (.cons (.var 8) (.cons (.var 9) (.cons (.var 10) (.cons (.var 11) (.cons (.var 12) .nil)))))))))) (.op .add (.var 13) (.lit 1)))) (.op .add (.var 13) (.lit 1))) (.op .add (.var 13) (.lit 1))) (.var 10))) (.op .mul (.op .mul (.op .mul (.op .add (.var 13) (.lit 1)) (.op .add (.var 13) (.lit 1))) (.op .add (.var 13) (.lit 1))) (.var 12))) (.cons (.op .mul (.op .mul (.op .shl (.lit 1) (.app 43 (.cons (.var 4) (.cons (.var 5) (.cons (.var 7) (.cons (.var 8) (.cons (.var 9) (.cons (.var 10) (.cons (.var 11) (.cons (.var 12) .nil)))))))))) (.op .mul (.op .shl (.lit 1) (.app 43 (.cons (.var 4) (.cons (.var 5) (.cons (.var 7) (.cons (.var 8) (.cons (.var 9) (.cons (.var 10) (.cons (.var 11) (.cons (.var 12) .nil)))))))))) (.op .shl (.lit 1) (.app 43 (.cons (.var 4) (.cons (.var 5) (.cons (.var 7) (.cons (.var 8) (.cons (.var 9) (.cons (.var 10) (.cons (.var 11) (.cons (.var 12) .nil)))))))))))) (.lit 256)) .nil))) .nil))))),(.int .i64 (.var 15)),(.int .i64 (.op .add (.var 14) (.lit 1))),(.int .i64 (.var 14))])
def aIw:List B:=bA (B.neg nF)++aB0
def aB9:SV:=(.tuple [(.agg [(.int .i64 (.var 14)),(.int .i64 (.op .add (.var 6) (.op .shl (.lit 1) (.app 43 (.cons (.var 4) (.cons (.var 5) (.cons (.app 82 (.cons (.var 8) (.cons (.op .add (.var 0) (.var 3)) (.cons (.lit 1) .nil)))) (.cons (.app 82 (.cons (.var 8) (.cons (.op .add (.var 0) (.var 3)) (.cons (.lit 2) .nil)))) (.cons (.app 82 (.cons (.var 8) (.cons (.op .add (.var 0) (.var 3)) (.cons (.lit 3) .nil)))) (.cons (.app 82 (.cons (.var 8) (.cons (.op .add (.var 0) (.var 3)) (.cons (.lit 4) .nil)))) (.cons (.app 82 (.cons (.var 8) (.cons (.op .add (.var 0) (.var 3)) (.cons (.lit 5) .nil)))) (.cons (.app 82 (.cons (.var 8) (.cons (.op .add (.var 0) (.var 3)) (.cons (.lit 6) .nil)))) .nil)))))))))))),(.int .i64 (.var 16)),(.int .i64 (.var 8)),(.int .i64 (.var 7)),(.int .i64 (.app 82 (.cons (.var 8) (.cons (.op .add (.var 0) (.var 3)) (.cons (.lit 1) .nil))))),(.int .i64 (.var 8)),(.int .i64 (.app 82 (.cons (.var 8) (.cons (.op .add (.var 0) (.var 3)) (.cons (.lit 2) .nil))))),(.int .i64 (.var 9)),(.int .i64 (.app 82 (.cons (.var 8) (.cons (.op .add (.var 0) (.var 3)) (.cons (.lit 3) .nil))))),(.int .i64 (.var 10)),(.int .i64 (.app 82 (.cons (.var 8) (.cons (.op .add (.var 0) (.var 3)) (.cons (.lit 4) .nil))))),(.int .i64 (.var 11)),(.int .i64 (.app 82 (.cons (.var 8) (.cons (.op .add (.var 0) (.var 3)) (.cons (.lit 5) .nil))))),(.int .i64 (.var 12)),(.int .i64 (.app 82 (.cons (.var 8) (.cons (.op .add (.var 0) (.var 3)) (.cons (.lit 6) .nil))))),(.int .i64 (.var 15)),(.int .i64 (.app 47 (.cons (.var 4) (.cons (.var 5) (.cons (.app 82 (.cons (.var 8) (.cons (.op .add (.var 0) (.var 3)) (.cons (.lit 1) .nil)))) (.cons (.app 82 (.cons (.var 8) (.cons (.op .add (.var 0) (.var 3)) (.cons (.lit 2) .nil)))) (.cons (.app 82 (.cons (.var 8) (.cons (.op .add (.var 0) (.var 3)) (.cons (.lit 3) .nil)))) (.cons (.app 82 (.cons (.var 8) (.cons (.op .add (.var 0) (.var 3)) (.cons (.lit 4) .nil)))) (.cons (.app 82 (.cons (.var 8) (.cons (.op .add (.var 0) (.var 3)) (.cons (.lit 5) .nil)))) (.cons (.app 82 (.cons (.var 8) (.cons (.op .add (.var 0) (.var 3)) (.cons (.lit 6) .nil)))) (.cons (.var 7) .nil))))))))))),(.int .i64 (.var 14)),(.int .i64 (.op .add (.var 6) (.op .shl (.lit 1) (.app 43 (.cons (.var 4) (.cons (.var 5) (.cons (.app 82 (.cons (.var 8) (.cons (.op .add (.var 0) (.var 3)) (.cons (.lit 1) .nil)))) (.cons (.app 82 (.cons (.var 8) (.cons (.op .add (.var 0) (.var 3)) (.cons (.lit 2) .nil)))) (.cons (.app 82 (.cons (.var 8) (.cons (.op .add (.var 0) (.var 3)) (.cons (.lit 3) .nil)))) (.cons (.app 82 (.cons (.var 8) (.cons (.op .add (.var 0) (.var 3)) (.cons (.lit 4) .nil)))) (.cons (.app 82 (.cons (.var 8) (.cons (.op .add (.var 0) (.var 3)) (.cons (.lit 5) .nil)))) (.cons (.app 82 (.cons (.var 8) (.cons (.op .add (.var 0) (.var 3)) (.cons (.lit 6) .nil)))) .nil))))))))))))]),(.bool (.lit true))])
theorem aIv:aDT Try.prog aIu = .ok aBz:=by kernel_rfl
theorem aJi:aDT Try.prog aIw = .ok aB9:=by kernel_rfl
end Go.Proofs.Ythiehfhphgkaeaa
namespace Go.Proofs.Ythiehfhphgkaeaa
open Go Go.RowKit Sx Wi
theorem rB (L r j:Int) : -2147483648≤G 82 [L,r,j]∧G 82 [L,r,j]≤2147483647:=by
 rw[show G 82 [L,r,j]=_ from qN .i32 L r j]
 exact fN .i32 _
def iE (v0 v1 v2 v3 v4 v5 v6 C L:Int) (a:Nat):Nat→Int:=eT ([v0,v1,v2,v3,v4,v5,v6]++[G 82 [L,v0+v3,1],G 82 [L,v0+v3,2],G 82 [L,v0+v3,3],G 82 [L,v0+v3,4],G 82 [L,v0+v3,5],G 82 [L,v0+v3,6],(a:Int),v6+(a:Int),oX C [v4,v5,G 82 [L,v0+v3,1],G 82 [L,v0+v3,2],G 82 [L,v0+v3,3],G 82 [L,v0+v3,4],G 82 [L,v0+v3,5],G 82 [L,v0+v3,6]] a,L])
theorem aKm (v0 v1 v2 v3 v4 v5 v6 C L:Int) (b0:0≤v0∧v0≤300) (b1:0≤v1∧v1≤256) (b2:0≤v2∧v2≤256) (b3:0≤v3∧v3≤256) (b4 : -2147483648≤v4∧v4≤2147483647) (b5 : -2147483648≤v5∧v5≤2147483647) (b6:0≤v6∧v6≤19200) (a:Nat) (ha:(a:Int)≤cW [v4,v5,G 82 [L,v0+v3,1],G 82 [L,v0+v3,2],G 82 [L,v0+v3,3],G 82 [L,v0+v3,4],G 82 [L,v0+v3,5],G 82 [L,v0+v3,6]]):∀ i q,yF[i]?=some q→q.1≤iE v0 v1 v2 v3 v4 v5 v6 C L a i∧iE v0 v1 v2 v3 v4 v5 v6 C L a i≤q.2:=by
 have hp:=fZ [v4,v5,G 82 [L,v0+v3,1],G 82 [L,v0+v3,2],G 82 [L,v0+v3,3],G 82 [L,v0+v3,4],G 82 [L,v0+v3,5],G 82 [L,v0+v3,6]]
 unfold iE yF
 exact cQ (xs:=[v0,v1,v2,v3,v4,v5,v6,G 82 [L,v0+v3,1],G 82 [L,v0+v3,2],G 82 [L,v0+v3,3],G 82 [L,v0+v3,4],G 82 [L,v0+v3,5],G 82 [L,v0+v3,6],(a:Int),v6+(a:Int)]) (ls:=[oX C [v4,v5,G 82 [L,v0+v3,1],G 82 [L,v0+v3,2],G 82 [L,v0+v3,3],G 82 [L,v0+v3,4],G 82 [L,v0+v3,5],G 82 [L,v0+v3,6]] a,L]) (by exact⟨b0,b1,b2,b3,b4,b5,b6,rB _ _ _,rB _ _ _,rB _ _ _,rB _ _ _,rB _ _ _,rB _ _ _,by omega,by omega,trivial⟩)
set_option maxRecDepth 100000 in
theorem aL0 (v0 v3 v4 v5 C L:Int) (a:Nat):G 91 [oX C [v4,v5,G 82 [L,v0+v3,1],G 82 [L,v0+v3,2],G 82 [L,v0+v3,3],G 82 [L,v0+v3,4],G 82 [L,v0+v3,5],G 82 [L,v0+v3,6]] a,G 2 [((((((((1*2 ^ (G 43 [v4,v5,G 82 [L,v0+v3,1],G 82 [L,v0+v3,2],G 82 [L,v0+v3,3],G 82 [L,v0+v3,4],G 82 [L,v0+v3,5],G 82 [L,v0+v3,6]]).toNat)-((a:Int)+1))*((1*2 ^ (G 43 [v4,v5,G 82 [L,v0+v3,1],G 82 [L,v0+v3,2],G 82 [L,v0+v3,3],G 82 [L,v0+v3,4],G 82 [L,v0+v3,5],G 82 [L,v0+v3,6]]).toNat)-((a:Int)+1)))*((1*2 ^ (G 43 [v4,v5,G 82 [L,v0+v3,1],G 82 [L,v0+v3,2],G 82 [L,v0+v3,3],G 82 [L,v0+v3,4],G 82 [L,v0+v3,5],G 82 [L,v0+v3,6]]).toNat)-((a:Int)+1)))*v4)+((((3*((1*2 ^ (G 43 [v4,v5,G 82 [L,v0+v3,1],G 82 [L,v0+v3,2],G 82 [L,v0+v3,3],G 82 [L,v0+v3,4],G 82 [L,v0+v3,5],G 82 [L,v0+v3,6]]).toNat)-((a:Int)+1)))*((1*2 ^ (G 43 [v4,v5,G 82 [L,v0+v3,1],G 82 [L,v0+v3,2],G 82 [L,v0+v3,3],G 82 [L,v0+v3,4],G 82 [L,v0+v3,5],G 82 [L,v0+v3,6]]).toNat)-((a:Int)+1)))*((a:Int)+1))*G 82 [L,v0+v3,1]))+((((3*((1*2 ^ (G 43 [v4,v5,G 82 [L,v0+v3,1],G 82 [L,v0+v3,2],G 82 [L,v0+v3,3],G 82 [L,v0+v3,4],G 82 [L,v0+v3,5],G 82 [L,v0+v3,6]]).toNat)-((a:Int)+1)))*((a:Int)+1))*((a:Int)+1))*G 82 [L,v0+v3,3]))+(((((a:Int)+1)*((a:Int)+1))*((a:Int)+1))*G 82 [L,v0+v3,5])),(((1*2 ^ (G 43 [v4,v5,G 82 [L,v0+v3,1],G 82 [L,v0+v3,2],G 82 [L,v0+v3,3],G 82 [L,v0+v3,4],G 82 [L,v0+v3,5],G 82 [L,v0+v3,6]]).toNat)*((1*2 ^ (G 43 [v4,v5,G 82 [L,v0+v3,1],G 82 [L,v0+v3,2],G 82 [L,v0+v3,3],G 82 [L,v0+v3,4],G 82 [L,v0+v3,5],G 82 [L,v0+v3,6]]).toNat)*(1*2 ^ (G 43 [v4,v5,G 82 [L,v0+v3,1],G 82 [L,v0+v3,2],G 82 [L,v0+v3,3],G 82 [L,v0+v3,4],G 82 [L,v0+v3,5],G 82 [L,v0+v3,6]]).toNat)))*256)],G 2 [((((((((1*2 ^ (G 43 [v4,v5,G 82 [L,v0+v3,1],G 82 [L,v0+v3,2],G 82 [L,v0+v3,3],G 82 [L,v0+v3,4],G 82 [L,v0+v3,5],G 82 [L,v0+v3,6]]).toNat)-((a:Int)+1))*((1*2 ^ (G 43 [v4,v5,G 82 [L,v0+v3,1],G 82 [L,v0+v3,2],G 82 [L,v0+v3,3],G 82 [L,v0+v3,4],G 82 [L,v0+v3,5],G 82 [L,v0+v3,6]]).toNat)-((a:Int)+1)))*((1*2 ^ (G 43 [v4,v5,G 82 [L,v0+v3,1],G 82 [L,v0+v3,2],G 82 [L,v0+v3,3],G 82 [L,v0+v3,4],G 82 [L,v0+v3,5],G 82 [L,v0+v3,6]]).toNat)-((a:Int)+1)))*v5)+((((3*((1*2 ^ (G 43 [v4,v5,G 82 [L,v0+v3,1],G 82 [L,v0+v3,2],G 82 [L,v0+v3,3],G 82 [L,v0+v3,4],G 82 [L,v0+v3,5],G 82 [L,v0+v3,6]]).toNat)-((a:Int)+1)))*((1*2 ^ (G 43 [v4,v5,G 82 [L,v0+v3,1],G 82 [L,v0+v3,2],G 82 [L,v0+v3,3],G 82 [L,v0+v3,4],G 82 [L,v0+v3,5],G 82 [L,v0+v3,6]]).toNat)-((a:Int)+1)))*((a:Int)+1))*G 82 [L,v0+v3,2]))+((((3*((1*2 ^ (G 43 [v4,v5,G 82 [L,v0+v3,1],G 82 [L,v0+v3,2],G 82 [L,v0+v3,3],G 82 [L,v0+v3,4],G 82 [L,v0+v3,5],G 82 [L,v0+v3,6]]).toNat)-((a:Int)+1)))*((a:Int)+1))*((a:Int)+1))*G 82 [L,v0+v3,4]))+(((((a:Int)+1)*((a:Int)+1))*((a:Int)+1))*G 82 [L,v0+v3,6])),(((1*2 ^ (G 43 [v4,v5,G 82 [L,v0+v3,1],G 82 [L,v0+v3,2],G 82 [L,v0+v3,3],G 82 [L,v0+v3,4],G 82 [L,v0+v3,5],G 82 [L,v0+v3,6]]).toNat)*((1*2 ^ (G 43 [v4,v5,G 82 [L,v0+v3,1],G 82 [L,v0+v3,2],G 82 [L,v0+v3,3],G 82 [L,v0+v3,4],G 82 [L,v0+v3,5],G 82 [L,v0+v3,6]]).toNat)*(1*2 ^ (G 43 [v4,v5,G 82 [L,v0+v3,1],G 82 [L,v0+v3,2],G 82 [L,v0+v3,3],G 82 [L,v0+v3,4],G 82 [L,v0+v3,5],G 82 [L,v0+v3,6]]).toNat)))*256)]]=oX C [v4,v5,G 82 [L,v0+v3,1],G 82 [L,v0+v3,2],G 82 [L,v0+v3,3],G 82 [L,v0+v3,4],G 82 [L,v0+v3,5],G 82 [L,v0+v3,6]] (a+1):=by
 have er:qI [v4,v5,G 82 [L,v0+v3,1],G 82 [L,v0+v3,2],G 82 [L,v0+v3,3],G 82 [L,v0+v3,4],G 82 [L,v0+v3,5],G 82 [L,v0+v3,6]] (cW [v4,v5,G 82 [L,v0+v3,1],G 82 [L,v0+v3,2],G 82 [L,v0+v3,3],G 82 [L,v0+v3,4],G 82 [L,v0+v3,5],G 82 [L,v0+v3,6]]) ((a:Int)+1)=[G 2 [((((((((1*2 ^ (G 43 [v4,v5,G 82 [L,v0+v3,1],G 82 [L,v0+v3,2],G 82 [L,v0+v3,3],G 82 [L,v0+v3,4],G 82 [L,v0+v3,5],G 82 [L,v0+v3,6]]).toNat)-((a:Int)+1))*((1*2 ^ (G 43 [v4,v5,G 82 [L,v0+v3,1],G 82 [L,v0+v3,2],G 82 [L,v0+v3,3],G 82 [L,v0+v3,4],G 82 [L,v0+v3,5],G 82 [L,v0+v3,6]]).toNat)-((a:Int)+1)))*((1*2 ^ (G 43 [v4,v5,G 82 [L,v0+v3,1],G 82 [L,v0+v3,2],G 82 [L,v0+v3,3],G 82 [L,v0+v3,4],G 82 [L,v0+v3,5],G 82 [L,v0+v3,6]]).toNat)-((a:Int)+1)))*v4)+((((3*((1*2 ^ (G 43 [v4,v5,G 82 [L,v0+v3,1],G 82 [L,v0+v3,2],G 82 [L,v0+v3,3],G 82 [L,v0+v3,4],G 82 [L,v0+v3,5],G 82 [L,v0+v3,6]]).toNat)-((a:Int)+1)))*((1*2 ^ (G 43 [v4,v5,G 82 [L,v0+v3,1],G 82 [L,v0+v3,2],G 82 [L,v0+v3,3],G 82 [L,v0+v3,4],G 82 [L,v0+v3,5],G 82 [L,v0+v3,6]]).toNat)-((a:Int)+1)))*((a:Int)+1))*G 82 [L,v0+v3,1]))+((((3*((1*2 ^ (G 43 [v4,v5,G 82 [L,v0+v3,1],G 82 [L,v0+v3,2],G 82 [L,v0+v3,3],G 82 [L,v0+v3,4],G 82 [L,v0+v3,5],G 82 [L,v0+v3,6]]).toNat)-((a:Int)+1)))*((a:Int)+1))*((a:Int)+1))*G 82 [L,v0+v3,3]))+(((((a:Int)+1)*((a:Int)+1))*((a:Int)+1))*G 82 [L,v0+v3,5])),(((1*2 ^ (G 43 [v4,v5,G 82 [L,v0+v3,1],G 82 [L,v0+v3,2],G 82 [L,v0+v3,3],G 82 [L,v0+v3,4],G 82 [L,v0+v3,5],G 82 [L,v0+v3,6]]).toNat)*((1*2 ^ (G 43 [v4,v5,G 82 [L,v0+v3,1],G 82 [L,v0+v3,2],G 82 [L,v0+v3,3],G 82 [L,v0+v3,4],G 82 [L,v0+v3,5],G 82 [L,v0+v3,6]]).toNat)*(1*2 ^ (G 43 [v4,v5,G 82 [L,v0+v3,1],G 82 [L,v0+v3,2],G 82 [L,v0+v3,3],G 82 [L,v0+v3,4],G 82 [L,v0+v3,5],G 82 [L,v0+v3,6]]).toNat)))*256)],G 2 [((((((((1*2 ^ (G 43 [v4,v5,G 82 [L,v0+v3,1],G 82 [L,v0+v3,2],G 82 [L,v0+v3,3],G 82 [L,v0+v3,4],G 82 [L,v0+v3,5],G 82 [L,v0+v3,6]]).toNat)-((a:Int)+1))*((1*2 ^ (G 43 [v4,v5,G 82 [L,v0+v3,1],G 82 [L,v0+v3,2],G 82 [L,v0+v3,3],G 82 [L,v0+v3,4],G 82 [L,v0+v3,5],G 82 [L,v0+v3,6]]).toNat)-((a:Int)+1)))*((1*2 ^ (G 43 [v4,v5,G 82 [L,v0+v3,1],G 82 [L,v0+v3,2],G 82 [L,v0+v3,3],G 82 [L,v0+v3,4],G 82 [L,v0+v3,5],G 82 [L,v0+v3,6]]).toNat)-((a:Int)+1)))*v5)+((((3*((1*2 ^ (G 43 [v4,v5,G 82 [L,v0+v3,1],G 82 [L,v0+v3,2],G 82 [L,v0+v3,3],G 82 [L,v0+v3,4],G 82 [L,v0+v3,5],G 82 [L,v0+v3,6]]).toNat)-((a:Int)+1)))*((1*2 ^ (G 43 [v4,v5,G 82 [L,v0+v3,1],G 82 [L,v0+v3,2],G 82 [L,v0+v3,3],G 82 [L,v0+v3,4],G 82 [L,v0+v3,5],G 82 [L,v0+v3,6]]).toNat)-((a:Int)+1)))*((a:Int)+1))*G 82 [L,v0+v3,2]))+((((3*((1*2 ^ (G 43 [v4,v5,G 82 [L,v0+v3,1],G 82 [L,v0+v3,2],G 82 [L,v0+v3,3],G 82 [L,v0+v3,4],G 82 [L,v0+v3,5],G 82 [L,v0+v3,6]]).toNat)-((a:Int)+1)))*((a:Int)+1))*((a:Int)+1))*G 82 [L,v0+v3,4]))+(((((a:Int)+1)*((a:Int)+1))*((a:Int)+1))*G 82 [L,v0+v3,6])),(((1*2 ^ (G 43 [v4,v5,G 82 [L,v0+v3,1],G 82 [L,v0+v3,2],G 82 [L,v0+v3,3],G 82 [L,v0+v3,4],G 82 [L,v0+v3,5],G 82 [L,v0+v3,6]]).toNat)*((1*2 ^ (G 43 [v4,v5,G 82 [L,v0+v3,1],G 82 [L,v0+v3,2],G 82 [L,v0+v3,3],G 82 [L,v0+v3,4],G 82 [L,v0+v3,5],G 82 [L,v0+v3,6]]).toNat)*(1*2 ^ (G 43 [v4,v5,G 82 [L,v0+v3,1],G 82 [L,v0+v3,2],G 82 [L,v0+v3,3],G 82 [L,v0+v3,4],G 82 [L,v0+v3,5],G 82 [L,v0+v3,6]]).toNat)))*256)]]:=rfl
 rw[←aET,er]
theorem zU (v0 v3 v4 v5 L:Int):1*2 ^ (G 43 [v4,v5,G 82 [L,v0+v3,1],G 82 [L,v0+v3,2],G 82 [L,v0+v3,3],G 82 [L,v0+v3,4],G 82 [L,v0+v3,5],G 82 [L,v0+v3,6]]).toNat=cW [v4,v5,G 82 [L,v0+v3,1],G 82 [L,v0+v3,2],G 82 [L,v0+v3,3],G 82 [L,v0+v3,4],G 82 [L,v0+v3,5],G 82 [L,v0+v3,6]]:=rfl
set_option maxHeartbeats 4000000 in
set_option maxRecDepth 100000 in
theorem aLY (v0 v1 v2 v3 v4 v5 v6 C L:Int) (a:Nat) (ha:(a:Int)≤cW [v4,v5,G 82 [L,v0+v3,1],G 82 [L,v0+v3,2],G 82 [L,v0+v3,3],G 82 [L,v0+v3,4],G 82 [L,v0+v3,5],G 82 [L,v0+v3,6]]):Sx.Way (uM Try.prog) G (iE v0 v1 v2 v3 v4 v5 v6 C L a) (bV G (iE v0 v1 v2 v3 v4 v5 v6 C L) (eT ([v0,v1,v2,v3,v4,v5,v6]++[C,L])) 7 (.lit true) (fun a=>(a:Int)≤cW [v4,v5,G 82 [L,v0+v3,1],G 82 [L,v0+v3,2],G 82 [L,v0+v3,3],G 82 [L,v0+v3,4],G 82 [L,v0+v3,5],G 82 [L,v0+v3,6]]) (fun a=>(cW [v4,v5,G 82 [L,v0+v3,1],G 82 [L,v0+v3,2],G 82 [L,v0+v3,3],G 82 [L,v0+v3,4],G 82 [L,v0+v3,5],G 82 [L,v0+v3,6]]).toNat-a) a) []:=by
 refine aS nF (fun h0=>?_) (fun h0=>?_)
 ·skip
  refine aQ aIv ?_
  unfold nF at h0;unfold aBz;simp only[nn,iE,List.cons_append,List.nil_append,Bool.or_eq_true,bF,ne_eq]at h0;rw[zU]at h0;have ec:=aL0 v0 v3 v4 v5 C L a;have hm:(cW [v4,v5,G 82 [L,v0+v3,1],G 82 [L,v0+v3,2],G 82 [L,v0+v3,3],G 82 [L,v0+v3,4],G 82 [L,v0+v3,5],G 82 [L,v0+v3,6]]).toNat-(a+1)<(cW [v4,v5,G 82 [L,v0+v3,1],G 82 [L,v0+v3,2],G 82 [L,v0+v3,3],G 82 [L,v0+v3,4],G 82 [L,v0+v3,5],G 82 [L,v0+v3,6]]).toNat-a:=(by clear ec;omega);have hg:((a+1:Nat):Int)≤cW [v4,v5,G 82 [L,v0+v3,1],G 82 [L,v0+v3,2],G 82 [L,v0+v3,3],G 82 [L,v0+v3,4],G 82 [L,v0+v3,5],G 82 [L,v0+v3,6]]:=(by clear ec;omega);clear h0;simp only[bV];refine⟨a+1,hg,hm,cJ (by simp),?_⟩;simp only[aR];clear hm hg;simp only[nn,Int.natCast_add,Int.cast_ofNat_Int,Int.natCast_one,iE,List.cons_append,List.nil_append,Bool.or_eq_true,bF,ne_eq]at ec ⊢;(repeat' refine And.intro ?_ ?_)<;>first|with_reducible exact ec|with_reducible rfl|with_reducible trivial|exact Int.add_assoc _ _ _
 refine aQ aJi ?_
 unfold nF at h0;unfold aB9;simp only[nn,iE,List.cons_append,List.nil_append,Bool.or_eq_true,bF,ne_eq]at h0;rw[zU]at h0;have hp:=fZ [v4,v5,G 82 [L,v0+v3,1],G 82 [L,v0+v3,2],G 82 [L,v0+v3,3],G 82 [L,v0+v3,4],G 82 [L,v0+v3,5],G 82 [L,v0+v3,6]];have hn:a=(cW [v4,v5,G 82 [L,v0+v3,1],G 82 [L,v0+v3,2],G 82 [L,v0+v3,3],G 82 [L,v0+v3,4],G 82 [L,v0+v3,5],G 82 [L,v0+v3,6]]).toNat:=(by omega);have ec:oX C [v4,v5,G 82 [L,v0+v3,1],G 82 [L,v0+v3,2],G 82 [L,v0+v3,3],G 82 [L,v0+v3,4],G 82 [L,v0+v3,5],G 82 [L,v0+v3,6]] a=G 47 [v4,v5,G 82 [L,v0+v3,1],G 82 [L,v0+v3,2],G 82 [L,v0+v3,3],G 82 [L,v0+v3,4],G 82 [L,v0+v3,5],G 82 [L,v0+v3,6],C]:=(by rw[hn];exact aID _ _ _ _ _ _ _ _ _);have el:v6+(a:Int)=v6+1*2 ^ (G 43 [v4,v5,G 82 [L,v0+v3,1],G 82 [L,v0+v3,2],G 82 [L,v0+v3,3],G 82 [L,v0+v3,4],G 82 [L,v0+v3,5],G 82 [L,v0+v3,6]]).toNat:=(by rw[zU];omega);clear h0 hp hn;simp only[bV];refine⟨rfl,cJ (by simp),?_⟩;simp only[aR];simp only[nn,iE,List.cons_append,List.nil_append,Bool.or_eq_true,bF,ne_eq]at ec el ⊢;(repeat' refine And.intro ?_ ?_)<;>first|with_reducible exact ec|with_reducible exact el|with_reducible rfl|with_reducible trivial
def eG (off n N L:Int) (i:Nat):Nat→Int:=eT ([off,n,N]++[(i:Int),G 51 [L,off,(i:Int)],G 52 [L,off,(i:Int)],G 57 [L,off,(i:Int)],G 50 [L,off,(i:Int)],L])
theorem aK2 (off n N L:Int) (b0:0≤off∧off≤300) (b1:0≤n∧n≤256) (b2:0≤N∧N≤256) (i:Nat) (hi:(i:Int)≤n):∀ k q,aDQ[k]?=some q→q.1≤eG off n N L i k∧eG off n N L i k≤q.2:=by
 unfold eG aDQ
 exact cQ (xs:=[off,n,N,(i:Int),G 51 [L,off,(i:Int)],G 52 [L,off,(i:Int)],G 57 [L,off,(i:Int)]]) (ls:=[G 50 [L,off,(i:Int)],L]) (by exact⟨b0,b1,b2,by omega,aDN [L,off,(i:Int)],aEm [L,off,(i:Int)],aDM [L,off,(i:Int)],trivial⟩)
set_option maxHeartbeats 1000000 in
set_option maxRecDepth 100000 in
theorem aMx (off n N L:Int) (i:Nat):iJ Try.prog G (bO GB) (dJ (cH Try.prog 16) 1) aMD (eG off n N L i):=by
 intro hw _
 have hb:eC yF ([off,n,N,(i:Int),G 51 [L,off,(i:Int)],G 52 [L,off,(i:Int)],G 57 [L,off,(i:Int)]]++[G 82 [L,off+(i:Int),1],G 82 [L,off+(i:Int),2],G 82 [L,off+(i:Int),3],G 82 [L,off+(i:Int),4],G 82 [L,off+(i:Int),5],G 82 [L,off+(i:Int),6],0,G 57 [L,off,(i:Int)]]):=hw
 unfold yF at hb
 simp only[List.cons_append,List.nil_append]at hb
 obtain⟨b0,b1,b2,b3,b4,b5,b6,_⟩:=hb
 have e:fK G (eG off n N L i) aMD.es=iE off n N (i:Int) (G 51 [L,off,(i:Int)]) (G 52 [L,off,(i:Int)]) (G 57 [L,off,(i:Int)]) (G 50 [L,off,(i:Int)]) L 0:=by
  unfold eG
  rw[eM]
  unfold iE
  rw[Int.natCast_zero,Int.add_zero]
  rfl
 rw[e]
 have hp:=fZ [G 51 [L,off,(i:Int)],G 52 [L,off,(i:Int)],G 82 [L,off+(i:Int),1],G 82 [L,off+(i:Int),2],G 82 [L,off+(i:Int),3],G 82 [L,off+(i:Int),4],G 82 [L,off+(i:Int),5],G 82 [L,off+(i:Int),6]]
 exact⟨(cW [G 51 [L,off,(i:Int)],G 52 [L,off,(i:Int)],G 82 [L,off+(i:Int),1],G 82 [L,off+(i:Int),2],G 82 [L,off+(i:Int),3],G 82 [L,off+(i:Int),4],G 82 [L,off+(i:Int),5],G 82 [L,off+(i:Int),6]]).toNat+1,dT (ι:=Nat) (ρ:=iE off n N (i:Int) (G 51 [L,off,(i:Int)]) (G 52 [L,off,(i:Int)]) (G 57 [L,off,(i:Int)]) (G 50 [L,off,(i:Int)]) L) (ρT:=eG off n N L i) (m:=fun a=>(cW [G 51 [L,off,(i:Int)],G 52 [L,off,(i:Int)],G 82 [L,off+(i:Int),1],G 82 [L,off+(i:Int),2],G 82 [L,off+(i:Int),3],G 82 [L,off+(i:Int),4],G 82 [L,off+(i:Int),5],G 82 [L,off+(i:Int),6]]).toNat-a) (Good:=fun a=>(a:Int)≤cW [G 51 [L,off,(i:Int)],G 52 [L,off,(i:Int)],G 82 [L,off+(i:Int),1],G 82 [L,off+(i:Int),2],G 82 [L,off+(i:Int),3],G 82 [L,off+(i:Int),4],G 82 [L,off+(i:Int),5],G 82 [L,off+(i:Int),6]]) (run:=uM Try.prog) (fun _=>rfl) fits rfl eK (fun a ha=>aKm off n N (i:Int) (G 51 [L,off,(i:Int)]) (G 52 [L,off,(i:Int)]) (G 57 [L,off,(i:Int)]) (G 50 [L,off,(i:Int)]) L b0 b1 b2 b3 b4 b5 b6 a ha) (fun _ _ X hX hG=>bN hX hG) (fun _ _ X hX hG=>cO) (fun a ha=>aLY off n N (i:Int) (G 51 [L,off,(i:Int)]) (G 52 [L,off,(i:Int)]) (G 57 [L,off,(i:Int)]) (G 50 [L,off,(i:Int)]) L a ha) (by decide) _ 0 (by show ((0:Nat):Int)≤_;omega) (by show (cW [G 51 [L,off,(i:Int)],G 52 [L,off,(i:Int)],G 82 [L,off+(i:Int),1],G 82 [L,off+(i:Int),2],G 82 [L,off+(i:Int),3],G 82 [L,off+(i:Int),4],G 82 [L,off+(i:Int),5],G 82 [L,off+(i:Int),6]]).toNat-0<_;omega)⟩
set_option maxHeartbeats 4000000 in
set_option maxRecDepth 100000 in
theorem aMq (off n N L:Int) (p0:0≤off) (hn:0≤n∧n≤256) (hl:off+n≤N) (hN:N=((Lc.dec L).length:Int)) (i:Nat) (hi:(i:Int)≤n):Sx.Way (wT Try.prog) G (eG off n N L i) (bV G (eG off n N L) (eT ([off,n,N]++[L])) 3 (.lit true) (fun i=>(i:Int)≤n) (fun i=>n.toNat-i) i) []:=by
 refine aS jC (fun h0=>?_) (fun h0=>?_)
 rotate_left
 ·skip
  refine aQ aI2 ?_
  unfold jC at h0;unfold aAL;simp only[nn,eG,List.cons_append,List.nil_append,Bool.or_eq_true,bF,ne_eq]at h0;have e:(i:Int)=n:=(by omega);clear h0;simp only[bV];refine⟨rfl,cJ (by simp),?_⟩;simp only[aR];simp only[nn,eG,List.cons_append,List.nil_append,Bool.or_eq_true,bF,ne_eq];rw[e];(repeat' refine And.intro ?_ ?_)<;>first|with_reducible rfl|with_reducible trivial
 refine aS mV (fun h1=>?_) (fun h1=>?_)
 rotate_left
 ·skip
  refine bI ?_
  unfold jC at h0;unfold mV at h1;simp only[nn,eG,List.cons_append,List.nil_append,Bool.or_eq_true,bF,ne_eq]at h0 h1;omega
 refine aS nD (fun h2=>?_) (fun h2=>?_)
 ·skip
  refine aQ aIi ?_
  unfold jC at h0;unfold mV at h1;unfold nD at h2;unfold aBi;simp only[nn,eG,List.cons_append,List.nil_append,Bool.or_eq_true,bF,ne_eq]at h0 h1 h2;have q:=aAJ (L:=L) (off:=off) (i:=(i:Int)) p0 (by omega) (by omega) (by first|exact h2|exact Classical.not_not.1 h2);have hm:n.toNat-(i+1)<n.toNat-i:=(by clear q h2;omega);have hg:((i+1:Nat):Int)≤n:=(by clear q h2;omega);clear h0 h1 h2;simp only[bV];refine⟨i+1,hg,hm,cJ (by simp),?_⟩;simp only[aR];clear hm hg;simp only[nn,Int.natCast_add,Int.cast_ofNat_Int,Int.natCast_one,eG,List.cons_append,List.nil_append,Bool.or_eq_true,bF,ne_eq];(repeat' refine And.intro ?_ ?_)<;>first|with_reducible exact q.1|with_reducible exact q.2.1|with_reducible exact q.2.2.1|with_reducible exact q.2.2.2|with_reducible rfl|with_reducible trivial
 refine aQ aJf ?_
 unfold jC at h0;unfold mV at h1;unfold nD at h2;unfold aBC;simp only[nn,eG,List.cons_append,List.nil_append,Bool.or_eq_true,bF,ne_eq]at h0 h1 h2;have q:=aF9 (L:=L) (off:=off) (i:=(i:Int)) p0 (by omega) (by omega) (by first|exact h2|exact Classical.not_not.1 h2);have hm:n.toNat-(i+1)<n.toNat-i:=(by clear q h2;omega);have hg:((i+1:Nat):Int)≤n:=(by clear q h2;omega);clear h0 h1 h2;simp only[bV];refine⟨i+1,hg,hm,cJ (by simp),?_⟩;simp only[aR];clear hm hg;simp only[nn,Int.natCast_add,Int.cast_ofNat_Int,Int.natCast_one,eG,List.cons_append,List.nil_append,Bool.or_eq_true,bF,ne_eq];(repeat' refine And.intro ?_ ?_)<;>first|with_reducible exact q.1|with_reducible exact q.2.1|with_reducible exact q.2.2.1|with_reducible exact q.2.2.2|with_reducible rfl|with_reducible trivial
def yD:List (Int × Int):=[(0,300),(0,256),(0,256),(0,256)]
def rT:List (Int × Int):=[(0,300),(0,256),(0,256)]
def sF:B:=(.cmp .le (.op .add (.var 0) (.var 1)) (.var 2))
def aMW:St:=⟨[(.vsl 0 7 (.var 0) (.var 1) none),(.func (.func 22) [] []),.any,.any,.any,.any,.any,(.int .i64 (.var 1)),(.int .i64 (.var 3)),.any,.any,.any,.any,.any,.any,.any,.any,.any,.any],[some ([.vec [.int .u8,.int .i32,.int .i32,.int .i32,.int .i32,.int .i32,.int .i32] (.var 4) (.var 2) true],bC)]⟩
def aMu:St:=⟨[.any,.any,.any,.any,(.int .i64 (.app 53 (.cons (.var 3) (.cons (.var 0) (.cons (.var 1) .nil))))),.any,.any,.any,.any,.any,.any,.any,.any,.any,.any,.any,.any,.any,.any],[some ([.vec [.int .u8,.int .i32,.int .i32,.int .i32,.int .i32,.int .i32,.int .i32] (.var 3) (.var 2) true],bC)]⟩
def aMt:St:=⟨[.any,.any,.any,.any,.any,.any,.any,.any,.any,.any,.any,.any,.any,.any,.any,.any,.any,.any,.any],[some ([.vec [.int .u8,.int .i32,.int .i32,.int .i32,.int .i32,.int .i32,.int .i32] (.var 3) (.var 2) true],bC)]⟩
def aJC:LoopS:=⟨3,1,aMW,(.cmp .le (.lit 0) (.app 53 (.cons (.var 3) (.cons (.var 0) (.cons (.var 1) .nil))))),.ret,aMu,.exit 0,aMt⟩
def aH9:LoopU:=⟨aJC,[(.var 0),(.var 1),(.var 2),(.lit 0),(.var 3)],yD,.lit true⟩
def sD (P:Program) (fs:List B):Res SV:=bW G GI yD fs fun X=>gZ P X GB cU dK 4000 (dJ (cH P 21) 0) aJC
def aG8:eJ:=iD 2 (fC (bO GB) [aH9]) dK
def aHC:FunS:=⟨[(.vsl 0 7 (.var 0) (.var 1) none),(.func (.func 22) [] [])],[some ([.vec [.int .u8,.int .i32,.int .i32,.int .i32,.int .i32,.int .i32,.int .i32] (.var 3) (.var 2) true],bC)],.lit true,(.int .i64 (.app 53 (.cons (.var 3) (.cons (.var 0) (.cons (.var 1) .nil))))),[some ([.vec [.int .u8,.int .i32,.int .i32,.int .i32,.int .i32,.int .i32,.int .i32] (.var 3) (.var 2) true],bC)],(.int .i64 (.app 53 (.cons (.var 3) (.cons (.var 0) (.cons (.var 1) .nil))))),[some ([.vec [.int .u8,.int .i32,.int .i32,.int .i32,.int .i32,.int .i32,.int .i32] (.var 3) (.var 2) true],bC)]⟩
def aDX (P:Program) (fs:List B):Res SV:=bW G GI rT fs fun X=>fB P X GB cU aG8 4000 21 aHC
def aMY:St:=⟨[(.vsl 0 7 (.var 0) (.var 1) none),(.func (.func 15) [] []),.any,.any,.any,.any,.any,(.int .i64 (.var 1)),(.int .i64 (.var 3)),.any,.any,.any,.any,.any,.any,.any,.any,.any,.any],[some ([.vec [.int .u8,.int .i32,.int .i32,.int .i32,.int .i32,.int .i32,.int .i32] (.var 4) (.var 2) true],bC)]⟩
def aMi:St:=⟨[.any,.any,.any,.any,(.int .i64 (.app 56 (.cons (.var 3) (.cons (.var 0) (.cons (.var 1) .nil))))),.any,.any,.any,.any,.any,.any,.any,.any,.any,.any,.any,.any,.any,.any],[some ([.vec [.int .u8,.int .i32,.int .i32,.int .i32,.int .i32,.int .i32,.int .i32] (.var 3) (.var 2) true],bC)]⟩
def aMj:St:=⟨[.any,.any,.any,.any,.any,.any,.any,.any,.any,.any,.any,.any,.any,.any,.any,.any,.any,.any,.any],[some ([.vec [.int .u8,.int .i32,.int .i32,.int .i32,.int .i32,.int .i32,.int .i32] (.var 3) (.var 2) true],bC)]⟩
def aH8:LoopS:=⟨3,1,aMY,(.cmp .le (.lit 0) (.app 56 (.cons (.var 3) (.cons (.var 0) (.cons (.var 1) .nil))))),.ret,aMi,.exit 0,aMj⟩
def aHw:LoopU:=⟨aH8,[(.var 0),(.var 1),(.var 2),(.lit 0),(.var 3)],yD,.lit true⟩
def qR (P:Program) (fs:List B):Res SV:=bW G GI yD fs fun X=>gZ P X GB cU dK 4000 (dJ (cH P 21) 0) aH8
def aHo:eJ:=iD 2 (fC (bO GB) [aHw]) dK
def aHI:FunS:=⟨[(.vsl 0 7 (.var 0) (.var 1) none),(.func (.func 15) [] [])],[some ([.vec [.int .u8,.int .i32,.int .i32,.int .i32,.int .i32,.int .i32,.int .i32] (.var 3) (.var 2) true],bC)],.lit true,(.int .i64 (.app 56 (.cons (.var 3) (.cons (.var 0) (.cons (.var 1) .nil))))),[some ([.vec [.int .u8,.int .i32,.int .i32,.int .i32,.int .i32,.int .i32,.int .i32] (.var 3) (.var 2) true],bC)],(.int .i64 (.app 56 (.cons (.var 3) (.cons (.var 0) (.cons (.var 1) .nil))))),[some ([.vec [.int .u8,.int .i32,.int .i32,.int .i32,.int .i32,.int .i32,.int .i32] (.var 3) (.var 2) true],bC)]⟩
def aDU (P:Program) (fs:List B):Res SV:=bW G GI rT fs fun X=>fB P X GB cU aHo 4000 21 aHI
end Go.Proofs.Ythiehfhphgkaeaa
