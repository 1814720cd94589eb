/- What is proved: a path's rows,a line's dots so far,where a sub-path ends,in plain Lean. No condition but those that are stated. -/
import Derived.Test.YthiehfhphgkaeaaQg6
import Derived.Test.YthiehfhphgkaeaaQg4
import Derived.Test.YthiehfhphgkaeaaQa2
import Derived.Test.YthiehfhphgkaeaaProg
import Derived.Test.YthiehfhphgkaeaaQa1
set_option linter.unusedSimpArgs false
set_option linter.unusedVariables false
namespace Go.Proofs.Ythiehfhphgkaeaa
open Go Go.RowKit Sx Wi
theorem bW {L off n:Int} (h0:0≤off) (hn:0≤n∧n≤300) (hl:off+n≤((Lc.dec L).length:Int)):(aF L off n).length=n.toNat:=by
 unfold aF;rw[List.length_take,List.length_drop];omega
theorem oC {L off n i:Int} (h0:0≤off) (hn:n≤300) (hi:0≤i∧i<n):(aF L off n).getD i.toNat []=(Lc.dec L).getD (off+i).toNat []:=by
 unfold aF
 rw[List.getD_eq_getElem?_getD,List.getD_eq_getElem?_getD,List.getElem?_take,if_pos (by omega),List.getElem?_drop]
 congr 2;omega
theorem gO {L off i:Int} (h0:0≤off) (hi:0≤i∧i<300) (hl:off+i<((Lc.dec L).length:Int)):aF L off (i+1)=aF L off i++[(Lc.dec L).getD (off+i).toNat []]:=by
 unfold aF
 rw[show min (i+1).toNat 300=i.toNat+1 by omega,show min i.toNat 300=i.toNat by omega]
 have hlt:i.toNat<((Lc.dec L).drop off.toNat).length:=by rw[List.length_drop];omega
 rw[List.take_add_one,List.getElem?_eq_getElem hlt]
 simp only[Option.toList]
 congr 2
 rw[List.getElem_drop,List.getD_eq_getElem?_getD,List.getElem?_eq_getElem (by omega)]
 simp only[Option.getD_some]
 congr 1;omega
theorem aK0 (k:IntKind):Lc.kNo k<8:=by cases k<;>decide
theorem pW (k:IntKind) (L i j:Int):G (80+Lc.kNo k) [L,i,j]=k.wrap (((Lc.dec L).getD i.toNat []).getD j.toNat 0):=by
 have h8:=aK0 k
 rw[lW _ _ (by omega) (by omega),Lc.fn_rd]
 rfl
theorem aB5 {L off i:Int} (h0:0≤off) (hi:0≤i∧i<300) (hl:off+i<((Lc.dec L).length:Int)) (hk:sk ((Lc.dec L).getD (off+i).toNat [])=2):
  let r:=(Lc.dec L).getD (off+i).toNat []
  G 47 [G 51 [L,off,i],G 52 [L,off,i],sp r 0,sp r 1,sp r 2,sp r 3,sp r 4,sp r 5,G 50 [L,off,i]]=G 50 [L,off,i+1]∧sp r 4=G 51 [L,off,i+1]∧sp r 5=G 52 [L,off,i+1]:=by
 intro r
 have e:bV (aF L off (i+1))=eT (bV (aF L off i)) r:=by
  rw[gO h0 hi hl];unfold bV;rw[List.foldl_append];rfl
 have e2:eT (bV (aF L off i)) r=((bV (aF L off i)).1++lG [(bV (aF L off i)).2.1,(bV (aF L off i)).2.2,sp r 0,sp r 1,sp r 2,sp r 3,sp r 4,sp r 5] (cG [(bV (aF L off i)).2.1,(bV (aF L off i)).2.2,sp r 0,sp r 1,sp r 2,sp r 3,sp r 4,sp r 5]).toNat,sp r 4,sp r 5):=by
  unfold eT;rw[if_pos hk]
 refine⟨?_,?_,?_⟩
 ·show Lc.enc (Lc.dec (Lc.enc (bV (aF L off i)).1)++_)=Lc.enc (bV (aF L off (i+1))).1
  rw[e,e2,Lc.dec_enc]
  rfl
 ·show _=(bV (aF L off (i+1))).2.1
  rw[e,e2]
 ·show _=(bV (aF L off (i+1))).2.2
  rw[e,e2]
theorem aIA {L off i:Int} (h0:0≤off) (hi:0≤i∧i<300) (hl:off+i<((Lc.dec L).length:Int)) (hk:¬sk ((Lc.dec L).getD (off+i).toNat [])=2):
  let r:=(Lc.dec L).getD (off+i).toNat []
  G 91 [G 50 [L,off,i],G 2 [sp r 0,1*256],G 2 [sp r 1,1*256]]=G 50 [L,off,i+1]∧sp r 0=G 51 [L,off,i+1]∧sp r 1=G 52 [L,off,i+1]:=by
 intro r
 have e:bV (aF L off (i+1))=eT (bV (aF L off i)) r:=by
  rw[gO h0 hi hl];unfold bV;rw[List.foldl_append];rfl
 have e2:eT (bV (aF L off i)) r=((bV (aF L off i)).1++[[Fx.near (sp r 0) (1*256),Fx.near (sp r 1) (1*256)]],sp r 0,sp r 1):=by
  unfold eT;rw[if_neg hk]
 refine⟨?_,?_,?_⟩
 ·show G 91 [Lc.enc (bV (aF L off i)).1,_,_]=Lc.enc (bV (aF L off (i+1))).1
  rw[e,e2]
  exact jL lW _ _
 ·show _=(bV (aF L off (i+1))).2.1
  rw[e,e2]
 ·show _=(bV (aF L off (i+1))).2.2
  rw[e,e2]
theorem oX (xs:List Int) (m:Nat):(lG xs m).length=m:=by unfold lG;rw[List.length_map,List.length_range]
theorem yG (L off i:Int) (hi:0≤i):(bV (aF L off i)).1.length≤64*i.toNat:=by
 have:∀ (rows:List (List Int)) (t:List (List Int) × Int × Int),(rows.foldl eT t).1.length≤t.1.length+64*rows.length:=by
  intro rows
  induction rows with
  |nil=>intro t;exact Nat.le_refl _
  |cons r rs ih=>
   intro t
   have h1:=ih (eT t r)
   have h2:(eT t r).1.length≤t.1.length+64:=by
    unfold eT
    split
    ·have:=fP [t.2.1,t.2.2,sp r 0,sp r 1,sp r 2,sp r 3,sp r 4,sp r 5]
     simp only[List.length_append,oX];omega
    ·simp only[List.length_append,List.length_cons,List.length_nil];omega
   simp only[List.foldl_cons,List.length_cons]
   omega
 have h:=this (aF L off i) ([],0,0)
 have hl:(aF L off i).length≤i.toNat:=by unfold aF;rw[List.length_take];omega
 have e:(bV (aF L off i)).1.length≤0+64*(aF L off i).length:=h
 omega
theorem sM:∀ l:List (List Int),bM l≤l.length
 |[]=>Nat.le_refl _
 |r::rs=>by unfold bM;split<;>simp only[List.length_cons]<;>have:=sM rs<;>omega
theorem aCI:∀ {l:List (List Int)} {i:Nat},i<bM l→¬(sk (l.getD i [])=0∨sk (l.getD i [])=3)
 |[],i,h=>by simp [bM]at h
 |r::rs,0,h=>by
  unfold bM at h
  split at h
  ·omega
  ·assumption
 |r::rs,i+1,h=>by
  unfold bM at h
  split at h
  ·omega
  ·have:=aCI (l:=rs) (i:=i) (by omega)
   simpa using this
theorem yN:∀ {l:List (List Int)},bM l<l.length→(sk (l.getD (bM l) [])=0∨sk (l.getD (bM l) [])=3)
 |[],h=>by simp [bM]at h
 |r::rs,h=>by
  by_cases hr:sk r=0∨sk r=3
  ·have e:bM (r::rs)=0:=by unfold bM;rw[if_pos hr]
   rw[e];simpa using hr
  ·have e:bM (r::rs)=bM rs+1:=by rw[bM,if_neg hr]
   rw[e]at h ⊢
   have:=yN (l:=rs) (by simp only[List.length_cons]at h;omega)
   simpa using this
theorem aCT:∀ l:List (List Int),eB l≤l.length
 |[]=>Nat.le_refl _
 |r::rs=>by unfold eB;split<;>simp only[List.length_cons]<;>have:=aCT rs<;>omega
theorem aDx:∀ {l:List (List Int)} {i:Nat},i<eB l→¬3<sk (l.getD i [])
 |[],i,h=>by simp [eB]at h
 |r::rs,0,h=>by
  unfold eB at h
  split at h
  ·omega
  ·assumption
 |r::rs,i+1,h=>by
  unfold eB at h
  split at h
  ·omega
  ·have:=aDx (l:=rs) (i:=i) (by omega)
   simpa using this
theorem aC6:∀ {l:List (List Int)},eB l<l.length→3<sk (l.getD (eB l) [])
 |[],h=>by simp [eB]at h
 |r::rs,h=>by
  by_cases hr:3<sk r
  ·have e:eB (r::rs)=0:=by unfold eB;rw[if_pos hr]
   rw[e];simpa using hr
  ·have e:eB (r::rs)=eB rs+1:=by rw[eB,if_neg hr]
   rw[e]at h ⊢
   have:=aC6 (l:=rs) (by simp only[List.length_cons]at h;omega)
   simpa using this
theorem sR {L off n i:Int} (h0:0≤off) (hn:n≤256) (hi:0≤i∧i<n):G 84 [L,off+i,0]=sk ((aF L off n).getD i.toNat []):=by
 rw[oC h0 (by omega) hi]
 exact pW .u8 L (off+i) 0
theorem xH {L off n:Int} {i:Nat} (h0:0≤off) (hn:0≤n∧n≤256) (hl:off+n≤((Lc.dec L).length:Int)) (hi:(i:Int)<n) (hg:i≤bM (aF L off n)) (hk:G 84 [L,off+(i:Int),0]=0∨G 84 [L,off+(i:Int),0]=3):(i:Int)=G 53 [L,off,n]∧0≤G 53 [L,off,n]:=by
 rw[sR h0 hn.2 ⟨by omega,hi⟩,Int.toNat_natCast]at hk
 have hlen:=bW h0 ⟨hn.1,by omega⟩ hl
 have e:bM (aF L off n)=i:=by
  rcases Nat.lt_or_ge i (bM (aF L off n))with q|q
  ·exact absurd hk (aCI q)
  ·omega
 have e2:G 53 [L,off,n]=yJ (bM (aF L off n)) (aF L off n):=rfl
 rw[e2,e]
 unfold yJ
 rw[if_pos (by omega)]
 omega
theorem aHG {L off n:Int} {i:Nat} (h0:0≤off) (hn:0≤n∧n≤256) (hl:off+n≤((Lc.dec L).length:Int)) (hi:(i:Int)<n) (hg:i≤bM (aF L off n)) (hk:¬G 84 [L,off+(i:Int),0]=0) (hk3:¬G 84 [L,off+(i:Int),0]=3):i+1≤bM (aF L off n):=by
 rw[sR h0 hn.2 ⟨by omega,hi⟩,Int.toNat_natCast]at hk hk3
 have hlen:=bW h0 ⟨hn.1,by omega⟩ hl
 rcases Nat.lt_or_ge i (bM (aF L off n))with q|q
 ·exact q
 ·have e:bM (aF L off n)=i:=by omega
  have:=yN (l:=aF L off n) (by omega)
  rw[e]at this
  rcases this with q|q
  ·exact absurd q hk
  ·exact absurd q hk3
theorem aJU {L off n:Int} {i:Nat} (h0:0≤off) (hn:0≤n∧n≤256) (hl:off+n≤((Lc.dec L).length:Int)) (hi:¬(i:Int)<n) (hg:i≤bM (aF L off n)):G 53 [L,off,n] = -1:=by
 have hlen:=bW h0 ⟨hn.1,by omega⟩ hl
 show yJ (bM (aF L off n)) (aF L off n) = -1
 unfold yJ
 rw[if_neg (by omega)]
theorem aFA {L off n:Int} {i:Nat} (h0:0≤off) (hn:0≤n∧n≤256) (hl:off+n≤((Lc.dec L).length:Int)) (hi:(i:Int)<n) (hg:i≤eB (aF L off n)) (hk:3<G 84 [L,off+(i:Int),0]):(i:Int)=G 56 [L,off,n]∧0≤G 56 [L,off,n]:=by
 rw[sR h0 hn.2 ⟨by omega,hi⟩,Int.toNat_natCast]at hk
 have hlen:=bW h0 ⟨hn.1,by omega⟩ hl
 have e:eB (aF L off n)=i:=by
  rcases Nat.lt_or_ge i (eB (aF L off n))with q|q
  ·exact absurd hk (aDx q)
  ·omega
 have e2:G 56 [L,off,n]=yJ (eB (aF L off n)) (aF L off n):=rfl
 rw[e2,e]
 unfold yJ
 rw[if_pos (by omega)]
 omega
theorem aHw {L off n:Int} {i:Nat} (h0:0≤off) (hn:0≤n∧n≤256) (hl:off+n≤((Lc.dec L).length:Int)) (hi:(i:Int)<n) (hg:i≤eB (aF L off n)) (hk:¬3<G 84 [L,off+(i:Int),0]):i+1≤eB (aF L off n):=by
 rw[sR h0 hn.2 ⟨by omega,hi⟩,Int.toNat_natCast]at hk
 have hlen:=bW h0 ⟨hn.1,by omega⟩ hl
 rcases Nat.lt_or_ge i (eB (aF L off n))with q|q
 ·exact q
 ·have e:eB (aF L off n)=i:=by omega
  have:=aC6 (l:=aF L off n) (by omega)
  rw[e]at this
  exact absurd this hk
theorem aJv {L off n:Int} {i:Nat} (h0:0≤off) (hn:0≤n∧n≤256) (hl:off+n≤((Lc.dec L).length:Int)) (hi:¬(i:Int)<n) (hg:i≤eB (aF L off n)):G 56 [L,off,n] = -1:=by
 have hlen:=bW h0 ⟨hn.1,by omega⟩ hl
 show yJ (eB (aF L off n)) (aF L off n) = -1
 unfold yJ
 rw[if_neg (by omega)]
theorem fU {p:Int × Int} {l:List (Int × Int)} {xs:List Int} (h:dJ (p::l) xs):∃ x ys,xs=x::ys∧(p.1≤x∧x≤p.2)∧dJ l ys:=by
 cases xs with
 |nil=>exact h.elim
 |cons x ys=>exact⟨x,ys,rfl,h.1,h.2⟩
theorem sZ {xs:List Int} (h:dJ [] xs):xs=[]:=by
 cases xs with
 |nil=>rfl
 |cons x ys=>exact h.elim
theorem vA {xs:List Int} (h:xs.length=1):∃ a,xs=[a]:=by
 match xs,h with
 |[a],_=>exact⟨a,rfl⟩
theorem kR {P:Program} {gb:cV} {f:FuncId} {F:FunS} {ρ:Nat→Int} (id:Nat) {sh:List CK} {C n:E} {ex:Bool} {T:TypeId} (hH:F.H[id]?=some (some ([.vec sh C n ex],T))) (h:n.den G ρ=((Lc.dec (C.den G ρ)).length:Int)→eC P G gb f F ρ):eC P G gb f F ρ:=by
 intro α w vals hW hv
 refine h ?_ α w vals hW hv
 obtain⟨b,vs,h1,h2,h3⟩:=hW.blk id _ _ hH
 simp only[SV.RL,SV.R]at h3
 obtain⟨v,vs',e1,⟨_,e3⟩,_⟩:=h3
 exact e3.symm
theorem aC7 {L off i:Int} (hi:0≤i∧i≤300):G 57 [L,off,i]=((bV (aF L off i)).1.length:Int):=by
 have h:=yG L off i hi.1
 show min _ (19200:Int)=_
 omega
theorem aBo {L off i:Int} (h0:0≤off) (hi:0≤i∧i<300) (hl:off+i<((Lc.dec L).length:Int)) (hk:G 84 [L,off+i,0]=2):
  G 47 [G 51 [L,off,i],G 52 [L,off,i],G 82 [L,off+i,1],G 82 [L,off+i,2],G 82 [L,off+i,3],G 82 [L,off+i,4],G 82 [L,off+i,5],G 82 [L,off+i,6],G 50 [L,off,i]]=G 50 [L,off,i+1]∧G 82 [L,off+i,5]=G 51 [L,off,i+1]∧G 82 [L,off+i,6]=G 52 [L,off,i+1]∧
   G 57 [L,off,i]+1*2 ^ (G 43 [G 51 [L,off,i],G 52 [L,off,i],G 82 [L,off+i,1],G 82 [L,off+i,2],G 82 [L,off+i,3],G 82 [L,off+i,4],G 82 [L,off+i,5],G 82 [L,off+i,6]]).toNat=G 57 [L,off,i+1]:=by
 have e0:G 84 [L,off+i,0]=sk ((Lc.dec L).getD (off+i).toNat []):=pW .u8 L (off+i) 0
 rw[e0]at hk
 have q:=aB5 h0 hi hl hk
 have e:bV (aF L off (i+1))=eT (bV (aF L off i)) ((Lc.dec L).getD (off+i).toNat []):=by
  rw[gO h0 hi hl];unfold bV;rw[List.foldl_append];rfl
 have a1:G 82 [L,off+i,1]=sp ((Lc.dec L).getD (off+i).toNat []) 0:=pW .i32 L (off+i) 1
 have a2:G 82 [L,off+i,2]=sp ((Lc.dec L).getD (off+i).toNat []) 1:=pW .i32 L (off+i) 2
 have a3:G 82 [L,off+i,3]=sp ((Lc.dec L).getD (off+i).toNat []) 2:=pW .i32 L (off+i) 3
 have a4:G 82 [L,off+i,4]=sp ((Lc.dec L).getD (off+i).toNat []) 3:=pW .i32 L (off+i) 4
 have a5:G 82 [L,off+i,5]=sp ((Lc.dec L).getD (off+i).toNat []) 4:=pW .i32 L (off+i) 5
 have a6:G 82 [L,off+i,6]=sp ((Lc.dec L).getD (off+i).toNat []) 5:=pW .i32 L (off+i) 6
 rw[a1,a2,a3,a4,a5,a6]
 refine⟨q.1,q.2.1,q.2.2,?_⟩
 have f1:G 51 [L,off,i]=(bV (aF L off i)).2.1:=rfl
 have f2:G 52 [L,off,i]=(bV (aF L off i)).2.2:=rfl
 rw[aC7 ⟨hi.1,by omega⟩,aC7 ⟨by omega,by omega⟩,e,f1,f2]
 generalize bV (aF L off i)=t
 generalize (Lc.dec L).getD (off+i).toNat []=r at hk ⊢
 unfold eT
 rw[if_pos hk]
 simp only[List.length_append,oX]
 have hp:=fP [t.2.1,t.2.2,sp r 0,sp r 1,sp r 2,sp r 3,sp r 4,sp r 5]
 have hq:1*2 ^ (G 43 [t.2.1,t.2.2,sp r 0,sp r 1,sp r 2,sp r 3,sp r 4,sp r 5]).toNat=cG [t.2.1,t.2.2,sp r 0,sp r 1,sp r 2,sp r 3,sp r 4,sp r 5]:=rfl
 rw[hq]
 omega
theorem aFY {L off i:Int} (h0:0≤off) (hi:0≤i∧i<300) (hl:off+i<((Lc.dec L).length:Int)) (hk:¬G 84 [L,off+i,0]=2):
  G 91 [G 50 [L,off,i],G 2 [G 82 [L,off+i,1],1*256],G 2 [G 82 [L,off+i,2],1*256]]=G 50 [L,off,i+1]∧G 82 [L,off+i,1]=G 51 [L,off,i+1]∧G 82 [L,off+i,2]=G 52 [L,off,i+1]∧G 57 [L,off,i]+1=G 57 [L,off,i+1]:=by
 have e0:G 84 [L,off+i,0]=sk ((Lc.dec L).getD (off+i).toNat []):=pW .u8 L (off+i) 0
 rw[e0]at hk
 have q:=aIA h0 hi hl hk
 have e:bV (aF L off (i+1))=eT (bV (aF L off i)) ((Lc.dec L).getD (off+i).toNat []):=by
  rw[gO h0 hi hl];unfold bV;rw[List.foldl_append];rfl
 have a1:G 82 [L,off+i,1]=sp ((Lc.dec L).getD (off+i).toNat []) 0:=pW .i32 L (off+i) 1
 have a2:G 82 [L,off+i,2]=sp ((Lc.dec L).getD (off+i).toNat []) 1:=pW .i32 L (off+i) 2
 rw[a1,a2]
 refine⟨q.1,q.2.1,q.2.2,?_⟩
 rw[aC7 ⟨hi.1,by omega⟩,aC7 ⟨by omega,by omega⟩,e]
 unfold eT
 rw[if_neg hk]
 simp only[List.length_append,List.length_cons,List.length_nil]
 omega
theorem aBI (xs:List Int) (a:Nat):lG xs (a+1)=lG xs a++[pE xs (cG xs) ((a:Int)+1)]:=by
 unfold lG;rw[List.range_succ,List.map_append];rfl
def nZ (C:Int) (xs:List Int) (a:Nat):Int:=if a=0 then C else Lc.enc (Lc.dec C++lG xs a)
theorem aHm (C:Int) (xs:List Int) (a:Nat):Lc.dec (nZ C xs a)=Lc.dec C++lG xs a:=by
 unfold nZ
 split
 ·rename_i h;subst h;unfold lG;simp
 ·rw[Lc.dec_enc]
theorem aE0 (C:Int) (xs:List Int) (a:Nat):G 91 (nZ C xs a::pE xs (cG xs) ((a:Int)+1))=nZ C xs (a+1):=by
 have e:G 91 (nZ C xs a::pE xs (cG xs) ((a:Int)+1))=Lc.enc (Lc.dec (nZ C xs a)++[pE xs (cG xs) ((a:Int)+1)]):=lW 91 _ (by decide) (by decide)
 rw[e,aHm]
 have e2:nZ C xs (a+1)=Lc.enc (Lc.dec C++lG xs (a+1)):=by unfold nZ;rw[if_neg (by omega)]
 rw[e2,aBI,List.append_assoc]
theorem aGn (C a b c d e f g h:Int):nZ C [a,b,c,d,e,f,g,h] (cG [a,b,c,d,e,f,g,h]).toNat=G 47 [a,b,c,d,e,f,g,h,C]:=by
 have hp:=fP [a,b,c,d,e,f,g,h]
 unfold nZ
 rw[if_neg (by omega)]
 rfl
def vY:List (Int × Int):=[(0,300),(0,256),(0,256),(0,256),((-2147483648),2147483647),((-2147483648),2147483647),(0,19200),((-2147483648),2147483647),((-2147483648),2147483647),((-2147483648),2147483647),((-2147483648),2147483647),((-2147483648),2147483647),((-2147483648),2147483647),(0,64),(0,19264)]
def aCN:List (Int × Int):=[(0,300),(0,256),(0,256),(0,256),((-2147483648),2147483647),((-2147483648),2147483647),(0,19200)]
def aCA:List (Int × Int):=[(0,300),(0,256),(0,256)]
def zQ:B:=(.cmp .le (.op .add (.var 0) (.var 1)) (.var 2))
def aL7:St:=⟨[(.vsl 0 7 (.var 0) (.var 1) none),.any,(.own 13 (.var 14) none),(.ptr 1 0),.any,.any,(.ptr 12 0),(.int .i64 (.op .shl (.lit 1) (.app 43 (.cons (.var 4) (.cons (.var 5) (.cons (.var 7) (.cons (.var 8) (.cons (.var 9) (.cons (.var 10) (.cons (.var 11) (.cons (.var 12) .nil))))))))))),.any,(.vsl 0 7 (.var 0) (.var 1) none),(.int .i64 (.var 1)),(.int .i64 (.var 3)),.any,.any,.any,.any,.any,.any,.any,.any,.any,.any,.any,.any,.any,.any,.any,.any,.any,(.int .i64 (.op .shl (.lit 1) (.app 43 (.cons (.var 4) (.cons (.var 5) (.cons (.var 7) (.cons (.var 8) (.cons (.var 9) (.cons (.var 10) (.cons (.var 11) (.cons (.var 12) .nil))))))))))),(.int .i64 (.var 13)),.any,.any,.any,.any,.any,.any,.any,.any,.any,.any,.any,.any,.any,.any,.any,.any,.any,.any,.any,.any,.any,.any,.any],[some ([.vec [.int .u8,.int .i32,.int .i32,.int .i32,.int .i32,.int .i32,.int .i32] (.var 16) (.var 2) true],aV),some ([(.int .i64 (.var 4)),(.int .i64 (.var 5))],57),none,none,none,none,none,none,none,none,none,none,some ([(.int .i64 (.var 4)),(.int .i64 (.var 5)),(.int .i64 (.var 7)),(.int .i64 (.var 8)),(.int .i64 (.var 9)),(.int .i64 (.var 10)),(.int .i64 (.var 11)),(.int .i64 (.var 12))],60),jO [.int .i64,.int .i64] (.var 15) (.var 14) 32]⟩
def aLM:St:=⟨[(.vsl 0 7 (.var 0) (.var 1) none),.any,(.own 13 (.op .add (.var 6) (.op .shl (.lit 1) (.app 43 (.cons (.var 4) (.cons (.var 5) (.cons (.app 82 (.cons (.var 8) (.cons (.op .add (.var 0) (.var 3)) (.cons (.lit 1) .nil)))) (.cons (.app 82 (.cons (.var 8) (.cons (.op .add (.var 0) (.var 3)) (.cons (.lit 2) .nil)))) (.cons (.app 82 (.cons (.var 8) (.cons (.op .add (.var 0) (.var 3)) (.cons (.lit 3) .nil)))) (.cons (.app 82 (.cons (.var 8) (.cons (.op .add (.var 0) (.var 3)) (.cons (.lit 4) .nil)))) (.cons (.app 82 (.cons (.var 8) (.cons (.op .add (.var 0) (.var 3)) (.cons (.lit 5) .nil)))) (.cons (.app 82 (.cons (.var 8) (.cons (.op .add (.var 0) (.var 3)) (.cons (.lit 6) .nil)))) .nil))))))))))) none),(.ptr 1 0),.any,.any,(.ptr 12 0),.any,.any,(.vsl 0 7 (.var 0) (.var 1) none),(.int .i64 (.var 1)),(.int .i64 (.var 3)),.any,.any,.any,.any,.any,.any,.any,.any,.any,.any,.any,.any,.any,.any,.any,.any,.any,.any,.any,.any,.any,.any,.any,.any,.any,.any,.any,.any,.any,.any,.any,.any,.any,.any,.any,.any,.any,.any,.any,.any,.any,.any],[some ([.vec [.int .u8,.int .i32,.int .i32,.int .i32,.int .i32,.int .i32,.int .i32] (.var 8) (.var 2) true],aV),some ([(.int .i64 (.var 4)),(.int .i64 (.var 5))],57),none,none,none,none,none,none,none,none,none,none,some ([(.int .i64 (.var 4)),(.int .i64 (.var 5)),(.int .i64 (.app 82 (.cons (.var 8) (.cons (.op .add (.var 0) (.var 3)) (.cons (.lit 1) .nil))))),(.int .i64 (.app 82 (.cons (.var 8) (.cons (.op .add (.var 0) (.var 3)) (.cons (.lit 2) .nil))))),(.int .i64 (.app 82 (.cons (.var 8) (.cons (.op .add (.var 0) (.var 3)) (.cons (.lit 3) .nil))))),(.int .i64 (.app 82 (.cons (.var 8) (.cons (.op .add (.var 0) (.var 3)) (.cons (.lit 4) .nil))))),(.int .i64 (.app 82 (.cons (.var 8) (.cons (.op .add (.var 0) (.var 3)) (.cons (.lit 5) .nil))))),(.int .i64 (.app 82 (.cons (.var 8) (.cons (.op .add (.var 0) (.var 3)) (.cons (.lit 6) .nil)))))],60),jO [.int .i64,.int .i64] (.app 47 (.cons (.var 4) (.cons (.var 5) (.cons (.app 82 (.cons (.var 8) (.cons (.op .add (.var 0) (.var 3)) (.cons (.lit 1) .nil)))) (.cons (.app 82 (.cons (.var 8) (.cons (.op .add (.var 0) (.var 3)) (.cons (.lit 2) .nil)))) (.cons (.app 82 (.cons (.var 8) (.cons (.op .add (.var 0) (.var 3)) (.cons (.lit 3) .nil)))) (.cons (.app 82 (.cons (.var 8) (.cons (.op .add (.var 0) (.var 3)) (.cons (.lit 4) .nil)))) (.cons (.app 82 (.cons (.var 8) (.cons (.op .add (.var 0) (.var 3)) (.cons (.lit 5) .nil)))) (.cons (.app 82 (.cons (.var 8) (.cons (.op .add (.var 0) (.var 3)) (.cons (.lit 6) .nil)))) (.cons (.var 7) .nil)))))))))) (.op .add (.var 6) (.op .shl (.lit 1) (.app 43 (.cons (.var 4) (.cons (.var 5) (.cons (.app 82 (.cons (.var 8) (.cons (.op .add (.var 0) (.var 3)) (.cons (.lit 1) .nil)))) (.cons (.app 82 (.cons (.var 8) (.cons (.op .add (.var 0) (.var 3)) (.cons (.lit 2) .nil)))) (.cons (.app 82 (.cons (.var 8) (.cons (.op .add (.var 0) (.var 3)) (.cons (.lit 3) .nil)))) (.cons (.app 82 (.cons (.var 8) (.cons (.op .add (.var 0) (.var 3)) (.cons (.lit 4) .nil)))) (.cons (.app 82 (.cons (.var 8) (.cons (.op .add (.var 0) (.var 3)) (.cons (.lit 5) .nil)))) (.cons (.app 82 (.cons (.var 8) (.cons (.op .add (.var 0) (.var 3)) (.cons (.lit 6) .nil)))) .nil))))))))))) 32]⟩
def aLy:LoopS:=⟨7,13,aL7,.lit true,.exit 2,aLM,.exit 2,aLM⟩
def aKr:LoopU:=⟨aLy,[(.var 0),(.var 1),(.var 2),(.var 3),(.var 4),(.var 5),(.var 6),(.app 82 (.cons (.var 8) (.cons (.op .add (.var 0) (.var 3)) (.cons (.lit 1) .nil)))),(.app 82 (.cons (.var 8) (.cons (.op .add (.var 0) (.var 3)) (.cons (.lit 2) .nil)))),(.app 82 (.cons (.var 8) (.cons (.op .add (.var 0) (.var 3)) (.cons (.lit 3) .nil)))),(.app 82 (.cons (.var 8) (.cons (.op .add (.var 0) (.var 3)) (.cons (.lit 4) .nil)))),(.app 82 (.cons (.var 8) (.cons (.op .add (.var 0) (.var 3)) (.cons (.lit 5) .nil)))),(.app 82 (.cons (.var 8) (.cons (.op .add (.var 0) (.var 3)) (.cons (.lit 6) .nil)))),(.lit 0),(.var 6),(.var 7),(.var 8)],vY,.lit true⟩
def tL (P:Program) (fs:List B):Res SV:=bU G GI vY fs fun X=>gL P X GB cW dE 4000 (cY (bZ P 16) 1) aLy
def aL4:St:=⟨[(.vsl 0 7 (.var 0) (.var 1) none),.any,(.own 2 (.var 6) none),(.ptr 1 0),.any,.any,.any,.any,.any,(.vsl 0 7 (.var 0) (.var 1) none),(.int .i64 (.var 1)),(.int .i64 (.var 3)),.any,.any,.any,.any,.any,.any,.any,.any,.any,.any,.any,.any,.any,.any,.any,.any,.any,.any,.any,.any,.any,.any,.any,.any,.any,.any,.any,.any,.any,.any,.any,.any,.any,.any,.any,.any,.any,.any,.any,.any,.any,.any],[some ([.vec [.int .u8,.int .i32,.int .i32,.int .i32,.int .i32,.int .i32,.int .i32] (.var 8) (.var 2) true],aV),some ([(.int .i64 (.var 4)),(.int .i64 (.var 5))],57),jO [.int .i64,.int .i64] (.var 7) (.var 6) 32]⟩
def aLN:St:=⟨[.any,.any,(.own 2 (.app 57 (.cons (.var 3) (.cons (.var 0) (.cons (.var 1) .nil)))) none),.any,.any,.any,.any,.any,.any,.any,.any,.any,.any,.any,.any,.any,.any,.any,.any,.any,.any,.any,.any,.any,.any,.any,.any,.any,.any,.any,.any,.any,.any,.any,.any,.any,.any,.any,.any,.any,.any,.any,.any,.any,.any,.any,.any,.any,.any,.any,.any,.any,.any,.any],[some ([.vec [.int .u8,.int .i32,.int .i32,.int .i32,.int .i32,.int .i32,.int .i32] (.var 3) (.var 2) true],aV),none,jO [.int .i64,.int .i64] (.app 50 (.cons (.var 3) (.cons (.var 0) (.cons (.var 1) .nil)))) (.app 57 (.cons (.var 3) (.cons (.var 0) (.cons (.var 1) .nil)))) 32]⟩
def aLC:LoopS:=⟨3,2,aL4,.lit true,.exit 0,aLN,.exit 0,aLN⟩
def aLO:eG:=iJ 9 (eZ (bI GB) [aKr]) dE
def aK3:LoopU:=⟨aLC,[(.var 0),(.var 1),(.var 2),(.lit 0),(.lit 0),(.lit 0),(.lit 0),(.lit 0),(.var 3)],aCN,.lit true⟩
def vK (P:Program) (fs:List B):Res SV:=bU G GI aCN fs fun X=>gL P X GB cW aLO 4000 (cY (bZ P 16) 0) aLC
def aKh:eG:=iJ 3 (eZ (bI GB) [aK3]) dE
def aLa:FunS:=⟨[(.vsl 0 7 (.var 0) (.var 1) none)],[some ([.vec [.int .u8,.int .i32,.int .i32,.int .i32,.int .i32,.int .i32,.int .i32] (.var 3) (.var 2) true],aV)],.lit true,(.vsl 1 2 (.lit 0) (.app 57 (.cons (.var 3) (.cons (.var 0) (.cons (.var 1) .nil)))) (some (.app 57 (.cons (.var 3) (.cons (.var 0) (.cons (.var 1) .nil)))))),[some ([.vec [.int .u8,.int .i32,.int .i32,.int .i32,.int .i32,.int .i32,.int .i32] (.var 3) (.var 2) true],aV),jO [.int .i64,.int .i64] (.app 50 (.cons (.var 3) (.cons (.var 0) (.cons (.var 1) .nil)))) (.app 57 (.cons (.var 3) (.cons (.var 0) (.cons (.var 1) .nil)))) 32],(.vsl 1 2 (.lit 0) (.app 57 (.cons (.var 3) (.cons (.var 0) (.cons (.var 1) .nil)))) (some (.app 57 (.cons (.var 3) (.cons (.var 0) (.cons (.var 1) .nil)))))),[some ([.vec [.int .u8,.int .i32,.int .i32,.int .i32,.int .i32,.int .i32,.int .i32] (.var 3) (.var 2) true],aV),jO [.int .i64,.int .i64] (.app 50 (.cons (.var 3) (.cons (.var 0) (.cons (.var 1) .nil)))) (.app 57 (.cons (.var 3) (.cons (.var 0) (.cons (.var 1) .nil)))) 32]⟩
def aG9 (P:Program) (fs:List B):Res SV:=bU G GI aCA fs fun X=>fH P X GB cW aKh 4000 16 aLa
end Go.Proofs.Ythiehfhphgkaeaa
set_option maxRecDepth 100000
namespace Go.Proofs.Ythiehfhphgkaeaa
open Go Go.RowKit Sx Wi
def aI6 (P:Program) (fs:List B):Res SV:=aG9 P fs
def aIT:List B:=[]
theorem aIQ:aI6 Try.prog aIT = .ok (.tuple [(.agg []),(.bool (.lit true))]):=by kernel_rfl
end Go.Proofs.Ythiehfhphgkaeaa
set_option maxRecDepth 100000
namespace Go.Proofs.Ythiehfhphgkaeaa
open Go Go.RowKit Sx Wi
def yU (P:Program) (fs:List B):Res SV:=vK P fs
def aA0:List B:=[]
def iL:B:=(.cmp .lt (.var 3) (.var 1))
def aGr:List B:=aU iL++aA0
def mH:B:=(.cmp .lt (.op .add (.var 0) (.var 3)) (.var 2))
def aAm:List B:=aU mH++aGr
def mI:B:=(.cmp .eq (.app 84 (.cons (.var 8) (.cons (.op .add (.var 0) (.var 3)) (.cons (.lit 0) .nil)))) (.lit 2))
def aHq:List B:=aU mI++aAm
def aBf:SV:=(.agg [(.int .i64 (.op .add (.var 6) (.op .shl (.lit 1) (.app 43 (.cons (.var 4) (.cons (.var 5) (.cons (.app 82 (.cons (.var 8) (.cons (.op .add (.var 0) (.var 3)) (.cons (.lit 1) .nil)))) (.cons (.app 82 (.cons (.var 8) (.cons (.op .add (.var 0) (.var 3)) (.cons (.lit 2) .nil)))) (.cons (.app 82 (.cons (.var 8) (.cons (.op .add (.var 0) (.var 3)) (.cons (.lit 3) .nil)))) (.cons (.app 82 (.cons (.var 8) (.cons (.op .add (.var 0) (.var 3)) (.cons (.lit 4) .nil)))) (.cons (.app 82 (.cons (.var 8) (.cons (.op .add (.var 0) (.var 3)) (.cons (.lit 5) .nil)))) (.cons (.app 82 (.cons (.var 8) (.cons (.op .add (.var 0) (.var 3)) (.cons (.lit 6) .nil)))) .nil)))))))))))),(.int .i64 (.var 6)),(.int .i64 (.op .add (.var 3) (.lit 1))),(.int .i64 (.var 3)),(.int .i64 (.var 8)),(.int .i64 (.var 8)),(.int .i64 (.app 82 (.cons (.var 8) (.cons (.op .add (.var 0) (.var 3)) (.cons (.lit 5) .nil))))),(.int .i64 (.var 4)),(.int .i64 (.app 82 (.cons (.var 8) (.cons (.op .add (.var 0) (.var 3)) (.cons (.lit 6) .nil))))),(.int .i64 (.var 5)),(.int .i64 (.app 47 (.cons (.var 4) (.cons (.var 5) (.cons (.app 82 (.cons (.var 8) (.cons (.op .add (.var 0) (.var 3)) (.cons (.lit 1) .nil)))) (.cons (.app 82 (.cons (.var 8) (.cons (.op .add (.var 0) (.var 3)) (.cons (.lit 2) .nil)))) (.cons (.app 82 (.cons (.var 8) (.cons (.op .add (.var 0) (.var 3)) (.cons (.lit 3) .nil)))) (.cons (.app 82 (.cons (.var 8) (.cons (.op .add (.var 0) (.var 3)) (.cons (.lit 4) .nil)))) (.cons (.app 82 (.cons (.var 8) (.cons (.op .add (.var 0) (.var 3)) (.cons (.lit 5) .nil)))) (.cons (.app 82 (.cons (.var 8) (.cons (.op .add (.var 0) (.var 3)) (.cons (.lit 6) .nil)))) (.cons (.var 7) .nil))))))))))),(.int .i64 (.var 7)),(.int .i64 (.op .add (.var 6) (.op .shl (.lit 1) (.app 43 (.cons (.var 4) (.cons (.var 5) (.cons (.app 82 (.cons (.var 8) (.cons (.op .add (.var 0) (.var 3)) (.cons (.lit 1) .nil)))) (.cons (.app 82 (.cons (.var 8) (.cons (.op .add (.var 0) (.var 3)) (.cons (.lit 2) .nil)))) (.cons (.app 82 (.cons (.var 8) (.cons (.op .add (.var 0) (.var 3)) (.cons (.lit 3) .nil)))) (.cons (.app 82 (.cons (.var 8) (.cons (.op .add (.var 0) (.var 3)) (.cons (.lit 4) .nil)))) (.cons (.app 82 (.cons (.var 8) (.cons (.op .add (.var 0) (.var 3)) (.cons (.lit 5) .nil)))) (.cons (.app 82 (.cons (.var 8) (.cons (.op .add (.var 0) (.var 3)) (.cons (.lit 6) .nil)))) .nil)))))))))))),(.int .i64 (.var 6))])
def aGD:List B:=aU (B.neg mI)++aAm
def aBh:SV:=(.agg [(.int .i64 (.op .add (.var 6) (.lit 1))),(.int .i64 (.var 6)),(.int .i64 (.op .add (.var 3) (.lit 1))),(.int .i64 (.var 3)),(.int .i64 (.var 8)),(.int .i64 (.var 8)),(.int .i64 (.app 82 (.cons (.var 8) (.cons (.op .add (.var 0) (.var 3)) (.cons (.lit 1) .nil))))),(.int .i64 (.var 4)),(.int .i64 (.app 82 (.cons (.var 8) (.cons (.op .add (.var 0) (.var 3)) (.cons (.lit 2) .nil))))),(.int .i64 (.var 5)),(.int .i64 (.app 91 (.cons (.var 7) (.cons (.app 2 (.cons (.app 82 (.cons (.var 8) (.cons (.op .add (.var 0) (.var 3)) (.cons (.lit 1) .nil)))) (.cons (.op .mul (.lit 1) (.lit 256)) .nil))) (.cons (.app 2 (.cons (.app 82 (.cons (.var 8) (.cons (.op .add (.var 0) (.var 3)) (.cons (.lit 2) .nil)))) (.cons (.op .mul (.lit 1) (.lit 256)) .nil))) .nil))))),(.int .i64 (.var 7)),(.int .i64 (.op .add (.var 6) (.lit 1))),(.int .i64 (.var 6))])
def aGK:List B:=aU (B.neg iL)++aA0
def aAE:SV:=(.tuple [(.agg [(.int .i64 (.var 6)),(.int .i64 (.app 57 (.cons (.var 3) (.cons (.var 0) (.cons (.var 1) .nil))))),(.int .i64 (.var 8)),(.int .i64 (.var 3)),(.int .i64 (.var 7)),(.int .i64 (.app 50 (.cons (.var 3) (.cons (.var 0) (.cons (.var 1) .nil))))),(.int .i64 (.var 6)),(.int .i64 (.app 57 (.cons (.var 3) (.cons (.var 0) (.cons (.var 1) .nil)))))]),(.bool (.lit true))])
theorem aGR:yU Try.prog aHq = .ok aBf:=by kernel_rfl
theorem aIw:yU Try.prog aGD = .ok aBh:=by kernel_rfl
theorem aGf:yU Try.prog aGK = .ok aAE:=by kernel_rfl
end Go.Proofs.Ythiehfhphgkaeaa
set_option maxRecDepth 100000
namespace Go.Proofs.Ythiehfhphgkaeaa
open Go Go.RowKit Sx Wi
def aCO (P:Program) (fs:List B):Res SV:=tL P fs
def aAe:List B:=[]
def lK:B:=(.cmp .lt (.var 13) (.op .shl (.lit 1) (.app 43 (.cons (.var 4) (.cons (.var 5) (.cons (.var 7) (.cons (.var 8) (.cons (.var 9) (.cons (.var 10) (.cons (.var 11) (.cons (.var 12) .nil)))))))))))
def aG0:List B:=aU lK++aAe
def aBk:SV:=(.agg [(.int .i64 (.op .add (.var 14) (.lit 1))),(.int .i64 (.var 14)),(.int .i64 (.op .shl (.lit 1) (.app 43 (.cons (.var 4) (.cons (.var 5) (.cons (.var 7) (.cons (.var 8) (.cons (.var 9) (.cons (.var 10) (.cons (.var 11) (.cons (.var 12) .nil))))))))))),(.int .i64 (.op .shl (.lit 1) (.app 43 (.cons (.var 4) (.cons (.var 5) (.cons (.var 7) (.cons (.var 8) (.cons (.var 9) (.cons (.var 10) (.cons (.var 11) (.cons (.var 12) .nil))))))))))),(.int .i64 (.op .shl (.lit 1) (.app 43 (.cons (.var 4) (.cons (.var 5) (.cons (.var 7) (.cons (.var 8) (.cons (.var 9) (.cons (.var 10) (.cons (.var 11) (.cons (.var 12) .nil))))))))))),(.int .i64 (.op .shl (.lit 1) (.app 43 (.cons (.var 4) (.cons (.var 5) (.cons (.var 7) (.cons (.var 8) (.cons (.var 9) (.cons (.var 10) (.cons (.var 11) (.cons (.var 12) .nil))))))))))),(.int .i64 (.op .add (.var 13) (.lit 1))),(.int .i64 (.var 13)),(.int .i64 (.var 16)),(.int .i64 (.var 16)),(.int .i64 (.var 7)),(.int .i64 (.var 7)),(.int .i64 (.var 8)),(.int .i64 (.var 8)),(.int .i64 (.var 9)),(.int .i64 (.var 9)),(.int .i64 (.var 10)),(.int .i64 (.var 10)),(.int .i64 (.var 11)),(.int .i64 (.var 11)),(.int .i64 (.var 12)),(.int .i64 (.var 12)),(.int .i64 (.app 91 (.cons (.var 15) (.cons (.app 2 (.cons (.op .add (.op .add (.op .add (.op .mul (.op .mul (.op .mul (.op .sub (.op .shl (.lit 1) (.app 43 (.cons (.var 4) (.cons (.var 5) (.cons (.var 7) (.cons (.var 8) (.cons (.var 9) (.cons (.var 10) (.cons (.var 11) (.cons (.var 12) .nil)))))))))) (.op .add (.var 13) (.lit 1))) (.op .sub (.op .shl (.lit 1) (.app 43 (.cons (.var 4) (.cons (.var 5) (.cons (.var 7) (.cons (.var 8) (.cons (.var 9) (.cons (.var 10) (.cons (.var 11) (.cons (.var 12) .nil)))))))))) (.op .add (.var 13) (.lit 1)))) (.op .sub (.op .shl (.lit 1) (.app 43 (.cons (.var 4) (.cons (.var 5) (.cons (.var 7) (.cons (.var 8) (.cons (.var 9) (.cons (.var 10) (.cons (.var 11) (.cons (.var 12) .nil)))))))))) (.op .add (.var 13) (.lit 1)))) (.var 4)) (.op .mul (.op .mul (.op .mul (.op .mul (.lit 3) (.op .sub (.op .shl (.lit 1) (.app 43 (.cons (.var 4) (.cons (.var 5) (.cons (.var 7) (.cons (.var 8) (.cons (.var 9) (.cons (.var 10) (.cons (.var 11) (.cons (.var 12) .nil)))))))))) (.op .add (.var 13) (.lit 1)))) (.op .sub (.op .shl (.lit 1) (.app 43 (.cons (.var 4) (.cons (.var 5) (.cons (.var 7) (.cons (.var 8) (.cons (.var 9) (.cons (.var 10) (.cons (.var 11) (.cons (.var 12) .nil)))))))))) (.op .add (.var 13) (.lit 1)))) (.op .add (.var 13) (.lit 1))) (.var 7))) (.op .mul (.op .mul (.op .mul (.op .mul (.lit 3) (.op .sub (.op .shl (.lit 1) (.app 43 (.cons (.var 4) (.cons (.var 5) (.cons (.var 7) (.cons (.var 8) (.cons (.var 9) (.cons (.var 10) (.cons (.var 11) (.cons (.var 12) .nil)))))))))) (.op .add (.var 13) (.lit 1)))) (.op .add (.var 13) (.lit 1))) (.op .add (.var 13) (.lit 1))) (.var 9))) (.op .mul (.op .mul (.op .mul (.op .add (.var 13) (.lit 1)) (.op .add (.var 13) (.lit 1))) (.op .add (.var 13) (.lit 1))) (.var 11))) (.cons (.op .mul (.op .mul (.op .shl (.lit 1) (.app 43 (.cons (.var 4) (.cons (.var 5) (.cons (.var 7) (.cons (.var 8) (.cons (.var 9) (.cons (.var 10) (.cons (.var 11) (.cons (.var 12) .nil)))))))))) (.op .mul (.op .shl (.lit 1) (.app 43 (.cons (.var 4) (.cons (.var 5) (.cons (.var 7) (.cons (.var 8) (.cons (.var 9) (.cons (.var 10) (.cons (.var 11) (.cons (.var 12) .nil)))))))))) (.op .shl (.lit 1) (.app 43 (.cons (.var 4) (.cons (.var 5) (.cons (.var 7) (.cons (.var 8) (.cons (.var 9) (.cons (.var 10) (.cons (.var 11) (.cons (.var 12) .nil)))))))))))) (.lit 256)) .nil))) (.cons (.app 2 (.cons (.op .add (.op .add (.op .add (.op .mul (.op .mul (.op .mul (.op .sub (.op .shl (.lit 1) (.app 43 (.cons (.var 4) (.cons (.var 5) (.cons (.var 7) (.cons (.var 8) (.cons (.var 9) (.cons (.var 10) (.cons (.var 11) (.cons (.var 12) .nil)))))))))) (.op .add (.var 13) (.lit 1))) (.op .sub (.op .shl (.lit 1) (.app 43 (.cons (.var 4) (.cons (.var 5) (.cons (.var 7) (.cons (.var 8) (.cons (.var 9) (.cons (.var 10) (.cons (.var 11) (.cons (.var 12) .nil)))))))))) (.op .add (.var 13) (.lit 1)))) (.op .sub (.op .shl (.lit 1) (.app 43 (.cons (.var 4) (.cons (.var 5) (.cons (.var 7) (.cons (.var 8) (.cons (.var 9) (.cons (.var 10) (.cons (.var 11) (.cons (.var 12) .nil)))))))))) (.op .add (.var 13) (.lit 1)))) (.var 5)) (.op .mul (.op .mul (.op .mul (.op .mul (.lit 3) (.op .sub (.op .shl (.lit 1) (.app 43 (.cons (.var 4) (.cons (.var 5) (.cons (.var 7) (.cons (.var 8) (.cons (.var 9) (.cons (.var 10) (.cons (.var 11) (.cons (.var 12) .nil)))))))))) (.op .add (.var 13) (.lit 1)))) (.op .sub (.op .shl (.lit 1) (.app 43 (.cons (.var 4) (.cons (.var 5) (.cons (.var 7) (.cons (.var 8) (.cons (.var 9) (.cons (.var 10) (.cons (.var 11) (.cons (.var 12) .nil)))))))))) (.op .add (.var 13) (.lit 1)))) (.op .add (.var 13) (.lit 1))) (.var 8))) (.op .mul (.op .mul (.op .mul (.op .mul (.lit 3) (.op .sub (.op .shl (.lit 1) (.app 43 (.cons (.var 4) (.cons (.var 5) (.cons (.var 7) (.cons (.var 8) (.cons (.var 9) (.cons (.var 10) (.cons (.var 11) (.cons (.var 12) .nil)))))))))) (.op .add (.var 13) (.lit 1)))) (.op .add (.var 13) (.lit 1))) (.op .add (.var 13) (.lit 1))) (.var 10))) (.op .mul (.op .mul (.op .mul (.op .add (.var 13) (.lit 1)) (.op .add (.var 13) (.lit 1))) (.op .add (.var 13) (.lit 1))) (.var 12))) (.cons (.op .mul (.op .mul (.op .shl (.lit 1) (.app 43 (.cons (.var 4) (.cons (.var 5) (.cons (.var 7) (.cons (.var 8) (.cons (.var 9) (.cons (.var 10) (.cons (.var 11) (.cons (.var 12) .nil)))))))))) (.op .mul (.op .shl (.lit 1) (.app 43 (.cons (.var 4) (.cons (.var 5) (.cons (.var 7) (.cons (.var 8) (.cons (.var 9) (.cons (.var 10) (.cons (.var 11) (.cons (.var 12) .nil)))))))))) (.op .shl (.lit 1) (.app 43 (.cons (.var 4) (.cons (.var 5) (.cons (.var 7) (.cons (.var 8) (.cons (.var 9) (.cons (.var 10) (.cons (.var 11) (.cons (.var 12) .nil)))))))))))) (.lit 256)) .nil))) .nil))))),(.int .i64 (.var 15)),(.int .i64 (.op .add (.var 14) (.lit 1))),(.int .i64 (.var 14))])
def aIL:List B:=aU (B.neg lK)++aAe
def aAt:SV:=(.tuple [(.agg [(.int .i64 (.var 14)),(.int .i64 (.op .add (.var 6) (.op .shl (.lit 1) (.app 43 (.cons (.var 4) (.cons (.var 5) (.cons (.app 82 (.cons (.var 8) (.cons (.op .add (.var 0) (.var 3)) (.cons (.lit 1) .nil)))) (.cons (.app 82 (.cons (.var 8) (.cons (.op .add (.var 0) (.var 3)) (.cons (.lit 2) .nil)))) (.cons (.app 82 (.cons (.var 8) (.cons (.op .add (.var 0) (.var 3)) (.cons (.lit 3) .nil)))) (.cons (.app 82 (.cons (.var 8) (.cons (.op .add (.var 0) (.var 3)) (.cons (.lit 4) .nil)))) (.cons (.app 82 (.cons (.var 8) (.cons (.op .add (.var 0) (.var 3)) (.cons (.lit 5) .nil)))) (.cons (.app 82 (.cons (.var 8) (.cons (.op .add (.var 0) (.var 3)) (.cons (.lit 6) .nil)))) .nil)))))))))))),(.int .i64 (.var 16)),(.int .i64 (.var 8)),(.int .i64 (.var 7)),(.int .i64 (.app 82 (.cons (.var 8) (.cons (.op .add (.var 0) (.var 3)) (.cons (.lit 1) .nil))))),(.int .i64 (.var 8)),(.int .i64 (.app 82 (.cons (.var 8) (.cons (.op .add (.var 0) (.var 3)) (.cons (.lit 2) .nil))))),(.int .i64 (.var 9)),(.int .i64 (.app 82 (.cons (.var 8) (.cons (.op .add (.var 0) (.var 3)) (.cons (.lit 3) .nil))))),(.int .i64 (.var 10)),(.int .i64 (.app 82 (.cons (.var 8) (.cons (.op .add (.var 0) (.var 3)) (.cons (.lit 4) .nil))))),(.int .i64 (.var 11)),(.int .i64 (.app 82 (.cons (.var 8) (.cons (.op .add (.var 0) (.var 3)) (.cons (.lit 5) .nil))))),(.int .i64 (.var 12)),(.int .i64 (.app 82 (.cons (.var 8) (.cons (.op .add (.var 0) (.var 3)) (.cons (.lit 6) .nil))))),(.int .i64 (.var 15)),(.int .i64 (.app 47 (.cons (.var 4) (.cons (.var 5) (.cons (.app 82 (.cons (.var 8) (.cons (.op .add (.var 0) (.var 3)) (.cons (.lit 1) .nil)))) (.cons (.app 82 (.cons (.var 8) (.cons (.op .add (.var 0) (.var 3)) (.cons (.lit 2) .nil)))) (.cons (.app 82 (.cons (.var 8) (.cons (.op .add (.var 0) (.var 3)) (.cons (.lit 3) .nil)))) (.cons (.app 82 (.cons (.var 8) (.cons (.op .add (.var 0) (.var 3)) (.cons (.lit 4) .nil)))) (.cons (.app 82 (.cons (.var 8) (.cons (.op .add (.var 0) (.var 3)) (.cons (.lit 5) .nil)))) (.cons (.app 82 (.cons (.var 8) (.cons (.op .add (.var 0) (.var 3)) (.cons (.lit 6) .nil)))) (.cons (.var 7) .nil))))))))))),(.int .i64 (.var 14)),(.int .i64 (.op .add (.var 6) (.op .shl (.lit 1) (.app 43 (.cons (.var 4) (.cons (.var 5) (.cons (.app 82 (.cons (.var 8) (.cons (.op .add (.var 0) (.var 3)) (.cons (.lit 1) .nil)))) (.cons (.app 82 (.cons (.var 8) (.cons (.op .add (.var 0) (.var 3)) (.cons (.lit 2) .nil)))) (.cons (.app 82 (.cons (.var 8) (.cons (.op .add (.var 0) (.var 3)) (.cons (.lit 3) .nil)))) (.cons (.app 82 (.cons (.var 8) (.cons (.op .add (.var 0) (.var 3)) (.cons (.lit 4) .nil)))) (.cons (.app 82 (.cons (.var 8) (.cons (.op .add (.var 0) (.var 3)) (.cons (.lit 5) .nil)))) (.cons (.app 82 (.cons (.var 8) (.cons (.op .add (.var 0) (.var 3)) (.cons (.lit 6) .nil)))) .nil))))))))))))]),(.bool (.lit true))])
theorem aH8:aCO Try.prog aG0 = .ok aBk:=by kernel_rfl
theorem aIl:aCO Try.prog aIL = .ok aAt:=by kernel_rfl
end Go.Proofs.Ythiehfhphgkaeaa
namespace Go.Proofs.Ythiehfhphgkaeaa
open Go Go.RowKit Sx Wi
theorem qV (L r j:Int) : -2147483648≤G 82 [L,r,j]∧G 82 [L,r,j]≤2147483647:=by
 rw[show G 82 [L,r,j]=_ from pW .i32 L r j]
 exact fB .i32 _
def gW (v0 v1 v2 v3 v4 v5 v6 C L:Int) (a:Nat):Nat→Int:=eH ([v0,v1,v2,v3,v4,v5,v6]++[G 82 [L,v0+v3,1],G 82 [L,v0+v3,2],G 82 [L,v0+v3,3],G 82 [L,v0+v3,4],G 82 [L,v0+v3,5],G 82 [L,v0+v3,6],(a:Int),v6+(a:Int),nZ C [v4,v5,G 82 [L,v0+v3,1],G 82 [L,v0+v3,2],G 82 [L,v0+v3,3],G 82 [L,v0+v3,4],G 82 [L,v0+v3,5],G 82 [L,v0+v3,6]] a,L])
theorem aJy (v0 v1 v2 v3 v4 v5 v6 C L:Int) (b0:0≤v0∧v0≤300) (b1:0≤v1∧v1≤256) (b2:0≤v2∧v2≤256) (b3:0≤v3∧v3≤256) (b4 : -2147483648≤v4∧v4≤2147483647) (b5 : -2147483648≤v5∧v5≤2147483647) (b6:0≤v6∧v6≤19200) (a:Nat) (ha:(a:Int)≤cG [v4,v5,G 82 [L,v0+v3,1],G 82 [L,v0+v3,2],G 82 [L,v0+v3,3],G 82 [L,v0+v3,4],G 82 [L,v0+v3,5],G 82 [L,v0+v3,6]]):∀ i q,vY[i]?=some q→q.1≤gW v0 v1 v2 v3 v4 v5 v6 C L a i∧gW v0 v1 v2 v3 v4 v5 v6 C L a i≤q.2:=by
 have hp:=fP [v4,v5,G 82 [L,v0+v3,1],G 82 [L,v0+v3,2],G 82 [L,v0+v3,3],G 82 [L,v0+v3,4],G 82 [L,v0+v3,5],G 82 [L,v0+v3,6]]
 unfold gW vY
 exact cZ (xs:=[v0,v1,v2,v3,v4,v5,v6,G 82 [L,v0+v3,1],G 82 [L,v0+v3,2],G 82 [L,v0+v3,3],G 82 [L,v0+v3,4],G 82 [L,v0+v3,5],G 82 [L,v0+v3,6],(a:Int),v6+(a:Int)]) (ls:=[nZ C [v4,v5,G 82 [L,v0+v3,1],G 82 [L,v0+v3,2],G 82 [L,v0+v3,3],G 82 [L,v0+v3,4],G 82 [L,v0+v3,5],G 82 [L,v0+v3,6]] a,L]) (by exact⟨b0,b1,b2,b3,b4,b5,b6,qV _ _ _,qV _ _ _,qV _ _ _,qV _ _ _,qV _ _ _,qV _ _ _,by omega,by omega,trivial⟩)
set_option maxRecDepth 100000 in
theorem aKM (v0 v3 v4 v5 C L:Int) (a:Nat):G 91 [nZ C [v4,v5,G 82 [L,v0+v3,1],G 82 [L,v0+v3,2],G 82 [L,v0+v3,3],G 82 [L,v0+v3,4],G 82 [L,v0+v3,5],G 82 [L,v0+v3,6]] a,G 2 [((((((((1*2 ^ (G 43 [v4,v5,G 82 [L,v0+v3,1],G 82 [L,v0+v3,2],G 82 [L,v0+v3,3],G 82 [L,v0+v3,4],G 82 [L,v0+v3,5],G 82 [L,v0+v3,6]]).toNat)-((a:Int)+1))*((1*2 ^ (G 43 [v4,v5,G 82 [L,v0+v3,1],G 82 [L,v0+v3,2],G 82 [L,v0+v3,3],G 82 [L,v0+v3,4],G 82 [L,v0+v3,5],G 82 [L,v0+v3,6]]).toNat)-((a:Int)+1)))*((1*2 ^ (G 43 [v4,v5,G 82 [L,v0+v3,1],G 82 [L,v0+v3,2],G 82 [L,v0+v3,3],G 82 [L,v0+v3,4],G 82 [L,v0+v3,5],G 82 [L,v0+v3,6]]).toNat)-((a:Int)+1)))*v4)+((((3*((1*2 ^ (G 43 [v4,v5,G 82 [L,v0+v3,1],G 82 [L,v0+v3,2],G 82 [L,v0+v3,3],G 82 [L,v0+v3,4],G 82 [L,v0+v3,5],G 82 [L,v0+v3,6]]).toNat)-((a:Int)+1)))*((1*2 ^ (G 43 [v4,v5,G 82 [L,v0+v3,1],G 82 [L,v0+v3,2],G 82 [L,v0+v3,3],G 82 [L,v0+v3,4],G 82 [L,v0+v3,5],G 82 [L,v0+v3,6]]).toNat)-((a:Int)+1)))*((a:Int)+1))*G 82 [L,v0+v3,1]))+((((3*((1*2 ^ (G 43 [v4,v5,G 82 [L,v0+v3,1],G 82 [L,v0+v3,2],G 82 [L,v0+v3,3],G 82 [L,v0+v3,4],G 82 [L,v0+v3,5],G 82 [L,v0+v3,6]]).toNat)-((a:Int)+1)))*((a:Int)+1))*((a:Int)+1))*G 82 [L,v0+v3,3]))+(((((a:Int)+1)*((a:Int)+1))*((a:Int)+1))*G 82 [L,v0+v3,5])),(((1*2 ^ (G 43 [v4,v5,G 82 [L,v0+v3,1],G 82 [L,v0+v3,2],G 82 [L,v0+v3,3],G 82 [L,v0+v3,4],G 82 [L,v0+v3,5],G 82 [L,v0+v3,6]]).toNat)*((1*2 ^ (G 43 [v4,v5,G 82 [L,v0+v3,1],G 82 [L,v0+v3,2],G 82 [L,v0+v3,3],G 82 [L,v0+v3,4],G 82 [L,v0+v3,5],G 82 [L,v0+v3,6]]).toNat)*(1*2 ^ (G 43 [v4,v5,G 82 [L,v0+v3,1],G 82 [L,v0+v3,2],G 82 [L,v0+v3,3],G 82 [L,v0+v3,4],G 82 [L,v0+v3,5],G 82 [L,v0+v3,6]]).toNat)))*256)],G 2 [((((((((1*2 ^ (G 43 [v4,v5,G 82 [L,v0+v3,1],G 82 [L,v0+v3,2],G 82 [L,v0+v3,3],G 82 [L,v0+v3,4],G 82 [L,v0+v3,5],G 82 [L,v0+v3,6]]).toNat)-((a:Int)+1))*((1*2 ^ (G 43 [v4,v5,G 82 [L,v0+v3,1],G 82 [L,v0+v3,2],G 82 [L,v0+v3,3],G 82 [L,v0+v3,4],G 82 [L,v0+v3,5],G 82 [L,v0+v3,6]]).toNat)-((a:Int)+1)))*((1*2 ^ (G 43 [v4,v5,G 82 [L,v0+v3,1],G 82 [L,v0+v3,2],G 82 [L,v0+v3,3],G 82 [L,v0+v3,4],G 82 [L,v0+v3,5],G 82 [L,v0+v3,6]]).toNat)-((a:Int)+1)))*v5)+((((3*((1*2 ^ (G 43 [v4,v5,G 82 [L,v0+v3,1],G 82 [L,v0+v3,2],G 82 [L,v0+v3,3],G 82 [L,v0+v3,4],G 82 [L,v0+v3,5],G 82 [L,v0+v3,6]]).toNat)-((a:Int)+1)))*((1*2 ^ (G 43 [v4,v5,G 82 [L,v0+v3,1],G 82 [L,v0+v3,2],G 82 [L,v0+v3,3],G 82 [L,v0+v3,4],G 82 [L,v0+v3,5],G 82 [L,v0+v3,6]]).toNat)-((a:Int)+1)))*((a:Int)+1))*G 82 [L,v0+v3,2]))+((((3*((1*2 ^ (G 43 [v4,v5,G 82 [L,v0+v3,1],G 82 [L,v0+v3,2],G 82 [L,v0+v3,3],G 82 [L,v0+v3,4],G 82 [L,v0+v3,5],G 82 [L,v0+v3,6]]).toNat)-((a:Int)+1)))*((a:Int)+1))*((a:Int)+1))*G 82 [L,v0+v3,4]))+(((((a:Int)+1)*((a:Int)+1))*((a:Int)+1))*G 82 [L,v0+v3,6])),(((1*2 ^ (G 43 [v4,v5,G 82 [L,v0+v3,1],G 82 [L,v0+v3,2],G 82 [L,v0+v3,3],G 82 [L,v0+v3,4],G 82 [L,v0+v3,5],G 82 [L,v0+v3,6]]).toNat)*((1*2 ^ (G 43 [v4,v5,G 82 [L,v0+v3,1],G 82 [L,v0+v3,2],G 82 [L,v0+v3,3],G 82 [L,v0+v3,4],G 82 [L,v0+v3,5],G 82 [L,v0+v3,6]]).toNat)*(1*2 ^ (G 43 [v4,v5,G 82 [L,v0+v3,1],G 82 [L,v0+v3,2],G 82 [L,v0+v3,3],G 82 [L,v0+v3,4],G 82 [L,v0+v3,5],G 82 [L,v0+v3,6]]).toNat)))*256)]]=nZ C [v4,v5,G 82 [L,v0+v3,1],G 82 [L,v0+v3,2],G 82 [L,v0+v3,3],G 82 [L,v0+v3,4],G 82 [L,v0+v3,5],G 82 [L,v0+v3,6]] (a+1):=by
 have er:pE [v4,v5,G 82 [L,v0+v3,1],G 82 [L,v0+v3,2],G 82 [L,v0+v3,3],G 82 [L,v0+v3,4],G 82 [L,v0+v3,5],G 82 [L,v0+v3,6]] (cG [v4,v5,G 82 [L,v0+v3,1],G 82 [L,v0+v3,2],G 82 [L,v0+v3,3],G 82 [L,v0+v3,4],G 82 [L,v0+v3,5],G 82 [L,v0+v3,6]]) ((a:Int)+1)=[G 2 [((((((((1*2 ^ (G 43 [v4,v5,G 82 [L,v0+v3,1],G 82 [L,v0+v3,2],G 82 [L,v0+v3,3],G 82 [L,v0+v3,4],G 82 [L,v0+v3,5],G 82 [L,v0+v3,6]]).toNat)-((a:Int)+1))*((1*2 ^ (G 43 [v4,v5,G 82 [L,v0+v3,1],G 82 [L,v0+v3,2],G 82 [L,v0+v3,3],G 82 [L,v0+v3,4],G 82 [L,v0+v3,5],G 82 [L,v0+v3,6]]).toNat)-((a:Int)+1)))*((1*2 ^ (G 43 [v4,v5,G 82 [L,v0+v3,1],G 82 [L,v0+v3,2],G 82 [L,v0+v3,3],G 82 [L,v0+v3,4],G 82 [L,v0+v3,5],G 82 [L,v0+v3,6]]).toNat)-((a:Int)+1)))*v4)+((((3*((1*2 ^ (G 43 [v4,v5,G 82 [L,v0+v3,1],G 82 [L,v0+v3,2],G 82 [L,v0+v3,3],G 82 [L,v0+v3,4],G 82 [L,v0+v3,5],G 82 [L,v0+v3,6]]).toNat)-((a:Int)+1)))*((1*2 ^ (G 43 [v4,v5,G 82 [L,v0+v3,1],G 82 [L,v0+v3,2],G 82 [L,v0+v3,3],G 82 [L,v0+v3,4],G 82 [L,v0+v3,5],G 82 [L,v0+v3,6]]).toNat)-((a:Int)+1)))*((a:Int)+1))*G 82 [L,v0+v3,1]))+((((3*((1*2 ^ (G 43 [v4,v5,G 82 [L,v0+v3,1],G 82 [L,v0+v3,2],G 82 [L,v0+v3,3],G 82 [L,v0+v3,4],G 82 [L,v0+v3,5],G 82 [L,v0+v3,6]]).toNat)-((a:Int)+1)))*((a:Int)+1))*((a:Int)+1))*G 82 [L,v0+v3,3]))+(((((a:Int)+1)*((a:Int)+1))*((a:Int)+1))*G 82 [L,v0+v3,5])),(((1*2 ^ (G 43 [v4,v5,G 82 [L,v0+v3,1],G 82 [L,v0+v3,2],G 82 [L,v0+v3,3],G 82 [L,v0+v3,4],G 82 [L,v0+v3,5],G 82 [L,v0+v3,6]]).toNat)*((1*2 ^ (G 43 [v4,v5,G 82 [L,v0+v3,1],G 82 [L,v0+v3,2],G 82 [L,v0+v3,3],G 82 [L,v0+v3,4],G 82 [L,v0+v3,5],G 82 [L,v0+v3,6]]).toNat)*(1*2 ^ (G 43 [v4,v5,G 82 [L,v0+v3,1],G 82 [L,v0+v3,2],G 82 [L,v0+v3,3],G 82 [L,v0+v3,4],G 82 [L,v0+v3,5],G 82 [L,v0+v3,6]]).toNat)))*256)],G 2 [((((((((1*2 ^ (G 43 [v4,v5,G 82 [L,v0+v3,1],G 82 [L,v0+v3,2],G 82 [L,v0+v3,3],G 82 [L,v0+v3,4],G 82 [L,v0+v3,5],G 82 [L,v0+v3,6]]).toNat)-((a:Int)+1))*((1*2 ^ (G 43 [v4,v5,G 82 [L,v0+v3,1],G 82 [L,v0+v3,2],G 82 [L,v0+v3,3],G 82 [L,v0+v3,4],G 82 [L,v0+v3,5],G 82 [L,v0+v3,6]]).toNat)-((a:Int)+1)))*((1*2 ^ (G 43 [v4,v5,G 82 [L,v0+v3,1],G 82 [L,v0+v3,2],G 82 [L,v0+v3,3],G 82 [L,v0+v3,4],G 82 [L,v0+v3,5],G 82 [L,v0+v3,6]]).toNat)-((a:Int)+1)))*v5)+((((3*((1*2 ^ (G 43 [v4,v5,G 82 [L,v0+v3,1],G 82 [L,v0+v3,2],G 82 [L,v0+v3,3],G 82 [L,v0+v3,4],G 82 [L,v0+v3,5],G 82 [L,v0+v3,6]]).toNat)-((a:Int)+1)))*((1*2 ^ (G 43 [v4,v5,G 82 [L,v0+v3,1],G 82 [L,v0+v3,2],G 82 [L,v0+v3,3],G 82 [L,v0+v3,4],G 82 [L,v0+v3,5],G 82 [L,v0+v3,6]]).toNat)-((a:Int)+1)))*((a:Int)+1))*G 82 [L,v0+v3,2]))+((((3*((1*2 ^ (G 43 [v4,v5,G 82 [L,v0+v3,1],G 82 [L,v0+v3,2],G 82 [L,v0+v3,3],G 82 [L,v0+v3,4],G 82 [L,v0+v3,5],G 82 [L,v0+v3,6]]).toNat)-((a:Int)+1)))*((a:Int)+1))*((a:Int)+1))*G 82 [L,v0+v3,4]))+(((((a:Int)+1)*((a:Int)+1))*((a:Int)+1))*G 82 [L,v0+v3,6])),(((1*2 ^ (G 43 [v4,v5,G 82 [L,v0+v3,1],G 82 [L,v0+v3,2],G 82 [L,v0+v3,3],G 82 [L,v0+v3,4],G 82 [L,v0+v3,5],G 82 [L,v0+v3,6]]).toNat)*((1*2 ^ (G 43 [v4,v5,G 82 [L,v0+v3,1],G 82 [L,v0+v3,2],G 82 [L,v0+v3,3],G 82 [L,v0+v3,4],G 82 [L,v0+v3,5],G 82 [L,v0+v3,6]]).toNat)*(1*2 ^ (G 43 [v4,v5,G 82 [L,v0+v3,1],G 82 [L,v0+v3,2],G 82 [L,v0+v3,3],G 82 [L,v0+v3,4],G 82 [L,v0+v3,5],G 82 [L,v0+v3,6]]).toNat)))*256)]]:=rfl
 rw[←aE0,er]
theorem yI (v0 v3 v4 v5 L:Int):1*2 ^ (G 43 [v4,v5,G 82 [L,v0+v3,1],G 82 [L,v0+v3,2],G 82 [L,v0+v3,3],G 82 [L,v0+v3,4],G 82 [L,v0+v3,5],G 82 [L,v0+v3,6]]).toNat=cG [v4,v5,G 82 [L,v0+v3,1],G 82 [L,v0+v3,2],G 82 [L,v0+v3,3],G 82 [L,v0+v3,4],G 82 [L,v0+v3,5],G 82 [L,v0+v3,6]]:=rfl
set_option maxHeartbeats 4000000 in
set_option maxRecDepth 100000 in
theorem aKL (v0 v1 v2 v3 v4 v5 v6 C L:Int) (a:Nat) (ha:(a:Int)≤cG [v4,v5,G 82 [L,v0+v3,1],G 82 [L,v0+v3,2],G 82 [L,v0+v3,3],G 82 [L,v0+v3,4],G 82 [L,v0+v3,5],G 82 [L,v0+v3,6]]):Sx.zL (tL Try.prog) G (gW v0 v1 v2 v3 v4 v5 v6 C L a) (bF G (gW v0 v1 v2 v3 v4 v5 v6 C L) (eH ([v0,v1,v2,v3,v4,v5,v6]++[C,L])) 7 (.lit true) (fun a=>(a:Int)≤cG [v4,v5,G 82 [L,v0+v3,1],G 82 [L,v0+v3,2],G 82 [L,v0+v3,3],G 82 [L,v0+v3,4],G 82 [L,v0+v3,5],G 82 [L,v0+v3,6]]) (fun a=>(cG [v4,v5,G 82 [L,v0+v3,1],G 82 [L,v0+v3,2],G 82 [L,v0+v3,3],G 82 [L,v0+v3,4],G 82 [L,v0+v3,5],G 82 [L,v0+v3,6]]).toNat-a) a) []:=by
 refine aR lK (fun h0=>?_) (fun h0=>?_)
 ·skip
  refine aM aH8 ?_
  unfold lK at h0;unfold aBk;simp only[nn,gW,List.cons_append,List.nil_append,Bool.or_eq_true,aZ,ne_eq]at h0;rw[yI]at h0;have ec:=aKM v0 v3 v4 v5 C L a;have hm:(cG [v4,v5,G 82 [L,v0+v3,1],G 82 [L,v0+v3,2],G 82 [L,v0+v3,3],G 82 [L,v0+v3,4],G 82 [L,v0+v3,5],G 82 [L,v0+v3,6]]).toNat-(a+1)<(cG [v4,v5,G 82 [L,v0+v3,1],G 82 [L,v0+v3,2],G 82 [L,v0+v3,3],G 82 [L,v0+v3,4],G 82 [L,v0+v3,5],G 82 [L,v0+v3,6]]).toNat-a:=(by clear ec;omega);have hg:((a+1:Nat):Int)≤cG [v4,v5,G 82 [L,v0+v3,1],G 82 [L,v0+v3,2],G 82 [L,v0+v3,3],G 82 [L,v0+v3,4],G 82 [L,v0+v3,5],G 82 [L,v0+v3,6]]:=(by clear ec;omega);clear h0;simp only[bF];refine⟨a+1,hg,hm,bL (by simp),?_⟩;simp only[aP];clear hm hg;simp only[nn,Int.natCast_add,Int.cast_ofNat_Int,Int.natCast_one,gW,List.cons_append,List.nil_append,Bool.or_eq_true,aZ,ne_eq]at ec ⊢;(repeat' refine And.intro ?_ ?_)<;>first|with_reducible exact ec|with_reducible rfl|with_reducible trivial|exact Int.add_assoc _ _ _
 refine aM aIl ?_
 unfold lK at h0;unfold aAt;simp only[nn,gW,List.cons_append,List.nil_append,Bool.or_eq_true,aZ,ne_eq]at h0;rw[yI]at h0;have hp:=fP [v4,v5,G 82 [L,v0+v3,1],G 82 [L,v0+v3,2],G 82 [L,v0+v3,3],G 82 [L,v0+v3,4],G 82 [L,v0+v3,5],G 82 [L,v0+v3,6]];have hn:a=(cG [v4,v5,G 82 [L,v0+v3,1],G 82 [L,v0+v3,2],G 82 [L,v0+v3,3],G 82 [L,v0+v3,4],G 82 [L,v0+v3,5],G 82 [L,v0+v3,6]]).toNat:=(by omega);have ec:nZ C [v4,v5,G 82 [L,v0+v3,1],G 82 [L,v0+v3,2],G 82 [L,v0+v3,3],G 82 [L,v0+v3,4],G 82 [L,v0+v3,5],G 82 [L,v0+v3,6]] a=G 47 [v4,v5,G 82 [L,v0+v3,1],G 82 [L,v0+v3,2],G 82 [L,v0+v3,3],G 82 [L,v0+v3,4],G 82 [L,v0+v3,5],G 82 [L,v0+v3,6],C]:=(by rw[hn];exact aGn _ _ _ _ _ _ _ _ _);have el:v6+(a:Int)=v6+1*2 ^ (G 43 [v4,v5,G 82 [L,v0+v3,1],G 82 [L,v0+v3,2],G 82 [L,v0+v3,3],G 82 [L,v0+v3,4],G 82 [L,v0+v3,5],G 82 [L,v0+v3,6]]).toNat:=(by rw[yI];omega);clear h0 hp hn;simp only[bF];refine⟨rfl,bL (by simp),?_⟩;simp only[aP];simp only[nn,gW,List.cons_append,List.nil_append,Bool.or_eq_true,aZ,ne_eq]at ec el ⊢;(repeat' refine And.intro ?_ ?_)<;>first|with_reducible exact ec|with_reducible exact el|with_reducible rfl|with_reducible trivial
def dP (off n N L:Int) (i:Nat):Nat→Int:=eH ([off,n,N]++[(i:Int),G 51 [L,off,(i:Int)],G 52 [L,off,(i:Int)],G 57 [L,off,(i:Int)],G 50 [L,off,(i:Int)],L])
theorem aJF (off n N L:Int) (b0:0≤off∧off≤300) (b1:0≤n∧n≤256) (b2:0≤N∧N≤256) (i:Nat) (hi:(i:Int)≤n):∀ k q,aCN[k]?=some q→q.1≤dP off n N L i k∧dP off n N L i k≤q.2:=by
 unfold dP aCN
 exact cZ (xs:=[off,n,N,(i:Int),G 51 [L,off,(i:Int)],G 52 [L,off,(i:Int)],G 57 [L,off,(i:Int)]]) (ls:=[G 50 [L,off,(i:Int)],L]) (by exact⟨b0,b1,b2,by omega,aC3 [L,off,(i:Int)],aCU [L,off,(i:Int)],aDc [L,off,(i:Int)],trivial⟩)
set_option maxHeartbeats 1000000 in
set_option maxRecDepth 100000 in
theorem aK2 (off n N L:Int) (i:Nat):fT Try.prog G (bI GB) (cY (bZ Try.prog 16) 1) aKr (dP off n N L i):=by
 intro hw _
 have hb:dJ vY ([off,n,N,(i:Int),G 51 [L,off,(i:Int)],G 52 [L,off,(i:Int)],G 57 [L,off,(i:Int)]]++[G 82 [L,off+(i:Int),1],G 82 [L,off+(i:Int),2],G 82 [L,off+(i:Int),3],G 82 [L,off+(i:Int),4],G 82 [L,off+(i:Int),5],G 82 [L,off+(i:Int),6],0,G 57 [L,off,(i:Int)]]):=hw
 unfold vY at hb
 simp only[List.cons_append,List.nil_append]at hb
 obtain⟨b0,b1,b2,b3,b4,b5,b6,_⟩:=hb
 have e:eU G (dP off n N L i) aKr.es=gW off n N (i:Int) (G 51 [L,off,(i:Int)]) (G 52 [L,off,(i:Int)]) (G 57 [L,off,(i:Int)]) (G 50 [L,off,(i:Int)]) L 0:=by
  unfold dP
  rw[eA]
  unfold gW
  rw[Int.natCast_zero,Int.add_zero]
  rfl
 rw[e]
 have hp:=fP [G 51 [L,off,(i:Int)],G 52 [L,off,(i:Int)],G 82 [L,off+(i:Int),1],G 82 [L,off+(i:Int),2],G 82 [L,off+(i:Int),3],G 82 [L,off+(i:Int),4],G 82 [L,off+(i:Int),5],G 82 [L,off+(i:Int),6]]
 exact⟨(cG [G 51 [L,off,(i:Int)],G 52 [L,off,(i:Int)],G 82 [L,off+(i:Int),1],G 82 [L,off+(i:Int),2],G 82 [L,off+(i:Int),3],G 82 [L,off+(i:Int),4],G 82 [L,off+(i:Int),5],G 82 [L,off+(i:Int),6]]).toNat+1,dI (ι:=Nat) (ρ:=gW off n N (i:Int) (G 51 [L,off,(i:Int)]) (G 52 [L,off,(i:Int)]) (G 57 [L,off,(i:Int)]) (G 50 [L,off,(i:Int)]) L) (ρT:=dP off n N L i) (m:=fun a=>(cG [G 51 [L,off,(i:Int)],G 52 [L,off,(i:Int)],G 82 [L,off+(i:Int),1],G 82 [L,off+(i:Int),2],G 82 [L,off+(i:Int),3],G 82 [L,off+(i:Int),4],G 82 [L,off+(i:Int),5],G 82 [L,off+(i:Int),6]]).toNat-a) (Good:=fun a=>(a:Int)≤cG [G 51 [L,off,(i:Int)],G 52 [L,off,(i:Int)],G 82 [L,off+(i:Int),1],G 82 [L,off+(i:Int),2],G 82 [L,off+(i:Int),3],G 82 [L,off+(i:Int),4],G 82 [L,off+(i:Int),5],G 82 [L,off+(i:Int),6]]) (run:=tL Try.prog) (fun _=>rfl) fits rfl eL (fun a ha=>aJy off n N (i:Int) (G 51 [L,off,(i:Int)]) (G 52 [L,off,(i:Int)]) (G 57 [L,off,(i:Int)]) (G 50 [L,off,(i:Int)]) L b0 b1 b2 b3 b4 b5 b6 a ha) (fun _ _ X hX hG=>bQ hX hG) (fun _ _ X hX hG=>cH) (fun a ha=>aKL off n N (i:Int) (G 51 [L,off,(i:Int)]) (G 52 [L,off,(i:Int)]) (G 57 [L,off,(i:Int)]) (G 50 [L,off,(i:Int)]) L a ha) (by decide) _ 0 (by show ((0:Nat):Int)≤_;omega) (by show (cG [G 51 [L,off,(i:Int)],G 52 [L,off,(i:Int)],G 82 [L,off+(i:Int),1],G 82 [L,off+(i:Int),2],G 82 [L,off+(i:Int),3],G 82 [L,off+(i:Int),4],G 82 [L,off+(i:Int),5],G 82 [L,off+(i:Int),6]]).toNat-0<_;omega)⟩
set_option maxHeartbeats 4000000 in
set_option maxRecDepth 100000 in
theorem aKu (off n N L:Int) (p0:0≤off) (hn:0≤n∧n≤256) (hl:off+n≤N) (hN:N=((Lc.dec L).length:Int)) (i:Nat) (hi:(i:Int)≤n):Sx.zL (vK Try.prog) G (dP off n N L i) (bF G (dP off n N L) (eH ([off,n,N]++[L])) 3 (.lit true) (fun i=>(i:Int)≤n) (fun i=>n.toNat-i) i) []:=by
 refine aR iL (fun h0=>?_) (fun h0=>?_)
 rotate_left
 ·skip
  refine aM aGf ?_
  unfold iL at h0;unfold aAE;simp only[nn,dP,List.cons_append,List.nil_append,Bool.or_eq_true,aZ,ne_eq]at h0;have e:(i:Int)=n:=(by omega);clear h0;simp only[bF];refine⟨rfl,bL (by simp),?_⟩;simp only[aP];simp only[nn,dP,List.cons_append,List.nil_append,Bool.or_eq_true,aZ,ne_eq];rw[e];(repeat' refine And.intro ?_ ?_)<;>first|with_reducible rfl|with_reducible trivial
 refine aR mH (fun h1=>?_) (fun h1=>?_)
 rotate_left
 ·skip
  refine bS ?_
  unfold iL at h0;unfold mH at h1;simp only[nn,dP,List.cons_append,List.nil_append,Bool.or_eq_true,aZ,ne_eq]at h0 h1;omega
 refine aR mI (fun h2=>?_) (fun h2=>?_)
 ·skip
  refine aM aGR ?_
  unfold iL at h0;unfold mH at h1;unfold mI at h2;unfold aBf;simp only[nn,dP,List.cons_append,List.nil_append,Bool.or_eq_true,aZ,ne_eq]at h0 h1 h2;have q:=aBo (L:=L) (off:=off) (i:=(i:Int)) p0 (by omega) (by omega) (by first|exact h2|exact Classical.not_not.1 h2);have hm:n.toNat-(i+1)<n.toNat-i:=(by clear q h2;omega);have hg:((i+1:Nat):Int)≤n:=(by clear q h2;omega);clear h0 h1 h2;simp only[bF];refine⟨i+1,hg,hm,bL (by simp),?_⟩;simp only[aP];clear hm hg;simp only[nn,Int.natCast_add,Int.cast_ofNat_Int,Int.natCast_one,dP,List.cons_append,List.nil_append,Bool.or_eq_true,aZ,ne_eq];(repeat' refine And.intro ?_ ?_)<;>first|with_reducible exact q.1|with_reducible exact q.2.1|with_reducible exact q.2.2.1|with_reducible exact q.2.2.2|with_reducible rfl|with_reducible trivial
 refine aM aIw ?_
 unfold iL at h0;unfold mH at h1;unfold mI at h2;unfold aBh;simp only[nn,dP,List.cons_append,List.nil_append,Bool.or_eq_true,aZ,ne_eq]at h0 h1 h2;have q:=aFY (L:=L) (off:=off) (i:=(i:Int)) p0 (by omega) (by omega) (by first|exact h2|exact Classical.not_not.1 h2);have hm:n.toNat-(i+1)<n.toNat-i:=(by clear q h2;omega);have hg:((i+1:Nat):Int)≤n:=(by clear q h2;omega);clear h0 h1 h2;simp only[bF];refine⟨i+1,hg,hm,bL (by simp),?_⟩;simp only[aP];clear hm hg;simp only[nn,Int.natCast_add,Int.cast_ofNat_Int,Int.natCast_one,dP,List.cons_append,List.nil_append,Bool.or_eq_true,aZ,ne_eq];(repeat' refine And.intro ?_ ?_)<;>first|with_reducible exact q.1|with_reducible exact q.2.1|with_reducible exact q.2.2.1|with_reducible exact q.2.2.2|with_reducible rfl|with_reducible trivial
def xM:List (Int × Int):=[(0,300),(0,256),(0,256),(0,256)]
def qS:List (Int × Int):=[(0,300),(0,256),(0,256)]
def qJ:B:=(.cmp .le (.op .add (.var 0) (.var 1)) (.var 2))
def aLR:St:=⟨[(.vsl 0 7 (.var 0) (.var 1) none),(.func (.func 22) [] []),.any,.any,.any,.any,.any,(.int .i64 (.var 1)),(.int .i64 (.var 3)),.any,.any,.any,.any,.any,.any,.any,.any,.any,.any],[some ([.vec [.int .u8,.int .i32,.int .i32,.int .i32,.int .i32,.int .i32,.int .i32] (.var 4) (.var 2) true],aV)]⟩
def aKT:St:=⟨[.any,.any,.any,.any,(.int .i64 (.app 53 (.cons (.var 3) (.cons (.var 0) (.cons (.var 1) .nil))))),.any,.any,.any,.any,.any,.any,.any,.any,.any,.any,.any,.any,.any,.any],[some ([.vec [.int .u8,.int .i32,.int .i32,.int .i32,.int .i32,.int .i32,.int .i32] (.var 3) (.var 2) true],aV)]⟩
def aLd:St:=⟨[.any,.any,.any,.any,.any,.any,.any,.any,.any,.any,.any,.any,.any,.any,.any,.any,.any,.any,.any],[some ([.vec [.int .u8,.int .i32,.int .i32,.int .i32,.int .i32,.int .i32,.int .i32] (.var 3) (.var 2) true],aV)]⟩
def aHk:LoopS:=⟨3,1,aLR,(.cmp .le (.lit 0) (.app 53 (.cons (.var 3) (.cons (.var 0) (.cons (.var 1) .nil))))),.ret,aKT,.exit 0,aLd⟩
def aH7:LoopU:=⟨aHk,[(.var 0),(.var 1),(.var 2),(.lit 0),(.var 3)],xM,.lit true⟩
def qY (P:Program) (fs:List B):Res SV:=bU G GI xM fs fun X=>gL P X GB cW dE 4000 (cY (bZ P 21) 0) aHk
def aIh:eG:=iJ 2 (eZ (bI GB) [aH7]) dE
def aHe:FunS:=⟨[(.vsl 0 7 (.var 0) (.var 1) none),(.func (.func 22) [] [])],[some ([.vec [.int .u8,.int .i32,.int .i32,.int .i32,.int .i32,.int .i32,.int .i32] (.var 3) (.var 2) true],aV)],.lit true,(.int .i64 (.app 53 (.cons (.var 3) (.cons (.var 0) (.cons (.var 1) .nil))))),[some ([.vec [.int .u8,.int .i32,.int .i32,.int .i32,.int .i32,.int .i32,.int .i32] (.var 3) (.var 2) true],aV)],(.int .i64 (.app 53 (.cons (.var 3) (.cons (.var 0) (.cons (.var 1) .nil))))),[some ([.vec [.int .u8,.int .i32,.int .i32,.int .i32,.int .i32,.int .i32,.int .i32] (.var 3) (.var 2) true],aV)]⟩
def aDp (P:Program) (fs:List B):Res SV:=bU G GI qS fs fun X=>fH P X GB cW aIh 4000 21 aHe
def aLq:St:=⟨[(.vsl 0 7 (.var 0) (.var 1) none),(.func (.func 15) [] []),.any,.any,.any,.any,.any,(.int .i64 (.var 1)),(.int .i64 (.var 3)),.any,.any,.any,.any,.any,.any,.any,.any,.any,.any],[some ([.vec [.int .u8,.int .i32,.int .i32,.int .i32,.int .i32,.int .i32,.int .i32] (.var 4) (.var 2) true],aV)]⟩
def aKP:St:=⟨[.any,.any,.any,.any,(.int .i64 (.app 56 (.cons (.var 3) (.cons (.var 0) (.cons (.var 1) .nil))))),.any,.any,.any,.any,.any,.any,.any,.any,.any,.any,.any,.any,.any,.any],[some ([.vec [.int .u8,.int .i32,.int .i32,.int .i32,.int .i32,.int .i32,.int .i32] (.var 3) (.var 2) true],aV)]⟩
def aLe:St:=⟨[.any,.any,.any,.any,.any,.any,.any,.any,.any,.any,.any,.any,.any,.any,.any,.any,.any,.any,.any],[some ([.vec [.int .u8,.int .i32,.int .i32,.int .i32,.int .i32,.int .i32,.int .i32] (.var 3) (.var 2) true],aV)]⟩
def aIv:LoopS:=⟨3,1,aLq,(.cmp .le (.lit 0) (.app 56 (.cons (.var 3) (.cons (.var 0) (.cons (.var 1) .nil))))),.ret,aKP,.exit 0,aLe⟩
def aH3:LoopU:=⟨aIv,[(.var 0),(.var 1),(.var 2),(.lit 0),(.var 3)],xM,.lit true⟩
def qX (P:Program) (fs:List B):Res SV:=bU G GI xM fs fun X=>gL P X GB cW dE 4000 (cY (bZ P 21) 0) aIv
def aIk:eG:=iJ 2 (eZ (bI GB) [aH3]) dE
def aIa:FunS:=⟨[(.vsl 0 7 (.var 0) (.var 1) none),(.func (.func 15) [] [])],[some ([.vec [.int .u8,.int .i32,.int .i32,.int .i32,.int .i32,.int .i32,.int .i32] (.var 3) (.var 2) true],aV)],.lit true,(.int .i64 (.app 56 (.cons (.var 3) (.cons (.var 0) (.cons (.var 1) .nil))))),[some ([.vec [.int .u8,.int .i32,.int .i32,.int .i32,.int .i32,.int .i32,.int .i32] (.var 3) (.var 2) true],aV)],(.int .i64 (.app 56 (.cons (.var 3) (.cons (.var 0) (.cons (.var 1) .nil))))),[some ([.vec [.int .u8,.int .i32,.int .i32,.int .i32,.int .i32,.int .i32,.int .i32] (.var 3) (.var 2) true],aV)]⟩
def aCV (P:Program) (fs:List B):Res SV:=bU G GI qS fs fun X=>fH P X GB cW aIk 4000 21 aIa
end Go.Proofs.Ythiehfhphgkaeaa
