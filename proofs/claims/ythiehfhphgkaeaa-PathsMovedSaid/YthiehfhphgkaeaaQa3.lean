/- What is proved: a path's rows,a line's dots so far,where a sub-path ends,in plain Lean. No condition but those that are stated. -/
import Derived.Test.YthiehfhphgkaeaaQg6
import Derived.Test.YthiehfhphgkaeaaQg4
import Derived.Test.YthiehfhphgkaeaaQa2
import Derived.Test.YthiehfhphgkaeaaProg
import Derived.Test.YthiehfhphgkaeaaQa1
set_option linter.unusedSimpArgs false
set_option linter.unusedVariables false
namespace Go.Proofs.Ythiehfhphgkaeaa
open Go Go.RowKit Sx Wi
theorem bW {L off n:Int} (h0:0≤off) (hn:0≤n∧n≤300) (hl:off+n≤((Lc.dec L).length:Int)):(aF L off n).length=n.toNat:=by
 unfold aF;rw[List.length_take,List.length_drop];omega
theorem uT {L off n i:Int} (h0:0≤off) (hn:n≤300) (hi:0≤i∧i<n):(aF L off n).getD i.toNat []=(Lc.dec L).getD (off+i).toNat []:=by
 unfold aF
 rw[List.getD_eq_getElem?_getD,List.getD_eq_getElem?_getD,List.getElem?_take,if_pos (by omega),List.getElem?_drop]
 congr 2;omega
theorem iU {L off i:Int} (h0:0≤off) (hi:0≤i∧i<300) (hl:off+i<((Lc.dec L).length:Int)):aF L off (i+1)=aF L off i++[(Lc.dec L).getD (off+i).toNat []]:=by
 unfold aF
 rw[show min (i+1).toNat 300=i.toNat+1 by omega,show min i.toNat 300=i.toNat by omega]
 have hlt:i.toNat<((Lc.dec L).drop off.toNat).length:=by rw[List.length_drop];omega
 rw[List.take_add_one,List.getElem?_eq_getElem hlt]
 simp only[Option.toList]
 congr 2
 rw[List.getElem_drop,List.getD_eq_getElem?_getD,List.getElem?_eq_getElem (by omega)]
 simp only[Option.getD_some]
 congr 1;omega
theorem aM8 (k:IntKind):Lc.kNo k<8:=by cases k<;>decide
theorem mQ (k:IntKind) (L i j:Int):G (80+Lc.kNo k) [L,i,j]=k.wrap (((Lc.dec L).getD i.toNat []).getD j.toNat 0):=by
 have h8:=aM8 k
 rw[hZ _ _ (by omega) (by omega),Lc.fn_rd]
 rfl
theorem aDK {L off i:Int} (h0:0≤off) (hi:0≤i∧i<300) (hl:off+i<((Lc.dec L).length:Int)) (hk:sk ((Lc.dec L).getD (off+i).toNat [])=2):
  let r:=(Lc.dec L).getD (off+i).toNat []
  G 47 [G 51 [L,off,i],G 52 [L,off,i],sp r 0,sp r 1,sp r 2,sp r 3,sp r 4,sp r 5,G 50 [L,off,i]]=G 50 [L,off,i+1]∧sp r 4=G 51 [L,off,i+1]∧sp r 5=G 52 [L,off,i+1]:=by
 intro r
 have e:bR (aF L off (i+1))=dL (bR (aF L off i)) r:=by
  rw[iU h0 hi hl];unfold bR;rw[List.foldl_append];rfl
 have e2:dL (bR (aF L off i)) r=((bR (aF L off i)).1++jE [(bR (aF L off i)).2.1,(bR (aF L off i)).2.2,sp r 0,sp r 1,sp r 2,sp r 3,sp r 4,sp r 5] (cK [(bR (aF L off i)).2.1,(bR (aF L off i)).2.2,sp r 0,sp r 1,sp r 2,sp r 3,sp r 4,sp r 5]).toNat,sp r 4,sp r 5):=by
  unfold dL;rw[if_pos hk]
 refine⟨?_,?_,?_⟩
 ·show Lc.enc (Lc.dec (Lc.enc (bR (aF L off i)).1)++_)=Lc.enc (bR (aF L off (i+1))).1
  rw[e,e2,Lc.dec_enc]
  rfl
 ·show _=(bR (aF L off (i+1))).2.1
  rw[e,e2]
 ·show _=(bR (aF L off (i+1))).2.2
  rw[e,e2]
theorem aJ4 {L off i:Int} (h0:0≤off) (hi:0≤i∧i<300) (hl:off+i<((Lc.dec L).length:Int)) (hk:¬sk ((Lc.dec L).getD (off+i).toNat [])=2):
  let r:=(Lc.dec L).getD (off+i).toNat []
  G 91 [G 50 [L,off,i],G 2 [sp r 0,1*256],G 2 [sp r 1,1*256]]=G 50 [L,off,i+1]∧sp r 0=G 51 [L,off,i+1]∧sp r 1=G 52 [L,off,i+1]:=by
 intro r
 have e:bR (aF L off (i+1))=dL (bR (aF L off i)) r:=by
  rw[iU h0 hi hl];unfold bR;rw[List.foldl_append];rfl
 have e2:dL (bR (aF L off i)) r=((bR (aF L off i)).1++[[Fx.near (sp r 0) (1*256),Fx.near (sp r 1) (1*256)]],sp r 0,sp r 1):=by
  unfold dL;rw[if_neg hk]
 refine⟨?_,?_,?_⟩
 ·show G 91 [Lc.enc (bR (aF L off i)).1,_,_]=Lc.enc (bR (aF L off (i+1))).1
  rw[e,e2]
  exact iP hZ _ _
 ·show _=(bR (aF L off (i+1))).2.1
  rw[e,e2]
 ·show _=(bR (aF L off (i+1))).2.2
  rw[e,e2]
theorem pW (xs:List Int) (m:Nat):(jE xs m).length=m:=by unfold jE;rw[List.length_map,List.length_range]
theorem aA1 (L off i:Int) (hi:0≤i):(bR (aF L off i)).1.length≤64*i.toNat:=by
 have:∀ (rows:List (List Int)) (t:List (List Int) × Int × Int),(rows.foldl dL t).1.length≤t.1.length+64*rows.length:=by
  intro rows
  induction rows with
  |nil=>intro t;exact Nat.le_refl _
  |cons r rs ih=>
   intro t
   have h1:=ih (dL t r)
   have h2:(dL t r).1.length≤t.1.length+64:=by
    unfold dL
    split
    ·have:=fH [t.2.1,t.2.2,sp r 0,sp r 1,sp r 2,sp r 3,sp r 4,sp r 5]
     simp only[List.length_append,pW];omega
    ·simp only[List.length_append,List.length_cons,List.length_nil];omega
   simp only[List.foldl_cons,List.length_cons]
   omega
 have h:=this (aF L off i) ([],0,0)
 have hl:(aF L off i).length≤i.toNat:=by unfold aF;rw[List.length_take];omega
 have e:(bR (aF L off i)).1.length≤0+64*(aF L off i).length:=h
 omega
theorem pZ:∀ l:List (List Int),cC l≤l.length
 |[]=>Nat.le_refl _
 |r::rs=>by unfold cC;split<;>simp only[List.length_cons]<;>have:=pZ rs<;>omega
theorem aEt:∀ {l:List (List Int)} {i:Nat},i<cC l→¬(sk (l.getD i [])=0∨sk (l.getD i [])=3)
 |[],i,h=>by simp [cC]at h
 |r::rs,0,h=>by
  unfold cC at h
  split at h
  ·omega
  ·assumption
 |r::rs,i+1,h=>by
  unfold cC at h
  split at h
  ·omega
  ·have:=aEt (l:=rs) (i:=i) (by omega)
   simpa using this
theorem aEn:∀ {l:List (List Int)},cC l<l.length→(sk (l.getD (cC l) [])=0∨sk (l.getD (cC l) [])=3)
 |[],h=>by simp [cC]at h
 |r::rs,h=>by
  by_cases hr:sk r=0∨sk r=3
  ·have e:cC (r::rs)=0:=by unfold cC;rw[if_pos hr]
   rw[e];simpa using hr
  ·have e:cC (r::rs)=cC rs+1:=by rw[cC,if_neg hr]
   rw[e]at h ⊢
   have:=aEn (l:=rs) (by simp only[List.length_cons]at h;omega)
   simpa using this
theorem aED:∀ l:List (List Int),eR l≤l.length
 |[]=>Nat.le_refl _
 |r::rs=>by unfold eR;split<;>simp only[List.length_cons]<;>have:=aED rs<;>omega
theorem aEu:∀ {l:List (List Int)} {i:Nat},i<eR l→¬3<sk (l.getD i [])
 |[],i,h=>by simp [eR]at h
 |r::rs,0,h=>by
  unfold eR at h
  split at h
  ·omega
  ·assumption
 |r::rs,i+1,h=>by
  unfold eR at h
  split at h
  ·omega
  ·have:=aEu (l:=rs) (i:=i) (by omega)
   simpa using this
theorem aEY:∀ {l:List (List Int)},eR l<l.length→3<sk (l.getD (eR l) [])
 |[],h=>by simp [eR]at h
 |r::rs,h=>by
  by_cases hr:3<sk r
  ·have e:eR (r::rs)=0:=by unfold eR;rw[if_pos hr]
   rw[e];simpa using hr
  ·have e:eR (r::rs)=eR rs+1:=by rw[eR,if_neg hr]
   rw[e]at h ⊢
   have:=aEY (l:=rs) (by simp only[List.length_cons]at h;omega)
   simpa using this
theorem uF {L off n i:Int} (h0:0≤off) (hn:n≤256) (hi:0≤i∧i<n):G 84 [L,off+i,0]=sk ((aF L off n).getD i.toNat []):=by
 rw[uT h0 (by omega) hi]
 exact mQ .u8 L (off+i) 0
theorem yV {L off n:Int} {i:Nat} (h0:0≤off) (hn:0≤n∧n≤256) (hl:off+n≤((Lc.dec L).length:Int)) (hi:(i:Int)<n) (hg:i≤cC (aF L off n)) (hk:G 84 [L,off+(i:Int),0]=0∨G 84 [L,off+(i:Int),0]=3):(i:Int)=G 53 [L,off,n]∧0≤G 53 [L,off,n]:=by
 rw[uF h0 hn.2 ⟨by omega,hi⟩,Int.toNat_natCast]at hk
 have hlen:=bW h0 ⟨hn.1,by omega⟩ hl
 have e:cC (aF L off n)=i:=by
  rcases Nat.lt_or_ge i (cC (aF L off n))with q|q
  ·exact absurd hk (aEt q)
  ·omega
 have e2:G 53 [L,off,n]=idx (cC (aF L off n)) (aF L off n):=rfl
 rw[e2,e]
 unfold idx
 rw[if_pos (by omega)]
 omega
theorem aJs {L off n:Int} {i:Nat} (h0:0≤off) (hn:0≤n∧n≤256) (hl:off+n≤((Lc.dec L).length:Int)) (hi:(i:Int)<n) (hg:i≤cC (aF L off n)) (hk:¬G 84 [L,off+(i:Int),0]=0) (hk3:¬G 84 [L,off+(i:Int),0]=3):i+1≤cC (aF L off n):=by
 rw[uF h0 hn.2 ⟨by omega,hi⟩,Int.toNat_natCast]at hk hk3
 have hlen:=bW h0 ⟨hn.1,by omega⟩ hl
 rcases Nat.lt_or_ge i (cC (aF L off n))with q|q
 ·exact q
 ·have e:cC (aF L off n)=i:=by omega
  have:=aEn (l:=aF L off n) (by omega)
  rw[e]at this
  rcases this with q|q
  ·exact absurd q hk
  ·exact absurd q hk3
theorem aLI {L off n:Int} {i:Nat} (h0:0≤off) (hn:0≤n∧n≤256) (hl:off+n≤((Lc.dec L).length:Int)) (hi:¬(i:Int)<n) (hg:i≤cC (aF L off n)):G 53 [L,off,n] = -1:=by
 have hlen:=bW h0 ⟨hn.1,by omega⟩ hl
 show idx (cC (aF L off n)) (aF L off n) = -1
 unfold idx
 rw[if_neg (by omega)]
theorem aG5 {L off n:Int} {i:Nat} (h0:0≤off) (hn:0≤n∧n≤256) (hl:off+n≤((Lc.dec L).length:Int)) (hi:(i:Int)<n) (hg:i≤eR (aF L off n)) (hk:3<G 84 [L,off+(i:Int),0]):(i:Int)=G 56 [L,off,n]∧0≤G 56 [L,off,n]:=by
 rw[uF h0 hn.2 ⟨by omega,hi⟩,Int.toNat_natCast]at hk
 have hlen:=bW h0 ⟨hn.1,by omega⟩ hl
 have e:eR (aF L off n)=i:=by
  rcases Nat.lt_or_ge i (eR (aF L off n))with q|q
  ·exact absurd hk (aEu q)
  ·omega
 have e2:G 56 [L,off,n]=idx (eR (aF L off n)) (aF L off n):=rfl
 rw[e2,e]
 unfold idx
 rw[if_pos (by omega)]
 omega
theorem aIM {L off n:Int} {i:Nat} (h0:0≤off) (hn:0≤n∧n≤256) (hl:off+n≤((Lc.dec L).length:Int)) (hi:(i:Int)<n) (hg:i≤eR (aF L off n)) (hk:¬3<G 84 [L,off+(i:Int),0]):i+1≤eR (aF L off n):=by
 rw[uF h0 hn.2 ⟨by omega,hi⟩,Int.toNat_natCast]at hk
 have hlen:=bW h0 ⟨hn.1,by omega⟩ hl
 rcases Nat.lt_or_ge i (eR (aF L off n))with q|q
 ·exact q
 ·have e:eR (aF L off n)=i:=by omega
  have:=aEY (l:=aF L off n) (by omega)
  rw[e]at this
  exact absurd this hk
theorem aLm {L off n:Int} {i:Nat} (h0:0≤off) (hn:0≤n∧n≤256) (hl:off+n≤((Lc.dec L).length:Int)) (hi:¬(i:Int)<n) (hg:i≤eR (aF L off n)):G 56 [L,off,n] = -1:=by
 have hlen:=bW h0 ⟨hn.1,by omega⟩ hl
 show idx (eR (aF L off n)) (aF L off n) = -1
 unfold idx
 rw[if_neg (by omega)]
theorem gP {p:Int × Int} {l:List (Int × Int)} {xs:List Int} (h:dQ (p::l) xs):∃ x ys,xs=x::ys∧(p.1≤x∧x≤p.2)∧dQ l ys:=by
 cases xs with
 |nil=>exact h.elim
 |cons x ys=>exact⟨x,ys,rfl,h.1,h.2⟩
theorem vI {xs:List Int} (h:dQ [] xs):xs=[]:=by
 cases xs with
 |nil=>rfl
 |cons x ys=>exact h.elim
theorem wC {xs:List Int} (h:xs.length=1):∃ a,xs=[a]:=by
 match xs,h with
 |[a],_=>exact⟨a,rfl⟩
theorem mI {P:Program} {gb:dD} {f:FuncId} {F:FunS} {ρ:Nat→Int} (id:Nat) {sh:List CK} {C n:E} {ex:Bool} {T:TypeId} (hH:F.H[id]?=some (some ([.vec sh C n ex],T))) (h:n.den G ρ=((Lc.dec (C.den G ρ)).length:Int)→eT P G gb f F ρ):eT P G gb f F ρ:=by
 intro α w vals hW hv
 refine h ?_ α w vals hW hv
 obtain⟨b,vs,h1,h2,h3⟩:=hW.blk id _ _ hH
 simp only[SV.RL,SV.R]at h3
 obtain⟨v,vs',e1,⟨_,e3⟩,_⟩:=h3
 exact e3.symm
theorem aEh {L off i:Int} (hi:0≤i∧i≤300):G 57 [L,off,i]=((bR (aF L off i)).1.length:Int):=by
 have h:=aA1 L off i hi.1
 show min _ (19200:Int)=_
 omega
theorem aB6 {L off i:Int} (h0:0≤off) (hi:0≤i∧i<300) (hl:off+i<((Lc.dec L).length:Int)) (hk:G 84 [L,off+i,0]=2):
  G 47 [G 51 [L,off,i],G 52 [L,off,i],G 82 [L,off+i,1],G 82 [L,off+i,2],G 82 [L,off+i,3],G 82 [L,off+i,4],G 82 [L,off+i,5],G 82 [L,off+i,6],G 50 [L,off,i]]=G 50 [L,off,i+1]∧G 82 [L,off+i,5]=G 51 [L,off,i+1]∧G 82 [L,off+i,6]=G 52 [L,off,i+1]∧
   G 57 [L,off,i]+1*2 ^ (G 43 [G 51 [L,off,i],G 52 [L,off,i],G 82 [L,off+i,1],G 82 [L,off+i,2],G 82 [L,off+i,3],G 82 [L,off+i,4],G 82 [L,off+i,5],G 82 [L,off+i,6]]).toNat=G 57 [L,off,i+1]:=by
 have e0:G 84 [L,off+i,0]=sk ((Lc.dec L).getD (off+i).toNat []):=mQ .u8 L (off+i) 0
 rw[e0]at hk
 have q:=aDK h0 hi hl hk
 have e:bR (aF L off (i+1))=dL (bR (aF L off i)) ((Lc.dec L).getD (off+i).toNat []):=by
  rw[iU h0 hi hl];unfold bR;rw[List.foldl_append];rfl
 have a1:G 82 [L,off+i,1]=sp ((Lc.dec L).getD (off+i).toNat []) 0:=mQ .i32 L (off+i) 1
 have a2:G 82 [L,off+i,2]=sp ((Lc.dec L).getD (off+i).toNat []) 1:=mQ .i32 L (off+i) 2
 have a3:G 82 [L,off+i,3]=sp ((Lc.dec L).getD (off+i).toNat []) 2:=mQ .i32 L (off+i) 3
 have a4:G 82 [L,off+i,4]=sp ((Lc.dec L).getD (off+i).toNat []) 3:=mQ .i32 L (off+i) 4
 have a5:G 82 [L,off+i,5]=sp ((Lc.dec L).getD (off+i).toNat []) 4:=mQ .i32 L (off+i) 5
 have a6:G 82 [L,off+i,6]=sp ((Lc.dec L).getD (off+i).toNat []) 5:=mQ .i32 L (off+i) 6
 rw[a1,a2,a3,a4,a5,a6]
 refine⟨q.1,q.2.1,q.2.2,?_⟩
 have f1:G 51 [L,off,i]=(bR (aF L off i)).2.1:=rfl
 have f2:G 52 [L,off,i]=(bR (aF L off i)).2.2:=rfl
 rw[aEh ⟨hi.1,by omega⟩,aEh ⟨by omega,by omega⟩,e,f1,f2]
 generalize bR (aF L off i)=t
 generalize (Lc.dec L).getD (off+i).toNat []=r at hk ⊢
 unfold dL
 rw[if_pos hk]
 simp only[List.length_append,pW]
 have hp:=fH [t.2.1,t.2.2,sp r 0,sp r 1,sp r 2,sp r 3,sp r 4,sp r 5]
 have hq:1*2 ^ (G 43 [t.2.1,t.2.2,sp r 0,sp r 1,sp r 2,sp r 3,sp r 4,sp r 5]).toNat=cK [t.2.1,t.2.2,sp r 0,sp r 1,sp r 2,sp r 3,sp r 4,sp r 5]:=rfl
 rw[hq]
 omega
theorem aHp {L off i:Int} (h0:0≤off) (hi:0≤i∧i<300) (hl:off+i<((Lc.dec L).length:Int)) (hk:¬G 84 [L,off+i,0]=2):
  G 91 [G 50 [L,off,i],G 2 [G 82 [L,off+i,1],1*256],G 2 [G 82 [L,off+i,2],1*256]]=G 50 [L,off,i+1]∧G 82 [L,off+i,1]=G 51 [L,off,i+1]∧G 82 [L,off+i,2]=G 52 [L,off,i+1]∧G 57 [L,off,i]+1=G 57 [L,off,i+1]:=by
 have e0:G 84 [L,off+i,0]=sk ((Lc.dec L).getD (off+i).toNat []):=mQ .u8 L (off+i) 0
 rw[e0]at hk
 have q:=aJ4 h0 hi hl hk
 have e:bR (aF L off (i+1))=dL (bR (aF L off i)) ((Lc.dec L).getD (off+i).toNat []):=by
  rw[iU h0 hi hl];unfold bR;rw[List.foldl_append];rfl
 have a1:G 82 [L,off+i,1]=sp ((Lc.dec L).getD (off+i).toNat []) 0:=mQ .i32 L (off+i) 1
 have a2:G 82 [L,off+i,2]=sp ((Lc.dec L).getD (off+i).toNat []) 1:=mQ .i32 L (off+i) 2
 rw[a1,a2]
 refine⟨q.1,q.2.1,q.2.2,?_⟩
 rw[aEh ⟨hi.1,by omega⟩,aEh ⟨by omega,by omega⟩,e]
 unfold dL
 rw[if_neg hk]
 simp only[List.length_append,List.length_cons,List.length_nil]
 omega
theorem aC9 (xs:List Int) (a:Nat):jE xs (a+1)=jE xs a++[mX xs (cK xs) ((a:Int)+1)]:=by
 unfold jE;rw[List.range_succ,List.map_append];rfl
def pT (C:Int) (xs:List Int) (a:Nat):Int:=if a=0 then C else Lc.enc (Lc.dec C++jE xs a)
theorem aH8 (C:Int) (xs:List Int) (a:Nat):Lc.dec (pT C xs a)=Lc.dec C++jE xs a:=by
 unfold pT
 split
 ·rename_i h;subst h;unfold jE;simp
 ·rw[Lc.dec_enc]
theorem aHJ (C:Int) (xs:List Int) (a:Nat):G 91 (pT C xs a::mX xs (cK xs) ((a:Int)+1))=pT C xs (a+1):=by
 have e:G 91 (pT C xs a::mX xs (cK xs) ((a:Int)+1))=Lc.enc (Lc.dec (pT C xs a)++[mX xs (cK xs) ((a:Int)+1)]):=hZ 91 _ (by decide) (by decide)
 rw[e,aH8]
 have e2:pT C xs (a+1)=Lc.enc (Lc.dec C++jE xs (a+1)):=by unfold pT;rw[if_neg (by omega)]
 rw[e2,aC9,List.append_assoc]
theorem aKm (C a b c d e f g h:Int):pT C [a,b,c,d,e,f,g,h] (cK [a,b,c,d,e,f,g,h]).toNat=G 47 [a,b,c,d,e,f,g,h,C]:=by
 have hp:=fH [a,b,c,d,e,f,g,h]
 unfold pT
 rw[if_neg (by omega)]
 rfl
def zO:List (Int × Int):=[(0,300),(0,256),(0,256),(0,256),((-2147483648),2147483647),((-2147483648),2147483647),(0,19200),((-2147483648),2147483647),((-2147483648),2147483647),((-2147483648),2147483647),((-2147483648),2147483647),((-2147483648),2147483647),((-2147483648),2147483647),(0,64),(0,19264)]
def aEv:List (Int × Int):=[(0,300),(0,256),(0,256),(0,256),((-2147483648),2147483647),((-2147483648),2147483647),(0,19200)]
def aDA:List (Int × Int):=[(0,300),(0,256),(0,256)]
def aAU:B:=(.cmp .le (.op .add (.var 0) (.var 1)) (.var 2))
def aOI:St:=⟨[(.vsl 0 7 (.var 0) (.var 1) none),.any,(.own 13 (.var 14) none),(.ptr 1 0),.any,.any,(.ptr 12 0),(.int .i64 (.op .shl (.lit 1) (.app 43 (.cons (.var 4) (.cons (.var 5) (.cons (.var 7) (.cons (.var 8) (.cons (.var 9) (.cons (.var 10) (.cons (.var 11) (.cons (.var 12) .nil))))))))))),.any,(.vsl 0 7 (.var 0) (.var 1) none),(.int .i64 (.var 1)),(.int .i64 (.var 3)),.any,.any,.any,.any,.any,.any,.any,.any,.any,.any,.any,.any,.any,.any,.any,.any,.any,(.int .i64 (.op .shl (.lit 1) (.app 43 (.cons (.var 4) (.cons (.var 5) (.cons (.var 7) (.cons (.var 8) (.cons (.var 9) (.cons (.var 10) (.cons (.var 11) (.cons (.var 12) .nil))))))))))),(.int .i64 (.var 13)),.any,.any,.any,.any,.any,.any,.any,.any,.any,.any,.any,.any,.any,.any,.any,.any,.any,.any,.any,.any,.any,.any,.any],[some ([.vec [.int .u8,.int .i32,.int .i32,.int .i32,.int .i32,.int .i32,.int .i32] (.var 16) (.var 2) true],bA),some ([(.int .i64 (.var 4)),(.int .i64 (.var 5))],57),none,none,none,none,none,none,none,none,none,none,some ([(.int .i64 (.var 4)),(.int .i64 (.var 5)),(.int .i64 (.var 7)),(.int .i64 (.var 8)),(.int .i64 (.var 9)),(.int .i64 (.var 10)),(.int .i64 (.var 11)),(.int .i64 (.var 12))],60),kA [.int .i64,.int .i64] (.var 15) (.var 14) 32]⟩
def aNX:St:=⟨[(.vsl 0 7 (.var 0) (.var 1) none),.any,(.own 13 (.op .add (.var 6) (.op .shl (.lit 1) (.app 43 (.cons (.var 4) (.cons (.var 5) (.cons (.app 82 (.cons (.var 8) (.cons (.op .add (.var 0) (.var 3)) (.cons (.lit 1) .nil)))) (.cons (.app 82 (.cons (.var 8) (.cons (.op .add (.var 0) (.var 3)) (.cons (.lit 2) .nil)))) (.cons (.app 82 (.cons (.var 8) (.cons (.op .add (.var 0) (.var 3)) (.cons (.lit 3) .nil)))) (.cons (.app 82 (.cons (.var 8) (.cons (.op .add (.var 0) (.var 3)) (.cons (.lit 4) .nil)))) (.cons (.app 82 (.cons (.var 8) (.cons (.op .add (.var 0) (.var 3)) (.cons (.lit 5) .nil)))) (.cons (.app 82 (.cons (.var 8) (.cons (.op .add (.var 0) (.var 3)) (.cons (.lit 6) .nil)))) .nil))))))))))) none),(.ptr 1 0),.any,.any,(.ptr 12 0),.any,.any,(.vsl 0 7 (.var 0) (.var 1) none),(.int .i64 (.var 1)),(.int .i64 (.var 3)),.any,.any,.any,.any,.any,.any,.any,.any,.any,.any,.any,.any,.any,.any,.any,.any,.any,.any,.any,.any,.any,.any,.any,.any,.any,.any,.any,.any,.any,.any,.any,.any,.any,.any,.any,.any,.any,.any,.any,.any,.any,.any],[some ([.vec [.int .u8,.int .i32,.int .i32,.int .i32,.int .i32,.int .i32,.int .i32] (.var 8) (.var 2) true],bA),some ([(.int .i64 (.var 4)),(.int .i64 (.var 5))],57),none,none,none,none,none,none,none,none,none,none,some ([(.int .i64 (.var 4)),(.int .i64 (.var 5)),(.int .i64 (.app 82 (.cons (.var 8) (.cons (.op .add (.var 0) (.var 3)) (.cons (.lit 1) .nil))))),(.int .i64 (.app 82 (.cons (.var 8) (.cons (.op .add (.var 0) (.var 3)) (.cons (.lit 2) .nil))))),(.int .i64 (.app 82 (.cons (.var 8) (.cons (.op .add (.var 0) (.var 3)) (.cons (.lit 3) .nil))))),(.int .i64 (.app 82 (.cons (.var 8) (.cons (.op .add (.var 0) (.var 3)) (.cons (.lit 4) .nil))))),(.int .i64 (.app 82 (.cons (.var 8) (.cons (.op .add (.var 0) (.var 3)) (.cons (.lit 5) .nil))))),(.int .i64 (.app 82 (.cons (.var 8) (.cons (.op .add (.var 0) (.var 3)) (.cons (.lit 6) .nil)))))],60),kA [.int .i64,.int .i64] (.app 47 (.cons (.var 4) (.cons (.var 5) (.cons (.app 82 (.cons (.var 8) (.cons (.op .add (.var 0) (.var 3)) (.cons (.lit 1) .nil)))) (.cons (.app 82 (.cons (.var 8) (.cons (.op .add (.var 0) (.var 3)) (.cons (.lit 2) .nil)))) (.cons (.app 82 (.cons (.var 8) (.cons (.op .add (.var 0) (.var 3)) (.cons (.lit 3) .nil)))) (.cons (.app 82 (.cons (.var 8) (.cons (.op .add (.var 0) (.var 3)) (.cons (.lit 4) .nil)))) (.cons (.app 82 (.cons (.var 8) (.cons (.op .add (.var 0) (.var 3)) (.cons (.lit 5) .nil)))) (.cons (.app 82 (.cons (.var 8) (.cons (.op .add (.var 0) (.var 3)) (.cons (.lit 6) .nil)))) (.cons (.var 7) .nil)))))))))) (.op .add (.var 6) (.op .shl (.lit 1) (.app 43 (.cons (.var 4) (.cons (.var 5) (.cons (.app 82 (.cons (.var 8) (.cons (.op .add (.var 0) (.var 3)) (.cons (.lit 1) .nil)))) (.cons (.app 82 (.cons (.var 8) (.cons (.op .add (.var 0) (.var 3)) (.cons (.lit 2) .nil)))) (.cons (.app 82 (.cons (.var 8) (.cons (.op .add (.var 0) (.var 3)) (.cons (.lit 3) .nil)))) (.cons (.app 82 (.cons (.var 8) (.cons (.op .add (.var 0) (.var 3)) (.cons (.lit 4) .nil)))) (.cons (.app 82 (.cons (.var 8) (.cons (.op .add (.var 0) (.var 3)) (.cons (.lit 5) .nil)))) (.cons (.app 82 (.cons (.var 8) (.cons (.op .add (.var 0) (.var 3)) (.cons (.lit 6) .nil)))) .nil))))))))))) 32]⟩
def aOb:LoopS:=⟨7,13,aOI,.lit true,.exit 2,aNX,.exit 2,aNX⟩
def aNG:LoopU:=⟨aOb,[(.var 0),(.var 1),(.var 2),(.var 3),(.var 4),(.var 5),(.var 6),(.app 82 (.cons (.var 8) (.cons (.op .add (.var 0) (.var 3)) (.cons (.lit 1) .nil)))),(.app 82 (.cons (.var 8) (.cons (.op .add (.var 0) (.var 3)) (.cons (.lit 2) .nil)))),(.app 82 (.cons (.var 8) (.cons (.op .add (.var 0) (.var 3)) (.cons (.lit 3) .nil)))),(.app 82 (.cons (.var 8) (.cons (.op .add (.var 0) (.var 3)) (.cons (.lit 4) .nil)))),(.app 82 (.cons (.var 8) (.cons (.op .add (.var 0) (.var 3)) (.cons (.lit 5) .nil)))),(.app 82 (.cons (.var 8) (.cons (.op .add (.var 0) (.var 3)) (.cons (.lit 6) .nil)))),(.lit 0),(.var 6),(.var 7),(.var 8)],zO,.lit true⟩
def wV (P:Program) (fs:List B):Res SV:=bY G GI zO fs fun X=>gX P X GB dE dP 4000 (cF (bQ P 16) 1) aOb
def aOV:St:=⟨[(.vsl 0 7 (.var 0) (.var 1) none),.any,(.own 2 (.var 6) none),(.ptr 1 0),.any,.any,.any,.any,.any,(.vsl 0 7 (.var 0) (.var 1) none),(.int .i64 (.var 1)),(.int .i64 (.var 3)),.any,.any,.any,.any,.any,.any,.any,.any,.any,.any,.any,.any,.any,.any,.any,.any,.any,.any,.any,.any,.any,.any,.any,.any,.any,.any,.any,.any,.any,.any,.any,.any,.any,.any,.any,.any,.any,.any,.any,.any,.any,.any],[some ([.vec [.int .u8,.int .i32,.int .i32,.int .i32,.int .i32,.int .i32,.int .i32] (.var 8) (.var 2) true],bA),some ([(.int .i64 (.var 4)),(.int .i64 (.var 5))],57),kA [.int .i64,.int .i64] (.var 7) (.var 6) 32]⟩
def aOa:St:=⟨[.any,.any,(.own 2 (.app 57 (.cons (.var 3) (.cons (.var 0) (.cons (.var 1) .nil)))) none),.any,.any,.any,.any,.any,.any,.any,.any,.any,.any,.any,.any,.any,.any,.any,.any,.any,.any,.any,.any,.any,.any,.any,.any,.any,.any,.any,.any,.any,.any,.any,.any,.any,.any,.any,.any,.any,.any,.any,.any,.any,.any,.any,.any,.any,.any,.any,.any,.any,.any,.any],[some ([.vec [.int .u8,.int .i32,.int .i32,.int .i32,.int .i32,.int .i32,.int .i32] (.var 3) (.var 2) true],bA),none,kA [.int .i64,.int .i64] (.app 50 (.cons (.var 3) (.cons (.var 0) (.cons (.var 1) .nil)))) (.app 57 (.cons (.var 3) (.cons (.var 0) (.cons (.var 1) .nil)))) 32]⟩
def aN7:LoopS:=⟨3,2,aOV,.lit true,.exit 0,aOa,.exit 0,aOa⟩
def aN2:eG:=fP 9 (eJ (bK GB) [aNG]) dP
def aM6:LoopU:=⟨aN7,[(.var 0),(.var 1),(.var 2),(.lit 0),(.lit 0),(.lit 0),(.lit 0),(.lit 0),(.var 3)],aEv,.lit true⟩
def vQ (P:Program) (fs:List B):Res SV:=bY G GI aEv fs fun X=>gX P X GB dE aN2 4000 (cF (bQ P 16) 0) aN7
def aMq:eG:=fP 3 (eJ (bK GB) [aM6]) dP
def aNu:FunS:=⟨[(.vsl 0 7 (.var 0) (.var 1) none)],[some ([.vec [.int .u8,.int .i32,.int .i32,.int .i32,.int .i32,.int .i32,.int .i32] (.var 3) (.var 2) true],bA)],.lit true,(.vsl 1 2 (.lit 0) (.app 57 (.cons (.var 3) (.cons (.var 0) (.cons (.var 1) .nil)))) (some (.app 57 (.cons (.var 3) (.cons (.var 0) (.cons (.var 1) .nil)))))),[some ([.vec [.int .u8,.int .i32,.int .i32,.int .i32,.int .i32,.int .i32,.int .i32] (.var 3) (.var 2) true],bA),kA [.int .i64,.int .i64] (.app 50 (.cons (.var 3) (.cons (.var 0) (.cons (.var 1) .nil)))) (.app 57 (.cons (.var 3) (.cons (.var 0) (.cons (.var 1) .nil)))) 32],(.vsl 1 2 (.lit 0) (.app 57 (.cons (.var 3) (.cons (.var 0) (.cons (.var 1) .nil)))) (some (.app 57 (.cons (.var 3) (.cons (.var 0) (.cons (.var 1) .nil)))))),[some ([.vec [.int .u8,.int .i32,.int .i32,.int .i32,.int .i32,.int .i32,.int .i32] (.var 3) (.var 2) true],bA),kA [.int .i64,.int .i64] (.app 50 (.cons (.var 3) (.cons (.var 0) (.cons (.var 1) .nil)))) (.app 57 (.cons (.var 3) (.cons (.var 0) (.cons (.var 1) .nil)))) 32]⟩
def aJO (P:Program) (fs:List B):Res SV:=bY G GI aDA fs fun X=>gA P X GB dE aMq 4000 16 aNu
end Go.Proofs.Ythiehfhphgkaeaa
set_option maxRecDepth 100000
namespace Go.Proofs.Ythiehfhphgkaeaa
open Go Go.RowKit Sx Wi
def aLv (P:Program) (fs:List B):Res SV:=aJO P fs
def aJ1:List B:=[]
theorem aH5:aLv Try.prog aJ1 = .ok (.tuple [(.agg []),(.bool (.lit true))]):=by kernel_rfl
end Go.Proofs.Ythiehfhphgkaeaa
set_option maxRecDepth 100000
namespace Go.Proofs.Ythiehfhphgkaeaa
open Go Go.RowKit Sx Wi
def aAL (P:Program) (fs:List B):Res SV:=vQ P fs
def aCH:List B:=[]
def jT:B:=(.cmp .lt (.var 3) (.var 1))
def aJM:List B:=aW jT++aCH
def nW:B:=(.cmp .lt (.op .add (.var 0) (.var 3)) (.var 2))
def aBU:List B:=aW nW++aJM
def nT:B:=(.cmp .eq (.app 84 (.cons (.var 8) (.cons (.op .add (.var 0) (.var 3)) (.cons (.lit 0) .nil)))) (.lit 2))
def aIZ:List B:=aW nT++aBU
def aBF:SV:=(.agg [(.int .i64 (.op .add (.var 6) (.op .shl (.lit 1) (.app 43 (.cons (.var 4) (.cons (.var 5) (.cons (.app 82 (.cons (.var 8) (.cons (.op .add (.var 0) (.var 3)) (.cons (.lit 1) .nil)))) (.cons (.app 82 (.cons (.var 8) (.cons (.op .add (.var 0) (.var 3)) (.cons (.lit 2) .nil)))) (.cons (.app 82 (.cons (.var 8) (.cons (.op .add (.var 0) (.var 3)) (.cons (.lit 3) .nil)))) (.cons (.app 82 (.cons (.var 8) (.cons (.op .add (.var 0) (.var 3)) (.cons (.lit 4) .nil)))) (.cons (.app 82 (.cons (.var 8) (.cons (.op .add (.var 0) (.var 3)) (.cons (.lit 5) .nil)))) (.cons (.app 82 (.cons (.var 8) (.cons (.op .add (.var 0) (.var 3)) (.cons (.lit 6) .nil)))) .nil)))))))))))),(.int .i64 (.var 6)),(.int .i64 (.op .add (.var 3) (.lit 1))),(.int .i64 (.var 3)),(.int .i64 (.var 8)),(.int .i64 (.var 8)),(.int .i64 (.app 82 (.cons (.var 8) (.cons (.op .add (.var 0) (.var 3)) (.cons (.lit 5) .nil))))),(.int .i64 (.var 4)),(.int .i64 (.app 82 (.cons (.var 8) (.cons (.op .add (.var 0) (.var 3)) (.cons (.lit 6) .nil))))),(.int .i64 (.var 5)),(.int .i64 (.app 47 (.cons (.var 4) (.cons (.var 5) (.cons (.app 82 (.cons (.var 8) (.cons (.op .add (.var 0) (.var 3)) (.cons (.lit 1) .nil)))) (.cons (.app 82 (.cons (.var 8) (.cons (.op .add (.var 0) (.var 3)) (.cons (.lit 2) .nil)))) (.cons (.app 82 (.cons (.var 8) (.cons (.op .add (.var 0) (.var 3)) (.cons (.lit 3) .nil)))) (.cons (.app 82 (.cons (.var 8) (.cons (.op .add (.var 0) (.var 3)) (.cons (.lit 4) .nil)))) (.cons (.app 82 (.cons (.var 8) (.cons (.op .add (.var 0) (.var 3)) (.cons (.lit 5) .nil)))) (.cons (.app 82 (.cons (.var 8) (.cons (.op .add (.var 0) (.var 3)) (.cons (.lit 6) .nil)))) (.cons (.var 7) .nil))))))))))),(.int .i64 (.var 7)),(.int .i64 (.op .add (.var 6) (.op .shl (.lit 1) (.app 43 (.cons (.var 4) (.cons (.var 5) (.cons (.app 82 (.cons (.var 8) (.cons (.op .add (.var 0) (.var 3)) (.cons (.lit 1) .nil)))) (.cons (.app 82 (.cons (.var 8) (.cons (.op .add (.var 0) (.var 3)) (.cons (.lit 2) .nil)))) (.cons (.app 82 (.cons (.var 8) (.cons (.op .add (.var 0) (.var 3)) (.cons (.lit 3) .nil)))) (.cons (.app 82 (.cons (.var 8) (.cons (.op .add (.var 0) (.var 3)) (.cons (.lit 4) .nil)))) (.cons (.app 82 (.cons (.var 8) (.cons (.op .add (.var 0) (.var 3)) (.cons (.lit 5) .nil)))) (.cons (.app 82 (.cons (.var 8) (.cons (.op .add (.var 0) (.var 3)) (.cons (.lit 6) .nil)))) .nil)))))))))))),(.int .i64 (.var 6))])
def aJ0:List B:=aW (B.neg nT)++aBU
def aBv:SV:=(.agg [(.int .i64 (.op .add (.var 6) (.lit 1))),(.int .i64 (.var 6)),(.int .i64 (.op .add (.var 3) (.lit 1))),(.int .i64 (.var 3)),(.int .i64 (.var 8)),(.int .i64 (.var 8)),(.int .i64 (.app 82 (.cons (.var 8) (.cons (.op .add (.var 0) (.var 3)) (.cons (.lit 1) .nil))))),(.int .i64 (.var 4)),(.int .i64 (.app 82 (.cons (.var 8) (.cons (.op .add (.var 0) (.var 3)) (.cons (.lit 2) .nil))))),(.int .i64 (.var 5)),(.int .i64 (.app 91 (.cons (.var 7) (.cons (.app 2 (.cons (.app 82 (.cons (.var 8) (.cons (.op .add (.var 0) (.var 3)) (.cons (.lit 1) .nil)))) (.cons (.op .mul (.lit 1) (.lit 256)) .nil))) (.cons (.app 2 (.cons (.app 82 (.cons (.var 8) (.cons (.op .add (.var 0) (.var 3)) (.cons (.lit 2) .nil)))) (.cons (.op .mul (.lit 1) (.lit 256)) .nil))) .nil))))),(.int .i64 (.var 7)),(.int .i64 (.op .add (.var 6) (.lit 1))),(.int .i64 (.var 6))])
def aHT:List B:=aW (B.neg jT)++aCH
def aA7:SV:=(.tuple [(.agg [(.int .i64 (.var 6)),(.int .i64 (.app 57 (.cons (.var 3) (.cons (.var 0) (.cons (.var 1) .nil))))),(.int .i64 (.var 8)),(.int .i64 (.var 3)),(.int .i64 (.var 7)),(.int .i64 (.app 50 (.cons (.var 3) (.cons (.var 0) (.cons (.var 1) .nil))))),(.int .i64 (.var 6)),(.int .i64 (.app 57 (.cons (.var 3) (.cons (.var 0) (.cons (.var 1) .nil)))))]),(.bool (.lit true))])
theorem aHR:aAL Try.prog aIZ = .ok aBF:=by kernel_rfl
theorem aHV:aAL Try.prog aJ0 = .ok aBv:=by kernel_rfl
theorem aKX:aAL Try.prog aHT = .ok aA7:=by kernel_rfl
end Go.Proofs.Ythiehfhphgkaeaa
set_option maxRecDepth 100000
namespace Go.Proofs.Ythiehfhphgkaeaa
open Go Go.RowKit Sx Wi
def aEx (P:Program) (fs:List B):Res SV:=wV P fs
def aCz:List B:=[]
def nS:B:=(.cmp .lt (.var 13) (.op .shl (.lit 1) (.app 43 (.cons (.var 4) (.cons (.var 5) (.cons (.var 7) (.cons (.var 8) (.cons (.var 9) (.cons (.var 10) (.cons (.var 11) (.cons (.var 12) .nil)))))))))))
def aIL:List B:=aW nS++aCz
def aBV:SV:=(.agg [(.int .i64 (.op .add (.var 14) (.lit 1))),(.int .i64 (.var 14)),(.int .i64 (.op .shl (.lit 1) (.app 43 (.cons (.var 4) (.cons (.var 5) (.cons (.var 7) (.cons (.var 8) (.cons (.var 9) (.cons (.var 10) (.cons (.var 11) (.cons (.var 12) .nil))))))))))),(.int .i64 (.op .shl (.lit 1) (.app 43 (.cons (.var 4) (.cons (.var 5) (.cons (.var 7) (.cons (.var 8) (.cons (.var 9) (.cons (.var 10) (.cons (.var 11) (.cons (.var 12) .nil))))))))))),(.int .i64 (.op .shl (.lit 1) (.app 43 (.cons (.var 4) (.cons (.var 5) (.cons (.var 7) (.cons (.var 8) (.cons (.var 9) (.cons (.var 10) (.cons (.var 11) (.cons (.var 12) .nil))))))))))),(.int .i64 (.op .shl (.lit 1) (.app 43 (.cons (.var 4) (.cons (.var 5) (.cons (.var 7) (.cons (.var 8) (.cons (.var 9) (.cons (.var 10) (.cons (.var 11) (.cons (.var 12) .nil))))))))))),(.int .i64 (.op .add (.var 13) (.lit 1))),(.int .i64 (.var 13)),(.int .i64 (.var 16)),(.int .i64 (.var 16)),(.int .i64 (.var 7)),(.int .i64 (.var 7)),(.int .i64 (.var 8)),(.int .i64 (.var 8)),(.int .i64 (.var 9)),(.int .i64 (.var 9)),(.int .i64 (.var 10)),(.int .i64 (.var 10)),(.int .i64 (.var 11)),(.int .i64 (.var 11)),(.int .i64 (.var 12)),(.int .i64 (.var 12)),(.int .i64 (.app 91 (.cons (.var 15) (.cons (.app 2 (.cons (.op .add (.op .add (.op .add (.op .mul (.op .mul (.op .mul (.op .sub (.op .shl (.lit 1) (.app 43 (.cons (.var 4) (.cons (.var 5) (.cons (.var 7) (.cons (.var 8) (.cons (.var 9) (.cons (.var 10) (.cons (.var 11) (.cons (.var 12) .nil)))))))))) (.op .add (.var 13) (.lit 1))) (.op .sub (.op .shl (.lit 1) (.app 43 (.cons (.var 4) (.cons (.var 5) (.cons (.var 7) (.cons (.var 8) (.cons (.var 9) (.cons (.var 10) (.cons (.var 11) (.cons (.var 12) .nil)))))))))) (.op .add (.var 13) (.lit 1)))) (.op .sub (.op .shl (.lit 1) (.app 43 (.cons (.var 4) (.cons (.var 5) (.cons (.var 7) (.cons (.var 8) (.cons (.var 9) (.cons (.var 10) (.cons (.var 11) (.cons (.var 12) .nil)))))))))) (.op .add (.var 13) (.lit 1)))) (.var 4)) (.op .mul (.op .mul (.op .mul (.op .mul (.lit 3) (.op .sub (.op .shl (.lit 1) (.app 43 (.cons (.var 4) (.cons (.var 5) (.cons (.var 7) (.cons (.var 8) (.cons (.var 9) (.cons (.var 10) (.cons (.var 11) (.cons (.var 12) .nil)))))))))) (.op .add (.var 13) (.lit 1)))) (.op .sub (.op .shl (.lit 1) (.app 43 (.cons (.var 4) (.cons (.var 5) (.cons (.var 7) (.cons (.var 8) (.cons (.var 9) (.cons (.var 10) (.cons (.var 11) (.cons (.var 12) .nil)))))))))) (.op .add (.var 13) (.lit 1)))) (.op .add (.var 13) (.lit 1))) (.var 7))) (.op .mul (.op .mul (.op .mul (.op .mul (.lit 3) (.op .sub (.op .shl (.lit 1) (.app 43 (.cons (.var 4) (.cons (.var 5) (.cons (.var 7) (.cons (.var 8) (.cons (.var 9) (.cons (.var 10) (.cons (.var 11) (.cons (.var 12) .nil)))))))))) (.op .add (.var 13) (.lit 1)))) (.op .add (.var 13) (.lit 1))) (.op .add (.var 13) (.lit 1))) (.var 9))) (.op .mul (.op .mul (.op .mul (.op .add (.var 13) (.lit 1)) (.op .add (.var 13) (.lit 1))) (.op .add (.var 13) (.lit 1))) (.var 11))) (.cons (.op .mul (.op .mul (.op .shl (.lit 1) (.app 43 (.cons (.var 4) (.cons (.var 5) (.cons (.var 7) (.cons (.var 8) (.cons (.var 9) (.cons (.var 10) (.cons (.var 11) (.cons (.var 12) .nil)))))))))) (.op .mul (.op .shl (.lit 1) (.app 43 (.cons (.var 4) (.cons (.var 5) (.cons (.var 7) (.cons (.var 8) (.cons (.var 9) (.cons (.var 10) (.cons (.var 11) (.cons (.var 12) .nil)))))))))) (.op .shl (.lit 1) (.app 43 (.cons (.var 4) (.cons (.var 5) (.cons (.var 7) (.cons (.var 8) (.cons (.var 9) (.cons (.var 10) (.cons (.var 11) (.cons (.var 12) .nil)))))))))))) (.lit 256)) .nil))) (.cons (.app 2 (.cons (.op .add (.op .add (.op .add (.op .mul (.op .mul (.op .mul (.op .sub (.op .shl (.lit 1) (.app 43 (.cons (.var 4) (.cons (.var 5) (.cons (.var 7) (.cons (.var 8) (.cons (.var 9) (.cons (.var 10) (.cons (.var 11) (.cons (.var 12) .nil)))))))))) (.op .add (.var 13) (.lit 1))) (.op .sub (.op .shl (.lit 1) (.app 43 (.cons (.var 4) (.cons (.var 5) (.cons (.var 7) (.cons (.var 8) (.cons (.var 9) (.cons (.var 10) (.cons (.var 11) (.cons (.var 12) .nil)))))))))) (.op .add (.var 13) (.lit 1)))) (.op .sub (.op .shl (.lit 1) (.app 43 (.cons (.var 4) (.cons (.var 5) (.cons (.var 7) (.cons (.var 8) (.cons (.var 9) (.cons (.var 10) (.cons (.var 11) (.cons (.var 12) .nil)))))))))) (.op .add (.var 13) (.lit 1)))) (.var 5)) (.op .mul (.op .mul (.op .mul (.op .mul (.lit 3) (.op .sub (.op .shl (.lit 1) (.app 43 (.cons (.var 4) (.cons (.var 5) (.cons (.var 7) (.cons (.var 8) (.cons (.var 9) (.cons (.var 10) (.cons (.var 11) (.cons (.var 12) .nil)))))))))) (.op .add (.var 13) (.lit 1)))) (.op .sub (.op .shl (.lit 1) (.app 43 (.cons (.var 4) (.cons (.var 5) (.cons (.var 7) (.cons (.var 8) (.cons (.var 9) (.cons (.var 10) (.cons (.var 11) (.cons (.var 12) .nil)))))))))) (.op .add (.var 13) (.lit 1)))) (.op .add (.var 13) (.lit 1))) (.var 8))) (.op .mul (.op .mul (.op .mul (.op .mul (.lit 3) (.op .sub (.op .shl (.lit 1) (.app 43 (.cons (.var 4) (.cons (.var 5) (.cons (.var 7) (.cons (.var 8) (.cons (.var 9) (.cons (.var 10) (.cons (.var 11) (.cons (.var 12) .nil)))))))))) (.op .add (.var 13) (.lit 1)))) (.op .add (.var 13) (.lit 1))) (.op .add (.var 13) (.lit 1))) (.var 10))) (.op .mul (.op .mul (.op .mul (.op .add (.var 13) (.lit 1)) (.op .add (.var 13) (.lit 1))) (.op .add (.var 13) (.lit 1))) (.var 12))) (.cons (.op .mul (.op .mul (.op .shl (.lit 1) (.app 43 (.cons (.var 4) (.cons (.var 5) (.cons (.var 7) (.cons (.var 8) (.cons (.var 9) (.cons (.var 10) (.cons (.var 11) (.cons (.var 12) .nil)))))))))) (.op .mul (.op .shl (.lit 1) (.app 43 (.cons (.var 4) (.cons (.var 5) (.cons (.var 7) (.cons (.var 8) (.cons (.var 9) (.cons (.var 10) (.cons (.var 11) (.cons (.var 12) .nil)))))))))) (.op .shl (.lit 1) (.app 43 (.cons (.var 4) (.cons (.var 5) (.cons (.var 7) (.cons (.var 8) (.cons (.var 9) (.cons (.var 10) (.cons (.var 11) (.cons (.var 12) .nil)))))))))))) (.lit 256)) .nil))) .nil))))),(.int .i64 (.var 15)),(.int .i64 (.op .add (.var 14) (.lit 1))),(.int .i64 (.var 14))])
def aJZ:List B:=aW (B.neg nS)++aCz
def aBS:SV:=(.tuple [(.agg [(.int .i64 (.var 14)),(.int .i64 (.op .add (.var 6) (.op .shl (.lit 1) (.app 43 (.cons (.var 4) (.cons (.var 5) (.cons (.app 82 (.cons (.var 8) (.cons (.op .add (.var 0) (.var 3)) (.cons (.lit 1) .nil)))) (.cons (.app 82 (.cons (.var 8) (.cons (.op .add (.var 0) (.var 3)) (.cons (.lit 2) .nil)))) (.cons (.app 82 (.cons (.var 8) (.cons (.op .add (.var 0) (.var 3)) (.cons (.lit 3) .nil)))) (.cons (.app 82 (.cons (.var 8) (.cons (.op .add (.var 0) (.var 3)) (.cons (.lit 4) .nil)))) (.cons (.app 82 (.cons (.var 8) (.cons (.op .add (.var 0) (.var 3)) (.cons (.lit 5) .nil)))) (.cons (.app 82 (.cons (.var 8) (.cons (.op .add (.var 0) (.var 3)) (.cons (.lit 6) .nil)))) .nil)))))))))))),(.int .i64 (.var 16)),(.int .i64 (.var 8)),(.int .i64 (.var 7)),(.int .i64 (.app 82 (.cons (.var 8) (.cons (.op .add (.var 0) (.var 3)) (.cons (.lit 1) .nil))))),(.int .i64 (.var 8)),(.int .i64 (.app 82 (.cons (.var 8) (.cons (.op .add (.var 0) (.var 3)) (.cons (.lit 2) .nil))))),(.int .i64 (.var 9)),(.int .i64 (.app 82 (.cons (.var 8) (.cons (.op .add (.var 0) (.var 3)) (.cons (.lit 3) .nil))))),(.int .i64 (.var 10)),(.int .i64 (.app 82 (.cons (.var 8) (.cons (.op .add (.var 0) (.var 3)) (.cons (.lit 4) .nil))))),(.int .i64 (.var 11)),(.int .i64 (.app 82 (.cons (.var 8) (.cons (.op .add (.var 0) (.var 3)) (.cons (.lit 5) .nil))))),(.int .i64 (.var 12)),(.int .i64 (.app 82 (.cons (.var 8) (.cons (.op .add (.var 0) (.var 3)) (.cons (.lit 6) .nil))))),(.int .i64 (.var 15)),(.int .i64 (.app 47 (.cons (.var 4) (.cons (.var 5) (.cons (.app 82 (.cons (.var 8) (.cons (.op .add (.var 0) (.var 3)) (.cons (.lit 1) .nil)))) (.cons (.app 82 (.cons (.var 8) (.cons (.op .add (.var 0) (.var 3)) (.cons (.lit 2) .nil)))) (.cons (.app 82 (.cons (.var 8) (.cons (.op .add (.var 0) (.var 3)) (.cons (.lit 3) .nil)))) (.cons (.app 82 (.cons (.var 8) (.cons (.op .add (.var 0) (.var 3)) (.cons (.lit 4) .nil)))) (.cons (.app 82 (.cons (.var 8) (.cons (.op .add (.var 0) (.var 3)) (.cons (.lit 5) .nil)))) (.cons (.app 82 (.cons (.var 8) (.cons (.op .add (.var 0) (.var 3)) (.cons (.lit 6) .nil)))) (.cons (.var 7) .nil))))))))))),(.int .i64 (.var 14)),(.int .i64 (.op .add (.var 6) (.op .shl (.lit 1) (.app 43 (.cons (.var 4) (.cons (.var 5) (.cons (.app 82 (.cons (.var 8) (.cons (.op .add (.var 0) (.var 3)) (.cons (.lit 1) .nil)))) (.cons (.app 82 (.cons (.var 8) (.cons (.op .add (.var 0) (.var 3)) (.cons (.lit 2) .nil)))) (.cons (.app 82 (.cons (.var 8) (.cons (.op .add (.var 0) (.var 3)) (.cons (.lit 3) .nil)))) (.cons (.app 82 (.cons (.var 8) (.cons (.op .add (.var 0) (.var 3)) (.cons (.lit 4) .nil)))) (.cons (.app 82 (.cons (.var 8) (.cons (.op .add (.var 0) (.var 3)) (.cons (.lit 5) .nil)))) (.cons (.app 82 (.cons (.var 8) (.cons (.op .add (.var 0) (.var 3)) (.cons (.lit 6) .nil)))) .nil))))))))))))]),(.bool (.lit true))])
theorem aKD:aEx Try.prog aIL = .ok aBV:=by kernel_rfl
theorem aKx:aEx Try.prog aJZ = .ok aBS:=by kernel_rfl
end Go.Proofs.Ythiehfhphgkaeaa
namespace Go.Proofs.Ythiehfhphgkaeaa
open Go Go.RowKit Sx Wi
theorem sB (L r j:Int) : -2147483648≤G 82 [L,r,j]∧G 82 [L,r,j]≤2147483647:=by
 rw[show G 82 [L,r,j]=_ from mQ .i32 L r j]
 exact fK .i32 _
def jC (v0 v1 v2 v3 v4 v5 v6 C L:Int) (a:Nat):Nat→Int:=eK ([v0,v1,v2,v3,v4,v5,v6]++[G 82 [L,v0+v3,1],G 82 [L,v0+v3,2],G 82 [L,v0+v3,3],G 82 [L,v0+v3,4],G 82 [L,v0+v3,5],G 82 [L,v0+v3,6],(a:Int),v6+(a:Int),pT C [v4,v5,G 82 [L,v0+v3,1],G 82 [L,v0+v3,2],G 82 [L,v0+v3,3],G 82 [L,v0+v3,4],G 82 [L,v0+v3,5],G 82 [L,v0+v3,6]] a,L])
theorem aLW (v0 v1 v2 v3 v4 v5 v6 C L:Int) (b0:0≤v0∧v0≤300) (b1:0≤v1∧v1≤256) (b2:0≤v2∧v2≤256) (b3:0≤v3∧v3≤256) (b4 : -2147483648≤v4∧v4≤2147483647) (b5 : -2147483648≤v5∧v5≤2147483647) (b6:0≤v6∧v6≤19200) (a:Nat) (ha:(a:Int)≤cK [v4,v5,G 82 [L,v0+v3,1],G 82 [L,v0+v3,2],G 82 [L,v0+v3,3],G 82 [L,v0+v3,4],G 82 [L,v0+v3,5],G 82 [L,v0+v3,6]]):∀ i q,zO[i]?=some q→q.1≤jC v0 v1 v2 v3 v4 v5 v6 C L a i∧jC v0 v1 v2 v3 v4 v5 v6 C L a i≤q.2:=by
 have hp:=fH [v4,v5,G 82 [L,v0+v3,1],G 82 [L,v0+v3,2],G 82 [L,v0+v3,3],G 82 [L,v0+v3,4],G 82 [L,v0+v3,5],G 82 [L,v0+v3,6]]
 unfold jC zO
 exact cS (xs:=[v0,v1,v2,v3,v4,v5,v6,G 82 [L,v0+v3,1],G 82 [L,v0+v3,2],G 82 [L,v0+v3,3],G 82 [L,v0+v3,4],G 82 [L,v0+v3,5],G 82 [L,v0+v3,6],(a:Int),v6+(a:Int)]) (ls:=[pT C [v4,v5,G 82 [L,v0+v3,1],G 82 [L,v0+v3,2],G 82 [L,v0+v3,3],G 82 [L,v0+v3,4],G 82 [L,v0+v3,5],G 82 [L,v0+v3,6]] a,L]) (by exact⟨b0,b1,b2,b3,b4,b5,b6,sB _ _ _,sB _ _ _,sB _ _ _,sB _ _ _,sB _ _ _,sB _ _ _,by omega,by omega,trivial⟩)
set_option maxRecDepth 100000 in
theorem aNn (v0 v3 v4 v5 C L:Int) (a:Nat):G 91 [pT C [v4,v5,G 82 [L,v0+v3,1],G 82 [L,v0+v3,2],G 82 [L,v0+v3,3],G 82 [L,v0+v3,4],G 82 [L,v0+v3,5],G 82 [L,v0+v3,6]] a,G 2 [((((((((1*2 ^ (G 43 [v4,v5,G 82 [L,v0+v3,1],G 82 [L,v0+v3,2],G 82 [L,v0+v3,3],G 82 [L,v0+v3,4],G 82 [L,v0+v3,5],G 82 [L,v0+v3,6]]).toNat)-((a:Int)+1))*((1*2 ^ (G 43 [v4,v5,G 82 [L,v0+v3,1],G 82 [L,v0+v3,2],G 82 [L,v0+v3,3],G 82 [L,v0+v3,4],G 82 [L,v0+v3,5],G 82 [L,v0+v3,6]]).toNat)-((a:Int)+1)))*((1*2 ^ (G 43 [v4,v5,G 82 [L,v0+v3,1],G 82 [L,v0+v3,2],G 82 [L,v0+v3,3],G 82 [L,v0+v3,4],G 82 [L,v0+v3,5],G 82 [L,v0+v3,6]]).toNat)-((a:Int)+1)))*v4)+((((3*((1*2 ^ (G 43 [v4,v5,G 82 [L,v0+v3,1],G 82 [L,v0+v3,2],G 82 [L,v0+v3,3],G 82 [L,v0+v3,4],G 82 [L,v0+v3,5],G 82 [L,v0+v3,6]]).toNat)-((a:Int)+1)))*((1*2 ^ (G 43 [v4,v5,G 82 [L,v0+v3,1],G 82 [L,v0+v3,2],G 82 [L,v0+v3,3],G 82 [L,v0+v3,4],G 82 [L,v0+v3,5],G 82 [L,v0+v3,6]]).toNat)-((a:Int)+1)))*((a:Int)+1))*G 82 [L,v0+v3,1]))+((((3*((1*2 ^ (G 43 [v4,v5,G 82 [L,v0+v3,1],G 82 [L,v0+v3,2],G 82 [L,v0+v3,3],G 82 [L,v0+v3,4],G 82 [L,v0+v3,5],G 82 [L,v0+v3,6]]).toNat)-((a:Int)+1)))*((a:Int)+1))*((a:Int)+1))*G 82 [L,v0+v3,3]))+(((((a:Int)+1)*((a:Int)+1))*((a:Int)+1))*G 82 [L,v0+v3,5])),(((1*2 ^ (G 43 [v4,v5,G 82 [L,v0+v3,1],G 82 [L,v0+v3,2],G 82 [L,v0+v3,3],G 82 [L,v0+v3,4],G 82 [L,v0+v3,5],G 82 [L,v0+v3,6]]).toNat)*((1*2 ^ (G 43 [v4,v5,G 82 [L,v0+v3,1],G 82 [L,v0+v3,2],G 82 [L,v0+v3,3],G 82 [L,v0+v3,4],G 82 [L,v0+v3,5],G 82 [L,v0+v3,6]]).toNat)*(1*2 ^ (G 43 [v4,v5,G 82 [L,v0+v3,1],G 82 [L,v0+v3,2],G 82 [L,v0+v3,3],G 82 [L,v0+v3,4],G 82 [L,v0+v3,5],G 82 [L,v0+v3,6]]).toNat)))*256)],G 2 [((((((((1*2 ^ (G 43 [v4,v5,G 82 [L,v0+v3,1],G 82 [L,v0+v3,2],G 82 [L,v0+v3,3],G 82 [L,v0+v3,4],G 82 [L,v0+v3,5],G 82 [L,v0+v3,6]]).toNat)-((a:Int)+1))*((1*2 ^ (G 43 [v4,v5,G 82 [L,v0+v3,1],G 82 [L,v0+v3,2],G 82 [L,v0+v3,3],G 82 [L,v0+v3,4],G 82 [L,v0+v3,5],G 82 [L,v0+v3,6]]).toNat)-((a:Int)+1)))*((1*2 ^ (G 43 [v4,v5,G 82 [L,v0+v3,1],G 82 [L,v0+v3,2],G 82 [L,v0+v3,3],G 82 [L,v0+v3,4],G 82 [L,v0+v3,5],G 82 [L,v0+v3,6]]).toNat)-((a:Int)+1)))*v5)+((((3*((1*2 ^ (G 43 [v4,v5,G 82 [L,v0+v3,1],G 82 [L,v0+v3,2],G 82 [L,v0+v3,3],G 82 [L,v0+v3,4],G 82 [L,v0+v3,5],G 82 [L,v0+v3,6]]).toNat)-((a:Int)+1)))*((1*2 ^ (G 43 [v4,v5,G 82 [L,v0+v3,1],G 82 [L,v0+v3,2],G 82 [L,v0+v3,3],G 82 [L,v0+v3,4],G 82 [L,v0+v3,5],G 82 [L,v0+v3,6]]).toNat)-((a:Int)+1)))*((a:Int)+1))*G 82 [L,v0+v3,2]))+((((3*((1*2 ^ (G 43 [v4,v5,G 82 [L,v0+v3,1],G 82 [L,v0+v3,2],G 82 [L,v0+v3,3],G 82 [L,v0+v3,4],G 82 [L,v0+v3,5],G 82 [L,v0+v3,6]]).toNat)-((a:Int)+1)))*((a:Int)+1))*((a:Int)+1))*G 82 [L,v0+v3,4]))+(((((a:Int)+1)*((a:Int)+1))*((a:Int)+1))*G 82 [L,v0+v3,6])),(((1*2 ^ (G 43 [v4,v5,G 82 [L,v0+v3,1],G 82 [L,v0+v3,2],G 82 [L,v0+v3,3],G 82 [L,v0+v3,4],G 82 [L,v0+v3,5],G 82 [L,v0+v3,6]]).toNat)*((1*2 ^ (G 43 [v4,v5,G 82 [L,v0+v3,1],G 82 [L,v0+v3,2],G 82 [L,v0+v3,3],G 82 [L,v0+v3,4],G 82 [L,v0+v3,5],G 82 [L,v0+v3,6]]).toNat)*(1*2 ^ (G 43 [v4,v5,G 82 [L,v0+v3,1],G 82 [L,v0+v3,2],G 82 [L,v0+v3,3],G 82 [L,v0+v3,4],G 82 [L,v0+v3,5],G 82 [L,v0+v3,6]]).toNat)))*256)]]=pT C [v4,v5,G 82 [L,v0+v3,1],G 82 [L,v0+v3,2],G 82 [L,v0+v3,3],G 82 [L,v0+v3,4],G 82 [L,v0+v3,5],G 82 [L,v0+v3,6]] (a+1):=by
 have er:mX [v4,v5,G 82 [L,v0+v3,1],G 82 [L,v0+v3,2],G 82 [L,v0+v3,3],G 82 [L,v0+v3,4],G 82 [L,v0+v3,5],G 82 [L,v0+v3,6]] (cK [v4,v5,G 82 [L,v0+v3,1],G 82 [L,v0+v3,2],G 82 [L,v0+v3,3],G 82 [L,v0+v3,4],G 82 [L,v0+v3,5],G 82 [L,v0+v3,6]]) ((a:Int)+1)=[G 2 [((((((((1*2 ^ (G 43 [v4,v5,G 82 [L,v0+v3,1],G 82 [L,v0+v3,2],G 82 [L,v0+v3,3],G 82 [L,v0+v3,4],G 82 [L,v0+v3,5],G 82 [L,v0+v3,6]]).toNat)-((a:Int)+1))*((1*2 ^ (G 43 [v4,v5,G 82 [L,v0+v3,1],G 82 [L,v0+v3,2],G 82 [L,v0+v3,3],G 82 [L,v0+v3,4],G 82 [L,v0+v3,5],G 82 [L,v0+v3,6]]).toNat)-((a:Int)+1)))*((1*2 ^ (G 43 [v4,v5,G 82 [L,v0+v3,1],G 82 [L,v0+v3,2],G 82 [L,v0+v3,3],G 82 [L,v0+v3,4],G 82 [L,v0+v3,5],G 82 [L,v0+v3,6]]).toNat)-((a:Int)+1)))*v4)+((((3*((1*2 ^ (G 43 [v4,v5,G 82 [L,v0+v3,1],G 82 [L,v0+v3,2],G 82 [L,v0+v3,3],G 82 [L,v0+v3,4],G 82 [L,v0+v3,5],G 82 [L,v0+v3,6]]).toNat)-((a:Int)+1)))*((1*2 ^ (G 43 [v4,v5,G 82 [L,v0+v3,1],G 82 [L,v0+v3,2],G 82 [L,v0+v3,3],G 82 [L,v0+v3,4],G 82 [L,v0+v3,5],G 82 [L,v0+v3,6]]).toNat)-((a:Int)+1)))*((a:Int)+1))*G 82 [L,v0+v3,1]))+((((3*((1*2 ^ (G 43 [v4,v5,G 82 [L,v0+v3,1],G 82 [L,v0+v3,2],G 82 [L,v0+v3,3],G 82 [L,v0+v3,4],G 82 [L,v0+v3,5],G 82 [L,v0+v3,6]]).toNat)-((a:Int)+1)))*((a:Int)+1))*((a:Int)+1))*G 82 [L,v0+v3,3]))+(((((a:Int)+1)*((a:Int)+1))*((a:Int)+1))*G 82 [L,v0+v3,5])),(((1*2 ^ (G 43 [v4,v5,G 82 [L,v0+v3,1],G 82 [L,v0+v3,2],G 82 [L,v0+v3,3],G 82 [L,v0+v3,4],G 82 [L,v0+v3,5],G 82 [L,v0+v3,6]]).toNat)*((1*2 ^ (G 43 [v4,v5,G 82 [L,v0+v3,1],G 82 [L,v0+v3,2],G 82 [L,v0+v3,3],G 82 [L,v0+v3,4],G 82 [L,v0+v3,5],G 82 [L,v0+v3,6]]).toNat)*(1*2 ^ (G 43 [v4,v5,G 82 [L,v0+v3,1],G 82 [L,v0+v3,2],G 82 [L,v0+v3,3],G 82 [L,v0+v3,4],G 82 [L,v0+v3,5],G 82 [L,v0+v3,6]]).toNat)))*256)],G 2 [((((((((1*2 ^ (G 43 [v4,v5,G 82 [L,v0+v3,1],G 82 [L,v0+v3,2],G 82 [L,v0+v3,3],G 82 [L,v0+v3,4],G 82 [L,v0+v3,5],G 82 [L,v0+v3,6]]).toNat)-((a:Int)+1))*((1*2 ^ (G 43 [v4,v5,G 82 [L,v0+v3,1],G 82 [L,v0+v3,2],G 82 [L,v0+v3,3],G 82 [L,v0+v3,4],G 82 [L,v0+v3,5],G 82 [L,v0+v3,6]]).toNat)-((a:Int)+1)))*((1*2 ^ (G 43 [v4,v5,G 82 [L,v0+v3,1],G 82 [L,v0+v3,2],G 82 [L,v0+v3,3],G 82 [L,v0+v3,4],G 82 [L,v0+v3,5],G 82 [L,v0+v3,6]]).toNat)-((a:Int)+1)))*v5)+((((3*((1*2 ^ (G 43 [v4,v5,G 82 [L,v0+v3,1],G 82 [L,v0+v3,2],G 82 [L,v0+v3,3],G 82 [L,v0+v3,4],G 82 [L,v0+v3,5],G 82 [L,v0+v3,6]]).toNat)-((a:Int)+1)))*((1*2 ^ (G 43 [v4,v5,G 82 [L,v0+v3,1],G 82 [L,v0+v3,2],G 82 [L,v0+v3,3],G 82 [L,v0+v3,4],G 82 [L,v0+v3,5],G 82 [L,v0+v3,6]]).toNat)-((a:Int)+1)))*((a:Int)+1))*G 82 [L,v0+v3,2]))+((((3*((1*2 ^ (G 43 [v4,v5,G 82 [L,v0+v3,1],G 82 [L,v0+v3,2],G 82 [L,v0+v3,3],G 82 [L,v0+v3,4],G 82 [L,v0+v3,5],G 82 [L,v0+v3,6]]).toNat)-((a:Int)+1)))*((a:Int)+1))*((a:Int)+1))*G 82 [L,v0+v3,4]))+(((((a:Int)+1)*((a:Int)+1))*((a:Int)+1))*G 82 [L,v0+v3,6])),(((1*2 ^ (G 43 [v4,v5,G 82 [L,v0+v3,1],G 82 [L,v0+v3,2],G 82 [L,v0+v3,3],G 82 [L,v0+v3,4],G 82 [L,v0+v3,5],G 82 [L,v0+v3,6]]).toNat)*((1*2 ^ (G 43 [v4,v5,G 82 [L,v0+v3,1],G 82 [L,v0+v3,2],G 82 [L,v0+v3,3],G 82 [L,v0+v3,4],G 82 [L,v0+v3,5],G 82 [L,v0+v3,6]]).toNat)*(1*2 ^ (G 43 [v4,v5,G 82 [L,v0+v3,1],G 82 [L,v0+v3,2],G 82 [L,v0+v3,3],G 82 [L,v0+v3,4],G 82 [L,v0+v3,5],G 82 [L,v0+v3,6]]).toNat)))*256)]]:=rfl
 rw[←aHJ,er]
theorem aAx (v0 v3 v4 v5 L:Int):1*2 ^ (G 43 [v4,v5,G 82 [L,v0+v3,1],G 82 [L,v0+v3,2],G 82 [L,v0+v3,3],G 82 [L,v0+v3,4],G 82 [L,v0+v3,5],G 82 [L,v0+v3,6]]).toNat=cK [v4,v5,G 82 [L,v0+v3,1],G 82 [L,v0+v3,2],G 82 [L,v0+v3,3],G 82 [L,v0+v3,4],G 82 [L,v0+v3,5],G 82 [L,v0+v3,6]]:=rfl
set_option maxHeartbeats 4000000 in
set_option maxRecDepth 100000 in
theorem aNE (v0 v1 v2 v3 v4 v5 v6 C L:Int) (a:Nat) (ha:(a:Int)≤cK [v4,v5,G 82 [L,v0+v3,1],G 82 [L,v0+v3,2],G 82 [L,v0+v3,3],G 82 [L,v0+v3,4],G 82 [L,v0+v3,5],G 82 [L,v0+v3,6]]):Sx.yE (wV Try.prog) G (jC v0 v1 v2 v3 v4 v5 v6 C L a) (bD G (jC v0 v1 v2 v3 v4 v5 v6 C L) (eK ([v0,v1,v2,v3,v4,v5,v6]++[C,L])) 7 (.lit true) (fun a=>(a:Int)≤cK [v4,v5,G 82 [L,v0+v3,1],G 82 [L,v0+v3,2],G 82 [L,v0+v3,3],G 82 [L,v0+v3,4],G 82 [L,v0+v3,5],G 82 [L,v0+v3,6]]) (fun a=>(cK [v4,v5,G 82 [L,v0+v3,1],G 82 [L,v0+v3,2],G 82 [L,v0+v3,3],G 82 [L,v0+v3,4],G 82 [L,v0+v3,5],G 82 [L,v0+v3,6]]).toNat-a) a) []:=by
 refine aQ nS (fun h0=>?_) (fun h0=>?_)
 ·skip
  refine aP aKD ?_
  unfold nS at h0;unfold aBV;simp only[nn,jC,List.cons_append,List.nil_append,Bool.or_eq_true,aY,ne_eq]at h0;rw[aAx]at h0;have ec:=aNn v0 v3 v4 v5 C L a;have hm:(cK [v4,v5,G 82 [L,v0+v3,1],G 82 [L,v0+v3,2],G 82 [L,v0+v3,3],G 82 [L,v0+v3,4],G 82 [L,v0+v3,5],G 82 [L,v0+v3,6]]).toNat-(a+1)<(cK [v4,v5,G 82 [L,v0+v3,1],G 82 [L,v0+v3,2],G 82 [L,v0+v3,3],G 82 [L,v0+v3,4],G 82 [L,v0+v3,5],G 82 [L,v0+v3,6]]).toNat-a:=(by clear ec;omega);have hg:((a+1:Nat):Int)≤cK [v4,v5,G 82 [L,v0+v3,1],G 82 [L,v0+v3,2],G 82 [L,v0+v3,3],G 82 [L,v0+v3,4],G 82 [L,v0+v3,5],G 82 [L,v0+v3,6]]:=(by clear ec;omega);clear h0;simp only[bD];refine⟨a+1,hg,hm,bF (by simp),?_⟩;simp only[aL];clear hm hg;simp only[nn,Int.natCast_add,Int.cast_ofNat_Int,Int.natCast_one,jC,List.cons_append,List.nil_append,Bool.or_eq_true,aY,ne_eq]at ec ⊢;(repeat' refine And.intro ?_ ?_)<;>first|with_reducible exact ec|with_reducible rfl|with_reducible trivial|exact Int.add_assoc _ _ _
 refine aP aKx ?_
 unfold nS at h0;unfold aBS;simp only[nn,jC,List.cons_append,List.nil_append,Bool.or_eq_true,aY,ne_eq]at h0;rw[aAx]at h0;have hp:=fH [v4,v5,G 82 [L,v0+v3,1],G 82 [L,v0+v3,2],G 82 [L,v0+v3,3],G 82 [L,v0+v3,4],G 82 [L,v0+v3,5],G 82 [L,v0+v3,6]];have hn:a=(cK [v4,v5,G 82 [L,v0+v3,1],G 82 [L,v0+v3,2],G 82 [L,v0+v3,3],G 82 [L,v0+v3,4],G 82 [L,v0+v3,5],G 82 [L,v0+v3,6]]).toNat:=(by omega);have ec:pT C [v4,v5,G 82 [L,v0+v3,1],G 82 [L,v0+v3,2],G 82 [L,v0+v3,3],G 82 [L,v0+v3,4],G 82 [L,v0+v3,5],G 82 [L,v0+v3,6]] a=G 47 [v4,v5,G 82 [L,v0+v3,1],G 82 [L,v0+v3,2],G 82 [L,v0+v3,3],G 82 [L,v0+v3,4],G 82 [L,v0+v3,5],G 82 [L,v0+v3,6],C]:=(by rw[hn];exact aKm _ _ _ _ _ _ _ _ _);have el:v6+(a:Int)=v6+1*2 ^ (G 43 [v4,v5,G 82 [L,v0+v3,1],G 82 [L,v0+v3,2],G 82 [L,v0+v3,3],G 82 [L,v0+v3,4],G 82 [L,v0+v3,5],G 82 [L,v0+v3,6]]).toNat:=(by rw[aAx];omega);clear h0 hp hn;simp only[bD];refine⟨rfl,bF (by simp),?_⟩;simp only[aL];simp only[nn,jC,List.cons_append,List.nil_append,Bool.or_eq_true,aY,ne_eq]at ec el ⊢;(repeat' refine And.intro ?_ ?_)<;>first|with_reducible exact ec|with_reducible exact el|with_reducible rfl|with_reducible trivial
def eL (off n N L:Int) (i:Nat):Nat→Int:=eK ([off,n,N]++[(i:Int),G 51 [L,off,(i:Int)],G 52 [L,off,(i:Int)],G 57 [L,off,(i:Int)],G 50 [L,off,(i:Int)],L])
theorem aLC (off n N L:Int) (b0:0≤off∧off≤300) (b1:0≤n∧n≤256) (b2:0≤N∧N≤256) (i:Nat) (hi:(i:Int)≤n):∀ k q,aEv[k]?=some q→q.1≤eL off n N L i k∧eL off n N L i k≤q.2:=by
 unfold eL aEv
 exact cS (xs:=[off,n,N,(i:Int),G 51 [L,off,(i:Int)],G 52 [L,off,(i:Int)],G 57 [L,off,(i:Int)]]) (ls:=[G 50 [L,off,(i:Int)],L]) (by exact⟨b0,b1,b2,by omega,aEN [L,off,(i:Int)],aEl [L,off,(i:Int)],aD1 [L,off,(i:Int)],trivial⟩)
set_option maxHeartbeats 1000000 in
set_option maxRecDepth 100000 in
theorem aNa (off n N L:Int) (i:Nat):fJ Try.prog G (bK GB) (cF (bQ Try.prog 16) 1) aNG (eL off n N L i):=by
 intro hw _
 have hb:dQ zO ([off,n,N,(i:Int),G 51 [L,off,(i:Int)],G 52 [L,off,(i:Int)],G 57 [L,off,(i:Int)]]++[G 82 [L,off+(i:Int),1],G 82 [L,off+(i:Int),2],G 82 [L,off+(i:Int),3],G 82 [L,off+(i:Int),4],G 82 [L,off+(i:Int),5],G 82 [L,off+(i:Int),6],0,G 57 [L,off,(i:Int)]]):=hw
 unfold zO at hb
 simp only[List.cons_append,List.nil_append]at hb
 obtain⟨b0,b1,b2,b3,b4,b5,b6,_⟩:=hb
 have e:fL G (eL off n N L i) aNG.es=jC off n N (i:Int) (G 51 [L,off,(i:Int)]) (G 52 [L,off,(i:Int)]) (G 57 [L,off,(i:Int)]) (G 50 [L,off,(i:Int)]) L 0:=by
  unfold eL
  rw[eE]
  unfold jC
  rw[Int.natCast_zero,Int.add_zero]
  rfl
 rw[e]
 have hp:=fH [G 51 [L,off,(i:Int)],G 52 [L,off,(i:Int)],G 82 [L,off+(i:Int),1],G 82 [L,off+(i:Int),2],G 82 [L,off+(i:Int),3],G 82 [L,off+(i:Int),4],G 82 [L,off+(i:Int),5],G 82 [L,off+(i:Int),6]]
 exact⟨(cK [G 51 [L,off,(i:Int)],G 52 [L,off,(i:Int)],G 82 [L,off+(i:Int),1],G 82 [L,off+(i:Int),2],G 82 [L,off+(i:Int),3],G 82 [L,off+(i:Int),4],G 82 [L,off+(i:Int),5],G 82 [L,off+(i:Int),6]]).toNat+1,dJ (ι:=Nat) (ρ:=jC off n N (i:Int) (G 51 [L,off,(i:Int)]) (G 52 [L,off,(i:Int)]) (G 57 [L,off,(i:Int)]) (G 50 [L,off,(i:Int)]) L) (ρT:=eL off n N L i) (m:=fun a=>(cK [G 51 [L,off,(i:Int)],G 52 [L,off,(i:Int)],G 82 [L,off+(i:Int),1],G 82 [L,off+(i:Int),2],G 82 [L,off+(i:Int),3],G 82 [L,off+(i:Int),4],G 82 [L,off+(i:Int),5],G 82 [L,off+(i:Int),6]]).toNat-a) (Good:=fun a=>(a:Int)≤cK [G 51 [L,off,(i:Int)],G 52 [L,off,(i:Int)],G 82 [L,off+(i:Int),1],G 82 [L,off+(i:Int),2],G 82 [L,off+(i:Int),3],G 82 [L,off+(i:Int),4],G 82 [L,off+(i:Int),5],G 82 [L,off+(i:Int),6]]) (run:=wV Try.prog) (fun _=>rfl) fits rfl eX (fun a ha=>aLW off n N (i:Int) (G 51 [L,off,(i:Int)]) (G 52 [L,off,(i:Int)]) (G 57 [L,off,(i:Int)]) (G 50 [L,off,(i:Int)]) L b0 b1 b2 b3 b4 b5 b6 a ha) (fun _ _ X hX hG=>bX hX hG) (fun _ _ X hX hG=>cQ) (fun a ha=>aNE off n N (i:Int) (G 51 [L,off,(i:Int)]) (G 52 [L,off,(i:Int)]) (G 57 [L,off,(i:Int)]) (G 50 [L,off,(i:Int)]) L a ha) (by decide) _ 0 (by show ((0:Nat):Int)≤_;omega) (by show (cK [G 51 [L,off,(i:Int)],G 52 [L,off,(i:Int)],G 82 [L,off+(i:Int),1],G 82 [L,off+(i:Int),2],G 82 [L,off+(i:Int),3],G 82 [L,off+(i:Int),4],G 82 [L,off+(i:Int),5],G 82 [L,off+(i:Int),6]]).toNat-0<_;omega)⟩
set_option maxHeartbeats 4000000 in
set_option maxRecDepth 100000 in
theorem aNf (off n N L:Int) (p0:0≤off) (hn:0≤n∧n≤256) (hl:off+n≤N) (hN:N=((Lc.dec L).length:Int)) (i:Nat) (hi:(i:Int)≤n):Sx.yE (vQ Try.prog) G (eL off n N L i) (bD G (eL off n N L) (eK ([off,n,N]++[L])) 3 (.lit true) (fun i=>(i:Int)≤n) (fun i=>n.toNat-i) i) []:=by
 refine aQ jT (fun h0=>?_) (fun h0=>?_)
 rotate_left
 ·skip
  refine aP aKX ?_
  unfold jT at h0;unfold aA7;simp only[nn,eL,List.cons_append,List.nil_append,Bool.or_eq_true,aY,ne_eq]at h0;have e:(i:Int)=n:=(by omega);clear h0;simp only[bD];refine⟨rfl,bF (by simp),?_⟩;simp only[aL];simp only[nn,eL,List.cons_append,List.nil_append,Bool.or_eq_true,aY,ne_eq];rw[e];(repeat' refine And.intro ?_ ?_)<;>first|with_reducible rfl|with_reducible trivial
 refine aQ nW (fun h1=>?_) (fun h1=>?_)
 rotate_left
 ·skip
  refine bE ?_
  unfold jT at h0;unfold nW at h1;simp only[nn,eL,List.cons_append,List.nil_append,Bool.or_eq_true,aY,ne_eq]at h0 h1;omega
 refine aQ nT (fun h2=>?_) (fun h2=>?_)
 ·skip
  refine aP aHR ?_
  unfold jT at h0;unfold nW at h1;unfold nT at h2;unfold aBF;simp only[nn,eL,List.cons_append,List.nil_append,Bool.or_eq_true,aY,ne_eq]at h0 h1 h2;have q:=aB6 (L:=L) (off:=off) (i:=(i:Int)) p0 (by omega) (by omega) (by first|exact h2|exact Classical.not_not.1 h2);have hm:n.toNat-(i+1)<n.toNat-i:=(by clear q h2;omega);have hg:((i+1:Nat):Int)≤n:=(by clear q h2;omega);clear h0 h1 h2;simp only[bD];refine⟨i+1,hg,hm,bF (by simp),?_⟩;simp only[aL];clear hm hg;simp only[nn,Int.natCast_add,Int.cast_ofNat_Int,Int.natCast_one,eL,List.cons_append,List.nil_append,Bool.or_eq_true,aY,ne_eq];(repeat' refine And.intro ?_ ?_)<;>first|with_reducible exact q.1|with_reducible exact q.2.1|with_reducible exact q.2.2.1|with_reducible exact q.2.2.2|with_reducible rfl|with_reducible trivial
 refine aP aHV ?_
 unfold jT at h0;unfold nW at h1;unfold nT at h2;unfold aBv;simp only[nn,eL,List.cons_append,List.nil_append,Bool.or_eq_true,aY,ne_eq]at h0 h1 h2;have q:=aHp (L:=L) (off:=off) (i:=(i:Int)) p0 (by omega) (by omega) (by first|exact h2|exact Classical.not_not.1 h2);have hm:n.toNat-(i+1)<n.toNat-i:=(by clear q h2;omega);have hg:((i+1:Nat):Int)≤n:=(by clear q h2;omega);clear h0 h1 h2;simp only[bD];refine⟨i+1,hg,hm,bF (by simp),?_⟩;simp only[aL];clear hm hg;simp only[nn,Int.natCast_add,Int.cast_ofNat_Int,Int.natCast_one,eL,List.cons_append,List.nil_append,Bool.or_eq_true,aY,ne_eq];(repeat' refine And.intro ?_ ?_)<;>first|with_reducible exact q.1|with_reducible exact q.2.1|with_reducible exact q.2.2.1|with_reducible exact q.2.2.2|with_reducible rfl|with_reducible trivial
def yT:List (Int × Int):=[(0,300),(0,256),(0,256),(0,256)]
def rZ:List (Int × Int):=[(0,300),(0,256),(0,256)]
def rS:B:=(.cmp .le (.op .add (.var 0) (.var 1)) (.var 2))
def aOx:St:=⟨[(.vsl 0 7 (.var 0) (.var 1) none),(.func (.func 22) [] []),.any,.any,.any,.any,.any,(.int .i64 (.var 1)),(.int .i64 (.var 3)),.any,.any,.any,.any,.any,.any,.any,.any,.any,.any],[some ([.vec [.int .u8,.int .i32,.int .i32,.int .i32,.int .i32,.int .i32,.int .i32] (.var 4) (.var 2) true],bA)]⟩
def aMS:St:=⟨[.any,.any,.any,.any,(.int .i64 (.app 53 (.cons (.var 3) (.cons (.var 0) (.cons (.var 1) .nil))))),.any,.any,.any,.any,.any,.any,.any,.any,.any,.any,.any,.any,.any,.any],[some ([.vec [.int .u8,.int .i32,.int .i32,.int .i32,.int .i32,.int .i32,.int .i32] (.var 3) (.var 2) true],bA)]⟩
def aMT:St:=⟨[.any,.any,.any,.any,.any,.any,.any,.any,.any,.any,.any,.any,.any,.any,.any,.any,.any,.any,.any],[some ([.vec [.int .u8,.int .i32,.int .i32,.int .i32,.int .i32,.int .i32,.int .i32] (.var 3) (.var 2) true],bA)]⟩
def aJ3:LoopS:=⟨3,1,aOx,(.cmp .le (.lit 0) (.app 53 (.cons (.var 3) (.cons (.var 0) (.cons (.var 1) .nil))))),.ret,aMS,.exit 0,aMT⟩
def aII:LoopU:=⟨aJ3,[(.var 0),(.var 1),(.var 2),(.lit 0),(.var 3)],yT,.lit true⟩
def sW (P:Program) (fs:List B):Res SV:=bY G GI yT fs fun X=>gX P X GB dE dP 4000 (cF (bQ P 21) 0) aJ3
def aJr:eG:=fP 2 (eJ (bK GB) [aII]) dP
def aKP:FunS:=⟨[(.vsl 0 7 (.var 0) (.var 1) none),(.func (.func 22) [] [])],[some ([.vec [.int .u8,.int .i32,.int .i32,.int .i32,.int .i32,.int .i32,.int .i32] (.var 3) (.var 2) true],bA)],.lit true,(.int .i64 (.app 53 (.cons (.var 3) (.cons (.var 0) (.cons (.var 1) .nil))))),[some ([.vec [.int .u8,.int .i32,.int .i32,.int .i32,.int .i32,.int .i32,.int .i32] (.var 3) (.var 2) true],bA)],(.int .i64 (.app 53 (.cons (.var 3) (.cons (.var 0) (.cons (.var 1) .nil))))),[some ([.vec [.int .u8,.int .i32,.int .i32,.int .i32,.int .i32,.int .i32,.int .i32] (.var 3) (.var 2) true],bA)]⟩
def aER (P:Program) (fs:List B):Res SV:=bY G GI rZ fs fun X=>gA P X GB dE aJr 4000 21 aKP
def aN4:St:=⟨[(.vsl 0 7 (.var 0) (.var 1) none),(.func (.func 15) [] []),.any,.any,.any,.any,.any,(.int .i64 (.var 1)),(.int .i64 (.var 3)),.any,.any,.any,.any,.any,.any,.any,.any,.any,.any],[some ([.vec [.int .u8,.int .i32,.int .i32,.int .i32,.int .i32,.int .i32,.int .i32] (.var 4) (.var 2) true],bA)]⟩
def aNh:St:=⟨[.any,.any,.any,.any,(.int .i64 (.app 56 (.cons (.var 3) (.cons (.var 0) (.cons (.var 1) .nil))))),.any,.any,.any,.any,.any,.any,.any,.any,.any,.any,.any,.any,.any,.any],[some ([.vec [.int .u8,.int .i32,.int .i32,.int .i32,.int .i32,.int .i32,.int .i32] (.var 3) (.var 2) true],bA)]⟩
def aNt:St:=⟨[.any,.any,.any,.any,.any,.any,.any,.any,.any,.any,.any,.any,.any,.any,.any,.any,.any,.any,.any],[some ([.vec [.int .u8,.int .i32,.int .i32,.int .i32,.int .i32,.int .i32,.int .i32] (.var 3) (.var 2) true],bA)]⟩
def aIR:LoopS:=⟨3,1,aN4,(.cmp .le (.lit 0) (.app 56 (.cons (.var 3) (.cons (.var 0) (.cons (.var 1) .nil))))),.ret,aNh,.exit 0,aNt⟩
def aJD:LoopU:=⟨aIR,[(.var 0),(.var 1),(.var 2),(.lit 0),(.var 3)],yT,.lit true⟩
def rW (P:Program) (fs:List B):Res SV:=bY G GI yT fs fun X=>gX P X GB dE dP 4000 (cF (bQ P 21) 0) aIR
def aJg:eG:=fP 2 (eJ (bK GB) [aJD]) dP
def aHQ:FunS:=⟨[(.vsl 0 7 (.var 0) (.var 1) none),(.func (.func 15) [] [])],[some ([.vec [.int .u8,.int .i32,.int .i32,.int .i32,.int .i32,.int .i32,.int .i32] (.var 3) (.var 2) true],bA)],.lit true,(.int .i64 (.app 56 (.cons (.var 3) (.cons (.var 0) (.cons (.var 1) .nil))))),[some ([.vec [.int .u8,.int .i32,.int .i32,.int .i32,.int .i32,.int .i32,.int .i32] (.var 3) (.var 2) true],bA)],(.int .i64 (.app 56 (.cons (.var 3) (.cons (.var 0) (.cons (.var 1) .nil))))),[some ([.vec [.int .u8,.int .i32,.int .i32,.int .i32,.int .i32,.int .i32,.int .i32] (.var 3) (.var 2) true],bA)]⟩
def aEp (P:Program) (fs:List B):Res SV:=bY G GI rZ fs fun X=>gA P X GB dE aJg 4000 21 aHQ
end Go.Proofs.Ythiehfhphgkaeaa
