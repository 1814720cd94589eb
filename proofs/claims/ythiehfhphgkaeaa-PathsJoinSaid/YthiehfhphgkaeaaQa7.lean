/- What is proved: the same twice,as it is told (sl). No condition but the numbers' own bounds. -/
import Derived.Test.YthiehfhphgkaeaaQa1
import Derived.Test.YthiehfhphgkaeaaQa6
import Derived.Test.YthiehfhphgkaeaaQa5
import Derived.Test.YthiehfhphgkaeaaQg4
import Derived.Test.YthiehfhphgkaeaaProg
set_option linter.unusedSimpArgs false
set_option linter.unusedVariables false
namespace Go.Proofs.Ythiehfhphgkaeaa
open Go Go.RowKit Sx Wi
def jT (n kc:Int) (a:Nat):Nat→Int:=eT ([n]++[(a:Int),kc])
theorem aKS (n kc:Int) (b0:0≤n∧n≤10000) (a:Nat) (ha:(a:Int)≤n):∀ i q,aEo[i]?=some q→q.1≤jT n kc a i∧jT n kc a i≤q.2:=by
 unfold jT aEo
 exact cQ (xs:=[n,(a:Int)]) (ls:=[kc]) (by exact⟨b0,by omega,trivial⟩)
set_option maxHeartbeats 4000000 in
set_option maxRecDepth 100000 in
theorem aMN (n kc:Int) (a:Nat) (ha:(a:Int)≤n):Sx.Way (vX Try.prog) G (jT n kc a) (bV G (jT n kc) (eT ([n]++[kc])) 1 (.lit true) (fun a=>(a:Int)≤n) (fun a=>n.toNat-a) a) []:=by
 refine aS mN (fun h0=>?_) (fun h0=>?_)
 ·skip
  refine aQ aIt ?_
  unfold mN at h0;simp only[nn,jT,List.cons_append,List.nil_append,Bool.or_eq_true,bF,ne_eq]at h0;have hm:n.toNat-(a+1)<n.toNat-a:=(by omega);have hg:((a+1:Nat):Int)≤n:=(by omega);clear h0;simp only[bV];refine⟨a+1,hg,hm,cJ (by simp),?_⟩;simp only[aR];clear hm hg;simp only[nn,Int.natCast_add,Int.cast_ofNat_Int,Int.natCast_one,jT,List.cons_append,List.nil_append,Bool.or_eq_true,bF,ne_eq];all_goals ((repeat' refine And.intro ?_ ?_)<;>first|with_reducible rfl|with_reducible trivial)
 refine aQ aHr ?_
 unfold mN at h0;simp only[bV];refine⟨rfl,cJ (by simp),?_⟩;simp only[aR];simp only[nn,jT,List.cons_append,List.nil_append,Bool.or_eq_true,bF,ne_eq];all_goals ((repeat' refine And.intro ?_ ?_)<;>first|with_reducible rfl|with_reducible trivial)
theorem aHJ:bB (cH Try.prog 12)=[dJ (cH Try.prog 12) 0]:=by kernel_rfl
set_option maxHeartbeats 1000000 in
set_option maxRecDepth 100000 in
theorem aLS (n kc:Int) (b0:0≤n∧n≤10000):dW Try.prog G GB 12 aMh (eT ([n]++[kc])):=by
 refine cP (lp:=aLA) (run:=aJS Try.prog) (fun _=>rfl) fits (cQ (xs:=[n]) (ls:=[kc]) (by exact⟨b0,trivial⟩)) eK (fun X hX hG=>aBa hX hG) (fun X hX hG fn c hf hc=>?_) rfl ?_
 ·refine fT ((congrArg bB (gU hf hc)).symm.trans aHJ) ?_
  intro b hb
  simp only[List.mem_cons,List.mem_nil_iff,or_false]at hb
  subst hb
  refine iB hX hG (by kernel_rfl) ?_
  intro p hp'
  simp only[List.mem_cons,List.mem_nil_iff,or_false]at hp'
  subst hp'
  intro _ _
  have e:fK G (eT ([n]++[kc])) aM8.es=jT n kc 0:=by
   rw[eM]
   rfl
  rw[e]
  exact⟨n.toNat+1,dT (ι:=Nat) (ρ:=jT n kc) (ρT:=eT ([n]++[kc])) (m:=fun a=>n.toNat-a) (Good:=fun a=>(a:Int)≤n) (run:=vX Try.prog) (fun _=>rfl) fits rfl eK (fun a ha=>aKS n kc b0 a ha) (fun _ _ X hX hG=>aBa hX hG) (fun _ _ X hX hG=>cO) (fun a ha=>aMN n kc a ha) (by decide) (n.toNat+1) 0 (by show ((0:Nat):Int)≤n;omega) (by show n.toNat-0<n.toNat+1;omega)⟩
 ·skip
  refine aQ aIE ?_
  exact⟨rfl,trivial⟩
def aAN:Ctx→List SV→aG→Res (SV × aG):=dL GB aC2 1 (.lit true) aMh
theorem aNe {X:Ctx} {ρ:Nat→Int} (hX:X.Ok ρ) (hG:X.G=G):eZ Try.prog X ρ GB 12 aAN:=by
 obtain⟨XG,XI,XV,XF⟩:=X
 simp only at hG
 subst hG
 refine cL hX ?_
 intro xs ls hw hl hp
 unfold aC2 at hw
 obtain⟨x0,y0,e0,b0,h0⟩:=eF hw
 have e1:=oS h0
 subst e1 e0
 obtain⟨l0,rfl⟩:=rX hl
 exact aLS x0 l0 b0
end Go.Proofs.Ythiehfhphgkaeaa
namespace Go.Proofs.Ythiehfhphgkaeaa
open Go Go.RowKit Sx
def oI (go:TypeId→Option (List CK)) (P:Program):List Field→Nat→Option (List CK)
 |[],_=>some []
 |f::fs,o=>if f.offset=o then match go f.type with
   |some a=>if a.length=P.cellsOf f.type then match oI go P fs (o+a.length)with
     |some b=>some (a++b)
     |none=>none
    else none
   |none=>none
  else none
def jI (P:Program):Nat→TypeId→Option (List CK)
 |0,_=>none
 |d+1,t=>match P.underlying t with
  |some .bool=>some [.bool]
  |some (.int k)=>some [.int k]
  |some (.struct fs)=>match oI (jI P d) P fs.toList 0 with
   |some a=>if a.length=P.cellsOf t then some a else none
   |none=>none
  |some (.array n e)=>match jI P d e with
   |some a=>if a.length=P.cellsOf e∧n*a.length=P.cellsOf t then some (List.replicate n a).flatten else none
   |none=>none
  |_=>none
theorem xN {go:TypeId→Option (List CK)} {P:Program}:∀ {fs:List Field} {o:Nat} {ks:List CK},oI go P fs o=some ks→∀ (i:Nat) (g:Field),fs[i]?=some g→o≤g.offset
 |[],o,ks,h,i,g,e=>by simp at e
 |f::fs,o,ks,h,i,g,e=>by
  unfold oI at h
  split at h
  case isFalse=>cases h
  rename_i ho
  split at h
  case h_2=>cases h
  split at h
  case isFalse=>cases h
  split at h
  case h_2=>cases h
  rename_i b hb
  cases i with
  |zero=>simp only[List.getElem?_cons_zero,Option.some.injEq]at e;subst e;omega
  |succ i=>have:=xN hb i g (by simpa using e);omega
def pP:CK→Int→Prop
 | .int k,n=>k.min≤n∧n≤k.max
 | .bool,n=>n=0∨n=1
def Kin (ks:List CK) (cs:List Value):Prop:=cs.length=ks.length∧∀ (i:Nat) (k:CK),ks[i]?=some k→∃ n,cs[i]?=some (k.mk n)∧pP k n
theorem Kin.append {a b:List CK} {xs ys:List Value} (h:Kin a xs) (g:Kin b ys):Kin (a++b) (xs++ys):=by
 refine⟨by rw[List.length_append,List.length_append,h.1,g.1],fun i k e=>?_⟩
 rcases Nat.lt_or_ge i a.length with q|q
 ·rw[List.getElem?_append_left q]at e
  rw[List.getElem?_append_left (by rw[h.1];exact q)]
  exact h.2 i k e
 ·rw[List.getElem?_append_right q]at e
  rw[List.getElem?_append_right (by rw[h.1];exact q),h.1]
  exact g.2 _ k e
theorem Kin.row {ks:List CK} {cs:List Value} (h:Kin ks cs):∃ r:List Int,r.length=ks.length∧cs=dQ ks r∧∀ (i:Nat) (k:CK),ks[i]?=some k→pP k (r.getD i 0):=by
 classical
 obtain⟨f,hf⟩:∃ f:Nat→Int,∀ (i:Nat) (k:CK),ks[i]?=some k→cs[i]?=some (k.mk (f i))∧pP k (f i):=by
  refine⟨fun i=>if q:∃ n,∀ k,ks[i]?=some k→cs[i]?=some (k.mk n)∧pP k n then q.choose else 0,fun i k e=>?_⟩
  have q:∃ n,∀ k,ks[i]?=some k→cs[i]?=some (k.mk n)∧pP k n:=by
   obtain⟨n,h1,h2⟩:=h.2 i k e
   refine⟨n,fun k' e'=>?_⟩
   rw[e]at e';cases e'
   exact⟨h1,h2⟩
  simp only[dif_pos q]
  exact q.choose_spec k e
 have hg:∀ i,i<ks.length→((List.range ks.length).map f).getD i 0=f i:=fun i hi=>by simp [List.getD,hi]
 refine⟨(List.range ks.length).map f,by simp,?_,fun i k e=>?_⟩
 ·apply List.ext_getElem?
  intro i
  unfold dQ
  rw[List.getElem?_map,List.getElem?_zipIdx]
  cases e:ks[i]? with
  |none=>
   have:=List.getElem?_eq_none_iff.1 e
   rw[List.getElem?_eq_none (show cs.length≤i by rw[h.1];exact this)];rfl
  |some k=>
   rw[(hf i k e).1]
   simp only[Option.map_some,Nat.zero_add]
   rw[hg i (List.getElem?_eq_some_iff.1 e).1]
 ·rw[hg i (List.getElem?_eq_some_iff.1 e).1];exact(hf i k e).2
theorem aIs {k:IntKind} {n:Int} (h:(Lit.int k n).wf=true):CK.mk (.int k) n = .int k n∧pP (.int k) n:=by
 simp only[Lit.wf,Bool.and_eq_true,decide_eq_true_eq]at h
 refine⟨?_,h⟩
 show Value.int k (k.wrap n)=_
 rw[aAu k n h.1 h.2]
section
variable {H:Type} {enc:TypeId × Value→H} {P:Program} {w:World} {base:Nat} {spare:Nat→Bool} {held:Bool}
theorem yH {go:TypeId→Option (List CK)} {fuel:Nat} (hgo:∀ t ks cs x,go t=some ks→DataW.trod enc P w base spare held fuel t cs=some x→Kin ks cs):∀ (fs:List Field) (o:Nat) (ks:List CK) (cs:List Value),oI go P fs o=some ks→
  (∀ (i:Nat) (f:Field),fs[i]?=some f→∃ x,DataW.trod enc P w base spare held fuel f.type ((cs.drop (f.offset-o)).take (P.cellsOf f.type))=some x)→cs.length=ks.length→Kin ks cs
 |[],o,ks,cs,hk,h,hl=>by
  simp only[oI,Option.some.injEq]at hk
  subst hk
  exact⟨hl,fun i k e=>by simp at e⟩
 |f::fs,o,ks,cs,hk,h,hl=>by
  unfold oI at hk
  split at hk
  case isFalse=>cases hk
  rename_i ho
  split at hk
  case h_2=>cases hk
  rename_i a ha
  split at hk
  case isFalse=>cases hk
  rename_i hal
  split at hk
  case h_2=>cases hk
  rename_i b hb
  cases hk
  obtain⟨x,hx⟩:=h 0 f rfl
  rw[ho,Nat.sub_self,List.drop_zero,←hal]at hx
  have k1:=hgo f.type a _ x ha hx
  rw[List.length_append]at hl
  have k2:=yH hgo fs (o+a.length) b (cs.drop a.length) hb (by
   intro i g hg
   obtain⟨y,hy⟩:=h (i+1) g (by simpa using hg)
   refine⟨y,?_⟩
   rw[List.drop_drop]
   have hge:o+a.length≤g.offset:=xN hb i g hg
   rw[show a.length+(g.offset-(o+a.length))=g.offset-o by omega]
   exact hy) (by rw[List.length_drop];omega)
  have:=Kin.append k1 k2
  rwa [List.take_append_drop]at this
theorem vR:∀ (d:Nat) (t:TypeId) (ks:List CK) (fuel:Nat) (cs:List Value) (x:DataW H × List MemPlace),jI P d t=some ks→DataW.trod enc P w base spare held fuel t cs=some x→Kin ks cs
 |0,t,ks,fuel,cs,x,hk,h=>by simp [jI]at hk
 |d+1,t,ks,fuel,cs,x,hk,h=>by
  unfold jI at hk
  split at hk
  ·rename_i hu
   cases hk
   obtain⟨b,rfl,_⟩:=DataW.trod_bool hu h
   refine⟨rfl,fun i k e=>?_⟩
   match i,e with
   |0,e=>
    cases e
    exact⟨if b then 1 else 0,by cases b<;>rfl,by cases b;exact .inl rfl;exact .inr rfl⟩
  ·rename_i k0 hu
   cases hk
   obtain⟨n,rfl,_,hw⟩:=DataW.trod_int hu h
   refine⟨rfl,fun i k e=>?_⟩
   match i,e with
   |0,e=>
    cases e
    exact⟨n,by rw[(aIs hw).1];rfl,(aIs hw).2⟩
  ·rename_i fs hu
   split at hk
   case h_2=>cases hk
   rename_i a ha
   split at hk
   case isFalse=>cases hk
   rename_i hl
   cases hk
   obtain⟨xs,n,rfl,_,hcl,hxl,hf⟩:=DataW.trod_struct hu h
   have:=yH (fun t ks cs x=>vR d t ks n cs x) fs.toList 0 ks (cs.drop 0) ha (by
    intro i f hfi
    have e:=hf i f (by simpa using hfi)
    have hi:i<xs.length:=by rw[hxl];have:=(List.getElem?_eq_some_iff.1 hfi).1;simpa using this
    refine⟨xs[i],?_⟩
    rw[List.drop_zero,Nat.sub_zero,e];simp [hi]) (by rw[List.drop_zero,hcl,hl])
   simpa using this
  ·rename_i n e hu
   split at hk
   case h_2=>cases hk
   rename_i a ha
   split at hk
   case isFalse=>cases hk
   rename_i hl
   cases hk
   obtain⟨xs,m,rfl,_,hcl,hxl,hf⟩:=DataW.trod_array hu h
   have key:∀ j,j≤n→Kin (List.replicate j a).flatten (cs.take (j*a.length)):=by
    intro j
    induction j with
    |zero=>intro _;exact⟨by simp,fun i k e=>by simp at e⟩
    |succ j ih=>
     intro hj
     have e1:=hf j (by omega)
     rw[←hl.1]at e1
     have k1:=vR d e a m _ xs[j] ha (by rw[e1];simp [hxl,show j<n by omega])
     have e2:cs.take ((j+1)*a.length)=cs.take (j*a.length)++(cs.drop (j*a.length)).take a.length:=by
      rw[Nat.succ_mul,List.take_add]
     rw[e2,List.replicate_succ',List.flatten_append]
     simpa using Kin.append (ih (by omega)) k1
   have:=key n (Nat.le_refl _)
   rw[hl.2,←hcl,List.take_length]at this
   exact this
  ·cases hk
end
theorem yY {H:Type} {enc:TypeId × Value→H} {P:Program} {W:World} {base base' d0:Nat} {spare:Nat→Bool} {held:Bool} {t e:TypeId} {v:Value} {d:DataW H} {p:List MemPlace} (ks:List CK)
  (hu:P.underlying t=some (.slice e)) (hk:jI P d0 e=some ks) (hce:ks.length=P.cellsOf e) (hpos:0<ks.length)
  (hok:Value.okWide P W .any base t v) (htr:DataW.Trod enc P W base' spare held t v d p):
  ∃ (b:Sx.Loc) (L:List (List Int)),v=(if b.nil then .slice none 0 0 else .slice (some ⟨b.blk,b.base,none⟩) L.length b.cap)∧(b.nil=true→L=[]∧b.cap=0)∧L.length≤b.cap∧L.length≤9223372036854775807∧(b.nil=true∨b.blk<W.heap.size)∧
   (∀ r,r ∈ L→r.length=ks.length∧∀ (i:Nat) (k:CK),ks[i]?=some k→pP k (r.getD i 0))∧jB b W.heap[b.blk]? [aLm ks L true]∧b.sub=bR:=by
 obtain⟨fuel,htr⟩:=htr
 have hvs:∃ a len cap,v = .slice a len cap:=Go.WideShapes.okWide_slice hu hok
 obtain⟨a0,len0,cap0,rfl⟩:=hvs
 rcases DataW.trod_slice hu htr with⟨h,_⟩|⟨a,len,cap,elems,rest,n,_,h,_,hb,hl,hc,hel,hrd,_⟩
 ·have h:a0=none∧len0=0∧cap0=0:=by simpa [Value.cells]using h
  obtain⟨rfl,rfl,rfl⟩:=h
  refine⟨⟨0,0,true,0,bR⟩,[],rfl,fun _=>⟨rfl,rfl⟩,by simp,by simp,.inl rfl,(fun r hr=>nomatch hr),?_,rfl⟩
  exact⟨_,ks.length,true,rfl,hpos,.inl ⟨rfl,rfl⟩⟩
 ·have h:a0=some a∧len0=len∧cap0=cap:=by simpa [Value.cells]using h
  obtain⟨rfl,rfl,rfl⟩:=h
  have hsp:a.spot=none∧∃ cs T fz,W.heap[a.block]?=some (.cells cs T fz):=by
   unfold Value.okWide at hok
   rw[hu]at hok
   simp only at hok
   unfold Cell.okWide at hok
   rw[hu]at hok
   simp only at hok
   unfold Cell.ok at hok
   rw[hu]at hok
   simp only at hok
   obtain⟨_,_,_,h2,row,cells,h3,_⟩:=hok
   refine⟨h2,?_⟩
   unfold World.shape? at h3
   split at h3
   ·exact⟨_,_,_,by assumption⟩
   ·cases h3
  obtain⟨ablk,aoff,aspot⟩:=a
  obtain⟨rfl,ccs,cT,cfz,hcc⟩:=hsp
  simp only at hcc hb
  have hlt:ablk<W.heap.size:=(Array.getElem?_eq_some_iff.1 hcc).1
  have one:∀ i,i<len0→∃ r:List Int,(r.length=ks.length∧∀ (j:Nat) (k:CK),ks[j]?=some k→pP k (r.getD j 0))∧∀ j u,(dQ ks r)[j]?=some u→W.cell? ⟨ablk,aoff+(i*ks.length+j),none⟩=some u:=by
   intro i hi
   have h1:=hrd i hi
   have h2:elems[i]?=some elems[i]:=by simp [hel,hi]
   rw[h2,Option.bind_eq_some_iff]at h1
   obtain⟨cs,h3,h4⟩:=h1
   have h5:=vR d0 e ks n cs _ hk h4
   obtain⟨r,r1,r2,r3⟩:=h5.row
   refine⟨r,⟨r1,r3⟩,fun j u hu=>?_⟩
   rw[←r2]at hu
   unfold World.cells? at h3
   split at h3
   case isFalse=>cases h3
   have hj:j<P.cellsOf e:=by
    have:=(List.getElem?_eq_some_iff.1 hu).1
    rw[h5.1,hce]at this;exact this
   have h6:=mapM_some_get h3 j j (by simp [hj])
   rw[hu]at h6
   rw[←h6,bJ,bJ,hce,Nat.add_assoc]
  classical
  obtain⟨f,hf⟩:∃ f:Nat→List Int,∀ i,i<len0→((f i).length=ks.length∧∀ (j:Nat) (k:CK),ks[j]?=some k→pP k ((f i).getD j 0))∧∀ j u,(dQ ks (f i))[j]?=some u→W.cell? ⟨ablk,aoff+(i*ks.length+j),none⟩=some u:=by
   refine⟨fun i=>if q:i<len0 then (one i q).choose else [],fun i hi=>?_⟩
   simp only[dif_pos hi]
   exact(one i hi).choose_spec
  obtain⟨L,hL⟩:∃ L,L=(List.range len0).map f:=⟨_,rfl⟩
  have hLl:L.length=len0:=by rw[hL];simp
  have hmem:∀ r,r ∈ L→∃ i,i<len0∧r=f i:=by
   intro r hr
   rw[hL]at hr
   obtain⟨i,hi,rfl⟩:=List.mem_map.1 hr
   exact⟨i,by simpa using hi,rfl⟩
  refine⟨⟨ablk,cap0,false,aoff,bR⟩,L,by rw[hLl];rfl,(fun q=>by cases q),by rw[hLl];exact hl,by rw[hLl];unfold maxLen at hc;omega,.inr hlt,fun r hr=>?_,?_,rfl⟩
  ·obtain⟨i,hi,rfl⟩:=hmem r hr
   exact(hf i hi).1
  ·refine⟨_,ks.length,true,rfl,hpos,.inr ⟨rfl,?_⟩⟩
   have hcell:∀ i u,(aH ks L)[i]?=some u→W.cell? ⟨ablk,aoff+i,none⟩=some u:=by
    intro i u hi
    have hlt2:=(List.getElem?_eq_some_iff.1 hi).1
    rw[aU,hLl]at hlt2
    have hq:i / ks.length<len0:=Nat.div_lt_of_lt_mul (by rw[Nat.mul_comm];exact hlt2)
    have hm:i % ks.length<ks.length:=Nat.mod_lt _ hpos
    have e0:i=i / ks.length*ks.length+i % ks.length:=by rw[Nat.mul_comm];exact(Nat.div_add_mod i ks.length).symm
    have e1:(aH ks L)[i / ks.length*ks.length+i % ks.length]?=some ((ks[i % ks.length]).mk ((L.getD (i / ks.length) []).getD (i % ks.length) 0)):=dU (by simp [hm]) L _ (by rw[hLl];exact hq)
    rw[←e0,hi]at e1
    have e2:L.getD (i / ks.length) []=f (i / ks.length):=by rw[hL];simp [List.getD,hq]
    have e3:(dQ ks (f (i / ks.length)))[i % ks.length]?=some ((ks[i % ks.length]).mk ((f (i / ks.length)).getD (i % ks.length) 0)):=by
     unfold dQ
     rw[List.getElem?_map,List.getElem?_zipIdx]
     simp [hm]
    rw[e2,←e3]at e1
    have:=(hf _ hq).2 _ u e1.symm
    rwa [←e0]at this
   refine⟨ccs,cT,cfz,hcc,fun i u hi=>?_⟩
   have:=hcell i u hi
   simpa [World.cell?,hcc]using this
theorem aGu {G:Nat→List Int→Int} {ρ:Nat→Int} {W:World} (vs:List (Sx.Loc × List SV)) (h:∀ q,q ∈ vs→(q.1.nil=true∨q.1.blk<W.heap.size)∧q.1.sub=bR∧∃ us,jB q.1 W.heap[q.1.blk]? us∧SV.RL G ρ (fun _=>none) q.2 us):
  RelW G ρ [] (fun id=>(vs[id]?).map (·.1)) (vs.map fun q=>some (q.2,bC)) W:=by
 have hvis:∀ id,¬fH (vs.map fun q=>(some (q.2,bC):gI)) id:=by
  rintro id ⟨q,hq,hv⟩
  rw[List.getElem?_map]at hq
  cases e:vs[id]? with
  |none=>rw[e]at hq;cases hq
  |some p=>
   rw[e]at hq
   have:q=(p.2,bC):=by cases hq;rfl
   rw[this]at hv
   exact absurd hv (show ¬vw bC=false by decide)
 have get:∀ (id:Nat) (b:Sx.Loc),(vs[id]?).map (fun q:Sx.Loc × List SV=>q.1)=some b→∃ q:Sx.Loc × List SV,vs[id]?=some q∧q.1=b:=by
  intro id b e
  cases e2:vs[id]? with
  |none=>rw[e2]at e;cases e
  |some p=>rw[e2]at e;exact⟨p,rfl,by cases e;rfl⟩
 refine⟨fun id b e=>?_,fun i j b c _ _ _ _ _ vi _=>absurd vi (hvis i),fun id cs T e=>?_,(fun p hp=>nomatch hp),fun id cs T b _ _ _ _ j c _ _ _ vj=>absurd vj (hvis j),fun id b k us e z=>?_⟩
 ·obtain⟨q,hq,rfl⟩:=get id b e
  exact⟨by rw[List.length_map];exact(List.getElem?_eq_some_iff.1 hq).1,(h q (List.mem_of_getElem? hq)).1⟩
 ·rw[List.getElem?_map]at e
  cases e2:vs[id]? with
  |none=>rw[e2]at e;cases e
  |some p=>
   rw[e2]at e
   cases e
   obtain⟨_,_,us,h1,h2⟩:=h p (List.mem_of_getElem? e2)
   exact⟨p.1,us,rfl,(gR (by decide)).2 h1,SV.RL_mono (fun _ _ z=>by cases z) _ _ h2⟩
 ·obtain⟨q,hq,rfl⟩:=get id b e
  rw[(h q (List.mem_of_getElem? hq)).2.1]at z
  cases z
theorem aEb {G:Nat→List Int→Int} {ρ:Nat→Int} {α:aP} {ks:List CK} {L:List (List Int)} {C n:E} (h1:C.den G ρ=Lc.enc L) (h2:n.den G ρ=L.length):SV.RL G ρ α [.vec ks C n true] [aLm ks L true]:=by
 refine aV ?_ aY
 simp only[SV.R]
 rw[h1,Lc.dec_enc,h2]
 exact⟨rfl,rfl⟩
theorem aBd {G:Nat→List Int→Int} {ρ:Nat→Int} {α:aP} {id:Nat} {b:Sx.Loc} {L:List (List Int)} {n:E} {v:Value} (ha:α id=some b) (hn:n.den G ρ=L.length)
  (hv:v=(if b.nil then .slice none 0 0 else .slice (some ⟨b.blk,b.base,none⟩) L.length b.cap)) (hnil:b.nil=true→L=[]∧b.cap=0) (hle:L.length≤b.cap):SV.R G ρ α (.own id n none) v:=by
 simp only[SV.R]
 refine⟨b,ha,by omega,?_,fun q=>?_,by omega,fun e he _=>by cases he⟩
 ·rw[hn,Int.toNat_natCast];exact hv
 ·obtain⟨q1,q2⟩:=hnil q
  exact⟨by rw[hn,q1];rfl,q2⟩
theorem aLh {P:Program} {G:Nat→List Int→Int} {f:FuncId} {F:FunS} {ρ:Nat→Int} {W:World} {vals:List Value} {α:aP} (hF:dW P G [] f F ρ) (hW:RelW G ρ [] α F.H W) (hvis:∀ id,¬fH F.H id) (hv:SV.RL G ρ α F.args vals) (hb:F.b = .lit true) (hs:F.s1 = .bool (.lit true)):
  Calls P f vals.toArray W (fun e w'=>e = .returned (.bool true)∧Below W.heap.size W w'):=by
 obtain⟨_,hc⟩:=hF α W vals hW hv
 refine hc.mono ?_
 rintro e w' ⟨v,α',r,hr,rfl,rv,_,x⟩
 rw[hb]at hr
 have hr:r=true:=hr.symm
 subst hr
 rw[hs]at rv
 simp only[if_true,SV.R,B.den]at rv
 subst rv
 exact⟨rfl,x.os,x.tape,x.output,x.size,fun k hk=>x.hid k hk (fun id b _ _ _=>hvis id)⟩
theorem aAv (l:List (List SV)):∀ id,¬fH (l.map fun q=>(some (q,bC):gI)) id:=by
 rintro id ⟨q,hq,hv⟩
 rw[List.getElem?_map]at hq
 cases e:l[id]? with
 |none=>rw[e]at hq;cases hq
 |some p=>
  rw[e]at hq
  have:q=(p,bC):=by cases hq;rfl
  rw[this]at hv
  exact absurd hv (show ¬vw bC=false by decide)
end Go.Proofs.Ythiehfhphgkaeaa
namespace Go.Proofs.Ythiehfhphgkaeaa
open Go Go.RowKit Sx Wi
def aLE:aZ:=gG 12 aAN (gG 19 uX (gG 11 sP aLG))
theorem aIV {X:Ctx} {ρ:Nat→Int} (hX:X.Ok ρ) (hG:X.G=G):gW Try.prog X ρ GB aLE:=eE (aNe hX hG) (eE (aLy hX hG) (eE (aHN hX hG) (aJg hX hG)))
def aLR:List (Int × Int):=[(0,9223372036854775807),(0,9223372036854775807)]
def aNl:FunS:=⟨[(.own 0 (.var 0) none),(.own 1 (.var 1) none)],[some ([.vec [.int .u8,.int .i32,.int .i32,.int .i32,.int .i32,.int .i32,.int .i32] (.var 2) (.var 0) true],bC),some ([.vec [.int .u8,.int .i32,.int .i32,.int .i32,.int .i32,.int .i32,.int .i32] (.var 3) (.var 1) true],bC)],.lit true,.bool (.lit true),[none,none],.bool (.lit true),[none,none]⟩
def aHy (P:Program) (fs:List B):Res SV:=bW G GI aLR fs fun X=>fB P X GB aLE dK 4000 7 aNl
end Go.Proofs.Ythiehfhphgkaeaa
set_option maxRecDepth 100000
namespace Go.Proofs.Ythiehfhphgkaeaa
open Go Go.RowKit Sx Wi
def iK (P:Program) (fs:List B):Res SV:=aHy P fs
def aAP:List B:=[]
def cF:B:=(.cmp .lt (.lit 100) (.var 0))
def aIb:List B:=bA cF++aAP
def aCc:List B:=bA (B.neg cF)++aAP
def cN:B:=(.cmp .lt (.lit 100) (.var 1))
def aJo:List B:=bA cN++aCc
def aBW:List B:=bA (B.neg cN)++aCc
def cR:B:=(.and (.cmp .le (.var 0) (.lit 256)) (.cmp .eq (.app 55 (.cons (.var 2) (.cons (.var 0) .nil))) (.lit 1)))
def aA8:List B:=bA cR++aBW
def cB:B:=(.and (.cmp .le (.var 1) (.lit 256)) (.cmp .eq (.app 55 (.cons (.var 3) (.cons (.var 1) .nil))) (.lit 1)))
def aJw:List B:=bA cB++aA8
def bS:B:=(.and (.cmp .le (.op .add (.var 0) (.var 1)) (.lit 256)) (.cmp .eq (.app 55 (.cons (.app 94 (.cons (.app 94 (.cons (.lit 0) (.cons (.var 2) .nil))) (.cons (.var 3) .nil))) (.cons (.op .add (.var 0) (.var 1)) .nil))) (.lit 1)))
def aIG:List B:=bA bS++aJw
def eI:B:=(.cmp .eq (.op .add (.app 54 (.cons (.var 2) (.cons (.var 0) .nil))) (.app 54 (.cons (.var 3) (.cons (.var 1) .nil)))) (.app 54 (.cons (.app 94 (.cons (.app 94 (.cons (.lit 0) (.cons (.var 2) .nil))) (.cons (.var 3) .nil))) (.cons (.op .add (.var 0) (.var 1)) .nil))))
def aI6:List B:=bA eI++aIG
def eV:B:=(.cmp .eq (.app 94 (.cons (.app 94 (.cons (.lit 0) (.cons (.app 61 (.cons (.var 2) (.cons (.var 0) .nil))) .nil))) (.cons (.app 61 (.cons (.var 3) (.cons (.var 1) .nil))) .nil))) (.app 61 (.cons (.app 94 (.cons (.app 94 (.cons (.lit 0) (.cons (.var 2) .nil))) (.cons (.var 3) .nil))) (.cons (.op .add (.var 0) (.var 1)) .nil))))
def aBB:List B:=bA eV++aI6
def eX:B:=(.cmp .eq (.var 0) (.lit 0))
def aFT:List B:=bA eX++aBB
def aFY:List B:=bA (B.neg eX)++aBB
def fY:B:=(.cmp .lt (.op .sub (.var 0) (.lit 1)) (.var 0))
def zD:List B:=bA fY++aFY
def gA:B:=(.cmp .eq (.app 84 (.cons (.var 2) (.cons (.op .sub (.var 0) (.lit 1)) (.cons (.lit 0) .nil)))) (.lit 3))
def aEQ:List B:=bA gA++zD
def aGm:List B:=bA (B.neg gA)++zD
def gO:B:=(.and (.cmp .le (.op .add (.op .add (.var 0) (.lit 1)) (.var 1)) (.lit 256)) (.cmp .eq (.app 55 (.cons (.app 94 (.cons (.app 91 (.cons (.app 94 (.cons (.lit 0) (.cons (.var 2) .nil))) (.cons (.lit 3) (.cons (.lit 1) (.cons (.lit 2) (.cons (.lit 0) (.cons (.lit 0) (.cons (.lit 0) (.cons (.lit 0) .nil))))))))) (.cons (.var 3) .nil))) (.cons (.op .add (.op .add (.var 0) (.lit 1)) (.var 1)) .nil))) (.lit 1)))
def aEM:List B:=bA gO++aGm
def iO:B:=(.cmp .eq (.op .add (.app 54 (.cons (.var 2) (.cons (.var 0) .nil))) (.app 54 (.cons (.var 3) (.cons (.var 1) .nil)))) (.app 54 (.cons (.app 94 (.cons (.app 91 (.cons (.app 94 (.cons (.lit 0) (.cons (.var 2) .nil))) (.cons (.lit 3) (.cons (.lit 1) (.cons (.lit 2) (.cons (.lit 0) (.cons (.lit 0) (.cons (.lit 0) (.cons (.lit 0) .nil))))))))) (.cons (.var 3) .nil))) (.cons (.op .add (.op .add (.var 0) (.lit 1)) (.var 1)) .nil))))
def aF8:List B:=bA iO++aEM
def kF:B:=(.cmp .eq (.app 54 (.cons (.app 94 (.cons (.app 94 (.cons (.lit 0) (.cons (.var 2) .nil))) (.cons (.var 3) .nil))) (.cons (.op .add (.var 0) (.var 1)) .nil))) (.app 54 (.cons (.app 94 (.cons (.app 91 (.cons (.app 94 (.cons (.lit 0) (.cons (.var 2) .nil))) (.cons (.lit 3) (.cons (.lit 1) (.cons (.lit 2) (.cons (.lit 0) (.cons (.lit 0) (.cons (.lit 0) (.cons (.lit 0) .nil))))))))) (.cons (.var 3) .nil))) (.cons (.op .add (.op .add (.var 0) (.lit 1)) (.var 1)) .nil))))
def aEs:List B:=bA kF++aF8
def nL:B:=(.cmp .eq (.app 61 (.cons (.app 94 (.cons (.app 94 (.cons (.lit 0) (.cons (.var 2) .nil))) (.cons (.var 3) .nil))) (.cons (.op .add (.var 0) (.var 1)) .nil))) (.app 61 (.cons (.app 94 (.cons (.app 91 (.cons (.app 94 (.cons (.lit 0) (.cons (.var 2) .nil))) (.cons (.lit 3) (.cons (.lit 1) (.cons (.lit 2) (.cons (.lit 0) (.cons (.lit 0) (.cons (.lit 0) (.cons (.lit 0) .nil))))))))) (.cons (.var 3) .nil))) (.cons (.op .add (.op .add (.var 0) (.lit 1)) (.var 1)) .nil))))
def aGa:List B:=bA nL++aEs
def yX:List B:=bA (B.neg cB)++aA8
def aFe:List B:=bA bS++yX
def aEZ:List B:=bA (B.neg bS)++yX
def xV:List B:=bA (B.neg cR)++aBW
def aFJ:List B:=bA cB++xV
def aFm:List B:=bA (B.neg bS)++aFJ
def aGD:List B:=bA (B.neg cB)++xV
def aGj:List B:=bA (B.neg bS)++aGD
end Go.Proofs.Ythiehfhphgkaeaa
set_option maxRecDepth 100000
namespace Go.Proofs.Ythiehfhphgkaeaa
open Go Go.RowKit Sx Wi
theorem aJb:iK Try.prog aIb = .ok (.tuple [(.agg []),(.bool (.lit true))]):=by kernel_rfl
end Go.Proofs.Ythiehfhphgkaeaa
set_option maxRecDepth 100000
namespace Go.Proofs.Ythiehfhphgkaeaa
open Go Go.RowKit Sx Wi
theorem aJ4:iK Try.prog aJo = .ok (.tuple [(.agg []),(.bool (.lit true))]):=by kernel_rfl
end Go.Proofs.Ythiehfhphgkaeaa
set_option maxRecDepth 100000
namespace Go.Proofs.Ythiehfhphgkaeaa
open Go Go.RowKit Sx Wi
theorem aGz:iK Try.prog aFT = .ok (.tuple [(.agg []),(.bool (.lit true))]):=by kernel_rfl
end Go.Proofs.Ythiehfhphgkaeaa
set_option maxRecDepth 100000
namespace Go.Proofs.Ythiehfhphgkaeaa
open Go Go.RowKit Sx Wi
theorem aFo:iK Try.prog aEQ = .ok (.tuple [(.agg []),(.bool (.lit true))]):=by kernel_rfl
end Go.Proofs.Ythiehfhphgkaeaa
set_option maxRecDepth 100000
namespace Go.Proofs.Ythiehfhphgkaeaa
open Go Go.RowKit Sx Wi
theorem aFP:iK Try.prog aGa = .ok (.tuple [(.agg []),(.bool (.lit true))]):=by kernel_rfl
end Go.Proofs.Ythiehfhphgkaeaa
set_option maxRecDepth 100000
namespace Go.Proofs.Ythiehfhphgkaeaa
open Go Go.RowKit Sx Wi
theorem aFw:iK Try.prog aFe = .ok (.tuple [(.agg []),(.bool (.lit true))]):=by kernel_rfl
end Go.Proofs.Ythiehfhphgkaeaa
set_option maxRecDepth 100000
namespace Go.Proofs.Ythiehfhphgkaeaa
open Go Go.RowKit Sx Wi
theorem aFg:iK Try.prog aEZ = .ok (.tuple [(.agg []),(.bool (.lit true))]):=by kernel_rfl
end Go.Proofs.Ythiehfhphgkaeaa
set_option maxRecDepth 100000
namespace Go.Proofs.Ythiehfhphgkaeaa
open Go Go.RowKit Sx Wi
theorem aE5:iK Try.prog aFm = .ok (.tuple [(.agg []),(.bool (.lit true))]):=by kernel_rfl
end Go.Proofs.Ythiehfhphgkaeaa
set_option maxRecDepth 100000
namespace Go.Proofs.Ythiehfhphgkaeaa
open Go Go.RowKit Sx Wi
theorem aEX:iK Try.prog aGj = .ok (.tuple [(.agg []),(.bool (.lit true))]):=by kernel_rfl
end Go.Proofs.Ythiehfhphgkaeaa
namespace Go.Proofs.Ythiehfhphgkaeaa
open Go Go.RowKit Sx Wi
theorem oN {p q:Prop} [Decidable p] [Decidable q] (h:(decide p && decide q)=false):¬(p∧q):=fun z=>by simp [z.1,z.2]at h
theorem zX {n:Int} (h:0≤n) (h0:¬n=0):1≤n:=by omega
set_option maxHeartbeats 1000000 in
set_option maxRecDepth 100000 in
theorem aLX (n m L M:Int) (b0:0≤n∧n≤9223372036854775807) (b1:0≤m∧m≤9223372036854775807) (hN:n=((Lc.dec L).length:Int)) (hM:m=((Lc.dec M).length:Int)):dW Try.prog G GB 7 aNl (eT [n,m,L,M]):=by
 refine cP (lp:=dK) (run:=aHy Try.prog) (fun _=>rfl) fits (cQ (xs:=[n,m]) (ls:=[L,M]) (by exact⟨b0,b1,trivial⟩)) eK (fun X hX hG=>aIV hX hG) (fun X hX hG fn c hf hc=>cO) rfl ?_
 ·skip
  refine aS cF (fun h0=>?_) (fun h0=>?_)
  ·skip
   refine aQ aJb ?_
   unfold cF at h0;exact⟨rfl,trivial⟩
  refine aS cN (fun h1=>?_) (fun h1=>?_)
  ·skip
   refine aQ aJ4 ?_
   unfold cF at h0;unfold cN at h1;exact⟨rfl,trivial⟩
  refine aS cR (fun h2=>?_) (fun h2=>?_)
  rotate_left
  ·skip
   refine aS cB (fun h3=>?_) (fun h3=>?_)
   ·skip
    refine aS bS (fun h4=>?_) (fun h4=>?_)
    ·skip
     refine bI ?_
     unfold cF at h0;unfold cN at h1;unfold cR at h2;unfold cB at h3;unfold bS at h4;exfalso;simp only[nn,List.cons_append,List.nil_append,Bool.or_eq_true,bF,ne_eq]at h0 h1 h2 h3 h4;have jl:=gY h0 h1;first|exact oN h4 ⟨jl.2.2.1,(jA hN hM (Int.not_lt.1 h0) (Int.not_lt.1 h1) (jY L M) rfl h2.2 h3.2).1⟩|exact oN h2 ⟨jl.1,aAq hN hM (Int.not_lt.1 h0) (Int.not_lt.1 h1) (jY L M) rfl h4.2⟩
    refine aQ aE5 ?_
    unfold cF at h0;unfold cN at h1;unfold cR at h2;unfold cB at h3;unfold bS at h4;exact⟨rfl,trivial⟩
   refine aS bS (fun h4=>?_) (fun h4=>?_)
   ·skip
    refine bI ?_
    unfold cF at h0;unfold cN at h1;unfold cR at h2;unfold cB at h3;unfold bS at h4;exfalso;simp only[nn,List.cons_append,List.nil_append,Bool.or_eq_true,bF,ne_eq]at h0 h1 h2 h3 h4;have jl:=gY h0 h1;first|exact oN h4 ⟨jl.2.2.1,(jA hN hM (Int.not_lt.1 h0) (Int.not_lt.1 h1) (jY L M) rfl h2.2 h3.2).1⟩|exact oN h2 ⟨jl.1,aAq hN hM (Int.not_lt.1 h0) (Int.not_lt.1 h1) (jY L M) rfl h4.2⟩
   refine aQ aEX ?_
   unfold cF at h0;unfold cN at h1;unfold cR at h2;unfold cB at h3;unfold bS at h4;exact⟨rfl,trivial⟩
  refine aS cB (fun h3=>?_) (fun h3=>?_)
  rotate_left
  ·skip
   refine aS bS (fun h4=>?_) (fun h4=>?_)
   ·skip
    refine aQ aFw ?_
    unfold cF at h0;unfold cN at h1;unfold cR at h2;unfold cB at h3;unfold bS at h4;exact⟨rfl,trivial⟩
   refine aQ aFg ?_
   unfold cF at h0;unfold cN at h1;unfold cR at h2;unfold cB at h3;unfold bS at h4;exact⟨rfl,trivial⟩
  refine aS bS (fun h4=>?_) (fun h4=>?_)
  rotate_left
  ·skip
   refine bI ?_
   unfold cF at h0;unfold cN at h1;unfold cR at h2;unfold cB at h3;unfold bS at h4;exfalso;simp only[nn,List.cons_append,List.nil_append,Bool.or_eq_true,bF,ne_eq]at h0 h1 h2 h3 h4;have jl:=gY h0 h1;first|exact oN h4 ⟨jl.2.2.1,(jA hN hM (Int.not_lt.1 h0) (Int.not_lt.1 h1) (jY L M) rfl h2.2 h3.2).1⟩|exact oN h2 ⟨jl.1,aAq hN hM (Int.not_lt.1 h0) (Int.not_lt.1 h1) (jY L M) rfl h4.2⟩
  refine aS eI (fun h5=>?_) (fun h5=>?_)
  rotate_left
  ·skip
   refine bI ?_
   unfold cF at h0;unfold cN at h1;unfold cR at h2;unfold cB at h3;unfold bS at h4;unfold eI at h5;exfalso;simp only[nn,List.cons_append,List.nil_append,Bool.or_eq_true,bF,ne_eq]at h0 h1 h2 h3 h4 h5;have jl:=gY h0 h1;exact h5 (jA hN hM (Int.not_lt.1 h0) (Int.not_lt.1 h1) (jY L M) rfl h2.2 h3.2).2.1.symm
  refine aS eV (fun h6=>?_) (fun h6=>?_)
  rotate_left
  ·skip
   refine bI ?_
   unfold cF at h0;unfold cN at h1;unfold cR at h2;unfold cB at h3;unfold bS at h4;unfold eI at h5;unfold eV at h6;exfalso;simp only[nn,List.cons_append,List.nil_append,Bool.or_eq_true,bF,ne_eq]at h0 h1 h2 h3 h4 h5 h6;have jl:=gY h0 h1;exact h6 (aAc (jA hN hM (Int.not_lt.1 h0) (Int.not_lt.1 h1) (jY L M) rfl h2.2 h3.2).2.2).symm
  refine aS eX (fun h7=>?_) (fun h7=>?_)
  ·skip
   refine aQ aGz ?_
   unfold cF at h0;unfold cN at h1;unfold cR at h2;unfold cB at h3;unfold bS at h4;unfold eI at h5;unfold eV at h6;unfold eX at h7;exact⟨rfl,trivial⟩
  refine aS fY (fun h8=>?_) (fun h8=>?_)
  rotate_left
  ·skip
   refine bI ?_
   unfold cF at h0;unfold cN at h1;unfold cR at h2;unfold cB at h3;unfold bS at h4;unfold eI at h5;unfold eV at h6;unfold eX at h7;unfold fY at h8;exfalso;simp only[nn,List.cons_append,List.nil_append,Bool.or_eq_true,bF,ne_eq]at h0 h1 h2 h3 h4 h5 h6 h7 h8;have jl:=gY h0 h1;clear h1 h2 h3 h4 h5 h6 h7 jl;omega
  refine aS gA (fun h9=>?_) (fun h9=>?_)
  ·skip
   refine aQ aFo ?_
   unfold cF at h0;unfold cN at h1;unfold cR at h2;unfold cB at h3;unfold bS at h4;unfold eI at h5;unfold eV at h6;unfold eX at h7;unfold fY at h8;unfold gA at h9;exact⟨rfl,trivial⟩
  refine aS gO (fun h10=>?_) (fun h10=>?_)
  rotate_left
  ·skip
   refine bI ?_
   unfold cF at h0;unfold cN at h1;unfold cR at h2;unfold cB at h3;unfold bS at h4;unfold eI at h5;unfold eV at h6;unfold eX at h7;unfold fY at h8;unfold gA at h9;unfold gO at h10;exfalso;simp only[nn,List.cons_append,List.nil_append,Bool.or_eq_true,bF,ne_eq]at h0 h1 h2 h3 h4 h5 h6 h7 h8 h9 h10;have jl:=gY h0 h1;exact oN h10 ⟨jl.2.2.2,(pU hN hM (Int.not_lt.1 h0) (Int.not_lt.1 h1) tK (aAi L M _) rfl (zX b0.1 h7) h9 h2.2 h3.2).1⟩
  refine aS iO (fun h11=>?_) (fun h11=>?_)
  rotate_left
  ·skip
   refine bI ?_
   unfold cF at h0;unfold cN at h1;unfold cR at h2;unfold cB at h3;unfold bS at h4;unfold eI at h5;unfold eV at h6;unfold eX at h7;unfold fY at h8;unfold gA at h9;unfold gO at h10;unfold iO at h11;exfalso;simp only[nn,List.cons_append,List.nil_append,Bool.or_eq_true,bF,ne_eq]at h0 h1 h2 h3 h4 h5 h6 h7 h8 h9 h10 h11;have jl:=gY h0 h1;exact h11 (pU hN hM (Int.not_lt.1 h0) (Int.not_lt.1 h1) tK (aAi L M _) rfl (zX b0.1 h7) h9 h2.2 h3.2).2.1.symm
  refine aS kF (fun h12=>?_) (fun h12=>?_)
  rotate_left
  ·skip
   refine bI ?_
   unfold cF at h0;unfold cN at h1;unfold cR at h2;unfold cB at h3;unfold bS at h4;unfold eI at h5;unfold eV at h6;unfold eX at h7;unfold fY at h8;unfold gA at h9;unfold gO at h10;unfold iO at h11;unfold kF at h12;exfalso;simp only[nn,List.cons_append,List.nil_append,Bool.or_eq_true,bF,ne_eq]at h0 h1 h2 h3 h4 h5 h6 h7 h8 h9 h10 h11 h12;have jl:=gY h0 h1;exact h12 ((jA hN hM (Int.not_lt.1 h0) (Int.not_lt.1 h1) (jY L M) rfl h2.2 h3.2).2.1.trans (pU hN hM (Int.not_lt.1 h0) (Int.not_lt.1 h1) tK (aAi L M _) rfl (zX b0.1 h7) h9 h2.2 h3.2).2.1.symm)
  refine aS nL (fun h13=>?_) (fun h13=>?_)
  ·skip
   refine aQ aFP ?_
   unfold cF at h0;unfold cN at h1;unfold cR at h2;unfold cB at h3;unfold bS at h4;unfold eI at h5;unfold eV at h6;unfold eX at h7;unfold fY at h8;unfold gA at h9;unfold gO at h10;unfold iO at h11;unfold kF at h12;unfold nL at h13;exact⟨rfl,trivial⟩
  refine bI ?_
  unfold cF at h0;unfold cN at h1;unfold cR at h2;unfold cB at h3;unfold bS at h4;unfold eI at h5;unfold eV at h6;unfold eX at h7;unfold fY at h8;unfold gA at h9;unfold gO at h10;unfold iO at h11;unfold kF at h12;unfold nL at h13;exfalso;simp only[nn,List.cons_append,List.nil_append,Bool.or_eq_true,bF,ne_eq]at h0 h1 h2 h3 h4 h5 h6 h7 h8 h9 h10 h11 h12 h13;have jl:=gY h0 h1;exact h13 ((aAc (jA hN hM (Int.not_lt.1 h0) (Int.not_lt.1 h1) (jY L M) rfl h2.2 h3.2).2.2).trans (aAc (pU hN hM (Int.not_lt.1 h0) (Int.not_lt.1 h1) tK (aAi L M _) rfl (zX b0.1 h7) h9 h2.2 h3.2).2.2).symm)
end Go.Proofs.Ythiehfhphgkaeaa
