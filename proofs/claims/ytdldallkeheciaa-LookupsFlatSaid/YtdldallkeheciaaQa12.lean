/- What is proved: an argument that is a slice of plain numbers,or of structs of such,is a list of rows that is looked at alone;a law over such lists leaves what was there as it was. No condition but those that are stated. -/
import Derived.Test.YtdldallkeheciaaQg5
import Derived.Test.YtdldallkeheciaaQg4
import Derived.Test.YtdldallkeheciaaQg6
import Derived.SizedLaws
set_option linter.unusedSimpArgs false
set_option linter.unusedVariables false
namespace Go.Proofs.Ytdldallkeheciaa
open Go Go.RowKit Sx
def sA (go:TypeId→Option (List CK)) (P:Program):List Field→Nat→Option (List CK)
 |[],_=>some []
 |f::fs,o=>if f.offset=o then match go f.type with
   |some a=>if a.length=P.cellsOf f.type then match sA go P fs (o+a.length)with
     |some b=>some (a++b)
     |none=>none
    else none
   |none=>none
  else none
def nW (P:Program):Nat→TypeId→Option (List CK)
 |0,_=>none
 |d+1,t=>match P.underlying t with
  |some .bool=>some [.bool]
  |some (.int k)=>some [.int k]
  |some (.struct fs)=>match sA (nW P d) P fs.toList 0 with
   |some a=>if a.length=P.cellsOf t then some a else none
   |none=>none
  |some (.array n e)=>match nW P d e with
   |some a=>if a.length=P.cellsOf e∧n*a.length=P.cellsOf t then some (List.replicate n a).flatten else none
   |none=>none
  |_=>none
theorem aBc {go:TypeId→Option (List CK)} {P:Program}:∀ {fs:List Field} {o:Nat} {ks:List CK},sA go P fs o=some ks→∀ (i:Nat) (g:Field),fs[i]?=some g→o≤g.offset
 |[],o,ks,h,i,g,e=>by simp at e
 |f::fs,o,ks,h,i,g,e=>by
  unfold sA at h
  split at h
  case isFalse=>cases h
  rename_i ho
  split at h
  case h_2=>cases h
  split at h
  case isFalse=>cases h
  split at h
  case h_2=>cases h
  rename_i b hb
  cases i with
  |zero=>simp only[List.getElem?_cons_zero,Option.some.injEq]at e;subst e;omega
  |succ i=>have:=aBc hb i g (by simpa using e);omega
def tX:CK→Int→Prop
 | .int k,n=>k.min≤n∧n≤k.max
 | .bool,n=>n=0∨n=1
def Kin (ks:List CK) (cs:List Value):Prop:=cs.length=ks.length∧∀ (i:Nat) (k:CK),ks[i]?=some k→∃ n,cs[i]?=some (k.mk n)∧tX k n
theorem Kin.append {a b:List CK} {xs ys:List Value} (h:Kin a xs) (g:Kin b ys):Kin (a++b) (xs++ys):=by
 refine⟨by rw[List.length_append,List.length_append,h.1,g.1],fun i k e=>?_⟩
 rcases Nat.lt_or_ge i a.length with q|q
 ·rw[List.getElem?_append_left q]at e
  rw[List.getElem?_append_left (by rw[h.1];exact q)]
  exact h.2 i k e
 ·rw[List.getElem?_append_right q]at e
  rw[List.getElem?_append_right (by rw[h.1];exact q),h.1]
  exact g.2 _ k e
theorem Kin.row {ks:List CK} {cs:List Value} (h:Kin ks cs):∃ r:List Int,r.length=ks.length∧cs=eK ks r∧∀ (i:Nat) (k:CK),ks[i]?=some k→tX k (r.getD i 0):=by
 classical
 obtain⟨f,hf⟩:∃ f:Nat→Int,∀ (i:Nat) (k:CK),ks[i]?=some k→cs[i]?=some (k.mk (f i))∧tX k (f i):=by
  refine⟨fun i=>if q:∃ n,∀ k,ks[i]?=some k→cs[i]?=some (k.mk n)∧tX k n then q.choose else 0,fun i k e=>?_⟩
  have q:∃ n,∀ k,ks[i]?=some k→cs[i]?=some (k.mk n)∧tX k n:=by
   obtain⟨n,h1,h2⟩:=h.2 i k e
   refine⟨n,fun k' e'=>?_⟩
   rw[e]at e';cases e'
   exact⟨h1,h2⟩
  simp only[dif_pos q]
  exact q.choose_spec k e
 have hg:∀ i,i<ks.length→((List.range ks.length).map f).getD i 0=f i:=fun i hi=>by simp [List.getD,hi]
 refine⟨(List.range ks.length).map f,by simp,?_,fun i k e=>?_⟩
 ·apply List.ext_getElem?
  intro i
  unfold eK
  rw[List.getElem?_map,List.getElem?_zipIdx]
  cases e:ks[i]? with
  |none=>
   have:=List.getElem?_eq_none_iff.1 e
   rw[List.getElem?_eq_none (show cs.length≤i by rw[h.1];exact this)];rfl
  |some k=>
   rw[(hf i k e).1]
   simp only[Option.map_some,Nat.zero_add]
   rw[hg i (List.getElem?_eq_some_iff.1 e).1]
 ·rw[hg i (List.getElem?_eq_some_iff.1 e).1];exact(hf i k e).2
theorem aJP {k:IntKind} {n:Int} (h:(Lit.int k n).wf=true):CK.mk (.int k) n = .int k n∧tX (.int k) n:=by
 simp only[Lit.wf,Bool.and_eq_true,decide_eq_true_eq]at h
 refine⟨?_,h⟩
 show Value.int k (k.wrap n)=_
 rw[iO k n h.1 h.2]
section
variable {H:Type} {enc:TypeId × Value→H} {P:Program} {w:World} {base:Nat} {spare:Nat→Bool} {held:Bool}
theorem aBh {go:TypeId→Option (List CK)} {fuel:Nat} (hgo:∀ t ks cs x,go t=some ks→DataW.trod enc P w base spare held fuel t cs=some x→Kin ks cs):∀ (fs:List Field) (o:Nat) (ks:List CK) (cs:List Value),sA go P fs o=some ks→
  (∀ (i:Nat) (f:Field),fs[i]?=some f→∃ x,DataW.trod enc P w base spare held fuel f.type ((cs.drop (f.offset-o)).take (P.cellsOf f.type))=some x)→cs.length=ks.length→Kin ks cs
 |[],o,ks,cs,hk,h,hl=>by
  simp only[sA,Option.some.injEq]at hk
  subst hk
  exact⟨hl,fun i k e=>by simp at e⟩
 |f::fs,o,ks,cs,hk,h,hl=>by
  unfold sA at hk
  split at hk
  case isFalse=>cases hk
  rename_i ho
  split at hk
  case h_2=>cases hk
  rename_i a ha
  split at hk
  case isFalse=>cases hk
  rename_i hal
  split at hk
  case h_2=>cases hk
  rename_i b hb
  cases hk
  obtain⟨x,hx⟩:=h 0 f rfl
  rw[ho,Nat.sub_self,List.drop_zero,←hal]at hx
  have k1:=hgo f.type a _ x ha hx
  rw[List.length_append]at hl
  have k2:=aBh hgo fs (o+a.length) b (cs.drop a.length) hb (by
   intro i g hg
   obtain⟨y,hy⟩:=h (i+1) g (by simpa using hg)
   refine⟨y,?_⟩
   rw[List.drop_drop]
   have hge:o+a.length≤g.offset:=aBc hb i g hg
   rw[show a.length+(g.offset-(o+a.length))=g.offset-o by omega]
   exact hy) (by rw[List.length_drop];omega)
  have:=Kin.append k1 k2
  rwa [List.take_append_drop]at this
theorem xW:∀ (d:Nat) (t:TypeId) (ks:List CK) (fuel:Nat) (cs:List Value) (x:DataW H × List MemPlace),nW P d t=some ks→DataW.trod enc P w base spare held fuel t cs=some x→Kin ks cs
 |0,t,ks,fuel,cs,x,hk,h=>by simp [nW]at hk
 |d+1,t,ks,fuel,cs,x,hk,h=>by
  unfold nW at hk
  split at hk
  ·rename_i hu
   cases hk
   obtain⟨b,rfl,_⟩:=DataW.trod_bool hu h
   refine⟨rfl,fun i k e=>?_⟩
   match i,e with
   |0,e=>
    cases e
    exact⟨if b then 1 else 0,by cases b<;>rfl,by cases b;exact .inl rfl;exact .inr rfl⟩
  ·rename_i k0 hu
   cases hk
   obtain⟨n,rfl,_,hw⟩:=DataW.trod_int hu h
   refine⟨rfl,fun i k e=>?_⟩
   match i,e with
   |0,e=>
    cases e
    exact⟨n,by rw[(aJP hw).1];rfl,(aJP hw).2⟩
  ·rename_i fs hu
   split at hk
   case h_2=>cases hk
   rename_i a ha
   split at hk
   case isFalse=>cases hk
   rename_i hl
   cases hk
   obtain⟨xs,n,rfl,_,hcl,hxl,hf⟩:=DataW.trod_struct hu h
   have:=aBh (fun t ks cs x=>xW d t ks n cs x) fs.toList 0 ks (cs.drop 0) ha (by
    intro i f hfi
    have e:=hf i f (by simpa using hfi)
    have hi:i<xs.length:=by rw[hxl];have:=(List.getElem?_eq_some_iff.1 hfi).1;simpa using this
    refine⟨xs[i],?_⟩
    rw[List.drop_zero,Nat.sub_zero,e];simp [hi]) (by rw[List.drop_zero,hcl,hl])
   simpa using this
  ·rename_i n e hu
   split at hk
   case h_2=>cases hk
   rename_i a ha
   split at hk
   case isFalse=>cases hk
   rename_i hl
   cases hk
   obtain⟨xs,m,rfl,_,hcl,hxl,hf⟩:=DataW.trod_array hu h
   have key:∀ j,j≤n→Kin (List.replicate j a).flatten (cs.take (j*a.length)):=by
    intro j
    induction j with
    |zero=>intro _;exact⟨by simp,fun i k e=>by simp at e⟩
    |succ j ih=>
     intro hj
     have e1:=hf j (by omega)
     rw[←hl.1]at e1
     have k1:=xW d e a m _ xs[j] ha (by rw[e1];simp [hxl,show j<n by omega])
     have e2:cs.take ((j+1)*a.length)=cs.take (j*a.length)++(cs.drop (j*a.length)).take a.length:=by
      rw[Nat.succ_mul,List.take_add]
     rw[e2,List.replicate_succ',List.flatten_append]
     simpa using Kin.append (ih (by omega)) k1
   have:=key n (Nat.le_refl _)
   rw[hl.2,←hcl,List.take_length]at this
   exact this
  ·cases hk
end
theorem aIe {H:Type} {enc:TypeId × Value→H} {P:Program} {W:World} {base base' d0:Nat} {spare:Nat→Bool} {held:Bool} {t e:TypeId} {v:Value} {d:DataW H} {p:List MemPlace} (ks:List CK)
  (hu:P.underlying t=some (.slice e)) (hk:nW P d0 e=some ks) (hce:ks.length=P.cellsOf e) (hpos:0<ks.length)
  (hok:Value.okWide P W .any base t v) (htr:DataW.Trod enc P W base' spare held t v d p):
  ∃ (b:Sx.Loc) (L:List (List Int)),v=(if b.nil then .slice none 0 0 else .slice (some ⟨b.blk,b.base,none⟩) L.length b.cap)∧(b.nil=true→L=[]∧b.cap=0)∧L.length≤b.cap∧L.length≤9223372036854775807∧(b.nil=true∨b.blk<W.heap.size)∧
   (∀ r,r ∈ L→r.length=ks.length∧∀ (i:Nat) (k:CK),ks[i]?=some k→tX k (r.getD i 0))∧jK b W.heap[b.blk]? [aNs ks L true]:=by
 obtain⟨fuel,htr⟩:=htr
 have hvs:∃ a len cap,v = .slice a len cap:=Go.WideShapes.okWide_slice hu hok
 obtain⟨a0,len0,cap0,rfl⟩:=hvs
 rcases DataW.trod_slice hu htr with⟨h,_⟩|⟨a,len,cap,elems,rest,n,_,h,_,hb,hl,hc,hel,hrd,_⟩
 ·have h:a0=none∧len0=0∧cap0=0:=by simpa [Value.cells]using h
  obtain⟨rfl,rfl,rfl⟩:=h
  refine⟨⟨0,0,true,0⟩,[],rfl,fun _=>⟨rfl,rfl⟩,by simp,by simp,.inl rfl,(fun r hr=>nomatch hr),?_⟩
  exact⟨_,ks.length,true,rfl,hpos,.inl ⟨rfl,rfl⟩⟩
 ·have h:a0=some a∧len0=len∧cap0=cap:=by simpa [Value.cells]using h
  obtain⟨rfl,rfl,rfl⟩:=h
  have hsp:a.spot=none∧∃ cs T fz,W.heap[a.block]?=some (.cells cs T fz):=by
   unfold Value.okWide at hok
   rw[hu]at hok
   simp only at hok
   unfold Cell.okWide at hok
   rw[hu]at hok
   simp only at hok
   unfold Cell.ok at hok
   rw[hu]at hok
   simp only at hok
   obtain⟨_,_,_,h2,row,cells,h3,_⟩:=hok
   refine⟨h2,?_⟩
   unfold World.shape? at h3
   split at h3
   ·exact⟨_,_,_,by assumption⟩
   ·cases h3
  obtain⟨ablk,aoff,aspot⟩:=a
  obtain⟨rfl,ccs,cT,cfz,hcc⟩:=hsp
  simp only at hcc hb
  have hlt:ablk<W.heap.size:=(Array.getElem?_eq_some_iff.1 hcc).1
  have one:∀ i,i<len0→∃ r:List Int,(r.length=ks.length∧∀ (j:Nat) (k:CK),ks[j]?=some k→tX k (r.getD j 0))∧∀ j u,(eK ks r)[j]?=some u→W.cell? ⟨ablk,aoff+(i*ks.length+j),none⟩=some u:=by
   intro i hi
   have h1:=hrd i hi
   have h2:elems[i]?=some elems[i]:=by simp [hel,hi]
   rw[h2,Option.bind_eq_some_iff]at h1
   obtain⟨cs,h3,h4⟩:=h1
   have h5:=xW d0 e ks n cs _ hk h4
   obtain⟨r,r1,r2,r3⟩:=h5.row
   refine⟨r,⟨r1,r3⟩,fun j u hu=>?_⟩
   rw[←r2]at hu
   unfold World.cells? at h3
   split at h3
   case isFalse=>cases h3
   have hj:j<P.cellsOf e:=by
    have:=(List.getElem?_eq_some_iff.1 hu).1
    rw[h5.1,hce]at this;exact this
   have h6:=mapM_some_get h3 j j (by simp [hj])
   rw[hu]at h6
   rw[←h6,cI,cI,hce,Nat.add_assoc]
  classical
  obtain⟨f,hf⟩:∃ f:Nat→List Int,∀ i,i<len0→((f i).length=ks.length∧∀ (j:Nat) (k:CK),ks[j]?=some k→tX k ((f i).getD j 0))∧∀ j u,(eK ks (f i))[j]?=some u→W.cell? ⟨ablk,aoff+(i*ks.length+j),none⟩=some u:=by
   refine⟨fun i=>if q:i<len0 then (one i q).choose else [],fun i hi=>?_⟩
   simp only[dif_pos hi]
   exact(one i hi).choose_spec
  obtain⟨L,hL⟩:∃ L,L=(List.range len0).map f:=⟨_,rfl⟩
  have hLl:L.length=len0:=by rw[hL];simp
  have hmem:∀ r,r ∈ L→∃ i,i<len0∧r=f i:=by
   intro r hr
   rw[hL]at hr
   obtain⟨i,hi,rfl⟩:=List.mem_map.1 hr
   exact⟨i,by simpa using hi,rfl⟩
  refine⟨⟨ablk,cap0,false,aoff⟩,L,by rw[hLl];rfl,(fun q=>by cases q),by rw[hLl];exact hl,by rw[hLl];unfold maxLen at hc;omega,.inr hlt,fun r hr=>?_,?_⟩
  ·obtain⟨i,hi,rfl⟩:=hmem r hr
   exact(hf i hi).1
  ·refine⟨_,ks.length,true,rfl,hpos,.inr ⟨rfl,?_⟩⟩
   have hcell:∀ i u,(aT ks L)[i]?=some u→W.cell? ⟨ablk,aoff+i,none⟩=some u:=by
    intro i u hi
    have hlt2:=(List.getElem?_eq_some_iff.1 hi).1
    rw[bB,hLl]at hlt2
    have hq:i / ks.length<len0:=Nat.div_lt_of_lt_mul (by rw[Nat.mul_comm];exact hlt2)
    have hm:i % ks.length<ks.length:=Nat.mod_lt _ hpos
    have e0:i=i / ks.length*ks.length+i % ks.length:=by rw[Nat.mul_comm];exact(Nat.div_add_mod i ks.length).symm
    have e1:(aT ks L)[i / ks.length*ks.length+i % ks.length]?=some ((ks[i % ks.length]).mk ((L.getD (i / ks.length) []).getD (i % ks.length) 0)):=fK (by simp [hm]) L _ (by rw[hLl];exact hq)
    rw[←e0,hi]at e1
    have e2:L.getD (i / ks.length) []=f (i / ks.length):=by rw[hL];simp [List.getD,hq]
    have e3:(eK ks (f (i / ks.length)))[i % ks.length]?=some ((ks[i % ks.length]).mk ((f (i / ks.length)).getD (i % ks.length) 0)):=by
     unfold eK
     rw[List.getElem?_map,List.getElem?_zipIdx]
     simp [hm]
    rw[e2,←e3]at e1
    have:=(hf _ hq).2 _ u e1.symm
    rwa [←e0]at this
   refine⟨ccs,cT,cfz,hcc,fun i u hi=>?_⟩
   have:=hcell i u hi
   simpa [World.cell?,hcc]using this
theorem aIp {G:Nat→List Int→Int} {ρ:Nat→Int} {W:World} (vs:List (Sx.Loc × List SV)) (h:∀ q,q ∈ vs→(q.1.nil=true∨q.1.blk<W.heap.size)∧∃ us,jK q.1 W.heap[q.1.blk]? us∧SV.RL G ρ (fun _=>none) q.2 us):
  RelW G ρ [] (fun id=>(vs[id]?).map (·.1)) (vs.map fun q=>some (q.2,aF)) W:=by
 have hvis:∀ id,¬jT (vs.map fun q=>(some (q.2,aF):jD)) id:=by
  rintro id ⟨q,hq,hv⟩
  rw[List.getElem?_map]at hq
  cases e:vs[id]? with
  |none=>rw[e]at hq;cases hq
  |some p=>
   rw[e]at hq
   have:q=(p.2,aF):=by cases hq;rfl
   rw[this]at hv
   exact absurd hv (show ¬vw aF=false by decide)
 have get:∀ (id:Nat) (b:Sx.Loc),(vs[id]?).map (fun q:Sx.Loc × List SV=>q.1)=some b→∃ q:Sx.Loc × List SV,vs[id]?=some q∧q.1=b:=by
  intro id b e
  cases e2:vs[id]? with
  |none=>rw[e2]at e;cases e
  |some p=>rw[e2]at e;exact⟨p,rfl,by cases e;rfl⟩
 refine⟨fun id b e=>?_,fun i j b c _ _ _ _ _ vi _=>absurd vi (hvis i),fun id cs T e=>?_,(fun p hp=>nomatch hp),fun id cs T b _ _ _ _ j c _ _ _ vj=>absurd vj (hvis j)⟩
 ·obtain⟨q,hq,rfl⟩:=get id b e
  exact⟨by rw[List.length_map];exact(List.getElem?_eq_some_iff.1 hq).1,(h q (List.mem_of_getElem? hq)).1⟩
 ·rw[List.getElem?_map]at e
  cases e2:vs[id]? with
  |none=>rw[e2]at e;cases e
  |some p=>
   rw[e2]at e
   cases e
   obtain⟨_,us,h1,h2⟩:=h p (List.mem_of_getElem? e2)
   exact⟨p.1,us,rfl,(gZ (by decide)).2 h1,SV.RL_mono (fun _ _ z=>by cases z) _ _ h2⟩
theorem iX {G:Nat→List Int→Int} {ρ:Nat→Int} {α:aV} {ks:List CK} {L:List (List Int)} {C n:E} (h1:C.den G ρ=Lc.enc L) (h2:n.den G ρ=L.length):SV.RL G ρ α [.vec ks C n true] [aNs ks L true]:=by
 refine aW ?_ bC
 simp only[SV.R]
 rw[h1,Lc.dec_enc,h2]
 exact⟨rfl,rfl⟩
theorem aNW {P:Program} {G:Nat→List Int→Int} {f:FuncId} {F:FunS} {ρ:Nat→Int} {W:World} {vals:List Value} {α:aV} (hF:gD P G [] f F ρ) (hW:RelW G ρ [] α F.H W) (hvis:∀ id,¬jT F.H id) (hv:SV.RL G ρ α F.args vals) (hb:F.b = .lit true) (hs:F.s1 = .bool (.lit true)):
  Calls P f vals.toArray W (fun e w'=>e = .returned (.bool true)∧Below W.heap.size W w'):=by
 obtain⟨_,hc⟩:=hF α W vals hW hv
 refine hc.mono ?_
 rintro e w' ⟨v,α',r,hr,rfl,rv,_,x⟩
 rw[hb]at hr
 have hr:r=true:=hr.symm
 subst hr
 rw[hs]at rv
 simp only[if_true,SV.R,B.den]at rv
 subst rv
 exact⟨rfl,x.os,x.tape,x.output,x.size,fun k hk=>x.hid k hk (fun id b _ _ _=>hvis id)⟩
theorem aB2 (l:List (List SV)):∀ id,¬jT (l.map fun q=>(some (q,aF):jD)) id:=by
 rintro id ⟨q,hq,hv⟩
 rw[List.getElem?_map]at hq
 cases e:l[id]? with
 |none=>rw[e]at hq;cases hq
 |some p=>
  rw[e]at hq
  have:q=(p,aF):=by cases hq;rfl
  rw[this]at hv
  exact absurd hv (show ¬vw aF=false by decide)
end Go.Proofs.Ytdldallkeheciaa
namespace Go.Proofs.Ytdldallkeheciaa
open Go Go.RowKit Sx
theorem aEV {H:Type} {enc:TypeId × Value→H} {P:Program} {W:World} {base base':Nat} {spare:Nat→Bool} {held:Bool} {t:TypeId} {v:Value} {d:DataW H} {p:List MemPlace} {fs:Array Field} (ts:List TypeId)
  (hu:P.underlying t=some (.struct fs)) (hc:P.cellsOf t=ts.length) (hct:P.cellTypes P.depth t=some ts)
  (hfs:fs.toList.map (fun f=>(f.type,f.offset))=ts.zipIdx) (hone:∀ u,u ∈ ts→P.cellsOf u=1∧(match P.underlying u with|some (.struct _)|some (.array _ _)=>false|_=>true)=true)
  (hok:Value.okWide P W .any base t v) (htr:DataW.Trod enc P W base' spare held t v d p):
  ∃ cs:List Value,v = .agg cs.toArray∧cs.length=ts.length∧∀ (i:Nat) (u:TypeId),ts[i]?=some u→∃ c,cs[i]?=some c∧Value.okWide P W .any base u c∧(c.cells=#[c]→∃ d p,DataW.Trod enc P W base' spare held u c d p):=by
 have h':∃ cs,v = .agg cs∧cs.size=P.cellsOf t∧Row.okWide P W .any base t cs:=by
  unfold Value.okWide at hok
  rw[hu]at hok
  exact hok
 obtain⟨cs,rfl,hsz,ts',hts',_,hcell⟩:=h'
 rw[hct]at hts';cases hts'
 obtain⟨fuel,htr⟩:=htr
 obtain⟨xs,n,rfl,_,hcl,hxl,hf⟩:=DataW.trod_struct hu htr
 refine⟨cs.toList,by simp,by simp [hsz,hc],fun i u hi=>?_⟩
 have hlt:i<ts.length:=(List.getElem?_eq_some_iff.1 hi).1
 have hi':i<cs.size:=by rw[hsz,hc];exact hlt
 obtain⟨u',hu',ho⟩:=hcell i cs[i] (by simp [hi'])
 rw[Nat.mod_eq_of_lt hlt,hi]at hu'
 cases hu'
 have hm:=hone u (List.mem_of_getElem? hi)
 refine⟨cs[i],by simp [hi'],?_,fun hcs=>?_⟩
 ·unfold Value.okWide
  split
  ·rename_i hq;rw[hq]at hm;simp at hm
  ·rename_i hq;rw[hq]at hm;simp at hm
  ·exact ho
 ·have hz:(fs.toList.map (fun f=>(f.type,f.offset)))[i]?=some (u,i):=by
   rw[hfs,List.getElem?_zipIdx,hi];simp
  rw[List.getElem?_map,Option.map_eq_some_iff]at hz
  obtain⟨f,hfi,hfe⟩:=hz
  have h1:f.type=u:=congrArg Prod.fst hfe
  have h2:f.offset=i:=congrArg Prod.snd hfe
  have e:=hf i f (by simpa using hfi)
  rw[h1,h2,hm.1]at e
  have hlx:i<xs.length:=by
   rw[hxl];have:=(List.getElem?_eq_some_iff.1 hfi).1;simpa using this
  have e2:(List.drop i (Value.cells (.agg cs)).toList).take 1=[cs[i]]:=by
   show (List.drop i cs.toList).take 1=[cs[i]]
   rw[List.drop_eq_getElem_cons (by simpa using hi')]
   simp
  rw[e2]at e
  refine⟨(xs[i]).1,(xs[i]).2,n,?_⟩
  rw[hcs]
  show DataW.trod enc P W base' spare held n u [cs[i]]=_
  rw[e]
  simp [hlx]
theorem aIQ {H:Type} {enc:TypeId × Value→H} {P:Program} {W:World} {base base':Nat} {spare:Nat→Bool} {held:Bool} {t:TypeId} {v:Value}
  (hu:P.underlying t=some .string) (hok:Value.okWide P W .any base t v) (htr:v.cells=#[v]→∃ d p,DataW.Trod enc P W base' spare held t v d p):∃ s:ByteArray,v = .string s∧s.size≤9223372036854775807:=by
 have hv:v.cells=#[v]:=by
  unfold Value.okWide at hok
  rw[hu]at hok
  simp only at hok
  unfold Cell.okWide at hok
  rw[hu]at hok
  simp only at hok
  unfold Cell.ok at hok
  rw[hu]at hok
  cases v<;>first|rfl|exact hok.elim
 obtain⟨d,p,fuel,h⟩:=htr hv
 rw[hv]at h
 obtain⟨s,h1,_,h2⟩:=DataW.trod_string hu h
 have h1:v = .string s:=by simpa using h1
 exact⟨s,h1,by unfold maxLen at h2;omega⟩
end Go.Proofs.Ytdldallkeheciaa
set_option maxRecDepth 100000
namespace Go.Proofs.Ytdldallkeheciaa
open Go Go.ChangeShapes Go.WideShapes Go.ChangeAt Go.RowKit Sx
theorem vT {C:Checked} {os:Os} {f:FuncId} {fn:Func} {s:ChangeSpec} {B:TypeId} {H:Type} {enc:TypeId × Value→H} (own:ownKnob C.prog.godebug=none) (started:os.Started) (noInit:C.prog.inits.idxOf? f=none)
  (hfn:C.prog.funcs[f]?=some fn) (hl:laidOutB C.prog=true) (hread:∀ t ∈ fn.params.toList,C.prog.readableRec t=true∧t<C.prog.types.size) (hres:fn.resultTypes=#[B]) (hB:C.prog.underlying B=some .bool)
  (hsv:s.vars=[]) (hs:∀ ds:List (DataW H),ds.length=fn.params.size→s.fn H ds={ results:=[.lit (.bool true)],args:=ds })
  (witness:∃ (w:World) (tape:Tape) (i:Input),w.os=os∧(w.forCall tape i).Shaped C.prog∧i.vars=[]∧Input.okWide C.prog (w.forCall tape i) .any w.heap.size f i∧
   s.pre6 enc C.prog fn [] false (w.forCall tape i).memory i.args∧({}:Assume).holds C.prog (lone (Frame.enter C.prog f i.args .normal) [] (w.forCall tape i)))
  (walk:∀ (W:World) (base:Nat) (args:Array Value) (ds:List (DataW H)) (p:List MemPlace),args.size=fn.params.size→
   (∀ (j:Nat) t v,fn.params[j]?=some t→args[j]?=some v→Value.okWide C.prog W .any base t v)→DataW.TrodAll enc C.prog W 0 (fun _=>true) true fn.params.toList args.toList ds p→
   (∀ (j:Nat) t d,fn.params.toList[j]?=some t→ds[j]?=some d→∀ n ∈ d.weights C.prog t,n≤reachBytes)→
   Calls C.prog f args W fun e W'=>e = .returned (.bool true)∧Below W.heap.size W W'):
  ReturnsInHanded {} C os f .any (s.pre6 enc C.prog fn [] false) (s.post enc C.prog fn false true false false):=by
 refine returnsInHanded_of_change_sized (C:=C) own started noInit hfn witness ?_
 intro W base args ds gs before hval hW _ hwt _
 have hW':=hW
 obtain⟨p,q,hA,hV,hbf,_,_⟩:=hW
 have hV0:gs=[]∧q=[]:=by
  rw[hsv]at hV
  cases gs with
  |nil=>exact⟨rfl,hV⟩
  |cons _ _=>exact hV.elim
 obtain⟨rfl,rfl⟩:=hV0
 have hlen:=pX _ _ _ _ hA
 have hsz:args.size=fn.params.size:=by have:=hlen.1;simpa using this
 have hw:∀ (j:Nat) t d,fn.params.toList[j]?=some t→ds[j]?=some d→∀ n ∈ d.weights C.prog t,n≤reachBytes:=by
  intro j t d ht hd n hn
  have hm:=DataW.weights_mem_each (P:=C.prog) (ts:=fn.params.toList++s.plain.varTypes C.prog) (ds:=ds++[]) (j:=j) (t:=t) (d:=d) (by rw[List.getElem?_append_left (List.getElem?_eq_some_iff.1 ht).1];exact ht) (by rw[List.append_nil];exact hd) n hn
  have:=List.all_eq_true.1 hwt _ hm
  simpa using this
 refine(walk W base args ds p hsz hval hA hw).mono fun e W' ⟨he,hg⟩=>?_
 have e1:s.fn H (ds++[])={ results:=[.lit (.bool true)],args:=ds }:=by
  rw[List.append_nil];exact hs ds (by have:=hlen.2;simpa using this)
 have hlt:∀ x ∈ p,x.block<W.heap.size:=fun x hx=>hW'.lt x (by rw[hbf];simpa using hx)
 refine⟨_,he,ds,[],before,[],p,[],hW',?_,?_,?_,hg.frame _,fun h=>by cases h⟩
 ·rw[e1,hres];exact trodAll_mk1 (shut_bool hB true)
 ·rw[e1];exact rB hl hg _ _ _ _ hread hA hlt
 ·rw[e1,hsv];rfl
theorem aIn {H:Type} {enc:TypeId × Value→H} {P:Program} {W:World} {base':Nat} {spare:Nat→Bool} {held:Bool} {t:TypeId} {cs:List Value} {d:DataW H} {p:List MemPlace} {fs:Array Field}
  (hu:P.underlying t=some (.struct fs)) (hb:∀ n ∈ d.weights P t,n≤reachBytes) (htr:DataW.Trod enc P W base' spare held t (.agg cs.toArray) d p) {i k:Nat} {u e:TypeId} (hi:(fs.toList.map (fun f=>(f.type,f.offset)))[i]?=some (u,k))
  (hone:P.cellsOf u=1) (he:P.underlying u=some (.slice e)) {a:Addr} {len cap:Nat} (hc:cs[k]?=some (.slice (some a) len cap)):len*P.bytesOf e≤reachBytes:=by
 obtain⟨fuel,htr⟩:=htr
 obtain⟨xs,n,rfl,hx,hcl,hxl,hf⟩:=DataW.trod_struct hu htr
 cases hx
 rw[List.getElem?_map,Option.map_eq_some_iff]at hi
 obtain⟨f,hfi,hfe⟩:=hi
 have h1:f.type=u:=congrArg Prod.fst hfe
 have h2:f.offset=k:=congrArg Prod.snd hfe
 have hfi':fs[i]?=some f:=by simpa using hfi
 have e1:=hf i f hfi'
 rw[h1,h2,hone]at e1
 have hk:k<cs.length:=(List.getElem?_eq_some_iff.1 hc).1
 have hcv:cs[k] = .slice (some a) len cap:=by have:=List.getElem?_eq_getElem hk;rw[hc]at this;exact(Option.some.inj this).symm
 have e2:(List.drop k (Value.cells (.agg cs.toArray)).toList).take 1=[.slice (some a) len cap]:=by
  show (List.drop k cs).take 1=_
  rw[List.drop_eq_getElem_cons hk,hcv]
  simp
 rw[e2]at e1
 have hlx:i<xs.length:=by
  rw[hxl];have:=(List.getElem?_eq_some_iff.1 hfi).1;simpa using this
 rw[List.getElem?_eq_getElem hlx]at e1
 rcases DataW.trod_slice he e1 with⟨h,_⟩|⟨a',len',cap',elems,rest,m,_,h,hxe,_,_,_,hel,_⟩
 ·exact absurd h (by simp)
 ·have hle:len'=len:=by simp at h;omega
  have hw:(elems.length+rest.length)*P.bytesOf e ∈ (DataW.agg (xs.map (·.1))).weights P t:=by
   simp only[DataW.weights,hu]
   refine DataW.weights_mem_each (j:=i) (t:=u) (d:=(xs[i]).1) ?_ (by simp [hlx]) _ ?_
   ·rw[List.getElem?_map,hfi,Option.map_some,h1]
   ·rw[hxe];simp [DataW.weights,he]
  have:=hb _ hw
  have q:len*P.bytesOf e≤(elems.length+rest.length)*P.bytesOf e:=Nat.mul_le_mul_right _ (by omega)
  omega
def sl (b:Sx.Loc) (n:Nat):Value:=if b.nil then .slice none 0 0 else .slice (some ⟨b.blk,b.base,none⟩) n b.cap
def vK (b:Sx.Loc) (n:Nat):Prop:=(b.nil=true→n=0∧b.cap=0)∧n≤b.cap∧n≤9223372036854775807
def wT (W:World) (b:Sx.Loc) (ks:List CK) (L:List (List Int)):Prop:=(b.nil=true∨b.blk<W.heap.size)∧jK b W.heap[b.blk]? [aNs ks L true]
theorem tC {H:Type} {enc:TypeId × Value→H} {P:Program} {W:World} {base base':Nat} {spare:Nat→Bool} {held:Bool} {t e:TypeId} {v:Value}
  (hu:P.underlying t=some (.slice e)) (hok:Value.okWide P W .any base t v) (htr:v.cells=#[v]→∃ d p,DataW.Trod enc P W base' spare held t v d p):
  ∃ (b:Sx.Loc) (n:Nat),v=sl b n∧vK b n∧wT W b [.int .i64] []:=by
 obtain⟨a0,len0,cap0,rfl⟩:=Go.WideShapes.okWide_slice hu hok
 obtain⟨d,p,fuel,htr⟩:=htr rfl
 rcases DataW.trod_slice hu htr with⟨h,_⟩|⟨a,len,cap,elems,rest,n,_,h,_,hb,hl,hc,hel,hrd,_⟩
 ·have h:a0=none∧len0=0∧cap0=0:=by simpa [Value.cells]using h
  obtain⟨rfl,rfl,rfl⟩:=h
  exact⟨⟨0,0,true,0⟩,0,rfl,⟨fun _=>⟨rfl,rfl⟩,by simp,by simp⟩,.inl rfl,_,1,true,rfl,by decide,.inl ⟨rfl,rfl⟩⟩
 ·have h:a0=some a∧len0=len∧cap0=cap:=by simpa [Value.cells]using h
  obtain⟨rfl,rfl,rfl⟩:=h
  have hsp:a.spot=none∧∃ cs T fz,W.heap[a.block]?=some (.cells cs T fz):=by
   unfold Value.okWide at hok
   rw[hu]at hok
   simp only at hok
   unfold Cell.okWide at hok
   rw[hu]at hok
   simp only at hok
   unfold Cell.ok at hok
   rw[hu]at hok
   simp only at hok
   obtain⟨_,_,_,h2,row,cells,h3,_⟩:=hok
   refine⟨h2,?_⟩
   unfold World.shape? at h3
   split at h3
   ·exact⟨_,_,_,by assumption⟩
   ·cases h3
  obtain⟨ablk,aoff,aspot⟩:=a
  obtain⟨rfl,ccs,cT,cfz,hcc⟩:=hsp
  have hlt:ablk<W.heap.size:=(Array.getElem?_eq_some_iff.1 hcc).1
  refine⟨⟨ablk,cap0,false,aoff⟩,len0,rfl,⟨(fun q=>by cases q),hl,by unfold maxLen at hc;omega⟩,.inr hlt,[],1,true,rfl,by decide,.inr ⟨rfl,ccs,cT,cfz,hcc,fun i v hv=>by simp at hv⟩⟩
theorem jQ {H:Type} {enc:TypeId × Value→H} {P:Program} {W:World} {base base' d0:Nat} {spare:Nat→Bool} {held:Bool} {t e:TypeId} {v:Value} (ks:List CK)
  (hu:P.underlying t=some (.slice e)) (hk:nW P d0 e=some ks) (hce:ks.length=P.cellsOf e) (hpos:0<ks.length)
  (hok:Value.okWide P W .any base t v) (htr:v.cells=#[v]→∃ d p,DataW.Trod enc P W base' spare held t v d p):∃ (b:Sx.Loc) (L:List (List Int)),v=sl b L.length∧vK b L.length∧wT W b ks L:=by
 have hv:v.cells=#[v]:=by
  obtain⟨a0,len0,cap0,rfl⟩:=Go.WideShapes.okWide_slice hu hok;rfl
 obtain⟨d,p,htr⟩:=htr hv
 obtain⟨b,L,h1,h2,h3,h4,h5,_,h6⟩:=aIe ks hu hk hce hpos hok htr
 exact⟨b,L,h1,⟨fun q=>⟨by rw[(h2 q).1];rfl,(h2 q).2⟩,h3,h4⟩,h5,h6⟩
theorem xZ {H:Type} {enc:TypeId × Value→H} {P:Program} {W:World} {base base':Nat} {spare:Nat→Bool} {held:Bool} {t:TypeId} {k:IntKind} {v:Value}
  (hu:P.underlying t=some (.int k)) (hok:Value.okWide P W .any base t v) (htr:v.cells=#[v]→∃ d p,DataW.Trod enc P W base' spare held t v d p):∃ n,v = .int k n∧k.min≤n∧n≤k.max:=aMr hu hok
theorem lS {G:Nat→List Int→Int} {ρ:Nat→Int} {α:aV} {id:Nat} {b:Sx.Loc} {m:Nat} {n:E} (ha:α id=some b) (hn:n.den G ρ=m) (h:vK b m):SV.R G ρ α (.own id n none) (sl b m):=by
 simp only[SV.R]
 refine⟨b,ha,by omega,?_,fun q=>?_,by have:=h.2.1;omega,fun e he _=>by cases he⟩
 ·rw[hn,Int.toNat_natCast];rfl
 ·obtain⟨q1,q2⟩:=h.1 q
  exact⟨by rw[hn,q1];rfl,q2⟩
theorem aPX {G:Nat→List Int→Int} {ρ:Nat→Int} {α:aV} {l:List SV} {cs:List Value} (h:SV.RL G ρ α l cs):SV.R G ρ α (.agg l) (.agg cs.toArray):=by
 simp only[SV.R];exact⟨cs,rfl,h⟩
theorem aDi {G:Nat→List Int→Int} {ρ:Nat→Int} {α:aV} {k:IntKind} {e:E} {n:Int} (h:e.den G ρ=n):SV.R G ρ α (.int k e) (.int k n):=by
 simp only[SV.R];rw[h]
theorem aK5 {G:Nat→List Int→Int} {ρ:Nat→Int} {α:aV} {b:B} {t:Bool} (h:b.den G ρ=t):SV.R G ρ α (.bool b) (.bool t):=by
 simp only[SV.R];rw[h]
theorem aMc {G:Nat→List Int→Int} {ρ:Nat→Int} {α:aV} {e:E} {s:ByteArray} (h:e.den G ρ=s.size):SV.R G ρ α (.text e) (.string s):=by
 simp only[SV.R];exact⟨s,rfl,h.symm⟩
noncomputable def xV:Array Field:=match Try.prog.underlying 30 with|some (.struct fs)=>fs|_=>#[]
def aUE:List TypeId:=[22,23,23,24,3,23,23,25,26,26,27,28,26,9]
def fnV (x0 x4 x10:Int) (b1 b2 b3 b5 b6 b7 b8 b9 b11 b12:Sx.Loc) (n1 n2 n3 n5 n6 n7 n8 n9 n11 n12:Nat) (tx:ByteArray):Value:=
 .agg #[.int .u8 x0,sl b1 n1,sl b2 n2,sl b3 n3,.int .i64 x4,sl b5 n5,sl b6 n6,sl b7 n7,sl b8 n8,sl b9 n9,.int .i32 x10,sl b11 n11,sl b12 n12,.string tx]
theorem aIA {H:Type} {enc:TypeId × Value→H} {W:World} {base base':Nat} {spare:Nat→Bool} {held:Bool} {v:Value} {d:DataW H} {p:List MemPlace} (hok:Value.okWide Try.prog W .any base 30 v) (htr:DataW.Trod enc Try.prog W base' spare held 30 v d p)
  (hb:∀ n ∈ d.weights Try.prog 30,n≤reachBytes):
  ∃ (x0 x4 x10:Int) (b1 b2 b3 b5 b6 b7 b8 b9 b11 b12:Sx.Loc) (D R S E De B:List (List Int)) (n8 n9 n11 n12:Nat) (tx:ByteArray),
   v=fnV x0 x4 x10 b1 b2 b3 b5 b6 b7 b8 b9 b11 b12 D.length R.length S.length E.length De.length B.length n8 n9 n11 n12 tx∧
   (0≤x0∧x0≤255)∧(-9223372036854775808≤x4∧x4≤9223372036854775807)∧(-2147483648≤x10∧x10≤2147483647)∧tx.size≤9223372036854775807∧S.length≤17592186043904∧
   vK b1 D.length∧vK b2 R.length∧vK b3 S.length∧vK b5 E.length∧vK b6 De.length∧vK b7 B.length∧vK b8 n8∧vK b9 n9∧vK b11 n11∧vK b12 n12∧
   wT W b1 [.int .i32,.int .i32] D∧wT W b2 [.int .i32,.int .i32] R∧wT W b3 [.int .i64] S∧wT W b5 [.int .i32,.int .i32] E∧wT W b6 [.int .i32,.int .i32] De∧wT W b7 [.int .u8] B∧
   wT W b8 [.int .i64] []∧wT W b9 [.int .i64] []∧wT W b11 [.int .i64] []∧wT W b12 [.int .i64] []:=by
 have hu:Try.prog.underlying 30=some (.struct xV):=by kernel_rfl
 have hfs:xV.toList.map (fun f=>(f.type,f.offset))=aUE.zipIdx:=by kernel_rfl
 obtain⟨cs,rfl,hlen,hc⟩:=aEV (fs:=xV) aUE hu (by kernel_rfl) (by kernel_rfl) hfs (by
  have h:(aUE.all fun u=>decide (Try.prog.cellsOf u=1) && (match Try.prog.underlying u with|some (.struct _)|some (.array _ _)=>false|_=>true))=true:=by kernel_rfl
  intro u hu
  have:=List.all_eq_true.1 h u hu
  rw[Bool.and_eq_true,decide_eq_true_eq]at this
  exact this) hok htr
 obtain⟨c0,e0,o0,t0⟩:=hc 0 22 rfl
 obtain⟨c1,e1,o1,t1⟩:=hc 1 23 rfl
 obtain⟨c2,e2,o2,t2⟩:=hc 2 23 rfl
 obtain⟨c3,e3,o3,t3⟩:=hc 3 24 rfl
 obtain⟨c4,e4,o4,t4⟩:=hc 4 3 rfl
 obtain⟨c5,e5,o5,t5⟩:=hc 5 23 rfl
 obtain⟨c6,e6,o6,t6⟩:=hc 6 23 rfl
 obtain⟨c7,e7,o7,t7⟩:=hc 7 25 rfl
 obtain⟨c8,e8,o8,t8⟩:=hc 8 26 rfl
 obtain⟨c9,e9,o9,t9⟩:=hc 9 26 rfl
 obtain⟨c10,e10,o10,t10⟩:=hc 10 27 rfl
 obtain⟨c11,e11,o11,t11⟩:=hc 11 28 rfl
 obtain⟨c12,e12,o12,t12⟩:=hc 12 26 rfl
 obtain⟨c13,e13,o13,t13⟩:=hc 13 9 rfl
 clear hc
 obtain⟨x0,rfl,y0⟩:=xZ (k := .u8) (by kernel_rfl) o0 t0
 obtain⟨b1,D,rfl,s1,v1⟩:=jQ (e:=41) (d0:=8) [.int .i32,.int .i32] (by kernel_rfl) (by kernel_rfl) (by kernel_rfl) (by decide) o1 t1
 obtain⟨b2,R,rfl,s2,v2⟩:=jQ (e:=41) (d0:=8) [.int .i32,.int .i32] (by kernel_rfl) (by kernel_rfl) (by kernel_rfl) (by decide) o2 t2
 obtain⟨b3,S,rfl,s3,v3⟩:=jQ (e:=3) (d0:=8) [.int .i64] (by kernel_rfl) (by kernel_rfl) (by kernel_rfl) (by decide) o3 t3
 obtain⟨x4,rfl,y4⟩:=xZ (k := .i64) (by kernel_rfl) o4 t4
 obtain⟨b5,E,rfl,s5,v5⟩:=jQ (e:=41) (d0:=8) [.int .i32,.int .i32] (by kernel_rfl) (by kernel_rfl) (by kernel_rfl) (by decide) o5 t5
 obtain⟨b6,De,rfl,s6,v6⟩:=jQ (e:=41) (d0:=8) [.int .i32,.int .i32] (by kernel_rfl) (by kernel_rfl) (by kernel_rfl) (by decide) o6 t6
 obtain⟨b7,B,rfl,s7,v7⟩:=jQ (e:=5) (d0:=8) [.int .u8] (by kernel_rfl) (by kernel_rfl) (by kernel_rfl) (by decide) o7 t7
 obtain⟨b8,n8,rfl,s8,v8⟩:=tC (e:=27) (by kernel_rfl) o8 t8
 obtain⟨b9,n9,rfl,s9,v9⟩:=tC (e:=27) (by kernel_rfl) o9 t9
 obtain⟨x10,rfl,y10⟩:=xZ (k := .i32) (by kernel_rfl) o10 t10
 obtain⟨b11,n11,rfl,s11,v11⟩:=tC (e:=30) (by kernel_rfl) o11 t11
 obtain⟨b12,n12,rfl,s12,v12⟩:=tC (e:=27) (by kernel_rfl) o12 t12
 obtain⟨tx,rfl,ht⟩:=aIQ (by kernel_rfl) o13 t13
 have hS:S.length≤17592186043904:=by
  cases q:b3.nil
  ·have h:=aIn (i:=3) (k:=3) (u:=24) (e:=3) (a:=⟨b3.blk,b3.base,none⟩) (len:=S.length) (cap:=b3.cap) hu hb htr (by rw[hfs];rfl) (by kernel_rfl) (by kernel_rfl) (by rw[e3];unfold sl;rw[q];rfl)
   have e:Try.prog.bytesOf 3=8:=by kernel_rfl
   rw[e]at h
   unfold reachBytes at h
   omega
  ·rw[(s3.1 q).1];omega
 refine⟨x0,x4,x10,b1,b2,b3,b5,b6,b7,b8,b9,b11,b12,D,R,S,E,De,B,n8,n9,n11,n12,tx,?_,y0,y4,y10,ht,hS,s1,s2,s3,s5,s6,s7,s8,s9,s11,s12,v1,v2,v3,v5,v6,v7,v8,v9,v11,v12⟩
 have hcs:cs=[.int .u8 x0,sl b1 D.length,sl b2 R.length,sl b3 S.length,.int .i64 x4,sl b5 E.length,sl b6 De.length,sl b7 B.length,sl b8 n8,sl b9 n9,.int .i32 x10,sl b11 n11,sl b12 n12,.string tx]:=by
  apply List.ext_getElem?
  intro i
  have hl:cs.length=14:=hlen
  rcases Nat.lt_or_ge i 14 with h|h
  ·match i,h with
   |0,_=>exact e0
   |1,_=>exact e1
   |2,_=>exact e2
   |3,_=>exact e3
   |4,_=>exact e4
   |5,_=>exact e5
   |6,_=>exact e6
   |7,_=>exact e7
   |8,_=>exact e8
   |9,_=>exact e9
   |10,_=>exact e10
   |11,_=>exact e11
   |12,_=>exact e12
   |13,_=>exact e13
  ·rw[List.getElem?_eq_none (by omega),List.getElem?_eq_none (by simpa using h)]
 rw[hcs]
 rfl
end Go.Proofs.Ytdldallkeheciaa
