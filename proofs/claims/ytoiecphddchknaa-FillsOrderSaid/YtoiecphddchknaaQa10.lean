/- What is proved: an argument that is a slice of plain numbers,or of structs of such,is a list of rows that is looked at alone;a law over such lists leaves what was there as it was. No condition but those that are stated. -/
import Derived.Test.YtoiecphddchknaaQg5
import Derived.Test.YtoiecphddchknaaQg4
import Derived.Test.YtoiecphddchknaaQa9
import Derived.Test.YtoiecphddchknaaQa3
set_option linter.unusedSimpArgs false
set_option linter.unusedVariables false
namespace Go.Proofs.Ytoiecphddchknaa
open Go Go.RowKit Sx
def qE (go:TypeId→Option (List CK)) (P:Program):List Field→Nat→Option (List CK)
 |[],_=>some []
 |f::fs,o=>if f.offset=o then match go f.type with
   |some a=>if a.length=P.cellsOf f.type then match qE go P fs (o+a.length)with
     |some b=>some (a++b)
     |none=>none
    else none
   |none=>none
  else none
def mW (P:Program):Nat→TypeId→Option (List CK)
 |0,_=>none
 |d+1,t=>match P.underlying t with
  |some .bool=>some [.bool]
  |some (.int k)=>some [.int k]
  |some (.struct fs)=>match qE (mW P d) P fs.toList 0 with
   |some a=>if a.length=P.cellsOf t then some a else none
   |none=>none
  |some (.array n e)=>match mW P d e with
   |some a=>if a.length=P.cellsOf e∧n*a.length=P.cellsOf t then some (List.replicate n a).flatten else none
   |none=>none
  |_=>none
theorem aAl {go:TypeId→Option (List CK)} {P:Program}:∀ {fs:List Field} {o:Nat} {ks:List CK},qE go P fs o=some ks→∀ (i:Nat) (g:Field),fs[i]?=some g→o≤g.offset
 |[],o,ks,h,i,g,e=>by simp at e
 |f::fs,o,ks,h,i,g,e=>by
  unfold qE at h
  split at h
  case isFalse=>cases h
  rename_i ho
  split at h
  case h_2=>cases h
  split at h
  case isFalse=>cases h
  split at h
  case h_2=>cases h
  rename_i b hb
  cases i with
  |zero=>simp only[List.getElem?_cons_zero,Option.some.injEq]at e;subst e;omega
  |succ i=>have:=aAl hb i g (by simpa using e);omega
def rO:CK→Int→Prop
 | .int k,n=>k.min≤n∧n≤k.max
 | .bool,n=>n=0∨n=1
def Kin (ks:List CK) (cs:List Value):Prop:=cs.length=ks.length∧∀ (i:Nat) (k:CK),ks[i]?=some k→∃ n,cs[i]?=some (k.mk n)∧rO k n
theorem Kin.append {a b:List CK} {xs ys:List Value} (h:Kin a xs) (g:Kin b ys):Kin (a++b) (xs++ys):=by
 refine⟨by rw[List.length_append,List.length_append,h.1,g.1],fun i k e=>?_⟩
 rcases Nat.lt_or_ge i a.length with q|q
 ·rw[List.getElem?_append_left q]at e
  rw[List.getElem?_append_left (by rw[h.1];exact q)]
  exact h.2 i k e
 ·rw[List.getElem?_append_right q]at e
  rw[List.getElem?_append_right (by rw[h.1];exact q),h.1]
  exact g.2 _ k e
theorem Kin.row {ks:List CK} {cs:List Value} (h:Kin ks cs):∃ r:List Int,r.length=ks.length∧cs=eU ks r∧∀ (i:Nat) (k:CK),ks[i]?=some k→rO k (r.getD i 0):=by
 classical
 obtain⟨f,hf⟩:∃ f:Nat→Int,∀ (i:Nat) (k:CK),ks[i]?=some k→cs[i]?=some (k.mk (f i))∧rO k (f i):=by
  refine⟨fun i=>if q:∃ n,∀ k,ks[i]?=some k→cs[i]?=some (k.mk n)∧rO k n then q.choose else 0,fun i k e=>?_⟩
  have q:∃ n,∀ k,ks[i]?=some k→cs[i]?=some (k.mk n)∧rO k n:=by
   obtain⟨n,h1,h2⟩:=h.2 i k e
   refine⟨n,fun k' e'=>?_⟩
   rw[e]at e';cases e'
   exact⟨h1,h2⟩
  simp only[dif_pos q]
  exact q.choose_spec k e
 have hg:∀ i,i<ks.length→((List.range ks.length).map f).getD i 0=f i:=fun i hi=>by simp [List.getD,hi]
 refine⟨(List.range ks.length).map f,by simp,?_,fun i k e=>?_⟩
 ·apply List.ext_getElem?
  intro i
  unfold eU
  rw[List.getElem?_map,List.getElem?_zipIdx]
  cases e:ks[i]? with
  |none=>
   have:=List.getElem?_eq_none_iff.1 e
   rw[List.getElem?_eq_none (show cs.length≤i by rw[h.1];exact this)];rfl
  |some k=>
   rw[(hf i k e).1]
   simp only[Option.map_some,Nat.zero_add]
   rw[hg i (List.getElem?_eq_some_iff.1 e).1]
 ·rw[hg i (List.getElem?_eq_some_iff.1 e).1];exact(hf i k e).2
theorem aIA {k:IntKind} {n:Int} (h:(Lit.int k n).wf=true):CK.mk (.int k) n = .int k n∧rO (.int k) n:=by
 simp only[Lit.wf,Bool.and_eq_true,decide_eq_true_eq]at h
 refine⟨?_,h⟩
 show Value.int k (k.wrap n)=_
 rw[oQ k n h.1 h.2]
section
variable {H:Type} {enc:TypeId × Value→H} {P:Program} {w:World} {base:Nat} {spare:Nat→Bool} {held:Bool}
theorem aAz {go:TypeId→Option (List CK)} {fuel:Nat} (hgo:∀ t ks cs x,go t=some ks→DataW.trod enc P w base spare held fuel t cs=some x→Kin ks cs):∀ (fs:List Field) (o:Nat) (ks:List CK) (cs:List Value),qE go P fs o=some ks→
  (∀ (i:Nat) (f:Field),fs[i]?=some f→∃ x,DataW.trod enc P w base spare held fuel f.type ((cs.drop (f.offset-o)).take (P.cellsOf f.type))=some x)→cs.length=ks.length→Kin ks cs
 |[],o,ks,cs,hk,h,hl=>by
  simp only[qE,Option.some.injEq]at hk
  subst hk
  exact⟨hl,fun i k e=>by simp at e⟩
 |f::fs,o,ks,cs,hk,h,hl=>by
  unfold qE at hk
  split at hk
  case isFalse=>cases hk
  rename_i ho
  split at hk
  case h_2=>cases hk
  rename_i a ha
  split at hk
  case isFalse=>cases hk
  rename_i hal
  split at hk
  case h_2=>cases hk
  rename_i b hb
  cases hk
  obtain⟨x,hx⟩:=h 0 f rfl
  rw[ho,Nat.sub_self,List.drop_zero,←hal]at hx
  have k1:=hgo f.type a _ x ha hx
  rw[List.length_append]at hl
  have k2:=aAz hgo fs (o+a.length) b (cs.drop a.length) hb (by
   intro i g hg
   obtain⟨y,hy⟩:=h (i+1) g (by simpa using hg)
   refine⟨y,?_⟩
   rw[List.drop_drop]
   have hge:o+a.length≤g.offset:=aAl hb i g hg
   rw[show a.length+(g.offset-(o+a.length))=g.offset-o by omega]
   exact hy) (by rw[List.length_drop];omega)
  have:=Kin.append k1 k2
  rwa [List.take_append_drop]at this
theorem xF:∀ (d:Nat) (t:TypeId) (ks:List CK) (fuel:Nat) (cs:List Value) (x:DataW H × List MemPlace),mW P d t=some ks→DataW.trod enc P w base spare held fuel t cs=some x→Kin ks cs
 |0,t,ks,fuel,cs,x,hk,h=>by simp [mW]at hk
 |d+1,t,ks,fuel,cs,x,hk,h=>by
  unfold mW at hk
  split at hk
  ·rename_i hu
   cases hk
   obtain⟨b,rfl,_⟩:=DataW.trod_bool hu h
   refine⟨rfl,fun i k e=>?_⟩
   match i,e with
   |0,e=>
    cases e
    exact⟨if b then 1 else 0,by cases b<;>rfl,by cases b;exact .inl rfl;exact .inr rfl⟩
  ·rename_i k0 hu
   cases hk
   obtain⟨n,rfl,_,hw⟩:=DataW.trod_int hu h
   refine⟨rfl,fun i k e=>?_⟩
   match i,e with
   |0,e=>
    cases e
    exact⟨n,by rw[(aIA hw).1];rfl,(aIA hw).2⟩
  ·rename_i fs hu
   split at hk
   case h_2=>cases hk
   rename_i a ha
   split at hk
   case isFalse=>cases hk
   rename_i hl
   cases hk
   obtain⟨xs,n,rfl,_,hcl,hxl,hf⟩:=DataW.trod_struct hu h
   have:=aAz (fun t ks cs x=>xF d t ks n cs x) fs.toList 0 ks (cs.drop 0) ha (by
    intro i f hfi
    have e:=hf i f (by simpa using hfi)
    have hi:i<xs.length:=by rw[hxl];have:=(List.getElem?_eq_some_iff.1 hfi).1;simpa using this
    refine⟨xs[i],?_⟩
    rw[List.drop_zero,Nat.sub_zero,e];simp [hi]) (by rw[List.drop_zero,hcl,hl])
   simpa using this
  ·rename_i n e hu
   split at hk
   case h_2=>cases hk
   rename_i a ha
   split at hk
   case isFalse=>cases hk
   rename_i hl
   cases hk
   obtain⟨xs,m,rfl,_,hcl,hxl,hf⟩:=DataW.trod_array hu h
   have key:∀ j,j≤n→Kin (List.replicate j a).flatten (cs.take (j*a.length)):=by
    intro j
    induction j with
    |zero=>intro _;exact⟨by simp,fun i k e=>by simp at e⟩
    |succ j ih=>
     intro hj
     have e1:=hf j (by omega)
     rw[←hl.1]at e1
     have k1:=xF d e a m _ xs[j] ha (by rw[e1];simp [hxl,show j<n by omega])
     have e2:cs.take ((j+1)*a.length)=cs.take (j*a.length)++(cs.drop (j*a.length)).take a.length:=by
      rw[Nat.succ_mul,List.take_add]
     rw[e2,List.replicate_succ',List.flatten_append]
     simpa using Kin.append (ih (by omega)) k1
   have:=key n (Nat.le_refl _)
   rw[hl.2,←hcl,List.take_length]at this
   exact this
  ·cases hk
end
theorem aH7 {H:Type} {enc:TypeId × Value→H} {P:Program} {W:World} {base base' d0:Nat} {spare:Nat→Bool} {held:Bool} {t e:TypeId} {v:Value} {d:DataW H} {p:List MemPlace} (ks:List CK)
  (hu:P.underlying t=some (.slice e)) (hk:mW P d0 e=some ks) (hce:ks.length=P.cellsOf e) (hpos:0<ks.length)
  (hok:Value.okWide P W .any base t v) (htr:DataW.Trod enc P W base' spare held t v d p):
  ∃ (b:Sx.Loc) (L:List (List Int)),v=(if b.nil then .slice none 0 0 else .slice (some ⟨b.blk,b.base,none⟩) L.length b.cap)∧(b.nil=true→L=[]∧b.cap=0)∧L.length≤b.cap∧L.length≤9223372036854775807∧(b.nil=true∨b.blk<W.heap.size)∧
   (∀ r,r ∈ L→r.length=ks.length∧∀ (i:Nat) (k:CK),ks[i]?=some k→rO k (r.getD i 0))∧lG b W.heap[b.blk]? [aLS ks L true]:=by
 obtain⟨fuel,htr⟩:=htr
 have hvs:∃ a len cap,v = .slice a len cap:=Go.WideShapes.okWide_slice hu hok
 obtain⟨a0,len0,cap0,rfl⟩:=hvs
 rcases DataW.trod_slice hu htr with⟨h,_⟩|⟨a,len,cap,elems,rest,n,_,h,_,hb,hl,hc,hel,hrd,_⟩
 ·have h:a0=none∧len0=0∧cap0=0:=by simpa [Value.cells]using h
  obtain⟨rfl,rfl,rfl⟩:=h
  refine⟨⟨0,0,true,0⟩,[],rfl,fun _=>⟨rfl,rfl⟩,by simp,by simp,.inl rfl,(fun r hr=>nomatch hr),?_⟩
  exact⟨_,ks.length,true,rfl,hpos,.inl ⟨rfl,rfl⟩⟩
 ·have h:a0=some a∧len0=len∧cap0=cap:=by simpa [Value.cells]using h
  obtain⟨rfl,rfl,rfl⟩:=h
  have hsp:a.spot=none∧∃ cs T fz,W.heap[a.block]?=some (.cells cs T fz):=by
   unfold Value.okWide at hok
   rw[hu]at hok
   simp only at hok
   unfold Cell.okWide at hok
   rw[hu]at hok
   simp only at hok
   unfold Cell.ok at hok
   rw[hu]at hok
   simp only at hok
   obtain⟨_,_,_,h2,row,cells,h3,_⟩:=hok
   refine⟨h2,?_⟩
   unfold World.shape? at h3
   split at h3
   ·exact⟨_,_,_,by assumption⟩
   ·cases h3
  obtain⟨ablk,aoff,aspot⟩:=a
  obtain⟨rfl,ccs,cT,cfz,hcc⟩:=hsp
  simp only at hcc hb
  have hlt:ablk<W.heap.size:=(Array.getElem?_eq_some_iff.1 hcc).1
  have one:∀ i,i<len0→∃ r:List Int,(r.length=ks.length∧∀ (j:Nat) (k:CK),ks[j]?=some k→rO k (r.getD j 0))∧∀ j u,(eU ks r)[j]?=some u→W.cell? ⟨ablk,aoff+(i*ks.length+j),none⟩=some u:=by
   intro i hi
   have h1:=hrd i hi
   have h2:elems[i]?=some elems[i]:=by simp [hel,hi]
   rw[h2,Option.bind_eq_some_iff]at h1
   obtain⟨cs,h3,h4⟩:=h1
   have h5:=xF d0 e ks n cs _ hk h4
   obtain⟨r,r1,r2,r3⟩:=h5.row
   refine⟨r,⟨r1,r3⟩,fun j u hu=>?_⟩
   rw[←r2]at hu
   unfold World.cells? at h3
   split at h3
   case isFalse=>cases h3
   have hj:j<P.cellsOf e:=by
    have:=(List.getElem?_eq_some_iff.1 hu).1
    rw[h5.1,hce]at this;exact this
   have h6:=mapM_some_get h3 j j (by simp [hj])
   rw[hu]at h6
   rw[←h6,dL,dL,hce,Nat.add_assoc]
  classical
  obtain⟨f,hf⟩:∃ f:Nat→List Int,∀ i,i<len0→((f i).length=ks.length∧∀ (j:Nat) (k:CK),ks[j]?=some k→rO k ((f i).getD j 0))∧∀ j u,(eU ks (f i))[j]?=some u→W.cell? ⟨ablk,aoff+(i*ks.length+j),none⟩=some u:=by
   refine⟨fun i=>if q:i<len0 then (one i q).choose else [],fun i hi=>?_⟩
   simp only[dif_pos hi]
   exact(one i hi).choose_spec
  obtain⟨L,hL⟩:∃ L,L=(List.range len0).map f:=⟨_,rfl⟩
  have hLl:L.length=len0:=by rw[hL];simp
  have hmem:∀ r,r ∈ L→∃ i,i<len0∧r=f i:=by
   intro r hr
   rw[hL]at hr
   obtain⟨i,hi,rfl⟩:=List.mem_map.1 hr
   exact⟨i,by simpa using hi,rfl⟩
  refine⟨⟨ablk,cap0,false,aoff⟩,L,by rw[hLl];rfl,(fun q=>by cases q),by rw[hLl];exact hl,by rw[hLl];unfold maxLen at hc;omega,.inr hlt,fun r hr=>?_,?_⟩
  ·obtain⟨i,hi,rfl⟩:=hmem r hr
   exact(hf i hi).1
  ·refine⟨_,ks.length,true,rfl,hpos,.inr ⟨rfl,?_⟩⟩
   have hcell:∀ i u,(aQ ks L)[i]?=some u→W.cell? ⟨ablk,aoff+i,none⟩=some u:=by
    intro i u hi
    have hlt2:=(List.getElem?_eq_some_iff.1 hi).1
    rw[bB,hLl]at hlt2
    have hq:i / ks.length<len0:=Nat.div_lt_of_lt_mul (by rw[Nat.mul_comm];exact hlt2)
    have hm:i % ks.length<ks.length:=Nat.mod_lt _ hpos
    have e0:i=i / ks.length*ks.length+i % ks.length:=by rw[Nat.mul_comm];exact(Nat.div_add_mod i ks.length).symm
    have e1:(aQ ks L)[i / ks.length*ks.length+i % ks.length]?=some ((ks[i % ks.length]).mk ((L.getD (i / ks.length) []).getD (i % ks.length) 0)):=fW (by simp [hm]) L _ (by rw[hLl];exact hq)
    rw[←e0,hi]at e1
    have e2:L.getD (i / ks.length) []=f (i / ks.length):=by rw[hL];simp [List.getD,hq]
    have e3:(eU ks (f (i / ks.length)))[i % ks.length]?=some ((ks[i % ks.length]).mk ((f (i / ks.length)).getD (i % ks.length) 0)):=by
     unfold eU
     rw[List.getElem?_map,List.getElem?_zipIdx]
     simp [hm]
    rw[e2,←e3]at e1
    have:=(hf _ hq).2 _ u e1.symm
    rwa [←e0]at this
   refine⟨ccs,cT,cfz,hcc,fun i u hi=>?_⟩
   have:=hcell i u hi
   simpa [World.cell?,hcc]using this
theorem aH2 {G:Nat→List Int→Int} {ρ:Nat→Int} {W:World} (vs:List (Sx.Loc × List SV)) (h:∀ q,q ∈ vs→(q.1.nil=true∨q.1.blk<W.heap.size)∧∃ us,lG q.1 W.heap[q.1.blk]? us∧SV.RL G ρ (fun _=>none) q.2 us):
  RelW G ρ [] (fun id=>(vs[id]?).map (·.1)) (vs.map fun q=>some (q.2,dA)) W:=by
 have hvis:∀ id,¬jF (vs.map fun q=>(some (q.2,dA):iV)) id:=by
  rintro id ⟨q,hq,hv⟩
  rw[List.getElem?_map]at hq
  cases e:vs[id]? with
  |none=>rw[e]at hq;cases hq
  |some p=>
   rw[e]at hq
   have:q=(p.2,dA):=by cases hq;rfl
   rw[this]at hv
   exact absurd hv (show ¬vw dA=false by decide)
 have get:∀ (id:Nat) (b:Sx.Loc),(vs[id]?).map (fun q:Sx.Loc × List SV=>q.1)=some b→∃ q:Sx.Loc × List SV,vs[id]?=some q∧q.1=b:=by
  intro id b e
  cases e2:vs[id]? with
  |none=>rw[e2]at e;cases e
  |some p=>rw[e2]at e;exact⟨p,rfl,by cases e;rfl⟩
 refine⟨fun id b e=>?_,fun i j b c _ _ _ _ _ vi _=>absurd vi (hvis i),fun id cs T e=>?_,(fun p hp=>nomatch hp),fun id cs T b _ _ _ _ j c _ _ _ vj=>absurd vj (hvis j)⟩
 ·obtain⟨q,hq,rfl⟩:=get id b e
  exact⟨by rw[List.length_map];exact(List.getElem?_eq_some_iff.1 hq).1,(h q (List.mem_of_getElem? hq)).1⟩
 ·rw[List.getElem?_map]at e
  cases e2:vs[id]? with
  |none=>rw[e2]at e;cases e
  |some p=>
   rw[e2]at e
   cases e
   obtain⟨_,us,h1,h2⟩:=h p (List.mem_of_getElem? e2)
   exact⟨p.1,us,rfl,(mJ (by decide)).2 h1,SV.RL_mono (fun _ _ z=>by cases z) _ _ h2⟩
theorem aNb {G:Nat→List Int→Int} {ρ:Nat→Int} {α:aU} {ks:List CK} {L:List (List Int)} {C n:E} (h1:C.den G ρ=Lc.enc L) (h2:n.den G ρ=L.length):SV.RL G ρ α [.vec ks C n true] [aLS ks L true]:=by
 refine aR ?_ bL
 simp only[SV.R]
 rw[h1,Lc.dec_enc,h2]
 exact⟨rfl,rfl⟩
theorem aJp {G:Nat→List Int→Int} {ρ:Nat→Int} {α:aU} {id:Nat} {b:Sx.Loc} {L:List (List Int)} {n:E} {v:Value} (ha:α id=some b) (hn:n.den G ρ=L.length)
  (hv:v=(if b.nil then .slice none 0 0 else .slice (some ⟨b.blk,b.base,none⟩) L.length b.cap)) (hnil:b.nil=true→L=[]∧b.cap=0) (hle:L.length≤b.cap):SV.R G ρ α (.own id n none) v:=by
 simp only[SV.R]
 refine⟨b,ha,by omega,?_,fun q=>?_,by omega,fun e he=>by cases he⟩
 ·rw[hn,Int.toNat_natCast];exact hv
 ·obtain⟨q1,q2⟩:=hnil q
  exact⟨by rw[hn,q1];rfl,q2⟩
theorem aLX {P:Program} {G:Nat→List Int→Int} {f:FuncId} {F:FunS} {ρ:Nat→Int} {W:World} {vals:List Value} {α:aU} (hF:mE P G [] f F ρ) (hW:RelW G ρ [] α F.H W) (hvis:∀ id,¬jF F.H id) (hv:SV.RL G ρ α F.args vals) (hb:F.b = .lit true) (hs:F.s1 = .bool (.lit true)):
  Calls P f vals.toArray W (fun e w'=>e = .returned (.bool true)∧Below W.heap.size W w'):=by
 obtain⟨_,hc⟩:=hF α W vals hW hv
 refine hc.mono ?_
 rintro e w' ⟨v,α',r,hr,rfl,rv,_,x⟩
 rw[hb]at hr
 have hr:r=true:=hr.symm
 subst hr
 rw[hs]at rv
 simp only[if_true,SV.R,B.den]at rv
 subst rv
 exact⟨rfl,x.os,x.tape,x.output,x.size,fun k hk=>x.hid k hk (fun id b _ _ _=>hvis id)⟩
theorem aBk (l:List (List SV)):∀ id,¬jF (l.map fun q=>(some (q,dA):iV)) id:=by
 rintro id ⟨q,hq,hv⟩
 rw[List.getElem?_map]at hq
 cases e:l[id]? with
 |none=>rw[e]at hq;cases hq
 |some p=>
  rw[e]at hq
  have:q=(p,dA):=by cases hq;rfl
  rw[this]at hv
  exact absurd hv (show ¬vw dA=false by decide)
end Go.Proofs.Ytoiecphddchknaa
namespace Go.Proofs.Ytoiecphddchknaa
open Go Go.RowKit Sx Wi
def aQF:St:=⟨[(.own 0 (.var 0) none),.any,.any,(.ptr 2 0),.any,(.int .i64 (.var 1)),.any,.any,.any,.any,.any,.any,.any,.any,.any,.any,.any,.any,.any,.any,.any,.any,.any,.any,.any,.any,.any,.any,.any,.any,.any,.any,.any,.any,.any,.any,.any,.any,.any],[some ([.vec [.int .i64,.int .i64,.int .i64,.int .i64,.int .i64,.int .i64,.int .i32,.int .i32,.int .i32,.int .i32,.int .i32,.int .i32,.int .i64,.int .u64,.int .i64,.int .i64,.int .u64,.int .i64,.int .i64,.int .u64,.int .i64,.int .i64,.int .u64,.int .i64,.int .i64,.int .u64,.int .i64,.int .i64,.int .u64,.int .i64,.int .i64,.int .u64,.int .i64,.int .i64,.int .u64,.int .i64,.int .i64,.int .u64,.int .i64,.int .i64,.int .u64,.int .i64,.int .i64,.int .u64,.int .i64,.int .i64,.int .u64,.int .i64,.int .i64,.int .u64,.int .i64,.int .i64,.int .u64,.int .i64,.int .i64,.int .u64,.int .i64,.int .i64,.int .u64,.int .i64,.int .i64,.int .i64] (.var 2) (.var 0) false],dA),some ([.vec [.bool,.int .i64,.int .i32,.int .i32,.int .i32,.int .i32,.int .i32,.int .i32] (.var 3) (.lit 144) true],bC+46),some ([(.int .i64 (.lit 12)),(.int .i64 (.lit 12)),(.own 1 (.lit 144) (some (.lit 144)))],78)]⟩
def aPY:St:=⟨[.any,.any,.any,(.ptr 2 0),.any,.any,.any,.any,.any,.any,.any,.any,.any,.any,.any,.any,.any,.any,.any,.any,.any,.any,.any,.any,.any,.any,.any,.any,.any,.any,.any,.any,.any,.any,.any,.any,.any,.any,.any],[some ([.vec [.int .i64,.int .i64,.int .i64,.int .i64,.int .i64,.int .i64,.int .i32,.int .i32,.int .i32,.int .i32,.int .i32,.int .i32,.int .i64,.int .u64,.int .i64,.int .i64,.int .u64,.int .i64,.int .i64,.int .u64,.int .i64,.int .i64,.int .u64,.int .i64,.int .i64,.int .u64,.int .i64,.int .i64,.int .u64,.int .i64,.int .i64,.int .u64,.int .i64,.int .i64,.int .u64,.int .i64,.int .i64,.int .u64,.int .i64,.int .i64,.int .u64,.int .i64,.int .i64,.int .u64,.int .i64,.int .i64,.int .u64,.int .i64,.int .i64,.int .u64,.int .i64,.int .i64,.int .u64,.int .i64,.int .i64,.int .u64,.int .i64,.int .i64,.int .u64,.int .i64,.int .i64,.int .i64] (.var 1) (.var 0) false],dA),some ([.vec [.bool,.int .i64,.int .i32,.int .i32,.int .i32,.int .i32,.int .i32,.int .i32] (.app 43 (.cons (.var 1) (.cons (.var 0) .nil))) (.lit 144) true],bC+46),some ([(.int .i64 (.lit 12)),(.int .i64 (.lit 12)),(.own 1 (.lit 144) (some (.lit 144)))],78)]⟩
def aQo:LoopS:=⟨1,3,aQF,.lit true,.exit 0,aPY,.exit 0,aPY⟩
def aBC:List (Int × Int):=[(0,60),(0,60)]
def aKD:List (Int × Int):=[(0,60)]
def aOW:LoopU:=⟨aQo,[(.var 0),.lit 0,.var 1,(aKI (.lit 144) [.bool,.int .i64,.int .i32,.int .i32,.int .i32,.int .i32,.int .i32,.int .i32])],aBC,.lit true⟩
def vV (P:Program) (fs:List B):Res SV:=cV G GI aBC fs fun X=>mY P X GB vD kC 4000 (fZ (eI P 30) 0) aQo
def aNN:gX:=mZ 3 (jK (bV GB) [aOW]) kC
def aO7:FunS:=⟨[(.own 0 (.var 0) none)],[some ([.vec [.int .i64,.int .i64,.int .i64,.int .i64,.int .i64,.int .i64,.int .i32,.int .i32,.int .i32,.int .i32,.int .i32,.int .i32,.int .i64,.int .u64,.int .i64,.int .i64,.int .u64,.int .i64,.int .i64,.int .u64,.int .i64,.int .i64,.int .u64,.int .i64,.int .i64,.int .u64,.int .i64,.int .i64,.int .u64,.int .i64,.int .i64,.int .u64,.int .i64,.int .i64,.int .u64,.int .i64,.int .i64,.int .u64,.int .i64,.int .i64,.int .u64,.int .i64,.int .i64,.int .u64,.int .i64,.int .i64,.int .u64,.int .i64,.int .i64,.int .u64,.int .i64,.int .i64,.int .u64,.int .i64,.int .i64,.int .u64,.int .i64,.int .i64,.int .u64,.int .i64,.int .i64,.int .i64] (.var 1) (.var 0) false],dA)],.lit true,(.ptr 2 0),[some ([.vec [.int .i64,.int .i64,.int .i64,.int .i64,.int .i64,.int .i64,.int .i32,.int .i32,.int .i32,.int .i32,.int .i32,.int .i32,.int .i64,.int .u64,.int .i64,.int .i64,.int .u64,.int .i64,.int .i64,.int .u64,.int .i64,.int .i64,.int .u64,.int .i64,.int .i64,.int .u64,.int .i64,.int .i64,.int .u64,.int .i64,.int .i64,.int .u64,.int .i64,.int .i64,.int .u64,.int .i64,.int .i64,.int .u64,.int .i64,.int .i64,.int .u64,.int .i64,.int .i64,.int .u64,.int .i64,.int .i64,.int .u64,.int .i64,.int .i64,.int .u64,.int .i64,.int .i64,.int .u64,.int .i64,.int .i64,.int .u64,.int .i64,.int .i64,.int .u64,.int .i64,.int .i64,.int .i64] (.var 1) (.var 0) false],dA),some ([.vec [.bool,.int .i64,.int .i32,.int .i32,.int .i32,.int .i32,.int .i32,.int .i32] (.app 43 (.cons (.var 1) (.cons (.var 0) .nil))) (.lit 144) true],bC+46),some ([(.int .i64 (.lit 12)),(.int .i64 (.lit 12)),(.own 1 (.lit 144) (some (.lit 144)))],78)],(.ptr 2 0),[some ([.vec [.int .i64,.int .i64,.int .i64,.int .i64,.int .i64,.int .i64,.int .i32,.int .i32,.int .i32,.int .i32,.int .i32,.int .i32,.int .i64,.int .u64,.int .i64,.int .i64,.int .u64,.int .i64,.int .i64,.int .u64,.int .i64,.int .i64,.int .u64,.int .i64,.int .i64,.int .u64,.int .i64,.int .i64,.int .u64,.int .i64,.int .i64,.int .u64,.int .i64,.int .i64,.int .u64,.int .i64,.int .i64,.int .u64,.int .i64,.int .i64,.int .u64,.int .i64,.int .i64,.int .u64,.int .i64,.int .i64,.int .u64,.int .i64,.int .i64,.int .u64,.int .i64,.int .i64,.int .u64,.int .i64,.int .i64,.int .u64,.int .i64,.int .i64,.int .u64,.int .i64,.int .i64,.int .i64] (.var 1) (.var 0) false],dA),some ([.vec [.bool,.int .i64,.int .i32,.int .i32,.int .i32,.int .i32,.int .i32,.int .i32] (.app 43 (.cons (.var 1) (.cons (.var 0) .nil))) (.lit 144) true],bC+46),some ([(.int .i64 (.lit 12)),(.int .i64 (.lit 12)),(.own 1 (.lit 144) (some (.lit 144)))],78)]⟩
def aKS (P:Program) (fs:List B):Res SV:=cV G GI aKD fs fun X=>nG P X GB vD aNN 4000 30 aO7
end Go.Proofs.Ytoiecphddchknaa
set_option maxRecDepth 100000
namespace Go.Proofs.Ytoiecphddchknaa
open Go Go.RowKit Sx Wi
def aML (P:Program) (fs:List B):Res SV:=aKS P fs
def aIH:List B:=[]
theorem aJH:aML Try.prog aIH = .ok (.tuple [(.agg []),(.bool (.lit true))]):=by kernel_rfl
end Go.Proofs.Ytoiecphddchknaa
set_option maxRecDepth 100000
namespace Go.Proofs.Ytoiecphddchknaa
open Go Go.RowKit Sx Wi
def aBQ (P:Program) (fs:List B):Res SV:=vV P fs
def aCF:List B:=[]
def lK:B:=(.cmp .lt (.var 1) (.var 0))
def aC9:List B:=aM lK++aCF
def nQ:B:=(.and (.and (.cmp .le (.lit (-671088640)) (.app 83 (.cons (.var 2) (.cons (.var 1) (.cons (.lit 0) .nil))))) (.and (.cmp .le (.app 83 (.cons (.var 2) (.cons (.var 1) (.cons (.lit 0) .nil)))) (.lit 671088640)) (.and (.cmp .le (.lit (-671088640)) (.app 83 (.cons (.var 2) (.cons (.var 1) (.cons (.lit 1) .nil))))) (.and (.cmp .le (.app 83 (.cons (.var 2) (.cons (.var 1) (.cons (.lit 1) .nil)))) (.lit 671088640)) (.and (.cmp .le (.lit (-671088640)) (.app 83 (.cons (.var 2) (.cons (.var 1) (.cons (.lit 2) .nil))))) (.and (.cmp .le (.app 83 (.cons (.var 2) (.cons (.var 1) (.cons (.lit 2) .nil)))) (.lit 671088640)) (.and (.cmp .le (.lit (-671088640)) (.app 83 (.cons (.var 2) (.cons (.var 1) (.cons (.lit 3) .nil))))) (.and (.cmp .le (.app 83 (.cons (.var 2) (.cons (.var 1) (.cons (.lit 3) .nil)))) (.lit 671088640)) (.and (.cmp .le (.lit (-671088640)) (.app 83 (.cons (.var 2) (.cons (.var 1) (.cons (.lit 4) .nil))))) (.and (.cmp .le (.app 83 (.cons (.var 2) (.cons (.var 1) (.cons (.lit 4) .nil)))) (.lit 671088640)) (.and (.cmp .le (.lit (-671088640)) (.app 83 (.cons (.var 2) (.cons (.var 1) (.cons (.lit 5) .nil))))) (.cmp .le (.app 83 (.cons (.var 2) (.cons (.var 1) (.cons (.lit 5) .nil)))) (.lit 671088640))))))))))))) (.and (.cmp .le (.lit 0) (.app 82 (.cons (.var 2) (.cons (.var 1) (.cons (.lit 6) .nil))))) (.and (.cmp .le (.app 82 (.cons (.var 2) (.cons (.var 1) (.cons (.lit 6) .nil)))) (.lit 65536)) (.and (.cmp .le (.lit 0) (.app 82 (.cons (.var 2) (.cons (.var 1) (.cons (.lit 7) .nil))))) (.and (.cmp .le (.app 82 (.cons (.var 2) (.cons (.var 1) (.cons (.lit 7) .nil)))) (.lit 65536)) (.and (.cmp .le (.lit 0) (.app 82 (.cons (.var 2) (.cons (.var 1) (.cons (.lit 8) .nil))))) (.and (.cmp .le (.app 82 (.cons (.var 2) (.cons (.var 1) (.cons (.lit 8) .nil)))) (.lit 65536)) (.and (.cmp .le (.lit 0) (.app 82 (.cons (.var 2) (.cons (.var 1) (.cons (.lit 9) .nil))))) (.and (.cmp .le (.app 82 (.cons (.var 2) (.cons (.var 1) (.cons (.lit 9) .nil)))) (.lit 65536)) (.and (.cmp .le (.lit 0) (.app 82 (.cons (.var 2) (.cons (.var 1) (.cons (.lit 10) .nil))))) (.and (.cmp .le (.app 82 (.cons (.var 2) (.cons (.var 1) (.cons (.lit 10) .nil)))) (.lit 65536)) (.and (.cmp .le (.lit 0) (.app 82 (.cons (.var 2) (.cons (.var 1) (.cons (.lit 11) .nil))))) (.and (.cmp .le (.app 82 (.cons (.var 2) (.cons (.var 1) (.cons (.lit 11) .nil)))) (.lit 65536)) (.and (.cmp .le (.lit 1) (.app 83 (.cons (.var 2) (.cons (.var 1) (.cons (.lit 60) .nil))))) (.and (.cmp .le (.app 83 (.cons (.var 2) (.cons (.var 1) (.cons (.lit 60) .nil)))) (.lit 4)) (.and (.or (.cmp .le (.app 83 (.cons (.var 2) (.cons (.var 1) (.cons (.lit 60) .nil)))) (.lit 0)) (.and (.cmp .le (.lit (-1125899906842624)) (.op .add (.op .mul (.app 83 (.cons (.var 2) (.cons (.var 1) (.cons (.lit 12) .nil)))) (.lit 18446744073709551616)) (.app 87 (.cons (.var 2) (.cons (.var 1) (.cons (.lit 13) .nil)))))) (.and (.cmp .le (.op .add (.op .mul (.app 83 (.cons (.var 2) (.cons (.var 1) (.cons (.lit 12) .nil)))) (.lit 18446744073709551616)) (.app 87 (.cons (.var 2) (.cons (.var 1) (.cons (.lit 13) .nil))))) (.lit 1125899906842624)) (.and (.cmp .le (.lit (-1125899906842624)) (.op .add (.op .mul (.app 83 (.cons (.var 2) (.cons (.var 1) (.cons (.lit 24) .nil)))) (.lit 18446744073709551616)) (.app 87 (.cons (.var 2) (.cons (.var 1) (.cons (.lit 25) .nil)))))) (.and (.cmp .le (.op .add (.op .mul (.app 83 (.cons (.var 2) (.cons (.var 1) (.cons (.lit 24) .nil)))) (.lit 18446744073709551616)) (.app 87 (.cons (.var 2) (.cons (.var 1) (.cons (.lit 25) .nil))))) (.lit 1125899906842624)) (.and (.cmp .le (.lit (-1125899906842624)) (.op .add (.op .mul (.app 83 (.cons (.var 2) (.cons (.var 1) (.cons (.lit 36) .nil)))) (.lit 18446744073709551616)) (.app 87 (.cons (.var 2) (.cons (.var 1) (.cons (.lit 37) .nil)))))) (.and (.cmp .le (.op .add (.op .mul (.app 83 (.cons (.var 2) (.cons (.var 1) (.cons (.lit 36) .nil)))) (.lit 18446744073709551616)) (.app 87 (.cons (.var 2) (.cons (.var 1) (.cons (.lit 37) .nil))))) (.lit 1125899906842624)) (.and (.cmp .le (.lit (-1125899906842624)) (.op .add (.op .mul (.app 83 (.cons (.var 2) (.cons (.var 1) (.cons (.lit 48) .nil)))) (.lit 18446744073709551616)) (.app 87 (.cons (.var 2) (.cons (.var 1) (.cons (.lit 49) .nil)))))) (.and (.cmp .le (.op .add (.op .mul (.app 83 (.cons (.var 2) (.cons (.var 1) (.cons (.lit 48) .nil)))) (.lit 18446744073709551616)) (.app 87 (.cons (.var 2) (.cons (.var 1) (.cons (.lit 49) .nil))))) (.lit 1125899906842624)) (.and (.cmp .le (.lit 1) (.app 83 (.cons (.var 2) (.cons (.var 1) (.cons (.lit 14) .nil))))) (.and (.cmp .le (.app 83 (.cons (.var 2) (.cons (.var 1) (.cons (.lit 14) .nil)))) (.lit 65535)) (.and (.cmp .eq (.app 83 (.cons (.var 2) (.cons (.var 1) (.cons (.lit 26) .nil)))) (.app 83 (.cons (.var 2) (.cons (.var 1) (.cons (.lit 14) .nil))))) (.and (.cmp .eq (.app 83 (.cons (.var 2) (.cons (.var 1) (.cons (.lit 38) .nil)))) (.app 83 (.cons (.var 2) (.cons (.var 1) (.cons (.lit 14) .nil))))) (.cmp .eq (.app 83 (.cons (.var 2) (.cons (.var 1) (.cons (.lit 50) .nil)))) (.app 83 (.cons (.var 2) (.cons (.var 1) (.cons (.lit 14) .nil)))))))))))))))))) (.and (.or (.cmp .le (.app 83 (.cons (.var 2) (.cons (.var 1) (.cons (.lit 60) .nil)))) (.lit 1)) (.and (.cmp .le (.lit (-1125899906842624)) (.op .add (.op .mul (.app 83 (.cons (.var 2) (.cons (.var 1) (.cons (.lit 15) .nil)))) (.lit 18446744073709551616)) (.app 87 (.cons (.var 2) (.cons (.var 1) (.cons (.lit 16) .nil)))))) (.and (.cmp .le (.op .add (.op .mul (.app 83 (.cons (.var 2) (.cons (.var 1) (.cons (.lit 15) .nil)))) (.lit 18446744073709551616)) (.app 87 (.cons (.var 2) (.cons (.var 1) (.cons (.lit 16) .nil))))) (.lit 1125899906842624)) (.and (.cmp .le (.lit (-1125899906842624)) (.op .add (.op .mul (.app 83 (.cons (.var 2) (.cons (.var 1) (.cons (.lit 27) .nil)))) (.lit 18446744073709551616)) (.app 87 (.cons (.var 2) (.cons (.var 1) (.cons (.lit 28) .nil)))))) (.and (.cmp .le (.op .add (.op .mul (.app 83 (.cons (.var 2) (.cons (.var 1) (.cons (.lit 27) .nil)))) (.lit 18446744073709551616)) (.app 87 (.cons (.var 2) (.cons (.var 1) (.cons (.lit 28) .nil))))) (.lit 1125899906842624)) (.and (.cmp .le (.lit (-1125899906842624)) (.op .add (.op .mul (.app 83 (.cons (.var 2) (.cons (.var 1) (.cons (.lit 39) .nil)))) (.lit 18446744073709551616)) (.app 87 (.cons (.var 2) (.cons (.var 1) (.cons (.lit 40) .nil)))))) (.and (.cmp .le (.op .add (.op .mul (.app 83 (.cons (.var 2) (.cons (.var 1) (.cons (.lit 39) .nil)))) (.lit 18446744073709551616)) (.app 87 (.cons (.var 2) (.cons (.var 1) (.cons (.lit 40) .nil))))) (.lit 1125899906842624)) (.and (.cmp .le (.lit (-1125899906842624)) (.op .add (.op .mul (.app 83 (.cons (.var 2) (.cons (.var 1) (.cons (.lit 51) .nil)))) (.lit 18446744073709551616)) (.app 87 (.cons (.var 2) (.cons (.var 1) (.cons (.lit 52) .nil)))))) (.and (.cmp .le (.op .add (.op .mul (.app 83 (.cons (.var 2) (.cons (.var 1) (.cons (.lit 51) .nil)))) (.lit 18446744073709551616)) (.app 87 (.cons (.var 2) (.cons (.var 1) (.cons (.lit 52) .nil))))) (.lit 1125899906842624)) (.and (.cmp .le (.lit 1) (.app 83 (.cons (.var 2) (.cons (.var 1) (.cons (.lit 17) .nil))))) (.and (.cmp .le (.app 83 (.cons (.var 2) (.cons (.var 1) (.cons (.lit 17) .nil)))) (.lit 65535)) (.and (.cmp .eq (.app 83 (.cons (.var 2) (.cons (.var 1) (.cons (.lit 29) .nil)))) (.app 83 (.cons (.var 2) (.cons (.var 1) (.cons (.lit 17) .nil))))) (.and (.cmp .eq (.app 83 (.cons (.var 2) (.cons (.var 1) (.cons (.lit 41) .nil)))) (.app 83 (.cons (.var 2) (.cons (.var 1) (.cons (.lit 17) .nil))))) (.cmp .eq (.app 83 (.cons (.var 2) (.cons (.var 1) (.cons (.lit 53) .nil)))) (.app 83 (.cons (.var 2) (.cons (.var 1) (.cons (.lit 17) .nil)))))))))))))))))) (.and (.or (.cmp .le (.app 83 (.cons (.var 2) (.cons (.var 1) (.cons (.lit 60) .nil)))) (.lit 2)) (.and (.cmp .le (.lit (-1125899906842624)) (.op .add (.op .mul (.app 83 (.cons (.var 2) (.cons (.var 1) (.cons (.lit 18) .nil)))) (.lit 18446744073709551616)) (.app 87 (.cons (.var 2) (.cons (.var 1) (.cons (.lit 19) .nil)))))) (.and (.cmp .le (.op .add (.op .mul (.app 83 (.cons (.var 2) (.cons (.var 1) (.cons (.lit 18) .nil)))) (.lit 18446744073709551616)) (.app 87 (.cons (.var 2) (.cons (.var 1) (.cons (.lit 19) .nil))))) (.lit 1125899906842624)) (.and (.cmp .le (.lit (-1125899906842624)) (.op .add (.op .mul (.app 83 (.cons (.var 2) (.cons (.var 1) (.cons (.lit 30) .nil)))) (.lit 18446744073709551616)) (.app 87 (.cons (.var 2) (.cons (.var 1) (.cons (.lit 31) .nil)))))) (.and (.cmp .le (.op .add (.op .mul (.app 83 (.cons (.var 2) (.cons (.var 1) (.cons (.lit 30) .nil)))) (.lit 18446744073709551616)) (.app 87 (.cons (.var 2) (.cons (.var 1) (.cons (.lit 31) .nil))))) (.lit 1125899906842624)) (.and (.cmp .le (.lit (-1125899906842624)) (.op .add (.op .mul (.app 83 (.cons (.var 2) (.cons (.var 1) (.cons (.lit 42) .nil)))) (.lit 18446744073709551616)) (.app 87 (.cons (.var 2) (.cons (.var 1) (.cons (.lit 43) .nil)))))) (.and (.cmp .le (.op .add (.op .mul (.app 83 (.cons (.var 2) (.cons (.var 1) (.cons (.lit 42) .nil)))) (.lit 18446744073709551616)) (.app 87 (.cons (.var 2) (.cons (.var 1) (.cons (.lit 43) .nil))))) (.lit 1125899906842624)) (.and (.cmp .le (.lit (-1125899906842624)) (.op .add (.op .mul (.app 83 (.cons (.var 2) (.cons (.var 1) (.cons (.lit 54) .nil)))) (.lit 18446744073709551616)) (.app 87 (.cons (.var 2) (.cons (.var 1) (.cons (.lit 55) .nil)))))) (.and (.cmp .le (.op .add (.op .mul (.app 83 (.cons (.var 2) (.cons (.var 1) (.cons (.lit 54) .nil)))) (.lit 18446744073709551616)) (.app 87 (.cons (.var 2) (.cons (.var 1) (.cons (.lit 55) .nil))))) (.lit 1125899906842624)) (.and (.cmp .le (.lit 1) (.app 83 (.cons (.var 2) (.cons (.var 1) (.cons (.lit 20) .nil))))) (.and (.cmp .le (.app 83 (.cons (.var 2) (.cons (.var 1) (.cons (.lit 20) .nil)))) (.lit 65535)) (.and (.cmp .eq (.app 83 (.cons (.var 2) (.cons (.var 1) (.cons (.lit 32) .nil)))) (.app 83 (.cons (.var 2) (.cons (.var 1) (.cons (.lit 20) .nil))))) (.and (.cmp .eq (.app 83 (.cons (.var 2) (.cons (.var 1) (.cons (.lit 44) .nil)))) (.app 83 (.cons (.var 2) (.cons (.var 1) (.cons (.lit 20) .nil))))) (.cmp .eq (.app 83 (.cons (.var 2) (.cons (.var 1) (.cons (.lit 56) .nil)))) (.app 83 (.cons (.var 2) (.cons (.var 1) (.cons (.lit 20) .nil)))))))))))))))))) (.or (.cmp .le (.app 83 (.cons (.var 2) (.cons (.var 1) (.cons (.lit 60) .nil)))) (.lit 3)) (.and (.cmp .le (.lit (-1125899906842624)) (.op .add (.op .mul (.app 83 (.cons (.var 2) (.cons (.var 1) (.cons (.lit 21) .nil)))) (.lit 18446744073709551616)) (.app 87 (.cons (.var 2) (.cons (.var 1) (.cons (.lit 22) .nil)))))) (.and (.cmp .le (.op .add (.op .mul (.app 83 (.cons (.var 2) (.cons (.var 1) (.cons (.lit 21) .nil)))) (.lit 18446744073709551616)) (.app 87 (.cons (.var 2) (.cons (.var 1) (.cons (.lit 22) .nil))))) (.lit 1125899906842624)) (.and (.cmp .le (.lit (-1125899906842624)) (.op .add (.op .mul (.app 83 (.cons (.var 2) (.cons (.var 1) (.cons (.lit 33) .nil)))) (.lit 18446744073709551616)) (.app 87 (.cons (.var 2) (.cons (.var 1) (.cons (.lit 34) .nil)))))) (.and (.cmp .le (.op .add (.op .mul (.app 83 (.cons (.var 2) (.cons (.var 1) (.cons (.lit 33) .nil)))) (.lit 18446744073709551616)) (.app 87 (.cons (.var 2) (.cons (.var 1) (.cons (.lit 34) .nil))))) (.lit 1125899906842624)) (.and (.cmp .le (.lit (-1125899906842624)) (.op .add (.op .mul (.app 83 (.cons (.var 2) (.cons (.var 1) (.cons (.lit 45) .nil)))) (.lit 18446744073709551616)) (.app 87 (.cons (.var 2) (.cons (.var 1) (.cons (.lit 46) .nil)))))) (.and (.cmp .le (.op .add (.op .mul (.app 83 (.cons (.var 2) (.cons (.var 1) (.cons (.lit 45) .nil)))) (.lit 18446744073709551616)) (.app 87 (.cons (.var 2) (.cons (.var 1) (.cons (.lit 46) .nil))))) (.lit 1125899906842624)) (.and (.cmp .le (.lit (-1125899906842624)) (.op .add (.op .mul (.app 83 (.cons (.var 2) (.cons (.var 1) (.cons (.lit 57) .nil)))) (.lit 18446744073709551616)) (.app 87 (.cons (.var 2) (.cons (.var 1) (.cons (.lit 58) .nil)))))) (.and (.cmp .le (.op .add (.op .mul (.app 83 (.cons (.var 2) (.cons (.var 1) (.cons (.lit 57) .nil)))) (.lit 18446744073709551616)) (.app 87 (.cons (.var 2) (.cons (.var 1) (.cons (.lit 58) .nil))))) (.lit 1125899906842624)) (.and (.cmp .le (.lit 1) (.app 83 (.cons (.var 2) (.cons (.var 1) (.cons (.lit 23) .nil))))) (.and (.cmp .le (.app 83 (.cons (.var 2) (.cons (.var 1) (.cons (.lit 23) .nil)))) (.lit 65535)) (.and (.cmp .eq (.app 83 (.cons (.var 2) (.cons (.var 1) (.cons (.lit 35) .nil)))) (.app 83 (.cons (.var 2) (.cons (.var 1) (.cons (.lit 23) .nil))))) (.and (.cmp .eq (.app 83 (.cons (.var 2) (.cons (.var 1) (.cons (.lit 47) .nil)))) (.app 83 (.cons (.var 2) (.cons (.var 1) (.cons (.lit 23) .nil))))) (.cmp .eq (.app 83 (.cons (.var 2) (.cons (.var 1) (.cons (.lit 59) .nil)))) (.app 83 (.cons (.var 2) (.cons (.var 1) (.cons (.lit 23) .nil))))))))))))))))))))))))))))))))))))
def aIV:List B:=aM nQ++aC9
def aCn:SV:=(.agg [(.int .i64 (.op .add (.var 1) (.lit 1))),(.int .i64 (.var 1)),(.int .i64 (.var 2)),(.int .i64 (.var 2)),(.int .i64 (.app 79 (.cons (.app 83 (.cons (.var 2) (.cons (.var 1) (.cons (.lit 0) .nil)))) (.cons (.app 83 (.cons (.var 2) (.cons (.var 1) (.cons (.lit 1) .nil)))) (.cons (.app 83 (.cons (.var 2) (.cons (.var 1) (.cons (.lit 2) .nil)))) (.cons (.app 83 (.cons (.var 2) (.cons (.var 1) (.cons (.lit 3) .nil)))) (.cons (.app 83 (.cons (.var 2) (.cons (.var 1) (.cons (.lit 4) .nil)))) (.cons (.app 83 (.cons (.var 2) (.cons (.var 1) (.cons (.lit 5) .nil)))) (.cons (.app 82 (.cons (.var 2) (.cons (.var 1) (.cons (.lit 6) .nil)))) (.cons (.app 82 (.cons (.var 2) (.cons (.var 1) (.cons (.lit 7) .nil)))) (.cons (.app 82 (.cons (.var 2) (.cons (.var 1) (.cons (.lit 8) .nil)))) (.cons (.app 82 (.cons (.var 2) (.cons (.var 1) (.cons (.lit 9) .nil)))) (.cons (.app 82 (.cons (.var 2) (.cons (.var 1) (.cons (.lit 10) .nil)))) (.cons (.app 82 (.cons (.var 2) (.cons (.var 1) (.cons (.lit 11) .nil)))) (.cons (.op .add (.op .mul (.app 83 (.cons (.var 2) (.cons (.var 1) (.cons (.lit 12) .nil)))) (.lit 18446744073709551616)) (.app 87 (.cons (.var 2) (.cons (.var 1) (.cons (.lit 13) .nil))))) (.cons (.op .add (.op .mul (.app 83 (.cons (.var 2) (.cons (.var 1) (.cons (.lit 15) .nil)))) (.lit 18446744073709551616)) (.app 87 (.cons (.var 2) (.cons (.var 1) (.cons (.lit 16) .nil))))) (.cons (.op .add (.op .mul (.app 83 (.cons (.var 2) (.cons (.var 1) (.cons (.lit 18) .nil)))) (.lit 18446744073709551616)) (.app 87 (.cons (.var 2) (.cons (.var 1) (.cons (.lit 19) .nil))))) (.cons (.op .add (.op .mul (.app 83 (.cons (.var 2) (.cons (.var 1) (.cons (.lit 21) .nil)))) (.lit 18446744073709551616)) (.app 87 (.cons (.var 2) (.cons (.var 1) (.cons (.lit 22) .nil))))) (.cons (.op .add (.op .mul (.app 83 (.cons (.var 2) (.cons (.var 1) (.cons (.lit 24) .nil)))) (.lit 18446744073709551616)) (.app 87 (.cons (.var 2) (.cons (.var 1) (.cons (.lit 25) .nil))))) (.cons (.op .add (.op .mul (.app 83 (.cons (.var 2) (.cons (.var 1) (.cons (.lit 27) .nil)))) (.lit 18446744073709551616)) (.app 87 (.cons (.var 2) (.cons (.var 1) (.cons (.lit 28) .nil))))) (.cons (.op .add (.op .mul (.app 83 (.cons (.var 2) (.cons (.var 1) (.cons (.lit 30) .nil)))) (.lit 18446744073709551616)) (.app 87 (.cons (.var 2) (.cons (.var 1) (.cons (.lit 31) .nil))))) (.cons (.op .add (.op .mul (.app 83 (.cons (.var 2) (.cons (.var 1) (.cons (.lit 33) .nil)))) (.lit 18446744073709551616)) (.app 87 (.cons (.var 2) (.cons (.var 1) (.cons (.lit 34) .nil))))) (.cons (.op .add (.op .mul (.app 83 (.cons (.var 2) (.cons (.var 1) (.cons (.lit 36) .nil)))) (.lit 18446744073709551616)) (.app 87 (.cons (.var 2) (.cons (.var 1) (.cons (.lit 37) .nil))))) (.cons (.op .add (.op .mul (.app 83 (.cons (.var 2) (.cons (.var 1) (.cons (.lit 39) .nil)))) (.lit 18446744073709551616)) (.app 87 (.cons (.var 2) (.cons (.var 1) (.cons (.lit 40) .nil))))) (.cons (.op .add (.op .mul (.app 83 (.cons (.var 2) (.cons (.var 1) (.cons (.lit 42) .nil)))) (.lit 18446744073709551616)) (.app 87 (.cons (.var 2) (.cons (.var 1) (.cons (.lit 43) .nil))))) (.cons (.op .add (.op .mul (.app 83 (.cons (.var 2) (.cons (.var 1) (.cons (.lit 45) .nil)))) (.lit 18446744073709551616)) (.app 87 (.cons (.var 2) (.cons (.var 1) (.cons (.lit 46) .nil))))) (.cons (.op .add (.op .mul (.app 83 (.cons (.var 2) (.cons (.var 1) (.cons (.lit 48) .nil)))) (.lit 18446744073709551616)) (.app 87 (.cons (.var 2) (.cons (.var 1) (.cons (.lit 49) .nil))))) (.cons (.op .add (.op .mul (.app 83 (.cons (.var 2) (.cons (.var 1) (.cons (.lit 51) .nil)))) (.lit 18446744073709551616)) (.app 87 (.cons (.var 2) (.cons (.var 1) (.cons (.lit 52) .nil))))) (.cons (.op .add (.op .mul (.app 83 (.cons (.var 2) (.cons (.var 1) (.cons (.lit 54) .nil)))) (.lit 18446744073709551616)) (.app 87 (.cons (.var 2) (.cons (.var 1) (.cons (.lit 55) .nil))))) (.cons (.op .add (.op .mul (.app 83 (.cons (.var 2) (.cons (.var 1) (.cons (.lit 57) .nil)))) (.lit 18446744073709551616)) (.app 87 (.cons (.var 2) (.cons (.var 1) (.cons (.lit 58) .nil))))) (.cons (.app 83 (.cons (.var 2) (.cons (.var 1) (.cons (.lit 14) .nil)))) (.cons (.app 83 (.cons (.var 2) (.cons (.var 1) (.cons (.lit 17) .nil)))) (.cons (.app 83 (.cons (.var 2) (.cons (.var 1) (.cons (.lit 20) .nil)))) (.cons (.app 83 (.cons (.var 2) (.cons (.var 1) (.cons (.lit 23) .nil)))) (.cons (.app 83 (.cons (.var 2) (.cons (.var 1) (.cons (.lit 60) .nil)))) (.cons (.app 83 (.cons (.var 2) (.cons (.var 1) (.cons (.lit 61) .nil)))) (.cons (.lit 12) (.cons (.lit 12) (.cons (.var 3) (.cons (.op .max (.op .max (.lit 0) (.op .fdiv (.op .sub (.op .add (.op .sub (.op .min (.op .min (.app 83 (.cons (.var 2) (.cons (.var 1) (.cons (.lit 1) .nil)))) (.app 83 (.cons (.var 2) (.cons (.var 1) (.cons (.lit 3) .nil))))) (.app 83 (.cons (.var 2) (.cons (.var 1) (.cons (.lit 5) .nil))))) (.lit 128)) (.lit 256)) (.lit 1)) (.lit 256))) (.op .min (.lit 12) (.op .add (.op .fdiv (.op .sub (.op .max (.op .max (.app 83 (.cons (.var 2) (.cons (.var 1) (.cons (.lit 1) .nil)))) (.app 83 (.cons (.var 2) (.cons (.var 1) (.cons (.lit 3) .nil))))) (.app 83 (.cons (.var 2) (.cons (.var 1) (.cons (.lit 5) .nil))))) (.lit 128)) (.lit 256)) (.lit 1)))) .nil)))))))))))))))))))))))))))))))))))))))),(.int .i64 (.var 3))])
def aKa:List B:=aM (B.neg nQ)++aC9
def aIO:List B:=aM (B.neg lK)++aCF
theorem aLe:aBQ Try.prog aIV = .ok aCn:=by kernel_rfl
theorem aJR:aBQ Try.prog aKa = .ok (.agg [(.int .i64 (.op .add (.var 1) (.lit 1))),(.int .i64 (.var 1)),(.int .i64 (.var 2)),(.int .i64 (.var 2)),(.int .i64 (.var 3)),(.int .i64 (.var 3))]):=by kernel_rfl
theorem aKW:aBQ Try.prog aIO = .ok (.tuple [(.agg [(.int .i64 (.var 2)),(.int .i64 (.var 1)),(.int .i64 (.var 3)),(.int .i64 (.app 43 (.cons (.var 1) (.cons (.var 0) .nil))))]),(.bool (.lit true))]):=by kernel_rfl
end Go.Proofs.Ytoiecphddchknaa
namespace Go.Proofs.Ytoiecphddchknaa
open Go Go.RowKit Sx Wi
theorem aA3 {a b c w0 w1 w2 p:Int} (h0:0≤w0) (h1:0≤w1) (h2:0≤w2) (hs:1≤w0+w1+w2) (e:w0*a+w1*b+w2*c=(w0+w1+w2)*p):min (min a b) c≤p∧p≤max (max a b) c:=by
 have m0:=Int.mul_le_mul_of_nonneg_left (show min (min a b) c≤a by omega) h0
 have m1:=Int.mul_le_mul_of_nonneg_left (show min (min a b) c≤b by omega) h1
 have m2:=Int.mul_le_mul_of_nonneg_left (show min (min a b) c≤c by omega) h2
 have k0:=Int.mul_le_mul_of_nonneg_left (show a≤max (max a b) c by omega) h0
 have k1:=Int.mul_le_mul_of_nonneg_left (show b≤max (max a b) c by omega) h1
 have k2:=Int.mul_le_mul_of_nonneg_left (show c≤max (max a b) c by omega) h2
 have e1:(w0+w1+w2)*min (min a b) c=w0*min (min a b) c+w1*min (min a b) c+w2*min (min a b) c:=by rw[Int.add_mul,Int.add_mul]
 have e2:(w0+w1+w2)*max (max a b) c=w0*max (max a b) c+w1*max (max a b) c+w2*max (max a b) c:=by rw[Int.add_mul,Int.add_mul]
 exact⟨Int.le_of_mul_le_mul_left (by omega:(w0+w1+w2)*min (min a b) c≤(w0+w1+w2)*p) (by omega),Int.le_of_mul_le_mul_left (by omega:(w0+w1+w2)*p≤(w0+w1+w2)*max (max a b) c) (by omega)⟩
theorem aJY {a b c d e f x y:Int} (h:eV [a,b,c,d,e,f,x,y]≠0):(min (min a c) e≤x∧x≤max (max a c) e)∧(min (min b d) f≤y∧y≤max (max b d) f):=by
 have hw:=(aGm h).2
 have hk:fB ⟨a,b⟩ ⟨c,d⟩ ⟨e,f⟩ ⟨x,y⟩:=by
  replace h:Ed.claim ⟨a,b⟩ ⟨c,d⟩ ⟨e,f⟩ ⟨x,y⟩≠0:=h
  unfold Ed.claim at h
  split at h
  ·exact absurd rfl h
  rename_i h0
  refine⟨?_,?_⟩
  ·by_cases q:Ed.ok ⟨a,b⟩∧Ed.ok ⟨c,d⟩∧Ed.ok ⟨e,f⟩
   ·exact q
   ·exact absurd (Or.inl (by unfold Ed.area;rw[if_neg q];rfl)) h0
  ·by_cases q:Ed.ok ⟨x,y⟩
   ·exact q
   ·exact absurd (Or.inr q) h0
 have w0:cN 0 [a,b,c,d,e,f,x,y]=Ed.cross ⟨c,d⟩ ⟨e,f⟩ ⟨x,y⟩:=by show wt _ _ _ _ _=_;unfold wt;rw[if_pos hk];rfl
 have w1:cN 1 [a,b,c,d,e,f,x,y]=Ed.cross ⟨e,f⟩ ⟨a,b⟩ ⟨x,y⟩:=by show wt _ _ _ _ _=_;unfold wt;rw[if_pos hk];rfl
 have w2:cN 2 [a,b,c,d,e,f,x,y]=Ed.cross ⟨a,b⟩ ⟨c,d⟩ ⟨x,y⟩:=by show wt _ _ _ _ _=_;unfold wt;rw[if_pos hk];rfl
 rw[w0,w1,w2]at hw
 clear w0 w1 w2 hk h
 have ex:Ed.cross ⟨c,d⟩ ⟨e,f⟩ ⟨x,y⟩*a+Ed.cross ⟨e,f⟩ ⟨a,b⟩ ⟨x,y⟩*c+Ed.cross ⟨a,b⟩ ⟨c,d⟩ ⟨x,y⟩*e=(Ed.cross ⟨c,d⟩ ⟨e,f⟩ ⟨x,y⟩+Ed.cross ⟨e,f⟩ ⟨a,b⟩ ⟨x,y⟩+Ed.cross ⟨a,b⟩ ⟨c,d⟩ ⟨x,y⟩)*x:=by
  unfold Ed.cross;dsimp only;grind
 have ey:Ed.cross ⟨c,d⟩ ⟨e,f⟩ ⟨x,y⟩*b+Ed.cross ⟨e,f⟩ ⟨a,b⟩ ⟨x,y⟩*d+Ed.cross ⟨a,b⟩ ⟨c,d⟩ ⟨x,y⟩*f=(Ed.cross ⟨c,d⟩ ⟨e,f⟩ ⟨x,y⟩+Ed.cross ⟨e,f⟩ ⟨a,b⟩ ⟨x,y⟩+Ed.cross ⟨a,b⟩ ⟨c,d⟩ ⟨x,y⟩)*y:=by
  unfold Ed.cross;dsimp only;grind
 generalize Ed.cross ⟨c,d⟩ ⟨e,f⟩ ⟨x,y⟩=u at *
 generalize Ed.cross ⟨e,f⟩ ⟨a,b⟩ ⟨x,y⟩=v at *
 generalize Ed.cross ⟨a,b⟩ ⟨c,d⟩ ⟨x,y⟩=w at *
 rcases hw with⟨p0,p1,p2,p3⟩|⟨p0,p1,p2,p3⟩
 ·exact⟨aA3 p0 p1 p2 p3 ex,aA3 p0 p1 p2 p3 ey⟩
 ·refine⟨aA3 (w0 := -u) (w1 := -v) (w2 := -w) (by omega) (by omega) (by omega) (by omega) ?_,aA3 (w0 := -u) (w1 := -v) (w2 := -w) (by omega) (by omega) (by omega) (by omega) ?_⟩
  ·rw[Int.neg_mul,Int.neg_mul,Int.neg_mul,show -u + -v + -w = -(u+v+w)by omega,Int.neg_mul];omega
  ·rw[Int.neg_mul,Int.neg_mul,Int.neg_mul,show -u + -v + -w = -(u+v+w)by omega,Int.neg_mul];omega
def aQM (xs:List Int) (y x:Int) (old:List Int):List Int:=
 let t:=xs.take 6
 let w:=fun j=>cN j (t++[x*256+128,y*256+128])
 let c:=fun j:Nat=>aEr [(j:Int),xs.getD 22 0,xs.getD (6+j) 0,xs.getD (10+j) 0,xs.getD (14+j) 0,xs.getD (18+j) 0,w 0,w 1,w 2]
 if eV (t++[x*256+128,y*256+128])=0 then old else [1,xs.getD 23 0,0,0,c 0,c 1,c 2,c 3]
def aO1 (xs:List Int) (L M:List (List Int)) (S:Int→Int→Prop):Prop:=
 M.length=144∧∀ k:Nat,k<144→(S ((k / 12:Nat):Int) ((k % 12:Nat):Int)→M.getD k []=aQM xs ((k / 12:Nat):Int) ((k % 12:Nat):Int) (L.getD k []))∧(¬S ((k / 12:Nat):Int) ((k % 12:Nat):Int)→M.getD k []=L.getD k [])
theorem aO1.congr {xs:List Int} {L M:List (List Int)} {S S':Int→Int→Prop} (h:aO1 xs L M S) (e:∀ a b,0≤a→a≤11→0≤b→b≤11→(S a b↔S' a b)):aO1 xs L M S':=
 ⟨h.1,fun k hk=>⟨fun q=>(h.2 k hk).1 ((e _ _ (by omega) (by omega) (by omega) (by omega)).2 q),fun q=>(h.2 k hk).2 fun z=>q ((e _ _ (by omega) (by omega) (by omega) (by omega)).1 z)⟩⟩
theorem aGv (xs:List Int):0≤aY xs:=by unfold aY uM;omega
theorem aIQ (xs:List Int):0≤bA xs:=by unfold bA uM;omega
def yP (old:List Int) (f u v:Int):Prop:=old.getD 0 0=0∨(¬f=IntKind.i64.wrap (old.getD 1 0)∧IntKind.i64.wrap (old.getD 1 0)<f)∨(f=IntKind.i64.wrap (old.getD 1 0)∧¬v=IntKind.i32.wrap (old.getD 3 0)∧IntKind.i32.wrap (old.getD 3 0)<v)∨(f=IntKind.i64.wrap (old.getD 1 0)∧v=IntKind.i32.wrap (old.getD 3 0)∧IntKind.i32.wrap (old.getD 2 0)≤u)
instance (old:List Int) (f u v:Int):Decidable (yP old f u v):=by unfold yP;infer_instance
theorem aGg (C i f u v:Int):yF C i f u v↔yP ((Lc.dec C).getD i.toNat []) f u v:=by
 have r0:wG 88 [C,i,0]=(((Lc.dec C).getD i.toNat []).getD (0:Int).toNat 0):=pO 88 _ (by decide) (by decide)
 have r1:wG 83 [C,i,1]=IntKind.i64.wrap (((Lc.dec C).getD i.toNat []).getD (1:Int).toNat 0):=pO 83 _ (by decide) (by decide)
 have r2:wG 82 [C,i,2]=IntKind.i32.wrap (((Lc.dec C).getD i.toNat []).getD (2:Int).toNat 0):=pO 82 _ (by decide) (by decide)
 have r3:wG 82 [C,i,3]=IntKind.i32.wrap (((Lc.dec C).getD i.toNat []).getD (3:Int).toNat 0):=pO 82 _ (by decide) (by decide)
 unfold yF yP
 rw[r0,r1,r2,r3]
 exact Iff.rfl
def uL (xs:List Int) (y x:Int):Int:=cB [xs.getD 6 0,xs.getD 7 0,xs.getD 8 0,cN 0 (xs.take 6++[x*256+128,y*256+128]),cN 1 (xs.take 6++[x*256+128,y*256+128]),cN 2 (xs.take 6++[x*256+128,y*256+128])]
def vL (xs:List Int) (y x:Int):Int:=cB [xs.getD 9 0,xs.getD 10 0,xs.getD 11 0,cN 0 (xs.take 6++[x*256+128,y*256+128]),cN 1 (xs.take 6++[x*256+128,y*256+128]),cN 2 (xs.take 6++[x*256+128,y*256+128])]
def cL (xs:List Int) (u v:Int) (j:Nat):Int:=iZ [(j:Int),xs.getD 32 0,xs.getD (12+j) 0,xs.getD (16+j) 0,xs.getD (20+j) 0,xs.getD (24+j) 0,xs.getD (28+j) 0,u,v]
def uJ (xs:List Int) (u v:Int):List Int:=[1,xs.getD 33 0,u,v,cL xs u v 0,cL xs u v 1,cL xs u v 2,cL xs u v 3]
def wJ (xs:List Int) (y x:Int) (old:List Int):List Int:=
 if eV (xs.take 6++[x*256+128,y*256+128])=0 then old else if yP old (xs.getD 33 0) (uL xs y x) (vL xs y x) then uJ xs (uL xs y x) (vL xs y x) else old
def rQ (xs:List Int) (L M:List (List Int)) (S:Int→Int→Prop):Prop:=
 M.length=144∧∀ k:Nat,k<144→(S ((k / 12:Nat):Int) ((k % 12:Nat):Int)→M.getD k []=wJ xs ((k / 12:Nat):Int) ((k % 12:Nat):Int) (L.getD k []))∧(¬S ((k / 12:Nat):Int) ((k % 12:Nat):Int)→M.getD k []=L.getD k [])
theorem aD6 {xs:List Int} {L:List (List Int)} {C:Int} {S:Int→Int→Prop} (hw:xs.getD 34 0=12) (h:rQ xs L (Lc.dec C) S) {y x:Int} (hy:0≤y∧y≤11) (hx:0≤x∧x≤11) (hS:¬S y x):
  rQ xs L (Lc.dec (pE xs C y x)) (fun a b=>S a b∨(a=y∧b=x)):=by
 obtain⟨h1,h2⟩:=h
 have hold:∀ k:Nat,k<144→((k / 12:Nat):Int)=y∧((k % 12:Nat):Int)=x→(Lc.dec C).getD k []=L.getD k []:=fun k hk q=>(h2 k hk).2 (by rw[q.1,q.2];exact hS)
 have e0:pE xs C y x=if eV (xs.take 6++[x*256+128,y*256+128])=0 then C else if yF C (y*xs.getD 34 0+x) (xs.getD 33 0) (uL xs y x) (vL xs y x) then wG 92 (C::(y*xs.getD 34 0+x)::uJ xs (uL xs y x) (vL xs y x)) else C:=rfl
 have same:pE xs C y x=C→(∀ k:Nat,k<144→((k / 12:Nat):Int)=y∧((k % 12:Nat):Int)=x→wJ xs y x (L.getD k [])=L.getD k [])→rQ xs L (Lc.dec (pE xs C y x)) (fun a b=>S a b∨(a=y∧b=x)):=by
  intro e hp
  rw[e]
  refine⟨h1,fun k hk=>⟨?_,fun q=>(h2 k hk).2 fun z=>q (.inl z)⟩⟩
  rintro(q|⟨q1,q2⟩)
  ·exact(h2 k hk).1 q
  ·rw[hold k hk ⟨q1,q2⟩,q1,q2]
   exact(hp k hk ⟨q1,q2⟩).symm
 by_cases hc:eV (xs.take 6++[x*256+128,y*256+128])=0
 ·exact same (by rw[e0,if_pos hc]) fun k hk q=>if_pos hc
 have hkk:∀ k:Nat,k<144→((k / 12:Nat):Int)=y∧((k % 12:Nat):Int)=x→(y*12+x).toNat=k:=fun k hk q=>by omega
 by_cases hwn:yF C (y*xs.getD 34 0+x) (xs.getD 33 0) (uL xs y x) (vL xs y x)
 ·have hwp:=(aGg _ _ _ _ _).1 hwn
  rw[hw]at hwp
  have e2:wG 92 (C::(y*xs.getD 34 0+x)::uJ xs (uL xs y x) (vL xs y x))=Lc.enc ((Lc.dec C).set (y*12+x).toNat (uJ xs (uL xs y x) (vL xs y x))):=by rw[hw];exact pO 92 _ (by decide) (by decide)
  rw[e0,if_neg hc,if_pos hwn,e2,Lc.dec_enc]
  refine⟨by rw[List.length_set];exact h1,fun k hk=>?_⟩
  by_cases hk2:(y*12+x).toNat=k
  ·have q1:((k / 12:Nat):Int)=y:=by omega
   have q2:((k % 12:Nat):Int)=x:=by omega
   rw[q1,q2]
   refine⟨fun _=>?_,fun q=>absurd (.inr ⟨rfl,rfl⟩) q⟩
   rw[hk2,hold k hk ⟨q1,q2⟩]at hwp
   have ep:wJ xs y x (L.getD k [])=uJ xs (uL xs y x) (vL xs y x):=by unfold wJ;rw[if_neg hc,if_pos hwp]
   rw[ep,hk2,List.getD_eq_getElem?_getD,List.getElem?_set_self (by omega)]
   rfl
  ·have e3:((Lc.dec C).set (y*12+x).toNat (uJ xs (uL xs y x) (vL xs y x))).getD k []=(Lc.dec C).getD k []:=by
    rw[List.getD_eq_getElem?_getD,List.getElem?_set_ne hk2,←List.getD_eq_getElem?_getD]
   rw[e3]
   refine⟨?_,fun q=>(h2 k hk).2 fun z=>q (.inl z)⟩
   rintro(q|⟨q1,q2⟩)
   ·exact(h2 k hk).1 q
   ·exact absurd (hkk k hk ⟨q1,q2⟩) hk2
 ·refine same (by rw[e0,if_neg hc,if_neg hwn]) fun k hk q=>?_
  have hwp:¬yP (L.getD k []) (xs.getD 33 0) (uL xs y x) (vL xs y x):=by
   intro z
   apply hwn
   rw[aGg,hw,hkk k hk q,hold k hk q]
   exact z
  unfold wJ
  rw[if_neg hc,if_neg hwp]
theorem rQ.congr {xs:List Int} {L M:List (List Int)} {S S':Int→Int→Prop} (h:rQ xs L M S) (e:∀ a b,0≤a→a≤11→0≤b→b≤11→(S a b↔S' a b)):rQ xs L M S':=
 ⟨h.1,fun k hk=>⟨fun q=>(h.2 k hk).1 ((e _ _ (by omega) (by omega) (by omega) (by omega)).2 q),fun q=>(h.2 k hk).2 fun z=>q ((e _ _ (by omega) (by omega) (by omega) (by omega)).1 z)⟩⟩
theorem aEn {xs:List Int} (hw:xs.getD 34 0=12):aZ xs≤12:=by unfold aZ mC;omega
theorem aKj {xs:List Int} (hh:xs.getD 35 0=12):eY xs≤12:=by unfold eY mC;omega
theorem zK {xs:List Int} {L:List (List Int)} {C:Int} {S:Int→Int→Prop} (hw:xs.getD 34 0=12) (h:rQ xs L (Lc.dec C) S) {y:Int} (hy:0≤y∧y≤11) (hS:∀ b,¬S y b):
  ∀ j:Nat,j≤(aZ xs-aY xs).toNat→rQ xs L (Lc.dec (kA xs C y j)) (fun a b=>S a b∨(a=y∧aY xs≤b∧b<aY xs+j))
 |0,_=>h.congr fun a b _ _ _ _=>⟨.inl,fun q=>q.resolve_right fun z=>by omega⟩
 |j+1,hj=>by
  have:=aGv xs;have:=aEn hw
  have ih:=zK hw h hy hS j (by omega)
  refine(aD6 hw ih hy (x:=aY xs+j) ⟨by omega,by omega⟩ ?_).congr fun a b _ _ _ _=>?_
  ·rintro(q|q)
   ·exact hS _ q
   ·omega
  ·constructor
   ·rintro((q|q)|q)
    ·exact .inl q
    ·exact .inr ⟨q.1,q.2.1,by omega⟩
    ·exact .inr ⟨q.1,by omega,by omega⟩
   ·rintro(q|q)
    ·exact .inl (.inl q)
    ·by_cases z:b=aY xs+j
     ·exact .inr ⟨q.1,z⟩
     ·exact .inl (.inr ⟨q.1,q.2.1,by omega⟩)
theorem uQ {xs:List Int} {C:Int} (hw:xs.getD 34 0=12) (hh:xs.getD 35 0=12) (hL:(Lc.dec C).length=144):
  ∀ i:Nat,i≤(eY xs-bA xs).toNat→rQ xs (Lc.dec C) (Lc.dec (cD xs C i)) (fun a b=>(bA xs≤a∧a<bA xs+i)∧aY xs≤b∧b<aZ xs)
 |0,_=>⟨hL,fun k hk=>⟨fun q=>by omega,fun _=>rfl⟩⟩
 |i+1,hi=>by
  have:=aIQ xs;have:=aKj hh
  refine(zK hw (uQ hw hh hL i (by omega)) (y:=bA xs+i) ⟨by omega,by omega⟩ (fun b q=>by omega) (aZ xs-aY xs).toNat (Nat.le_refl _)).congr fun a b _ _ _ _=>?_
  constructor
  ·rintro(q|q)
   ·exact⟨⟨q.1.1,by omega⟩,q.2⟩
   ·exact⟨⟨by omega,by omega⟩,q.2.1,by omega⟩
  ·rintro⟨q1,q2⟩
   by_cases z:a=bA xs+i
   ·exact .inr ⟨z,q2.1,by omega⟩
   ·exact .inl ⟨⟨q1.1,by omega⟩,q2⟩
theorem aEE {xs:List Int} {C:Int} (h6:6≤xs.length) (hw:xs.getD 34 0=12) (hh:xs.getD 35 0=12) (hL:(Lc.dec C).length=144) (k:Nat) (hk:k<144):
  (Lc.dec (cD xs C (max (bA xs) (eY xs)-bA xs).toNat)).getD k []=wJ xs ((k / 12:Nat):Int) ((k % 12:Nat):Int) ((Lc.dec C).getD k [])∧(Lc.dec (cD xs C (max (bA xs) (eY xs)-bA xs).toNat)).length=144:=by
 obtain⟨h1,h2⟩:=uQ hw hh hL (max (bA xs) (eY xs)-bA xs).toNat (by omega)
 refine⟨?_,h1⟩
 by_cases q:(bA xs≤((k / 12:Nat):Int)∧((k / 12:Nat):Int)<bA xs+((max (bA xs) (eY xs)-bA xs).toNat:Nat))∧aY xs≤((k % 12:Nat):Int)∧((k % 12:Nat):Int)<aZ xs
 ·exact(h2 k hk).1 q
 ·rw[(h2 k hk).2 q]
  by_cases hc:eV (xs.take 6++[((k % 12:Nat):Int)*256+128,((k / 12:Nat):Int)*256+128])=0
  ·exact(if_pos hc).symm
  ·exfalso
   match xs,h6 with
   |a::b::c::d::e::f::l,_=>
    obtain⟨g1,g2⟩:=aJY hc
    unfold aY aZ bA eY uM mC at q
    rw[hw,hh]at q
    simp only[List.getD_cons_zero,List.getD_cons_succ]at q
    simp only[Int.fdiv_eq_ediv_of_nonneg _ (show (0:Int)≤256 by decide)]at q
    omega
end Go.Proofs.Ytoiecphddchknaa
