/- What is proved: a law's row where what each slice of an argument takes is bounded,and an argument that is a function of the program's own (api.Func) is opened field by field. No condition but those that are stated. -/
import Derived.Test.YtdldallkeheciaaQa12
import Derived.Test.YtdldallkeheciaaQg5
import Derived.Test.YtdldallkeheciaaQg6
import Derived.SizedLaws
set_option linter.unusedSimpArgs false
set_option linter.unusedVariables false
set_option maxRecDepth 100000
namespace Go.Proofs.Ytdldallkeheciaa
open Go Go.ChangeShapes Go.WideShapes Go.ChangeAt Go.RowKit Sx
theorem vG {C:Checked} {os:Os} {f:FuncId} {fn:Func} {s:ChangeSpec} {B:TypeId} {H:Type} {enc:TypeId × Value→H} (own:ownKnob C.prog.godebug=none) (started:os.Started) (noInit:C.prog.inits.idxOf? f=none)
  (hfn:C.prog.funcs[f]?=some fn) (hl:laidOutB C.prog=true) (hread:∀ t ∈ fn.params.toList,C.prog.readableRec t=true∧t<C.prog.types.size) (hres:fn.resultTypes=#[B]) (hB:C.prog.underlying B=some .bool)
  (hsv:s.vars=[]) (hs:∀ ds:List (DataW H),ds.length=fn.params.size→s.fn H ds={ results:=[.lit (.bool true)],args:=ds })
  (witness:∃ (w:World) (tape:Tape) (i:Input),w.os=os∧(w.forCall tape i).Shaped C.prog∧i.vars=[]∧Input.okWide C.prog (w.forCall tape i) .any w.heap.size f i∧
   s.pre6 enc C.prog fn [] false (w.forCall tape i).memory i.args∧({}:Assume).holds C.prog (lone (Frame.enter C.prog f i.args .normal) [] (w.forCall tape i)))
  (walk:∀ (W:World) (base:Nat) (args:Array Value) (ds:List (DataW H)) (p:List MemPlace),args.size=fn.params.size→
   (∀ (j:Nat) t v,fn.params[j]?=some t→args[j]?=some v→Value.okWide C.prog W .any base t v)→DataW.TrodAll enc C.prog W 0 (fun _=>true) true fn.params.toList args.toList ds p→
   (∀ (j:Nat) t d,fn.params.toList[j]?=some t→ds[j]?=some d→∀ n ∈ d.weights C.prog t,n≤reachBytes)→
   Calls C.prog f args W fun e W'=>e = .returned (.bool true)∧Below W.heap.size W W'):
  ReturnsInHanded {} C os f .any (s.pre6 enc C.prog fn [] false) (s.post enc C.prog fn false true false false):=by
 refine returnsInHanded_of_change_sized (C:=C) own started noInit hfn witness ?_
 intro W base args ds gs before hval hW _ hwt _
 have hW':=hW
 obtain⟨p,q,hA,hV,hbf,_,_⟩:=hW
 have hV0:gs=[]∧q=[]:=by
  rw[hsv]at hV
  cases gs with
  |nil=>exact⟨rfl,hV⟩
  |cons _ _=>exact hV.elim
 obtain⟨rfl,rfl⟩:=hV0
 have hlen:=pB _ _ _ _ hA
 have hsz:args.size=fn.params.size:=by have:=hlen.1;simpa using this
 have hw:∀ (j:Nat) t d,fn.params.toList[j]?=some t→ds[j]?=some d→∀ n ∈ d.weights C.prog t,n≤reachBytes:=by
  intro j t d ht hd n hn
  have hm:=DataW.weights_mem_each (P:=C.prog) (ts:=fn.params.toList++s.plain.varTypes C.prog) (ds:=ds++[]) (j:=j) (t:=t) (d:=d) (by rw[List.getElem?_append_left (List.getElem?_eq_some_iff.1 ht).1];exact ht) (by rw[List.append_nil];exact hd) n hn
  have:=List.all_eq_true.1 hwt _ hm
  simpa using this
 refine(walk W base args ds p hsz hval hA hw).mono fun e W' ⟨he,hg⟩=>?_
 have e1:s.fn H (ds++[])={ results:=[.lit (.bool true)],args:=ds }:=by
  rw[List.append_nil];exact hs ds (by have:=hlen.2;simpa using this)
 have hlt:∀ x ∈ p,x.block<W.heap.size:=fun x hx=>hW'.lt x (by rw[hbf];simpa using hx)
 refine⟨_,he,ds,[],before,[],p,[],hW',?_,?_,?_,hg.frame _,fun h=>by cases h⟩
 ·rw[e1,hres];exact trodAll_mk1 (shut_bool hB true)
 ·rw[e1];exact rB hl hg _ _ _ _ hread hA hlt
 ·rw[e1,hsv];rfl
theorem aHY {H:Type} {enc:TypeId × Value→H} {P:Program} {W:World} {base':Nat} {spare:Nat→Bool} {held:Bool} {t:TypeId} {cs:List Value} {d:DataW H} {p:List MemPlace} {fs:Array Field}
  (hu:P.underlying t=some (.struct fs)) (hb:∀ n ∈ d.weights P t,n≤reachBytes) (htr:DataW.Trod enc P W base' spare held t (.agg cs.toArray) d p) {i k:Nat} {u e:TypeId} (hi:(fs.toList.map (fun f=>(f.type,f.offset)))[i]?=some (u,k))
  (hone:P.cellsOf u=1) (he:P.underlying u=some (.slice e)) {a:Addr} {len cap:Nat} (hc:cs[k]?=some (.slice (some a) len cap)):len*P.bytesOf e≤reachBytes:=by
 obtain⟨fuel,htr⟩:=htr
 obtain⟨xs,n,rfl,hx,hcl,hxl,hf⟩:=DataW.trod_struct hu htr
 cases hx
 rw[List.getElem?_map,Option.map_eq_some_iff]at hi
 obtain⟨f,hfi,hfe⟩:=hi
 have h1:f.type=u:=congrArg Prod.fst hfe
 have h2:f.offset=k:=congrArg Prod.snd hfe
 have hfi':fs[i]?=some f:=by simpa using hfi
 have e1:=hf i f hfi'
 rw[h1,h2,hone]at e1
 have hk:k<cs.length:=(List.getElem?_eq_some_iff.1 hc).1
 have hcv:cs[k] = .slice (some a) len cap:=by have:=List.getElem?_eq_getElem hk;rw[hc]at this;exact(Option.some.inj this).symm
 have e2:(List.drop k (Value.cells (.agg cs.toArray)).toList).take 1=[.slice (some a) len cap]:=by
  show (List.drop k cs).take 1=_
  rw[List.drop_eq_getElem_cons hk,hcv]
  simp
 rw[e2]at e1
 have hlx:i<xs.length:=by
  rw[hxl];have:=(List.getElem?_eq_some_iff.1 hfi).1;simpa using this
 rw[List.getElem?_eq_getElem hlx]at e1
 rcases DataW.trod_slice he e1 with⟨h,_⟩|⟨a',len',cap',elems,rest,m,_,h,hxe,_,_,_,hel,_⟩
 ·exact absurd h (by simp)
 ·have hle:len'=len:=by simp at h;omega
  have hw:(elems.length+rest.length)*P.bytesOf e ∈ (DataW.agg (xs.map (·.1))).weights P t:=by
   simp only[DataW.weights,hu]
   refine DataW.weights_mem_each (j:=i) (t:=u) (d:=(xs[i]).1) ?_ (by simp [hlx]) _ ?_
   ·rw[List.getElem?_map,hfi,Option.map_some,h1]
   ·rw[hxe];simp [DataW.weights,he]
  have:=hb _ hw
  have q:len*P.bytesOf e≤(elems.length+rest.length)*P.bytesOf e:=Nat.mul_le_mul_right _ (by omega)
  omega
def sl (b:Sx.Loc) (n:Nat):Value:=if b.nil then .slice none 0 0 else .slice (some ⟨b.blk,b.base,none⟩) n b.cap
def uL (b:Sx.Loc) (n:Nat):Prop:=(b.nil=true→n=0∧b.cap=0)∧n≤b.cap∧n≤9223372036854775807
def wF (W:World) (b:Sx.Loc) (ks:List CK) (L:List (List Int)):Prop:=(b.nil=true∨b.blk<W.heap.size)∧jM b W.heap[b.blk]? [aL1 ks L true]
theorem sP {H:Type} {enc:TypeId × Value→H} {P:Program} {W:World} {base base':Nat} {spare:Nat→Bool} {held:Bool} {t e:TypeId} {v:Value}
  (hu:P.underlying t=some (.slice e)) (hok:Value.okWide P W .any base t v) (htr:v.cells=#[v]→∃ d p,DataW.Trod enc P W base' spare held t v d p):
  ∃ (b:Sx.Loc) (n:Nat),v=sl b n∧uL b n∧wF W b [.int .i64] []:=by
 obtain⟨a0,len0,cap0,rfl⟩:=Go.WideShapes.okWide_slice hu hok
 obtain⟨d,p,fuel,htr⟩:=htr rfl
 rcases DataW.trod_slice hu htr with⟨h,_⟩|⟨a,len,cap,elems,rest,n,_,h,_,hb,hl,hc,hel,hrd,_⟩
 ·have h:a0=none∧len0=0∧cap0=0:=by simpa [Value.cells]using h
  obtain⟨rfl,rfl,rfl⟩:=h
  exact⟨⟨0,0,true,0⟩,0,rfl,⟨fun _=>⟨rfl,rfl⟩,by simp,by simp⟩,.inl rfl,_,1,true,rfl,by decide,.inl ⟨rfl,rfl⟩⟩
 ·have h:a0=some a∧len0=len∧cap0=cap:=by simpa [Value.cells]using h
  obtain⟨rfl,rfl,rfl⟩:=h
  have hsp:a.spot=none∧∃ cs T fz,W.heap[a.block]?=some (.cells cs T fz):=by
   unfold Value.okWide at hok
   rw[hu]at hok
   simp only at hok
   unfold Cell.okWide at hok
   rw[hu]at hok
   simp only at hok
   unfold Cell.ok at hok
   rw[hu]at hok
   simp only at hok
   obtain⟨_,_,_,h2,row,cells,h3,_⟩:=hok
   refine⟨h2,?_⟩
   unfold World.shape? at h3
   split at h3
   ·exact⟨_,_,_,by assumption⟩
   ·cases h3
  obtain⟨ablk,aoff,aspot⟩:=a
  obtain⟨rfl,ccs,cT,cfz,hcc⟩:=hsp
  have hlt:ablk<W.heap.size:=(Array.getElem?_eq_some_iff.1 hcc).1
  refine⟨⟨ablk,cap0,false,aoff⟩,len0,rfl,⟨(fun q=>by cases q),hl,by unfold maxLen at hc;omega⟩,.inr hlt,[],1,true,rfl,by decide,.inr ⟨rfl,ccs,cT,cfz,hcc,fun i v hv=>by simp at hv⟩⟩
theorem jG {H:Type} {enc:TypeId × Value→H} {P:Program} {W:World} {base base' d0:Nat} {spare:Nat→Bool} {held:Bool} {t e:TypeId} {v:Value} (ks:List CK)
  (hu:P.underlying t=some (.slice e)) (hk:nP P d0 e=some ks) (hce:ks.length=P.cellsOf e) (hpos:0<ks.length)
  (hok:Value.okWide P W .any base t v) (htr:v.cells=#[v]→∃ d p,DataW.Trod enc P W base' spare held t v d p):∃ (b:Sx.Loc) (L:List (List Int)),v=sl b L.length∧uL b L.length∧wF W b ks L:=by
 have hv:v.cells=#[v]:=by
  obtain⟨a0,len0,cap0,rfl⟩:=Go.WideShapes.okWide_slice hu hok;rfl
 obtain⟨d,p,htr⟩:=htr hv
 obtain⟨b,L,h1,h2,h3,h4,h5,_,h6⟩:=aIq ks hu hk hce hpos hok htr
 exact⟨b,L,h1,⟨fun q=>⟨by rw[(h2 q).1];rfl,(h2 q).2⟩,h3,h4⟩,h5,h6⟩
theorem yG {H:Type} {enc:TypeId × Value→H} {P:Program} {W:World} {base base':Nat} {spare:Nat→Bool} {held:Bool} {t:TypeId} {k:IntKind} {v:Value}
  (hu:P.underlying t=some (.int k)) (hok:Value.okWide P W .any base t v) (htr:v.cells=#[v]→∃ d p,DataW.Trod enc P W base' spare held t v d p):∃ n,v = .int k n∧k.min≤n∧n≤k.max:=aMJ hu hok
theorem lD {G:Nat→List Int→Int} {ρ:Nat→Int} {α:aV} {id:Nat} {b:Sx.Loc} {m:Nat} {n:E} (ha:α id=some b) (hn:n.den G ρ=m) (h:uL b m):SV.R G ρ α (.own id n none) (sl b m):=by
 simp only[SV.R]
 refine⟨b,ha,by omega,?_,fun q=>?_,by have:=h.2.1;omega,fun e he _=>by cases he⟩
 ·rw[hn,Int.toNat_natCast];rfl
 ·obtain⟨q1,q2⟩:=h.1 q
  exact⟨by rw[hn,q1];rfl,q2⟩
theorem aQd {G:Nat→List Int→Int} {ρ:Nat→Int} {α:aV} {l:List SV} {cs:List Value} (h:SV.RL G ρ α l cs):SV.R G ρ α (.agg l) (.agg cs.toArray):=by
 simp only[SV.R];exact⟨cs,rfl,h⟩
theorem aBJ {G:Nat→List Int→Int} {ρ:Nat→Int} {α:aV} {k:IntKind} {e:E} {n:Int} (h:e.den G ρ=n):SV.R G ρ α (.int k e) (.int k n):=by
 simp only[SV.R];rw[h]
theorem aKX {G:Nat→List Int→Int} {ρ:Nat→Int} {α:aV} {e:E} {s:ByteArray} (h:e.den G ρ=s.size):SV.R G ρ α (.text e) (.string s):=by
 simp only[SV.R];exact⟨s,rfl,h.symm⟩
noncomputable def xB:Array Field:=match Try.prog.underlying 30 with|some (.struct fs)=>fs|_=>#[]
def aUe:List TypeId:=[22,23,23,24,3,23,23,25,26,26,27,28,26,9]
def fnV (x0 x4 x10:Int) (b1 b2 b3 b5 b6 b7 b8 b9 b11 b12:Sx.Loc) (n1 n2 n3 n5 n6 n7 n8 n9 n11 n12:Nat) (tx:ByteArray):Value:=
 .agg #[.int .u8 x0,sl b1 n1,sl b2 n2,sl b3 n3,.int .i64 x4,sl b5 n5,sl b6 n6,sl b7 n7,sl b8 n8,sl b9 n9,.int .i32 x10,sl b11 n11,sl b12 n12,.string tx]
theorem aHU {H:Type} {enc:TypeId × Value→H} {W:World} {base base':Nat} {spare:Nat→Bool} {held:Bool} {v:Value} {d:DataW H} {p:List MemPlace} (hok:Value.okWide Try.prog W .any base 30 v) (htr:DataW.Trod enc Try.prog W base' spare held 30 v d p)
  (hb:∀ n ∈ d.weights Try.prog 30,n≤reachBytes):
  ∃ (x0 x4 x10:Int) (b1 b2 b3 b5 b6 b7 b8 b9 b11 b12:Sx.Loc) (D R S E De B:List (List Int)) (n8 n9 n11 n12:Nat) (tx:ByteArray),
   v=fnV x0 x4 x10 b1 b2 b3 b5 b6 b7 b8 b9 b11 b12 D.length R.length S.length E.length De.length B.length n8 n9 n11 n12 tx∧
   (0≤x0∧x0≤255)∧(-9223372036854775808≤x4∧x4≤9223372036854775807)∧(-2147483648≤x10∧x10≤2147483647)∧tx.size≤9223372036854775807∧S.length≤17592186043904∧
   uL b1 D.length∧uL b2 R.length∧uL b3 S.length∧uL b5 E.length∧uL b6 De.length∧uL b7 B.length∧uL b8 n8∧uL b9 n9∧uL b11 n11∧uL b12 n12∧
   wF W b1 [.int .i32,.int .i32] D∧wF W b2 [.int .i32,.int .i32] R∧wF W b3 [.int .i64] S∧wF W b5 [.int .i32,.int .i32] E∧wF W b6 [.int .i32,.int .i32] De∧wF W b7 [.int .u8] B∧
   wF W b8 [.int .i64] []∧wF W b9 [.int .i64] []∧wF W b11 [.int .i64] []∧wF W b12 [.int .i64] []:=by
 have hu:Try.prog.underlying 30=some (.struct xB):=by kernel_rfl
 have hfs:xB.toList.map (fun f=>(f.type,f.offset))=aUe.zipIdx:=by kernel_rfl
 obtain⟨cs,rfl,hlen,hc⟩:=aEl (fs:=xB) aUe hu (by kernel_rfl) (by kernel_rfl) hfs (by
  have h:(aUe.all fun u=>decide (Try.prog.cellsOf u=1) && (match Try.prog.underlying u with|some (.struct _)|some (.array _ _)=>false|_=>true))=true:=by kernel_rfl
  intro u hu
  have:=List.all_eq_true.1 h u hu
  rw[Bool.and_eq_true,decide_eq_true_eq]at this
  exact this) hok htr
 obtain⟨c0,e0,o0,t0⟩:=hc 0 22 rfl
 obtain⟨c1,e1,o1,t1⟩:=hc 1 23 rfl
 obtain⟨c2,e2,o2,t2⟩:=hc 2 23 rfl
 obtain⟨c3,e3,o3,t3⟩:=hc 3 24 rfl
 obtain⟨c4,e4,o4,t4⟩:=hc 4 3 rfl
 obtain⟨c5,e5,o5,t5⟩:=hc 5 23 rfl
 obtain⟨c6,e6,o6,t6⟩:=hc 6 23 rfl
 obtain⟨c7,e7,o7,t7⟩:=hc 7 25 rfl
 obtain⟨c8,e8,o8,t8⟩:=hc 8 26 rfl
 obtain⟨c9,e9,o9,t9⟩:=hc 9 26 rfl
 obtain⟨c10,e10,o10,t10⟩:=hc 10 27 rfl
 obtain⟨c11,e11,o11,t11⟩:=hc 11 28 rfl
 obtain⟨c12,e12,o12,t12⟩:=hc 12 26 rfl
 obtain⟨c13,e13,o13,t13⟩:=hc 13 9 rfl
 clear hc
 obtain⟨x0,rfl,y0⟩:=yG (k := .u8) (by kernel_rfl) o0 t0
 obtain⟨b1,D,rfl,s1,v1⟩:=jG (e:=41) (d0:=8) [.int .i32,.int .i32] (by kernel_rfl) (by kernel_rfl) (by kernel_rfl) (by decide) o1 t1
 obtain⟨b2,R,rfl,s2,v2⟩:=jG (e:=41) (d0:=8) [.int .i32,.int .i32] (by kernel_rfl) (by kernel_rfl) (by kernel_rfl) (by decide) o2 t2
 obtain⟨b3,S,rfl,s3,v3⟩:=jG (e:=3) (d0:=8) [.int .i64] (by kernel_rfl) (by kernel_rfl) (by kernel_rfl) (by decide) o3 t3
 obtain⟨x4,rfl,y4⟩:=yG (k := .i64) (by kernel_rfl) o4 t4
 obtain⟨b5,E,rfl,s5,v5⟩:=jG (e:=41) (d0:=8) [.int .i32,.int .i32] (by kernel_rfl) (by kernel_rfl) (by kernel_rfl) (by decide) o5 t5
 obtain⟨b6,De,rfl,s6,v6⟩:=jG (e:=41) (d0:=8) [.int .i32,.int .i32] (by kernel_rfl) (by kernel_rfl) (by kernel_rfl) (by decide) o6 t6
 obtain⟨b7,B,rfl,s7,v7⟩:=jG (e:=5) (d0:=8) [.int .u8] (by kernel_rfl) (by kernel_rfl) (by kernel_rfl) (by decide) o7 t7
 obtain⟨b8,n8,rfl,s8,v8⟩:=sP (e:=27) (by kernel_rfl) o8 t8
 obtain⟨b9,n9,rfl,s9,v9⟩:=sP (e:=27) (by kernel_rfl) o9 t9
 obtain⟨x10,rfl,y10⟩:=yG (k := .i32) (by kernel_rfl) o10 t10
 obtain⟨b11,n11,rfl,s11,v11⟩:=sP (e:=30) (by kernel_rfl) o11 t11
 obtain⟨b12,n12,rfl,s12,v12⟩:=sP (e:=27) (by kernel_rfl) o12 t12
 obtain⟨tx,rfl,ht⟩:=aHP (by kernel_rfl) o13 t13
 have hS:S.length≤17592186043904:=by
  cases q:b3.nil
  ·have h:=aHY (i:=3) (k:=3) (u:=24) (e:=3) (a:=⟨b3.blk,b3.base,none⟩) (len:=S.length) (cap:=b3.cap) hu hb htr (by rw[hfs];rfl) (by kernel_rfl) (by kernel_rfl) (by rw[e3];unfold sl;rw[q];rfl)
   have e:Try.prog.bytesOf 3=8:=by kernel_rfl
   rw[e]at h
   unfold reachBytes at h
   omega
  ·rw[(s3.1 q).1];omega
 refine⟨x0,x4,x10,b1,b2,b3,b5,b6,b7,b8,b9,b11,b12,D,R,S,E,De,B,n8,n9,n11,n12,tx,?_,y0,y4,y10,ht,hS,s1,s2,s3,s5,s6,s7,s8,s9,s11,s12,v1,v2,v3,v5,v6,v7,v8,v9,v11,v12⟩
 have hcs:cs=[.int .u8 x0,sl b1 D.length,sl b2 R.length,sl b3 S.length,.int .i64 x4,sl b5 E.length,sl b6 De.length,sl b7 B.length,sl b8 n8,sl b9 n9,.int .i32 x10,sl b11 n11,sl b12 n12,.string tx]:=by
  apply List.ext_getElem?
  intro i
  have hl:cs.length=14:=hlen
  rcases Nat.lt_or_ge i 14 with h|h
  ·match i,h with
   |0,_=>exact e0
   |1,_=>exact e1
   |2,_=>exact e2
   |3,_=>exact e3
   |4,_=>exact e4
   |5,_=>exact e5
   |6,_=>exact e6
   |7,_=>exact e7
   |8,_=>exact e8
   |9,_=>exact e9
   |10,_=>exact e10
   |11,_=>exact e11
   |12,_=>exact e12
   |13,_=>exact e13
  ·rw[List.getElem?_eq_none (by omega),List.getElem?_eq_none (by simpa using h)]
 rw[hcs]
 rfl
end Go.Proofs.Ytdldallkeheciaa
