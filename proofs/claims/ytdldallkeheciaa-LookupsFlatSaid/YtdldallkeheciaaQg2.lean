/- What is proved: operations on lists of rows (slices of structs of numbers,of whatever length),over closed data,are what the model does. No condition. -/
import Derived.Test.YtdldallkeheciaaQg1
import Derived.Laws.AppendOwn
import Derived.Laws.MakeOwn
set_option linter.unusedSimpArgs false
set_option linter.unusedVariables false
namespace Go.Proofs.Ytdldallkeheciaa
namespace Sx
open Go Go.RowKit
theorem gR (sh:List CK) (r:List Int):(eK sh r).length=sh.length:=by simp [eK]
theorem bB (sh:List CK):∀ L:List (List Int),(aT sh L).length=L.length*sh.length
 |[]=>by simp [aT]
 |r::L=>by
  have ih:=bB sh L
  unfold aT at ih ⊢
  simp only[List.flatMap_cons,List.length_append,gR,ih,List.length_cons,Nat.succ_mul]
  omega
theorem dV (sh:List CK) (L M:List (List Int)):aT sh (L++M)=aT sh L++aT sh M:=by simp [aT]
theorem aCx {sh:List CK} {r:List Int} {j:Nat} {c:CK} (h:sh[j]?=some c):(eK sh r)[j]?=some (c.mk (r.getD j 0)):=by
 unfold eK
 rw[List.getElem?_map,List.getElem?_zipIdx,h]
 simp
theorem fK {sh:List CK} {j:Nat} {c:CK} (h:sh[j]?=some c):∀ (L:List (List Int)) (i:Nat),i<L.length→(aT sh L)[i*sh.length+j]?=some (c.mk ((L.getD i []).getD j 0))
 |[],i,hi=>by simp at hi
 |r::L,0,_=>by
  have hj:j<sh.length:=(List.getElem?_eq_some_iff.1 h).1
  unfold aT
  simp only[List.flatMap_cons,Nat.zero_mul,Nat.zero_add]
  rw[List.getElem?_append_left (by rw[gR];exact hj),aCx h]
  rfl
 |r::L,i+1,hi=>by
  have ih:=fK h L i (by simpa using hi)
  unfold aT at ih ⊢
  simp only[List.flatMap_cons]
  rw[List.getElem?_append_right (by rw[gR,Nat.succ_mul];omega),gR,
   show (i+1)*sh.length+j-sh.length=i*sh.length+j by rw[Nat.succ_mul];omega,ih]
  rfl
theorem aAA {sh:List CK} {L:List (List Int)} {i j:Nat} {r0:List Int} {vs:List Value} (hi:i<L.length) (hj:j+vs.length≤sh.length)
  (hin:∀ q v,vs[q]?=some v→∃ c,sh[j+q]?=some c∧v=c.mk (r0.getD (j+q) 0))
  (hout:∀ q,q<sh.length→(q<j∨j+vs.length≤q)→r0.getD q 0=(L.getD i []).getD q 0):
  aT sh (L.set i r0)=(aT sh L).take (i*sh.length+j)++vs++(aT sh L).drop (i*sh.length+j+vs.length):=by
 have hl:=bB sh L
 have hl2:=bB sh (L.set i r0)
 have hiw:i*sh.length+sh.length≤L.length*sh.length:=by
  have:=Nat.mul_le_mul_right sh.length (show i+1≤L.length by omega)
  rw[Nat.succ_mul]at this;exact this
 apply List.ext_getElem?
 intro p
 rcases Nat.lt_or_ge p (L.length*sh.length)with hp|hp
 ·have hw:0<sh.length:=by
   rcases Nat.eq_zero_or_pos sh.length with q|q
   ·rw[q]at hp;simp at hp
   ·exact q
  obtain⟨a,ha⟩:∃ a,a=p / sh.length:=⟨_,rfl⟩
  obtain⟨c,hc⟩:∃ c,c=p % sh.length:=⟨_,rfl⟩
  have hcw:c<sh.length:=by rw[hc];exact Nat.mod_lt _ hw
  have hpe:p=a*sh.length+c:=by
   have:=Nat.div_add_mod p sh.length
   rw[←ha,←hc,Nat.mul_comm]at this;omega
  have haL:a<L.length:=by rw[ha];exact Nat.div_lt_of_lt_mul (by rw[Nat.mul_comm];exact hp)
  obtain⟨k,hk⟩:∃ k,sh[c]?=some k:=⟨sh[c],by simp [hcw]⟩
  have e1:(aT sh (L.set i r0))[p]?=some (k.mk (((L.set i r0).getD a []).getD c 0)):=by
   rw[hpe];exact fK hk _ _ (by simpa using haL)
  have e2:(aT sh L)[p]?=some (k.mk ((L.getD a []).getD c 0)):=by
   rw[hpe];exact fK hk _ _ haL
  have lt:((aT sh L).take (i*sh.length+j)).length=i*sh.length+j:=by rw[List.length_take,hl];omega
  rw[e1]
  by_cases hai:a=i
  ·subst hai
   have e3:(L.set a r0).getD a []=r0:=by simp [List.getD,List.getElem?_set_self haL]
   rw[e3]
   by_cases h1:c<j
   ·rw[List.getElem?_append_left (by rw[List.length_append,lt];omega),List.getElem?_append_left (by rw[lt];omega),List.getElem?_take,if_pos (by omega),e2,hout c hcw (.inl h1)]
   ·by_cases h2:c<j+vs.length
    ·rw[List.getElem?_append_left (by rw[List.length_append,lt];omega),List.getElem?_append_right (by rw[lt];omega),lt]
     have hq:c-j<vs.length:=by omega
     have e4:p-(a*sh.length+j)=c-j:=by omega
     rw[e4]
     obtain⟨k',hk',hv⟩:=hin (c-j) vs[c-j] (by simp [hq])
     rw[show j+(c-j)=c by omega]at hk' hv
     rw[hk]at hk';cases hk'
     rw[List.getElem?_eq_getElem hq,hv]
    ·rw[List.getElem?_append_right (by rw[List.length_append,lt];omega),List.getElem?_drop,List.length_append,lt]
     rw[show a*sh.length+j+vs.length+(p-(a*sh.length+j+vs.length))=p by omega,e2,hout c hcw (.inr (by omega))]
  ·have e3:(L.set i r0).getD a []=L.getD a []:=by simp [List.getD,List.getElem?_set_ne (fun q=>hai q.symm)]
   rw[e3]
   rcases Nat.lt_or_ge a i with h1|h1
   ·have:=Nat.mul_le_mul_right sh.length (show a+1≤i by omega)
    rw[Nat.succ_mul]at this
    rw[List.getElem?_append_left (by rw[List.length_append,lt];omega),List.getElem?_append_left (by rw[lt];omega),List.getElem?_take,if_pos (by omega),e2]
   ·have:=Nat.mul_le_mul_right sh.length (show i+1≤a by omega)
    rw[Nat.succ_mul]at this
    rw[List.getElem?_append_right (by rw[List.length_append,lt];omega),List.getElem?_drop,List.length_append,lt]
    rw[show i*sh.length+j+vs.length+(p-(i*sh.length+j+vs.length))=p by omega,e2]
 ·rw[List.getElem?_eq_none (by rw[hl2];simpa using hp),List.getElem?_eq_none]
  simp only[List.length_append,List.length_take,List.length_drop,hl]
  omega
theorem aFY {α:Type} (L:List α) (i:Nat) (f:α→α) (d:α) (h:i<L.length):L.modify i f=L.set i (f (L.getD i d)):=by
 apply List.ext_getElem?
 intro k
 rw[List.getElem?_modify]
 by_cases e:i=k
 ·subst e
  rw[List.getElem?_set_self h]
  simp [List.getD,h]
 ·rw[List.getElem?_set_ne e]
  simp [e]
theorem zT (w j:Nat) (r row:List Int) (q:Nat) (hq:q<w):(Lc.rowPut w j r row).getD q 0=if j≤q∧q<j+r.length then r.getD (q-j) 0 else row.getD q 0:=by
 unfold Lc.rowPut
 rw[List.getD_eq_getElem?_getD,List.getElem?_map,List.getElem?_range hq]
 rfl
def EL.ofList:List E→EL
 |[] => .nil
 |e::l => .cons e (EL.ofList l)
theorem EL.ofList_den (G:Nat→List Int→Int) (ρ:Nat→Int):∀ l:List E,(EL.ofList l).den G ρ=l.map (E.den G ρ)
 |[]=>rfl
 |e::l=>by simp only[EL.ofList,EL.den,List.map_cons];rw[EL.ofList_den G ρ l]
def aAl (C i:E) (j:Nat):CK→SV
 | .int k => .int k (.app (80+Lc.kNo k) (.cons C (.cons i (.cons (.lit j) .nil))))
 | .bool => .bool (.cmp .ne (.app 88 (.cons C (.cons i (.cons (.lit j) .nil)))) (.lit 0))
def aKj (X:Ctx) (c:CK) (s:SV):Option E:=
 match c,s with
 | .int k,.int q e=>if decide (k=q) && e.fits X k then some e else none
 | .bool,.bool b=>match b.dec X with
  |some r=>some (.lit (if r then 1 else 0))
  |none=>match b with
   | .cmp .ne e (.lit n)=>if n=0 then some e else none
   |_=>none
 |_,_=>none
def pD (X:Ctx):List CK→List SV→Option (List E)
 |[],[]=>some []
 |c::cs,s::ss=>match aKj X c s,pD X cs ss with
  |some e,some l=>some (e::l)
  |_,_=>none
 |_,_=>none
section
variable {ρ:Nat→Int} {P:Program} {X:Ctx} {gl:List (Nat × Nat)}
theorem aUR (k:IntKind):Lc.kNo k<8:=by cases k<;>decide
theorem aDr (hX:X.Ok ρ) {α:aV} (C i:E) (j:Nat) (c:CK):SV.R X.G ρ α (aAl C i j c) (c.mk (Lc.rd (C.den X.G ρ) (i.den X.G ρ) j)):=by
 cases c with
 |int k=>
  have:=aUR k
  simp only[aAl,SV.R,CK.mk,E.den,EL.den]
  rw[hX.gi.lists _ _ (by omega) (by omega),Lc.fn_rd]
 |bool=>
  have e:E.den X.G ρ (.app 88 (.cons C (.cons i (.cons (.lit j) .nil))))=Lc.rd (C.den X.G ρ) (i.den X.G ρ) j:=by
   simp only[E.den,EL.den]
   rw[hX.gi.lists _ _ (by omega) (by omega)];rfl
  simp only[aAl,SV.R,CK.mk,B.den,COp.den,e]
  congr 2
theorem aRL (hX:X.Ok ρ) {α:aV} {c:CK} {s:SV} {e:E} {v:Value} (h:aKj X c s=some e) (r:SV.R X.G ρ α s v):v=c.mk (e.den X.G ρ):=by
 unfold aKj at h
 split at h
 ·split at h
  ·rename_i hg
   simp only[Bool.and_eq_true,decide_eq_true_eq]at hg
   cases h
   simp only[SV.R]at r
   have:=E.fits_in hX hg.2
   rw[r,hg.1]
   simp only[CK.mk]
   rw[hg.1]at this
   rw[iO _ _ this.1 this.2]
  ·cases h
 ·rename_i b
  simp only[SV.R]at r
  split at h
  ·rename_i t ht
   cases h
   rw[r,B.dec_eq hX _ ht]
   cases t<;>simp [CK.mk,E.den]
  ·split at h
   ·split at h
    ·rename_i hn
     cases h
     subst hn
     subst r
     simp only[CK.mk,B.den,COp.den]
     congr 2
    ·cases h
   ·cases h
 ·cases h
theorem yI (hX:X.Ok ρ) {α:aV}:∀ {sh:List CK} {l:List SV} {es:List E} {vs:List Value},pD X sh l=some es→SV.RL X.G ρ α l vs→vs=(sh.zip (es.map (E.den X.G ρ))).map (fun p=>p.1.mk p.2)∧es.length=sh.length
 |[],[],es,vs,h,r=>by
  simp only[pD]at h;cases h
  simp only[SV.RL]at r;subst r
  exact⟨rfl,rfl⟩
 |[],_::_,es,vs,h,r=>by simp [pD]at h
 |_::_,[],es,vs,h,r=>by simp [pD]at h
 |c::cs,s::ss,es,vs,h,r=>by
  simp only[pD]at h
  split at h
  ·rename_i e l he hl
   cases h
   simp only[SV.RL]at r
   obtain⟨v,vs',rfl,h2,h3⟩:=r
   obtain⟨q1,q2⟩:=yI hX hl h3
   refine⟨?_,by simp [q2]⟩
   rw[aRL hX he h2]
   simp only[List.map_cons,List.zip_cons_cons]
   rw[←q1]
  ·cases h
theorem aBq:∀ (sh:List CK) (r:List Int),r.length=sh.length→(sh.zip r).map (fun p=>p.1.mk p.2)=eK sh r:=by
 intro sh r h
 apply List.ext_getElem?
 intro j
 unfold eK
 simp only[List.getElem?_map,List.getElem?_zipIdx,List.getElem?_zip_eq_some,List.zip,List.getElem?_zipWith]
 cases hs:sh[j]? with
 |none=>simp
 |some c=>
  have hj:j<r.length:=by rw[h];exact(List.getElem?_eq_some_iff.1 hs).1
  simp [hj,List.getD]
end
end Sx
end Go.Proofs.Ytdldallkeheciaa
namespace Go.Proofs.Ytdldallkeheciaa
namespace Sx
open Go Go.RowKit
def fR (b:Loc) (x:Option Obj) (sh:List CK) (L:List (List Int)) (T:TypeId) (ex:Bool):Prop:=
 (b.nil=true∧L=[]∧b.cap=0)∨(b.nil=false∧∃ rest:List Value,x=some (.cells (aT sh L++rest).toArray T (0,0))∧(aT sh L++rest).length=b.cap*sh.length∧b.cap≤maxLen∧(ex=true→rest=[]))
def aNs (sh:List CK) (L:List (List Int)) (ex:Bool):Value := .tuple #[.agg (aT sh L).toArray,.int .i64 sh.length,.bool ex]
theorem fR.obj {b:Loc} {x:Option Obj} {sh:List CK} {L:List (List Int)} {T:TypeId} {ex:Bool} (hT:aU≤T) (h0:b.base=0) (hw:0<sh.length) (h:fR b x sh L (T-aU) ex):eN b x [aNs sh L ex] T:=by
 rw[dG hT]
 refine⟨h0,aT sh L,sh.length,ex,rfl,hw,?_⟩
 rcases h with⟨h1,rfl,h3⟩|h
 ·exact .inl ⟨h1,rfl,h3⟩
 ·exact .inr h
theorem fR.le {b:Loc} {x:Option Obj} {sh:List CK} {L:List (List Int)} {T:TypeId} {ex:Bool} (hw:0<sh.length) (h:fR b x sh L T ex):L.length≤b.cap:=by
 rcases h with⟨_,rfl,_⟩|⟨_,rest,_,h2,_⟩
 ·simp
 ·rw[List.length_append,bB]at h2
  exact Nat.le_of_mul_le_mul_right (by omega:L.length*sh.length≤b.cap*sh.length) hw
section
variable {ρ:Nat→Int} {P:Program} {X:Ctx} {gl:List (Nat × Nat)}
theorem aEl {α:aV} {sh:List CK} {C n:E} {ex:Bool} {L:List (List Int)} (h1:Lc.dec (C.den X.G ρ)=L) (h2:(L.length:Int)=n.den X.G ρ):SV.RL X.G ρ α [.vec sh C n ex] [aNs sh L ex]:=by
 refine aW ?_ bC
 simp only[SV.R]
 rw[h1]
 exact⟨rfl,h2⟩
theorem aF8 {α:aV} {σ:aM} {w:World} {id:Nat} {sh:List CK} {C n:E} {ex:Bool} {T:TypeId} (hW:RelW X.G ρ gl α σ w) (hs:σ[id]?=some (some ([.vec sh C n ex],T))) (hT:aU≤T):
  ∃ b,α id=some b∧b.base=0∧0<sh.length∧((Lc.dec (C.den X.G ρ)).length:Int)=n.den X.G ρ∧fR b w.heap[b.blk]? sh (Lc.dec (C.den X.G ρ)) (T-aU) ex:=by
 obtain⟨b,vs,h1,h2,h3⟩:=hW.blk id _ T hs
 rw[dG hT]at h2
 obtain⟨hb0,cells,w0,ex0,rfl,h4,h5⟩:=h2
 simp only[SV.RL,SV.R]at h3
 obtain⟨v,vs',e1,⟨e2,e3⟩,_⟩:=h3
 have e4:=(List.cons.inj e1).1
 rw[e2]at e4
 simp only[Value.tuple.injEq,Array.mk.injEq,List.cons.injEq,Value.agg.injEq,Value.int.injEq,Value.bool.injEq,and_true,true_and]at e4
 obtain⟨e5,e6,e7⟩:=e4
 have e6':w0=sh.length:=by omega
 subst e5;subst e6';subst e7
 refine⟨b,h1,hb0,h4,e3,?_⟩
 rcases h5 with⟨q1,q2,q3⟩|q
 ·refine .inl ⟨q1,?_,q3⟩
  have:=bB sh (Lc.dec (C.den X.G ρ))
  rw[q2]at this
  simp only[List.length_nil]at this
  have h0:(Lc.dec (C.den X.G ρ)).length=0:=by
   rcases Nat.eq_zero_or_pos (Lc.dec (C.den X.G ρ)).length with z|z
   ·exact z
   ·have:=Nat.mul_pos z h4;omega
  exact List.eq_nil_of_length_eq_zero h0
 ·exact .inr q
theorem aAv {α:aV} {σ:aM} {w:World} {id:Nat} {sh:List CK} {C n:E} {ex:Bool} {T:TypeId} (hW:RelW X.G ρ gl α σ w) (hs:σ[id]?=some (some ([.vec sh C n ex],T))) (hT:(decide (aU≤T) ||vw T)=true):
  ∃ b,α id=some b∧0<sh.length∧((Lc.dec (C.den X.G ρ)).length:Int)=n.den X.G ρ∧
   ((b.nil=true∧Lc.dec (C.den X.G ρ)=[])∨(b.nil=false∧∃ (cs:Array Value) (T':TypeId) (fz:Nat × Nat),w.heap[b.blk]?=some (.cells cs T' fz)∧∀ (i:Nat) (v:Value),(aT sh (Lc.dec (C.den X.G ρ)))[i]?=some v→cs[b.base+i]?=some v)):=by
 obtain⟨b,vs,h1,h2,h3⟩:=hW.blk id _ T hs
 replace h2:jK b w.heap[b.blk]? vs:=by
  rcases Bool.or_eq_true_iff.1 hT with q|q
  ·obtain⟨q1,q2⟩:=(dG (of_decide_eq_true q)).1 h2
   exact aBl.view q1 q2
  ·exact(gZ q).1 h2
 obtain⟨cells,w0,ex0,rfl,h4,h5⟩:=h2
 simp only[SV.RL,SV.R]at h3
 obtain⟨v,vs',e1,⟨e2,e3⟩,_⟩:=h3
 have e4:=(List.cons.inj e1).1
 rw[e2]at e4
 simp only[Value.tuple.injEq,Array.mk.injEq,List.cons.injEq,Value.agg.injEq,Value.int.injEq,Value.bool.injEq,and_true,true_and]at e4
 obtain⟨e5,e6,e7⟩:=e4
 have e6':w0=sh.length:=by omega
 subst e5;subst e6';subst e7
 refine⟨b,h1,h4,e3,?_⟩
 rcases h5 with⟨q1,q2⟩|q
 ·refine .inl ⟨q1,?_⟩
  have:=bB sh (Lc.dec (C.den X.G ρ))
  rw[q2]at this
  simp only[List.length_nil]at this
  have h0:(Lc.dec (C.den X.G ρ)).length=0:=by
   rcases Nat.eq_zero_or_pos (Lc.dec (C.den X.G ρ)).length with z|z
   ·exact z
   ·have:=Nat.mul_pos z h4;omega
  exact List.eq_nil_of_length_eq_zero h0
 ·exact .inr q
def aC4 (C i:E) (sh:List CK) (j:Nat):List SV:=(sh.zipIdx j).map fun p=>aAl C i p.2 p.1
def aLV (P:Program) (X:Ctx) (t:TypeId) (id w:Nat) (i:E) (j:Nat) (σ:aM):Res SV:=
 match σ[id]? with
 |some (some ([.vec sh C n _],T))=>
  if (decide (aU≤T) ||vw T) && decide (w=sh.length) then
   (Res.test X (.cmp .lt i n)).bind fun ok=>
    if ok then match Program.isAggT P t with
     |some true=>match P.info? t with
      |some inf=>if decide (j+inf.size≤w) then .ok (.agg (aC4 C i ((sh.drop j).take inf.size) j)) else .fail 300
      |none => .fail 301
     |some false=>match sh[j]? with
      |some c => .ok (aAl C i j c)
      |none => .fail 302
     |none => .fail 303
    else .fail 304
  else .fail 305
 |some (some ([.tuple [.agg l,.int .i64 (.lit wd),.bool (.lit false)]],T))=>
  if decide (aU≤T) && decide ((w:Int)=wd) then
   (Res.num X i).bind fun k=>match Program.isAggT P t with
    |some false=>match l[k.toNat*w+j]? with
     |some s => .ok s
     |none => .fail 307
    |some true=>match P.info? t with
     |some inf=>if decide (k.toNat*w+j+inf.size≤l.length) then .ok (.agg ((l.drop (k.toNat*w+j)).take inf.size)) else .fail 308
     |none => .fail 308
    |none => .fail 308
  else .fail 309
 |_ => .fail 306
theorem aDE (hX:X.Ok ρ) {α:aV} (C i:E):∀ (sh:List CK) (j:Nat),SV.RL X.G ρ α (aC4 C i sh j) ((sh.zipIdx j).map fun p=>p.1.mk (Lc.rd (C.den X.G ρ) (i.den X.G ρ) p.2))
 |[],j=>by simpa [aC4]using bC
 |c::sh,j=>by
  have ih:=aDE hX (α:=α) C i sh (j+1)
  unfold aC4 at ih ⊢
  simp only[List.zipIdx_cons,List.map_cons]
  exact aW (aDr hX C i j c) ih
theorem aIB (hX:X.Ok ρ) {α:aV} {σ:aM} {w:World} {t:TypeId} {id wd:Nat} {i:E} {j:Nat} {s:SV} {xv:Value} (h:aLV P X t id wd i j σ = .ok s) (hW:RelW X.G ρ gl α σ w) (rx:SV.R X.G ρ α (.vptr id wd i j) xv):
  ∃ v,(Instr.loadAt t xv).run P w = .ok v w∧SV.R X.G ρ α s v:=by
 unfold aLV at h
 split at h
 case h_3=>cases h
 case h_2=>
  rename_i l wi T hs
  split at h
  case isFalse=>cases h
  rename_i hg
  simp only[Bool.and_eq_true,decide_eq_true_eq]at hg
  obtain⟨hT,rfl⟩:=hg
  obtain⟨k,hk,h⟩:=Res.bind_ok h
  have hk:=Res.num_ok hX hk
  split at h
  case h_3=>cases h
  case h_2=>
   rename_i ha
   split at h
   case h_2=>cases h
   rename_i inf hinf
   split at h
   case isFalse=>cases h
   rename_i hle
   simp only[decide_eq_true_eq]at hle
   cases h
   simp only[SV.R]at rx
   obtain⟨b,hb,hnil,hi0,rfl⟩:=rx
   obtain⟨b',vs,h1,h2,h3⟩:=hW.blk id _ T hs
   rw[hb]at h1;cases h1
   rw[dG hT]at h2
   obtain⟨hb0,cells,w0,ex0,rfl,h4,h5⟩:=h2
   simp only[SV.RL,SV.R]at h3
   obtain⟨v,vs',e1,⟨cs',e2,v1,t1,e3,⟨cl,e4,hcl⟩,e5⟩,e6⟩:=h3
   subst e4 e3
   obtain⟨rfl,_⟩:=List.cons.inj e1
   have e7:cells=cl:=by
    have:=congrArg (fun x=>match x with | .tuple a=>a.toList.head?|_=>none) e2
    simpa using this
   subst e7
   rcases h5 with⟨q,_⟩|⟨_,rest,hcell,_⟩
   ·rw[hnil]at q;cases q
   have hcl2:=bY hcl
   refine⟨.agg ((cells.drop (k.toNat*wd+j)).take inf.size).toArray,?_,by simp only[SV.R];exact⟨_,rfl,iQ _ (gU _ hcl)⟩⟩
   have hln:((cells.drop (k.toNat*wd+j)).take inf.size).length=inf.size:=by rw[List.length_take,List.length_drop];omega
   have:=run_loadCells_list (P:=P) w ⟨b.blk,b.base+((i.den X.G ρ).toNat*wd+j),none⟩ ((cells.drop (k.toNat*wd+j)).take inf.size) (by
    intro q v hv
    rw[cI,hb0,Nat.zero_add,hk]
    rw[List.getElem?_take]at hv
    split at hv
    ·rw[List.getElem?_drop]at hv
     have h2:k.toNat*wd+j+q<cells.length:=(List.getElem?_eq_some_iff.1 hv).1
     simp only[World.cell?,hcell,Option.isSome_none,Bool.false_eq_true,if_false,List.getElem?_toArray]
     rw[List.getElem?_append_left h2,hv]
    ·cases hv)
   rw[hln]at this
   simp only[Instr.loadAt,Instr.sureAddr,loadVar,Sem.run_bind,Sem.run_pure,iD ha,Result.andThen_ok,if_true]
   simp [sizeOf,typeInfo,hinf,this]
  rename_i ha
  split at h
  case h_2=>cases h
  rename_i s' hl
  cases h
  simp only[SV.R]at rx
  obtain⟨b,hb,hnil,hi0,rfl⟩:=rx
  obtain⟨b',vs,h1,h2,h3⟩:=hW.blk id _ T hs
  rw[hb]at h1;cases h1
  rw[dG hT]at h2
  obtain⟨hb0,cells,w0,ex0,rfl,h4,h5⟩:=h2
  simp only[SV.RL,SV.R]at h3
  obtain⟨v,vs',e1,⟨cs',e2,v1,t1,e3,⟨cl,e4,hcl⟩,e5⟩,e6⟩:=h3
  subst e4 e3
  obtain⟨rfl,_⟩:=List.cons.inj e1
  have e7:cells=cl:=by
   have:=congrArg (fun x=>match x with | .tuple a=>a.toList.head?|_=>none) e2
   simpa using this
  subst e7
  rcases h5 with⟨q,_⟩|⟨_,rest,hcell,_⟩
  ·rw[hnil]at q;cases q
  obtain⟨v,hv,hr⟩:=pK hcl hl
  refine⟨v,?_,hr⟩
  simp only[Instr.loadAt,Instr.sureAddr,loadVar,Sem.run_bind,Sem.run_pure,iD ha,Result.andThen_ok,Bool.false_eq_true,if_false,run_load]
  rw[hb0,Nat.zero_add]
  have hc:w.cell? ⟨b.blk,(i.den X.G ρ).toNat*wd+j,none⟩=some v:=by
   rw[hk]
   have h2:k.toNat*wd+j<cells.length:=(List.getElem?_eq_some_iff.1 hv).1
   simp only[World.cell?,hcell,Option.isSome_none,Bool.false_eq_true,if_false,List.getElem?_toArray]
   rw[List.getElem?_append_left h2,hv]
  rw[hc]
 rename_i sh C n ex T hs
 split at h
 case isFalse=>cases h
 rename_i hg
 rw[Bool.and_eq_true]at hg
 obtain⟨hT,hg⟩:=hg
 simp only[decide_eq_true_eq]at hg
 subst hg
 obtain⟨ok,hok,h⟩:=Res.bind_ok h
 have hlt:=Res.test_ok hX hok
 cases ok
 case false=>simp at h
 simp only[if_true]at h
 simp only[B.den,COp.den,decide_eq_true_eq]at hlt
 simp only[SV.R]at rx
 obtain⟨b,hb,hnil,hi0,rfl⟩:=rx
 obtain⟨b',hb',hw,hlen,hv⟩:=aAv hW hs hT
 rw[hb]at hb';cases hb'
 rcases hv with⟨q,_⟩|⟨_,cs,T',fz,hcell,hcs⟩
 ·rw[hnil]at q;cases q
 obtain⟨L,hL⟩:∃ L,L=Lc.dec (C.den X.G ρ):=⟨_,rfl⟩
 rw[←hL]at hcs hlen
 obtain⟨k,hk⟩:∃ k:Nat,i.den X.G ρ=k:=⟨(i.den X.G ρ).toNat,by omega⟩
 have hkL:k<L.length:=by omega
 have hrd:∀ q:Nat,Lc.rd (C.den X.G ρ) (i.den X.G ρ) q=(L.getD k []).getD q 0:=by
  intro q
  unfold Lc.rd Lc.row
  rw[hk,←hL]
  simp
 have hget:∀ (q:Nat) (c:CK),sh[q]?=some c→w.cell? ⟨b.blk,b.base+(k*sh.length+q),none⟩=some (c.mk ((L.getD k []).getD q 0)):=by
  intro q c hc
  simp only[World.cell?,hcell]
  have h1:=fK hc L k hkL
  simp only[Option.isSome_none,Bool.false_eq_true,if_false]
  rw[hcs _ _ h1]
 rw[hk]
 simp only[Int.toNat_natCast]
 split at h
 ·rename_i ha
  split at h
  ·rename_i inf hinf
   split at h
   ·rename_i hle
    simp only[decide_eq_true_eq]at hle
    cases h
    have hR:=aDE hX (α:=α) C i ((sh.drop j).take inf.size) j
    simp only[hrd]at hR
    refine⟨.agg (((sh.drop j).take inf.size).zipIdx j |>.map fun p=>p.1.mk ((L.getD k []).getD p.2 0)).toArray,?_,by simp only[SV.R];exact⟨_,rfl,hR⟩⟩
    have hln:((((sh.drop j).take inf.size).zipIdx j).map fun p=>p.1.mk ((L.getD k []).getD p.2 0)).length=inf.size:=by simp;omega
    have:=run_loadCells_list (P:=P) w ⟨b.blk,b.base+(k*sh.length+j),none⟩ ((((sh.drop j).take inf.size).zipIdx j).map fun p=>p.1.mk ((L.getD k []).getD p.2 0)) (by
     intro q v hv
     rw[cI]
     rw[List.getElem?_map,List.getElem?_zipIdx]at hv
     cases hq:((sh.drop j).take inf.size)[q]? with
     |none=>rw[hq]at hv;simp at hv
     |some c=>
      rw[hq]at hv
      simp only[Option.map_some,Option.some.injEq]at hv
      rw[List.getElem?_take]at hq
      split at hq
      ·rw[List.getElem?_drop]at hq
       rw[←hv,show b.base+(k*sh.length+j)+q=b.base+(k*sh.length+(j+q))by omega]
       exact hget (j+q) c hq
      ·cases hq)
    rw[hln]at this
    simp only[Instr.loadAt,Instr.sureAddr,loadVar,Sem.run_bind,Sem.run_pure,iD ha,Result.andThen_ok,if_true]
    simp [sizeOf,typeInfo,hinf,this]
   ·cases h
  ·cases h
 ·rename_i ha
  split at h
  ·rename_i c hc
   cases h
   refine⟨c.mk ((L.getD k []).getD j 0),?_,by rw[←hrd];exact aDr hX C i j c⟩
   simp only[Instr.loadAt,Instr.sureAddr,loadVar,Sem.run_bind,Sem.run_pure,iD ha,Result.andThen_ok,Bool.false_eq_true,if_false,run_load]
   rw[hget j c hc]
  ·cases h
 ·cases h
def aUr (C i:E) (j w:Nat) (es:List E):E:=
 if decide (j=0) && decide (es.length=w) then .app 92 (.cons C (.cons i (EL.ofList es))) else .app 93 (.cons C (.cons i (.cons (.lit j) (.cons (.lit w) (EL.ofList es)))))
def aFC (P:Program) (X:Ctx) (t:TypeId) (id w:Nat) (i:E) (j:Nat) (v:SV) (σ:aM):Res aM:=
 match σ[id]? with
 |some (some ([.vec sh C n ex],T))=>
  if decide (aU≤T) && decide (w=sh.length) then
   (Res.test X (.cmp .lt i n)).bind fun ok=>
    if ok then match v.cells,P.info? t with
     |some c,some inf=>if decide (c.length=inf.size) && decide (j+c.length≤w) then match pD X ((sh.drop j).take c.length) c with
       |some es => .ok (σ.set id (some ([.vec sh (aUr C i j w es) n ex],T)))
       |none => .fail 310
      else .fail 311
     |_,_ => .fail 312
    else .fail 313
  else .fail 314
 |some (some ([.tuple [.agg l,.int .i64 (.lit wd),.bool (.lit false)]],T))=>
  if decide (aU≤T) && decide ((w:Int)=wd) then
   (Res.num X i).bind fun k=>match v.cells,P.info? t with
    |some c,some inf=>if decide (c.length=inf.size) && decide (k.toNat*w+j+c.length≤l.length) && c.all SV.oneCell then
      cP (l.take (k.toNat*w+j)++c++l.drop (k.toNat*w+j+c.length)) fun l' => .ok (σ.set id (some ([.tuple [.agg l',.int .i64 (.lit wd),.bool (.lit false)]],T)))
     else .fail 316
    |_,_ => .fail 312
  else .fail 317
 |_ => .fail 315
theorem aMw (hX:X.Ok ρ) {C i:E} {j w:Nat} {es:List E} {L:List (List Int)} {k:Nat} (hL:Lc.dec (C.den X.G ρ)=L) (hk:i.den X.G ρ=k) (hkL:k<L.length) (hj:j+es.length≤w):
  ∃ r0:List Int,Lc.dec ((aUr C i j w es).den X.G ρ)=L.set k r0∧(∀ q,q<es.length→r0.getD (j+q) 0=(es.map (E.den X.G ρ)).getD q 0)∧∀ q,q<w→(q<j∨j+es.length≤q)→r0.getD q 0=(L.getD k []).getD q 0:=by
 unfold aUr
 split
 ·rename_i hg
  simp only[Bool.and_eq_true,decide_eq_true_eq]at hg
  obtain⟨rfl,hw⟩:=hg
  refine⟨es.map (E.den X.G ρ),?_,fun q _=>by rw[Nat.zero_add],fun q h1 h2=>by omega⟩
  simp only[E.den,EL.den,EL.ofList_den]
  rw[hX.gi.lists _ _ (by omega) (by omega)]
  simp only[Lc.fn,Lc.op92,hk,Int.toNat_natCast,hL,Lc.dec_enc]
 ·refine⟨Lc.rowPut w j (es.map (E.den X.G ρ)) (L.getD k []),?_,?_,?_⟩
  ·simp only[E.den,EL.den,EL.ofList_den]
   rw[hX.gi.lists _ _ (by omega) (by omega)]
   simp only[Lc.fn,Lc.op93,hk,Int.toNat_natCast,hL,Lc.dec_enc]
   rw[aFY L k _ [] hkL]
  ·intro q hq
   rw[zT _ _ _ _ _ (by omega),if_pos (by simp;omega),show j+q-j=q by omega]
  ·intro q hq ho
   rw[zT _ _ _ _ _ hq,if_neg (by simp;omega)]
theorem aFy (hX:X.Ok ρ) {α:aV} {σ σ':aM} {w:World} {t:TypeId} {id wd:Nat} {i:E} {j:Nat} {v:SV} {xv vv:Value} (h:aFC P X t id wd i j v σ = .ok σ') (hW:RelW X.G ρ gl α σ w) (rx:SV.R X.G ρ α (.vptr id wd i j) xv) (rv:SV.R X.G ρ α v vv):
  ∃ w',(Instr.storeAt t xv vv).run P w = .ok () w'∧RelW X.G ρ gl α σ' w'∧Ext σ.length σ σ' α α w w':=by
 unfold aFC at h
 split at h
 case h_3=>cases h
 case h_2=>
  rename_i l wi T hs
  split at h
  case isFalse=>cases h
  rename_i hg
  simp only[Bool.and_eq_true,decide_eq_true_eq]at hg
  obtain⟨hT,rfl⟩:=hg
  obtain⟨k,hk,h⟩:=Res.bind_ok h
  have hk:=Res.num_ok hX hk
  split at h
  case h_2=>cases h
  rename_i c inf hc hinf
  split at h
  case isFalse=>cases h
  rename_i hg
  simp only[Bool.and_eq_true,decide_eq_true_eq]at hg
  obtain⟨⟨hcs,hjw⟩,hone⟩:=hg
  rw[cQ]at h
  cases h
  simp only[SV.R]at rx
  obtain⟨b,hb,hnil,hi0,rfl⟩:=rx
  obtain⟨b',vs,h1,h2,h3⟩:=hW.blk id _ T hs
  rw[hb]at h1;cases h1
  rw[dG hT]at h2
  obtain⟨hb0,cells,w0,ex0,rfl,h4,h5⟩:=h2
  simp only[SV.RL,SV.R]at h3
  obtain⟨v,vs',e1,⟨cs',e2,v1,t1,e3,⟨cl,e4,hcl⟩,v2,t2,e5,e5',v3,t3,e6,e6',e7'⟩,e8⟩:=h3
  subst e4 e3 e5 e5' e6 e6' e7'
  obtain⟨rfl,_⟩:=List.cons.inj e1
  simp only[Value.tuple.injEq]at e2
  have e2:=congrArg Array.toList e2
  simp only[List.cons.injEq,Value.agg.injEq,E.den,B.den,Value.int.injEq,Value.bool.injEq,true_and,and_true]at e2
  obtain⟨e7,e9,e10⟩:=e2
  have e7:=congrArg Array.toList e7
  simp only at e7
  subst e7
  rcases h5 with⟨q,_⟩|⟨_,rest,hcell,hcap,hmax,hex⟩
  ·rw[hnil]at q;cases q
  have rc:=jA hc rv
  have lvs:vv.cells.toList.length=c.length:=bY rc
  have lcl:=bY hcl
  obtain⟨p,hp⟩:∃ p,p=k.toNat*wd+j:=⟨_,rfl⟩
  rw[←hp]at hjw
  have hst:=run_storeCells_at (P:=P) b.blk p (T-aU) vv.cells.toList 0 (cells++rest).toArray w hcell (by simp only[List.size_toArray,List.length_append,lvs];omega) (lB hone rc)
  have hsz:vv.cells.size=inf.size:=by rw[←hcs,←lvs];simp
  have hcells:(((cells++rest).toArray.toList.take (p+0)++vv.cells.toList++(cells++rest).toArray.toList.drop (p+0+vv.cells.toList.length)).toArray)=((cells.take p++vv.cells.toList++cells.drop (p+c.length))++rest).toArray:=by
   simp only[Nat.add_zero,List.append_assoc,lvs]
   rw[List.take_append_of_le_length (by omega),List.drop_append_of_le_length (by omega)]
  rw[hcells]at hst
  have hlen2:(cells.take p++vv.cells.toList++cells.drop (p+c.length)).length=cells.length:=by
   rw[List.length_append,List.length_append,List.length_take,List.length_drop,lvs];omega
  refine⟨w.setRow b.blk ((cells.take p++vv.cells.toList++cells.drop (p+c.length))++rest).toArray,?_,?_⟩
  ·rw[hk,hb0,Nat.zero_add,←hp]
   simp only[Instr.storeAt,Instr.sureAddr,storeVar,Sem.run_bind,Sem.run_pure,Result.andThen_ok]
   simp only[sizeOf,typeInfo,Sem.run_bind,run_program,hinf,Result.andThen_ok,Sem.run_pure]
   simp only[hsz,ne_eq,not_true_eq_false,if_false,Sem.run_pure,Result.andThen_ok]
   exact hst
  ·rw[←hp]
   refine jH (vs':=[.tuple #[.agg (cells.take p++vv.cells.toList++cells.drop (p+c.length)).toArray,.int .i64 wd,.bool false]]) hW hs (aAk hT) hb hnil rfl rfl rfl (by simp) (fun q hq=>setRow_other w b.blk q _ hq) ?_ ?_
   ·rw[dG hT]
    refine⟨hb0,_,wd,false,rfl,by omega,.inr ⟨hnil,rest,setRow_heap w b.blk _ _ (T-aU) (0,0) hcell,?_,hmax,fun q=>by cases q⟩⟩
    rw[List.length_append,hlen2,←List.length_append,hcap]
    congr 1;omega
   ·refine aW ?_ bC
    simp only[SV.R]
    refine⟨[.agg (cells.take p++vv.cells.toList++cells.drop (p+c.length)).toArray,.int .i64 wd,.bool false],rfl,aW ?_ (aW ?_ (aW ?_ bC))⟩
    ·simp only[SV.R];exact⟨_,rfl,dK (dK (iQ _ hcl) rc) (gU _ hcl)⟩
    ·simp only[SV.R,E.den]
    ·simp only[SV.R,B.den]
 rename_i sh C n ex T hs
 split at h
 case isFalse=>cases h
 rename_i hg
 simp only[Bool.and_eq_true,decide_eq_true_eq]at hg
 obtain⟨hT,rfl⟩:=hg
 obtain⟨ok,hok,h⟩:=Res.bind_ok h
 have hlt:=Res.test_ok hX hok
 cases ok
 case false=>simp at h
 simp only[if_true]at h
 simp only[B.den,COp.den,decide_eq_true_eq]at hlt
 split at h
 case h_2=>cases h
 rename_i c inf hc hinf
 split at h
 case isFalse=>cases h
 rename_i hg
 simp only[Bool.and_eq_true,decide_eq_true_eq]at hg
 obtain⟨hcs,hjw⟩:=hg
 split at h
 case h_2=>cases h
 rename_i es hes
 cases h
 simp only[SV.R]at rx
 obtain⟨b,hb,hnil,hi0,rfl⟩:=rx
 obtain⟨b',hb',hb0,hw,hlen,hv⟩:=aF8 hW hs hT
 rw[hb]at hb';cases hb'
 rcases hv with⟨q,_⟩|⟨_,rest,hcell,hcap,hmax,hex⟩
 ·rw[hnil]at q;cases q
 obtain⟨L,hL⟩:∃ L,L=Lc.dec (C.den X.G ρ):=⟨_,rfl⟩
 rw[←hL]at hcell hlen hcap
 obtain⟨k,hk⟩:∃ k:Nat,i.den X.G ρ=k:=⟨(i.den X.G ρ).toNat,by omega⟩
 have hkL:k<L.length:=by omega
 have rc:=jA hc rv
 obtain⟨hvs,hesl⟩:=yI hX hes rc
 have hln:((sh.drop j).take c.length).length=c.length:=by simp;omega
 rw[hln]at hesl
 have lvs:vv.cells.toList.length=c.length:=bY rc
 obtain⟨r0,p1,p2,p3⟩:=aMw hX hL.symm hk hkL (w:=sh.length) (es:=es) (j:=j) (by omega)
 have hkw:k*sh.length+sh.length≤L.length*sh.length:=by
  have:=Nat.mul_le_mul_right sh.length (show k+1≤L.length by omega)
  rw[Nat.succ_mul]at this;exact this
 have lrc:=bB sh L
 have upd:=aAA (sh:=sh) (L:=L) (i:=k) (j:=j) (r0:=r0) (vs:=vv.cells.toList) hkL (by omega) (by
  intro q v hq
  have hql:q<c.length:=by rw[←lvs];exact(List.getElem?_eq_some_iff.1 hq).1
  rw[hvs,List.getElem?_map]at hq
  cases hz:(((sh.drop j).take c.length).zip (es.map (E.den X.G ρ)))[q]? with
  |none=>rw[hz]at hq;cases hq
  |some p=>
   rw[hz]at hq
   simp only[Option.map_some,Option.some.injEq]at hq
   obtain⟨z1,z2⟩:=List.getElem?_zip_eq_some.1 hz
   rw[List.getElem?_take,if_pos hql,List.getElem?_drop]at z1
   refine⟨p.1,z1,?_⟩
   rw[←hq,p2 q (by omega)]
   simp [List.getD,z2]) (fun q h1 h2=>p3 q h1 (by omega))
 have one:∀ v,v ∈ vv.cells.toList→v.oneCell'=true:=by
  intro v hv
  rw[hvs]at hv
  obtain⟨p,_,rfl⟩:=List.mem_map.1 hv
  cases p.1<;>rfl
 have hst:=run_storeCells_at (P:=P) b.blk (k*sh.length+j) (T-aU) vv.cells.toList 0 (aT sh L++rest).toArray w hcell (by simp only[List.size_toArray,List.length_append,lrc,lvs];omega) one
 have hsz:vv.cells.size=inf.size:=by rw[←hcs,←lvs];simp
 have hcells:(((aT sh L++rest).toArray.toList.take (k*sh.length+j+0)++vv.cells.toList++(aT sh L++rest).toArray.toList.drop (k*sh.length+j+0+vv.cells.toList.length)).toArray)=(aT sh (L.set k r0)++rest).toArray:=by
  rw[upd]
  simp only[Nat.add_zero,List.append_assoc]
  rw[List.take_append_of_le_length (by rw[lrc];omega),List.drop_append_of_le_length (by rw[lrc,lvs];omega)]
 rw[hcells]at hst
 have hlen2:(aT sh (L.set k r0)).length=(aT sh L).length:=by rw[bB,bB,List.length_set]
 refine⟨w.setRow b.blk (aT sh (L.set k r0)++rest).toArray,?_,?_⟩
 ·rw[hk,hb0,Nat.zero_add]
  simp only[Int.toNat_natCast,Instr.storeAt,Instr.sureAddr,storeVar,Sem.run_bind,Sem.run_pure,Result.andThen_ok]
  simp only[sizeOf,typeInfo,Sem.run_bind,run_program,hinf,Result.andThen_ok,Sem.run_pure]
  simp only[hsz,ne_eq,not_true_eq_false,if_false,Sem.run_pure,Result.andThen_ok]
  exact hst
 ·refine jH hW hs (aAk hT) hb hnil rfl rfl rfl (by simp) (fun q hq=>setRow_other w b.blk q _ hq) (fR.obj hT hb0 hw (L:=L.set k r0) (.inr ⟨hnil,rest,setRow_heap w b.blk _ _ (T-aU) (0,0) hcell,?_,hmax,hex⟩)) (aEl p1 ?_)
  ·rw[List.length_append,hlen2,←List.length_append];exact hcap
  ·rw[List.length_set];exact hlen
end
end Sx
end Go.Proofs.Ytdldallkeheciaa
namespace Go.Proofs.Ytdldallkeheciaa
namespace Sx
open Go Go.RowKit
def oF (P:Program) (X:Ctx) (t:TypeId) (x i:SV):Option (Res SV):=
 match i with
 | .int _ e=>
  match x with
  | .own id n _=>some (match P.underlying t with
   |some (.slice el)=>match P.info? el with
    |some inf=>(Res.test X (.cmp .le (.lit 0) e)).bind fun a=>(Res.test X (.cmp .lt e n)).bind fun b=>if a && b then .ok (.vptr id inf.size e 0) else .fail 320
    |none => .fail 321
   |_ => .fail 322)
  | .vsl id w off n _=>some (match P.underlying t with
   |some (.slice el)=>match P.info? el with
    |some inf=>if decide (inf.size=w) then (Res.test X (.cmp .le (.lit 0) e)).bind fun a=>(Res.test X (.cmp .lt e n)).bind fun b=>if a && b then .ok (.vptr id w (E.mkOp .add off e) 0) else .fail 320 else .fail 323
    |none => .fail 321
   |_ => .fail 322)
  | .vptr id w i0 j=>some ((Res.num X e).bind fun n=>match P.underlying t with
   |some (.array len el)=>match P.info? el with
    |some inf=>if decide (0≤n) && decide (n<len) then .ok (.vptr id w i0 (j+n.toNat*inf.size)) else .fail 320
    |none => .fail 321
   |_ => .fail 322)
  |_=>none
 |_=>none
section
variable {ρ:Nat→Int} {P:Program} {X:Ctx} {gl:List (Nat × Nat)}
theorem aAg (hX:X.Ok ρ) {α:aV} {t:TypeId} {x i s:SV} {xv iv:Value} {r:Res SV} (h0:oF P X t x i=some r) (h:r = .ok s) (rx:SV.R X.G ρ α x xv) (ri:SV.R X.G ρ α i iv) (w:World):
  ∃ v,(Instr.indexAt t xv iv).run P w = .ok v w∧SV.R X.G ρ α s v:=by
 unfold oF at h0
 split at h0
 case h_2=>cases h0
 rename_i k e
 simp only[SV.R]at ri
 subst ri
 split at h0
 ·rename_i id n cap
  cases h0
  split at h
  case h_2=>cases h
  rename_i el hu
  split at h
  case h_2=>cases h
  rename_i inf hinf
  replace h:=Res.bind_ok h;obtain⟨a,ha,h⟩:=h
  replace h:=Res.bind_ok h;obtain⟨b,hb,h⟩:=h
  have ha:=Res.test_ok hX ha
  have hb:=Res.test_ok hX hb
  split at h
  case isFalse=>cases h
  rename_i hg
  simp only[Bool.and_eq_true]at hg
  obtain⟨rfl,rfl⟩:=hg
  cases h
  replace ha:(0:Int)≤e.den X.G ρ:=of_decide_eq_true ha
  replace hb:e.den X.G ρ<n.den X.G ρ:=of_decide_eq_true hb
  simp only[SV.R]at rx
  obtain⟨l,hl,hn0,rfl,hnil,hle,_⟩:=rx
  have hln:l.nil=false:=by
   cases q:l.nil
   ·rfl
   ·have:=(hnil q).1;omega
  refine⟨.pointer (some ⟨l.blk,l.base+(e.den X.G ρ).toNat*inf.size,none⟩),?_,by simp only[SV.R];exact⟨l,hl,hln,ha,by simp⟩⟩
  have h1:e.den X.G ρ<((n.den X.G ρ).toNat:Int):=by omega
  simp [hln,Instr.indexAt,asIntOf,run_underlying hu,ha,h1,sizeOf,typeInfo,hinf,cI]
  intro q;exfalso;omega
 ·rename_i id wd off n cap
  cases h0
  split at h
  case h_2=>cases h
  rename_i el hu
  split at h
  case h_2=>cases h
  rename_i inf hinf
  split at h
  case isFalse=>cases h
  rename_i hw
  simp only[decide_eq_true_eq]at hw
  subst hw
  replace h:=Res.bind_ok h;obtain⟨a,ha,h⟩:=h
  replace h:=Res.bind_ok h;obtain⟨b,hb,h⟩:=h
  have ha:=Res.test_ok hX ha
  have hb:=Res.test_ok hX hb
  split at h
  case isFalse=>cases h
  rename_i hg
  simp only[Bool.and_eq_true]at hg
  obtain⟨rfl,rfl⟩:=hg
  cases h
  replace ha:(0:Int)≤e.den X.G ρ:=of_decide_eq_true ha
  replace hb:e.den X.G ρ<n.den X.G ρ:=of_decide_eq_true hb
  simp only[SV.R]at rx
  obtain⟨l,hl,hn0,ho0,⟨q,_⟩|⟨hln,c,rfl,hc,_⟩⟩:=rx
  ·omega
  have e1:(off.den X.G ρ).toNat*inf.size+(e.den X.G ρ).toNat*inf.size=((off.den X.G ρ)+(e.den X.G ρ)).toNat*inf.size:=by
   rw[←Nat.add_mul];congr 1;omega
  refine⟨.pointer (some ⟨l.blk,l.base+(off.den X.G ρ).toNat*inf.size+(e.den X.G ρ).toNat*inf.size,none⟩),?_,?_⟩
  ·have h1:e.den X.G ρ<((n.den X.G ρ).toNat:Int):=by omega
   simp [Instr.indexAt,asIntOf,run_underlying hu,ha,h1,sizeOf,typeInfo,hinf,cI]
   intro q;exfalso;omega
  ·simp only[SV.R,E.mkOp_den,IOp.den]
   exact⟨l,hl,hln,by omega,by rw[Nat.add_assoc,e1];simp⟩
 ·rename_i id wd i0 j
  cases h0
  replace h:=Res.bind_ok h;obtain⟨n,hn,h⟩:=h
  have he:=Res.num_ok hX hn
  split at h
  case h_2=>cases h
  rename_i len el hu
  split at h
  case h_2=>cases h
  rename_i inf hinf
  split at h
  case isFalse=>cases h
  rename_i hg
  simp only[Bool.and_eq_true,decide_eq_true_eq]at hg
  cases h
  simp only[SV.R]at rx
  obtain⟨l,hl,hln,hi0,rfl⟩:=rx
  rw[he]
  refine⟨.pointer (some ⟨l.blk,l.base+((i0.den X.G ρ).toNat*wd+j)+n.toNat*inf.size,none⟩),?_,by simp only[SV.R];exact⟨l,hl,hln,hi0,by rw[Nat.add_assoc,Nat.add_assoc]⟩⟩
  simp [Instr.indexAt,asIntOf,run_underlying hu,Instr.sureAddr,hg.1,hg.2,sizeOf,typeInfo,hinf,cI]
 ·cases h0
end
def sO (v:Option SV) (d:E):Option E:=
 match v with
 |none=>some d
 |some (.int _ e)=>some e
 |some _=>none
def sR (X:Ctx) (id w:Nat) (off n:E) (cap:Option E) (lo hi mx:Option SV):Res SV:=
 match sO lo (.lit 0),sO hi n,sO mx (.lit 0)with
 |some l,some h,some m=>
  (Res.test X (.cmp .le (.lit 0) l)).bind fun t1=>(Res.test X (.cmp .le l h)).bind fun t2=>(Res.test X (.cmp .le h (if mx.isSome then m else cap.getD n))).bind fun t3=>(Res.test X (.cmp .le (if mx.isSome then m else .lit 0) (cap.getD n))).bind fun t4=>
   if t1 && t2 && t3 && t4 && (hi.isSome ||mx.isNone) then .ok (.vsl id w (E.mkOp .add off l) (E.mkOp .sub h l) (if mx.isSome then some (E.mkOp .sub m l) else cap.map fun c=>E.mkOp .sub c l)) else .fail 330
 |_,_,_ => .fail 331
def aMJ (n e:E):Bool:=E.eqb n e ||(match n,e with | .lit a,.lit b=>decide (a≤b)|_,_=>false)
theorem aII {G:Nat→List Int→Int} {ρ:Nat→Int} {n e:E} (h:aMJ n e=true):n.den G ρ≤e.den G ρ:=by
 unfold aMJ at h
 simp only[Bool.or_eq_true]at h
 rcases h with h|h
 ·rw[E.eqb_eq _ _ h];exact Int.le_refl _
 ·split at h
  ·simpa [E.den]using h
  ·cases h
def aHI (n:E) (c:Option E):Option E:=match c with
 |some e=>if aMJ n e then some e else none
 |none=>none
theorem kW {G:Nat→List Int→Int} {ρ:Nat→Int} {n e:E} {c:Option E} (h:aHI n c=some e):c=some e∧n.den G ρ≤e.den G ρ:=by
 unfold aHI at h
 split at h
 ·split at h
  ·rename_i q;cases h;exact⟨rfl,aII q⟩
  ·cases h
 ·cases h
def aFE (P:Program) (X:Ctx) (t:TypeId) (x:SV) (lo hi mx:Option SV):Option (Res SV):=
 match x with
 | .own id n cap=>some (match P.underlying t with
  |some (.slice el)=>match P.info? el with
   |some inf=>sR X id inf.size (.lit 0) n (aHI n cap) lo hi mx
   |none => .fail 332
  |_ => .fail 333)
 | .vsl id w off n cap=>some (match P.underlying t with
  |some (.slice el)=>match P.info? el with
   |some inf=>if decide (inf.size=w) then sR X id w off n cap lo hi mx else .fail 334
   |none => .fail 332
  |_ => .fail 333)
 |_=>none
section
variable {ρ:Nat→Int} {P:Program} {X:Ctx} {gl:List (Nat × Nat)}
theorem vH {α:aV} {v:Option SV} {u:Option Value} {d e:E} (h:sO v d=some e) (hu:u.isSome=v.isSome) (hr:∀ s x,v=some s→u=some x→SV.R X.G ρ α s x):(u=none∧v=none∧e=d)∨(v.isSome=true∧∃ k,u=some (.int k (e.den X.G ρ))):=by
 unfold sO at h
 split at h
 ·cases h
  cases u with
  |none=>exact .inl ⟨rfl,rfl,rfl⟩
  |some x=>simp at hu
 ·rename_i k e'
  cases h
  cases u with
  |none=>simp at hu
  |some x=>
   have:=hr _ x rfl rfl
   simp only[SV.R]at this
   exact .inr ⟨rfl,k,by rw[this]⟩
 ·cases h
theorem uA (hX:X.Ok ρ) {α:aV} {t el:TypeId} {inf:TypeInfo} {id:Nat} {off n:E} {cap:Option E} {s:SV} {xv:Value} {lo hi mx:Option SV} {lv hv mv:Option Value} (h:sR X id inf.size off n cap lo hi mx = .ok s)
  (hu:P.underlying t=some (.slice el)) (hinf:P.info? el=some inf) (rx:SV.R X.G ρ α (.vsl id inf.size off n cap) xv)
  (hl:lv.isSome=lo.isSome) (hlr:∀ s x,lo=some s→lv=some x→SV.R X.G ρ α s x) (hh:hv.isSome=hi.isSome) (hhr:∀ s x,hi=some s→hv=some x→SV.R X.G ρ α s x) (hm:mv.isSome=mx.isSome) (hmr:∀ s x,mx=some s→mv=some x→SV.R X.G ρ α s x) (w:World):
  ∃ v,(Instr.sliceAt t xv lv hv mv).run P w = .ok v w∧SV.R X.G ρ α s v:=by
 unfold sR at h
 split at h
 case h_2=>cases h
 rename_i l hE m e1 e2 e3
 replace h:=Res.bind_ok h;obtain⟨t1,h1,h⟩:=h
 replace h:=Res.bind_ok h;obtain⟨t2,h2,h⟩:=h
 replace h:=Res.bind_ok h;obtain⟨t3,h3,h⟩:=h
 replace h:=Res.bind_ok h;obtain⟨t4,h4,h⟩:=h
 have h1:=Res.test_ok hX h1
 have h2:=Res.test_ok hX h2
 have h3:=Res.test_ok hX h3
 have h4:=Res.test_ok hX h4
 split at h
 case isFalse=>cases h
 rename_i hg
 simp only[Bool.and_eq_true]at hg
 obtain⟨⟨⟨⟨rfl,rfl⟩,rfl⟩,rfl⟩,hg⟩:=hg
 cases h
 replace h1:(0:Int)≤l.den X.G ρ:=of_decide_eq_true h1
 replace h2:l.den X.G ρ≤hE.den X.G ρ:=of_decide_eq_true h2
 replace h3:hE.den X.G ρ≤(if mx.isSome then m else cap.getD n).den X.G ρ:=of_decide_eq_true h3
 replace h4:(if mx.isSome then m else .lit 0).den X.G ρ≤(cap.getD n).den X.G ρ:=of_decide_eq_true h4
 have rl:=vH (X:=X) (ρ:=ρ) (α:=α) e1 hl hlr
 have rh:=vH (X:=X) (ρ:=ρ) (α:=α) e2 hh hhr
 have rm:=vH (X:=X) (ρ:=ρ) (α:=α) e3 hm hmr
 simp only[SV.R]at rx
 obtain⟨b,hb,hn0,ho0,rx⟩:=rx
 
 obtain⟨a,c,rfl,hnc,hcap⟩:∃ a c,xv = .slice a (n.den X.G ρ).toNat c∧n.den X.G ρ≤(c:Int)∧∀ e,cap=some e→(c:Int)=e.den X.G ρ:=by
  rcases rx with⟨q1,a,c,rfl,q2⟩|⟨_,c,rfl,q1,q2⟩
  ·refine⟨a,c,by rw[q1];rfl,by omega,?_⟩
   intro e he
   rcases q2 with q2|⟨q2,q3⟩
   ·rw[he]at q2;cases q2
   ·rw[q3 e he,q2];rfl
  ·exact⟨_,c,rfl,by omega,q2⟩
 have hlim:(cap.getD n).den X.G ρ≤c:=by
  cases cap with
  |none=>exact hnc
  |some e=>simp only[Option.getD_some];rw[hcap e rfl];omega
 
 obtain⟨M,hM1,hM2,hM3⟩:∃ M:Nat,((mv=none∧M=c)∨∃ k i,mv=some (.int k i)∧0≤i∧i≤c∧M=i.toNat)∧hE.den X.G ρ≤M∧(mx.isSome=true→(M:Int)=m.den X.G ρ)∧(mx=none→M=c):=by
  rcases rm with⟨q1,q2,q3⟩|⟨q1,k,q2⟩
  ·subst q2
   simp only[Option.isSome_none,Bool.false_eq_true,if_false]at h3
   exact⟨c,.inl ⟨q1,rfl⟩,by omega,fun z=>(by cases z),fun _=>rfl⟩
  ·simp only[q1,if_true]at h3 h4
   refine⟨(m.den X.G ρ).toNat,.inr ⟨k,_,q2,by omega,by omega,rfl⟩,by omega,fun _=>by omega,fun z=>by rw[z]at q1;cases q1⟩
 have hH:(hv=none∧mv=none∧(hE.den X.G ρ).toNat=(n.den X.G ρ).toNat)∨∃ k i,hv=some (.int k i)∧0≤i∧i≤M∧(hE.den X.G ρ).toNat=i.toNat:=by
  rcases rh with⟨q1,q2,q3⟩|⟨q1,k,q2⟩
  ·refine .inl ⟨q1,?_,by rw[q3]⟩
   subst q2
   simp only[Option.isSome_none,Bool.false_or]at hg
   cases mv with
   |none=>rfl
   |some z=>simp only[Option.isSome_some]at hm;rw[Option.isNone_iff_eq_none]at hg;rw[hg]at hm;cases hm
  ·exact .inr ⟨k,_,q2,by omega,hM2,rfl⟩
 have hLo:(lv=none∧(l.den X.G ρ).toNat=0)∨∃ k i,lv=some (.int k i)∧0≤i∧i≤((hE.den X.G ρ).toNat:Int)∧(l.den X.G ρ).toNat=i.toNat:=by
  rcases rl with⟨q1,q2,q3⟩|⟨q1,k,q2⟩
  ·exact .inl ⟨q1,by rw[q3];rfl⟩
  ·exact .inr ⟨k,_,q2,h1,by omega,rfl⟩
 have hrun:=wD (P:=P) (isSlice:=true) hM1 hH hLo w
 refine⟨.slice (if M=(l.den X.G ρ).toNat then a else a.map fun x=>x.add ((l.den X.G ρ).toNat*inf.size)) ((hE.den X.G ρ).toNat-(l.den X.G ρ).toNat) (M-(l.den X.G ρ).toNat),?_,?_⟩
 ·simp only[Instr.sliceAt,Instr.slice,Sem.run_bind,run_underlying hu,Result.andThen_ok,Sem.run_pure,hrun]
  simp only[sizeOf,typeInfo,Sem.run_bind,run_program,hinf,Result.andThen_ok,Sem.run_pure]
 ·simp only[SV.R,E.mkOp_den,IOp.den]
  have hnew:∀ e,(if mx.isSome=true then some (E.mkOp .sub m l) else cap.map fun c=>E.mkOp .sub c l)=some e→((M-(l.den X.G ρ).toNat:Nat):Int)=e.den X.G ρ:=by
   intro e he
   split at he
   ·rename_i q
    cases he
    rw[E.mkOp_den];simp only[IOp.den]
    have:=hM3.1 q;omega
   ·rename_i q
    have q':mx=none:=by cases mx<;>simp at q ⊢
    obtain⟨c0,hc0,rfl⟩:=Option.map_eq_some_iff.1 he
    rw[E.mkOp_den];simp only[IOp.den]
    have:=hM3.2 q'
    have:=hcap c0 hc0
    omega
  refine⟨b,hb,by omega,by omega,?_⟩
  by_cases hML:M=(l.den X.G ρ).toNat
  ·refine .inl ⟨by omega,_,_,by rw[show (hE.den X.G ρ).toNat-(l.den X.G ρ).toNat=0 by omega],.inr ⟨by omega,?_⟩⟩
   intro e he
   have:=hnew e he
   omega
  ·rcases rx with⟨q1,a',c',q2,q3⟩|⟨hnil,c',q2,q3,q4⟩
   ·simp only[Value.slice.injEq]at q2
    obtain⟨rfl,_,rfl⟩:=q2
    have hMc:M≤c:=by
     rcases hM1 with⟨_,z⟩|⟨_,i,_,z1,z2,z⟩<;>omega
    rcases q3 with q3|⟨q3,_⟩
    ·subst q3
     simp only[Option.getD_none]at h3 h4
     cases mx with
     |some m'=>
      simp only[Option.isSome_some,if_true]at h4
      have:=hM3.1 rfl
      exfalso;omega
     |none=>
      simp only[Option.isSome_none,Bool.false_eq_true,if_false]at h3
      refine .inl ⟨by omega,_,_,by rw[show (hE.den X.G ρ).toNat-(l.den X.G ρ).toNat=0 by omega],.inl ?_⟩
      simp
    ·exfalso;omega
   ·simp only[Value.slice.injEq]at q2
    obtain⟨rfl,_,rfl⟩:=q2
    refine .inr ⟨hnil,M-(l.den X.G ρ).toNat,?_,by omega,hnew⟩
    rw[if_neg hML]
    simp only[Option.map_some,cI]
    rw[Nat.add_assoc,←Nat.add_mul,show (off.den X.G ρ).toNat+(l.den X.G ρ).toNat=(off.den X.G ρ+l.den X.G ρ).toNat by omega,show (hE.den X.G ρ).toNat-(l.den X.G ρ).toNat=(hE.den X.G ρ-l.den X.G ρ).toNat by omega]
end
end Sx
end Go.Proofs.Ytdldallkeheciaa
namespace Go.Proofs.Ytdldallkeheciaa
namespace Sx
open Go Go.RowKit
theorem zH (e:TypeId):aU+e-aU=e:=Nat.add_sub_cancel_left (n:=aU) (m:=e)
def aLj:SV→Option CK
 | .int k (.lit n)=>if n=0 then some (.int k) else none
 | .bool (.lit b)=>if b then none else some .bool
 |_=>none
def tQ:List SV→Option (List CK)
 |[]=>some []
 |s::l=>match aLj s,tQ l with
  |some c,some r=>some (c::r)
  |_,_=>none
def xE (P:Program) (e:TypeId):Option (List CK):=
 match P.info? e with
 |some i=>match i.zero with
  |some z=>match (SV.ofV z).cells with
   |some l=>match tQ l with
    |some sh=>if decide (sh.length=i.size) && decide (0<i.size) && decide (0<i.bytes) then some sh else none
    |none=>none
   |none=>none
  |none=>none
 |none=>none
theorem aIP (k:IntKind):k.wrap 0=0:=by cases k<;>decide
section
variable {ρ:Nat→Int} {P:Program} {X:Ctx} {gl:List (Nat × Nat)}
theorem aA3 {G:Nat→List Int→Int} {ρ:Nat→Int} {α:aV}:∀ {l:List SV} {sh:List CK} {vs:List Value},tQ l=some sh→SV.RL G ρ α l vs→vs=sh.map fun c=>c.mk 0
 |[],sh,vs,h,r=>by
  simp only[tQ]at h;cases h
  simp only[SV.RL]at r;subst r;rfl
 |s::l,sh,vs,h,r=>by
  simp only[tQ]at h
  split at h
  ·rename_i c q hc hq
   cases h
   simp only[SV.RL]at r
   obtain⟨v,vs',rfl,h2,h3⟩:=r
   rw[aA3 hq h3]
   simp only[List.map_cons]
   congr 1
   unfold aLj at hc
   split at hc
   ·split at hc
    ·rename_i hn
     cases hc
     subst hn
     simp only[SV.R,E.den]at h2
     rw[h2];simp only[CK.mk,aIP]
    ·cases hc
   ·rename_i b
    cases b
    ·simp at hc
     subst hc
     simp only[SV.R,B.den]at h2
     rw[h2];rfl
    ·simp at hc
   ·cases hc
  ·cases h
theorem tW {e:TypeId} {sh:List CK} (h:xE P e=some sh):∃ i z,P.info? e=some i∧i.zero=some z∧z.cells.toList=sh.map (fun c=>c.mk 0)∧i.size=sh.length∧0<sh.length∧0<i.bytes:=by
 unfold xE at h
 split at h
 case h_2=>cases h
 rename_i i hi
 split at h
 case h_2=>cases h
 rename_i z hz
 split at h
 case h_2=>cases h
 rename_i l hl
 split at h
 case h_2=>cases h
 rename_i q hq
 split at h
 case isFalse=>cases h
 rename_i hg
 simp only[Bool.and_eq_true,decide_eq_true_eq]at hg
 cases h
 have r:=jA (G:=fun _ _=>0) (ρ:=fun _=>0) (α:=fun _=>none) hl (qZ z)
 exact⟨i,z,hi,hz,aA3 hq r,hg.1.1.symm,by omega,hg.2⟩
def sM (sh:List CK):List Int:=List.replicate sh.length 0
theorem aH9 {sh:List CK} {z:Array Value} (hz:z.toList=sh.map fun c=>c.mk 0) (hw:0<sh.length) (m:Nat):(madeCells z (m*sh.length)).toList=aT sh (List.replicate m (sM sh)):=by
 have hsz:z.size=sh.length:=by have:=congrArg List.length hz;simpa using this
 unfold madeCells
 simp only[Array.toList_map,Array.toList_range]
 apply List.ext_getElem?
 intro p
 rcases Nat.lt_or_ge p (m*sh.length)with hp|hp
 ·rw[List.getElem?_map,List.getElem?_range hp]
  have hcw:p % sh.length<sh.length:=Nat.mod_lt _ hw
  obtain⟨c,hc⟩:∃ c,sh[p % sh.length]?=some c:=⟨sh[p % sh.length],by simp [hcw]⟩
  have haL:p / sh.length<(List.replicate m (sM sh)).length:=by rw[List.length_replicate];exact Nat.div_lt_of_lt_mul (by rw[Nat.mul_comm];exact hp)
  have e:=fK hc (List.replicate m (sM sh)) (p / sh.length) haL
  have hpe:p / sh.length*sh.length+p % sh.length=p:=by rw[Nat.mul_comm];exact Nat.div_add_mod p sh.length
  rw[hpe]at e
  rw[e]
  have h0:((List.replicate m (sM sh)).getD (p / sh.length) []).getD (p % sh.length) 0=0:=by
   rw[List.length_replicate]at haL
   simp [List.getD,List.getElem?_replicate,haL,sM,hcw]
  rw[h0]
  simp only[Option.map_some]
  rw[hsz,getElem!_pos z _ (by omega)]
  have h2:z.toList[p % sh.length]?=some (c.mk 0):=by rw[hz,List.getElem?_map,hc];rfl
  have h3:z.toList[p % sh.length]?=some (z[p % sh.length]'(by omega)):=by simp
  rw[h3]at h2
  exact h2
 ·rw[List.getElem?_eq_none (by simp;omega),List.getElem?_eq_none (by rw[bB,List.length_replicate];exact hp)]
def aB8 (sh:List CK):EL:=EL.ofList (List.replicate sh.length (.lit 0))
def aNY (a:E) (sh:List CK):E:=
 match a with
 | .lit n=>if n=0 then .lit 0 else .app 96 (.cons (.lit n) (aB8 sh))
 |a => .app 96 (.cons a (aB8 sh))
theorem aJF (hX:X.Ok ρ) (a:E) (sh:List CK):Lc.dec ((aNY a sh).den X.G ρ)=List.replicate (a.den X.G ρ).toNat (sM sh):=by
 have key:∀ a:E,Lc.dec (E.den X.G ρ (.app 96 (.cons a (aB8 sh))))=List.replicate (a.den X.G ρ).toNat (sM sh):=by
  intro a
  simp only[E.den,EL.den,aB8,EL.ofList_den]
  rw[hX.gi.lists _ _ (by omega) (by omega)]
  simp only[Lc.fn,Lc.op96,Lc.dec_enc,List.map_replicate,E.den,sM]
 unfold aNY
 split
 ·split
  ·rename_i h;subst h;rfl
  ·exact key _
 ·exact key _
def aQz (X:Ctx) (a b:E):Bool:=
 match a.const? X,b.const? X with
 |some n,some m=>decide (n=m) && decide (0<n) && decide (n≤32)
 |_,_=>false
def aEf (P:Program) (X:Ctx) (t:TypeId) (l c:SV) (σ:aM):Option (Res (SV × aM)):=
 match l,c with
 | .int _ a,.int _ b=>
  if aQz X a b then none else some (match P.underlying t with
   |some (.slice e)=>match xE P e,P.info? e with
    |some sh,some inf=>
     (Res.test X (.cmp .le (.lit 0) a)).bind fun t1=>(Res.test X (.cmp .le a b)).bind fun t2=>(Res.test X (.cmp .le b (.lit (1099511627776 / (inf.bytes:Int))))).bind fun t3=>
      if t1 && t2 && t3 then .ok (.own σ.length a (some b),σ++[some ([.vec sh (aNY a sh) a (E.eqb a b)],aU+e)]) else .fail 340
    |_,_ => .fail 341
   |_ => .fail 342)
 |_,_=>none
theorem aIL (hX:X.Ok ρ) {α:aV} {σ σ':aM} {w:World} {t:TypeId} {l c s:SV} {lv cv:Value} {r:Res (SV × aM)} (h0:aEf P X t l c σ=some r) (h:r = .ok (s,σ')) (hW:RelW X.G ρ gl α σ w) (rl:SV.R X.G ρ α l lv) (rc:SV.R X.G ρ α c cv):
  ∃ v w' α',(Instr.makeSlice t lv cv).run P w = .ok v w'∧SV.R X.G ρ α' s v∧RelW X.G ρ gl α' σ' w'∧Ext σ.length σ σ' α α' w w':=by
 unfold aEf at h0
 split at h0
 case h_2=>cases h0
 rename_i k a q b
 split at h0
 ·cases h0
 cases h0
 simp only[SV.R]at rl rc
 subst rl;subst rc
 split at h
 case h_2=>cases h
 rename_i e hu
 split at h
 case h_2=>cases h
 rename_i sh inf hsh hinf
 replace h:=Res.bind_ok h;obtain⟨t1,h1,h⟩:=h
 replace h:=Res.bind_ok h;obtain⟨t2,h2,h⟩:=h
 replace h:=Res.bind_ok h;obtain⟨t3,h3,h⟩:=h
 have h1:=Res.test_ok hX h1
 have h2:=Res.test_ok hX h2
 have h3:=Res.test_ok hX h3
 split at h
 case isFalse=>cases h
 rename_i hg
 simp only[Bool.and_eq_true]at hg
 obtain⟨⟨rfl,rfl⟩,rfl⟩:=hg
 cases h
 replace h1:(0:Int)≤a.den X.G ρ:=of_decide_eq_true h1
 replace h2:a.den X.G ρ≤b.den X.G ρ:=of_decide_eq_true h2
 replace h3:b.den X.G ρ≤1099511627776 / (inf.bytes:Int):=of_decide_eq_true h3
 obtain⟨i,z,hi,hz,hzc,hsz,hw,hb0⟩:=tW hsh
 rw[hinf]at hi;cases hi
 have hbp:(0:Int)<inf.bytes:=by omega
 have h4:(inf.bytes:Int)*b.den X.G ρ≤1099511627776:=by
  have:=Int.mul_le_mul_of_nonneg_left h3 (show (0:Int)≤inf.bytes by omega)
  have:=Int.mul_ediv_self_le (x:=1099511627776) (k:=(inf.bytes:Int)) (by omega)
  omega
 have h5:b.den X.G ρ≤1099511627776:=by
  have:=Int.ediv_le_self (a:=1099511627776) (inf.bytes:Int) (by omega)
  omega
 have hrun:=run_make (P:=P) w t e inf z hu hinf hz k q (a.den X.G ρ) (b.den X.G ρ) h1 h2 (by omega) (by omega)
 obtain⟨n,hn⟩:∃ n:Nat,a.den X.G ρ=n:=⟨(a.den X.G ρ).toNat,by omega⟩
 obtain⟨m,hm⟩:∃ m:Nat,b.den X.G ρ=m:=⟨(b.den X.G ρ).toNat,by omega⟩
 have hnm:n≤m:=by omega
 have hrows:(madeCells z.cells ((b.den X.G ρ).toNat*inf.size))=(aT sh (List.replicate n (sM sh))++aT sh (List.replicate (m-n) (sM sh))).toArray:=by
  apply Array.ext'
  rw[hm,Int.toNat_natCast,hsz,aH9 hzc hw,←dV]
  simp only[List.replicate_append_replicate]
  rw[show n+(m-n)=m by omega]
 rw[hrows]at hrun
 have hT:aU≤aU+e:=Nat.le_add_right _ _
 have hat:fR ⟨w.heap.size,m,false,0⟩ (some (.cells (aT sh (List.replicate n (sM sh))++aT sh (List.replicate (m-n) (sM sh))).toArray e (0,0))) sh (List.replicate n (sM sh)) (aU+e-aU) (E.eqb a b):=by
  refine .inr ⟨rfl,aT sh (List.replicate (m-n) (sM sh)),by rw[zH],?_,?_,?_⟩
  ·rw[List.length_append,bB,bB,List.length_replicate,List.length_replicate,←Nat.add_mul]
   show (n+(m-n))*sh.length=m*sh.length
   rw[show n+(m-n)=m by omega]
  ·show m≤maxLen
   unfold maxLen;omega
  ·intro hab
   have:=E.eqb_eq _ _ hab
   subst this
   rw[show m-n=0 by omega];rfl
 obtain⟨α',a1,a2,a3⟩:=aAD (aU+e) _ m (fR.obj hT rfl hw hat) hW (aEl (C:=aNY a sh) (n:=a) (L:=List.replicate n (sM sh)) (by rw[aJF hX,hn];rfl) (by rw[List.length_replicate];omega))
 refine⟨_,_,α',hrun,?_,a2,a3⟩
 simp only[SV.R]
 refine⟨_,a1,h1,?_,fun z=>(by cases z),by show a.den X.G ρ≤((m:Nat):Int);omega,fun x hx _=>?_⟩
 ·rw[hm];rfl
 ·cases hx;exact hm.symm
def aEi (X:Ctx) (sh:List CK):Nat→List SV→Option (List (List E))
 |0,_=>some []
 |n+1,l=>match pD X sh (l.take sh.length),aEi X sh n (l.drop sh.length)with
  |some r,some R=>some (r::R)
  |_,_=>none
theorem aHY (hX:X.Ok ρ) {α:aV} {sh:List CK}:∀ {n:Nat} {l:List SV} {R:List (List E)} {vs:List Value},aEi X sh n l=some R→SV.RL X.G ρ α l vs→
  vs.take (n*sh.length)=aT sh (R.map fun r=>r.map (E.den X.G ρ))∧R.length=n
 |0,l,R,vs,h,r=>by
  simp only[aEi]at h;cases h
  simp [aT]
 |n+1,l,R,vs,h,r=>by
  simp only[aEi]at h
  split at h
  ·rename_i q Q hq hQ
   cases h
   obtain⟨h1,h2⟩:=yI hX hq (iQ sh.length r)
   obtain⟨h3,h4⟩:=aHY hX hQ (gU sh.length r)
   refine⟨?_,by simp [h4]⟩
   rw[show (n+1)*sh.length=sh.length+n*sh.length by rw[Nat.succ_mul];omega,List.take_add,h3,h1,aBq _ _ (by simp [h2])]
   rfl
  ·cases h
def aEu (C:E):List (List E)→E
 |[]=>C
 |r::R=>aEu (.app 91 (.cons C (EL.ofList r))) R
theorem aAH (hX:X.Ok ρ):∀ (R:List (List E)) (C:E),Lc.dec ((aEu C R).den X.G ρ)=Lc.dec (C.den X.G ρ)++R.map fun r=>r.map (E.den X.G ρ)
 |[],C=>by simp [aEu]
 |r::R,C=>by
  simp only[aEu]
  rw[aAH hX R]
  have:Lc.dec (E.den X.G ρ (.app 91 (.cons C (EL.ofList r))))=Lc.dec (C.den X.G ρ)++[r.map (E.den X.G ρ)]:=by
   simp only[E.den,EL.den,EL.ofList_den]
   rw[hX.gi.lists _ _ (by omega) (by omega)]
   simp only[Lc.fn,Lc.op91,Lc.dec_enc]
  rw[this];simp
end
theorem wF {P:Program} {t ty e:TypeId} {inf:TypeInfo} {z:Value} {sh:List CK} (w:World) (ht:P.underlying t=some (.slice e)) (hi:P.info? e=some inf) (hz:inf.zero=some z) (hsz:inf.size=sh.length) (hzc:z.cells.toList=sh.map fun c=>c.mk 0) (hw:0<sh.length)
  {b:Loc} {v xv:Value} {L M:List (List Int)} {ex:Bool} (hv:v=if b.nil then .slice none 0 0 else .slice (some ⟨b.blk,0,none⟩) L.length b.cap) (hb:fR b w.heap[b.blk]? sh L e ex) (hb0:b.base=0) (hblt:b.nil=true∨b.blk<w.heap.size)
  (hx:(∃ a c,xv = .slice (some a) M.length c∧∀ j u,(aT sh M)[j]?=some u→w.cell? (a.add j)=some u)∨(M=[]∧∃ c,xv = .slice none 0 c))
  (hlen:(L.length+M.length)*inf.bytes≤140737488355328) (h62:L.length+M.length≤4611686018427387904):
  ∃ v' w' b',(Builtin.append_ #[t,t] ty #[v,xv]).run P w = .ok v' w'∧w'.os=w.os∧w'.tape=w.tape∧w'.output=w.output∧w.heap.size≤w'.heap.size∧
   (∀ k,k<w.heap.size→(b.nil=true∨k≠b.blk)→w'.heap[k]?=w.heap[k]?)∧
   v'=(if b'.nil then .slice none 0 0 else .slice (some ⟨b'.blk,0,none⟩) (L++M).length b'.cap)∧fR b' w'.heap[b'.blk]? sh (L++M) e false∧
   (b'.nil=true∨(b'.blk<w'.heap.size∧(w.heap.size≤b'.blk∨(b.nil=false∧b'.blk=b.blk))))∧(L.length+M.length≤b.cap→b'=b)∧b'.base=0:=by
 have lM:=bB sh M
 have lL:=bB sh L
 have one:∀ u,u ∈ aT sh M→u.oneCell'=true:=by
  intro u hu
  unfold aT at hu
  obtain⟨r,_,hu⟩:=List.mem_flatMap.1 hu
  unfold eK at hu
  obtain⟨p,_,rfl⟩:=List.mem_map.1 hu
  cases p.1<;>rfl
 have hLc:L.length≤b.cap:=hb.le hw
 rcases hx with⟨a,c,rfl,hcells⟩|⟨rfl,c,rfl⟩
 ·
  have grown:∀ (old need:Nat),need=(L++M).length→need≤4611686018427387904→∀ D:List Value,D.length=(grownCap w need old e-need)*sh.length→
    fR ⟨w.heap.size,grownCap w need old e,false,0⟩ (some (.cells (aT sh (L++M)++D).toArray e (0,0))) sh (L++M) e false:=by
   intro old need hneed hle D hD
   have g1:=grownCap_ge w need old e
   have g2:=grownCap_le_maxLen w need old e (by unfold maxLen;omega)
   refine .inr ⟨rfl,D,rfl,?_,g2,fun q=>by cases q⟩
   rw[List.length_append,bB,hD,←hneed,←Nat.add_mul]
   show (need+(grownCap w need old e-need))*sh.length=grownCap w need old e*sh.length
   congr 1;omega
  rcases hb with⟨hnil,rfl,hcap⟩|⟨hnil,rest,hcell,hlen2,hmax,_⟩
  ·rw[hnil]at hv
   simp only[if_true]at hv
   subst hv
   by_cases hM:M=[]
   ·subst hM
    refine⟨.slice none 0 0,w,b,?_,rfl,rfl,rfl,Nat.le_refl _,fun _ _ _=>rfl,by rw[hnil];rfl,.inl ⟨hnil,rfl,hcap⟩,.inl hnil,fun _=>rfl,hb0⟩
    have hf:=run_firstCells_some (P:=P) w inf.size 0 a 0 c [] (by simp) (by intro j u hu;simp at hu)
    simp [Builtin.append_,run_underlying ht,sizeOf,typeInfo,hi,Builtin.lenOf,Builtin.firstCells,loadCells,loadCellsFrom]
   ·have hMp:0<M.length:=List.length_pos_iff.2 hM
    have hr:=run_append_nil (P:=P) w t ty e inf z ht hi hz a M.length c (aT sh M) (by rw[lM,hsz]) hcells hMp (by omega) (by simp only[List.length_nil,Nat.zero_add]at hlen;omega)
    refine⟨_,_,⟨w.heap.size,grownCap w M.length 0 e,false,0⟩,hr,rfl,rfl,rfl,by simp,fun k hk _=>Below.heap_alloc w.drew _ k (by simpa using hk),by simp,?_,.inr ⟨by simp,.inl (Nat.le_refl _)⟩,fun q=>by simp only[List.length_nil]at q;omega,rfl⟩
    have hD:(Builtin.zeroCells z.cells (grownCap w M.length 0 e-M.length)).toList.length=(grownCap w M.length 0 e-M.length)*sh.length:=by
     have h1:=size_zeroCells z.cells (grownCap w M.length 0 e-M.length)
     have h2:z.cells.size=sh.length:=by have:=congrArg List.length hzc;simpa using this
     rw[h2]at h1;simpa using h1
    have hg:=grown 0 M.length (by simp) (by simp at h62;omega) _ hD
    show fR _ (w.drew.heap.push _)[w.heap.size]? sh ([]++M) e false
    rw[show w.heap.size=w.drew.heap.size by simp,Array.getElem?_push,if_pos rfl]
    simp only[List.nil_append]at hg ⊢
    have e1:(aT sh M).toArray++Builtin.zeroCells z.cells (grownCap w M.length 0 e-M.length)=(aT sh M++(Builtin.zeroCells z.cells (grownCap w M.length 0 e-M.length)).toList).toArray:=by
     apply Array.ext'
     simp
    rw[e1]
    exact hg
  ·rw[hnil]at hv
   simp only[Bool.false_eq_true,if_false]at hv
   subst hv
   have hbs:b.blk<w.heap.size:=by
    rcases hblt with q|q
    ·rw[hnil]at q;cases q
    ·exact q
   by_cases hroom:L.length+M.length≤b.cap
   ·have hmul:=Nat.mul_le_mul_right sh.length hroom
    rw[Nat.add_mul]at hmul
    have hr:=run_append_room (P:=P) w t ty e inf ht hi b.blk L.length b.cap (aT sh L++rest).toArray hcell a M.length c (aT sh M) (by rw[lM,hsz]) hcells one hroom (by rw[hsz,lM];simp only[List.size_toArray];omega)
    refine⟨_,_,b,hr,rfl,rfl,rfl,by simp,fun k hk hk'=>setRow_other w b.blk k _ (by rcases hk' with q|q;(rw[hnil]at q;cases q);exact q),by rw[hnil];simp,?_,.inr ⟨by simpa using hbs,.inr ⟨hnil,rfl⟩⟩,fun _=>rfl,hb0⟩
    rw[setRow_heap w b.blk _ _ e (0,0) hcell]
    have e1:((aT sh L++rest).toArray.toList.take (L.length*inf.size)++aT sh M++(aT sh L++rest).toArray.toList.drop (L.length*inf.size+(aT sh M).length))=aT sh (L++M)++rest.drop (aT sh M).length:=by
     rw[hsz,←lL,dV]
     simp only[List.take_left,List.drop_append,List.append_assoc]
     congr 2
     rw[List.drop_eq_nil_of_le (by omega)]
     simp
    rw[e1]
    refine .inr ⟨hnil,_,rfl,?_,hmax,fun q=>by cases q⟩
    rw[List.length_append,bB,List.length_drop,lM,List.length_append,Nat.add_mul]
    rw[List.length_append,lL]at hlen2
    omega
   ·have hr:=run_append_grow (P:=P) w t ty e inf z ht hi hz ⟨b.blk,0,none⟩ L.length b.cap (aT sh L) (by rw[lL,hsz]) (by
      intro j u hu
      rw[cI]
      have hj:j<(aT sh L).length:=(List.getElem?_eq_some_iff.1 hu).1
      simp only[World.cell?,hcell,Nat.zero_add]
      simp only[Option.isSome_none,Bool.false_eq_true,if_false,List.getElem?_toArray]
      rw[List.getElem?_append_left hj,hu]) a M.length c (aT sh M) (by rw[lM,hsz]) hcells (by omega) (by omega) (growslice_fits (by omega) hlen)
    refine⟨_,_,⟨w.heap.size,grownCap w (L.length+M.length) b.cap e,false,0⟩,hr,rfl,rfl,rfl,by simp,fun k hk _=>Below.heap_alloc w.drew _ k (by simpa using hk),by simp,?_,.inr ⟨by simp,.inl (Nat.le_refl _)⟩,fun q=>absurd q hroom,rfl⟩
    have hD:(Builtin.zeroCells z.cells (grownCap w (L.length+M.length) b.cap e-(L.length+M.length))).toList.length=(grownCap w (L.length+M.length) b.cap e-(L.length+M.length))*sh.length:=by
     have h1:=size_zeroCells z.cells (grownCap w (L.length+M.length) b.cap e-(L.length+M.length))
     have h2:z.cells.size=sh.length:=by have:=congrArg List.length hzc;simpa using this
     rw[h2]at h1;simpa using h1
    have hg:=grown b.cap (L.length+M.length) (by simp) h62 _ hD
    show fR _ (w.drew.heap.push _)[w.heap.size]? sh (L++M) e false
    rw[show w.heap.size=w.drew.heap.size by simp,Array.getElem?_push,if_pos rfl]
    have e1:(aT sh L).toArray++(aT sh M).toArray++Builtin.zeroCells z.cells (grownCap w (L.length+M.length) b.cap e-(L.length+M.length))=(aT sh (L++M)++(Builtin.zeroCells z.cells (grownCap w (L.length+M.length) b.cap e-(L.length+M.length))).toList).toArray:=by
     apply Array.ext'
     simp [dV]
    rw[e1]
    exact hg
 ·have hv2:∃ base,v = .slice base L.length b.cap:=by
   cases q:b.nil
   ·rw[q]at hv;exact⟨_,hv⟩
   ·rw[q]at hv
    rcases hb with⟨_,rfl,hc⟩|⟨z,_⟩
    ·rw[hc];exact⟨_,hv⟩
    ·rw[q]at z;cases z
  obtain⟨base,hv2⟩:=hv2
  refine⟨v,w,b,?_,rfl,rfl,rfl,Nat.le_refl _,fun _ _ _=>rfl,by rw[List.append_nil];exact hv,?_,?_,fun _=>rfl,hb0⟩
  ·rw[hv2]
   cases base<;>simp [Builtin.append_,run_underlying ht,sizeOf,typeInfo,hi,Builtin.lenOf,Builtin.firstCells,hLc,storeCells]
  ·rw[List.append_nil]
   rcases hb with q|⟨h1,rest,h2,h3,h4,_⟩
   ·exact .inl q
   ·exact .inr ⟨h1,rest,h2,h3,h4,fun q=>by cases q⟩
  ·rcases hblt with q|q
   ·exact .inl q
   ·cases z:b.nil
    ·exact .inr ⟨q,.inr ⟨rfl,rfl⟩⟩
    ·exact .inl rfl
theorem aBK {P:Program} {t ty e:TypeId} {inf:TypeInfo} {z:Value} {sh:List CK} (w:World) (ht:P.underlying t=some (.slice e)) (hi:P.info? e=some inf) (hz:inf.zero=some z) (hsz:inf.size=sh.length) (hzc:z.cells.toList=sh.map fun c=>c.mk 0) (hw:0<sh.length)
  {b:Loc} {v xv:Value} {L M:List (List Int)} {ex:Bool} (hv:v=if b.nil then .slice none 0 0 else .slice (some ⟨b.blk,0,none⟩) L.length b.cap) (hb:fR b w.heap[b.blk]? sh L e ex)
  (hx:(∃ a c,xv = .slice (some a) M.length c∧∀ j u,(aT sh M)[j]?=some u→w.cell? (a.add j)=some u)∨(M=[]∧∃ c,xv = .slice none 0 c))
  (hlen:(L.length+M.length)*inf.bytes≤140737488355328) (h62:L.length+M.length≤4611686018427387904) (hfull:b.cap<L.length+M.length):
  ∃ v' w' b',(Builtin.append_ #[t,t] ty #[v,xv]).run P w = .ok v' w'∧w'.os=w.os∧w'.tape=w.tape∧w'.output=w.output∧w.heap.size≤w'.heap.size∧
   (∀ k,k<w.heap.size→w'.heap[k]?=w.heap[k]?)∧
   v' = .slice (some ⟨b'.blk,0,none⟩) (L++M).length b'.cap∧fR b' w'.heap[b'.blk]? sh (L++M) e false∧b'.nil=false∧b'.blk<w'.heap.size∧w.heap.size≤b'.blk∧b'.base=0:=by
 have lM:=bB sh M
 have lL:=bB sh L
 have hLc:L.length≤b.cap:=hb.le hw
 have hMp:0<M.length:=by omega
 rcases hx with⟨a,c,rfl,hcells⟩|⟨rfl,_⟩
 rotate_left
 ·simp at hMp
 have grown:∀ (old need:Nat),need=(L++M).length→need≤4611686018427387904→∀ D:List Value,D.length=(grownCap w need old e-need)*sh.length→
   fR ⟨w.heap.size,grownCap w need old e,false,0⟩ (some (.cells (aT sh (L++M)++D).toArray e (0,0))) sh (L++M) e false:=by
  intro old need hneed hle D hD
  have g1:=grownCap_ge w need old e
  have g2:=grownCap_le_maxLen w need old e (by unfold maxLen;omega)
  refine .inr ⟨rfl,D,rfl,?_,g2,fun q=>by cases q⟩
  rw[List.length_append,bB,hD,←hneed,←Nat.add_mul]
  show (need+(grownCap w need old e-need))*sh.length=grownCap w need old e*sh.length
  congr 1;omega
 have hzs:z.cells.size=sh.length:=by have:=congrArg List.length hzc;simpa using this
 rcases hb with⟨hnil,rfl,hcap⟩|⟨hnil,rest,hcell,hlen2,hmax,_⟩
 ·rw[hnil]at hv
  simp only[if_true]at hv
  subst hv
  have hr:=run_append_nil (P:=P) w t ty e inf z ht hi hz a M.length c (aT sh M) (by rw[lM,hsz]) hcells hMp (by omega) (by simp only[List.length_nil,Nat.zero_add]at hlen;omega)
  refine⟨_,_,⟨w.heap.size,grownCap w M.length 0 e,false,0⟩,hr,rfl,rfl,rfl,by simp,fun k hk=>Below.heap_alloc w.drew _ k (by simpa using hk),by simp,?_,rfl,by simp,Nat.le_refl _,rfl⟩
  have hD:(Builtin.zeroCells z.cells (grownCap w M.length 0 e-M.length)).toList.length=(grownCap w M.length 0 e-M.length)*sh.length:=by
   have h1:=size_zeroCells z.cells (grownCap w M.length 0 e-M.length)
   rw[hzs]at h1;simpa using h1
  have hg:=grown 0 M.length (by simp) (by simp at h62;omega) _ hD
  show fR _ (w.drew.heap.push _)[w.heap.size]? sh ([]++M) e false
  rw[show w.heap.size=w.drew.heap.size by simp,Array.getElem?_push,if_pos rfl]
  simp only[List.nil_append]at hg ⊢
  have e1:(aT sh M).toArray++Builtin.zeroCells z.cells (grownCap w M.length 0 e-M.length)=(aT sh M++(Builtin.zeroCells z.cells (grownCap w M.length 0 e-M.length)).toList).toArray:=by
   apply Array.ext'
   simp
  rw[e1]
  exact hg
 ·rw[hnil]at hv
  simp only[Bool.false_eq_true,if_false]at hv
  subst hv
  have hr:=run_append_grow (P:=P) w t ty e inf z ht hi hz ⟨b.blk,0,none⟩ L.length b.cap (aT sh L) (by rw[lL,hsz]) (by
    intro j u hu
    rw[cI]
    have hj:j<(aT sh L).length:=(List.getElem?_eq_some_iff.1 hu).1
    simp only[World.cell?,hcell,Nat.zero_add]
    simp only[Option.isSome_none,Bool.false_eq_true,if_false,List.getElem?_toArray]
    rw[List.getElem?_append_left hj,hu]) a M.length c (aT sh M) (by rw[lM,hsz]) hcells hfull (by omega) (growslice_fits hfull hlen)
  refine⟨_,_,⟨w.heap.size,grownCap w (L.length+M.length) b.cap e,false,0⟩,hr,rfl,rfl,rfl,by simp,fun k hk=>Below.heap_alloc w.drew _ k (by simpa using hk),by simp,?_,rfl,by simp,Nat.le_refl _,rfl⟩
  have hD:(Builtin.zeroCells z.cells (grownCap w (L.length+M.length) b.cap e-(L.length+M.length))).toList.length=(grownCap w (L.length+M.length) b.cap e-(L.length+M.length))*sh.length:=by
   have h1:=size_zeroCells z.cells (grownCap w (L.length+M.length) b.cap e-(L.length+M.length))
   rw[hzs]at h1;simpa using h1
  have hg:=grown b.cap (L.length+M.length) (by simp) h62 _ hD
  show fR _ (w.drew.heap.push _)[w.heap.size]? sh (L++M) e false
  rw[show w.heap.size=w.drew.heap.size by simp,Array.getElem?_push,if_pos rfl]
  have e1:(aT sh L).toArray++(aT sh M).toArray++Builtin.zeroCells z.cells (grownCap w (L.length+M.length) b.cap e-(L.length+M.length))=(aT sh (L++M)++(Builtin.zeroCells z.cells (grownCap w (L.length+M.length) b.cap e-(L.length+M.length))).toList).toArray:=by
   apply Array.ext'
   simp [dV]
  rw[e1]
  exact hg
end Sx
end Go.Proofs.Ytdldallkeheciaa
namespace Go.Proofs.Ytdldallkeheciaa
namespace Sx
open Go Go.RowKit
section
variable {ρ:Nat→Int} {P:Program} {X:Ctx} {gl:List (Nat × Nat)}
theorem nG {α:aV} {σ σ1:aM} {w w':World} {b b':Loc} {cs:List SV} {vs:List Value} {T:TypeId} (hW:RelW X.G ρ gl α σ w)
  (hold:(σ1=σ∧b.nil=true)∨∃ id,α id=some b∧jT σ id∧σ1=σ.set id none) (hgl:∀ p,p ∈ gl→p.2<σ.length)
  (hos:w'.os=w.os) (htape:w'.tape=w.tape) (hout:w'.output=w.output) (hsz:w.heap.size≤w'.heap.size) (hsame:∀ k,k<w.heap.size→(b.nil=true∨k≠b.blk)→w'.heap[k]?=w.heap[k]?)
  (hb':b'.nil=true∨(b'.blk<w'.heap.size∧(w.heap.size≤b'.blk∨(b.nil=false∧b'.blk=b.blk)))) (hob:eN b' w'.heap[b'.blk]? vs T) (r:SV.RL X.G ρ α cs vs):
  ∃ α',α' σ.length=some b'∧RelW X.G ρ gl α' (σ1++[some (cs,T)]) w'∧Ext σ.length σ (σ1++[some (cs,T)]) α α' w w':=by
 have hl1:σ1.length=σ.length:=by
  rcases hold with⟨rfl,_⟩|⟨id,_,_,rfl⟩
  ·rfl
  ·simp
 let α':aV:=fun id=>if id=σ.length then some b' else α id
 have aN:α' σ.length=some b':=by simp [α']
 have aO:∀ id,id≠σ.length→α' id=α id:=fun id e=>by simp [α',e]
 have hne:∀ id b,α id=some b→id≠σ.length:=fun id b e q=>by have:=(hW.dom id b e).1;omega
 have mono:∀ id b,α id=some b→α' id=some b:=fun id b e=>by rw[aO id (hne id b e)];exact e
 have old:∀ id c,α id=some c→c.nil=false→c.blk<w.heap.size:=by
  intro id c e hc
  rcases(hW.dom id c e).2 with q|q
  ·rw[hc]at q;cases q
  ·exact q
 
 have get1:∀ i q,(σ1++[some (cs,T)])[i]?=some (some q)→i<σ.length→σ[i]?=some (some q)∧∀ c,α i=some c→c.nil=false→(b.nil=true∨c.blk≠b.blk):=by
  intro i q e hi
  rw[List.getElem?_append_left (by omega)]at e
  rcases hold with⟨rfl,hn⟩|⟨id,ha,hv,rfl⟩
  ·exact⟨e,fun _ _ _ => .inl hn⟩
  ·by_cases hid:i=id
   ·subst hid
    rw[List.getElem?_set_self (by omega)]at e;cases e
   ·rw[List.getElem?_set_ne (fun q=>hid q.symm)]at e
    refine⟨e,fun c hc hcn=>?_⟩
    cases hbn:b.nil
    ·exact .inr fun q=>hid (hW.only (b:=c) e hc ha hcn hbn q.symm hv).symm
    ·exact .inl rfl
 have vis1:∀ i,i<σ.length→jT (σ1++[some (cs,T)]) i→jT σ i:=fun i hi ⟨q,hq,hv⟩=>⟨q,(get1 i q hq hi).1,hv⟩
 have newold:∀ j c,α j=some c→c.nil=false→b'.nil=false→b'.blk=c.blk→(∃ q,(σ1++[some (cs,T)])[j]?=some (some q))→False:=by
  intro j c ej hc hn hbc ⟨q,vj⟩
  have hj:=(hW.dom j c ej).1
  have h1:=old j c ej hc
  obtain⟨_,h2⟩:=get1 j q vj hj
  rcases hb' with z|⟨_,z|⟨z1,z2⟩⟩
  ·rw[hn]at z;cases z
  ·omega
  ·rcases h2 c ej hc with h3|h3
   ·rw[z1]at h3;cases h3
   ·omega
 refine⟨α',aN,⟨?_,?_,?_,fun p hp=>mono _ _ (hW.glob p hp),?_⟩,⟨hos,htape,hout,hsz,by simp;omega,mono,?_,?_,?_⟩⟩
 ·intro id c e
  by_cases hid:id=σ.length
  ·subst hid;rw[aN]at e;cases e
   exact⟨by simp;omega,hb'.imp (fun x=>x) (fun x=>x.1)⟩
  ·rw[aO id hid]at e
   obtain⟨h1,h2⟩:=hW.dom id c e
   exact⟨by simp;omega,h2.imp (fun x=>x) (fun x=>by omega)⟩
 ·intro i j c d ei ej hc hd hcd vi vj
  by_cases hi:i=σ.length<;>by_cases hj:j=σ.length
  ·rw[hi,hj]
  ·rw[hi,aN]at ei;rw[aO j hj]at ej;cases ei
   exact(newold j d ej hd hc hcd (vj.imp fun _ h=>h.1)).elim
  ·rw[hj,aN]at ej;rw[aO i hi]at ei;cases ej
   exact(newold i c ei hc hd hcd.symm (vi.imp fun _ h=>h.1)).elim
  ·rw[aO i hi]at ei;rw[aO j hj]at ej
   exact hW.inj i j c d ei ej hc hd hcd (vis1 i (hW.dom i c ei).1 vi) (vis1 j (hW.dom j d ej).1 vj)
 ·intro id c U e
  by_cases hid:id<σ.length
  ·obtain⟨e1,e2⟩:=get1 id _ e hid
   obtain⟨d,us,h1,h2,h3⟩:=hW.blk id c U e1
   exact⟨d,us,mono _ _ h1,h2.of_eq fun hd=>hsame d.blk (old id d h1 hd) (e2 d h1 hd),SV.RL_mono mono c us h3⟩
  ·have hid':id=σ.length:=by
    rcases Nat.lt_or_ge id (σ.length+1)with q|q
    ·omega
    ·rw[List.getElem?_eq_none (by simp;omega)]at e;cases e
   subst hid'
   rw[List.getElem?_append_right (by omega),hl1,Nat.sub_self]at e
   simp at e
   obtain⟨rfl,rfl⟩:=e
   exact⟨_,vs,aN,hob,SV.RL_mono mono _ vs r⟩
 ·intro id c U d e hU ei hd j k ej hk hkd vj
  by_cases hid:id=σ.length<;>by_cases hj:j=σ.length
  ·subst hid hj
   obtain⟨q,hq,hv⟩:=vj
   rw[e]at hq;cases hq
   rw[hU]at hv;cases hv
  ·rw[hid,aN]at ei;rw[aO j hj]at ej;cases ei
   exact newold j k ej hk hd hkd.symm (vj.imp fun _ h=>h.1)
  ·rw[hj,aN]at ej;rw[aO id hid]at ei;cases ej
   exact newold id d ei hd hk hkd ⟨_,e⟩
  ·rw[aO id hid]at ei;rw[aO j hj]at ej
   exact hW.view id c U d (get1 id _ e (hW.dom id d ei).1).1 hU ei hd j k ej hk hkd (vis1 j (hW.dom j k ej).1 vj)
 ·intro id c e
  by_cases hid:id=σ.length
  ·subst hid;rw[aN]at e;cases e
   refine .inr ⟨Nat.le_refl _,?_⟩
   rcases hb' with z|⟨_,z|⟨z1,z2⟩⟩
   ·exact .inl z
   ·exact .inr (.inl z)
   ·rcases hold with⟨_,q⟩|⟨id,ha,hv,_⟩
    ·rw[z1]at q;cases q
    ·exact .inr (.inr ⟨id,b,ha,z1,z2.symm,hv⟩)
  ·rw[aO id hid]at e;exact .inl e
 ·intro k hk hh
  refine hsame k hk ?_
  rcases hold with⟨_,q⟩|⟨id,ha,hv,_⟩
  ·exact .inl q
  ·cases hbn:b.nil
   ·exact .inr fun q=>hh id b ha hbn q.symm hv
   ·exact .inl rfl
 ·intro id c e hv
  exact vis1 id (hW.dom id c e).1 hv
def aSo (X:Ctx) (sh:List CK) (x:SV) (σ:aM):Res (E × (E→E)):=
 match x with
 | .slice id off len _=>match σ[id]? with
  |some (some (cs,U))=>if fY U && decide (off+len*sh.length≤cs.length) then match aEi X sh len (cs.drop off)with
    |some R => .ok (.lit len,fun C=>aEu C R)
    |none => .fail 350
   else .fail 351
  |_ => .fail 352
 | .own id m _=>match σ[id]? with
  |some (some ([.vec sh' C n _],U))=>if (decide (aU≤U) ||vw U) && decide (sh'=sh) && E.eqb m n then .ok (m,fun D => .app 94 (.cons D (.cons C .nil))) else .fail 353
  |_ => .fail 352
 | .vsl id w off m _=>match σ[id]? with
  |some (some ([.vec sh' C n _],U))=>if (decide (aU≤U) ||vw U) && decide (sh'=sh) && decide (w=sh.length) then
    (Res.test X (.cmp .le (E.mkOp .add off m) n)).bind fun t=>if t then .ok (m,fun D => .app 94 (.cons D (.cons (.app 95 (.cons C (.cons off (.cons m .nil)))) .nil))) else .fail 354
   else .fail 353
  |_ => .fail 352
 | .con (.slice none 0 0) => .ok (.lit 0,fun C=>C)
 |_ => .fail 355
theorem aEz (hX:X.Ok ρ) {α:aV} {σ:aM} {w:World} {sh:List CK} {x:SV} {xv:Value} {m:E} {f:E→E} (hw:0<sh.length) (h:aSo X sh x σ = .ok (m,f)) (hW:RelW X.G ρ gl α σ w) (rx:SV.R X.G ρ α x xv):
  ∃ M:List (List Int),(M.length:Int)=m.den X.G ρ∧(∀ C,Lc.dec ((f C).den X.G ρ)=Lc.dec (C.den X.G ρ)++M)∧
   ((∃ a c,xv = .slice (some a) M.length c∧∀ j u,(aT sh M)[j]?=some u→w.cell? (a.add j)=some u)∨(M=[]∧∃ c,xv = .slice none 0 c)):=by
 unfold aSo at h
 split at h
 ·rename_i id off len cap
  split at h
  case h_2=>cases h
  rename_i cs U hs
  split at h
  case isFalse=>cases h
  rename_i hg
  simp only[Bool.and_eq_true,decide_eq_true_eq]at hg
  obtain⟨hU,hle⟩:=hg
  split at h
  case h_2=>cases h
  rename_i R hR
  cases h
  simp only[SV.R]at rx
  obtain⟨b,hb,rfl⟩:=rx
  obtain⟨b',vs,h1,h2,h3⟩:=hW.blk id cs U hs
  rw[hb]at h1;cases h1
  have h2':=((cV hU).1 h2).2
  obtain⟨e1,e2⟩:=aHY hX hR (gU off h3)
  refine⟨R.map fun r=>r.map (E.den X.G ρ),by simp [e2,E.den],fun C=>aAH hX R C,.inl ⟨⟨b.blk,off,none⟩,cap,by simp [e2],?_⟩⟩
  intro j u hu
  rw[cI,←e1,List.getElem?_take]at *
  split at hu
  ·rw[List.getElem?_drop]at hu
   simp [World.cell?,h2',hu]
  ·cases hu
 ·rename_i id m' cap
  split at h
  case h_2=>cases h
  rename_i sh' C n ex U hs
  split at h
  case isFalse=>cases h
  rename_i hg
  rw[Bool.and_eq_true,Bool.and_eq_true,decide_eq_true_eq]at hg
  obtain⟨⟨hU,rfl⟩,hmn⟩:=hg
  cases h
  have hmn:=E.eqb_eq _ _ hmn
  subst hmn
  simp only[SV.R]at rx
  obtain⟨b,hb,h0,rfl,hnil,hle,_⟩:=rx
  obtain⟨b',hb',_,hlen,hv⟩:=aAv hW hs hU
  rw[hb]at hb';cases hb'
  refine⟨Lc.dec (C.den X.G ρ),hlen,?_,?_⟩
  ·intro D
   simp only[E.den,EL.den]
   rw[hX.gi.lists _ _ (by omega) (by omega)]
   simp only[Lc.fn,Lc.op94,Lc.dec_enc]
  ·rcases hv with⟨q1,q2⟩|⟨q1,cs,T',fz,q2,q3⟩
   ·exact .inr ⟨q2,0,by rw[q1];rfl⟩
   ·refine .inl ⟨⟨b.blk,b.base,none⟩,b.cap,?_,?_⟩
    ·rw[q1,←hlen];rfl
    ·intro j u hu
     rw[cI]
     simp only[World.cell?,q2,Option.isSome_none,Bool.false_eq_true,if_false]
     exact q3 j u hu
 ·rename_i id wd off m' cap
  split at h
  case h_2=>cases h
  rename_i sh' C n ex U hs
  split at h
  case isFalse=>cases h
  rename_i hg
  rw[Bool.and_eq_true,Bool.and_eq_true,decide_eq_true_eq,decide_eq_true_eq]at hg
  obtain⟨⟨hU,rfl⟩,rfl⟩:=hg
  replace h:=Res.bind_ok h;obtain⟨t,ht,h⟩:=h
  have ht:=Res.test_ok hX ht
  cases t
  case false=>simp at h
  simp only[if_true]at h
  cases h
  simp only[B.den,COp.den,E.mkOp_den,IOp.den,decide_eq_true_eq]at ht
  simp only[SV.R]at rx
  obtain⟨b,hb,h0,ho,hv2⟩:=rx
  obtain⟨b',hb',_,hlen,hv⟩:=aAv hW hs hU
  rw[hb]at hb';cases hb'
  obtain⟨L,hL⟩:∃ L,L=Lc.dec (C.den X.G ρ):=⟨_,rfl⟩
  rw[←hL]at hv hlen
  have hlm:((L.drop (off.den X.G ρ).toNat).take (m.den X.G ρ).toNat).length=(m.den X.G ρ).toNat:=by simp;omega
  refine⟨(L.drop (off.den X.G ρ).toNat).take (m.den X.G ρ).toNat,by rw[hlm];omega,?_,?_⟩
  ·intro D
   simp only[E.den,EL.den]
   rw[hX.gi.lists 94 _ (by omega) (by omega),hX.gi.lists 95 _ (by omega) (by omega)]
   simp only[Lc.fn,Lc.op94,Lc.op95,Lc.dec_enc,←hL]
  ·rw[hlm]
   rcases hv2 with⟨q1,a,c,rfl,_⟩|⟨q1,c,rfl,q2,_⟩
   ·have e0:(L.drop (off.den X.G ρ).toNat).take (m.den X.G ρ).toNat=[]:=by rw[q1];simp
    rw[e0,q1]
    cases a with
    |none=>exact .inr ⟨rfl,c,rfl⟩
    |some a=>exact .inl ⟨a,c,rfl,fun j u hu=>by simp [aT]at hu⟩
   ·refine .inl ⟨_,c,rfl,?_⟩
    rcases hv with⟨z,_⟩|⟨_,cs,T',fz,z,z2⟩
    ·rw[q1]at z;cases z
    intro j u hu
    rw[cI]
    have e1:L=L.take (off.den X.G ρ).toNat++(L.drop (off.den X.G ρ).toNat).take (m.den X.G ρ).toNat++(L.drop (off.den X.G ρ).toNat).drop (m.den X.G ρ).toNat:=by rw[List.append_assoc,List.take_append_drop,List.take_append_drop]
    have hlo:(aT sh' (L.take (off.den X.G ρ).toNat)).length=(off.den X.G ρ).toNat*sh'.length:=by rw[bB,List.length_take,Nat.min_eq_left (by omega)]
    simp only[World.cell?,z,Option.isSome_none,Bool.false_eq_true,if_false]
    rw[Nat.add_assoc]
    refine z2 _ u ?_
    rw[e1,dV,dV,List.append_assoc,List.getElem?_append_right (by rw[hlo];omega),hlo,show (off.den X.G ρ).toNat*sh'.length+j-(off.den X.G ρ).toNat*sh'.length=j by omega,List.getElem?_append_left (List.getElem?_eq_some_iff.1 hu).1]
    exact hu
 ·cases h
  simp only[SV.R]at rx
  exact⟨[],by simp [E.den],fun C=>by simp,.inr ⟨rfl,0,rx⟩⟩
 ·cases h
def vF (gl:List (Nat × Nat)) (e:TypeId) (inf:TypeInfo) (s x:SV) (σ:aM):Res (SV × aM):=
 match s,x,inf.zero with
 | .con (.slice none 0 0),.slice id off len _,some z=>match σ[id]? with
  |some (some (cs,U))=>
   if fY U && decide (0<len) && decide (0<inf.size) && decide (z.cells.size=inf.size) && decide (off+len*inf.size≤cs.length) && decide (len*inf.bytes≤140737488355328) && decide (len≤4611686018427387904) then
    .ok (.own σ.length (.lit len) none,σ++[some ([.tuple [.agg ((cs.drop off).take (len*inf.size)),.int .i64 (.lit inf.size),.bool (.lit false)]],aU+e)])
   else .fail 368
  |_ => .fail 369
 |_,_,_ => .fail 364
theorem aAB {P:Program} {t ty e:TypeId} {inf:TypeInfo} (hu:P.underlying t=some (.slice e)) (hinf:P.info? e=some inf) {α:aV} {σ σ':aM} {w:World} {l x s:SV} {lv xv:Value} (hgl:∀ p,p ∈ gl→p.2<σ.length) (h:vF gl e inf l x σ = .ok (s,σ'))
  (hW:RelW X.G ρ gl α σ w) (rl:SV.R X.G ρ α l lv) (rx:SV.R X.G ρ α x xv):
  ∃ v w' α',(Builtin.append_ #[t,t] ty #[lv,xv]).run P w = .ok v w'∧SV.R X.G ρ α' s v∧RelW X.G ρ gl α' σ' w'∧Ext σ.length σ σ' α α' w w':=by
 unfold vF at h
 split at h
 case h_2=>cases h
 rename_i id off len cap z hz
 split at h
 case h_2=>cases h
 rename_i cs U hs
 split at h
 case isFalse=>cases h
 rename_i hg
 simp only[Bool.and_eq_true,decide_eq_true_eq]at hg
 obtain⟨⟨⟨⟨⟨⟨hU,hlen⟩,hsz⟩,hzs⟩,hle⟩,hby⟩,h62⟩:=hg
 cases h
 simp only[SV.R]at rl rx
 subst rl
 obtain⟨b,hb,rfl⟩:=rx
 obtain⟨b',vs,h1,h2,h3⟩:=hW.blk id cs U hs
 rw[hb]at h1;cases h1
 have h2':=((cV hU).1 h2).2
 have hvl:=bY h3
 have hcl:((vs.drop off).take (len*inf.size)).length=len*inf.size:=by
  rw[List.length_take,List.length_drop];omega
 have hcells:∀ j u,((vs.drop off).take (len*inf.size))[j]?=some u→w.cell? (Addr.add ⟨b.blk,off,none⟩ j)=some u:=by
  intro j u hu
  rw[cI,List.getElem?_take]at *
  split at hu
  ·rw[List.getElem?_drop]at hu
   simp [World.cell?,h2',hu]
  ·cases hu
 have hr:=run_append_nil (P:=P) w t ty e inf z hu hinf hz ⟨b.blk,off,none⟩ len cap ((vs.drop off).take (len*inf.size)) hcl hcells hlen (by omega) (by omega)
 have g1:=grownCap_ge w len 0 e
 have g2:=grownCap_le_maxLen w len 0 e (by unfold maxLen;omega)
 have hT:aU≤aU+e:=Nat.le_add_right _ _
 have hzl:(Builtin.zeroCells z.cells (grownCap w len 0 e-len)).size=(grownCap w len 0 e-len)*inf.size:=by
  rw[size_zeroCells,hzs]
 obtain⟨W',hW'⟩:∃ W',W'=w.drew.alloc (.cells (((vs.drop off).take (len*inf.size)).toArray++Builtin.zeroCells z.cells (grownCap w len 0 e-len)) e):=⟨_,rfl⟩
 have hheap:W'.heap[w.heap.size]?=some (.cells (((vs.drop off).take (len*inf.size))++(Builtin.zeroCells z.cells (grownCap w len 0 e-len)).toList).toArray e (0,0)):=by
  rw[hW']
  show (w.drew.heap.push _)[w.heap.size]?=_
  rw[show w.heap.size=w.drew.heap.size by simp,Array.getElem?_push,if_pos rfl]
  congr 2
  apply Array.ext'
  simp
 have hob:eN ⟨w.heap.size,grownCap w len 0 e,false,0⟩ W'.heap[w.heap.size]? [.tuple #[.agg ((vs.drop off).take (len*inf.size)).toArray,.int .i64 inf.size,.bool false]] (aU+e):=by
  rw[dG hT]
  refine⟨rfl,?_⟩
  refine⟨_,inf.size,false,rfl,hsz,.inr ⟨rfl,_,by rw[hheap,Nat.add_sub_cancel_left],?_,g2,fun q=>by cases q⟩⟩
  rw[List.length_append,hcl,Array.length_toList,hzl,←Nat.add_mul]
  show (len+(grownCap w len 0 e-len))*inf.size=grownCap w len 0 e*inf.size
  congr 1;omega
 have hcr:SV.RL X.G ρ α [.tuple [.agg ((cs.drop off).take (len*inf.size)),.int .i64 (.lit inf.size),.bool (.lit false)]] [.tuple #[.agg ((vs.drop off).take (len*inf.size)).toArray,.int .i64 inf.size,.bool false]]:=by
  refine aW ?_ bC
  simp only[SV.R]
  refine⟨[.agg ((vs.drop off).take (len*inf.size)).toArray,.int .i64 inf.size,.bool false],rfl,aW ?_ (aW ?_ (aW ?_ bC))⟩
  ·simp only[SV.R];exact⟨_,rfl,iQ _ (gU off h3)⟩
  ·simp only[SV.R,E.den]
  ·simp only[SV.R,B.den]
 obtain⟨α',a1,a2,a3⟩:=nG (σ1:=σ) (b:=⟨0,0,true,0⟩) (b':=⟨w.heap.size,grownCap w len 0 e,false,0⟩) (w':=W') hW (.inl ⟨rfl,rfl⟩) hgl (by rw[hW'];rfl) (by rw[hW'];rfl) (by rw[hW'];rfl) (by rw[hW'];simp)
  (fun k hk _=>by rw[hW'];exact Below.heap_alloc w.drew _ k (by simpa using hk)) (.inr ⟨by rw[hW'];simp,.inl (Nat.le_refl _)⟩) hob hcr
 refine⟨_,W',α',by rw[hr,hW'],?_,a2,a3⟩
 simp only[SV.R,E.den]
 refine⟨_,a1,Int.natCast_nonneg _,?_,(fun q=>by cases q),?_,(fun e he _=>by cases he)⟩
 ·simp
 ·show (len:Int)≤((grownCap w len 0 e:Nat):Int)
  omega
def vC (X:Ctx) (e:TypeId) (inf:TypeInfo) (s x:SV) (σ:aM):Res (SV × aM):=
 match s,x,inf.zero with
 | .own id n _,.slice id2 off len _,some z=>match σ[id]?,σ[id2]? with
  |some (some ([.tuple [.any,.int .i64 (.lit wd),.bool (.lit false)]],T)),some (some (cs,U))=>
   if decide (T=aU+e) && decide (wd=inf.size) && fY U && decide (0<len) && decide (0<inf.size) && decide (z.cells.size=inf.size) && decide (off+len*inf.size≤cs.length) && ((cs.drop off).take (len*inf.size)).all SV.oneCell then
    lE (E.mkOp .add n (.lit len)) fun n1=>(Res.test X (.cmp .le n1 (.lit (1099511627776 / (inf.bytes:Int))))).bind fun t=>
     if t then .ok (.own σ.length n1 none,σ.set id none++[some ([.tuple [.any,.int .i64 (.lit inf.size),.bool (.lit false)]],aU+e)]) else .fail 370
   else .fail 371
  |_,_ => .fail 372
 |_,_,_ => .fail 373
theorem aAy (hX:X.Ok ρ) {P:Program} {t ty e:TypeId} {inf:TypeInfo} (hu:P.underlying t=some (.slice e)) (hinf:P.info? e=some inf) {α:aV} {σ σ':aM} {w:World} {l x s:SV} {lv xv:Value} (hgl:∀ p,p ∈ gl→p.2<σ.length) (h:vC X e inf l x σ = .ok (s,σ'))
  (hW:RelW X.G ρ gl α σ w) (rl:SV.R X.G ρ α l lv) (rx:SV.R X.G ρ α x xv):
  ∃ v w' α',(Builtin.append_ #[t,t] ty #[lv,xv]).run P w = .ok v w'∧SV.R X.G ρ α' s v∧RelW X.G ρ gl α' σ' w'∧Ext σ.length σ σ' α α' w w':=by
 unfold vC at h
 split at h
 case h_2=>cases h
 rename_i id n cp id2 off len cp2 z hz
 split at h
 case h_2=>cases h
 rename_i wd T cs U hs hs2
 split at h
 case isFalse=>cases h
 rename_i hg
 simp only[Bool.and_eq_true,decide_eq_true_eq]at hg
 obtain⟨⟨⟨⟨⟨⟨⟨rfl,rfl⟩,hU⟩,hlen⟩,hsz⟩,hzs⟩,hle⟩,hone⟩:=hg
 rw[vR]at h
 replace h:=Res.bind_ok h;obtain⟨t1,ht,h⟩:=h
 have ht:=Res.test_ok hX ht
 split at h
 case isFalse=>cases h
 rename_i ht1
 subst ht1
 cases h
 replace ht:(E.mkOp .add n (.lit len)).den X.G ρ≤1099511627776 / (inf.bytes:Int):=of_decide_eq_true ht
 have hn1:(E.mkOp .add n (.lit len)).den X.G ρ=n.den X.G ρ+len:=by rw[E.mkOp_den];rfl
 simp only[SV.R]at rl rx
 obtain⟨b,hb,h0,rfl,hnil,hle0,_⟩:=rl
 obtain⟨c,hc,rfl⟩:=rx
 obtain⟨c',vs,h1,h2,h3⟩:=hW.blk id2 cs U hs2
 rw[hc]at h1;cases h1
 have h2':=((cV hU).1 h2).2
 have hvl:=bY h3
 have hT:aU≤aU+e:=Nat.le_add_right _ _
 obtain⟨b',us,g1,g2,g3⟩:=hW.blk id _ _ hs
 rw[hb]at g1;cases g1
 rw[dG hT,Nat.add_sub_cancel_left]at g2
 obtain⟨hb0,cells,w0,ex0,rfl,hw0,g4⟩:=g2
 have hw0:w0=inf.size:=by
  simp only[SV.RL,SV.R]at g3
  obtain⟨v,vs',e1,⟨cs3,e2,e3⟩,_⟩:=g3
  cases e1
  obtain⟨v1,r1,q1,_,v2,r2,q2,q3,_⟩:=e3
  subst q1 q2 q3
  simp only[Value.tuple.injEq]at e2
  have:=congrArg Array.toList e2
  simp only[List.cons.injEq,E.den,Value.int.injEq,true_and]at this
  omega
 subst hw0
 
 have hsm:(n.den X.G ρ).toNat*inf.bytes+len*inf.bytes≤140737488355328∧(n.den X.G ρ).toNat+len≤4611686018427387904:=by
  rw[hn1]at ht
  rcases Nat.eq_zero_or_pos inf.bytes with hz0|hbp
  ·rw[hz0]at ht ⊢
   simp only[Int.natCast_zero,Int.ediv_zero]at ht
   omega
  ·have h1:=Int.mul_le_mul_of_nonneg_right ht (show (0:Int)≤inf.bytes by omega)
   have h2:1099511627776 / (inf.bytes:Int)*inf.bytes≤1099511627776:=Int.ediv_mul_le _ (by omega)
   have h3:=Int.ediv_le_self (a:=1099511627776) (inf.bytes:Int) (by omega)
   refine⟨?_,by omega⟩
   rw[←Nat.add_mul]
   have h4:((((n.den X.G ρ).toNat+len)*inf.bytes:Nat):Int)=(n.den X.G ρ+len)*inf.bytes:=by rw[Int.natCast_mul,Int.natCast_add,Int.toNat_of_nonneg h0]
   omega
 obtain⟨hsm1,hsm2⟩:=hsm
 obtain⟨m,hm⟩:∃ m,m=(n.den X.G ρ).toNat:=⟨_,rfl⟩
 rw[←hm]at hsm1 hsm2
 have hmn:n.den X.G ρ=m:=by omega
 
 obtain⟨news,hnews⟩:∃ news,news=(vs.drop off).take (len*inf.size):=⟨_,rfl⟩
 have hcl:news.length=len*inf.size:=by rw[hnews,List.length_take,List.length_drop];omega
 have hcells:∀ j u,news[j]?=some u→w.cell? (Addr.add ⟨c.blk,off,none⟩ j)=some u:=by
  intro j u hu
  rw[hnews]at hu
  rw[cI,List.getElem?_take]at *
  split at hu
  ·rw[List.getElem?_drop]at hu
   simp [World.cell?,h2',hu]
  ·cases hu
 have h1c:∀ u,u ∈ news→u.oneCell'=true:=by
  rw[hnews]
  exact lB hone (iQ _ (gU off h3))
 have new_any:∀ α:aV,SV.RL X.G ρ α [.tuple [.any,.int .i64 (.lit inf.size),.bool (.lit false)]] [.tuple #[.agg ([]:List Value).toArray,.int .i64 inf.size,.bool false]]:=by
  intro α
  refine aW ?_ bC
  simp only[SV.R]
  refine⟨[.agg #[],.int .i64 inf.size,.bool false],rfl,aW (by simp only[SV.R]) (aW ?_ (aW ?_ bC))⟩
  ·simp only[SV.R,E.den]
  ·simp only[SV.R,B.den]
 have fin:∀ (v':Value) (w':World) (b2:Loc),(Builtin.append_ #[t,t] ty #[(if b.nil=true then .slice none 0 0 else .slice (some ⟨b.blk,b.base,none⟩) (n.den X.G ρ).toNat b.cap),.slice (some ⟨c.blk,off,none⟩) len cp2]).run P w = .ok v' w'→
   w'.os=w.os→w'.tape=w.tape→w'.output=w.output→w.heap.size≤w'.heap.size→(∀ k,k<w.heap.size→(b.nil=true∨k≠b.blk)→w'.heap[k]?=w.heap[k]?)→
   (b2.blk<w'.heap.size∧(w.heap.size≤b2.blk∨(b.nil=false∧b2.blk=b.blk)))→b2.nil=false→b2.base=0→v' = .slice (some ⟨b2.blk,0,none⟩) (m+len) b2.cap→m+len≤b2.cap→b2.cap≤maxLen→
   (∃ rest:List Value,w'.heap[b2.blk]?=some (.cells rest.toArray e (0,0))∧rest.length=b2.cap*inf.size)→
   ∃ v w' α',(Builtin.append_ #[t,t] ty #[(if b.nil=true then .slice none 0 0 else .slice (some ⟨b.blk,b.base,none⟩) (n.den X.G ρ).toNat b.cap),.slice (some ⟨c.blk,off,none⟩) len cp2]).run P w = .ok v w'∧SV.R X.G ρ α' (.own σ.length (E.mkOp .add n (.lit len)) none) v∧RelW X.G ρ gl α' (σ.set id none++[some ([.tuple [.any,.int .i64 (.lit inf.size),.bool (.lit false)]],aU+e)]) w'∧Ext σ.length σ (σ.set id none++[some ([.tuple [.any,.int .i64 (.lit inf.size),.bool (.lit false)]],aU+e)]) α α' w w':=by
  intro v' w' b2 q1 q2 q3 q4 q5 q6 q7 q8 q9 q10 q11 q12 q13
  obtain⟨rest,q13,q14⟩:=q13
  obtain⟨α',a1,a2,a3⟩:=nG (b:=b) (b':=b2) (T:=aU+e) (cs:=[.tuple [.any,.int .i64 (.lit inf.size),.bool (.lit false)]]) (vs:=[.tuple #[.agg ([]:List Value).toArray,.int .i64 inf.size,.bool false]]) hW (.inr ⟨id,hb,⟨_,hs,aAk hT⟩,rfl⟩) hgl q2 q3 q4 q5 q6 (.inr q7)
   (by rw[dG hT,Nat.add_sub_cancel_left];exact⟨q9,[],inf.size,false,rfl,hsz,.inr ⟨q8,rest,by rw[List.nil_append];exact q13,by rw[List.nil_append];exact q14,q12,fun q=>by cases q⟩⟩) (new_any α)
  refine⟨v',w',α',q1,?_,a2,a3⟩
  simp only[SV.R]
  refine⟨b2,a1,by omega,?_,fun q=>(by rw[q8]at q;cases q),by omega,fun e he _=>by cases he⟩
  rw[q10,q8,q9,show ((E.mkOp .add n (.lit len)).den X.G ρ).toNat=m+len by omega]
  rfl
 have hzl:∀ k,(Builtin.zeroCells z.cells k).size=k*inf.size:=fun k=>by rw[size_zeroCells,hzs]
 have bsm:(m+len)*inf.bytes≤140737488355328:=by rw[Nat.add_mul];exact hsm1
 rcases g4 with⟨hn,_,hcap⟩|⟨hn,rest,hcell,hl2,hmax,_⟩
 ·
  have hm0:m=0:=by have:=(hnil hn).1;omega
  have hr:=run_append_nil (P:=P) w t ty e inf z hu hinf hz ⟨c.blk,off,none⟩ len cp2 news hcl hcells hlen (by omega) (by rw[hm0,Nat.zero_add]at bsm;omega)
  have g1:=grownCap_ge w len 0 e
  have g2:=grownCap_le_maxLen w len 0 e (by unfold maxLen;omega)
  have e0:(if b.nil=true then Value.slice none 0 0 else .slice (some ⟨b.blk,b.base,none⟩) (n.den X.G ρ).toNat b.cap)=Value.slice none 0 0:=by rw[hn];rfl
  rw[e0]at fin ⊢
  refine fin _ _ ⟨w.heap.size,grownCap w len 0 e,false,0⟩ hr rfl rfl rfl (by simp) (fun k hk _=>Below.heap_alloc w.drew _ k (by simpa using hk)) ⟨by simp,.inl (Nat.le_refl _)⟩ rfl rfl (by rw[hm0,Nat.zero_add]) (by show m+len≤grownCap w len 0 e;omega) g2 ⟨news++(Builtin.zeroCells z.cells (grownCap w len 0 e-len)).toList,?_,?_⟩
  ·show (w.drew.heap.push _)[w.heap.size]?=_
   rw[show w.heap.size=w.drew.heap.size by simp,Array.getElem?_push,if_pos rfl]
   congr 2
   apply Array.ext'
   simp
  ·rw[List.length_append,hcl,Array.length_toList,hzl,←Nat.add_mul]
   show (len+(grownCap w len 0 e-len))*inf.size=grownCap w len 0 e*inf.size
   congr 1;omega
 ·have hbs:b.blk<w.heap.size:=by
   rcases(hW.dom id b hb).2 with q|q
   ·rw[hn]at q;cases q
   ·exact q
  obtain⟨all,hall⟩:∃ all,all=cells++rest:=⟨_,rfl⟩
  rw[←hall]at hcell hl2
  have e0:(if b.nil=true then Value.slice none 0 0 else .slice (some ⟨b.blk,b.base,none⟩) (n.den X.G ρ).toNat b.cap)=Value.slice (some ⟨b.blk,0,none⟩) m b.cap:=by rw[hn,hb0,←hm];rfl
  rw[e0]at fin ⊢
  by_cases hroom:m+len≤b.cap
  ·have hmul:=Nat.mul_le_mul_right inf.size hroom
   rw[Nat.add_mul]at hmul
   have hr:=run_append_room (P:=P) w t ty e inf hu hinf b.blk m b.cap all.toArray hcell ⟨c.blk,off,none⟩ len cp2 news hcl hcells h1c hroom (by rw[hcl];simp only[List.size_toArray];omega)
   refine fin _ _ b hr rfl rfl rfl (by simp) (fun k hk hk'=>setRow_other w b.blk k _ (by rcases hk' with q|q;(rw[hn]at q;cases q);exact q)) ⟨by simpa using hbs,.inr ⟨hn,rfl⟩⟩ hn hb0 rfl hroom hmax ⟨_,by rw[setRow_heap w b.blk _ _ e (0,0) hcell],?_⟩
   simp only[List.length_append,List.length_take,List.length_drop,hcl]
   omega
  ·have hmul:m*inf.size≤b.cap*inf.size:=Nat.mul_le_mul_right _ (by omega)
   have hr:=run_append_grow (P:=P) w t ty e inf z hu hinf hz ⟨b.blk,0,none⟩ m b.cap (all.take (m*inf.size)) (by rw[List.length_take];omega) (by
     intro j u hu
     rw[cI]
     rw[List.getElem?_take]at hu
     split at hu
     ·simp [World.cell?,hcell,hu]
     ·cases hu) ⟨c.blk,off,none⟩ len cp2 news hcl hcells (by omega) (by omega) (growslice_fits (by omega) bsm)
   have g1:=grownCap_ge w (m+len) b.cap e
   have g2:=grownCap_le_maxLen w (m+len) b.cap e (by unfold maxLen;omega)
   refine fin _ _ ⟨w.heap.size,grownCap w (m+len) b.cap e,false,0⟩ hr rfl rfl rfl (by simp) (fun k hk _=>Below.heap_alloc w.drew _ k (by simpa using hk)) ⟨by simp,.inl (Nat.le_refl _)⟩ rfl rfl rfl g1 g2 ⟨all.take (m*inf.size)++news++(Builtin.zeroCells z.cells (grownCap w (m+len) b.cap e-(m+len))).toList,?_,?_⟩
   ·show (w.drew.heap.push _)[w.heap.size]?=_
    rw[show w.heap.size=w.drew.heap.size by simp,Array.getElem?_push,if_pos rfl]
    congr 2
    apply Array.ext'
    simp
   ·have ht2:(all.take (m*inf.size)).length=m*inf.size:=by rw[List.length_take];omega
    have this:(m+len+(grownCap w (m+len) b.cap e-(m+len)))*inf.size=grownCap w (m+len) b.cap e*inf.size:=by congr 1;omega
    rw[Nat.add_mul,Nat.add_mul]at this
    have hz2:=hzl (grownCap w (m+len) b.cap e-(m+len))
    rw[List.length_append,List.length_append,ht2,hcl]
    show m*inf.size+len*inf.size+(Builtin.zeroCells z.cells (grownCap w (m+len) b.cap e-(m+len))).size=grownCap w (m+len) b.cap e*inf.size
    rw[hz2]
    exact this
def vJ (X:Ctx) (e:TypeId) (inf:TypeInfo) (s x:SV) (σ:aM):Res (SV × aM):=
 match s,x,inf.zero with
 | .own id (.lit nn) _,.slice id2 off len _,some z=>match σ[id]?,σ[id2]? with
  |some (some ([.tuple [.agg l,.int .i64 (.lit wd),.bool (.lit false)]],T)),some (some (cs,U))=>
   if decide (T=aU+e) && decide (wd=inf.size) && fY U && decide (0<len) && decide (0<inf.size) && decide (z.cells.size=inf.size) && decide (off+len*inf.size≤cs.length) && ((cs.drop off).take (len*inf.size)).all SV.oneCell && decide (0≤nn) && decide (l.length=nn.toNat*inf.size) && decide ((nn+len)*inf.bytes≤1099511627776) && decide (nn+len≤1099511627776) then
    cP (l++(cs.drop off).take (len*inf.size)) fun l' => .ok (.own σ.length (.lit (nn+len)) none,σ.set id none++[some ([.tuple [.agg l',.int .i64 (.lit inf.size),.bool (.lit false)]],aU+e)])
   else .fail 371
  |_,_ => .fail 372
 |_,_,_ => .fail 373
theorem aAz (hX:X.Ok ρ) {P:Program} {t ty e:TypeId} {inf:TypeInfo} (hu:P.underlying t=some (.slice e)) (hinf:P.info? e=some inf) {α:aV} {σ σ':aM} {w:World} {l x s:SV} {lv xv:Value} (hgl:∀ p,p ∈ gl→p.2<σ.length) (h:vJ X e inf l x σ = .ok (s,σ'))
  (hW:RelW X.G ρ gl α σ w) (rl:SV.R X.G ρ α l lv) (rx:SV.R X.G ρ α x xv):
  ∃ v w' α',(Builtin.append_ #[t,t] ty #[lv,xv]).run P w = .ok v w'∧SV.R X.G ρ α' s v∧RelW X.G ρ gl α' σ' w'∧Ext σ.length σ σ' α α' w w':=by
 unfold vJ at h
 split at h
 case h_2=>cases h
 rename_i id nn cp id2 off len cp2 z hz
 split at h
 case h_2=>cases h
 rename_i l0 wd T cs U hs hs2
 split at h
 case isFalse=>cases h
 rename_i hg
 simp only[Bool.and_eq_true,decide_eq_true_eq]at hg
 obtain⟨⟨⟨⟨⟨⟨⟨⟨⟨⟨⟨rfl,rfl⟩,hU⟩,hlen⟩,hsz⟩,hzs⟩,hle⟩,hone⟩,hnn⟩,hll⟩,hby⟩,h40⟩:=hg
 rw[cQ]at h
 cases h
 simp only[SV.R]at rl rx
 obtain⟨b,hb,h0,rfl,hnil,hle0,_⟩:=rl
 obtain⟨c,hc,rfl⟩:=rx
 obtain⟨c',vs,h1,h2,h3⟩:=hW.blk id2 cs U hs2
 rw[hc]at h1;cases h1
 have h2':=((cV hU).1 h2).2
 have hvl:=bY h3
 have hT:aU≤aU+e:=Nat.le_add_right _ _
 obtain⟨b',us,g1,g2,g3⟩:=hW.blk id _ _ hs
 rw[hb]at g1;cases g1
 rw[dG hT,Nat.add_sub_cancel_left]at g2
 obtain⟨hb0,cells,w0,ex0,rfl,hw0,g4⟩:=g2
 simp only[SV.RL,SV.R]at g3
 obtain⟨v,vs',e1,⟨cs3,e2,v1,r1,q1,⟨cl,q1',hcl⟩,v2,r2,q2,q2',v3,r3,q3,q3',q4⟩,_⟩:=g3
 subst q1 q1' q2 q2' q3 q3' q4
 obtain⟨rfl,_⟩:=List.cons.inj e1
 simp only[Value.tuple.injEq]at e2
 have e2:=congrArg Array.toList e2
 simp only[List.cons.injEq,Value.agg.injEq,E.den,B.den,Value.int.injEq,Value.bool.injEq,true_and,and_true]at e2
 obtain⟨e7,e9,e10⟩:=e2
 have e7:=congrArg Array.toList e7
 simp only at e7
 subst e7
 have hw0:w0=inf.size:=by omega
 subst hw0
 have lcl:=bY hcl
 simp only[E.den]at h0 hnil hle0
 have eln:E.den X.G ρ (.lit nn)=nn:=by simp only[E.den]
 rw[eln]
 obtain⟨m,hm⟩:∃ m,m=nn.toNat:=⟨_,rfl⟩
 have hmn:nn=m:=by omega
 have bsm:(m+len)*inf.bytes≤140737488355328:=by
  have h4:(((m+len)*inf.bytes:Nat):Int)=(nn+len)*inf.bytes:=by rw[Int.natCast_mul,Int.natCast_add,hmn]
  omega
 have hsm2:m+len≤4611686018427387904:=by omega
 rw[←hm]at hll
 
 obtain⟨news,hnews⟩:∃ news,news=(vs.drop off).take (len*inf.size):=⟨_,rfl⟩
 have hnl:news.length=len*inf.size:=by rw[hnews,List.length_take,List.length_drop];omega
 have hcells:∀ j u,news[j]?=some u→w.cell? (Addr.add ⟨c.blk,off,none⟩ j)=some u:=by
  intro j u hu
  rw[hnews]at hu
  rw[cI,List.getElem?_take]at *
  split at hu
  ·rw[List.getElem?_drop]at hu
   simp [World.cell?,h2',hu]
  ·cases hu
 have h1c:∀ u,u ∈ news→u.oneCell'=true:=by
  rw[hnews]
  exact lB hone (iQ _ (gU off h3))
 have hRL2:SV.RL X.G ρ α (l0++(cs.drop off).take (len*inf.size)) (cells++news):=by rw[hnews];exact dK hcl (iQ _ (gU off h3))
 have new_any:SV.RL X.G ρ α [.tuple [.agg (l0++(cs.drop off).take (len*inf.size)),.int .i64 (.lit inf.size),.bool (.lit false)]] [.tuple #[.agg (cells++news).toArray,.int .i64 inf.size,.bool false]]:=by
  refine aW ?_ bC
  simp only[SV.R]
  refine⟨[.agg (cells++news).toArray,.int .i64 inf.size,.bool false],rfl,aW (by simp only[SV.R];exact⟨_,rfl,hRL2⟩) (aW ?_ (aW ?_ bC))⟩
  ·simp only[SV.R,E.den]
  ·simp only[SV.R,B.den]
 have fin:∀ (v':Value) (w':World) (b2:Loc),(Builtin.append_ #[t,t] ty #[(if b.nil=true then .slice none 0 0 else .slice (some ⟨b.blk,b.base,none⟩) nn.toNat b.cap),.slice (some ⟨c.blk,off,none⟩) len cp2]).run P w = .ok v' w'→
   w'.os=w.os→w'.tape=w.tape→w'.output=w.output→w.heap.size≤w'.heap.size→(∀ k,k<w.heap.size→(b.nil=true∨k≠b.blk)→w'.heap[k]?=w.heap[k]?)→
   (b2.blk<w'.heap.size∧(w.heap.size≤b2.blk∨(b.nil=false∧b2.blk=b.blk)))→b2.nil=false→b2.base=0→v' = .slice (some ⟨b2.blk,0,none⟩) (m+len) b2.cap→m+len≤b2.cap→b2.cap≤maxLen→
   (∃ rest:List Value,w'.heap[b2.blk]?=some (.cells ((cells++news)++rest).toArray e (0,0))∧((cells++news)++rest).length=b2.cap*inf.size)→
   ∃ v w' α',(Builtin.append_ #[t,t] ty #[(if b.nil=true then .slice none 0 0 else .slice (some ⟨b.blk,b.base,none⟩) nn.toNat b.cap),.slice (some ⟨c.blk,off,none⟩) len cp2]).run P w = .ok v w'∧SV.R X.G ρ α' (.own σ.length (.lit (nn+len)) none) v∧RelW X.G ρ gl α' (σ.set id none++[some ([.tuple [.agg (l0++(cs.drop off).take (len*inf.size)),.int .i64 (.lit inf.size),.bool (.lit false)]],aU+e)]) w'∧Ext σ.length σ (σ.set id none++[some ([.tuple [.agg (l0++(cs.drop off).take (len*inf.size)),.int .i64 (.lit inf.size),.bool (.lit false)]],aU+e)]) α α' w w':=by
  intro v' w' b2 q1 q2 q3 q4 q5 q6 q7 q8 q9 q10 q11 q12 q13
  obtain⟨rest,q13,q14⟩:=q13
  obtain⟨α',a1,a2,a3⟩:=nG (b:=b) (b':=b2) (T:=aU+e) (cs:=[.tuple [.agg (l0++(cs.drop off).take (len*inf.size)),.int .i64 (.lit inf.size),.bool (.lit false)]]) (vs:=[.tuple #[.agg (cells++news).toArray,.int .i64 inf.size,.bool false]]) hW (.inr ⟨id,hb,⟨_,hs,aAk hT⟩,rfl⟩) hgl q2 q3 q4 q5 q6 (.inr q7)
   (by rw[dG hT,Nat.add_sub_cancel_left];exact⟨q9,cells++news,inf.size,false,rfl,hsz,.inr ⟨q8,rest,q13,q14,q12,fun q=>by cases q⟩⟩) new_any
  refine⟨v',w',α',q1,?_,a2,a3⟩
  simp only[SV.R]
  refine⟨b2,a1,by simp only[E.den];omega,?_,fun q=>(by rw[q8]at q;cases q),by simp only[E.den];omega,fun e he _=>by cases he⟩
  rw[q10,q8,q9,show (E.den X.G ρ (.lit (nn+len))).toNat=m+len by simp only[E.den];omega]
  rfl
 have hzl:∀ k,(Builtin.zeroCells z.cells k).size=k*inf.size:=fun k=>by rw[size_zeroCells,hzs]
 rcases g4 with⟨hn,hc0,hcap⟩|⟨hn,rest,hcell,hl2,hmax,_⟩
 ·
  have hm0:m=0:=by have:=(hnil hn).1;omega
  have hr:=run_append_nil (P:=P) w t ty e inf z hu hinf hz ⟨c.blk,off,none⟩ len cp2 news hnl hcells hlen (by omega) (by rw[hm0,Nat.zero_add]at bsm;omega)
  have g1:=grownCap_ge w len 0 e
  have g2:=grownCap_le_maxLen w len 0 e (by unfold maxLen;omega)
  have e0:(if b.nil=true then Value.slice none 0 0 else .slice (some ⟨b.blk,b.base,none⟩) nn.toNat b.cap)=Value.slice none 0 0:=by rw[hn];rfl
  rw[e0]at fin ⊢
  refine fin _ _ ⟨w.heap.size,grownCap w len 0 e,false,0⟩ hr rfl rfl rfl (by simp) (fun k hk _=>Below.heap_alloc w.drew _ k (by simpa using hk)) ⟨by simp,.inl (Nat.le_refl _)⟩ rfl rfl (by rw[hm0,Nat.zero_add]) (by show m+len≤grownCap w len 0 e;omega) g2 ⟨(Builtin.zeroCells z.cells (grownCap w len 0 e-len)).toList,?_,?_⟩
  ·show (w.drew.heap.push _)[w.heap.size]?=_
   rw[show w.heap.size=w.drew.heap.size by simp,Array.getElem?_push,if_pos rfl]
   congr 2
   apply Array.ext'
   simp [hc0]
  ·rw[hc0,List.nil_append,List.length_append,hnl,Array.length_toList,hzl,←Nat.add_mul]
   show (len+(grownCap w len 0 e-len))*inf.size=grownCap w len 0 e*inf.size
   congr 1;omega
 ·have hbs:b.blk<w.heap.size:=by
   rcases(hW.dom id b hb).2 with q|q
   ·rw[hn]at q;cases q
   ·exact q
  obtain⟨all,hall⟩:∃ all,all=cells++rest:=⟨_,rfl⟩
  rw[←hall]at hcell hl2
  have e0:(if b.nil=true then Value.slice none 0 0 else .slice (some ⟨b.blk,b.base,none⟩) nn.toNat b.cap)=Value.slice (some ⟨b.blk,0,none⟩) m b.cap:=by rw[hn,hb0,←hm];rfl
  rw[e0]at fin ⊢
  by_cases hroom:m+len≤b.cap
  ·have hmul:=Nat.mul_le_mul_right inf.size hroom
   rw[Nat.add_mul]at hmul
   have hr:=run_append_room (P:=P) w t ty e inf hu hinf b.blk m b.cap all.toArray hcell ⟨c.blk,off,none⟩ len cp2 news hnl hcells h1c hroom (by rw[hnl];simp only[List.size_toArray];omega)
   refine fin _ _ b hr rfl rfl rfl (by simp) (fun k hk hk'=>setRow_other w b.blk k _ (by rcases hk' with q|q;(rw[hn]at q;cases q);exact q)) ⟨by simpa using hbs,.inr ⟨hn,rfl⟩⟩ hn hb0 rfl hroom hmax ⟨rest.drop news.length,by
    rw[setRow_heap w b.blk _ _ e (0,0) hcell]
    congr 3
    rw[hall,show m*inf.size=cells.length by omega]
    simp only[List.take_left,List.drop_append,List.append_assoc]
    congr 2
    rw[List.drop_eq_nil_of_le (by omega)]
    simp,?_⟩
   rw[hall,List.length_append]at hl2
   rw[List.length_append,List.length_append,List.length_drop,hnl]
   omega
  ·have hmul:m*inf.size≤b.cap*inf.size:=Nat.mul_le_mul_right _ (by omega)
   have hr:=run_append_grow (P:=P) w t ty e inf z hu hinf hz ⟨b.blk,0,none⟩ m b.cap (all.take (m*inf.size)) (by rw[List.length_take];omega) (by
     intro j u hu
     rw[cI]
     rw[List.getElem?_take]at hu
     split at hu
     ·simp [World.cell?,hcell,hu]
     ·cases hu) ⟨c.blk,off,none⟩ len cp2 news hnl hcells (by omega) (by omega) (growslice_fits (by omega) bsm)
   have g1:=grownCap_ge w (m+len) b.cap e
   have g2:=grownCap_le_maxLen w (m+len) b.cap e (by unfold maxLen;omega)
   refine fin _ _ ⟨w.heap.size,grownCap w (m+len) b.cap e,false,0⟩ hr rfl rfl rfl (by simp) (fun k hk _=>Below.heap_alloc w.drew _ k (by simpa using hk)) ⟨by simp,.inl (Nat.le_refl _)⟩ rfl rfl rfl g1 g2 ⟨(Builtin.zeroCells z.cells (grownCap w (m+len) b.cap e-(m+len))).toList,?_,?_⟩
   ·show (w.drew.heap.push _)[w.heap.size]?=_
    rw[show w.heap.size=w.drew.heap.size by simp,Array.getElem?_push,if_pos rfl]
    have ha:all.take (m*inf.size)=cells:=by rw[hall,show m*inf.size=cells.length by omega,List.take_left]
    rw[ha]
    congr 2
    apply Array.ext'
    simp
   ·have this:(m+len+(grownCap w (m+len) b.cap e-(m+len)))*inf.size=grownCap w (m+len) b.cap e*inf.size:=by congr 1;omega
    rw[Nat.add_mul,Nat.add_mul]at this
    have hz2:=hzl (grownCap w (m+len) b.cap e-(m+len))
    rw[List.length_append,List.length_append,hnl,show cells.length=m*inf.size by omega]
    show m*inf.size+len*inf.size+(Builtin.zeroCells z.cells (grownCap w (m+len) b.cap e-(m+len))).size=grownCap w (m+len) b.cap e*inf.size
    rw[hz2]
    exact this
def aKu (X:Ctx) (m:E):Bool:=match B.dec X (.cmp .le (.lit 1) m)with
 |some true=>true
 |_=>false
theorem aIF {X:Ctx} {ρ:Nat→Int} (hX:X.Ok ρ) {m:E} (h:aKu X m=true):1≤m.den X.G ρ:=by
 unfold aKu at h
 split at h
 ·rename_i hd;exact of_decide_eq_true (B.dec_eq hX _ hd)
 ·cases h
def aMZ (X:Ctx) (n c:E):Bool:=match B.dec X (.cmp .eq n c)with
 |some true=>true
 |_=>false
theorem aIM {X:Ctx} {ρ:Nat→Int} (hX:X.Ok ρ) {n c:E} (h:aMZ X n c=true):n.den X.G ρ=c.den X.G ρ:=by
 unfold aMZ at h
 split at h
 ·rename_i hd;exact of_decide_eq_true (B.dec_eq hX _ hd)
 ·cases h
def aBL (X:Ctx) (n:E) (cap:Option E):Bool:=match cap with
 |some c=>E.eqb n c ||aMZ X n c
 |none=>false
theorem aDL {X:Ctx} {ρ:Nat→Int} (hX:X.Ok ρ) {n:E} {cap:Option E} (h:aBL X n cap=true):∃ c,cap=some c∧n.den X.G ρ=c.den X.G ρ:=by
 unfold aBL at h
 split at h
 ·rename_i c
  simp only[Bool.or_eq_true]at h
  rcases h with h|h
  ·exact⟨c,rfl,by rw[E.eqb_eq _ _ h]⟩
  ·exact⟨c,rfl,aIM hX h⟩
 ·cases h
def aC2 (P:Program) (X:Ctx) (gl:List (Nat × Nat)) (ts:Array TypeId) (s x:SV) (σ:aM):Res (SV × aM):=
 match ts.toList with
 |[t,t']=>
  if decide (t=t') && gl.all (fun p=>decide (p.2<σ.length)) then match P.underlying t with
   |some (.slice e)=>match xE P e,P.info? e with
    |some sh,some inf=>
     match s with
     | .con (.slice none 0 0)=>(aSo X sh x σ).bind fun r=>(Res.test X (.cmp .le r.1 (.lit (140737488355328 / (inf.bytes:Int))))).bind fun t=>
       if t then .ok (.own σ.length r.1 none,σ++[some ([.vec sh (r.2 (.lit 0)) r.1 false],aU+e)]) else .fail 360
     | .own id n cap=>match σ[id]? with
      |some (some ([.vec sh' C n' _],T))=>
       if decide (T=aU+e) && decide (sh'=sh) && E.eqb n n' then (aSo X sh x σ).bind fun r=>lE (E.mkOp .add n r.1) fun n1=>(Res.test X (.cmp .le n1 (.lit (140737488355328 / (inf.bytes:Int))))).bind fun t=>
        if t then (if aBL X n cap && aKu X r.1 then .ok (.own σ.length n1 none,σ++[some ([.vec sh (r.2 C) n1 false],aU+e)])
         else .ok (.own σ.length n1 cap,σ.set id none++[some ([.vec sh (r.2 C) n1 false],aU+e)])) else .fail 360
       else .fail 361
      |_ => .fail 362
     |_ => .fail 363
    |none,some inf=>match s with
     | .own _ _ _=>match vC X e inf s x σ with
      | .fail _=>vJ X e inf s x σ
      |r=>r
     |_=>vF gl e inf s x σ
    |_,_ => .fail 364
   |_ => .fail 365
  else .fail 366
 |_ => .fail 367
theorem aEA (hX:X.Ok ρ) {α:aV} {σ σ':aM} {w:World} {ts:Array TypeId} {ty:TypeId} {l x s:SV} {lv xv:Value} (h:aC2 P X gl ts l x σ = .ok (s,σ')) (hW:RelW X.G ρ gl α σ w) (rl:SV.R X.G ρ α l lv) (rx:SV.R X.G ρ α x xv):
  ∃ v w' α',(Builtin.append_ ts ty #[lv,xv]).run P w = .ok v w'∧SV.R X.G ρ α' s v∧RelW X.G ρ gl α' σ' w'∧Ext σ.length σ σ' α α' w w':=by
 unfold aC2 at h
 split at h
 case h_2=>cases h
 rename_i t t' hts
 have hts:ts=#[t,t']:=by apply Array.ext';rw[hts]
 split at h
 case isFalse=>cases h
 rename_i hg
 simp only[Bool.and_eq_true,decide_eq_true_eq,List.all_eq_true]at hg
 obtain⟨rfl,hgl⟩:=hg
 subst hts
 split at h
 case h_2=>cases h
 rename_i e hu
 split at h
 case h_3=>cases h
 case h_2=>
  rename_i inf hsh hinf
  split at h
  ·split at h
   ·exact aAz hX hu hinf hgl h hW rl rx
   ·exact aAy hX hu hinf hgl h hW rl rx
  ·exact aAB hu hinf hgl h hW rl rx
 rename_i sh inf hsh hinf
 obtain⟨i,z,hi,hz,hzc,hsz,hw,hb0⟩:=tW hsh
 rw[hinf]at hi;cases hi
 have hT:aU≤aU+e:=Nat.le_add_right _ _
 have small:∀ n:Int,0≤n→n≤140737488355328 / (inf.bytes:Int)→n.toNat*inf.bytes≤140737488355328∧n.toNat≤4611686018427387904:=by
  intro n h0 hn
  have hbp:(0:Int)<inf.bytes:=by omega
  have h1:=Int.mul_le_mul_of_nonneg_right hn (show (0:Int)≤inf.bytes by omega)
  have h2:140737488355328 / (inf.bytes:Int)*inf.bytes≤140737488355328:=Int.ediv_mul_le _ (by omega)
  have h3:=Int.ediv_le_self (a:=140737488355328) (inf.bytes:Int) (by omega)
  refine⟨?_,by omega⟩
  have h4:((n.toNat*inf.bytes:Nat):Int)=n*inf.bytes:=by rw[Int.natCast_mul,Int.toNat_of_nonneg h0]
  omega
 split at h
 ·
  replace h:=Res.bind_ok h;obtain⟨r,hr,h⟩:=h
  obtain⟨m,f⟩:=r
  replace h:=Res.bind_ok h;obtain⟨t1,ht,h⟩:=h
  have ht:=Res.test_ok hX ht
  split at h
  case isFalse=>cases h
  rename_i ht1
  subst ht1
  cases h
  replace ht:m.den X.G ρ≤140737488355328 / (inf.bytes:Int):=of_decide_eq_true ht
  obtain⟨M,hM1,hM2,hM3⟩:=aEz hX hw hr hW rx
  simp only[SV.R]at rl
  subst rl
  have hsm:=small _ (by omega) ht
  have hm:(m.den X.G ρ).toNat=M.length:=by omega
  rw[hm]at hsm
  obtain⟨v',w',b',q1,q2,q3,q4,q5,q6,q7,q8,q9,_,q11⟩:=wF (ty:=ty) w hu hinf hz hsz hzc hw (b:=⟨0,0,true,0⟩) (v := .slice none 0 0) (L:=[]) (ex:=false) rfl (.inl ⟨rfl,rfl,rfl⟩) rfl (.inl rfl) hM3 (by simpa using hsm.1) (by simpa using hsm.2)
  obtain⟨α',a1,a2,a3⟩:=nG (b:=⟨0,0,true,0⟩) (T:=aU+e) hW (.inl ⟨rfl,rfl⟩) hgl q2 q3 q4 q5 (fun k hk hk'=>q6 k hk hk') q9 (fR.obj hT q11 hw (by rw[zH];exact q8)) (aEl (C:=f (.lit 0)) (n:=m) (by rw[hM2];simp only[E.den,Lc.dec_zero]) (by simpa using hM1))
  refine⟨v',w',α',q1,?_,a2,a3⟩
  have hle:=fR.le hw q8
  simp only[SV.R]
  refine⟨b',a1,by omega,?_,?_,?_,fun e he _=>by cases he⟩
  ·rw[q7,hm,q11];rfl
  ·intro hn
   rcases q8 with⟨_,z1,z2⟩|⟨z1,_⟩
   ·simp only[List.nil_append]at z1;rw[z1]at hM1;exact⟨hM1.symm,z2⟩
   ·rw[hn]at z1;cases z1
  ·simp only[List.nil_append]at hle;omega
 ·rename_i id n cap
  split at h
  case h_2=>cases h
  rename_i sh' C n' ex T hs
  split at h
  case isFalse=>cases h
  rename_i hg
  simp only[Bool.and_eq_true,decide_eq_true_eq]at hg
  obtain⟨⟨rfl,rfl⟩,hnn⟩:=hg
  have hnn:=E.eqb_eq _ _ hnn
  subst hnn
  replace h:=Res.bind_ok h;obtain⟨r,hr,h⟩:=h
  obtain⟨m,f⟩:=r
  rw[vR]at h
  replace h:=Res.bind_ok h;obtain⟨t1,ht,h⟩:=h
  have ht:=Res.test_ok hX ht
  split at h
  case isFalse=>cases h
  rename_i ht1
  subst ht1
  replace ht:(E.mkOp .add n m).den X.G ρ≤140737488355328 / (inf.bytes:Int):=of_decide_eq_true ht
  have hn1:(E.mkOp .add n m).den X.G ρ=n.den X.G ρ+m.den X.G ρ:=by rw[E.mkOp_den];rfl
  obtain⟨M,hM1,hM2,hM3⟩:=aEz hX hw hr hW rx
  simp only[SV.R]at rl
  obtain⟨b,hb,h0,rfl,hnil,hle0,hcap⟩:=rl
  obtain⟨b2,hb2,hb20,_,hlen,hv⟩:=aF8 hW hs hT
  rw[hb]at hb2;cases hb2
  rw[zH]at hv
  rw[hb20]
  obtain⟨L,hL⟩:∃ L,L=Lc.dec (C.den X.G ρ):=⟨_,rfl⟩
  rw[←hL]at hlen hv
  have hsm:=small _ (by omega) ht
  have hln:(n.den X.G ρ).toNat=L.length:=by omega
  have hlm:((E.mkOp .add n m).den X.G ρ).toNat=L.length+M.length:=by omega
  rw[hlm]at hsm
  split at h
  ·rename_i hf
   cases h
   simp only[Bool.and_eq_true]at hf
   obtain⟨hf1,hf2⟩:=hf
   obtain⟨c0,hc0,hnc⟩:=aDL (ρ:=ρ) hX hf1
   have hm1:(1:Int)≤m.den X.G ρ:=aIF hX hf2
   have hbc:=hcap c0 hc0 (by omega)
   obtain⟨v',w',b',q1,q2,q3,q4,q5,q6,q7,q8,q9,q10,q11,q12⟩:=aBK (ty:=ty) w hu hinf hz hsz hzc hw (b:=b) (v:=if b.nil=true then .slice none 0 0 else .slice (some ⟨b.blk,0,none⟩) (n.den X.G ρ).toNat b.cap) (L:=L) (ex:=ex) (by rw[hln]) hv hM3 hsm.1 hsm.2 (by omega)
   obtain⟨α',a1,a2,a3⟩:=nG (b:=⟨0,0,true,0⟩) (b':=b') (T:=aU+e) hW (.inl ⟨rfl,rfl⟩) hgl q2 q3 q4 q5 (fun k hk _=>q6 k hk) (.inr ⟨q10,.inl q11⟩) (fR.obj hT q12 hw (by rw[zH];exact q8)) (aEl (C:=f C) (n:=E.mkOp .add n m) (by rw[hM2,←hL]) (by rw[hn1,List.length_append];omega))
   refine⟨v',w',α',q1,?_,a2,a3⟩
   have hle:=fR.le hw q8
   rw[List.length_append]at hle
   simp only[SV.R]
   refine⟨b',a1,by omega,?_,fun z=>(by rw[q9]at z;cases z),by omega,fun e he _=>by cases he⟩
   rw[q7,q9,hlm,List.length_append,q12]
   rfl
  cases h
  obtain⟨v',w',b',q1,q2,q3,q4,q5,q6,q7,q8,q9,q10,q11⟩:=wF (ty:=ty) w hu hinf hz hsz hzc hw (b:=b) (v:=if b.nil=true then .slice none 0 0 else .slice (some ⟨b.blk,0,none⟩) (n.den X.G ρ).toNat b.cap) (L:=L) (ex:=ex) (by rw[hln]) hv hb20 (hW.dom id b hb).2 hM3 hsm.1 hsm.2
  obtain⟨α',a1,a2,a3⟩:=nG (b:=b) (T:=aU+e) hW (.inr ⟨id,hb,⟨_,hs,aAk hT⟩,rfl⟩) hgl q2 q3 q4 q5 q6 q9 (fR.obj hT q11 hw (by rw[zH];exact q8)) (aEl (C:=f C) (n:=E.mkOp .add n m) (by rw[hM2,←hL]) (by rw[hn1,List.length_append];omega))
  refine⟨v',w',α',q1,?_,a2,a3⟩
  have hle:=fR.le hw q8
  rw[List.length_append]at hle
  simp only[SV.R]
  refine⟨b',a1,by omega,?_,?_,by omega,?_⟩
  ·rw[q7,hlm,List.length_append,q11]
  ·intro hn
   rcases q8 with⟨_,z1,z2⟩|⟨z1,_⟩
   ·have:=congrArg List.length z1
    rw[List.length_append]at this
    simp only[List.length_nil]at this
    exact⟨by omega,z2⟩
   ·rw[hn]at z1;cases z1
  ·intro c hc hle
   rw[hn1]at hle
   have hbc:=hcap c hc (by omega)
   rw[q10 (by omega)];exact hbc
 ·cases h
end
end Sx
end Go.Proofs.Ytdldallkeheciaa
namespace Go.Proofs.Ytdldallkeheciaa
namespace Sx
open Go Go.RowKit
def rC (σ:aM) (r:Res SV):Res (SV × aM):=r.bind fun s => .ok (s,σ)
def aFf (P:Program) (t:TypeId) (f:Nat) (id w:Nat) (i:E) (j:Nat):Res SV:=
 match P.underlying t with
 |some (.struct fs)=>match fs[f]? with
  |some fl=>match P.info? fl.type with
   |some inf=>if decide (inf.size=0) then .fail 370 else .ok (.vptr id w i (j+fl.offset))
   |none => .fail 371
  |none => .fail 372
 |_ => .fail 373
def aN2 (P:Program) (cap:Bool) (t:TypeId) (x:SV):Option (Res SV):=
 match x with
 | .own _ n c=>match P.underlying t with
  |some (.slice _)=>some (if cap then (match aHI n c with|some e => .ok (.int .i64 e)|none => .fail 374) else .ok (.int .i64 n))
  |_=>none
 | .vsl _ _ _ n c=>match P.underlying t with
  |some (.slice _)=>some (if cap then (match c with|some e => .ok (.int .i64 e)|none => .fail 374) else .ok (.int .i64 n))
  |_=>none
 | .text n=>match P.underlying t with
  |some .string=>if cap then none else some (.ok (.int .i64 n))
  |_=>none
 |_=>none
def kB (P:Program) (X:Ctx) (gl:List (Nat × Nat)) (ev:Operand→SV) (σ:aM) (o:Oper):Option (Res (SV × aM)):=
 match o.op with
 | .load t x=>match ev x with
  | .vptr id w i j=>some (rC σ (aLV P X t id w i j σ))
  |_=>none
 | .store t x v=>match ev x with
  | .vptr id w i j=>some ((aFC P X t id w i j (ev v) σ).bind fun σ' => .ok (.tuple [],σ'))
  |_=>none
 | .indexAddr t x i=>(oF P X t (ev x) (ev i)).map (rC σ)
 | .fieldAddr t x f=>match ev x with
  | .vptr id w i j=>some (rC σ (aFf P t f id w i j))
  |_=>none
 | .slice t x lo hi mx=>(aFE P X t (ev x) (lo.map ev) (hi.map ev) (mx.map ev)).map (rC σ)
 | .nilCheck x=>match ev x with
  | .vptr id w i j=>some (.ok (.vptr id w i j,σ))
  |_=>none
 | .makeSlice t l c=>aEf P X t (ev l) (ev c) σ
 | .call { callee := .builtin b,args,argTypes }=>match b with
  | .len=>match argTypes[0]?,args.toList with
   |some t,x::_=>(aN2 P false t (ev x)).map (rC σ)
   |_,_=>none
  | .cap=>match argTypes[0]?,args.toList with
   |some t,x::_=>(aN2 P true t (ev x)).map (rC σ)
   |_,_=>none
  | .append=>match args.toList with
   |[s,x]=>some (aC2 P X gl argTypes (ev s) (ev x) σ)
   |_=>none
  |_=>none
 |_=>none
def rJ (P:Program) (X:Ctx) (gl:List (Nat × Nat)) (ev:Operand→SV) (σ:aM) (o:Oper):Res (SV × aM):=
 match kB P X gl ev σ o with
 |some r=>r
 |none=>pN P X ev σ o
section
variable {ρ:Nat→Int} {P:Program} {X:Ctx} {gl:List (Nat × Nat)}
theorem aFo (hX:X.Ok ρ) {α:aV} {t:TypeId} {x s:SV} {xv:Value} {lo hi mx:Option SV} {lv hv mv:Option Value} {r:Res SV} (h0:aFE P X t x lo hi mx=some r) (h:r = .ok s) (rx:SV.R X.G ρ α x xv)
  (hl:lv.isSome=lo.isSome) (hlr:∀ s x,lo=some s→lv=some x→SV.R X.G ρ α s x) (hh:hv.isSome=hi.isSome) (hhr:∀ s x,hi=some s→hv=some x→SV.R X.G ρ α s x) (hm:mv.isSome=mx.isSome) (hmr:∀ s x,mx=some s→mv=some x→SV.R X.G ρ α s x) (w:World):
  ∃ v,(Instr.sliceAt t xv lv hv mv).run P w = .ok v w∧SV.R X.G ρ α s v:=by
 unfold aFE at h0
 split at h0
 ·rename_i id n cap
  cases h0
  split at h
  case h_2=>cases h
  rename_i el hu
  split at h
  case h_2=>cases h
  rename_i inf hinf
  refine uA hX h hu hinf ?_ hl hlr hh hhr hm hmr w
  simp only[SV.R]at rx ⊢
  obtain⟨b,hb,h0,rfl,hnil,hle,hcap⟩:=rx
  refine⟨b,hb,h0,Int.le_refl _,?_⟩
  cases q:b.nil
  ·refine .inr ⟨rfl,b.cap,?_,by omega,fun e he=>hcap e (kW (G:=X.G) (ρ:=ρ) he).1 (kW he).2⟩
   simp [E.den]
  ·obtain⟨z1,z2⟩:=hnil q
   refine .inl ⟨z1,none,0,rfl,.inr ⟨rfl,?_⟩⟩
   intro e he
   have:=hcap e (kW (G:=X.G) (ρ:=ρ) he).1 (kW he).2
   omega
 ·rename_i id wd off n cap
  cases h0
  split at h
  case h_2=>cases h
  rename_i el hu
  split at h
  case h_2=>cases h
  rename_i inf hinf
  split at h
  case isFalse=>cases h
  rename_i hw
  simp only[decide_eq_true_eq]at hw
  subst hw
  exact uA hX h hu hinf rx hl hlr hh hhr hm hmr w
 ·cases h0
theorem aDs {α:aV} {t ty:TypeId} {x s:SV} {v:Value} {vs:List Value} {ts:Array TypeId} {c:Bool} {r:Res SV} (h0:aN2 P c t x=some r) (h:r = .ok s) (ht:ts[0]?=some t) (rx:SV.R X.G ρ α x v) (w:World):
  ∃ u,(if c then Builtin.cap_ ts ty (v::vs).toArray else Builtin.len_ ts ty (v::vs).toArray).run P w = .ok u w∧SV.R X.G ρ α s u:=by
 have hv0:(v::vs).toArray[0]?=some v:=by simp
 have key:∀ (a:Option Addr) (n m:Nat) (e:TypeId),v = .slice a n m→P.underlying t=some (.slice e)→(if c then Builtin.cap_ ts ty (v::vs).toArray else Builtin.len_ ts ty (v::vs).toArray).run P w = .ok (.int .i64 (if c then (m:Int) else (n:Int))) w:=by
  intro a n m e hv hu
  subst hv
  cases c
  ·simp [Builtin.len_,ht,run_underlying hu,goInt]
  ·simp [Builtin.cap_,ht,run_underlying hu,goInt]
 unfold aN2 at h0
 split at h0
 ·rename_i id n cap
  split at h0
  case h_2=>cases h0
  rename_i e hu
  cases h0
  simp only[SV.R]at rx
  obtain⟨b,hb,h1,hv,hnil,hle,hcap⟩:=rx
  obtain⟨a,m,hv',hm⟩:∃ a m,v = .slice a (n.den X.G ρ).toNat m∧m=b.cap:=by
   cases q:b.nil
   ·rw[q]at hv;exact⟨_,_,hv,rfl⟩
   ·rw[q]at hv
    obtain⟨z1,z2⟩:=hnil q
    exact⟨none,0,by rw[hv,z1];rfl,z2.symm⟩
  refine⟨_,key a _ m e hv' hu,?_⟩
  cases c
  ·simp only[Bool.false_eq_true,if_false]at h ⊢
   cases h
   simp only[SV.R];congr 1;omega
  ·simp only[if_true]at h ⊢
   split at h
   ·rename_i e0 he0
    cases h
    simp only[SV.R];rw[hm,hcap e0 (kW (G:=X.G) (ρ:=ρ) he0).1 (kW he0).2]
   ·cases h
 ·rename_i id wd off n cap
  split at h0
  case h_2=>cases h0
  rename_i e hu
  cases h0
  simp only[SV.R]at rx
  obtain⟨b,hb,h1,h2,hv⟩:=rx
  obtain⟨a,m,hv',hm⟩:∃ (a:Option Addr) (m:Nat),v = .slice a (n.den X.G ρ).toNat m∧∀ e,cap=some e→(m:Int)=e.den X.G ρ:=by
   rcases hv with⟨q1,a,c0,rfl,q2⟩|⟨_,c0,rfl,_,q2⟩
   ·refine⟨a,c0,by rw[q1];rfl,?_⟩
    intro e he
    rcases q2 with q2|⟨q2,q3⟩
    ·rw[he]at q2;cases q2
    ·rw[q3 e he,q2];rfl
   ·exact⟨_,c0,rfl,q2⟩
  refine⟨_,key a _ m e hv' hu,?_⟩
  cases c
  ·simp only[Bool.false_eq_true,if_false]at h ⊢
   cases h
   simp only[SV.R];congr 1;omega
  ·simp only[if_true]at h ⊢
   split at h
   ·rename_i e0
    cases h
    simp only[SV.R];rw[hm e0 rfl]
   ·cases h
 ·rename_i n
  split at h0
  case h_2=>cases h0
  rename_i hu
  cases c
  ·simp only[Bool.false_eq_true,if_false]at h0
   cases h0
   cases h
   simp only[SV.R]at rx
   obtain⟨b,rfl,hb⟩:=rx
   exact⟨.int .i64 b.size,by simp [Builtin.len_,ht,run_underlying hu,goInt],by simp only[SV.R];rw[hb]⟩
  ·simp at h0
 ·cases h0
theorem aIS (hX:X.Ok ρ) {α:aV} {σ σ':aM} {w:World} {ev:Operand→SV} {ea:Operand→Value} {o:Oper} {s:SV} {r:Res (SV × aM)} (h0:kB P X gl ev σ o=some r) (h:r = .ok (s,σ')) (hW:RelW X.G ρ gl α σ w)
  (hop:∀ x,x ∈ o.op.operands→SV.R X.G ρ α (ev x) (ea x)):eX P X ρ gl α σ σ' w s (execOp ea o):=by
 obtain⟨dst,op,type,pos,after,guard⟩:=o
 simp only[kB]at h0
 cases op<;>simp only[Op.operands]at hop<;>(try simp only at h0)<;>first|(cases h0;done)|skip
 case load t x=>
  have rx:=hop x (by simp)
  split at h0
  case h_2=>cases h0
  rename_i id wd i j he
  cases h0
  rw[he]at rx
  refine eX.pure hW h ?_
  intro hl
  obtain⟨v,hv,rv⟩:=aIB hX hl hW rx
  exact⟨v,by simp [hv],rv⟩
 case store t x v=>
  have rx:=hop x (by simp)
  split at h0
  case h_2=>cases h0
  rename_i id wd i j he
  cases h0
  rw[he]at rx
  obtain⟨σ2,h2,h⟩:=Res.bind_ok h
  cases h
  obtain⟨w',h3,h4,h5⟩:=aFy hX h2 hW rx (hop v (by simp))
  exact⟨undef,w',α,.inr ⟨by simp [execOp,h3],rfl⟩,by simp only[SV.R];exact⟨[],rfl,bC⟩,h4,h5⟩
 case indexAddr t x i=>
  obtain⟨q,hq,rfl⟩:=Option.map_eq_some_iff.1 h0
  refine eX.pure hW h ?_
  intro hb
  exact aAg hX hq hb (hop x (by simp)) (hop i (by simp)) w
 case fieldAddr t x f=>
  have rx:=hop x (by simp)
  split at h0
  case h_2=>cases h0
  rename_i id wd i j he
  cases h0
  rw[he]at rx
  simp only[SV.R]at rx
  obtain⟨b,hb,hn,hi,rx⟩:=rx
  refine eX.pure hW h ?_
  intro hl
  unfold aFf at hl
  split at hl
  case h_2=>cases hl
  rename_i fs hu
  split at hl
  case h_2=>cases hl
  rename_i fl hf
  split at hl
  case h_2=>cases hl
  rename_i inf hinf
  split at hl
  ·cases hl
  rename_i hz
  simp only[decide_eq_true_eq]at hz
  cases hl
  refine⟨.pointer (some ⟨b.blk,b.base+((i.den X.G ρ).toNat*wd+j)+fl.offset,none⟩),?_,by simp only[SV.R];exact⟨b,hb,hn,hi,by rw[Nat.add_assoc,Nat.add_assoc]⟩⟩
  simp [Instr.fieldAt,rx,run_underlying hu,hf,Instr.sureAddr,fieldPlace,sizeOf,typeInfo,hinf,hz,cI]
 case slice t x lo hi mx=>
  obtain⟨q,hq,rfl⟩:=Option.map_eq_some_iff.1 h0
  refine eX.pure hW h ?_
  intro hb
  refine aFo hX hq hb (hop x (by simp)) (by simp) ?_ (by simp) ?_ (by simp) ?_ w
  ·intro s v hs hv
   cases lo with
   |none=>cases hs
   |some l=>cases hs;cases hv;exact hop l (by simp)
  ·intro s v hs hv
   cases hi with
   |none=>cases hs
   |some l=>cases hs;cases hv;exact hop l (by simp)
  ·intro s v hs hv
   cases mx with
   |none=>cases hs
   |some l=>cases hs;cases hv;exact hop l (by simp)
 case nilCheck x=>
  have rx:=hop x (by simp)
  split at h0
  case h_2=>cases h0
  rename_i id wd i j he
  cases h0
  cases h
  rw[he]at rx
  have rx':=rx
  simp only[SV.R]at rx'
  obtain⟨b,hb,_,_,rx'⟩:=rx'
  exact eX.here hW (v:=ea x) (by simp [execOp,rx']) rx
 case makeSlice t l c=>
  obtain⟨v,w',α',h1,h2,h3,h4⟩:=aIL hX h0 h hW (hop l (by simp)) (hop c (by simp))
  exact⟨v,w',α',.inl (by simp [execOp,h1]),h2,h3,h4⟩
 case call c=>
  obtain⟨callee,args,argTypes⟩:=c
  cases callee with
  |value f=>cases h0
  |invoke r m=>cases h0
  |builtin b=>
   have hargs:∀ p,p ∈ args.toList→SV.R X.G ρ α (ev p) (ea p):=fun p hp=>hop p (by simp [Call.operands]at *;exact hp)
   have harr:args.map ea=(args.toList.map ea).toArray:=by rw[←Array.toList_map]
   cases b<;>(try simp only at h0)<;>first|(cases h0;done)|skip
   case append=>
    split at h0
    case h_2=>cases h0
    rename_i l x hx
    cases h0
    rw[hx]at harr
    simp only[List.map_cons,List.map_nil]at harr
    have e:execOp ea { dst:=dst,op := .call { callee := .builtin .append,args:=args,argTypes:=argTypes },type:=type,pos:=pos,after:=after,guard:=guard }=(do pure (.value (←Builtin.append_ argTypes type (args.map ea))):Sem Next):=rfl
    rw[e,harr]
    obtain⟨v,w',α',h1,h2,h3,h4⟩:=aEA (ty:=type) hX h hW (hargs l (by rw[hx];simp)) (hargs x (by rw[hx];simp))
    exact⟨v,w',α',.inl (by simp [h1]),h2,h3,h4⟩
   case cap=>
    split at h0
    case h_2=>cases h0
    rename_i t x rest ht hx
    obtain⟨q,hq,rfl⟩:=Option.map_eq_some_iff.1 h0
    rw[hx]at harr
    simp only[List.map_cons]at harr
    have rx:=hargs x (by rw[hx];simp)
    have e:execOp ea { dst:=dst,op := .call { callee := .builtin .cap,args:=args,argTypes:=argTypes },type:=type,pos:=pos,after:=after,guard:=guard }=(do pure (.value (←Builtin.cap_ argTypes type (args.map ea))):Sem Next):=rfl
    rw[e,harr]
    refine eX.pure hW h ?_
    intro hb
    exact aDs (c:=true) (ty:=type) (vs:=rest.map ea) hq hb ht rx w
   case len=>
    split at h0
    case h_2=>cases h0
    rename_i t x rest ht hx
    obtain⟨q,hq,rfl⟩:=Option.map_eq_some_iff.1 h0
    rw[hx]at harr
    simp only[List.map_cons]at harr
    have rx:=hargs x (by rw[hx];simp)
    have e:execOp ea { dst:=dst,op := .call { callee := .builtin .len,args:=args,argTypes:=argTypes },type:=type,pos:=pos,after:=after,guard:=guard }=(do pure (.value (←Builtin.len_ argTypes type (args.map ea))):Sem Next):=rfl
    rw[e,harr]
    refine eX.pure hW h ?_
    intro hb
    exact aDs (c:=false) (ty:=type) (vs:=rest.map ea) hq hb ht rx w
theorem aJl (hX:X.Ok ρ) {α:aV} {σ σ':aM} {w:World} {ev:Operand→SV} {ea:Operand→Value} {o:Oper} {s:SV} (h:rJ P X gl ev σ o = .ok (s,σ')) (hW:RelW X.G ρ gl α σ w)
  (hop:∀ x,x ∈ o.op.operands→SV.R X.G ρ α (ev x) (ea x)):eX P X ρ gl α σ σ' w s (execOp ea o):=by
 unfold rJ at h
 split at h
 ·rename_i r hr;exact aIS hX hr h hW hop
 ·exact aIc hX h hW hop
end
end Sx
end Go.Proofs.Ytdldallkeheciaa
