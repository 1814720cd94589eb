/- What is proved: operations on lists of rows (slices of structs of numbers,of whatever length),over closed data,are what the model does. No condition. -/
import Derived.Test.YthiehfhphgkaeaaQg1
import Derived.Laws.AppendOwn
import Derived.Laws.MakeOwn
set_option linter.unusedSimpArgs false
set_option linter.unusedVariables false
namespace Go.Proofs.Ythiehfhphgkaeaa
namespace Sx
open Go Go.RowKit
theorem fX (sh:List CK) (r:List Int):(dS sh r).length=sh.length:=by simp [dS]
theorem aU (sh:List CK):∀ L:List (List Int),(aH sh L).length=L.length*sh.length
 |[]=>by simp [aH]
 |r::L=>by
  have ih:=aU sh L
  unfold aH at ih ⊢
  simp only[List.flatMap_cons,List.length_append,fX,ih,List.length_cons,Nat.succ_mul]
  omega
theorem dM (sh:List CK) (L M:List (List Int)):aH sh (L++M)=aH sh L++aH sh M:=by simp [aH]
theorem aAS {sh:List CK} {r:List Int} {j:Nat} {c:CK} (h:sh[j]?=some c):(dS sh r)[j]?=some (c.mk (r.getD j 0)):=by
 unfold dS
 rw[List.getElem?_map,List.getElem?_zipIdx,h]
 simp
theorem dX {sh:List CK} {j:Nat} {c:CK} (h:sh[j]?=some c):∀ (L:List (List Int)) (i:Nat),i<L.length→(aH sh L)[i*sh.length+j]?=some (c.mk ((L.getD i []).getD j 0))
 |[],i,hi=>by simp at hi
 |r::L,0,_=>by
  have hj:j<sh.length:=(List.getElem?_eq_some_iff.1 h).1
  unfold aH
  simp only[List.flatMap_cons,Nat.zero_mul,Nat.zero_add]
  rw[List.getElem?_append_left (by rw[fX];exact hj),aAS h]
  rfl
 |r::L,i+1,hi=>by
  have ih:=dX h L i (by simpa using hi)
  unfold aH at ih ⊢
  simp only[List.flatMap_cons]
  rw[List.getElem?_append_right (by rw[fX,Nat.succ_mul];omega),fX,
   show (i+1)*sh.length+j-sh.length=i*sh.length+j by rw[Nat.succ_mul];omega,ih]
  rfl
theorem yB {sh:List CK} {L:List (List Int)} {i j:Nat} {r0:List Int} {vs:List Value} (hi:i<L.length) (hj:j+vs.length≤sh.length)
  (hin:∀ q v,vs[q]?=some v→∃ c,sh[j+q]?=some c∧v=c.mk (r0.getD (j+q) 0))
  (hout:∀ q,q<sh.length→(q<j∨j+vs.length≤q)→r0.getD q 0=(L.getD i []).getD q 0):
  aH sh (L.set i r0)=(aH sh L).take (i*sh.length+j)++vs++(aH sh L).drop (i*sh.length+j+vs.length):=by
 have hl:=aU sh L
 have hl2:=aU sh (L.set i r0)
 have hiw:i*sh.length+sh.length≤L.length*sh.length:=by
  have:=Nat.mul_le_mul_right sh.length (show i+1≤L.length by omega)
  rw[Nat.succ_mul]at this;exact this
 apply List.ext_getElem?
 intro p
 rcases Nat.lt_or_ge p (L.length*sh.length)with hp|hp
 ·have hw:0<sh.length:=by
   rcases Nat.eq_zero_or_pos sh.length with q|q
   ·rw[q]at hp;simp at hp
   ·exact q
  obtain⟨a,ha⟩:∃ a,a=p / sh.length:=⟨_,rfl⟩
  obtain⟨c,hc⟩:∃ c,c=p % sh.length:=⟨_,rfl⟩
  have hcw:c<sh.length:=by rw[hc];exact Nat.mod_lt _ hw
  have hpe:p=a*sh.length+c:=by
   have:=Nat.div_add_mod p sh.length
   rw[←ha,←hc,Nat.mul_comm]at this;omega
  have haL:a<L.length:=by rw[ha];exact Nat.div_lt_of_lt_mul (by rw[Nat.mul_comm];exact hp)
  obtain⟨k,hk⟩:∃ k,sh[c]?=some k:=⟨sh[c],by simp [hcw]⟩
  have e1:(aH sh (L.set i r0))[p]?=some (k.mk (((L.set i r0).getD a []).getD c 0)):=by
   rw[hpe];exact dX hk _ _ (by simpa using haL)
  have e2:(aH sh L)[p]?=some (k.mk ((L.getD a []).getD c 0)):=by
   rw[hpe];exact dX hk _ _ haL
  have lt:((aH sh L).take (i*sh.length+j)).length=i*sh.length+j:=by rw[List.length_take,hl];omega
  rw[e1]
  by_cases hai:a=i
  ·subst hai
   have e3:(L.set a r0).getD a []=r0:=by simp [List.getD,List.getElem?_set_self haL]
   rw[e3]
   by_cases h1:c<j
   ·rw[List.getElem?_append_left (by rw[List.length_append,lt];omega),List.getElem?_append_left (by rw[lt];omega),List.getElem?_take,if_pos (by omega),e2,hout c hcw (.inl h1)]
   ·by_cases h2:c<j+vs.length
    ·rw[List.getElem?_append_left (by rw[List.length_append,lt];omega),List.getElem?_append_right (by rw[lt];omega),lt]
     have hq:c-j<vs.length:=by omega
     have e4:p-(a*sh.length+j)=c-j:=by omega
     rw[e4]
     obtain⟨k',hk',hv⟩:=hin (c-j) vs[c-j] (by simp [hq])
     rw[show j+(c-j)=c by omega]at hk' hv
     rw[hk]at hk';cases hk'
     rw[List.getElem?_eq_getElem hq,hv]
    ·rw[List.getElem?_append_right (by rw[List.length_append,lt];omega),List.getElem?_drop,List.length_append,lt]
     rw[show a*sh.length+j+vs.length+(p-(a*sh.length+j+vs.length))=p by omega,e2,hout c hcw (.inr (by omega))]
  ·have e3:(L.set i r0).getD a []=L.getD a []:=by simp [List.getD,List.getElem?_set_ne (fun q=>hai q.symm)]
   rw[e3]
   rcases Nat.lt_or_ge a i with h1|h1
   ·have:=Nat.mul_le_mul_right sh.length (show a+1≤i by omega)
    rw[Nat.succ_mul]at this
    rw[List.getElem?_append_left (by rw[List.length_append,lt];omega),List.getElem?_append_left (by rw[lt];omega),List.getElem?_take,if_pos (by omega),e2]
   ·have:=Nat.mul_le_mul_right sh.length (show i+1≤a by omega)
    rw[Nat.succ_mul]at this
    rw[List.getElem?_append_right (by rw[List.length_append,lt];omega),List.getElem?_drop,List.length_append,lt]
    rw[show i*sh.length+j+vs.length+(p-(i*sh.length+j+vs.length))=p by omega,e2]
 ·rw[List.getElem?_eq_none (by rw[hl2];simpa using hp),List.getElem?_eq_none]
  simp only[List.length_append,List.length_take,List.length_drop,hl]
  omega
theorem aDt {α:Type} (L:List α) (i:Nat) (f:α→α) (d:α) (h:i<L.length):L.modify i f=L.set i (f (L.getD i d)):=by
 apply List.ext_getElem?
 intro k
 rw[List.getElem?_modify]
 by_cases e:i=k
 ·subst e
  rw[List.getElem?_set_self h]
  simp [List.getD,h]
 ·rw[List.getElem?_set_ne e]
  simp [e]
theorem wB (w j:Nat) (r row:List Int) (q:Nat) (hq:q<w):(Lc.rowPut w j r row).getD q 0=if j≤q∧q<j+r.length then r.getD (q-j) 0 else row.getD q 0:=by
 unfold Lc.rowPut
 rw[List.getD_eq_getElem?_getD,List.getElem?_map,List.getElem?_range hq]
 rfl
def EL.ofList:List E→EL
 |[] => .nil
 |e::l => .cons e (EL.ofList l)
theorem EL.ofList_den (G:Nat→List Int→Int) (ρ:Nat→Int):∀ l:List E,(EL.ofList l).den G ρ=l.map (E.den G ρ)
 |[]=>rfl
 |e::l=>by simp only[EL.ofList,EL.den,List.map_cons];rw[EL.ofList_den G ρ l]
def sA (C i:E) (j:Nat):CK→SV
 | .int k => .int k (.app (80+Lc.kNo k) (.cons C (.cons i (.cons (.lit j) .nil))))
 | .bool => .bool (.cmp .ne (.app 88 (.cons C (.cons i (.cons (.lit j) .nil)))) (.lit 0))
def aJx (X:Ctx) (c:CK) (s:SV):Option E:=
 match c,s with
 | .int k,.int q e=>if decide (k=q) && e.fits X k then some e else none
 | .bool,.bool b=>match b.dec X with
  |some r=>some (.lit (if r then 1 else 0))
  |none=>match b with
   | .cmp .ne e (.lit n)=>if n=0 then some e else none
   |_=>none
 |_,_=>none
def mR (X:Ctx):List CK→List SV→Option (List E)
 |[],[]=>some []
 |c::cs,s::ss=>match aJx X c s,mR X cs ss with
  |some e,some l=>some (e::l)
  |_,_=>none
 |_,_=>none
section
variable {ρ:Nat→Int} {P:Program} {X:Ctx} {gl:List (Nat × Nat)}
theorem aM9 (k:IntKind):Lc.kNo k<8:=by cases k<;>decide
theorem vM (hX:X.Ok ρ) {α:aR} (C i:E) (j:Nat) (c:CK):SV.R X.G ρ α (sA C i j c) (c.mk (Lc.rd (C.den X.G ρ) (i.den X.G ρ) j)):=by
 cases c with
 |int k=>
  have:=aM9 k
  simp only[sA,SV.R,CK.mk,E.den,EL.den]
  rw[hX.gi.lists _ _ (by omega) (by omega),Lc.fn_rd]
 |bool=>
  have e:E.den X.G ρ (.app 88 (.cons C (.cons i (.cons (.lit j) .nil))))=Lc.rd (C.den X.G ρ) (i.den X.G ρ) j:=by
   simp only[E.den,EL.den]
   rw[hX.gi.lists _ _ (by omega) (by omega)];rfl
  simp only[sA,SV.R,CK.mk,B.den,COp.den,e]
  congr 2
theorem aMb (hX:X.Ok ρ) {α:aR} {c:CK} {s:SV} {e:E} {v:Value} (h:aJx X c s=some e) (r:SV.R X.G ρ α s v):v=c.mk (e.den X.G ρ):=by
 unfold aJx at h
 split at h
 ·split at h
  ·rename_i hg
   simp only[Bool.and_eq_true,decide_eq_true_eq]at hg
   cases h
   simp only[SV.R]at r
   have:=E.fits_in hX hg.2
   rw[r,hg.1]
   simp only[CK.mk]
   rw[hg.1]at this
   rw[aAn _ _ this.1 this.2]
  ·cases h
 ·rename_i b
  simp only[SV.R]at r
  split at h
  ·rename_i t ht
   cases h
   rw[r,B.dec_eq hX _ ht]
   cases t<;>simp [CK.mk,E.den]
  ·split at h
   ·split at h
    ·rename_i hn
     cases h
     subst hn
     subst r
     simp only[CK.mk,B.den,COp.den]
     congr 2
    ·cases h
   ·cases h
 ·cases h
theorem vC (hX:X.Ok ρ) {α:aR}:∀ {sh:List CK} {l:List SV} {es:List E} {vs:List Value},mR X sh l=some es→SV.RL X.G ρ α l vs→vs=(sh.zip (es.map (E.den X.G ρ))).map (fun p=>p.1.mk p.2)∧es.length=sh.length
 |[],[],es,vs,h,r=>by
  simp only[mR]at h;cases h
  simp only[SV.RL]at r;subst r
  exact⟨rfl,rfl⟩
 |[],_::_,es,vs,h,r=>by simp [mR]at h
 |_::_,[],es,vs,h,r=>by simp [mR]at h
 |c::cs,s::ss,es,vs,h,r=>by
  simp only[mR]at h
  split at h
  ·rename_i e l he hl
   cases h
   simp only[SV.RL]at r
   obtain⟨v,vs',rfl,h2,h3⟩:=r
   obtain⟨q1,q2⟩:=vC hX hl h3
   refine⟨?_,by simp [q2]⟩
   rw[aMb hX he h2]
   simp only[List.map_cons,List.zip_cons_cons]
   rw[←q1]
  ·cases h
theorem aA4:∀ (sh:List CK) (r:List Int),r.length=sh.length→(sh.zip r).map (fun p=>p.1.mk p.2)=dS sh r:=by
 intro sh r h
 apply List.ext_getElem?
 intro j
 unfold dS
 simp only[List.getElem?_map,List.getElem?_zipIdx,List.getElem?_zip_eq_some,List.zip,List.getElem?_zipWith]
 cases hs:sh[j]? with
 |none=>simp
 |some c=>
  have hj:j<r.length:=by rw[h];exact(List.getElem?_eq_some_iff.1 hs).1
  simp [hj,List.getD]
end
end Sx
end Go.Proofs.Ythiehfhphgkaeaa
namespace Go.Proofs.Ythiehfhphgkaeaa
namespace Sx
open Go Go.RowKit
def eU (b:Loc) (x:Option Obj) (sh:List CK) (L:List (List Int)) (T:TypeId) (ex:Bool):Prop:=
 (b.nil=true∧L=[]∧b.cap=0)∨(b.nil=false∧∃ rest:List Value,x=some (.cells (aH sh L++rest).toArray T (0,0))∧(aH sh L++rest).length=b.cap*sh.length∧b.cap≤maxLen∧(ex=true→rest=[]))
def aLe (sh:List CK) (L:List (List Int)) (ex:Bool):Value := .tuple #[.agg (aH sh L).toArray,.int .i64 sh.length,.bool ex]
theorem eU.obj {b:Loc} {x:Option Obj} {sh:List CK} {L:List (List Int)} {T:TypeId} {ex:Bool} (hT:aS≤T) (h0:b.base=0) (hw:0<sh.length) (h:eU b x sh L (T-aS) ex):dW b x [aLe sh L ex] T:=by
 rw[cE hT]
 refine⟨h0,aH sh L,sh.length,ex,rfl,hw,?_⟩
 rcases h with⟨h1,rfl,h3⟩|h
 ·exact .inl ⟨h1,rfl,h3⟩
 ·exact .inr h
theorem eU.le {b:Loc} {x:Option Obj} {sh:List CK} {L:List (List Int)} {T:TypeId} {ex:Bool} (hw:0<sh.length) (h:eU b x sh L T ex):L.length≤b.cap:=by
 rcases h with⟨_,rfl,_⟩|⟨_,rest,_,h2,_⟩
 ·simp
 ·rw[List.length_append,aU]at h2
  exact Nat.le_of_mul_le_mul_right (by omega:L.length*sh.length≤b.cap*sh.length) hw
section
variable {ρ:Nat→Int} {P:Program} {X:Ctx} {gl:List (Nat × Nat)}
theorem aBZ {α:aR} {sh:List CK} {C n:E} {ex:Bool} {L:List (List Int)} (h1:Lc.dec (C.den X.G ρ)=L) (h2:(L.length:Int)=n.den X.G ρ):SV.RL X.G ρ α [.vec sh C n ex] [aLe sh L ex]:=by
 refine aV ?_ aZ
 simp only[SV.R]
 rw[h1]
 exact⟨rfl,h2⟩
theorem uB {α:aR} {σ:aG} {w:World} {id:Nat} {sh:List CK} {C n:E} {ex:Bool} {T:TypeId} (hW:RelW X.G ρ gl α σ w) (hs:σ[id]?=some (some ([.vec sh C n ex],T))) (hT:aS≤T):
  ∃ b,α id=some b∧b.base=0∧0<sh.length∧((Lc.dec (C.den X.G ρ)).length:Int)=n.den X.G ρ∧eU b w.heap[b.blk]? sh (Lc.dec (C.den X.G ρ)) (T-aS) ex:=by
 obtain⟨b,vs,h1,h2,h3⟩:=hW.blk id _ T hs
 rw[cE hT]at h2
 obtain⟨hb0,cells,w0,ex0,rfl,h4,h5⟩:=h2
 simp only[SV.RL,SV.R]at h3
 obtain⟨v,vs',e1,⟨e2,e3⟩,_⟩:=h3
 have e4:=(List.cons.inj e1).1
 rw[e2]at e4
 simp only[Value.tuple.injEq,Array.mk.injEq,List.cons.injEq,Value.agg.injEq,Value.int.injEq,Value.bool.injEq,and_true,true_and]at e4
 obtain⟨e5,e6,e7⟩:=e4
 have e6':w0=sh.length:=by omega
 subst e5;subst e6';subst e7
 refine⟨b,h1,hb0,h4,e3,?_⟩
 rcases h5 with⟨q1,q2,q3⟩|q
 ·refine .inl ⟨q1,?_,q3⟩
  have:=aU sh (Lc.dec (C.den X.G ρ))
  rw[q2]at this
  simp only[List.length_nil]at this
  have h0:(Lc.dec (C.den X.G ρ)).length=0:=by
   rcases Nat.eq_zero_or_pos (Lc.dec (C.den X.G ρ)).length with z|z
   ·exact z
   ·have:=Nat.mul_pos z h4;omega
  exact List.eq_nil_of_length_eq_zero h0
 ·exact .inr q
theorem xP {α:aR} {σ:aG} {w:World} {id:Nat} {sh:List CK} {C n:E} {ex:Bool} {T:TypeId} (hW:RelW X.G ρ gl α σ w) (hs:σ[id]?=some (some ([.vec sh C n ex],T))) (hT:(decide (aS≤T) ||vw T)=true):
  ∃ b,α id=some b∧0<sh.length∧((Lc.dec (C.den X.G ρ)).length:Int)=n.den X.G ρ∧
   ((b.nil=true∧Lc.dec (C.den X.G ρ)=[])∨(b.nil=false∧∃ (cs:Array Value) (T':TypeId) (fz:Nat × Nat),w.heap[b.blk]?=some (.cells cs T' fz)∧∀ (i:Nat) (v:Value),(aH sh (Lc.dec (C.den X.G ρ)))[i]?=some v→cs[b.base+i]?=some v)):=by
 obtain⟨b,vs,h1,h2,h3⟩:=hW.blk id _ T hs
 replace h2:jZ b w.heap[b.blk]? vs:=by
  rcases Bool.or_eq_true_iff.1 hT with q|q
  ·obtain⟨q1,q2⟩:=(cE (of_decide_eq_true q)).1 h2
   exact yL.view q1 q2
  ·exact(iJ q).1 h2
 obtain⟨cells,w0,ex0,rfl,h4,h5⟩:=h2
 simp only[SV.RL,SV.R]at h3
 obtain⟨v,vs',e1,⟨e2,e3⟩,_⟩:=h3
 have e4:=(List.cons.inj e1).1
 rw[e2]at e4
 simp only[Value.tuple.injEq,Array.mk.injEq,List.cons.injEq,Value.agg.injEq,Value.int.injEq,Value.bool.injEq,and_true,true_and]at e4
 obtain⟨e5,e6,e7⟩:=e4
 have e6':w0=sh.length:=by omega
 subst e5;subst e6';subst e7
 refine⟨b,h1,h4,e3,?_⟩
 rcases h5 with⟨q1,q2⟩|q
 ·refine .inl ⟨q1,?_⟩
  have:=aU sh (Lc.dec (C.den X.G ρ))
  rw[q2]at this
  simp only[List.length_nil]at this
  have h0:(Lc.dec (C.den X.G ρ)).length=0:=by
   rcases Nat.eq_zero_or_pos (Lc.dec (C.den X.G ρ)).length with z|z
   ·exact z
   ·have:=Nat.mul_pos z h4;omega
  exact List.eq_nil_of_length_eq_zero h0
 ·exact .inr q
def wW (C i:E) (sh:List CK) (j:Nat):List SV:=(sh.zipIdx j).map fun p=>sA C i p.2 p.1
def aDI (C i:E):E := .app 88 (.cons C (.cons i (.cons (.lit 0) .nil)))
def aH0 (C:E):E := .app 90 (.cons C .nil)
def aKT (P:Program) (t:TypeId) (sh:List CK) (C i:E) (j:Nat):Res SV:=
 match Program.isAggT P t with
 |some true=>match P.info? t with
  |some inf=>if decide (j+inf.size≤sh.length) then .ok (.agg (wW C i ((sh.drop j).take inf.size) j)) else .fail 300
  |none => .fail 301
 |some false=>match sh[j]? with
  |some c => .ok (sA C i j c)
  |none => .fail 302
 |none => .fail 303
def aIh (P:Program) (X:Ctx) (t:TypeId) (id w:Nat) (i:E) (j:Nat) (σ:aG):Res SV:=
 match σ[id]? with
 |some (some ([.vec sh C n _],T))=>
  if (decide (aS≤T) ||vw T) && decide (w=sh.length) then
   (Res.test X (.cmp .lt i n)).bind fun ok=>
    if ok then match Program.isAggT P t with
     |some true=>match P.info? t with
      |some inf=>if decide (j+inf.size≤w) then .ok (.agg (wW C i ((sh.drop j).take inf.size) j)) else .fail 300
      |none => .fail 301
     |some false=>match sh[j]? with
      |some c => .ok (sA C i j c)
      |none => .fail 302
     |none => .fail 303
    else .fail 304
  else .fail 305
 |some (some ([.tuple [.agg l,.int .i64 (.lit wd),.bool (.lit false)]],T))=>
  if decide (aS≤T) && decide ((w:Int)=wd) then
   (Res.num X i).bind fun k=>match Program.isAggT P t with
    |some false=>match l[k.toNat*w+j]? with
     |some s => .ok s
     |none => .fail 307
    |some true=>match P.info? t with
     |some inf=>if decide (k.toNat*w+j+inf.size≤l.length) then .ok (.agg ((l.drop (k.toNat*w+j)).take inf.size)) else .fail 308
     |none => .fail 308
    |none => .fail 308
  else .fail 309
 |some (some ([.lol id' sh C n],T))=>
  if decide (aS≤T) && decide (w=1) && decide (j=0) then
   (Res.test X (.cmp .lt i n)).bind fun ok=>
    if ok then match Program.isAggT P t with
     |some false => .ok (.fro id' sh (aDI C i) (aH0 (aDI C i)))
     |_ => .fail 310
    else .fail 311
  else .fail 312
 |_ => .fail 306
theorem xU (hX:X.Ok ρ) {α:aR} (C i:E):∀ (sh:List CK) (j:Nat),SV.RL X.G ρ α (wW C i sh j) ((sh.zipIdx j).map fun p=>p.1.mk (Lc.rd (C.den X.G ρ) (i.den X.G ρ) p.2))
 |[],j=>by simpa [wW]using aZ
 |c::sh,j=>by
  have ih:=xU hX (α:=α) C i sh (j+1)
  unfold wW at ih ⊢
  simp only[List.zipIdx_cons,List.map_cons]
  exact aV (vM hX C i j c) ih
theorem aHi (hX:X.Ok ρ) {α:aR} {σ:aG} {w:World} {t:TypeId} {id wd:Nat} {i:E} {j:Nat} {s:SV} {xv:Value} (h:aIh P X t id wd i j σ = .ok s) (hW:RelW X.G ρ gl α σ w) (rx:SV.R X.G ρ α (.vptr id wd i j) xv):
  ∃ v,(Instr.loadAt t xv).run P w = .ok v w∧SV.R X.G ρ α s v:=by
 unfold aIh at h
 split at h
 case h_4=>cases h
 case h_3=>
  rename_i id' sh C n T hs
  split at h
  case isFalse=>cases h
  rename_i hg
  simp only[Bool.and_eq_true,decide_eq_true_eq]at hg
  obtain⟨⟨hT,rfl⟩,rfl⟩:=hg
  obtain⟨ok,hok,h⟩:=Res.bind_ok h
  have hlt:=Res.test_ok hX hok
  cases ok
  case false=>simp at h
  simp only[if_true]at h
  simp only[B.den,COp.den,decide_eq_true_eq]at hlt
  split at h
  case h_2=>cases h
  rename_i ha
  cases h
  simp only[SV.R]at rx
  obtain⟨b,hb,hnil,hi0,rfl⟩:=rx
  obtain⟨b',vs,h1,h2,h3⟩:=hW.blk id _ T hs
  rw[hb]at h1;cases h1
  rw[cE hT]at h2
  obtain⟨hb0,cells,w0,ex0,rfl,h4,h5⟩:=h2
  simp only[SV.RL,SV.R]at h3
  obtain⟨v,vs',e1,⟨bl,hbl,cl,e2,hcl,hdl,hfro⟩,_⟩:=h3
  obtain⟨rfl,_⟩:=List.cons.inj e1
  have e7:cells=cl:=by
   have:=congrArg (fun x=>match x with | .tuple a=>a.toList.head?|_=>none) e2
   simpa using this
  subst e7
  rcases h5 with⟨q,_⟩|⟨_,rest,hcell,_⟩
  ·rw[hnil]at q;cases q
  obtain⟨k,hk⟩:∃ k:Nat,i.den X.G ρ=k:=⟨(i.den X.G ρ).toNat,by omega⟩
  have hkL:k<cells.length:=by omega
  have hF:=hfro k _ _ (List.getElem?_eq_getElem (by omega)) (List.getElem?_eq_getElem hkL)
  have hd:(aDI C i).den X.G ρ=((Lc.dec (C.den X.G ρ))[k]'(by omega)).getD 0 0:=by
   simp only[aDI,E.den,EL.den]
   rw[hX.gi.lists _ _ (by omega) (by omega)]
   show Lc.rd _ _ 0=_
   unfold Lc.rd Lc.row
   rw[hk]
   simp only[Int.toNat_natCast,Int.toNat_zero]
   congr 1
   rw[List.getD_eq_getElem?_getD,List.getElem?_eq_getElem (by omega)]
   rfl
  rw[←hd]at hF
  refine⟨cells[k],?_,?_⟩
  ·simp only[Instr.loadAt,Instr.sureAddr,loadVar,Sem.run_bind,Sem.run_pure,eB ha,Result.andThen_ok,Bool.false_eq_true,if_false,run_load]
   have hc:w.cell? ⟨b.blk,b.base+((i.den X.G ρ).toNat*1+0),none⟩=some cells[k]:=by
    rw[hb0,hk]
    simp only[World.cell?,hcell,Option.isSome_none,Bool.false_eq_true,if_false,List.getElem?_toArray]
    rw[List.getElem?_append_left (by simp;omega)]
    simp [List.getElem?_eq_getElem hkL]
   rw[hc]
  ·simp only[SV.R]
   refine⟨bl,hbl,?_,hF⟩
   have hl:(Lc.dec ((aDI C i).den X.G ρ)).length≤4611686018427387904:=by
    rcases hF with⟨q,_⟩|⟨_,_,_,_,_,_,q,_⟩
    ·rw[q];simp
    ·exact q
   simp only[aH0]
   rw[show E.den X.G ρ (.app 90 (.cons (aDI C i) .nil))=X.G 90 [(aDI C i).den X.G ρ]by simp only[E.den,EL.den]]
   rw[hX.gi.lists _ _ (by omega) (by omega)]
   exact(Lc.clip_of hl).symm
 case h_2=>
  rename_i l wi T hs
  split at h
  case isFalse=>cases h
  rename_i hg
  simp only[Bool.and_eq_true,decide_eq_true_eq]at hg
  obtain⟨hT,rfl⟩:=hg
  obtain⟨k,hk,h⟩:=Res.bind_ok h
  have hk:=Res.num_ok hX hk
  split at h
  case h_3=>cases h
  case h_2=>
   rename_i ha
   split at h
   case h_2=>cases h
   rename_i inf hinf
   split at h
   case isFalse=>cases h
   rename_i hle
   simp only[decide_eq_true_eq]at hle
   cases h
   simp only[SV.R]at rx
   obtain⟨b,hb,hnil,hi0,rfl⟩:=rx
   obtain⟨b',vs,h1,h2,h3⟩:=hW.blk id _ T hs
   rw[hb]at h1;cases h1
   rw[cE hT]at h2
   obtain⟨hb0,cells,w0,ex0,rfl,h4,h5⟩:=h2
   simp only[SV.RL,SV.R]at h3
   obtain⟨v,vs',e1,⟨cs',e2,v1,t1,e3,⟨cl,e4,hcl⟩,e5⟩,e6⟩:=h3
   subst e4 e3
   obtain⟨rfl,_⟩:=List.cons.inj e1
   have e7:cells=cl:=by
    have:=congrArg (fun x=>match x with | .tuple a=>a.toList.head?|_=>none) e2
    simpa using this
   subst e7
   rcases h5 with⟨q,_⟩|⟨_,rest,hcell,_⟩
   ·rw[hnil]at q;cases q
   have hcl2:=bP hcl
   refine⟨.agg ((cells.drop (k.toNat*wd+j)).take inf.size).toArray,?_,by simp only[SV.R];exact⟨_,rfl,gM _ (fW _ hcl)⟩⟩
   have hln:((cells.drop (k.toNat*wd+j)).take inf.size).length=inf.size:=by rw[List.length_take,List.length_drop];omega
   have:=run_loadCells_list (P:=P) w ⟨b.blk,b.base+((i.den X.G ρ).toNat*wd+j),none⟩ ((cells.drop (k.toNat*wd+j)).take inf.size) (by
    intro q v hv
    rw[bJ,hb0,Nat.zero_add,hk]
    rw[List.getElem?_take]at hv
    split at hv
    ·rw[List.getElem?_drop]at hv
     have h2:k.toNat*wd+j+q<cells.length:=(List.getElem?_eq_some_iff.1 hv).1
     simp only[World.cell?,hcell,Option.isSome_none,Bool.false_eq_true,if_false,List.getElem?_toArray]
     rw[List.getElem?_append_left h2,hv]
    ·cases hv)
   rw[hln]at this
   simp only[Instr.loadAt,Instr.sureAddr,loadVar,Sem.run_bind,Sem.run_pure,eB ha,Result.andThen_ok,if_true]
   simp [sizeOf,typeInfo,hinf,this]
  rename_i ha
  split at h
  case h_2=>cases h
  rename_i s' hl
  cases h
  simp only[SV.R]at rx
  obtain⟨b,hb,hnil,hi0,rfl⟩:=rx
  obtain⟨b',vs,h1,h2,h3⟩:=hW.blk id _ T hs
  rw[hb]at h1;cases h1
  rw[cE hT]at h2
  obtain⟨hb0,cells,w0,ex0,rfl,h4,h5⟩:=h2
  simp only[SV.RL,SV.R]at h3
  obtain⟨v,vs',e1,⟨cs',e2,v1,t1,e3,⟨cl,e4,hcl⟩,e5⟩,e6⟩:=h3
  subst e4 e3
  obtain⟨rfl,_⟩:=List.cons.inj e1
  have e7:cells=cl:=by
   have:=congrArg (fun x=>match x with | .tuple a=>a.toList.head?|_=>none) e2
   simpa using this
  subst e7
  rcases h5 with⟨q,_⟩|⟨_,rest,hcell,_⟩
  ·rw[hnil]at q;cases q
  obtain⟨v,hv,hr⟩:=mL hcl hl
  refine⟨v,?_,hr⟩
  simp only[Instr.loadAt,Instr.sureAddr,loadVar,Sem.run_bind,Sem.run_pure,eB ha,Result.andThen_ok,Bool.false_eq_true,if_false,run_load]
  rw[hb0,Nat.zero_add]
  have hc:w.cell? ⟨b.blk,(i.den X.G ρ).toNat*wd+j,none⟩=some v:=by
   rw[hk]
   have h2:k.toNat*wd+j<cells.length:=(List.getElem?_eq_some_iff.1 hv).1
   simp only[World.cell?,hcell,Option.isSome_none,Bool.false_eq_true,if_false,List.getElem?_toArray]
   rw[List.getElem?_append_left h2,hv]
  rw[hc]
 rename_i sh C n ex T hs
 split at h
 case isFalse=>cases h
 rename_i hg
 rw[Bool.and_eq_true]at hg
 obtain⟨hT,hg⟩:=hg
 simp only[decide_eq_true_eq]at hg
 subst hg
 obtain⟨ok,hok,h⟩:=Res.bind_ok h
 have hlt:=Res.test_ok hX hok
 cases ok
 case false=>simp at h
 simp only[if_true]at h
 simp only[B.den,COp.den,decide_eq_true_eq]at hlt
 simp only[SV.R]at rx
 obtain⟨b,hb,hnil,hi0,rfl⟩:=rx
 obtain⟨b',hb',hw,hlen,hv⟩:=xP hW hs hT
 rw[hb]at hb';cases hb'
 rcases hv with⟨q,_⟩|⟨_,cs,T',fz,hcell,hcs⟩
 ·rw[hnil]at q;cases q
 obtain⟨L,hL⟩:∃ L,L=Lc.dec (C.den X.G ρ):=⟨_,rfl⟩
 rw[←hL]at hcs hlen
 obtain⟨k,hk⟩:∃ k:Nat,i.den X.G ρ=k:=⟨(i.den X.G ρ).toNat,by omega⟩
 have hkL:k<L.length:=by omega
 have hrd:∀ q:Nat,Lc.rd (C.den X.G ρ) (i.den X.G ρ) q=(L.getD k []).getD q 0:=by
  intro q
  unfold Lc.rd Lc.row
  rw[hk,←hL]
  simp
 have hget:∀ (q:Nat) (c:CK),sh[q]?=some c→w.cell? ⟨b.blk,b.base+(k*sh.length+q),none⟩=some (c.mk ((L.getD k []).getD q 0)):=by
  intro q c hc
  simp only[World.cell?,hcell]
  have h1:=dX hc L k hkL
  simp only[Option.isSome_none,Bool.false_eq_true,if_false]
  rw[hcs _ _ h1]
 rw[hk]
 simp only[Int.toNat_natCast]
 split at h
 ·rename_i ha
  split at h
  ·rename_i inf hinf
   split at h
   ·rename_i hle
    simp only[decide_eq_true_eq]at hle
    cases h
    have hR:=xU hX (α:=α) C i ((sh.drop j).take inf.size) j
    simp only[hrd]at hR
    refine⟨.agg (((sh.drop j).take inf.size).zipIdx j |>.map fun p=>p.1.mk ((L.getD k []).getD p.2 0)).toArray,?_,by simp only[SV.R];exact⟨_,rfl,hR⟩⟩
    have hln:((((sh.drop j).take inf.size).zipIdx j).map fun p=>p.1.mk ((L.getD k []).getD p.2 0)).length=inf.size:=by simp;omega
    have:=run_loadCells_list (P:=P) w ⟨b.blk,b.base+(k*sh.length+j),none⟩ ((((sh.drop j).take inf.size).zipIdx j).map fun p=>p.1.mk ((L.getD k []).getD p.2 0)) (by
     intro q v hv
     rw[bJ]
     rw[List.getElem?_map,List.getElem?_zipIdx]at hv
     cases hq:((sh.drop j).take inf.size)[q]? with
     |none=>rw[hq]at hv;simp at hv
     |some c=>
      rw[hq]at hv
      simp only[Option.map_some,Option.some.injEq]at hv
      rw[List.getElem?_take]at hq
      split at hq
      ·rw[List.getElem?_drop]at hq
       rw[←hv,show b.base+(k*sh.length+j)+q=b.base+(k*sh.length+(j+q))by omega]
       exact hget (j+q) c hq
      ·cases hq)
    rw[hln]at this
    simp only[Instr.loadAt,Instr.sureAddr,loadVar,Sem.run_bind,Sem.run_pure,eB ha,Result.andThen_ok,if_true]
    simp [sizeOf,typeInfo,hinf,this]
   ·cases h
  ·cases h
 ·rename_i ha
  split at h
  ·rename_i c hc
   cases h
   refine⟨c.mk ((L.getD k []).getD j 0),?_,by rw[←hrd];exact vM hX C i j c⟩
   simp only[Instr.loadAt,Instr.sureAddr,loadVar,Sem.run_bind,Sem.run_pure,eB ha,Result.andThen_ok,Bool.false_eq_true,if_false,run_load]
   rw[hget j c hc]
  ·cases h
 ·cases h
theorem aHn (hX:X.Ok ρ) {α:aR} {σ:aG} {w:World} {t:TypeId} {id:Nat} {sh:List CK} {C i:E} {j:Nat} {s:SV} {xv:Value} (h:aKT P t sh C i j = .ok s) (hW:RelW X.G ρ gl α σ w) (rx:SV.R X.G ρ α (.fptr id sh C i j) xv):
  ∃ v,(Instr.loadAt t xv).run P w = .ok v w∧SV.R X.G ρ α s v:=by
 simp only[SV.R]at rx
 obtain⟨b,hb,k0,base,vs,rfl,hi0,hil,hsub,hvs⟩:=rx
 obtain⟨_,_,T',fz,hcell⟩:=hW.sub id b k0 vs hb hsub
 obtain⟨L,hL⟩:∃ L,L=Lc.dec (C.den X.G ρ):=⟨_,rfl⟩
 rw[←hL]at hvs hil
 obtain⟨k,hk⟩:∃ k:Nat,i.den X.G ρ=k:=⟨(i.den X.G ρ).toNat,by omega⟩
 have hkL:k<L.length:=by omega
 have hrd:∀ q:Nat,Lc.rd (C.den X.G ρ) (i.den X.G ρ) q=(L.getD k []).getD q 0:=by
  intro q
  unfold Lc.rd Lc.row
  rw[hk,←hL]
  simp
 have hget:∀ (q:Nat) (c:CK),sh[q]?=some c→w.cell? ⟨k0,base+(k*sh.length+q),none⟩=some (c.mk ((L.getD k []).getD q 0)):=by
  intro q c hc
  simp only[World.cell?,hcell]
  have h1:=dX hc L k hkL
  simp only[Option.isSome_none,Bool.false_eq_true,if_false,List.getElem?_toArray]
  rw[hvs _ _ h1]
 rw[hk]
 simp only[Int.toNat_natCast]
 unfold aKT at h
 split at h
 ·rename_i ha
  split at h
  ·rename_i inf hinf
   split at h
   ·rename_i hle
    simp only[decide_eq_true_eq]at hle
    cases h
    have hR:=xU hX (α:=α) C i ((sh.drop j).take inf.size) j
    simp only[hrd]at hR
    refine⟨.agg (((sh.drop j).take inf.size).zipIdx j |>.map fun p=>p.1.mk ((L.getD k []).getD p.2 0)).toArray,?_,by simp only[SV.R];exact⟨_,rfl,hR⟩⟩
    have hln:((((sh.drop j).take inf.size).zipIdx j).map fun p=>p.1.mk ((L.getD k []).getD p.2 0)).length=inf.size:=by simp;omega
    have:=run_loadCells_list (P:=P) w ⟨k0,base+(k*sh.length+j),none⟩ ((((sh.drop j).take inf.size).zipIdx j).map fun p=>p.1.mk ((L.getD k []).getD p.2 0)) (by
     intro q v hv
     rw[bJ]
     rw[List.getElem?_map,List.getElem?_zipIdx]at hv
     cases hq:((sh.drop j).take inf.size)[q]? with
     |none=>rw[hq]at hv;simp at hv
     |some c=>
      rw[hq]at hv
      simp only[Option.map_some,Option.some.injEq]at hv
      rw[List.getElem?_take]at hq
      split at hq
      ·rw[List.getElem?_drop]at hq
       rw[←hv,show base+(k*sh.length+j)+q=base+(k*sh.length+(j+q))by omega]
       exact hget (j+q) c hq
      ·cases hq)
    rw[hln]at this
    simp only[Instr.loadAt,Instr.sureAddr,loadVar,Sem.run_bind,Sem.run_pure,eB ha,Result.andThen_ok,if_true]
    simp [sizeOf,typeInfo,hinf,this]
   ·cases h
  ·cases h
 ·rename_i ha
  split at h
  ·rename_i c hc
   cases h
   refine⟨c.mk ((L.getD k []).getD j 0),?_,by rw[←hrd];exact vM hX C i j c⟩
   simp only[Instr.loadAt,Instr.sureAddr,loadVar,Sem.run_bind,Sem.run_pure,eB ha,Result.andThen_ok,Bool.false_eq_true,if_false,run_load]
   rw[hget j c hc]
  ·cases h
 ·cases h
def aML (C i:E) (j w:Nat) (es:List E):E:=
 if decide (j=0) && decide (es.length=w) then .app 92 (.cons C (.cons i (EL.ofList es))) else .app 93 (.cons C (.cons i (.cons (.lit j) (.cons (.lit w) (EL.ofList es)))))
def aC5 (P:Program) (X:Ctx) (t:TypeId) (id w:Nat) (i:E) (j:Nat) (v:SV) (σ:aG):Res aG:=
 match σ[id]? with
 |some (some ([.vec sh C n ex],T))=>
  if decide (aS≤T) && decide (w=sh.length) then
   (Res.test X (.cmp .lt i n)).bind fun ok=>
    if ok then match v.cells,P.info? t with
     |some c,some inf=>if decide (c.length=inf.size) && decide (j+c.length≤w) then match mR X ((sh.drop j).take c.length) c with
       |some es => .ok (σ.set id (some ([.vec sh (aML C i j w es) n ex],T)))
       |none => .fail 310
      else .fail 311
     |_,_ => .fail 312
    else .fail 313
  else .fail 314
 |some (some ([.tuple [.agg l,.int .i64 (.lit wd),.bool (.lit false)]],T))=>
  if decide (aS≤T) && decide ((w:Int)=wd) then
   (Res.num X i).bind fun k=>match v.cells,P.info? t with
    |some c,some inf=>if decide (c.length=inf.size) && decide (k.toNat*w+j+c.length≤l.length) && c.all SV.oneCell then
      cH (l.take (k.toNat*w+j)++c++l.drop (k.toNat*w+j+c.length)) fun l' => .ok (σ.set id (some ([.tuple [.agg l',.int .i64 (.lit wd),.bool (.lit false)]],T)))
     else .fail 316
    |_,_ => .fail 312
  else .fail 317
 |_ => .fail 315
theorem aKb (hX:X.Ok ρ) {C i:E} {j w:Nat} {es:List E} {L:List (List Int)} {k:Nat} (hL:Lc.dec (C.den X.G ρ)=L) (hk:i.den X.G ρ=k) (hkL:k<L.length) (hj:j+es.length≤w):
  ∃ r0:List Int,Lc.dec ((aML C i j w es).den X.G ρ)=L.set k r0∧(∀ q,q<es.length→r0.getD (j+q) 0=(es.map (E.den X.G ρ)).getD q 0)∧∀ q,q<w→(q<j∨j+es.length≤q)→r0.getD q 0=(L.getD k []).getD q 0:=by
 unfold aML
 split
 ·rename_i hg
  simp only[Bool.and_eq_true,decide_eq_true_eq]at hg
  obtain⟨rfl,hw⟩:=hg
  refine⟨es.map (E.den X.G ρ),?_,fun q _=>by rw[Nat.zero_add],fun q h1 h2=>by omega⟩
  simp only[E.den,EL.den,EL.ofList_den]
  rw[hX.gi.lists _ _ (by omega) (by omega)]
  simp only[Lc.fn,Lc.op92,hk,Int.toNat_natCast,hL,Lc.dec_enc]
 ·refine⟨Lc.rowPut w j (es.map (E.den X.G ρ)) (L.getD k []),?_,?_,?_⟩
  ·simp only[E.den,EL.den,EL.ofList_den]
   rw[hX.gi.lists _ _ (by omega) (by omega)]
   simp only[Lc.fn,Lc.op93,hk,Int.toNat_natCast,hL,Lc.dec_enc]
   rw[aDt L k _ [] hkL]
  ·intro q hq
   rw[wB _ _ _ _ _ (by omega),if_pos (by simp;omega),show j+q-j=q by omega]
  ·intro q hq ho
   rw[wB _ _ _ _ _ hq,if_neg (by simp;omega)]
theorem aDf (hX:X.Ok ρ) {α:aR} {σ σ':aG} {w:World} {t:TypeId} {id wd:Nat} {i:E} {j:Nat} {v:SV} {xv vv:Value} (h:aC5 P X t id wd i j v σ = .ok σ') (hW:RelW X.G ρ gl α σ w) (rx:SV.R X.G ρ α (.vptr id wd i j) xv) (rv:SV.R X.G ρ α v vv):
  ∃ w',(Instr.storeAt t xv vv).run P w = .ok () w'∧RelW X.G ρ gl α σ' w'∧Ext σ.length σ σ' α α w w':=by
 unfold aC5 at h
 split at h
 case h_3=>cases h
 case h_2=>
  rename_i l wi T hs
  split at h
  case isFalse=>cases h
  rename_i hg
  simp only[Bool.and_eq_true,decide_eq_true_eq]at hg
  obtain⟨hT,rfl⟩:=hg
  obtain⟨k,hk,h⟩:=Res.bind_ok h
  have hk:=Res.num_ok hX hk
  split at h
  case h_2=>cases h
  rename_i c inf hc hinf
  split at h
  case isFalse=>cases h
  rename_i hg
  simp only[Bool.and_eq_true,decide_eq_true_eq]at hg
  obtain⟨⟨hcs,hjw⟩,hone⟩:=hg
  rw[cL]at h
  cases h
  simp only[SV.R]at rx
  obtain⟨b,hb,hnil,hi0,rfl⟩:=rx
  obtain⟨b',vs,h1,h2,h3⟩:=hW.blk id _ T hs
  rw[hb]at h1;cases h1
  rw[cE hT]at h2
  obtain⟨hb0,cells,w0,ex0,rfl,h4,h5⟩:=h2
  simp only[SV.RL,SV.R]at h3
  obtain⟨v,vs',e1,⟨cs',e2,v1,t1,e3,⟨cl,e4,hcl⟩,v2,t2,e5,e5',v3,t3,e6,e6',e7'⟩,e8⟩:=h3
  subst e4 e3 e5 e5' e6 e6' e7'
  obtain⟨rfl,_⟩:=List.cons.inj e1
  simp only[Value.tuple.injEq]at e2
  have e2:=congrArg Array.toList e2
  simp only[List.cons.injEq,Value.agg.injEq,E.den,B.den,Value.int.injEq,Value.bool.injEq,true_and,and_true]at e2
  obtain⟨e7,e9,e10⟩:=e2
  have e7:=congrArg Array.toList e7
  simp only at e7
  subst e7
  rcases h5 with⟨q,_⟩|⟨_,rest,hcell,hcap,hmax,hex⟩
  ·rw[hnil]at q;cases q
  have rc:=gV hc rv
  have lvs:vv.cells.toList.length=c.length:=bP rc
  have lcl:=bP hcl
  obtain⟨p,hp⟩:∃ p,p=k.toNat*wd+j:=⟨_,rfl⟩
  rw[←hp]at hjw
  have hst:=run_storeCells_at (P:=P) b.blk p (T-aS) vv.cells.toList 0 (cells++rest).toArray w hcell (by simp only[List.size_toArray,List.length_append,lvs];omega) (jP hone rc)
  have hsz:vv.cells.size=inf.size:=by rw[←hcs,←lvs];simp
  have hcells:(((cells++rest).toArray.toList.take (p+0)++vv.cells.toList++(cells++rest).toArray.toList.drop (p+0+vv.cells.toList.length)).toArray)=((cells.take p++vv.cells.toList++cells.drop (p+c.length))++rest).toArray:=by
   simp only[Nat.add_zero,List.append_assoc,lvs]
   rw[List.take_append_of_le_length (by omega),List.drop_append_of_le_length (by omega)]
  rw[hcells]at hst
  have hlen2:(cells.take p++vv.cells.toList++cells.drop (p+c.length)).length=cells.length:=by
   rw[List.length_append,List.length_append,List.length_take,List.length_drop,lvs];omega
  refine⟨w.setRow b.blk ((cells.take p++vv.cells.toList++cells.drop (p+c.length))++rest).toArray,?_,?_⟩
  ·rw[hk,hb0,Nat.zero_add,←hp]
   simp only[Instr.storeAt,Instr.sureAddr,storeVar,Sem.run_bind,Sem.run_pure,Result.andThen_ok]
   simp only[sizeOf,typeInfo,Sem.run_bind,run_program,hinf,Result.andThen_ok,Sem.run_pure]
   simp only[hsz,ne_eq,not_true_eq_false,if_false,Sem.run_pure,Result.andThen_ok]
   exact hst
  ·rw[←hp]
   refine iD (vs':=[.tuple #[.agg (cells.take p++vv.cells.toList++cells.drop (p+c.length)).toArray,.int .i64 wd,.bool false]]) hW hs (oX hT) hb hnil rfl rfl rfl (by simp) (fun q hq=>setRow_other w b.blk q _ hq) ?_ ?_
   ·rw[cE hT]
    refine⟨hb0,_,wd,false,rfl,by omega,.inr ⟨hnil,rest,setRow_heap w b.blk _ _ (T-aS) (0,0) hcell,?_,hmax,fun q=>by cases q⟩⟩
    rw[List.length_append,hlen2,←List.length_append,hcap]
    congr 1;omega
   ·refine aV ?_ aZ
    simp only[SV.R]
    refine⟨[.agg (cells.take p++vv.cells.toList++cells.drop (p+c.length)).toArray,.int .i64 wd,.bool false],rfl,aV ?_ (aV ?_ (aV ?_ aZ))⟩
    ·simp only[SV.R];exact⟨_,rfl,dH (dH (gM _ hcl) rc) (fW _ hcl)⟩
    ·simp only[SV.R,E.den]
    ·simp only[SV.R,B.den]
 rename_i sh C n ex T hs
 split at h
 case isFalse=>cases h
 rename_i hg
 simp only[Bool.and_eq_true,decide_eq_true_eq]at hg
 obtain⟨hT,rfl⟩:=hg
 obtain⟨ok,hok,h⟩:=Res.bind_ok h
 have hlt:=Res.test_ok hX hok
 cases ok
 case false=>simp at h
 simp only[if_true]at h
 simp only[B.den,COp.den,decide_eq_true_eq]at hlt
 split at h
 case h_2=>cases h
 rename_i c inf hc hinf
 split at h
 case isFalse=>cases h
 rename_i hg
 simp only[Bool.and_eq_true,decide_eq_true_eq]at hg
 obtain⟨hcs,hjw⟩:=hg
 split at h
 case h_2=>cases h
 rename_i es hes
 cases h
 simp only[SV.R]at rx
 obtain⟨b,hb,hnil,hi0,rfl⟩:=rx
 obtain⟨b',hb',hb0,hw,hlen,hv⟩:=uB hW hs hT
 rw[hb]at hb';cases hb'
 rcases hv with⟨q,_⟩|⟨_,rest,hcell,hcap,hmax,hex⟩
 ·rw[hnil]at q;cases q
 obtain⟨L,hL⟩:∃ L,L=Lc.dec (C.den X.G ρ):=⟨_,rfl⟩
 rw[←hL]at hcell hlen hcap
 obtain⟨k,hk⟩:∃ k:Nat,i.den X.G ρ=k:=⟨(i.den X.G ρ).toNat,by omega⟩
 have hkL:k<L.length:=by omega
 have rc:=gV hc rv
 obtain⟨hvs,hesl⟩:=vC hX hes rc
 have hln:((sh.drop j).take c.length).length=c.length:=by simp;omega
 rw[hln]at hesl
 have lvs:vv.cells.toList.length=c.length:=bP rc
 obtain⟨r0,p1,p2,p3⟩:=aKb hX hL.symm hk hkL (w:=sh.length) (es:=es) (j:=j) (by omega)
 have hkw:k*sh.length+sh.length≤L.length*sh.length:=by
  have:=Nat.mul_le_mul_right sh.length (show k+1≤L.length by omega)
  rw[Nat.succ_mul]at this;exact this
 have lrc:=aU sh L
 have upd:=yB (sh:=sh) (L:=L) (i:=k) (j:=j) (r0:=r0) (vs:=vv.cells.toList) hkL (by omega) (by
  intro q v hq
  have hql:q<c.length:=by rw[←lvs];exact(List.getElem?_eq_some_iff.1 hq).1
  rw[hvs,List.getElem?_map]at hq
  cases hz:(((sh.drop j).take c.length).zip (es.map (E.den X.G ρ)))[q]? with
  |none=>rw[hz]at hq;cases hq
  |some p=>
   rw[hz]at hq
   simp only[Option.map_some,Option.some.injEq]at hq
   obtain⟨z1,z2⟩:=List.getElem?_zip_eq_some.1 hz
   rw[List.getElem?_take,if_pos hql,List.getElem?_drop]at z1
   refine⟨p.1,z1,?_⟩
   rw[←hq,p2 q (by omega)]
   simp [List.getD,z2]) (fun q h1 h2=>p3 q h1 (by omega))
 have one:∀ v,v ∈ vv.cells.toList→v.oneCell'=true:=by
  intro v hv
  rw[hvs]at hv
  obtain⟨p,_,rfl⟩:=List.mem_map.1 hv
  cases p.1<;>rfl
 have hst:=run_storeCells_at (P:=P) b.blk (k*sh.length+j) (T-aS) vv.cells.toList 0 (aH sh L++rest).toArray w hcell (by simp only[List.size_toArray,List.length_append,lrc,lvs];omega) one
 have hsz:vv.cells.size=inf.size:=by rw[←hcs,←lvs];simp
 have hcells:(((aH sh L++rest).toArray.toList.take (k*sh.length+j+0)++vv.cells.toList++(aH sh L++rest).toArray.toList.drop (k*sh.length+j+0+vv.cells.toList.length)).toArray)=(aH sh (L.set k r0)++rest).toArray:=by
  rw[upd]
  simp only[Nat.add_zero,List.append_assoc]
  rw[List.take_append_of_le_length (by rw[lrc];omega),List.drop_append_of_le_length (by rw[lrc,lvs];omega)]
 rw[hcells]at hst
 have hlen2:(aH sh (L.set k r0)).length=(aH sh L).length:=by rw[aU,aU,List.length_set]
 refine⟨w.setRow b.blk (aH sh (L.set k r0)++rest).toArray,?_,?_⟩
 ·rw[hk,hb0,Nat.zero_add]
  simp only[Int.toNat_natCast,Instr.storeAt,Instr.sureAddr,storeVar,Sem.run_bind,Sem.run_pure,Result.andThen_ok]
  simp only[sizeOf,typeInfo,Sem.run_bind,run_program,hinf,Result.andThen_ok,Sem.run_pure]
  simp only[hsz,ne_eq,not_true_eq_false,if_false,Sem.run_pure,Result.andThen_ok]
  exact hst
 ·refine iD hW hs (oX hT) hb hnil rfl rfl rfl (by simp) (fun q hq=>setRow_other w b.blk q _ hq) (eU.obj hT hb0 hw (L:=L.set k r0) (.inr ⟨hnil,rest,setRow_heap w b.blk _ _ (T-aS) (0,0) hcell,?_,hmax,hex⟩)) (aBZ p1 ?_)
  ·rw[List.length_append,hlen2,←List.length_append];exact hcap
  ·rw[List.length_set];exact hlen
end
end Sx
end Go.Proofs.Ythiehfhphgkaeaa
namespace Go.Proofs.Ythiehfhphgkaeaa
namespace Sx
open Go Go.RowKit
def mF (P:Program) (X:Ctx) (t:TypeId) (x i:SV):Option (Res SV):=
 match i with
 | .int _ e=>
  match x with
  | .own id n _=>some (match P.underlying t with
   |some (.slice el)=>match P.info? el with
    |some inf=>(Res.test X (.cmp .le (.lit 0) e)).bind fun a=>(Res.test X (.cmp .lt e n)).bind fun b=>if a && b then .ok (.vptr id inf.size e 0) else .fail 320
    |none => .fail 321
   |_ => .fail 322)
  | .vsl id w off n _=>some (match P.underlying t with
   |some (.slice el)=>match P.info? el with
    |some inf=>if decide (inf.size=w) then (Res.test X (.cmp .le (.lit 0) e)).bind fun a=>(Res.test X (.cmp .lt e n)).bind fun b=>if a && b then .ok (.vptr id w (E.mkOp .add off e) 0) else .fail 320 else .fail 323
    |none => .fail 321
   |_ => .fail 322)
  | .fro id sh C n=>some (match P.underlying t with
   |some (.slice el)=>match P.info? el with
    |some inf=>if decide (inf.size=sh.length) then (Res.test X (.cmp .le (.lit 0) e)).bind fun a=>(Res.test X (.cmp .lt e n)).bind fun b=>if a && b then .ok (.fptr id sh C e 0) else .fail 320 else .fail 323
    |none => .fail 321
   |_ => .fail 322)
  | .vptr id w i0 j=>some ((Res.num X e).bind fun n=>match P.underlying t with
   |some (.array len el)=>match P.info? el with
    |some inf=>if decide (0≤n) && decide (n<len) then .ok (.vptr id w i0 (j+n.toNat*inf.size)) else .fail 320
    |none => .fail 321
   |_ => .fail 322)
  |_=>none
 |_=>none
section
variable {ρ:Nat→Int} {P:Program} {X:Ctx} {gl:List (Nat × Nat)}
theorem vY (hX:X.Ok ρ) {α:aR} {t:TypeId} {x i s:SV} {xv iv:Value} {r:Res SV} (h0:mF P X t x i=some r) (h:r = .ok s) (rx:SV.R X.G ρ α x xv) (ri:SV.R X.G ρ α i iv) (w:World):
  ∃ v,(Instr.indexAt t xv iv).run P w = .ok v w∧SV.R X.G ρ α s v:=by
 unfold mF at h0
 split at h0
 case h_2=>cases h0
 rename_i k e
 simp only[SV.R]at ri
 subst ri
 split at h0
 ·rename_i id n cap
  cases h0
  split at h
  case h_2=>cases h
  rename_i el hu
  split at h
  case h_2=>cases h
  rename_i inf hinf
  replace h:=Res.bind_ok h;obtain⟨a,ha,h⟩:=h
  replace h:=Res.bind_ok h;obtain⟨b,hb,h⟩:=h
  have ha:=Res.test_ok hX ha
  have hb:=Res.test_ok hX hb
  split at h
  case isFalse=>cases h
  rename_i hg
  simp only[Bool.and_eq_true]at hg
  obtain⟨rfl,rfl⟩:=hg
  cases h
  replace ha:(0:Int)≤e.den X.G ρ:=of_decide_eq_true ha
  replace hb:e.den X.G ρ<n.den X.G ρ:=of_decide_eq_true hb
  simp only[SV.R]at rx
  obtain⟨l,hl,hn0,rfl,hnil,hle,_⟩:=rx
  have hln:l.nil=false:=by
   cases q:l.nil
   ·rfl
   ·have:=(hnil q).1;omega
  refine⟨.pointer (some ⟨l.blk,l.base+(e.den X.G ρ).toNat*inf.size,none⟩),?_,by simp only[SV.R];exact⟨l,hl,hln,ha,by simp⟩⟩
  have h1:e.den X.G ρ<((n.den X.G ρ).toNat:Int):=by omega
  simp [hln,Instr.indexAt,asIntOf,run_underlying hu,ha,h1,sizeOf,typeInfo,hinf,bJ]
  intro q;exfalso;omega
 ·rename_i id wd off n cap
  cases h0
  split at h
  case h_2=>cases h
  rename_i el hu
  split at h
  case h_2=>cases h
  rename_i inf hinf
  split at h
  case isFalse=>cases h
  rename_i hw
  simp only[decide_eq_true_eq]at hw
  subst hw
  replace h:=Res.bind_ok h;obtain⟨a,ha,h⟩:=h
  replace h:=Res.bind_ok h;obtain⟨b,hb,h⟩:=h
  have ha:=Res.test_ok hX ha
  have hb:=Res.test_ok hX hb
  split at h
  case isFalse=>cases h
  rename_i hg
  simp only[Bool.and_eq_true]at hg
  obtain⟨rfl,rfl⟩:=hg
  cases h
  replace ha:(0:Int)≤e.den X.G ρ:=of_decide_eq_true ha
  replace hb:e.den X.G ρ<n.den X.G ρ:=of_decide_eq_true hb
  simp only[SV.R]at rx
  obtain⟨l,hl,hn0,ho0,⟨q,_⟩|⟨hln,c,rfl,hc,_⟩⟩:=rx
  ·omega
  have e1:(off.den X.G ρ).toNat*inf.size+(e.den X.G ρ).toNat*inf.size=((off.den X.G ρ)+(e.den X.G ρ)).toNat*inf.size:=by
   rw[←Nat.add_mul];congr 1;omega
  refine⟨.pointer (some ⟨l.blk,l.base+(off.den X.G ρ).toNat*inf.size+(e.den X.G ρ).toNat*inf.size,none⟩),?_,?_⟩
  ·have h1:e.den X.G ρ<((n.den X.G ρ).toNat:Int):=by omega
   simp [Instr.indexAt,asIntOf,run_underlying hu,ha,h1,sizeOf,typeInfo,hinf,bJ]
   intro q;exfalso;omega
  ·simp only[SV.R,E.mkOp_den,IOp.den]
   exact⟨l,hl,hln,by omega,by rw[Nat.add_assoc,e1];simp⟩
 ·rename_i id sh C n
  cases h0
  split at h
  case h_2=>cases h
  rename_i el hu
  split at h
  case h_2=>cases h
  rename_i inf hinf
  split at h
  case isFalse=>cases h
  rename_i hw
  simp only[decide_eq_true_eq]at hw
  replace h:=Res.bind_ok h;obtain⟨a,ha,h⟩:=h
  replace h:=Res.bind_ok h;obtain⟨b,hb,h⟩:=h
  have ha:=Res.test_ok hX ha
  have hb:=Res.test_ok hX hb
  split at h
  case isFalse=>cases h
  rename_i hg
  simp only[Bool.and_eq_true]at hg
  obtain⟨rfl,rfl⟩:=hg
  cases h
  replace ha:(0:Int)≤e.den X.G ρ:=of_decide_eq_true ha
  replace hb:e.den X.G ρ<n.den X.G ρ:=of_decide_eq_true hb
  simp only[SV.R]at rx
  obtain⟨l,hl,hlen,hF⟩:=rx
  rcases hF with⟨q,_⟩|⟨k,base,cap,vs,rfl,hle,_,hsub,hvs⟩
  ·rw[q]at hlen;simp only[List.length_nil]at hlen;omega
  refine⟨.pointer (some ⟨k,base+(e.den X.G ρ).toNat*inf.size,none⟩),?_,by simp only[SV.R];exact⟨l,hl,k,base,vs,by rw[hw];simp,ha,by omega,hsub,hvs⟩⟩
  have h1:e.den X.G ρ<((Lc.dec (C.den X.G ρ)).length:Int):=by omega
  simp [Instr.indexAt,asIntOf,run_underlying hu,ha,h1,sizeOf,typeInfo,hinf,bJ]
 ·rename_i id wd i0 j
  cases h0
  replace h:=Res.bind_ok h;obtain⟨n,hn,h⟩:=h
  have he:=Res.num_ok hX hn
  split at h
  case h_2=>cases h
  rename_i len el hu
  split at h
  case h_2=>cases h
  rename_i inf hinf
  split at h
  case isFalse=>cases h
  rename_i hg
  simp only[Bool.and_eq_true,decide_eq_true_eq]at hg
  cases h
  simp only[SV.R]at rx
  obtain⟨l,hl,hln,hi0,rfl⟩:=rx
  rw[he]
  refine⟨.pointer (some ⟨l.blk,l.base+((i0.den X.G ρ).toNat*wd+j)+n.toNat*inf.size,none⟩),?_,by simp only[SV.R];exact⟨l,hl,hln,hi0,by rw[Nat.add_assoc,Nat.add_assoc]⟩⟩
  simp [Instr.indexAt,asIntOf,run_underlying hu,Instr.sureAddr,hg.1,hg.2,sizeOf,typeInfo,hinf,bJ]
 ·cases h0
end
def qD (v:Option SV) (d:E):Option E:=
 match v with
 |none=>some d
 |some (.int _ e)=>some e
 |some _=>none
def qF (X:Ctx) (id w:Nat) (off n:E) (cap:Option E) (lo hi mx:Option SV):Res SV:=
 match qD lo (.lit 0),qD hi n,qD mx (.lit 0)with
 |some l,some h,some m=>
  (Res.test X (.cmp .le (.lit 0) l)).bind fun t1=>(Res.test X (.cmp .le l h)).bind fun t2=>(Res.test X (.cmp .le h (if mx.isSome then m else cap.getD n))).bind fun t3=>(Res.test X (.cmp .le (if mx.isSome then m else .lit 0) (cap.getD n))).bind fun t4=>
   if t1 && t2 && t3 && t4 && (hi.isSome ||mx.isNone) then .ok (.vsl id w (E.mkOp .add off l) (E.mkOp .sub h l) (if mx.isSome then some (E.mkOp .sub m l) else cap.map fun c=>E.mkOp .sub c l)) else .fail 330
 |_,_,_ => .fail 331
def aKs (n e:E):Bool:=E.eqb n e ||(match n,e with | .lit a,.lit b=>decide (a≤b)|_,_=>false)
theorem aGL {G:Nat→List Int→Int} {ρ:Nat→Int} {n e:E} (h:aKs n e=true):n.den G ρ≤e.den G ρ:=by
 unfold aKs at h
 simp only[Bool.or_eq_true]at h
 rcases h with h|h
 ·rw[E.eqb_eq _ _ h];exact Int.le_refl _
 ·split at h
  ·simpa [E.den]using h
  ·cases h
def aEz (n:E) (c:Option E):Option E:=match c with
 |some e=>if aKs n e then some e else none
 |none=>none
theorem jK {G:Nat→List Int→Int} {ρ:Nat→Int} {n e:E} {c:Option E} (h:aEz n c=some e):c=some e∧n.den G ρ≤e.den G ρ:=by
 unfold aEz at h
 split at h
 ·split at h
  ·rename_i q;cases h;exact⟨rfl,aGL q⟩
  ·cases h
 ·cases h
def aC1 (P:Program) (X:Ctx) (t:TypeId) (x:SV) (lo hi mx:Option SV):Option (Res SV):=
 match x with
 | .own id n cap=>some (match P.underlying t with
  |some (.slice el)=>match P.info? el with
   |some inf=>qF X id inf.size (.lit 0) n (aEz n cap) lo hi mx
   |none => .fail 332
  |_ => .fail 333)
 | .vsl id w off n cap=>some (match P.underlying t with
  |some (.slice el)=>match P.info? el with
   |some inf=>if decide (inf.size=w) then qF X id w off n cap lo hi mx else .fail 334
   |none => .fail 332
  |_ => .fail 333)
 |_=>none
section
variable {ρ:Nat→Int} {P:Program} {X:Ctx} {gl:List (Nat × Nat)}
theorem rY {α:aR} {v:Option SV} {u:Option Value} {d e:E} (h:qD v d=some e) (hu:u.isSome=v.isSome) (hr:∀ s x,v=some s→u=some x→SV.R X.G ρ α s x):(u=none∧v=none∧e=d)∨(v.isSome=true∧∃ k,u=some (.int k (e.den X.G ρ))):=by
 unfold qD at h
 split at h
 ·cases h
  cases u with
  |none=>exact .inl ⟨rfl,rfl,rfl⟩
  |some x=>simp at hu
 ·rename_i k e'
  cases h
  cases u with
  |none=>simp at hu
  |some x=>
   have:=hr _ x rfl rfl
   simp only[SV.R]at this
   exact .inr ⟨rfl,k,by rw[this]⟩
 ·cases h
theorem rB (hX:X.Ok ρ) {α:aR} {t el:TypeId} {inf:TypeInfo} {id:Nat} {off n:E} {cap:Option E} {s:SV} {xv:Value} {lo hi mx:Option SV} {lv hv mv:Option Value} (h:qF X id inf.size off n cap lo hi mx = .ok s)
  (hu:P.underlying t=some (.slice el)) (hinf:P.info? el=some inf) (rx:SV.R X.G ρ α (.vsl id inf.size off n cap) xv)
  (hl:lv.isSome=lo.isSome) (hlr:∀ s x,lo=some s→lv=some x→SV.R X.G ρ α s x) (hh:hv.isSome=hi.isSome) (hhr:∀ s x,hi=some s→hv=some x→SV.R X.G ρ α s x) (hm:mv.isSome=mx.isSome) (hmr:∀ s x,mx=some s→mv=some x→SV.R X.G ρ α s x) (w:World):
  ∃ v,(Instr.sliceAt t xv lv hv mv).run P w = .ok v w∧SV.R X.G ρ α s v:=by
 unfold qF at h
 split at h
 case h_2=>cases h
 rename_i l hE m e1 e2 e3
 replace h:=Res.bind_ok h;obtain⟨t1,h1,h⟩:=h
 replace h:=Res.bind_ok h;obtain⟨t2,h2,h⟩:=h
 replace h:=Res.bind_ok h;obtain⟨t3,h3,h⟩:=h
 replace h:=Res.bind_ok h;obtain⟨t4,h4,h⟩:=h
 have h1:=Res.test_ok hX h1
 have h2:=Res.test_ok hX h2
 have h3:=Res.test_ok hX h3
 have h4:=Res.test_ok hX h4
 split at h
 case isFalse=>cases h
 rename_i hg
 simp only[Bool.and_eq_true]at hg
 obtain⟨⟨⟨⟨rfl,rfl⟩,rfl⟩,rfl⟩,hg⟩:=hg
 cases h
 replace h1:(0:Int)≤l.den X.G ρ:=of_decide_eq_true h1
 replace h2:l.den X.G ρ≤hE.den X.G ρ:=of_decide_eq_true h2
 replace h3:hE.den X.G ρ≤(if mx.isSome then m else cap.getD n).den X.G ρ:=of_decide_eq_true h3
 replace h4:(if mx.isSome then m else .lit 0).den X.G ρ≤(cap.getD n).den X.G ρ:=of_decide_eq_true h4
 have rl:=rY (X:=X) (ρ:=ρ) (α:=α) e1 hl hlr
 have rh:=rY (X:=X) (ρ:=ρ) (α:=α) e2 hh hhr
 have rm:=rY (X:=X) (ρ:=ρ) (α:=α) e3 hm hmr
 simp only[SV.R]at rx
 obtain⟨b,hb,hn0,ho0,rx⟩:=rx
 
 obtain⟨a,c,rfl,hnc,hcap⟩:∃ a c,xv = .slice a (n.den X.G ρ).toNat c∧n.den X.G ρ≤(c:Int)∧∀ e,cap=some e→(c:Int)=e.den X.G ρ:=by
  rcases rx with⟨q1,a,c,rfl,q2⟩|⟨_,c,rfl,q1,q2⟩
  ·refine⟨a,c,by rw[q1];rfl,by omega,?_⟩
   intro e he
   rcases q2 with q2|⟨q2,q3⟩
   ·rw[he]at q2;cases q2
   ·rw[q3 e he,q2];rfl
  ·exact⟨_,c,rfl,by omega,q2⟩
 have hlim:(cap.getD n).den X.G ρ≤c:=by
  cases cap with
  |none=>exact hnc
  |some e=>simp only[Option.getD_some];rw[hcap e rfl];omega
 
 obtain⟨M,hM1,hM2,hM3⟩:∃ M:Nat,((mv=none∧M=c)∨∃ k i,mv=some (.int k i)∧0≤i∧i≤c∧M=i.toNat)∧hE.den X.G ρ≤M∧(mx.isSome=true→(M:Int)=m.den X.G ρ)∧(mx=none→M=c):=by
  rcases rm with⟨q1,q2,q3⟩|⟨q1,k,q2⟩
  ·subst q2
   simp only[Option.isSome_none,Bool.false_eq_true,if_false]at h3
   exact⟨c,.inl ⟨q1,rfl⟩,by omega,fun z=>(by cases z),fun _=>rfl⟩
  ·simp only[q1,if_true]at h3 h4
   refine⟨(m.den X.G ρ).toNat,.inr ⟨k,_,q2,by omega,by omega,rfl⟩,by omega,fun _=>by omega,fun z=>by rw[z]at q1;cases q1⟩
 have hH:(hv=none∧mv=none∧(hE.den X.G ρ).toNat=(n.den X.G ρ).toNat)∨∃ k i,hv=some (.int k i)∧0≤i∧i≤M∧(hE.den X.G ρ).toNat=i.toNat:=by
  rcases rh with⟨q1,q2,q3⟩|⟨q1,k,q2⟩
  ·refine .inl ⟨q1,?_,by rw[q3]⟩
   subst q2
   simp only[Option.isSome_none,Bool.false_or]at hg
   cases mv with
   |none=>rfl
   |some z=>simp only[Option.isSome_some]at hm;rw[Option.isNone_iff_eq_none]at hg;rw[hg]at hm;cases hm
  ·exact .inr ⟨k,_,q2,by omega,hM2,rfl⟩
 have hLo:(lv=none∧(l.den X.G ρ).toNat=0)∨∃ k i,lv=some (.int k i)∧0≤i∧i≤((hE.den X.G ρ).toNat:Int)∧(l.den X.G ρ).toNat=i.toNat:=by
  rcases rl with⟨q1,q2,q3⟩|⟨q1,k,q2⟩
  ·exact .inl ⟨q1,by rw[q3];rfl⟩
  ·exact .inr ⟨k,_,q2,h1,by omega,rfl⟩
 have hrun:=tG (P:=P) (isSlice:=true) hM1 hH hLo w
 refine⟨.slice (if M=(l.den X.G ρ).toNat then a else a.map fun x=>x.add ((l.den X.G ρ).toNat*inf.size)) ((hE.den X.G ρ).toNat-(l.den X.G ρ).toNat) (M-(l.den X.G ρ).toNat),?_,?_⟩
 ·simp only[Instr.sliceAt,Instr.slice,Sem.run_bind,run_underlying hu,Result.andThen_ok,Sem.run_pure,hrun]
  simp only[sizeOf,typeInfo,Sem.run_bind,run_program,hinf,Result.andThen_ok,Sem.run_pure]
 ·simp only[SV.R,E.mkOp_den,IOp.den]
  have hnew:∀ e,(if mx.isSome=true then some (E.mkOp .sub m l) else cap.map fun c=>E.mkOp .sub c l)=some e→((M-(l.den X.G ρ).toNat:Nat):Int)=e.den X.G ρ:=by
   intro e he
   split at he
   ·rename_i q
    cases he
    rw[E.mkOp_den];simp only[IOp.den]
    have:=hM3.1 q;omega
   ·rename_i q
    have q':mx=none:=by cases mx<;>simp at q ⊢
    obtain⟨c0,hc0,rfl⟩:=Option.map_eq_some_iff.1 he
    rw[E.mkOp_den];simp only[IOp.den]
    have:=hM3.2 q'
    have:=hcap c0 hc0
    omega
  refine⟨b,hb,by omega,by omega,?_⟩
  by_cases hML:M=(l.den X.G ρ).toNat
  ·refine .inl ⟨by omega,_,_,by rw[show (hE.den X.G ρ).toNat-(l.den X.G ρ).toNat=0 by omega],.inr ⟨by omega,?_⟩⟩
   intro e he
   have:=hnew e he
   omega
  ·rcases rx with⟨q1,a',c',q2,q3⟩|⟨hnil,c',q2,q3,q4⟩
   ·simp only[Value.slice.injEq]at q2
    obtain⟨rfl,_,rfl⟩:=q2
    have hMc:M≤c:=by
     rcases hM1 with⟨_,z⟩|⟨_,i,_,z1,z2,z⟩<;>omega
    rcases q3 with q3|⟨q3,_⟩
    ·subst q3
     simp only[Option.getD_none]at h3 h4
     cases mx with
     |some m'=>
      simp only[Option.isSome_some,if_true]at h4
      have:=hM3.1 rfl
      exfalso;omega
     |none=>
      simp only[Option.isSome_none,Bool.false_eq_true,if_false]at h3
      refine .inl ⟨by omega,_,_,by rw[show (hE.den X.G ρ).toNat-(l.den X.G ρ).toNat=0 by omega],.inl ?_⟩
      simp
    ·exfalso;omega
   ·simp only[Value.slice.injEq]at q2
    obtain⟨rfl,_,rfl⟩:=q2
    refine .inr ⟨hnil,M-(l.den X.G ρ).toNat,?_,by omega,hnew⟩
    rw[if_neg hML]
    simp only[Option.map_some,bJ]
    rw[Nat.add_assoc,←Nat.add_mul,show (off.den X.G ρ).toNat+(l.den X.G ρ).toNat=(off.den X.G ρ+l.den X.G ρ).toNat by omega,show (hE.den X.G ρ).toNat-(l.den X.G ρ).toNat=(hE.den X.G ρ-l.den X.G ρ).toNat by omega]
end
end Sx
end Go.Proofs.Ythiehfhphgkaeaa
namespace Go.Proofs.Ythiehfhphgkaeaa
namespace Sx
open Go Go.RowKit
theorem vF (e:TypeId):aS+e-aS=e:=Nat.add_sub_cancel_left (n:=aS) (m:=e)
def aHM:SV→Option CK
 | .int k (.lit n)=>if n=0 then some (.int k) else none
 | .bool (.lit b)=>if b then none else some .bool
 |_=>none
def qK:List SV→Option (List CK)
 |[]=>some []
 |s::l=>match aHM s,qK l with
  |some c,some r=>some (c::r)
  |_,_=>none
def uH (P:Program) (e:TypeId):Option (List CK):=
 match P.info? e with
 |some i=>match i.zero with
  |some z=>match (SV.ofV z).cells with
   |some l=>match qK l with
    |some sh=>if decide (sh.length=i.size) && decide (0<i.size) && decide (0<i.bytes) then some sh else none
    |none=>none
   |none=>none
  |none=>none
 |none=>none
theorem aFT (k:IntKind):k.wrap 0=0:=by cases k<;>decide
section
variable {ρ:Nat→Int} {P:Program} {X:Ctx} {gl:List (Nat × Nat)}
theorem aAd {G:Nat→List Int→Int} {ρ:Nat→Int} {α:aR}:∀ {l:List SV} {sh:List CK} {vs:List Value},qK l=some sh→SV.RL G ρ α l vs→vs=sh.map fun c=>c.mk 0
 |[],sh,vs,h,r=>by
  simp only[qK]at h;cases h
  simp only[SV.RL]at r;subst r;rfl
 |s::l,sh,vs,h,r=>by
  simp only[qK]at h
  split at h
  ·rename_i c q hc hq
   cases h
   simp only[SV.RL]at r
   obtain⟨v,vs',rfl,h2,h3⟩:=r
   rw[aAd hq h3]
   simp only[List.map_cons]
   congr 1
   unfold aHM at hc
   split at hc
   ·split at hc
    ·rename_i hn
     cases hc
     subst hn
     simp only[SV.R,E.den]at h2
     rw[h2];simp only[CK.mk,aFT]
    ·cases hc
   ·rename_i b
    cases b
    ·simp at hc
     subst hc
     simp only[SV.R,B.den]at h2
     rw[h2];rfl
    ·simp at hc
   ·cases hc
  ·cases h
theorem qM {e:TypeId} {sh:List CK} (h:uH P e=some sh):∃ i z,P.info? e=some i∧i.zero=some z∧z.cells.toList=sh.map (fun c=>c.mk 0)∧i.size=sh.length∧0<sh.length∧0<i.bytes:=by
 unfold uH at h
 split at h
 case h_2=>cases h
 rename_i i hi
 split at h
 case h_2=>cases h
 rename_i z hz
 split at h
 case h_2=>cases h
 rename_i l hl
 split at h
 case h_2=>cases h
 rename_i q hq
 split at h
 case isFalse=>cases h
 rename_i hg
 simp only[Bool.and_eq_true,decide_eq_true_eq]at hg
 cases h
 have r:=gV (G:=fun _ _=>0) (ρ:=fun _=>0) (α:=fun _=>none) hl (oP z)
 exact⟨i,z,hi,hz,aAd hq r,hg.1.1.symm,by omega,hg.2⟩
def pJ (sh:List CK):List Int:=List.replicate sh.length 0
theorem aGD {sh:List CK} {z:Array Value} (hz:z.toList=sh.map fun c=>c.mk 0) (hw:0<sh.length) (m:Nat):(madeCells z (m*sh.length)).toList=aH sh (List.replicate m (pJ sh)):=by
 have hsz:z.size=sh.length:=by have:=congrArg List.length hz;simpa using this
 unfold madeCells
 simp only[Array.toList_map,Array.toList_range]
 apply List.ext_getElem?
 intro p
 rcases Nat.lt_or_ge p (m*sh.length)with hp|hp
 ·rw[List.getElem?_map,List.getElem?_range hp]
  have hcw:p % sh.length<sh.length:=Nat.mod_lt _ hw
  obtain⟨c,hc⟩:∃ c,sh[p % sh.length]?=some c:=⟨sh[p % sh.length],by simp [hcw]⟩
  have haL:p / sh.length<(List.replicate m (pJ sh)).length:=by rw[List.length_replicate];exact Nat.div_lt_of_lt_mul (by rw[Nat.mul_comm];exact hp)
  have e:=dX hc (List.replicate m (pJ sh)) (p / sh.length) haL
  have hpe:p / sh.length*sh.length+p % sh.length=p:=by rw[Nat.mul_comm];exact Nat.div_add_mod p sh.length
  rw[hpe]at e
  rw[e]
  have h0:((List.replicate m (pJ sh)).getD (p / sh.length) []).getD (p % sh.length) 0=0:=by
   rw[List.length_replicate]at haL
   simp [List.getD,List.getElem?_replicate,haL,pJ,hcw]
  rw[h0]
  simp only[Option.map_some]
  rw[hsz,getElem!_pos z _ (by omega)]
  have h2:z.toList[p % sh.length]?=some (c.mk 0):=by rw[hz,List.getElem?_map,hc];rfl
  have h3:z.toList[p % sh.length]?=some (z[p % sh.length]'(by omega)):=by simp
  rw[h3]at h2
  exact h2
 ·rw[List.getElem?_eq_none (by simp;omega),List.getElem?_eq_none (by rw[aU,List.length_replicate];exact hp)]
def aAo (sh:List CK):EL:=EL.ofList (List.replicate sh.length (.lit 0))
def aK9 (a:E) (sh:List CK):E:=
 match a with
 | .lit n=>if n=0 then .lit 0 else .app 96 (.cons (.lit n) (aAo sh))
 |a => .app 96 (.cons a (aAo sh))
theorem aJw (hX:X.Ok ρ) (a:E) (sh:List CK):Lc.dec ((aK9 a sh).den X.G ρ)=List.replicate (a.den X.G ρ).toNat (pJ sh):=by
 have key:∀ a:E,Lc.dec (E.den X.G ρ (.app 96 (.cons a (aAo sh))))=List.replicate (a.den X.G ρ).toNat (pJ sh):=by
  intro a
  simp only[E.den,EL.den,aAo,EL.ofList_den]
  rw[hX.gi.lists _ _ (by omega) (by omega)]
  simp only[Lc.fn,Lc.op96,Lc.dec_enc,List.map_replicate,E.den,pJ]
 unfold aK9
 split
 ·split
  ·rename_i h;subst h;rfl
  ·exact key _
 ·exact key _
def aLG (X:Ctx) (a b:E):Bool:=
 match a.const? X,b.const? X with
 |some n,some m=>decide (n=m) && decide (0<n) && decide (n≤32)
 |_,_=>false
def aCK (P:Program) (X:Ctx) (t:TypeId) (l c:SV) (σ:aG):Option (Res (SV × aG)):=
 match l,c with
 | .int _ a,.int _ b=>
  if aLG X a b then none else some (match P.underlying t with
   |some (.slice e)=>match uH P e,P.info? e with
    |some sh,some inf=>
     (Res.test X (.cmp .le (.lit 0) a)).bind fun t1=>(Res.test X (.cmp .le a b)).bind fun t2=>(Res.test X (.cmp .le b (.lit (1099511627776 / (inf.bytes:Int))))).bind fun t3=>
      if t1 && t2 && t3 then .ok (.own σ.length a (some b),σ++[some ([.vec sh (aK9 a sh) a (E.eqb a b)],aS+e)]) else .fail 340
    |_,_ => .fail 341
   |_ => .fail 342)
 |_,_=>none
theorem aG7 (hX:X.Ok ρ) {α:aR} {σ σ':aG} {w:World} {t:TypeId} {l c s:SV} {lv cv:Value} {r:Res (SV × aG)} (h0:aCK P X t l c σ=some r) (h:r = .ok (s,σ')) (hW:RelW X.G ρ gl α σ w) (rl:SV.R X.G ρ α l lv) (rc:SV.R X.G ρ α c cv):
  ∃ v w' α',(Instr.makeSlice t lv cv).run P w = .ok v w'∧SV.R X.G ρ α' s v∧RelW X.G ρ gl α' σ' w'∧Ext σ.length σ σ' α α' w w':=by
 unfold aCK at h0
 split at h0
 case h_2=>cases h0
 rename_i k a q b
 split at h0
 ·cases h0
 cases h0
 simp only[SV.R]at rl rc
 subst rl;subst rc
 split at h
 case h_2=>cases h
 rename_i e hu
 split at h
 case h_2=>cases h
 rename_i sh inf hsh hinf
 replace h:=Res.bind_ok h;obtain⟨t1,h1,h⟩:=h
 replace h:=Res.bind_ok h;obtain⟨t2,h2,h⟩:=h
 replace h:=Res.bind_ok h;obtain⟨t3,h3,h⟩:=h
 have h1:=Res.test_ok hX h1
 have h2:=Res.test_ok hX h2
 have h3:=Res.test_ok hX h3
 split at h
 case isFalse=>cases h
 rename_i hg
 simp only[Bool.and_eq_true]at hg
 obtain⟨⟨rfl,rfl⟩,rfl⟩:=hg
 cases h
 replace h1:(0:Int)≤a.den X.G ρ:=of_decide_eq_true h1
 replace h2:a.den X.G ρ≤b.den X.G ρ:=of_decide_eq_true h2
 replace h3:b.den X.G ρ≤1099511627776 / (inf.bytes:Int):=of_decide_eq_true h3
 obtain⟨i,z,hi,hz,hzc,hsz,hw,hb0⟩:=qM hsh
 rw[hinf]at hi;cases hi
 have hbp:(0:Int)<inf.bytes:=by omega
 have h4:(inf.bytes:Int)*b.den X.G ρ≤1099511627776:=by
  have:=Int.mul_le_mul_of_nonneg_left h3 (show (0:Int)≤inf.bytes by omega)
  have:=Int.mul_ediv_self_le (x:=1099511627776) (k:=(inf.bytes:Int)) (by omega)
  omega
 have h5:b.den X.G ρ≤1099511627776:=by
  have:=Int.ediv_le_self (a:=1099511627776) (inf.bytes:Int) (by omega)
  omega
 have hrun:=run_make (P:=P) w t e inf z hu hinf hz k q (a.den X.G ρ) (b.den X.G ρ) h1 h2 (by omega) (by omega)
 obtain⟨n,hn⟩:∃ n:Nat,a.den X.G ρ=n:=⟨(a.den X.G ρ).toNat,by omega⟩
 obtain⟨m,hm⟩:∃ m:Nat,b.den X.G ρ=m:=⟨(b.den X.G ρ).toNat,by omega⟩
 have hnm:n≤m:=by omega
 have hrows:(madeCells z.cells ((b.den X.G ρ).toNat*inf.size))=(aH sh (List.replicate n (pJ sh))++aH sh (List.replicate (m-n) (pJ sh))).toArray:=by
  apply Array.ext'
  rw[hm,Int.toNat_natCast,hsz,aGD hzc hw,←dM]
  simp only[List.replicate_append_replicate]
  rw[show n+(m-n)=m by omega]
 rw[hrows]at hrun
 have hT:aS≤aS+e:=Nat.le_add_right _ _
 have hat:eU ⟨w.heap.size,m,false,0,bT⟩ (some (.cells (aH sh (List.replicate n (pJ sh))++aH sh (List.replicate (m-n) (pJ sh))).toArray e (0,0))) sh (List.replicate n (pJ sh)) (aS+e-aS) (E.eqb a b):=by
  refine .inr ⟨rfl,aH sh (List.replicate (m-n) (pJ sh)),by rw[vF],?_,?_,?_⟩
  ·rw[List.length_append,aU,aU,List.length_replicate,List.length_replicate,←Nat.add_mul]
   show (n+(m-n))*sh.length=m*sh.length
   rw[show n+(m-n)=m by omega]
  ·show m≤maxLen
   unfold maxLen;omega
  ·intro hab
   have:=E.eqb_eq _ _ hab
   subst this
   rw[show m-n=0 by omega];rfl
 obtain⟨α',a1,a2,a3⟩:=zQ (aS+e) _ m (eU.obj hT rfl hw hat) hW (aBZ (C:=aK9 a sh) (n:=a) (L:=List.replicate n (pJ sh)) (by rw[aJw hX,hn];rfl) (by rw[List.length_replicate];omega))
 refine⟨_,_,α',hrun,?_,a2,a3⟩
 simp only[SV.R]
 refine⟨_,a1,h1,?_,fun z=>(by cases z),by show a.den X.G ρ≤((m:Nat):Int);omega,fun x hx _=>?_⟩
 ·rw[hm];rfl
 ·cases hx;exact hm.symm
def aA8 (X:Ctx) (sh:List CK):Nat→List SV→Option (List (List E))
 |0,_=>some []
 |n+1,l=>match mR X sh (l.take sh.length),aA8 X sh n (l.drop sh.length)with
  |some r,some R=>some (r::R)
  |_,_=>none
theorem aEe (hX:X.Ok ρ) {α:aR} {sh:List CK}:∀ {n:Nat} {l:List SV} {R:List (List E)} {vs:List Value},aA8 X sh n l=some R→SV.RL X.G ρ α l vs→
  vs.take (n*sh.length)=aH sh (R.map fun r=>r.map (E.den X.G ρ))∧R.length=n
 |0,l,R,vs,h,r=>by
  simp only[aA8]at h;cases h
  simp [aH]
 |n+1,l,R,vs,h,r=>by
  simp only[aA8]at h
  split at h
  ·rename_i q Q hq hQ
   cases h
   obtain⟨h1,h2⟩:=vC hX hq (gM sh.length r)
   obtain⟨h3,h4⟩:=aEe hX hQ (fW sh.length r)
   refine⟨?_,by simp [h4]⟩
   rw[show (n+1)*sh.length=sh.length+n*sh.length by rw[Nat.succ_mul];omega,List.take_add,h3,h1,aA4 _ _ (by simp [h2])]
   rfl
  ·cases h
def aB8 (C:E):List (List E)→E
 |[]=>C
 |r::R=>aB8 (.app 91 (.cons C (EL.ofList r))) R
theorem yH (hX:X.Ok ρ):∀ (R:List (List E)) (C:E),Lc.dec ((aB8 C R).den X.G ρ)=Lc.dec (C.den X.G ρ)++R.map fun r=>r.map (E.den X.G ρ)
 |[],C=>by simp [aB8]
 |r::R,C=>by
  simp only[aB8]
  rw[yH hX R]
  have:Lc.dec (E.den X.G ρ (.app 91 (.cons C (EL.ofList r))))=Lc.dec (C.den X.G ρ)++[r.map (E.den X.G ρ)]:=by
   simp only[E.den,EL.den,EL.ofList_den]
   rw[hX.gi.lists _ _ (by omega) (by omega)]
   simp only[Lc.fn,Lc.op91,Lc.dec_enc]
  rw[this];simp
end
theorem tT {P:Program} {t ty e:TypeId} {inf:TypeInfo} {z:Value} {sh:List CK} (w:World) (ht:P.underlying t=some (.slice e)) (hi:P.info? e=some inf) (hz:inf.zero=some z) (hsz:inf.size=sh.length) (hzc:z.cells.toList=sh.map fun c=>c.mk 0) (hw:0<sh.length)
  {b:Loc} {v xv:Value} {L M:List (List Int)} {ex:Bool} (hv:v=if b.nil then .slice none 0 0 else .slice (some ⟨b.blk,0,none⟩) L.length b.cap) (hb:eU b w.heap[b.blk]? sh L e ex) (hb0:b.base=0) (hblt:b.nil=true∨b.blk<w.heap.size)
  (hx:(∃ a c,xv = .slice (some a) M.length c∧∀ j u,(aH sh M)[j]?=some u→w.cell? (a.add j)=some u)∨(M=[]∧∃ c,xv = .slice none 0 c))
  (hlen:(L.length+M.length)*inf.bytes≤140737488355328) (h62:L.length+M.length≤4611686018427387904):
  ∃ v' w' b',(Builtin.append_ #[t,t] ty #[v,xv]).run P w = .ok v' w'∧w'.os=w.os∧w'.tape=w.tape∧w'.output=w.output∧w.heap.size≤w'.heap.size∧
   (∀ k,k<w.heap.size→(b.nil=true∨k≠b.blk)→w'.heap[k]?=w.heap[k]?)∧
   v'=(if b'.nil then .slice none 0 0 else .slice (some ⟨b'.blk,0,none⟩) (L++M).length b'.cap)∧eU b' w'.heap[b'.blk]? sh (L++M) e false∧
   (b'.nil=true∨(b'.blk<w'.heap.size∧(w.heap.size≤b'.blk∨(b.nil=false∧b'.blk=b.blk))))∧(L.length+M.length≤b.cap→b'=b)∧b'.base=0:=by
 have lM:=aU sh M
 have lL:=aU sh L
 have one:∀ u,u ∈ aH sh M→u.oneCell'=true:=by
  intro u hu
  unfold aH at hu
  obtain⟨r,_,hu⟩:=List.mem_flatMap.1 hu
  unfold dS at hu
  obtain⟨p,_,rfl⟩:=List.mem_map.1 hu
  cases p.1<;>rfl
 have hLc:L.length≤b.cap:=hb.le hw
 rcases hx with⟨a,c,rfl,hcells⟩|⟨rfl,c,rfl⟩
 ·
  have grown:∀ (old need:Nat),need=(L++M).length→need≤4611686018427387904→∀ D:List Value,D.length=(grownCap w need old e-need)*sh.length→
    eU ⟨w.heap.size,grownCap w need old e,false,0,bT⟩ (some (.cells (aH sh (L++M)++D).toArray e (0,0))) sh (L++M) e false:=by
   intro old need hneed hle D hD
   have g1:=grownCap_ge w need old e
   have g2:=grownCap_le_maxLen w need old e (by unfold maxLen;omega)
   refine .inr ⟨rfl,D,rfl,?_,g2,fun q=>by cases q⟩
   rw[List.length_append,aU,hD,←hneed,←Nat.add_mul]
   show (need+(grownCap w need old e-need))*sh.length=grownCap w need old e*sh.length
   congr 1;omega
  rcases hb with⟨hnil,rfl,hcap⟩|⟨hnil,rest,hcell,hlen2,hmax,_⟩
  ·rw[hnil]at hv
   simp only[if_true]at hv
   subst hv
   by_cases hM:M=[]
   ·subst hM
    refine⟨.slice none 0 0,w,b,?_,rfl,rfl,rfl,Nat.le_refl _,fun _ _ _=>rfl,by rw[hnil];rfl,.inl ⟨hnil,rfl,hcap⟩,.inl hnil,fun _=>rfl,hb0⟩
    have hf:=run_firstCells_some (P:=P) w inf.size 0 a 0 c [] (by simp) (by intro j u hu;simp at hu)
    simp [Builtin.append_,run_underlying ht,sizeOf,typeInfo,hi,Builtin.lenOf,Builtin.firstCells,loadCells,loadCellsFrom]
   ·have hMp:0<M.length:=List.length_pos_iff.2 hM
    have hr:=run_append_nil (P:=P) w t ty e inf z ht hi hz a M.length c (aH sh M) (by rw[lM,hsz]) hcells hMp (by omega) (by simp only[List.length_nil,Nat.zero_add]at hlen;omega)
    refine⟨_,_,⟨w.heap.size,grownCap w M.length 0 e,false,0,bT⟩,hr,rfl,rfl,rfl,by simp,fun k hk _=>Below.heap_alloc w.drew _ k (by simpa using hk),by simp,?_,.inr ⟨by simp,.inl (Nat.le_refl _)⟩,fun q=>by simp only[List.length_nil]at q;omega,rfl⟩
    have hD:(Builtin.zeroCells z.cells (grownCap w M.length 0 e-M.length)).toList.length=(grownCap w M.length 0 e-M.length)*sh.length:=by
     have h1:=size_zeroCells z.cells (grownCap w M.length 0 e-M.length)
     have h2:z.cells.size=sh.length:=by have:=congrArg List.length hzc;simpa using this
     rw[h2]at h1;simpa using h1
    have hg:=grown 0 M.length (by simp) (by simp at h62;omega) _ hD
    show eU _ (w.drew.heap.push _)[w.heap.size]? sh ([]++M) e false
    rw[show w.heap.size=w.drew.heap.size by simp,Array.getElem?_push,if_pos rfl]
    simp only[List.nil_append]at hg ⊢
    have e1:(aH sh M).toArray++Builtin.zeroCells z.cells (grownCap w M.length 0 e-M.length)=(aH sh M++(Builtin.zeroCells z.cells (grownCap w M.length 0 e-M.length)).toList).toArray:=by
     apply Array.ext'
     simp
    rw[e1]
    exact hg
  ·rw[hnil]at hv
   simp only[Bool.false_eq_true,if_false]at hv
   subst hv
   have hbs:b.blk<w.heap.size:=by
    rcases hblt with q|q
    ·rw[hnil]at q;cases q
    ·exact q
   by_cases hroom:L.length+M.length≤b.cap
   ·have hmul:=Nat.mul_le_mul_right sh.length hroom
    rw[Nat.add_mul]at hmul
    have hr:=run_append_room (P:=P) w t ty e inf ht hi b.blk L.length b.cap (aH sh L++rest).toArray hcell a M.length c (aH sh M) (by rw[lM,hsz]) hcells one hroom (by rw[hsz,lM];simp only[List.size_toArray];omega)
    refine⟨_,_,b,hr,rfl,rfl,rfl,by simp,fun k hk hk'=>setRow_other w b.blk k _ (by rcases hk' with q|q;(rw[hnil]at q;cases q);exact q),by rw[hnil];simp,?_,.inr ⟨by simpa using hbs,.inr ⟨hnil,rfl⟩⟩,fun _=>rfl,hb0⟩
    rw[setRow_heap w b.blk _ _ e (0,0) hcell]
    have e1:((aH sh L++rest).toArray.toList.take (L.length*inf.size)++aH sh M++(aH sh L++rest).toArray.toList.drop (L.length*inf.size+(aH sh M).length))=aH sh (L++M)++rest.drop (aH sh M).length:=by
     rw[hsz,←lL,dM]
     simp only[List.take_left,List.drop_append,List.append_assoc]
     congr 2
     rw[List.drop_eq_nil_of_le (by omega)]
     simp
    rw[e1]
    refine .inr ⟨hnil,_,rfl,?_,hmax,fun q=>by cases q⟩
    rw[List.length_append,aU,List.length_drop,lM,List.length_append,Nat.add_mul]
    rw[List.length_append,lL]at hlen2
    omega
   ·have hr:=run_append_grow (P:=P) w t ty e inf z ht hi hz ⟨b.blk,0,none⟩ L.length b.cap (aH sh L) (by rw[lL,hsz]) (by
      intro j u hu
      rw[bJ]
      have hj:j<(aH sh L).length:=(List.getElem?_eq_some_iff.1 hu).1
      simp only[World.cell?,hcell,Nat.zero_add]
      simp only[Option.isSome_none,Bool.false_eq_true,if_false,List.getElem?_toArray]
      rw[List.getElem?_append_left hj,hu]) a M.length c (aH sh M) (by rw[lM,hsz]) hcells (by omega) (by omega) (growslice_fits (by omega) hlen)
    refine⟨_,_,⟨w.heap.size,grownCap w (L.length+M.length) b.cap e,false,0,bT⟩,hr,rfl,rfl,rfl,by simp,fun k hk _=>Below.heap_alloc w.drew _ k (by simpa using hk),by simp,?_,.inr ⟨by simp,.inl (Nat.le_refl _)⟩,fun q=>absurd q hroom,rfl⟩
    have hD:(Builtin.zeroCells z.cells (grownCap w (L.length+M.length) b.cap e-(L.length+M.length))).toList.length=(grownCap w (L.length+M.length) b.cap e-(L.length+M.length))*sh.length:=by
     have h1:=size_zeroCells z.cells (grownCap w (L.length+M.length) b.cap e-(L.length+M.length))
     have h2:z.cells.size=sh.length:=by have:=congrArg List.length hzc;simpa using this
     rw[h2]at h1;simpa using h1
    have hg:=grown b.cap (L.length+M.length) (by simp) h62 _ hD
    show eU _ (w.drew.heap.push _)[w.heap.size]? sh (L++M) e false
    rw[show w.heap.size=w.drew.heap.size by simp,Array.getElem?_push,if_pos rfl]
    have e1:(aH sh L).toArray++(aH sh M).toArray++Builtin.zeroCells z.cells (grownCap w (L.length+M.length) b.cap e-(L.length+M.length))=(aH sh (L++M)++(Builtin.zeroCells z.cells (grownCap w (L.length+M.length) b.cap e-(L.length+M.length))).toList).toArray:=by
     apply Array.ext'
     simp [dM]
    rw[e1]
    exact hg
 ·have hv2:∃ base,v = .slice base L.length b.cap:=by
   cases q:b.nil
   ·rw[q]at hv;exact⟨_,hv⟩
   ·rw[q]at hv
    rcases hb with⟨_,rfl,hc⟩|⟨z,_⟩
    ·rw[hc];exact⟨_,hv⟩
    ·rw[q]at z;cases z
  obtain⟨base,hv2⟩:=hv2
  refine⟨v,w,b,?_,rfl,rfl,rfl,Nat.le_refl _,fun _ _ _=>rfl,by rw[List.append_nil];exact hv,?_,?_,fun _=>rfl,hb0⟩
  ·rw[hv2]
   cases base<;>simp [Builtin.append_,run_underlying ht,sizeOf,typeInfo,hi,Builtin.lenOf,Builtin.firstCells,hLc,storeCells]
  ·rw[List.append_nil]
   rcases hb with q|⟨h1,rest,h2,h3,h4,_⟩
   ·exact .inl q
   ·exact .inr ⟨h1,rest,h2,h3,h4,fun q=>by cases q⟩
  ·rcases hblt with q|q
   ·exact .inl q
   ·cases z:b.nil
    ·exact .inr ⟨q,.inr ⟨rfl,rfl⟩⟩
    ·exact .inl rfl
theorem aAM {P:Program} {t ty e:TypeId} {inf:TypeInfo} {z:Value} {sh:List CK} (w:World) (ht:P.underlying t=some (.slice e)) (hi:P.info? e=some inf) (hz:inf.zero=some z) (hsz:inf.size=sh.length) (hzc:z.cells.toList=sh.map fun c=>c.mk 0) (hw:0<sh.length)
  {b:Loc} {v xv:Value} {L M:List (List Int)} {ex:Bool} (hv:v=if b.nil then .slice none 0 0 else .slice (some ⟨b.blk,0,none⟩) L.length b.cap) (hb:eU b w.heap[b.blk]? sh L e ex)
  (hx:(∃ a c,xv = .slice (some a) M.length c∧∀ j u,(aH sh M)[j]?=some u→w.cell? (a.add j)=some u)∨(M=[]∧∃ c,xv = .slice none 0 c))
  (hlen:(L.length+M.length)*inf.bytes≤140737488355328) (h62:L.length+M.length≤4611686018427387904) (hfull:b.cap<L.length+M.length):
  ∃ v' w' b',(Builtin.append_ #[t,t] ty #[v,xv]).run P w = .ok v' w'∧w'.os=w.os∧w'.tape=w.tape∧w'.output=w.output∧w.heap.size≤w'.heap.size∧
   (∀ k,k<w.heap.size→w'.heap[k]?=w.heap[k]?)∧
   v' = .slice (some ⟨b'.blk,0,none⟩) (L++M).length b'.cap∧eU b' w'.heap[b'.blk]? sh (L++M) e false∧b'.nil=false∧b'.blk<w'.heap.size∧w.heap.size≤b'.blk∧b'.base=0:=by
 have lM:=aU sh M
 have lL:=aU sh L
 have hLc:L.length≤b.cap:=hb.le hw
 have hMp:0<M.length:=by omega
 rcases hx with⟨a,c,rfl,hcells⟩|⟨rfl,_⟩
 rotate_left
 ·simp at hMp
 have grown:∀ (old need:Nat),need=(L++M).length→need≤4611686018427387904→∀ D:List Value,D.length=(grownCap w need old e-need)*sh.length→
   eU ⟨w.heap.size,grownCap w need old e,false,0,bT⟩ (some (.cells (aH sh (L++M)++D).toArray e (0,0))) sh (L++M) e false:=by
  intro old need hneed hle D hD
  have g1:=grownCap_ge w need old e
  have g2:=grownCap_le_maxLen w need old e (by unfold maxLen;omega)
  refine .inr ⟨rfl,D,rfl,?_,g2,fun q=>by cases q⟩
  rw[List.length_append,aU,hD,←hneed,←Nat.add_mul]
  show (need+(grownCap w need old e-need))*sh.length=grownCap w need old e*sh.length
  congr 1;omega
 have hzs:z.cells.size=sh.length:=by have:=congrArg List.length hzc;simpa using this
 rcases hb with⟨hnil,rfl,hcap⟩|⟨hnil,rest,hcell,hlen2,hmax,_⟩
 ·rw[hnil]at hv
  simp only[if_true]at hv
  subst hv
  have hr:=run_append_nil (P:=P) w t ty e inf z ht hi hz a M.length c (aH sh M) (by rw[lM,hsz]) hcells hMp (by omega) (by simp only[List.length_nil,Nat.zero_add]at hlen;omega)
  refine⟨_,_,⟨w.heap.size,grownCap w M.length 0 e,false,0,bT⟩,hr,rfl,rfl,rfl,by simp,fun k hk=>Below.heap_alloc w.drew _ k (by simpa using hk),by simp,?_,rfl,by simp,Nat.le_refl _,rfl⟩
  have hD:(Builtin.zeroCells z.cells (grownCap w M.length 0 e-M.length)).toList.length=(grownCap w M.length 0 e-M.length)*sh.length:=by
   have h1:=size_zeroCells z.cells (grownCap w M.length 0 e-M.length)
   rw[hzs]at h1;simpa using h1
  have hg:=grown 0 M.length (by simp) (by simp at h62;omega) _ hD
  show eU _ (w.drew.heap.push _)[w.heap.size]? sh ([]++M) e false
  rw[show w.heap.size=w.drew.heap.size by simp,Array.getElem?_push,if_pos rfl]
  simp only[List.nil_append]at hg ⊢
  have e1:(aH sh M).toArray++Builtin.zeroCells z.cells (grownCap w M.length 0 e-M.length)=(aH sh M++(Builtin.zeroCells z.cells (grownCap w M.length 0 e-M.length)).toList).toArray:=by
   apply Array.ext'
   simp
  rw[e1]
  exact hg
 ·rw[hnil]at hv
  simp only[Bool.false_eq_true,if_false]at hv
  subst hv
  have hr:=run_append_grow (P:=P) w t ty e inf z ht hi hz ⟨b.blk,0,none⟩ L.length b.cap (aH sh L) (by rw[lL,hsz]) (by
    intro j u hu
    rw[bJ]
    have hj:j<(aH sh L).length:=(List.getElem?_eq_some_iff.1 hu).1
    simp only[World.cell?,hcell,Nat.zero_add]
    simp only[Option.isSome_none,Bool.false_eq_true,if_false,List.getElem?_toArray]
    rw[List.getElem?_append_left hj,hu]) a M.length c (aH sh M) (by rw[lM,hsz]) hcells hfull (by omega) (growslice_fits hfull hlen)
  refine⟨_,_,⟨w.heap.size,grownCap w (L.length+M.length) b.cap e,false,0,bT⟩,hr,rfl,rfl,rfl,by simp,fun k hk=>Below.heap_alloc w.drew _ k (by simpa using hk),by simp,?_,rfl,by simp,Nat.le_refl _,rfl⟩
  have hD:(Builtin.zeroCells z.cells (grownCap w (L.length+M.length) b.cap e-(L.length+M.length))).toList.length=(grownCap w (L.length+M.length) b.cap e-(L.length+M.length))*sh.length:=by
   have h1:=size_zeroCells z.cells (grownCap w (L.length+M.length) b.cap e-(L.length+M.length))
   rw[hzs]at h1;simpa using h1
  have hg:=grown b.cap (L.length+M.length) (by simp) h62 _ hD
  show eU _ (w.drew.heap.push _)[w.heap.size]? sh (L++M) e false
  rw[show w.heap.size=w.drew.heap.size by simp,Array.getElem?_push,if_pos rfl]
  have e1:(aH sh L).toArray++(aH sh M).toArray++Builtin.zeroCells z.cells (grownCap w (L.length+M.length) b.cap e-(L.length+M.length))=(aH sh (L++M)++(Builtin.zeroCells z.cells (grownCap w (L.length+M.length) b.cap e-(L.length+M.length))).toList).toArray:=by
   apply Array.ext'
   simp [dM]
  rw[e1]
  exact hg
end Sx
end Go.Proofs.Ythiehfhphgkaeaa
namespace Go.Proofs.Ythiehfhphgkaeaa
namespace Sx
open Go Go.RowKit
section
variable {ρ:Nat→Int} {P:Program} {X:Ctx} {gl:List (Nat × Nat)}
theorem yW {α:aR} {σ σ1:aG} {w w':World} {b b':Loc} {cs:List SV} {vs:List Value} {T:TypeId} (hW:RelW X.G ρ gl α σ w)
  (hold:(σ1=σ∧b.nil=true)∨∃ id,α id=some b∧fV σ id∧σ1=σ.set id none) (hgl:∀ p,p ∈ gl→p.2<σ.length)
  (hos:w'.os=w.os) (htape:w'.tape=w.tape) (hout:w'.output=w.output) (hsz:w.heap.size≤w'.heap.size) (hsame:∀ k,k<w.heap.size→(b.nil=true∨k≠b.blk)→w'.heap[k]?=w.heap[k]?)
  (hb':b'.nil=true∨(b'.blk<w'.heap.size∧(w.heap.size≤b'.blk∨(b.nil=false∧b'.blk=b.blk)))) (hob:dW b' w'.heap[b'.blk]? vs T) (r:∀ α':aR,(∀ id c,α id=some c→α' id=some c)→α' σ.length=some b'→SV.RL X.G ρ α' cs vs) (hsub:∀ k us,b'.sub k=some us→∃ j c,α j=some c∧c.sub k=some us):
  ∃ α',α' σ.length=some b'∧RelW X.G ρ gl α' (σ1++[some (cs,T)]) w'∧Ext σ.length σ (σ1++[some (cs,T)]) α α' w w':=by
 have hl1:σ1.length=σ.length:=by
  rcases hold with⟨rfl,_⟩|⟨id,_,_,rfl⟩
  ·rfl
  ·simp
 let α':aR:=fun id=>if id=σ.length then some b' else α id
 have aN:α' σ.length=some b':=by simp [α']
 have aO:∀ id,id≠σ.length→α' id=α id:=fun id e=>by simp [α',e]
 have hne:∀ id b,α id=some b→id≠σ.length:=fun id b e q=>by have:=(hW.dom id b e).1;omega
 have mono:∀ id b,α id=some b→α' id=some b:=fun id b e=>by rw[aO id (hne id b e)];exact e
 have old:∀ id c,α id=some c→c.nil=false→c.blk<w.heap.size:=by
  intro id c e hc
  rcases(hW.dom id c e).2 with q|q
  ·rw[hc]at q;cases q
  ·exact q
 
 have get1:∀ i q,(σ1++[some (cs,T)])[i]?=some (some q)→i<σ.length→σ[i]?=some (some q)∧∀ c,α i=some c→c.nil=false→(b.nil=true∨c.blk≠b.blk):=by
  intro i q e hi
  rw[List.getElem?_append_left (by omega)]at e
  rcases hold with⟨rfl,hn⟩|⟨id,ha,hv,rfl⟩
  ·exact⟨e,fun _ _ _ => .inl hn⟩
  ·by_cases hid:i=id
   ·subst hid
    rw[List.getElem?_set_self (by omega)]at e;cases e
   ·rw[List.getElem?_set_ne (fun q=>hid q.symm)]at e
    refine⟨e,fun c hc hcn=>?_⟩
    cases hbn:b.nil
    ·exact .inr fun q=>hid (hW.only (b:=c) e hc ha hcn hbn q.symm hv).symm
    ·exact .inl rfl
 have vis1:∀ i,i<σ.length→fV (σ1++[some (cs,T)]) i→fV σ i:=fun i hi ⟨q,hq,hv⟩=>⟨q,(get1 i q hq hi).1,hv⟩
 have newold:∀ j c,α j=some c→c.nil=false→b'.nil=false→b'.blk=c.blk→(∃ q,(σ1++[some (cs,T)])[j]?=some (some q))→False:=by
  intro j c ej hc hn hbc ⟨q,vj⟩
  have hj:=(hW.dom j c ej).1
  have h1:=old j c ej hc
  obtain⟨_,h2⟩:=get1 j q vj hj
  rcases hb' with z|⟨_,z|⟨z1,z2⟩⟩
  ·rw[hn]at z;cases z
  ·omega
  ·rcases h2 c ej hc with h3|h3
   ·rw[z1]at h3;cases h3
   ·omega
 refine⟨α',aN,lY (fun hX=>⟨?_,?_,?_,fun p hp=>mono _ _ (hW.glob p hp),?_,fun id c k us e q=>?_⟩) ⟨hos,htape,hout,hsz,by simp;omega,mono,?_,?_,?_,fun id c k us e q=>?_⟩⟩
 ·intro id c e
  by_cases hid:id=σ.length
  ·subst hid;rw[aN]at e;cases e
   exact⟨by simp;omega,hb'.imp (fun x=>x) (fun x=>x.1)⟩
  ·rw[aO id hid]at e
   obtain⟨h1,h2⟩:=hW.dom id c e
   exact⟨by simp;omega,h2.imp (fun x=>x) (fun x=>by omega)⟩
 ·intro i j c d ei ej hc hd hcd vi vj
  by_cases hi:i=σ.length<;>by_cases hj:j=σ.length
  ·rw[hi,hj]
  ·rw[hi,aN]at ei;rw[aO j hj]at ej;cases ei
   exact(newold j d ej hd hc hcd (vj.imp fun _ h=>h.1)).elim
  ·rw[hj,aN]at ej;rw[aO i hi]at ei;cases ej
   exact(newold i c ei hc hd hcd.symm (vi.imp fun _ h=>h.1)).elim
  ·rw[aO i hi]at ei;rw[aO j hj]at ej
   exact hW.inj i j c d ei ej hc hd hcd (vis1 i (hW.dom i c ei).1 vi) (vis1 j (hW.dom j d ej).1 vj)
 ·intro id c U e
  by_cases hid:id<σ.length
  ·obtain⟨e1,e2⟩:=get1 id _ e hid
   obtain⟨d,us,h1,h2,h3⟩:=hW.blk id c U e1
   exact⟨d,us,mono _ _ h1,h2.of_eq fun hd=>hsame d.blk (old id d h1 hd) (e2 d h1 hd),SV.RL_mono mono c us h3⟩
  ·have hid':id=σ.length:=by
    rcases Nat.lt_or_ge id (σ.length+1)with q|q
    ·omega
    ·rw[List.getElem?_eq_none (by simp;omega)]at e;cases e
   subst hid'
   rw[List.getElem?_append_right (by omega),hl1,Nat.sub_self]at e
   simp at e
   obtain⟨rfl,rfl⟩:=e
   exact⟨_,vs,aN,hob,r α' mono aN⟩
 ·intro id c U d e hU ei hd j k ej hk hkd vj
  by_cases hid:id=σ.length<;>by_cases hj:j=σ.length
  ·subst hid hj
   obtain⟨q,hq,hv⟩:=vj
   rw[e]at hq;cases hq
   rw[hU]at hv;cases hv
  ·rw[hid,aN]at ei;rw[aO j hj]at ej;cases ei
   exact newold j k ej hk hd hkd.symm (vj.imp fun _ h=>h.1)
  ·rw[hj,aN]at ej;rw[aO id hid]at ei;cases ej
   exact newold id d ei hd hk hkd ⟨_,e⟩
  ·rw[aO id hid]at ei;rw[aO j hj]at ej
   exact hW.view id c U d (get1 id _ e (hW.dom id d ei).1).1 hU ei hd j k ej hk hkd (vis1 j (hW.dom j k ej).1 vj)
 ·by_cases hid:id=σ.length
  ·subst hid;rw[aN]at e;cases e
   obtain⟨j,c,e1,e2⟩:=hsub k us q
   exact hW.sub_next hX e1 e2
  ·rw[aO id hid]at e
   exact hW.sub_next hX e q
 ·intro id c e
  by_cases hid:id=σ.length
  ·subst hid;rw[aN]at e;cases e
   refine .inr ⟨Nat.le_refl _,?_⟩
   rcases hb' with z|⟨_,z|⟨z1,z2⟩⟩
   ·exact .inl z
   ·exact .inr (.inl z)
   ·rcases hold with⟨_,q⟩|⟨id,ha,hv,_⟩
    ·rw[z1]at q;cases q
    ·exact .inr (.inr (.inl ⟨id,b,ha,z1,z2.symm,hv⟩))
  ·rw[aO id hid]at e;exact .inl e
 ·intro k hk hh
  refine hsame k hk ?_
  rcases hold with⟨_,q⟩|⟨id,ha,hv,_⟩
  ·exact .inl q
  ·cases hbn:b.nil
   ·exact .inr fun q=>hh id b ha hbn q.symm hv
   ·exact .inl rfl
 ·intro id c e hv
  exact vis1 id (hW.dom id c e).1 hv
 ·by_cases hid:id=σ.length
  ·subst hid;rw[aN]at e;cases e
   obtain⟨j,c,e1,e2⟩:=hsub k us q
   exact .inr (.inr (.inr ⟨j,c,us,e1,e2⟩))
  ·rw[aO id hid]at e;exact .inl e
theorem lT {α:aR} {σ σ1:aG} {w w':World} {b b':Loc} {cs:List SV} {vs:List Value} {T:TypeId} (hW:RelW X.G ρ gl α σ w)
  (hold:(σ1=σ∧b.nil=true)∨∃ id,α id=some b∧fV σ id∧σ1=σ.set id none) (hgl:∀ p,p ∈ gl→p.2<σ.length)
  (hos:w'.os=w.os) (htape:w'.tape=w.tape) (hout:w'.output=w.output) (hsz:w.heap.size≤w'.heap.size) (hsame:∀ k,k<w.heap.size→(b.nil=true∨k≠b.blk)→w'.heap[k]?=w.heap[k]?)
  (hb':b'.nil=true∨(b'.blk<w'.heap.size∧(w.heap.size≤b'.blk∨(b.nil=false∧b'.blk=b.blk)))) (hob:dW b' w'.heap[b'.blk]? vs T) (r:SV.RL X.G ρ α cs vs) (hsub:∀ k us,b'.sub k=some us→∃ j c,α j=some c∧c.sub k=some us):
  ∃ α',α' σ.length=some b'∧RelW X.G ρ gl α' (σ1++[some (cs,T)]) w'∧Ext σ.length σ (σ1++[some (cs,T)]) α α' w w':=
 yW hW hold hgl hos htape hout hsz hsame hb' hob (fun _ hm _=>SV.RL_mono hm _ _ r) hsub
def aLK (X:Ctx) (sh:List CK) (x:SV) (σ:aG):Res (E × (E→E)):=
 match x with
 | .slice id off len _=>match σ[id]? with
  |some (some (cs,U))=>if eS U && decide (off+len*sh.length≤cs.length) then match aA8 X sh len (cs.drop off)with
    |some R => .ok (.lit len,fun C=>aB8 C R)
    |none => .fail 350
   else .fail 351
  |_ => .fail 352
 | .own id m _=>match σ[id]? with
  |some (some ([.vec sh' C n _],U))=>if (decide (aS≤U) ||vw U) && decide (sh'=sh) && E.eqb m n then .ok (m,fun D => .app 94 (.cons D (.cons C .nil))) else .fail 353
  |_ => .fail 352
 | .vsl id w off m _=>match σ[id]? with
  |some (some ([.vec sh' C n _],U))=>if (decide (aS≤U) ||vw U) && decide (sh'=sh) && decide (w=sh.length) then
    (Res.test X (.cmp .le (E.mkOp .add off m) n)).bind fun t=>if t then .ok (m,fun D => .app 94 (.cons D (.cons (.app 95 (.cons C (.cons off (.cons m .nil)))) .nil))) else .fail 354
   else .fail 353
  |_ => .fail 352
 | .con (.slice none 0 0) => .ok (.lit 0,fun C=>C)
 |_ => .fail 355
theorem aCM (hX:X.Ok ρ) {α:aR} {σ:aG} {w:World} {sh:List CK} {x:SV} {xv:Value} {m:E} {f:E→E} (hw:0<sh.length) (h:aLK X sh x σ = .ok (m,f)) (hW:RelW X.G ρ gl α σ w) (rx:SV.R X.G ρ α x xv):
  ∃ M:List (List Int),(M.length:Int)=m.den X.G ρ∧(∀ C,Lc.dec ((f C).den X.G ρ)=Lc.dec (C.den X.G ρ)++M)∧
   ((∃ a c,xv = .slice (some a) M.length c∧∀ j u,(aH sh M)[j]?=some u→w.cell? (a.add j)=some u)∨(M=[]∧∃ c,xv = .slice none 0 c)):=by
 unfold aLK at h
 split at h
 ·rename_i id off len cap
  split at h
  case h_2=>cases h
  rename_i cs U hs
  split at h
  case isFalse=>cases h
  rename_i hg
  simp only[Bool.and_eq_true,decide_eq_true_eq]at hg
  obtain⟨hU,hle⟩:=hg
  split at h
  case h_2=>cases h
  rename_i R hR
  cases h
  simp only[SV.R]at rx
  obtain⟨b,hb,rfl⟩:=rx
  obtain⟨b',vs,h1,h2,h3⟩:=hW.blk id cs U hs
  rw[hb]at h1;cases h1
  have h2':=((cJ hU).1 h2).2
  obtain⟨e1,e2⟩:=aEe hX hR (fW off h3)
  refine⟨R.map fun r=>r.map (E.den X.G ρ),by simp [e2,E.den],fun C=>yH hX R C,.inl ⟨⟨b.blk,off,none⟩,cap,by simp [e2],?_⟩⟩
  intro j u hu
  rw[bJ,←e1,List.getElem?_take]at *
  split at hu
  ·rw[List.getElem?_drop]at hu
   simp [World.cell?,h2',hu]
  ·cases hu
 ·rename_i id m' cap
  split at h
  case h_2=>cases h
  rename_i sh' C n ex U hs
  split at h
  case isFalse=>cases h
  rename_i hg
  rw[Bool.and_eq_true,Bool.and_eq_true,decide_eq_true_eq]at hg
  obtain⟨⟨hU,rfl⟩,hmn⟩:=hg
  cases h
  have hmn:=E.eqb_eq _ _ hmn
  subst hmn
  simp only[SV.R]at rx
  obtain⟨b,hb,h0,rfl,hnil,hle,_⟩:=rx
  obtain⟨b',hb',_,hlen,hv⟩:=xP hW hs hU
  rw[hb]at hb';cases hb'
  refine⟨Lc.dec (C.den X.G ρ),hlen,?_,?_⟩
  ·intro D
   simp only[E.den,EL.den]
   rw[hX.gi.lists _ _ (by omega) (by omega)]
   simp only[Lc.fn,Lc.op94,Lc.dec_enc]
  ·rcases hv with⟨q1,q2⟩|⟨q1,cs,T',fz,q2,q3⟩
   ·exact .inr ⟨q2,0,by rw[q1];rfl⟩
   ·refine .inl ⟨⟨b.blk,b.base,none⟩,b.cap,?_,?_⟩
    ·rw[q1,←hlen];rfl
    ·intro j u hu
     rw[bJ]
     simp only[World.cell?,q2,Option.isSome_none,Bool.false_eq_true,if_false]
     exact q3 j u hu
 ·rename_i id wd off m' cap
  split at h
  case h_2=>cases h
  rename_i sh' C n ex U hs
  split at h
  case isFalse=>cases h
  rename_i hg
  rw[Bool.and_eq_true,Bool.and_eq_true,decide_eq_true_eq,decide_eq_true_eq]at hg
  obtain⟨⟨hU,rfl⟩,rfl⟩:=hg
  replace h:=Res.bind_ok h;obtain⟨t,ht,h⟩:=h
  have ht:=Res.test_ok hX ht
  cases t
  case false=>simp at h
  simp only[if_true]at h
  cases h
  simp only[B.den,COp.den,E.mkOp_den,IOp.den,decide_eq_true_eq]at ht
  simp only[SV.R]at rx
  obtain⟨b,hb,h0,ho,hv2⟩:=rx
  obtain⟨b',hb',_,hlen,hv⟩:=xP hW hs hU
  rw[hb]at hb';cases hb'
  obtain⟨L,hL⟩:∃ L,L=Lc.dec (C.den X.G ρ):=⟨_,rfl⟩
  rw[←hL]at hv hlen
  have hlm:((L.drop (off.den X.G ρ).toNat).take (m.den X.G ρ).toNat).length=(m.den X.G ρ).toNat:=by simp;omega
  refine⟨(L.drop (off.den X.G ρ).toNat).take (m.den X.G ρ).toNat,by rw[hlm];omega,?_,?_⟩
  ·intro D
   simp only[E.den,EL.den]
   rw[hX.gi.lists 94 _ (by omega) (by omega),hX.gi.lists 95 _ (by omega) (by omega)]
   simp only[Lc.fn,Lc.op94,Lc.op95,Lc.dec_enc,←hL]
  ·rw[hlm]
   rcases hv2 with⟨q1,a,c,rfl,_⟩|⟨q1,c,rfl,q2,_⟩
   ·have e0:(L.drop (off.den X.G ρ).toNat).take (m.den X.G ρ).toNat=[]:=by rw[q1];simp
    rw[e0,q1]
    cases a with
    |none=>exact .inr ⟨rfl,c,rfl⟩
    |some a=>exact .inl ⟨a,c,rfl,fun j u hu=>by simp [aH]at hu⟩
   ·refine .inl ⟨_,c,rfl,?_⟩
    rcases hv with⟨z,_⟩|⟨_,cs,T',fz,z,z2⟩
    ·rw[q1]at z;cases z
    intro j u hu
    rw[bJ]
    have e1:L=L.take (off.den X.G ρ).toNat++(L.drop (off.den X.G ρ).toNat).take (m.den X.G ρ).toNat++(L.drop (off.den X.G ρ).toNat).drop (m.den X.G ρ).toNat:=by rw[List.append_assoc,List.take_append_drop,List.take_append_drop]
    have hlo:(aH sh' (L.take (off.den X.G ρ).toNat)).length=(off.den X.G ρ).toNat*sh'.length:=by rw[aU,List.length_take,Nat.min_eq_left (by omega)]
    simp only[World.cell?,z,Option.isSome_none,Bool.false_eq_true,if_false]
    rw[Nat.add_assoc]
    refine z2 _ u ?_
    rw[e1,dM,dM,List.append_assoc,List.getElem?_append_right (by rw[hlo];omega),hlo,show (off.den X.G ρ).toNat*sh'.length+j-(off.den X.G ρ).toNat*sh'.length=j by omega,List.getElem?_append_left (List.getElem?_eq_some_iff.1 hu).1]
    exact hu
 ·cases h
  simp only[SV.R]at rx
  exact⟨[],by simp [E.den],fun C=>by simp,.inr ⟨rfl,0,rx⟩⟩
 ·cases h
def rK (gl:List (Nat × Nat)) (e:TypeId) (inf:TypeInfo) (s x:SV) (σ:aG):Res (SV × aG):=
 match s,x,inf.zero with
 | .con (.slice none 0 0),.slice id off len _,some z=>match σ[id]? with
  |some (some (cs,U))=>
   if eS U && decide (0<len) && decide (0<inf.size) && decide (z.cells.size=inf.size) && decide (off+len*inf.size≤cs.length) && decide (len*inf.bytes≤140737488355328) && decide (len≤4611686018427387904) then
    .ok (.own σ.length (.lit len) none,σ++[some ([.tuple [.agg ((cs.drop off).take (len*inf.size)),.int .i64 (.lit inf.size),.bool (.lit false)]],aS+e)])
   else .fail 368
  |_ => .fail 369
 |_,_,_ => .fail 364
theorem xV {P:Program} {t ty e:TypeId} {inf:TypeInfo} (hu:P.underlying t=some (.slice e)) (hinf:P.info? e=some inf) {α:aR} {σ σ':aG} {w:World} {l x s:SV} {lv xv:Value} (hgl:∀ p,p ∈ gl→p.2<σ.length) (h:rK gl e inf l x σ = .ok (s,σ'))
  (hW:RelW X.G ρ gl α σ w) (rl:SV.R X.G ρ α l lv) (rx:SV.R X.G ρ α x xv):
  ∃ v w' α',(Builtin.append_ #[t,t] ty #[lv,xv]).run P w = .ok v w'∧SV.R X.G ρ α' s v∧RelW X.G ρ gl α' σ' w'∧Ext σ.length σ σ' α α' w w':=by
 unfold rK at h
 split at h
 case h_2=>cases h
 rename_i id off len cap z hz
 split at h
 case h_2=>cases h
 rename_i cs U hs
 split at h
 case isFalse=>cases h
 rename_i hg
 simp only[Bool.and_eq_true,decide_eq_true_eq]at hg
 obtain⟨⟨⟨⟨⟨⟨hU,hlen⟩,hsz⟩,hzs⟩,hle⟩,hby⟩,h62⟩:=hg
 cases h
 simp only[SV.R]at rl rx
 subst rl
 obtain⟨b,hb,rfl⟩:=rx
 obtain⟨b',vs,h1,h2,h3⟩:=hW.blk id cs U hs
 rw[hb]at h1;cases h1
 have h2':=((cJ hU).1 h2).2
 have hvl:=bP h3
 have hcl:((vs.drop off).take (len*inf.size)).length=len*inf.size:=by
  rw[List.length_take,List.length_drop];omega
 have hcells:∀ j u,((vs.drop off).take (len*inf.size))[j]?=some u→w.cell? (Addr.add ⟨b.blk,off,none⟩ j)=some u:=by
  intro j u hu
  rw[bJ,List.getElem?_take]at *
  split at hu
  ·rw[List.getElem?_drop]at hu
   simp [World.cell?,h2',hu]
  ·cases hu
 have hr:=run_append_nil (P:=P) w t ty e inf z hu hinf hz ⟨b.blk,off,none⟩ len cap ((vs.drop off).take (len*inf.size)) hcl hcells hlen (by omega) (by omega)
 have g1:=grownCap_ge w len 0 e
 have g2:=grownCap_le_maxLen w len 0 e (by unfold maxLen;omega)
 have hT:aS≤aS+e:=Nat.le_add_right _ _
 have hzl:(Builtin.zeroCells z.cells (grownCap w len 0 e-len)).size=(grownCap w len 0 e-len)*inf.size:=by
  rw[size_zeroCells,hzs]
 obtain⟨W',hW'⟩:∃ W',W'=w.drew.alloc (.cells (((vs.drop off).take (len*inf.size)).toArray++Builtin.zeroCells z.cells (grownCap w len 0 e-len)) e):=⟨_,rfl⟩
 have hheap:W'.heap[w.heap.size]?=some (.cells (((vs.drop off).take (len*inf.size))++(Builtin.zeroCells z.cells (grownCap w len 0 e-len)).toList).toArray e (0,0)):=by
  rw[hW']
  show (w.drew.heap.push _)[w.heap.size]?=_
  rw[show w.heap.size=w.drew.heap.size by simp,Array.getElem?_push,if_pos rfl]
  congr 2
  apply Array.ext'
  simp
 have hob:dW ⟨w.heap.size,grownCap w len 0 e,false,0,bT⟩ W'.heap[w.heap.size]? [.tuple #[.agg ((vs.drop off).take (len*inf.size)).toArray,.int .i64 inf.size,.bool false]] (aS+e):=by
  rw[cE hT]
  refine⟨rfl,?_⟩
  refine⟨_,inf.size,false,rfl,hsz,.inr ⟨rfl,_,by rw[hheap,Nat.add_sub_cancel_left],?_,g2,fun q=>by cases q⟩⟩
  rw[List.length_append,hcl,Array.length_toList,hzl,←Nat.add_mul]
  show (len+(grownCap w len 0 e-len))*inf.size=grownCap w len 0 e*inf.size
  congr 1;omega
 have hcr:SV.RL X.G ρ α [.tuple [.agg ((cs.drop off).take (len*inf.size)),.int .i64 (.lit inf.size),.bool (.lit false)]] [.tuple #[.agg ((vs.drop off).take (len*inf.size)).toArray,.int .i64 inf.size,.bool false]]:=by
  refine aV ?_ aZ
  simp only[SV.R]
  refine⟨[.agg ((vs.drop off).take (len*inf.size)).toArray,.int .i64 inf.size,.bool false],rfl,aV ?_ (aV ?_ (aV ?_ aZ))⟩
  ·simp only[SV.R];exact⟨_,rfl,gM _ (fW off h3)⟩
  ·simp only[SV.R,E.den]
  ·simp only[SV.R,B.den]
 obtain⟨α',a1,a2,a3⟩:=lT (σ1:=σ) (b:=⟨0,0,true,0,bT⟩) (b':=⟨w.heap.size,grownCap w len 0 e,false,0,bT⟩) (w':=W') hW (.inl ⟨rfl,rfl⟩) hgl (by rw[hW'];rfl) (by rw[hW'];rfl) (by rw[hW'];rfl) (by rw[hW'];simp)
  (fun k hk _=>by rw[hW'];exact Below.heap_alloc w.drew _ k (by simpa using hk)) (.inr ⟨by rw[hW'];simp,.inl (Nat.le_refl _)⟩) hob hcr (fun _ _ q=>by cases q)
 refine⟨_,W',α',by rw[hr,hW'],?_,a2,a3⟩
 simp only[SV.R,E.den]
 refine⟨_,a1,Int.natCast_nonneg _,?_,(fun q=>by cases q),?_,(fun e he _=>by cases he)⟩
 ·simp
 ·show (len:Int)≤((grownCap w len 0 e:Nat):Int)
  omega
def sH (X:Ctx) (e:TypeId) (inf:TypeInfo) (s x:SV) (σ:aG):Res (SV × aG):=
 match s,x,inf.zero with
 | .own id n _,.slice id2 off len _,some z=>match σ[id]?,σ[id2]? with
  |some (some ([.tuple [.any,.int .i64 (.lit wd),.bool (.lit false)]],T)),some (some (cs,U))=>
   if decide (T=aS+e) && decide (wd=inf.size) && eS U && decide (0<len) && decide (0<inf.size) && decide (z.cells.size=inf.size) && decide (off+len*inf.size≤cs.length) && ((cs.drop off).take (len*inf.size)).all SV.oneCell then
    eQ (E.mkOp .add n (.lit len)) fun n1=>(Res.test X (.cmp .le n1 (.lit (1099511627776 / (inf.bytes:Int))))).bind fun t=>
     if t then .ok (.own σ.length n1 none,σ.set id none++[some ([.tuple [.any,.int .i64 (.lit inf.size),.bool (.lit false)]],aS+e)]) else .fail 370
   else .fail 371
  |_,_ => .fail 372
 |_,_,_ => .fail 373
theorem xW (hX:X.Ok ρ) {P:Program} {t ty e:TypeId} {inf:TypeInfo} (hu:P.underlying t=some (.slice e)) (hinf:P.info? e=some inf) {α:aR} {σ σ':aG} {w:World} {l x s:SV} {lv xv:Value} (hgl:∀ p,p ∈ gl→p.2<σ.length) (h:sH X e inf l x σ = .ok (s,σ'))
  (hW:RelW X.G ρ gl α σ w) (rl:SV.R X.G ρ α l lv) (rx:SV.R X.G ρ α x xv):
  ∃ v w' α',(Builtin.append_ #[t,t] ty #[lv,xv]).run P w = .ok v w'∧SV.R X.G ρ α' s v∧RelW X.G ρ gl α' σ' w'∧Ext σ.length σ σ' α α' w w':=by
 unfold sH at h
 split at h
 case h_2=>cases h
 rename_i id n cp id2 off len cp2 z hz
 split at h
 case h_2=>cases h
 rename_i wd T cs U hs hs2
 split at h
 case isFalse=>cases h
 rename_i hg
 simp only[Bool.and_eq_true,decide_eq_true_eq]at hg
 obtain⟨⟨⟨⟨⟨⟨⟨rfl,rfl⟩,hU⟩,hlen⟩,hsz⟩,hzs⟩,hle⟩,hone⟩:=hg
 rw[kZ]at h
 replace h:=Res.bind_ok h;obtain⟨t1,ht,h⟩:=h
 have ht:=Res.test_ok hX ht
 split at h
 case isFalse=>cases h
 rename_i ht1
 subst ht1
 cases h
 replace ht:(E.mkOp .add n (.lit len)).den X.G ρ≤1099511627776 / (inf.bytes:Int):=of_decide_eq_true ht
 have hn1:(E.mkOp .add n (.lit len)).den X.G ρ=n.den X.G ρ+len:=by rw[E.mkOp_den];rfl
 simp only[SV.R]at rl rx
 obtain⟨b,hb,h0,rfl,hnil,hle0,_⟩:=rl
 obtain⟨c,hc,rfl⟩:=rx
 obtain⟨c',vs,h1,h2,h3⟩:=hW.blk id2 cs U hs2
 rw[hc]at h1;cases h1
 have h2':=((cJ hU).1 h2).2
 have hvl:=bP h3
 have hT:aS≤aS+e:=Nat.le_add_right _ _
 obtain⟨b',us,g1,g2,g3⟩:=hW.blk id _ _ hs
 rw[hb]at g1;cases g1
 rw[cE hT,Nat.add_sub_cancel_left]at g2
 obtain⟨hb0,cells,w0,ex0,rfl,hw0,g4⟩:=g2
 have hw0:w0=inf.size:=by
  simp only[SV.RL,SV.R]at g3
  obtain⟨v,vs',e1,⟨cs3,e2,e3⟩,_⟩:=g3
  cases e1
  obtain⟨v1,r1,q1,_,v2,r2,q2,q3,_⟩:=e3
  subst q1 q2 q3
  simp only[Value.tuple.injEq]at e2
  have:=congrArg Array.toList e2
  simp only[List.cons.injEq,E.den,Value.int.injEq,true_and]at this
  omega
 subst hw0
 
 have hsm:(n.den X.G ρ).toNat*inf.bytes+len*inf.bytes≤140737488355328∧(n.den X.G ρ).toNat+len≤4611686018427387904:=by
  rw[hn1]at ht
  rcases Nat.eq_zero_or_pos inf.bytes with hz0|hbp
  ·rw[hz0]at ht ⊢
   simp only[Int.natCast_zero,Int.ediv_zero]at ht
   omega
  ·have h1:=Int.mul_le_mul_of_nonneg_right ht (show (0:Int)≤inf.bytes by omega)
   have h2:1099511627776 / (inf.bytes:Int)*inf.bytes≤1099511627776:=Int.ediv_mul_le _ (by omega)
   have h3:=Int.ediv_le_self (a:=1099511627776) (inf.bytes:Int) (by omega)
   refine⟨?_,by omega⟩
   rw[←Nat.add_mul]
   have h4:((((n.den X.G ρ).toNat+len)*inf.bytes:Nat):Int)=(n.den X.G ρ+len)*inf.bytes:=by rw[Int.natCast_mul,Int.natCast_add,Int.toNat_of_nonneg h0]
   omega
 obtain⟨hsm1,hsm2⟩:=hsm
 obtain⟨m,hm⟩:∃ m,m=(n.den X.G ρ).toNat:=⟨_,rfl⟩
 rw[←hm]at hsm1 hsm2
 have hmn:n.den X.G ρ=m:=by omega
 
 obtain⟨news,hnews⟩:∃ news,news=(vs.drop off).take (len*inf.size):=⟨_,rfl⟩
 have hcl:news.length=len*inf.size:=by rw[hnews,List.length_take,List.length_drop];omega
 have hcells:∀ j u,news[j]?=some u→w.cell? (Addr.add ⟨c.blk,off,none⟩ j)=some u:=by
  intro j u hu
  rw[hnews]at hu
  rw[bJ,List.getElem?_take]at *
  split at hu
  ·rw[List.getElem?_drop]at hu
   simp [World.cell?,h2',hu]
  ·cases hu
 have h1c:∀ u,u ∈ news→u.oneCell'=true:=by
  rw[hnews]
  exact jP hone (gM _ (fW off h3))
 have new_any:∀ α:aR,SV.RL X.G ρ α [.tuple [.any,.int .i64 (.lit inf.size),.bool (.lit false)]] [.tuple #[.agg ([]:List Value).toArray,.int .i64 inf.size,.bool false]]:=by
  intro α
  refine aV ?_ aZ
  simp only[SV.R]
  refine⟨[.agg #[],.int .i64 inf.size,.bool false],rfl,aV (by simp only[SV.R]) (aV ?_ (aV ?_ aZ))⟩
  ·simp only[SV.R,E.den]
  ·simp only[SV.R,B.den]
 have fin:∀ (v':Value) (w':World) (b2:Loc),(Builtin.append_ #[t,t] ty #[(if b.nil=true then .slice none 0 0 else .slice (some ⟨b.blk,b.base,none⟩) (n.den X.G ρ).toNat b.cap),.slice (some ⟨c.blk,off,none⟩) len cp2]).run P w = .ok v' w'→
   w'.os=w.os→w'.tape=w.tape→w'.output=w.output→w.heap.size≤w'.heap.size→(∀ k,k<w.heap.size→(b.nil=true∨k≠b.blk)→w'.heap[k]?=w.heap[k]?)→
   (b2.blk<w'.heap.size∧(w.heap.size≤b2.blk∨(b.nil=false∧b2.blk=b.blk)))→b2.nil=false→b2.base=0→v' = .slice (some ⟨b2.blk,0,none⟩) (m+len) b2.cap→m+len≤b2.cap→b2.cap≤maxLen→
   (∃ rest:List Value,w'.heap[b2.blk]?=some (.cells rest.toArray e (0,0))∧rest.length=b2.cap*inf.size)→
   ∃ v w' α',(Builtin.append_ #[t,t] ty #[(if b.nil=true then .slice none 0 0 else .slice (some ⟨b.blk,b.base,none⟩) (n.den X.G ρ).toNat b.cap),.slice (some ⟨c.blk,off,none⟩) len cp2]).run P w = .ok v w'∧SV.R X.G ρ α' (.own σ.length (E.mkOp .add n (.lit len)) none) v∧RelW X.G ρ gl α' (σ.set id none++[some ([.tuple [.any,.int .i64 (.lit inf.size),.bool (.lit false)]],aS+e)]) w'∧Ext σ.length σ (σ.set id none++[some ([.tuple [.any,.int .i64 (.lit inf.size),.bool (.lit false)]],aS+e)]) α α' w w':=by
  intro v' w' b2 q1 q2 q3 q4 q5 q6 q7 q8 q9 q10 q11 q12 q13
  obtain⟨rest,q13,q14⟩:=q13
  obtain⟨α',a1,a2,a3⟩:=lT (b:=b) (b':=⟨b2.blk,b2.cap,b2.nil,b2.base,bT⟩) (T:=aS+e) (cs:=[.tuple [.any,.int .i64 (.lit inf.size),.bool (.lit false)]]) (vs:=[.tuple #[.agg ([]:List Value).toArray,.int .i64 inf.size,.bool false]]) hW (.inr ⟨id,hb,⟨_,hs,oX hT⟩,rfl⟩) hgl q2 q3 q4 q5 q6 (.inr q7)
   (by rw[cE hT,Nat.add_sub_cancel_left];exact⟨q9,[],inf.size,false,rfl,hsz,.inr ⟨q8,rest,by rw[List.nil_append];exact q13,by rw[List.nil_append];exact q14,q12,fun q=>by cases q⟩⟩) (new_any α) (fun _ _ q=>by cases q)
  refine⟨v',w',α',q1,?_,a2,a3⟩
  simp only[SV.R]
  refine⟨_,a1,by (try dsimp only);omega,?_,fun q=>(by rw[q8]at q;cases q),by (try dsimp only);omega,fun e he _=>by cases he⟩
  rw[q10,q8,q9,show ((E.mkOp .add n (.lit len)).den X.G ρ).toNat=m+len by omega]
  rfl
 have hzl:∀ k,(Builtin.zeroCells z.cells k).size=k*inf.size:=fun k=>by rw[size_zeroCells,hzs]
 have bsm:(m+len)*inf.bytes≤140737488355328:=by rw[Nat.add_mul];exact hsm1
 rcases g4 with⟨hn,_,hcap⟩|⟨hn,rest,hcell,hl2,hmax,_⟩
 ·
  have hm0:m=0:=by have:=(hnil hn).1;omega
  have hr:=run_append_nil (P:=P) w t ty e inf z hu hinf hz ⟨c.blk,off,none⟩ len cp2 news hcl hcells hlen (by omega) (by rw[hm0,Nat.zero_add]at bsm;omega)
  have g1:=grownCap_ge w len 0 e
  have g2:=grownCap_le_maxLen w len 0 e (by unfold maxLen;omega)
  have e0:(if b.nil=true then Value.slice none 0 0 else .slice (some ⟨b.blk,b.base,none⟩) (n.den X.G ρ).toNat b.cap)=Value.slice none 0 0:=by rw[hn];rfl
  rw[e0]at fin ⊢
  refine fin _ _ ⟨w.heap.size,grownCap w len 0 e,false,0,bT⟩ hr rfl rfl rfl (by simp) (fun k hk _=>Below.heap_alloc w.drew _ k (by simpa using hk)) ⟨by simp,.inl (Nat.le_refl _)⟩ rfl rfl (by rw[hm0,Nat.zero_add]) (by show m+len≤grownCap w len 0 e;omega) g2 ⟨news++(Builtin.zeroCells z.cells (grownCap w len 0 e-len)).toList,?_,?_⟩
  ·show (w.drew.heap.push _)[w.heap.size]?=_
   rw[show w.heap.size=w.drew.heap.size by simp,Array.getElem?_push,if_pos rfl]
   congr 2
   apply Array.ext'
   simp
  ·rw[List.length_append,hcl,Array.length_toList,hzl,←Nat.add_mul]
   show (len+(grownCap w len 0 e-len))*inf.size=grownCap w len 0 e*inf.size
   congr 1;omega
 ·have hbs:b.blk<w.heap.size:=by
   rcases(hW.dom id b hb).2 with q|q
   ·rw[hn]at q;cases q
   ·exact q
  obtain⟨all,hall⟩:∃ all,all=cells++rest:=⟨_,rfl⟩
  rw[←hall]at hcell hl2
  have e0:(if b.nil=true then Value.slice none 0 0 else .slice (some ⟨b.blk,b.base,none⟩) (n.den X.G ρ).toNat b.cap)=Value.slice (some ⟨b.blk,0,none⟩) m b.cap:=by rw[hn,hb0,←hm];rfl
  rw[e0]at fin ⊢
  by_cases hroom:m+len≤b.cap
  ·have hmul:=Nat.mul_le_mul_right inf.size hroom
   rw[Nat.add_mul]at hmul
   have hr:=run_append_room (P:=P) w t ty e inf hu hinf b.blk m b.cap all.toArray hcell ⟨c.blk,off,none⟩ len cp2 news hcl hcells h1c hroom (by rw[hcl];simp only[List.size_toArray];omega)
   refine fin _ _ b hr rfl rfl rfl (by simp) (fun k hk hk'=>setRow_other w b.blk k _ (by rcases hk' with q|q;(rw[hn]at q;cases q);exact q)) ⟨by simpa using hbs,.inr ⟨hn,rfl⟩⟩ hn hb0 rfl hroom hmax ⟨_,by rw[setRow_heap w b.blk _ _ e (0,0) hcell],?_⟩
   simp only[List.length_append,List.length_take,List.length_drop,hcl]
   omega
  ·have hmul:m*inf.size≤b.cap*inf.size:=Nat.mul_le_mul_right _ (by omega)
   have hr:=run_append_grow (P:=P) w t ty e inf z hu hinf hz ⟨b.blk,0,none⟩ m b.cap (all.take (m*inf.size)) (by rw[List.length_take];omega) (by
     intro j u hu
     rw[bJ]
     rw[List.getElem?_take]at hu
     split at hu
     ·simp [World.cell?,hcell,hu]
     ·cases hu) ⟨c.blk,off,none⟩ len cp2 news hcl hcells (by omega) (by omega) (growslice_fits (by omega) bsm)
   have g1:=grownCap_ge w (m+len) b.cap e
   have g2:=grownCap_le_maxLen w (m+len) b.cap e (by unfold maxLen;omega)
   refine fin _ _ ⟨w.heap.size,grownCap w (m+len) b.cap e,false,0,bT⟩ hr rfl rfl rfl (by simp) (fun k hk _=>Below.heap_alloc w.drew _ k (by simpa using hk)) ⟨by simp,.inl (Nat.le_refl _)⟩ rfl rfl rfl g1 g2 ⟨all.take (m*inf.size)++news++(Builtin.zeroCells z.cells (grownCap w (m+len) b.cap e-(m+len))).toList,?_,?_⟩
   ·show (w.drew.heap.push _)[w.heap.size]?=_
    rw[show w.heap.size=w.drew.heap.size by simp,Array.getElem?_push,if_pos rfl]
    congr 2
    apply Array.ext'
    simp
   ·have ht2:(all.take (m*inf.size)).length=m*inf.size:=by rw[List.length_take];omega
    have this:(m+len+(grownCap w (m+len) b.cap e-(m+len)))*inf.size=grownCap w (m+len) b.cap e*inf.size:=by congr 1;omega
    rw[Nat.add_mul,Nat.add_mul]at this
    have hz2:=hzl (grownCap w (m+len) b.cap e-(m+len))
    rw[List.length_append,List.length_append,ht2,hcl]
    show m*inf.size+len*inf.size+(Builtin.zeroCells z.cells (grownCap w (m+len) b.cap e-(m+len))).size=grownCap w (m+len) b.cap e*inf.size
    rw[hz2]
    exact this
def sD (X:Ctx) (e:TypeId) (inf:TypeInfo) (s x:SV) (σ:aG):Res (SV × aG):=
 match s,x,inf.zero with
 | .own id (.lit nn) _,.slice id2 off len _,some z=>match σ[id]?,σ[id2]? with
  |some (some ([.tuple [.agg l,.int .i64 (.lit wd),.bool (.lit false)]],T)),some (some (cs,U))=>
   if decide (T=aS+e) && decide (wd=inf.size) && eS U && decide (0<len) && decide (0<inf.size) && decide (z.cells.size=inf.size) && decide (off+len*inf.size≤cs.length) && ((cs.drop off).take (len*inf.size)).all SV.oneCell && decide (0≤nn) && decide (l.length=nn.toNat*inf.size) && decide ((nn+len)*inf.bytes≤1099511627776) && decide (nn+len≤1099511627776) then
    cH (l++(cs.drop off).take (len*inf.size)) fun l' => .ok (.own σ.length (.lit (nn+len)) none,σ.set id none++[some ([.tuple [.agg l',.int .i64 (.lit inf.size),.bool (.lit false)]],aS+e)])
   else .fail 371
  |_,_ => .fail 372
 |_,_,_ => .fail 373
theorem xX (hX:X.Ok ρ) {P:Program} {t ty e:TypeId} {inf:TypeInfo} (hu:P.underlying t=some (.slice e)) (hinf:P.info? e=some inf) {α:aR} {σ σ':aG} {w:World} {l x s:SV} {lv xv:Value} (hgl:∀ p,p ∈ gl→p.2<σ.length) (h:sD X e inf l x σ = .ok (s,σ'))
  (hW:RelW X.G ρ gl α σ w) (rl:SV.R X.G ρ α l lv) (rx:SV.R X.G ρ α x xv):
  ∃ v w' α',(Builtin.append_ #[t,t] ty #[lv,xv]).run P w = .ok v w'∧SV.R X.G ρ α' s v∧RelW X.G ρ gl α' σ' w'∧Ext σ.length σ σ' α α' w w':=by
 unfold sD at h
 split at h
 case h_2=>cases h
 rename_i id nn cp id2 off len cp2 z hz
 split at h
 case h_2=>cases h
 rename_i l0 wd T cs U hs hs2
 split at h
 case isFalse=>cases h
 rename_i hg
 simp only[Bool.and_eq_true,decide_eq_true_eq]at hg
 obtain⟨⟨⟨⟨⟨⟨⟨⟨⟨⟨⟨rfl,rfl⟩,hU⟩,hlen⟩,hsz⟩,hzs⟩,hle⟩,hone⟩,hnn⟩,hll⟩,hby⟩,h40⟩:=hg
 rw[cL]at h
 cases h
 simp only[SV.R]at rl rx
 obtain⟨b,hb,h0,rfl,hnil,hle0,_⟩:=rl
 obtain⟨c,hc,rfl⟩:=rx
 obtain⟨c',vs,h1,h2,h3⟩:=hW.blk id2 cs U hs2
 rw[hc]at h1;cases h1
 have h2':=((cJ hU).1 h2).2
 have hvl:=bP h3
 have hT:aS≤aS+e:=Nat.le_add_right _ _
 obtain⟨b',us,g1,g2,g3⟩:=hW.blk id _ _ hs
 rw[hb]at g1;cases g1
 rw[cE hT,Nat.add_sub_cancel_left]at g2
 obtain⟨hb0,cells,w0,ex0,rfl,hw0,g4⟩:=g2
 simp only[SV.RL,SV.R]at g3
 obtain⟨v,vs',e1,⟨cs3,e2,v1,r1,q1,⟨cl,q1',hcl⟩,v2,r2,q2,q2',v3,r3,q3,q3',q4⟩,_⟩:=g3
 subst q1 q1' q2 q2' q3 q3' q4
 obtain⟨rfl,_⟩:=List.cons.inj e1
 simp only[Value.tuple.injEq]at e2
 have e2:=congrArg Array.toList e2
 simp only[List.cons.injEq,Value.agg.injEq,E.den,B.den,Value.int.injEq,Value.bool.injEq,true_and,and_true]at e2
 obtain⟨e7,e9,e10⟩:=e2
 have e7:=congrArg Array.toList e7
 simp only at e7
 subst e7
 have hw0:w0=inf.size:=by omega
 subst hw0
 have lcl:=bP hcl
 simp only[E.den]at h0 hnil hle0
 have eln:E.den X.G ρ (.lit nn)=nn:=by simp only[E.den]
 rw[eln]
 obtain⟨m,hm⟩:∃ m,m=nn.toNat:=⟨_,rfl⟩
 have hmn:nn=m:=by omega
 have bsm:(m+len)*inf.bytes≤140737488355328:=by
  have h4:(((m+len)*inf.bytes:Nat):Int)=(nn+len)*inf.bytes:=by rw[Int.natCast_mul,Int.natCast_add,hmn]
  omega
 have hsm2:m+len≤4611686018427387904:=by omega
 rw[←hm]at hll
 
 obtain⟨news,hnews⟩:∃ news,news=(vs.drop off).take (len*inf.size):=⟨_,rfl⟩
 have hnl:news.length=len*inf.size:=by rw[hnews,List.length_take,List.length_drop];omega
 have hcells:∀ j u,news[j]?=some u→w.cell? (Addr.add ⟨c.blk,off,none⟩ j)=some u:=by
  intro j u hu
  rw[hnews]at hu
  rw[bJ,List.getElem?_take]at *
  split at hu
  ·rw[List.getElem?_drop]at hu
   simp [World.cell?,h2',hu]
  ·cases hu
 have h1c:∀ u,u ∈ news→u.oneCell'=true:=by
  rw[hnews]
  exact jP hone (gM _ (fW off h3))
 have hRL2:SV.RL X.G ρ α (l0++(cs.drop off).take (len*inf.size)) (cells++news):=by rw[hnews];exact dH hcl (gM _ (fW off h3))
 have new_any:SV.RL X.G ρ α [.tuple [.agg (l0++(cs.drop off).take (len*inf.size)),.int .i64 (.lit inf.size),.bool (.lit false)]] [.tuple #[.agg (cells++news).toArray,.int .i64 inf.size,.bool false]]:=by
  refine aV ?_ aZ
  simp only[SV.R]
  refine⟨[.agg (cells++news).toArray,.int .i64 inf.size,.bool false],rfl,aV (by simp only[SV.R];exact⟨_,rfl,hRL2⟩) (aV ?_ (aV ?_ aZ))⟩
  ·simp only[SV.R,E.den]
  ·simp only[SV.R,B.den]
 have fin:∀ (v':Value) (w':World) (b2:Loc),(Builtin.append_ #[t,t] ty #[(if b.nil=true then .slice none 0 0 else .slice (some ⟨b.blk,b.base,none⟩) nn.toNat b.cap),.slice (some ⟨c.blk,off,none⟩) len cp2]).run P w = .ok v' w'→
   w'.os=w.os→w'.tape=w.tape→w'.output=w.output→w.heap.size≤w'.heap.size→(∀ k,k<w.heap.size→(b.nil=true∨k≠b.blk)→w'.heap[k]?=w.heap[k]?)→
   (b2.blk<w'.heap.size∧(w.heap.size≤b2.blk∨(b.nil=false∧b2.blk=b.blk)))→b2.nil=false→b2.base=0→v' = .slice (some ⟨b2.blk,0,none⟩) (m+len) b2.cap→m+len≤b2.cap→b2.cap≤maxLen→
   (∃ rest:List Value,w'.heap[b2.blk]?=some (.cells ((cells++news)++rest).toArray e (0,0))∧((cells++news)++rest).length=b2.cap*inf.size)→
   ∃ v w' α',(Builtin.append_ #[t,t] ty #[(if b.nil=true then .slice none 0 0 else .slice (some ⟨b.blk,b.base,none⟩) nn.toNat b.cap),.slice (some ⟨c.blk,off,none⟩) len cp2]).run P w = .ok v w'∧SV.R X.G ρ α' (.own σ.length (.lit (nn+len)) none) v∧RelW X.G ρ gl α' (σ.set id none++[some ([.tuple [.agg (l0++(cs.drop off).take (len*inf.size)),.int .i64 (.lit inf.size),.bool (.lit false)]],aS+e)]) w'∧Ext σ.length σ (σ.set id none++[some ([.tuple [.agg (l0++(cs.drop off).take (len*inf.size)),.int .i64 (.lit inf.size),.bool (.lit false)]],aS+e)]) α α' w w':=by
  intro v' w' b2 q1 q2 q3 q4 q5 q6 q7 q8 q9 q10 q11 q12 q13
  obtain⟨rest,q13,q14⟩:=q13
  obtain⟨α',a1,a2,a3⟩:=lT (b:=b) (b':=⟨b2.blk,b2.cap,b2.nil,b2.base,bT⟩) (T:=aS+e) (cs:=[.tuple [.agg (l0++(cs.drop off).take (len*inf.size)),.int .i64 (.lit inf.size),.bool (.lit false)]]) (vs:=[.tuple #[.agg (cells++news).toArray,.int .i64 inf.size,.bool false]]) hW (.inr ⟨id,hb,⟨_,hs,oX hT⟩,rfl⟩) hgl q2 q3 q4 q5 q6 (.inr q7)
   (by rw[cE hT,Nat.add_sub_cancel_left];exact⟨q9,cells++news,inf.size,false,rfl,hsz,.inr ⟨q8,rest,q13,q14,q12,fun q=>by cases q⟩⟩) new_any (fun _ _ q=>by cases q)
  refine⟨v',w',α',q1,?_,a2,a3⟩
  simp only[SV.R]
  refine⟨_,a1,by (try dsimp only);simp only[E.den];omega,?_,fun q=>(by rw[q8]at q;cases q),by (try dsimp only);simp only[E.den];omega,fun e he _=>by cases he⟩
  rw[q10,q8,q9,show (E.den X.G ρ (.lit (nn+len))).toNat=m+len by simp only[E.den];omega]
  rfl
 have hzl:∀ k,(Builtin.zeroCells z.cells k).size=k*inf.size:=fun k=>by rw[size_zeroCells,hzs]
 rcases g4 with⟨hn,hc0,hcap⟩|⟨hn,rest,hcell,hl2,hmax,_⟩
 ·
  have hm0:m=0:=by have:=(hnil hn).1;omega
  have hr:=run_append_nil (P:=P) w t ty e inf z hu hinf hz ⟨c.blk,off,none⟩ len cp2 news hnl hcells hlen (by omega) (by rw[hm0,Nat.zero_add]at bsm;omega)
  have g1:=grownCap_ge w len 0 e
  have g2:=grownCap_le_maxLen w len 0 e (by unfold maxLen;omega)
  have e0:(if b.nil=true then Value.slice none 0 0 else .slice (some ⟨b.blk,b.base,none⟩) nn.toNat b.cap)=Value.slice none 0 0:=by rw[hn];rfl
  rw[e0]at fin ⊢
  refine fin _ _ ⟨w.heap.size,grownCap w len 0 e,false,0,bT⟩ hr rfl rfl rfl (by simp) (fun k hk _=>Below.heap_alloc w.drew _ k (by simpa using hk)) ⟨by simp,.inl (Nat.le_refl _)⟩ rfl rfl (by rw[hm0,Nat.zero_add]) (by show m+len≤grownCap w len 0 e;omega) g2 ⟨(Builtin.zeroCells z.cells (grownCap w len 0 e-len)).toList,?_,?_⟩
  ·show (w.drew.heap.push _)[w.heap.size]?=_
   rw[show w.heap.size=w.drew.heap.size by simp,Array.getElem?_push,if_pos rfl]
   congr 2
   apply Array.ext'
   simp [hc0]
  ·rw[hc0,List.nil_append,List.length_append,hnl,Array.length_toList,hzl,←Nat.add_mul]
   show (len+(grownCap w len 0 e-len))*inf.size=grownCap w len 0 e*inf.size
   congr 1;omega
 ·have hbs:b.blk<w.heap.size:=by
   rcases(hW.dom id b hb).2 with q|q
   ·rw[hn]at q;cases q
   ·exact q
  obtain⟨all,hall⟩:∃ all,all=cells++rest:=⟨_,rfl⟩
  rw[←hall]at hcell hl2
  have e0:(if b.nil=true then Value.slice none 0 0 else .slice (some ⟨b.blk,b.base,none⟩) nn.toNat b.cap)=Value.slice (some ⟨b.blk,0,none⟩) m b.cap:=by rw[hn,hb0,←hm];rfl
  rw[e0]at fin ⊢
  by_cases hroom:m+len≤b.cap
  ·have hmul:=Nat.mul_le_mul_right inf.size hroom
   rw[Nat.add_mul]at hmul
   have hr:=run_append_room (P:=P) w t ty e inf hu hinf b.blk m b.cap all.toArray hcell ⟨c.blk,off,none⟩ len cp2 news hnl hcells h1c hroom (by rw[hnl];simp only[List.size_toArray];omega)
   refine fin _ _ b hr rfl rfl rfl (by simp) (fun k hk hk'=>setRow_other w b.blk k _ (by rcases hk' with q|q;(rw[hn]at q;cases q);exact q)) ⟨by simpa using hbs,.inr ⟨hn,rfl⟩⟩ hn hb0 rfl hroom hmax ⟨rest.drop news.length,by
    rw[setRow_heap w b.blk _ _ e (0,0) hcell]
    congr 3
    rw[hall,show m*inf.size=cells.length by omega]
    simp only[List.take_left,List.drop_append,List.append_assoc]
    congr 2
    rw[List.drop_eq_nil_of_le (by omega)]
    simp,?_⟩
   rw[hall,List.length_append]at hl2
   rw[List.length_append,List.length_append,List.length_drop,hnl]
   omega
  ·have hmul:m*inf.size≤b.cap*inf.size:=Nat.mul_le_mul_right _ (by omega)
   have hr:=run_append_grow (P:=P) w t ty e inf z hu hinf hz ⟨b.blk,0,none⟩ m b.cap (all.take (m*inf.size)) (by rw[List.length_take];omega) (by
     intro j u hu
     rw[bJ]
     rw[List.getElem?_take]at hu
     split at hu
     ·simp [World.cell?,hcell,hu]
     ·cases hu) ⟨c.blk,off,none⟩ len cp2 news hnl hcells (by omega) (by omega) (growslice_fits (by omega) bsm)
   have g1:=grownCap_ge w (m+len) b.cap e
   have g2:=grownCap_le_maxLen w (m+len) b.cap e (by unfold maxLen;omega)
   refine fin _ _ ⟨w.heap.size,grownCap w (m+len) b.cap e,false,0,bT⟩ hr rfl rfl rfl (by simp) (fun k hk _=>Below.heap_alloc w.drew _ k (by simpa using hk)) ⟨by simp,.inl (Nat.le_refl _)⟩ rfl rfl rfl g1 g2 ⟨(Builtin.zeroCells z.cells (grownCap w (m+len) b.cap e-(m+len))).toList,?_,?_⟩
   ·show (w.drew.heap.push _)[w.heap.size]?=_
    rw[show w.heap.size=w.drew.heap.size by simp,Array.getElem?_push,if_pos rfl]
    have ha:all.take (m*inf.size)=cells:=by rw[hall,show m*inf.size=cells.length by omega,List.take_left]
    rw[ha]
    congr 2
    apply Array.ext'
    simp
   ·have this:(m+len+(grownCap w (m+len) b.cap e-(m+len)))*inf.size=grownCap w (m+len) b.cap e*inf.size:=by congr 1;omega
    rw[Nat.add_mul,Nat.add_mul]at this
    have hz2:=hzl (grownCap w (m+len) b.cap e-(m+len))
    rw[List.length_append,List.length_append,hnl,show cells.length=m*inf.size by omega]
    show m*inf.size+len*inf.size+(Builtin.zeroCells z.cells (grownCap w (m+len) b.cap e-(m+len))).size=grownCap w (m+len) b.cap e*inf.size
    rw[hz2]
    exact this
def aHS (X:Ctx) (m:E):Bool:=match B.dec X (.cmp .le (.lit 1) m)with
 |some true=>true
 |_=>false
theorem aG6 {X:Ctx} {ρ:Nat→Int} (hX:X.Ok ρ) {m:E} (h:aHS X m=true):1≤m.den X.G ρ:=by
 unfold aHS at h
 split at h
 ·rename_i hd;exact of_decide_eq_true (B.dec_eq hX _ hd)
 ·cases h
def aKO (X:Ctx) (n c:E):Bool:=match B.dec X (.cmp .eq n c)with
 |some true=>true
 |_=>false
theorem aE9 {X:Ctx} {ρ:Nat→Int} (hX:X.Ok ρ) {n c:E} (h:aKO X n c=true):n.den X.G ρ=c.den X.G ρ:=by
 unfold aKO at h
 split at h
 ·rename_i hd;exact of_decide_eq_true (B.dec_eq hX _ hd)
 ·cases h
def aAp (X:Ctx) (n:E) (cap:Option E):Bool:=match cap with
 |some c=>E.eqb n c ||aKO X n c
 |none=>false
theorem aBj {X:Ctx} {ρ:Nat→Int} (hX:X.Ok ρ) {n:E} {cap:Option E} (h:aAp X n cap=true):∃ c,cap=some c∧n.den X.G ρ=c.den X.G ρ:=by
 unfold aAp at h
 split at h
 ·rename_i c
  simp only[Bool.or_eq_true]at h
  rcases h with h|h
  ·exact⟨c,rfl,by rw[E.eqb_eq _ _ h]⟩
  ·exact⟨c,rfl,aE9 hX h⟩
 ·cases h
def uJ (P:Program) (X:Ctx) (gl:List (Nat × Nat)) (ts:Array TypeId) (s x:SV) (σ:aG):Res (SV × aG):=
 match ts.toList with
 |[t,t']=>
  if decide (t=t') && gl.all (fun p=>decide (p.2<σ.length)) then match P.underlying t with
   |some (.slice e)=>match uH P e,P.info? e with
    |some sh,some inf=>
     match s with
     | .con (.slice none 0 0)=>(aLK X sh x σ).bind fun r=>(Res.test X (.cmp .le r.1 (.lit (1099511627776 / (inf.bytes:Int))))).bind fun t=>
       if t then .ok (.own σ.length r.1 none,σ++[some ([.vec sh (r.2 (.lit 0)) r.1 false],aS+e)]) else .fail 360
     | .own id n cap=>match σ[id]? with
      |some (some ([.vec sh' C n' _],T))=>
       if decide (T=aS+e) && decide (sh'=sh) && E.eqb n n' then (aLK X sh x σ).bind fun r=>eQ (E.mkOp .add n r.1) fun n1=>(Res.test X (.cmp .le n1 (.lit (1099511627776 / (inf.bytes:Int))))).bind fun t=>
        if t then (if aAp X n cap && aHS X r.1 then .ok (.own σ.length n1 none,σ++[some ([.vec sh (r.2 C) n1 false],aS+e)])
         else .ok (.own σ.length n1 cap,σ.set id none++[some ([.vec sh (r.2 C) n1 false],aS+e)])) else .fail 360
       else .fail 361
      |_ => .fail 362
     |_ => .fail 363
    |none,some inf=>match s with
     | .own _ _ _=>match sH X e inf s x σ with
      | .fail _=>sD X e inf s x σ
      |r=>r
     |_=>rK gl e inf s x σ
    |_,_ => .fail 364
   |_ => .fail 365
  else .fail 366
 |_ => .fail 367
theorem tV (hX:X.Ok ρ) {α:aR} {σ σ':aG} {w:World} {ts:Array TypeId} {ty:TypeId} {l x s:SV} {lv xv:Value} (h:uJ P X gl ts l x σ = .ok (s,σ')) (hW:RelW X.G ρ gl α σ w) (rl:SV.R X.G ρ α l lv) (rx:SV.R X.G ρ α x xv):
  ∃ v w' α',(Builtin.append_ ts ty #[lv,xv]).run P w = .ok v w'∧SV.R X.G ρ α' s v∧RelW X.G ρ gl α' σ' w'∧Ext σ.length σ σ' α α' w w':=by
 unfold uJ at h
 split at h
 case h_2=>cases h
 rename_i t t' hts
 have hts:ts=#[t,t']:=by apply Array.ext';rw[hts]
 split at h
 case isFalse=>cases h
 rename_i hg
 simp only[Bool.and_eq_true,decide_eq_true_eq,List.all_eq_true]at hg
 obtain⟨rfl,hgl⟩:=hg
 subst hts
 split at h
 case h_2=>cases h
 rename_i e hu
 split at h
 case h_3=>cases h
 case h_2=>
  rename_i inf hsh hinf
  split at h
  ·split at h
   ·exact xX hX hu hinf hgl h hW rl rx
   ·exact xW hX hu hinf hgl h hW rl rx
  ·exact xV hu hinf hgl h hW rl rx
 rename_i sh inf hsh hinf
 obtain⟨i,z,hi,hz,hzc,hsz,hw,hb0⟩:=qM hsh
 rw[hinf]at hi;cases hi
 have hT:aS≤aS+e:=Nat.le_add_right _ _
 have small:∀ n:Int,0≤n→n≤1099511627776 / (inf.bytes:Int)→n.toNat*inf.bytes≤140737488355328∧n.toNat≤4611686018427387904:=by
  intro n h0 hn
  have hbp:(0:Int)<inf.bytes:=by omega
  have h1:=Int.mul_le_mul_of_nonneg_right hn (show (0:Int)≤inf.bytes by omega)
  have h2:1099511627776 / (inf.bytes:Int)*inf.bytes≤1099511627776:=Int.ediv_mul_le _ (by omega)
  have h3:=Int.ediv_le_self (a:=1099511627776) (inf.bytes:Int) (by omega)
  refine⟨?_,by omega⟩
  have h4:((n.toNat*inf.bytes:Nat):Int)=n*inf.bytes:=by rw[Int.natCast_mul,Int.toNat_of_nonneg h0]
  omega
 split at h
 ·
  replace h:=Res.bind_ok h;obtain⟨r,hr,h⟩:=h
  obtain⟨m,f⟩:=r
  replace h:=Res.bind_ok h;obtain⟨t1,ht,h⟩:=h
  have ht:=Res.test_ok hX ht
  split at h
  case isFalse=>cases h
  rename_i ht1
  subst ht1
  cases h
  replace ht:m.den X.G ρ≤1099511627776 / (inf.bytes:Int):=of_decide_eq_true ht
  obtain⟨M,hM1,hM2,hM3⟩:=aCM hX hw hr hW rx
  simp only[SV.R]at rl
  subst rl
  have hsm:=small _ (by omega) ht
  have hm:(m.den X.G ρ).toNat=M.length:=by omega
  rw[hm]at hsm
  obtain⟨v',w',b',q1,q2,q3,q4,q5,q6,q7,q8,q9,_,q11⟩:=tT (ty:=ty) w hu hinf hz hsz hzc hw (b:=⟨0,0,true,0,bT⟩) (v := .slice none 0 0) (L:=[]) (ex:=false) rfl (.inl ⟨rfl,rfl,rfl⟩) rfl (.inl rfl) hM3 (by simpa using hsm.1) (by simpa using hsm.2)
  obtain⟨α',a1,a2,a3⟩:=lT (b:=⟨0,0,true,0,bT⟩) (b':=⟨b'.blk,b'.cap,b'.nil,b'.base,bT⟩) (T:=aS+e) hW (.inl ⟨rfl,rfl⟩) hgl q2 q3 q4 q5 (fun k hk hk'=>q6 k hk hk') q9 (eU.obj hT q11 hw (by rw[vF];exact q8)) (aBZ (C:=f (.lit 0)) (n:=m) (by rw[hM2];simp only[E.den,Lc.dec_zero]) (by simpa using hM1)) (fun _ _ q=>by cases q)
  refine⟨v',w',α',q1,?_,a2,a3⟩
  have hle:=eU.le hw q8
  simp only[SV.R]
  refine⟨_,a1,by (try dsimp only);omega,?_,?_,?_,fun e he _=>by cases he⟩
  ·rw[q7,hm,q11];rfl
  ·intro hn
   rcases q8 with⟨_,z1,z2⟩|⟨z1,_⟩
   ·simp only[List.nil_append]at z1;rw[z1]at hM1;exact⟨hM1.symm,z2⟩
   ·rw[hn]at z1;cases z1
  ·simp only[List.nil_append]at hle;(try dsimp only);omega
 ·rename_i id n cap
  split at h
  case h_2=>cases h
  rename_i sh' C n' ex T hs
  split at h
  case isFalse=>cases h
  rename_i hg
  simp only[Bool.and_eq_true,decide_eq_true_eq]at hg
  obtain⟨⟨rfl,rfl⟩,hnn⟩:=hg
  have hnn:=E.eqb_eq _ _ hnn
  subst hnn
  replace h:=Res.bind_ok h;obtain⟨r,hr,h⟩:=h
  obtain⟨m,f⟩:=r
  rw[kZ]at h
  replace h:=Res.bind_ok h;obtain⟨t1,ht,h⟩:=h
  have ht:=Res.test_ok hX ht
  split at h
  case isFalse=>cases h
  rename_i ht1
  subst ht1
  replace ht:(E.mkOp .add n m).den X.G ρ≤1099511627776 / (inf.bytes:Int):=of_decide_eq_true ht
  have hn1:(E.mkOp .add n m).den X.G ρ=n.den X.G ρ+m.den X.G ρ:=by rw[E.mkOp_den];rfl
  obtain⟨M,hM1,hM2,hM3⟩:=aCM hX hw hr hW rx
  simp only[SV.R]at rl
  obtain⟨b,hb,h0,rfl,hnil,hle0,hcap⟩:=rl
  obtain⟨b2,hb2,hb20,_,hlen,hv⟩:=uB hW hs hT
  rw[hb]at hb2;cases hb2
  rw[vF]at hv
  rw[hb20]
  obtain⟨L,hL⟩:∃ L,L=Lc.dec (C.den X.G ρ):=⟨_,rfl⟩
  rw[←hL]at hlen hv
  have hsm:=small _ (by omega) ht
  have hln:(n.den X.G ρ).toNat=L.length:=by omega
  have hlm:((E.mkOp .add n m).den X.G ρ).toNat=L.length+M.length:=by omega
  rw[hlm]at hsm
  split at h
  ·rename_i hf
   cases h
   simp only[Bool.and_eq_true]at hf
   obtain⟨hf1,hf2⟩:=hf
   obtain⟨c0,hc0,hnc⟩:=aBj (ρ:=ρ) hX hf1
   have hm1:(1:Int)≤m.den X.G ρ:=aG6 hX hf2
   have hbc:=hcap c0 hc0 (by omega)
   obtain⟨v',w',b',q1,q2,q3,q4,q5,q6,q7,q8,q9,q10,q11,q12⟩:=aAM (ty:=ty) w hu hinf hz hsz hzc hw (b:=b) (v:=if b.nil=true then .slice none 0 0 else .slice (some ⟨b.blk,0,none⟩) (n.den X.G ρ).toNat b.cap) (L:=L) (ex:=ex) (by rw[hln]) hv hM3 hsm.1 hsm.2 (by omega)
   obtain⟨α',a1,a2,a3⟩:=lT (b:=⟨0,0,true,0,bT⟩) (b':=⟨b'.blk,b'.cap,b'.nil,b'.base,bT⟩) (T:=aS+e) hW (.inl ⟨rfl,rfl⟩) hgl q2 q3 q4 q5 (fun k hk _=>q6 k hk) (.inr ⟨q10,.inl q11⟩) (eU.obj hT q12 hw (by rw[vF];exact q8)) (aBZ (C:=f C) (n:=E.mkOp .add n m) (by rw[hM2,←hL]) (by rw[hn1,List.length_append];omega)) (fun _ _ q=>by cases q)
   refine⟨v',w',α',q1,?_,a2,a3⟩
   have hle:=eU.le hw q8
   rw[List.length_append]at hle
   simp only[SV.R]
   refine⟨_,a1,by (try dsimp only);omega,?_,fun z=>(by rw[q9]at z;cases z),by (try dsimp only);omega,fun e he _=>by cases he⟩
   rw[q7,q9,hlm,List.length_append,q12]
   rfl
  cases h
  obtain⟨v',w',b',q1,q2,q3,q4,q5,q6,q7,q8,q9,q10,q11⟩:=tT (ty:=ty) w hu hinf hz hsz hzc hw (b:=b) (v:=if b.nil=true then .slice none 0 0 else .slice (some ⟨b.blk,0,none⟩) (n.den X.G ρ).toNat b.cap) (L:=L) (ex:=ex) (by rw[hln]) hv hb20 (hW.dom id b hb).2 hM3 hsm.1 hsm.2
  obtain⟨α',a1,a2,a3⟩:=lT (b:=b) (b':=⟨b'.blk,b'.cap,b'.nil,b'.base,bT⟩) (T:=aS+e) hW (.inr ⟨id,hb,⟨_,hs,oX hT⟩,rfl⟩) hgl q2 q3 q4 q5 q6 q9 (eU.obj hT q11 hw (by rw[vF];exact q8)) (aBZ (C:=f C) (n:=E.mkOp .add n m) (by rw[hM2,←hL]) (by rw[hn1,List.length_append];omega)) (fun _ _ q=>by cases q)
  refine⟨v',w',α',q1,?_,a2,a3⟩
  have hle:=eU.le hw q8
  rw[List.length_append]at hle
  simp only[SV.R]
  refine⟨_,a1,by (try dsimp only);omega,?_,?_,by (try dsimp only);omega,?_⟩
  ·rw[q7,hlm,List.length_append,q11]
  ·intro hn
   rcases q8 with⟨_,z1,z2⟩|⟨z1,_⟩
   ·have:=congrArg List.length z1
    rw[List.length_append]at this
    simp only[List.length_nil]at this
    exact⟨by omega,z2⟩
   ·rw[hn]at z1;cases z1
  ·intro c hc hle
   rw[hn1]at hle
   have hbc:=hcap c hc (by omega)
   rw[q10 (by omega)];exact hbc
 ·cases h
end
end Sx
end Go.Proofs.Ythiehfhphgkaeaa
namespace Go.Proofs.Ythiehfhphgkaeaa
namespace Sx
open Go Go.RowKit
def kH (b:Loc) (x:Option Obj) (w:Nat) (A:List Value) (T:TypeId):Prop:=
 (b.nil=true∧A=[]∧b.cap=0)∨(b.nil=false∧∃ rest:List Value,x=some (.cells (A++rest).toArray T (0,0))∧(A++rest).length=b.cap*w∧b.cap≤maxLen)
theorem aAK {P:Program} {t ty e:TypeId} {inf:TypeInfo} {z:Value} (w:World) (ht:P.underlying t=some (.slice e)) (hi:P.info? e=some inf) (hz:inf.zero=some z) (hzs:z.cells.size=inf.size) (hw:0<inf.size)
  {b:Loc} {v xv:Value} {A B:List Value} {nA nB:Nat} (lA:A.length=nA*inf.size) (lB:B.length=nB*inf.size) (hv:v=if b.nil then .slice none 0 0 else .slice (some ⟨b.blk,0,none⟩) nA b.cap) (hb:kH b w.heap[b.blk]? inf.size A e) (hb0:b.base=0) (hblt:b.nil=true∨b.blk<w.heap.size) (hLc:nA≤b.cap)
  (one:∀ u,u ∈ B→u.oneCell'=true) (hx:(∃ a c,xv = .slice (some a) nB c∧∀ j u,B[j]?=some u→w.cell? (a.add j)=some u)∨(B=[]∧nB=0∧∃ c,xv = .slice none 0 c))
  (hlen:(nA+nB)*inf.bytes≤140737488355328) (h62:nA+nB≤4611686018427387904):
  ∃ v' w' b',(Builtin.append_ #[t,t] ty #[v,xv]).run P w = .ok v' w'∧w'.os=w.os∧w'.tape=w.tape∧w'.output=w.output∧w.heap.size≤w'.heap.size∧
   (∀ k,k<w.heap.size→(b.nil=true∨k≠b.blk)→w'.heap[k]?=w.heap[k]?)∧
   v'=(if b'.nil then .slice none 0 0 else .slice (some ⟨b'.blk,0,none⟩) (nA+nB) b'.cap)∧kH b' w'.heap[b'.blk]? inf.size (A++B) e∧nA+nB≤b'.cap∧
   (b'.nil=true∨(b'.blk<w'.heap.size∧(w.heap.size≤b'.blk∨(b.nil=false∧b'.blk=b.blk))))∧b'.base=0:=by
 have zl:∀ k,(Builtin.zeroCells z.cells k).toList.length=k*inf.size:=fun k=>by rw[Array.length_toList,size_zeroCells,hzs]
 rcases hx with⟨a,c,rfl,hcells⟩|⟨rfl,rfl,c,rfl⟩
 ·have grown:∀ (old need:Nat),need=nA+nB→need≤4611686018427387904→∀ D:List Value,D.length=(grownCap w need old e-need)*inf.size→
    kH ⟨w.heap.size,grownCap w need old e,false,0,bT⟩ (some (.cells ((A++B)++D).toArray e (0,0))) inf.size (A++B) e:=by
   intro old need hneed hle D hD
   have g1:=grownCap_ge w need old e
   have g2:=grownCap_le_maxLen w need old e (by unfold maxLen;omega)
   refine .inr ⟨rfl,D,rfl,?_,g2⟩
   rw[List.length_append,List.length_append,lA,lB,hD,←Nat.add_mul,←Nat.add_mul]
   show (nA+nB+(grownCap w need old e-need))*inf.size=grownCap w need old e*inf.size
   congr 1;omega
  rcases hb with⟨hnil,rfl,hcap⟩|⟨hnil,rest,hcell,hlen2,hmax⟩
  ·have hA0:nA=0:=by omega
   subst hA0
   rw[hnil]at hv
   simp only[if_true]at hv
   subst hv
   by_cases hM:nB=0
   ·subst hM
    have hB:B=[]:=List.eq_nil_of_length_eq_zero (by rw[lB];simp)
    subst hB
    refine⟨.slice none 0 0,w,b,?_,rfl,rfl,rfl,Nat.le_refl _,fun _ _ _=>rfl,by rw[hnil];rfl,.inl ⟨hnil,rfl,hcap⟩,by omega,.inl hnil,hb0⟩
    have hf:=run_firstCells_some (P:=P) w inf.size 0 a 0 c [] (by simp) (by intro j u hu;simp at hu)
    simp [Builtin.append_,run_underlying ht,sizeOf,typeInfo,hi,Builtin.lenOf,Builtin.firstCells,loadCells,loadCellsFrom]
   ·have hMp:0<nB:=by omega
    have hr:=run_append_nil (P:=P) w t ty e inf z ht hi hz a nB c B lB hcells hMp (by omega) (by simp only[Nat.zero_add]at hlen;omega)
    refine⟨_,_,⟨w.heap.size,grownCap w nB 0 e,false,0,bT⟩,hr,rfl,rfl,rfl,by simp,fun k hk _=>Below.heap_alloc w.drew _ k (by simpa using hk),by simp,?_,by have:=grownCap_ge w nB 0 e;show 0+nB≤grownCap w nB 0 e;omega,.inr ⟨by simp,.inl (Nat.le_refl _)⟩,rfl⟩
    have hg:=grown 0 nB (by simp) (by simp at h62;omega) _ (zl _)
    show kH _ (w.drew.heap.push _)[w.heap.size]? inf.size ([]++B) e
    rw[show w.heap.size=w.drew.heap.size by simp,Array.getElem?_push,if_pos rfl]
    simp only[List.nil_append]at hg ⊢
    have e1:B.toArray++Builtin.zeroCells z.cells (grownCap w nB 0 e-nB)=(B++(Builtin.zeroCells z.cells (grownCap w nB 0 e-nB)).toList).toArray:=by
     apply Array.ext'
     simp
    rw[e1]
    exact hg
  ·rw[hnil]at hv
   simp only[Bool.false_eq_true,if_false]at hv
   subst hv
   have hbs:b.blk<w.heap.size:=by
    rcases hblt with q|q
    ·rw[hnil]at q;cases q
    ·exact q
   by_cases hroom:nA+nB≤b.cap
   ·have hmul:=Nat.mul_le_mul_right inf.size hroom
    rw[Nat.add_mul]at hmul
    have hr:=run_append_room (P:=P) w t ty e inf ht hi b.blk nA b.cap (A++rest).toArray hcell a nB c B lB hcells one hroom (by rw[lB];simp only[List.size_toArray];omega)
    refine⟨_,_,b,hr,rfl,rfl,rfl,by simp,fun k hk hk'=>setRow_other w b.blk k _ (by rcases hk' with q|q;(rw[hnil]at q;cases q);exact q),by rw[hnil];simp,?_,hroom,.inr ⟨by simpa using hbs,.inr ⟨hnil,rfl⟩⟩,hb0⟩
    rw[setRow_heap w b.blk _ _ e (0,0) hcell]
    have e1:((A++rest).toArray.toList.take (nA*inf.size)++B++(A++rest).toArray.toList.drop (nA*inf.size+B.length))=(A++B)++rest.drop B.length:=by
     rw[←lA]
     simp only[List.take_left,List.drop_append,List.append_assoc]
     congr 2
     rw[List.drop_eq_nil_of_le (by omega)]
     simp
    rw[e1]
    refine .inr ⟨hnil,_,rfl,?_,hmax⟩
    rw[List.length_append,List.length_append,List.length_drop,lB,lA]
    rw[List.length_append,lA]at hlen2
    omega
   ·have hr:=run_append_grow (P:=P) w t ty e inf z ht hi hz ⟨b.blk,0,none⟩ nA b.cap A lA (by
      intro j u hu
      rw[bJ]
      have hj:j<A.length:=(List.getElem?_eq_some_iff.1 hu).1
      simp only[World.cell?,hcell,Nat.zero_add]
      simp only[Option.isSome_none,Bool.false_eq_true,if_false,List.getElem?_toArray]
      rw[List.getElem?_append_left hj,hu]) a nB c B lB hcells (by omega) (by omega) (growslice_fits (by omega) hlen)
    refine⟨_,_,⟨w.heap.size,grownCap w (nA+nB) b.cap e,false,0,bT⟩,hr,rfl,rfl,rfl,by simp,fun k hk _=>Below.heap_alloc w.drew _ k (by simpa using hk),by simp,?_,grownCap_ge w (nA+nB) b.cap e,.inr ⟨by simp,.inl (Nat.le_refl _)⟩,rfl⟩
    have hg:=grown b.cap (nA+nB) rfl h62 _ (zl _)
    show kH _ (w.drew.heap.push _)[w.heap.size]? inf.size (A++B) e
    rw[show w.heap.size=w.drew.heap.size by simp,Array.getElem?_push,if_pos rfl]
    have e1:A.toArray++B.toArray++Builtin.zeroCells z.cells (grownCap w (nA+nB) b.cap e-(nA+nB))=((A++B)++(Builtin.zeroCells z.cells (grownCap w (nA+nB) b.cap e-(nA+nB))).toList).toArray:=by
     apply Array.ext'
     simp
    rw[e1]
    exact hg
 ·have hv2:∃ base,v = .slice base nA b.cap:=by
   cases q:b.nil
   ·rw[q]at hv;exact⟨_,hv⟩
   ·rw[q]at hv
    rcases hb with⟨_,rfl,hc⟩|⟨z,_⟩
    ·have:nA=0:=by omega
     rw[hc,this];exact⟨_,hv⟩
    ·rw[q]at z;cases z
  obtain⟨base,hv2⟩:=hv2
  refine⟨v,w,b,?_,rfl,rfl,rfl,Nat.le_refl _,fun _ _ _=>rfl,hv,?_,hLc,?_,hb0⟩
  ·rw[hv2]
   cases base<;>simp [Builtin.append_,run_underlying ht,sizeOf,typeInfo,hi,Builtin.lenOf,Builtin.firstCells,hLc,storeCells]
  ·rw[List.append_nil]
   exact hb
  ·rcases hblt with q|q
   ·exact .inl q
   ·cases z:b.nil
    ·exact .inr ⟨q,.inr ⟨rfl,rfl⟩⟩
    ·exact .inl rfl
section
variable {ρ:Nat→Int} {P:Program} {X:Ctx} {gl:List (Nat × Nat)}
def oH:SV→Option (Nat × E)
 | .own k m _=>some (k,m)
 | .vsl k _ (.lit 0) m _=>some (k,m)
 |_=>none
def aDG (G:Nat→List Int→Int) (ρ:Nat→Int) (α:aR) (k:Nat) (m:E) (v:Value):Prop:=
 ∃ b,α k=some b∧0≤m.den G ρ∧((m.den G ρ=0∧∃ (a:Option Addr) (c:Nat),v = .slice a 0 c)∨(b.nil=false∧∃ c:Nat,v = .slice (some ⟨b.blk,b.base,none⟩) (m.den G ρ).toNat c∧(m.den G ρ).toNat≤c))
theorem aAg {α:aR} {s:SV} {k:Nat} {m:E} {v:Value} (h:oH s=some (k,m)) (r:SV.R X.G ρ α s v):aDG X.G ρ α k m v:=by
 unfold oH at h
 split at h
 ·cases h
  simp only[SV.R]at r
  obtain⟨b,h1,h2,rfl,h3,h4,_⟩:=r
  refine⟨b,h1,h2,?_⟩
  cases q:b.nil
  ·exact .inr ⟨rfl,b.cap,by rfl,by omega⟩
  ·exact .inl ⟨(h3 q).1,none,0,by rfl⟩
 ·cases h
  simp only[SV.R,E.den]at r
  obtain⟨b,h1,h2,_,r⟩:=r
  refine⟨b,h1,h2,?_⟩
  rcases r with⟨q1,a,c,q2,_⟩|⟨q1,c,q2,q3,_⟩
  ·exact .inl ⟨q1,a,c,q2⟩
  ·exact .inr ⟨q1,c,by simpa using q2,q3⟩
 ·cases h
theorem aCA {α:aR} {s:SV} {k:Nat} {m:E} {v:Value} (h:oH s=some (k,m)) (r:SV.R X.G ρ α s v):v.oneCell'=true:=by
 unfold oH at h
 split at h
 ·exact sT rfl r
 ·exact sT rfl r
 ·cases h
theorem aKf {α:aR} {σ:aG} {w:World} {k:Nat} {sh:List CK} {D m:E} {ex:Bool} {T:TypeId} (hW:RelW X.G ρ gl α σ w) (hs:σ[k]?=some (some ([.vec sh D m ex],T))) (hT:aS≤T):
  ∃ α1 c,α1 σ.length=some c∧RelW X.G ρ gl α1 (σ.set k none++[none]) w∧Ext σ.length σ (σ.set k none++[none]) α α1 w w∧
   ∀ v,(Lc.dec (D.den X.G ρ)).length≤4611686018427387904→aDG X.G ρ α k m v→Fro c sh (Lc.dec (D.den X.G ρ)) v:=by
 obtain⟨b,hb,hb0,hw0,hlen,hv⟩:=uB hW hs hT
 have hvk:fV σ k:=⟨_,hs,oX hT⟩
 obtain⟨c,hcn,hcs,hF⟩:∃ c:Loc,c.nil=true∧(∀ q us,c.sub q=some us→q=b.blk∧b.nil=false∧∃ (T:TypeId) (fz:Nat × Nat),w.heap[q]?=some (.cells us.toArray T fz))∧
   ∀ v,(Lc.dec (D.den X.G ρ)).length≤4611686018427387904→aDG X.G ρ α k m v→Fro c sh (Lc.dec (D.den X.G ρ)) v:=by
  rcases hv with⟨h1,h2,_⟩|⟨h1,rest,h2,h3,h4,_⟩
  ·refine⟨⟨0,0,true,0,bT⟩,rfl,fun q us e=>(by cases e),?_⟩
   rintro v _ ⟨b2,e1,_,⟨_,a,c,e2⟩|⟨e2,_⟩⟩
   ·exact .inl ⟨h2,a,c,e2⟩
   ·rw[hb]at e1;cases e1
    rw[h1]at e2;cases e2
  ·refine⟨⟨0,0,true,0,fun q=>if q=b.blk then some (aH sh (Lc.dec (D.den X.G ρ))++rest) else none⟩,rfl,?_,?_⟩
   ·intro q us e
    simp only at e
    split at e
    ·rename_i hq
     cases e
     subst hq
     exact⟨rfl,h1,_,_,h2⟩
    ·cases e
   ·rintro v hsm ⟨b2,e1,e5,⟨e6,a,c,e2⟩|⟨_,c,e2,e3⟩⟩
    ·exact .inl ⟨List.eq_nil_of_length_eq_zero (by omega),a,c,e2⟩
    rw[hb]at e1;cases e1
    rw[hb0]at e2
    refine .inr ⟨b.blk,0,c,aH sh (Lc.dec (D.den X.G ρ))++rest,by rw[e2,←hlen];rfl,by omega,hsm,by simp,?_⟩
    intro i u hu
    rw[Nat.zero_add,List.getElem?_append_left (List.getElem?_eq_some_iff.1 hu).1]
    exact hu
 have hkl:k<σ.length:=(List.getElem?_eq_some_iff.1 hs).1
 let α1:aR:=fun id=>if id=σ.length then some c else α id
 have aN:α1 σ.length=some c:=by simp [α1]
 have aO:∀ id,id≠σ.length→α1 id=α id:=fun id e=>by simp [α1,e]
 have hne:∀ id b,α id=some b→id≠σ.length:=fun id b e q=>by have:=(hW.dom id b e).1;omega
 have mono:∀ id b,α id=some b→α1 id=some b:=fun id b e=>by rw[aO id (hne id b e)];exact e
 have get1:∀ i q,(σ.set k none++[none])[i]?=some (some q)→i<σ.length∧i≠k∧σ[i]?=some (some q):=by
  intro i q e
  by_cases hi:i<σ.length
  ·rw[List.getElem?_append_left (by simpa using hi)]at e
   by_cases hik:i=k
   ·subst hik;rw[List.getElem?_set_self hi]at e;cases e
   ·rw[List.getElem?_set_ne (fun q=>hik q.symm)]at e
    exact⟨hi,hik,e⟩
  ·rw[List.getElem?_append_right (by simpa using Nat.le_of_not_lt hi)]at e
   simp only[List.length_set]at e
   rcases Nat.eq_zero_or_pos (i-σ.length)with q|q
   ·rw[q]at e;cases e
   ·rw[List.getElem?_eq_none (by simp;omega)]at e;cases e
 have vis1:∀ i,fV (σ.set k none++[none]) i→i<σ.length∧i≠k∧fV σ i:=by
  rintro i ⟨q,hq,hv⟩
  obtain⟨h1,h2,h3⟩:=get1 i q hq
  exact⟨h1,h2,q,h3,hv⟩
 have H:RelW X.G ρ gl α1 (σ.set k none++[none]) w∧Ext σ.length σ (σ.set k none++[none]) α α1 w w:=by
  refine lY (fun hX=>⟨?_,?_,?_,fun p hp=>mono _ _ (hW.glob p hp),?_,?_⟩) ⟨rfl,rfl,rfl,Nat.le_refl _,by simp,mono,?_,fun _ _ _=>rfl,fun id b e hv=>(vis1 id hv).2.2,?_⟩
  ·intro id d e
   by_cases hid:id=σ.length
   ·subst hid;rw[aN]at e;cases e;exact⟨by simp,.inl hcn⟩
   ·rw[aO id hid]at e
    obtain⟨h1,h2⟩:=hW.dom id d e
    exact⟨by simp;omega,h2⟩
  ·intro i j d f ei ej hd hf hdf vi vj
   have hi:=vis1 i vi
   have hj:=vis1 j vj
   rw[aO i (by omega)]at ei;rw[aO j (by omega)]at ej
   exact hW.inj i j d f ei ej hd hf hdf hi.2.2 hj.2.2
  ·intro id cs T e
   obtain⟨h1,h2,h3⟩:=get1 id _ e
   obtain⟨d,us,g1,g2,g3⟩:=hW.blk id cs T h3
   exact⟨d,us,mono _ _ g1,g2,SV.RL_mono mono cs us g3⟩
  ·intro id cs T d e hT ei hd j f ej hf hk vj
   have hj:=vis1 j vj
   obtain⟨h1,h2,h3⟩:=get1 id _ e
   rw[aO id (by omega)]at ei;rw[aO j (by omega)]at ej
   exact hW.view id cs T d h3 hT ei hd j f ej hf hk hj.2.2
  ·intro id d q us e hq
   by_cases hid:id=σ.length
   ·subst hid;rw[aN]at e;cases e
    obtain⟨rfl,h2,h3⟩:=hcs q us hq
    refine⟨?_,?_,h3⟩
    ·rcases(hW.dom k b hb).2 with z|z
     ·rw[h2]at z;cases z
     ·exact z
    ·intro j f ej hf hk vj
     have hj:=vis1 j vj
     rw[aO j (by omega)]at ej
     exact hj.2.1 (hW.only hs hb ej h2 hf hk hj.2.2)
   ·rw[aO id hid]at e
    exact hW.sub_next hX e hq
  ·intro id d e
   by_cases hid:id=σ.length
   ·subst hid;rw[aN]at e;cases e;exact .inr ⟨Nat.le_refl _,.inl hcn⟩
   ·rw[aO id hid]at e;exact .inl e
  ·intro id d q us e hq
   by_cases hid:id=σ.length
   ·subst hid;rw[aN]at e;cases e
    obtain⟨rfl,h2,h3⟩:=hcs q us hq
    exact .inr (.inr (.inl ⟨k,b,hb,h2,rfl,hvk⟩))
   ·rw[aO id hid]at e;exact .inl e
 exact⟨α1,c,aN,H.1,H.2,hF⟩
def pO (e:TypeId) (sh:List CK) (s:SV) (σ:aG):Option (Option Nat × E × E):=
 match s with
 | .con (.slice none 0 0)=>some (none,.lit 0,.lit 0)
 | .own id n _=>match σ[id]? with
  |some (some ([.lol _ sh' C n'],T))=>if decide (T=aS+e) && decide (sh'=sh) && E.eqb n n' then some (some id,C,n) else none
  |_=>none
 |_=>none
def yI (o:Option Nat) (σ:aG):aG:=match o with
 |some id=>σ.set id none
 |none=>σ
theorem aEK {e:TypeId} {sh:List CK} {id g:Nat} {C n:E} {α:aR} {σ:aG} {w:World} (hs:σ[id]?=some (some ([.lol g sh C n],aS+e))) (hW:RelW X.G ρ gl α σ w):
  ∃ (b q:Loc) (A:List Value),α id=some b∧α g=some q∧kH b w.heap[b.blk]? 1 A e∧b.base=0∧(b.nil=true∨b.blk<w.heap.size)∧(A.length:Int)=n.den X.G ρ∧(Lc.dec (C.den X.G ρ)).length=A.length∧
   ∀ (i:Nat) (r:List Int) (c:Value),(Lc.dec (C.den X.G ρ))[i]?=some r→A[i]?=some c→Fro q sh (Lc.dec (r.getD 0 0)) c:=by
 have hT:aS≤aS+e:=Nat.le_add_right _ _
 obtain⟨b,vs,hb,h2,h3⟩:=hW.blk id _ _ hs
 rw[cE hT,Nat.add_sub_cancel_left]at h2
 obtain⟨hb0,A,w0,ex0,rfl,h4,h5⟩:=h2
 simp only[SV.RL,SV.R]at h3
 obtain⟨v,vs',e1,⟨q,hq,cl,e2,hcl,hdl,hfro⟩,_⟩:=h3
 obtain⟨rfl,_⟩:=List.cons.inj e1
 simp only[Value.tuple.injEq]at e2
 have e2:=congrArg Array.toList e2
 simp only[List.cons.injEq,Value.agg.injEq,Value.int.injEq,Value.bool.injEq,true_and,and_true]at e2
 obtain⟨e7,e9,e10⟩:=e2
 have e7:=congrArg Array.toList e7
 simp only at e7
 subst e7
 have hw0:w0=1:=by omega
 subst hw0
 refine⟨b,q,A,hb,hq,?_,hb0,(hW.dom id b hb).2,hcl,hdl,hfro⟩
 ·rcases h5 with⟨z1,z2,z3⟩|⟨z1,rest,z2,z3,z4,_⟩
  ·exact .inl ⟨z1,z2,z3⟩
  ·exact .inr ⟨z1,rest,z2,z3,z4⟩
theorem aIm {e:TypeId} {sh:List CK} {id g:Nat} {C n:E} {cp:Option E} {lv:Value} {α:aR} {σ:aG} {w:World} (hs:σ[id]?=some (some ([.lol g sh C n],aS+e))) (hW:RelW X.G ρ gl α σ w) (rl:SV.R X.G ρ α (.own id n cp) lv):
  ∃ (b q:Loc) (A:List Value),α id=some b∧α g=some q∧lv=(if b.nil then .slice none 0 0 else .slice (some ⟨b.blk,0,none⟩) A.length b.cap)∧kH b w.heap[b.blk]? 1 A e∧b.base=0∧(b.nil=true∨b.blk<w.heap.size)∧A.length≤b.cap∧(A.length:Int)=n.den X.G ρ∧(Lc.dec (C.den X.G ρ)).length=A.length∧
   ∀ (i:Nat) (r:List Int) (c:Value),(Lc.dec (C.den X.G ρ))[i]?=some r→A[i]?=some c→Fro q sh (Lc.dec (r.getD 0 0)) c:=by
 obtain⟨b,q,A,hb,hq,h1,h2,h3,h4,h5,h6⟩:=aEK hs hW
 simp only[SV.R]at rl
 obtain⟨b',hb',h0,rfl,hnil,hle,_⟩:=rl
 rw[hb]at hb';cases hb'
 refine⟨b,q,A,hb,hq,?_,h1,h2,h3,by omega,h4,h5,h6⟩
 rw[h2,←h4];rfl
theorem aCB {e:TypeId} {sh:List CK} {s:SV} {lv:Value} {α:aR} {σ:aG} {w:World} {o:Option Nat} {C n:E} (h:pO e sh s σ=some (o,C,n)) (hW:RelW X.G ρ gl α σ w) (rl:SV.R X.G ρ α s lv):
  ∃ (b q:Loc) (A:List Value),lv=(if b.nil then .slice none 0 0 else .slice (some ⟨b.blk,0,none⟩) A.length b.cap)∧kH b w.heap[b.blk]? 1 A e∧b.base=0∧(b.nil=true∨b.blk<w.heap.size)∧A.length≤b.cap∧(A.length:Int)=n.den X.G ρ∧(Lc.dec (C.den X.G ρ)).length=A.length∧
   (∀ (i:Nat) (r:List Int) (c:Value),(Lc.dec (C.den X.G ρ))[i]?=some r→A[i]?=some c→Fro q sh (Lc.dec (r.getD 0 0)) c)∧(∀ k us,q.sub k=some us→∃ j c,α j=some c∧c.sub k=some us)∧
   ((yI o σ=σ∧b.nil=true)∨∃ id,α id=some b∧fV σ id∧yI o σ=σ.set id none):=by
 unfold pO at h
 split at h
 ·cases h
  simp only[SV.R]at rl
  refine⟨⟨0,0,true,0,bT⟩,⟨0,0,true,0,bT⟩,[],rl,.inl ⟨rfl,rfl,rfl⟩,rfl,.inl rfl,Nat.le_refl _,by simp [E.den],by simp [E.den,Lc.dec_zero],fun i r c _ hc=>by simp at hc,fun k us q=>(by cases q),.inl ⟨rfl,rfl⟩⟩
 ·rename_i id n0 cp
  split at h
  case h_2=>cases h
  rename_i g sh' C' n' T hs
  split at h
  case isFalse=>cases h
  rename_i hg
  rw[Bool.and_eq_true,Bool.and_eq_true,decide_eq_true_eq,decide_eq_true_eq]at hg
  obtain⟨⟨rfl,rfl⟩,hnn⟩:=hg
  have hnn:=E.eqb_eq _ _ hnn
  subst hnn
  cases h
  obtain⟨b,q,A,hb,hq,h1,h2,h3,h4,h5,h6,h7,h8⟩:=aIm hs hW rl
  exact⟨b,q,A,h1,h2,h3,h4,h5,h6,h7,h8,fun k us z=>⟨g,q,hq,z⟩,.inr ⟨id,hb,⟨_,hs,oX (Nat.le_add_right _ _)⟩,rfl⟩⟩
 ·cases h
theorem Fro.sub {b c:Loc} {sh:List CK} {L:List (List Int)} {v:Value} (h:Fro b sh L v) (hs:∀ k us,b.sub k=some us→c.sub k=some us):Fro c sh L v:=by
 rcases h with h|⟨k,base,cap,vs,h1,h2,h3,h4,h5⟩
 ·exact .inl h
 ·exact .inr ⟨k,base,cap,vs,h1,h2,h3,hs k vs h4,h5⟩
theorem aCy {t ty e:TypeId} {inf:TypeInfo} {z:Value} (hu:P.underlying t=some (.slice e)) (hinf:P.info? e=some inf) (hz:inf.zero=some z) (hs1:inf.size=1) (hzs:z.cells.size=1) (hbp:0<inf.bytes) {α:aR} {σ:aG} {w:World} (hW:RelW X.G ρ gl α σ w) (hgl:∀ p,p ∈ gl→p.2<σ.length)
  {s:SV} {lv:Value} (rl:SV.R X.G ρ α s lv) {sh:List CK} {o:Option Nat} {C n:E} (ho:pO e sh s σ=some (o,C,n))
  {xv:Value} {B:List Value} {M:List (List Int)} (hBM:B.length=M.length) (one:∀ u,u ∈ B→u.oneCell'=true) (hx:(∃ a c,xv = .slice (some a) M.length c∧∀ j u,B[j]?=some u→w.cell? (a.add j)=some u)∨(B=[]∧M.length=0∧∃ c,xv = .slice none 0 c))
  {j:Nat} {p:Loc} (hp:α j=some p) (hF:∀ (i:Nat) (r:List Int) (c:Value),M[i]?=some r→B[i]?=some c→Fro p sh (Lc.dec (r.getD 0 0)) c)
  {C1 n1:E} (hC1:Lc.dec (C1.den X.G ρ)=Lc.dec (C.den X.G ρ)++M) (hn1:n1.den X.G ρ=n.den X.G ρ+M.length) (hsm:n1.den X.G ρ≤1099511627776 / (inf.bytes:Int)):
  ∃ v w' α',(Builtin.append_ #[t,t] ty #[lv,xv]).run P w = .ok v w'∧SV.R X.G ρ α' (.own σ.length n1 none) v∧RelW X.G ρ gl α' (yI o σ++[some ([.lol σ.length sh C1 n1],aS+e)]) w'∧Ext σ.length σ (yI o σ++[some ([.lol σ.length sh C1 n1],aS+e)]) α α' w w':=by
 obtain⟨b,q,A,hlv,hbc,hb0,hblt,hAc,hAn,hdl,hFA,hqs,hold⟩:=aCB ho hW rl
 have hT:aS≤aS+e:=Nat.le_add_right _ _
 have h1:=Int.mul_le_mul_of_nonneg_right hsm (show (0:Int)≤inf.bytes by omega)
 have h2:1099511627776 / (inf.bytes:Int)*inf.bytes≤1099511627776:=Int.ediv_mul_le _ (by omega)
 have h3:=Int.ediv_le_self (a:=1099511627776) (inf.bytes:Int) (by omega)
 have h4:(((A.length+M.length)*inf.bytes:Nat):Int)=n1.den X.G ρ*inf.bytes:=by rw[Int.natCast_mul,hn1,←hAn];simp
 obtain⟨v',w',b',q1,q2,q3,q4,q5,q6,q7,q8,q9,q10,q11⟩:=aAK (ty:=ty) w hu hinf hz (by rw[hzs,hs1]) (by omega) (A:=A) (B:=B) (nA:=A.length) (nB:=M.length) (by rw[hs1,Nat.mul_one]) (by rw[hs1,Nat.mul_one,hBM]) hlv (by rw[hs1];exact hbc) hb0 hblt hAc one hx (by omega) (by omega)
 have hag:∀ k us vs,q.sub k=some us→p.sub k=some vs→us=vs:=by
  intro k us vs e1 e2
  obtain⟨j2,c2,e3,e4⟩:=hqs k us e1
  obtain⟨_,_,T1,f1,e5⟩:=hW.sub j2 c2 k us e3 e4
  obtain⟨_,_,T2,f2,e6⟩:=hW.sub j p k vs hp e2
  rw[e5]at e6
  simp only[Option.some.injEq,Obj.cells.injEq]at e6
  have:=congrArg Array.toList e6.1
  simpa using this
 obtain⟨b2,hb2⟩:∃ b2:Loc,b2=⟨b'.blk,b'.cap,b'.nil,b'.base,fun k=>match q.sub k with|some us=>some us|none=>p.sub k⟩:=⟨_,rfl⟩
 have hql:∀ k us,q.sub k=some us→b2.sub k=some us:=by intro k us e1;rw[hb2];simp only[e1]
 have hpl:∀ k us,p.sub k=some us→b2.sub k=some us:=by
  intro k us e1
  rw[hb2]
  cases hq:q.sub k with
  |none=>simp only[hq];exact e1
  |some us'=>simp only[hq];rw[hag k us' us hq e1]
 have r1:b2.blk=b'.blk:=by rw[hb2]
 have r2:b2.cap=b'.cap:=by rw[hb2]
 have r3:b2.nil=b'.nil:=by rw[hb2]
 have r4:b2.base=b'.base:=by rw[hb2]
 obtain⟨α',a1,a2,a3⟩:=yW (b:=b) (b':=b2) (T:=aS+e) (cs:=[.lol σ.length sh C1 n1]) (vs:=[.tuple #[.agg (A++B).toArray,.int .i64 ((1:Nat):Int),.bool false]]) hW hold hgl q2 q3 q4 q5 q6 (by rw[r1,r3];exact q10)
  (by
   rw[cE hT,Nat.add_sub_cancel_left,r1]
   refine⟨by rw[r4];exact q11,A++B,1,false,rfl,by decide,?_⟩
   rw[r2,r3]
   rw[hs1]at q8
   rcases q8 with⟨z1,z2,z3⟩|⟨z1,rest,z2,z3,z4⟩
   ·exact .inl ⟨z1,z2,z3⟩
   ·exact .inr ⟨z1,rest,z2,z3,z4,fun z=>by cases z⟩)
  (by
   intro α' _ ha
   refine aV ?_ aZ
   simp only[SV.R]
   refine⟨b2,ha,A++B,rfl,by rw[List.length_append,hn1,←hAn,hBM];simp,by rw[hC1,List.length_append,List.length_append,hdl,hBM],?_⟩
   intro i r c hr hc
   rw[hC1]at hr
   by_cases hi:i<A.length
   ·rw[List.getElem?_append_left (by omega)]at hr
    rw[List.getElem?_append_left hi]at hc
    exact(hFA i r c hr hc).sub hql
   ·rw[List.getElem?_append_right (by omega),hdl]at hr
    rw[List.getElem?_append_right (by omega)]at hc
    exact(hF _ r c hr hc).sub hpl)
  (by
   intro k us e1
   rw[hb2]at e1
   simp only at e1
   cases hq:q.sub k with
   |none=>rw[hq]at e1;exact⟨j,p,hp,e1⟩
   |some us'=>rw[hq]at e1;cases e1;exact hqs k us hq)
 refine⟨v',w',α',q1,?_,a2,a3⟩
 simp only[SV.R]
 refine⟨b2,a1,by omega,?_,?_,by rw[r2];omega,fun e he _=>by cases he⟩
 ·rw[q7,r1,r2,r3,r4,q11,show (n1.den X.G ρ).toNat=A.length+M.length by omega]
 ·intro hn
  rw[r3]at hn
  rcases q8 with⟨z1,z2,z3⟩|⟨z1,_⟩
  ·have:=congrArg List.length z2
   rw[List.length_append]at this
   simp only[List.length_nil]at this
   exact⟨by omega,by rw[r2];exact z3⟩
  ·rw[hn]at z1;cases z1
def nZ (P:Program) (X:Ctx) (gl:List (Nat × Nat)) (ts:Array TypeId) (s x:SV) (σ:aG):Res (SV × aG):=
 match ts.toList with
 |[t,t']=>
  if decide (t=t') && gl.all (fun p=>decide (p.2<σ.length)) then match P.underlying t with
   |some (.slice e)=>match P.info? e with
    |some inf=>match inf.zero with
     |some z=>
      if decide (inf.size=1) && decide (z.cells.size=1) && decide (0<inf.bytes) then
       match x with
       | .slice id2 off 1 _=>match σ[id2]? with
        |some (some (cs,U))=>match cs[off]? with
         |some sv=>match oH sv with
          |some (k,m)=>match σ[k]? with
           |some (some ([.vec sh D m' _],Tk))=>
            if eS U && decide (aS≤Tk) && E.eqb m m' then match pO e sh s σ with
             |some (o,C,n)=>
              if decide (o≠some k) then eQ (E.mkOp .add n (.lit 1)) fun n1=>(Res.test X (.cmp .le n1 (.lit (1099511627776 / (inf.bytes:Int))))).bind fun t1=>(Res.test X (.cmp .le m (.lit 1099511627776))).bind fun t2=>
               if t1 && t2 then .ok (.own (σ.length+1) n1 none,yI o (σ.set k none++[none])++[some ([.lol (σ.length+1) sh (.app 91 (.cons C (.cons D .nil))) n1],aS+e)]) else .fail 380
              else .fail 381
             |none => .fail 382
            else .fail 383
           |_ => .fail 384
          |none => .fail 390
         |none => .fail 385
        |_ => .fail 386
       |x=>match oH x with
        |some (id3,m)=>match σ[id3]? with
         |some (some ([.lol _ sh D m'],Tk))=>
          if decide (Tk=aS+e) && E.eqb m m' then match pO e sh s σ with
           |some (o,C,n)=>eQ (E.mkOp .add n m) fun n1=>(Res.test X (.cmp .le n1 (.lit (1099511627776 / (inf.bytes:Int))))).bind fun t1=>
             if t1 then .ok (.own σ.length n1 none,yI o σ++[some ([.lol σ.length sh (.app 94 (.cons C (.cons D .nil))) n1],aS+e)]) else .fail 380
           |none => .fail 382
          else .fail 383
         |_ => .fail 387
        |none => .fail 388
      else .fail 389
     |none => .fail 364
    |none => .fail 364
   |_ => .fail 365
  else .fail 366
 |_ => .fail 367
theorem oQ (hX:X.Ok ρ) {α:aR} {σ σ':aG} {w:World} {ts:Array TypeId} {ty:TypeId} {l x s:SV} {lv xv:Value} (h:nZ P X gl ts l x σ = .ok (s,σ')) (hW:RelW X.G ρ gl α σ w) (rl:SV.R X.G ρ α l lv) (rx:SV.R X.G ρ α x xv):
  ∃ v w' α',(Builtin.append_ ts ty #[lv,xv]).run P w = .ok v w'∧SV.R X.G ρ α' s v∧RelW X.G ρ gl α' σ' w'∧Ext σ.length σ σ' α α' w w':=by
 unfold nZ at h
 split at h
 case h_2=>cases h
 rename_i t t' hts
 have hts:ts=#[t,t']:=by apply Array.ext';rw[hts]
 split at h
 case isFalse=>cases h
 rename_i hg
 simp only[Bool.and_eq_true,decide_eq_true_eq,List.all_eq_true]at hg
 obtain⟨rfl,hgl⟩:=hg
 subst hts
 split at h
 case h_2=>cases h
 rename_i e hu
 split at h
 case h_2=>cases h
 rename_i inf hinf
 split at h
 case h_2=>cases h
 rename_i z hz
 split at h
 case isFalse=>cases h
 rename_i hg
 simp only[Bool.and_eq_true,decide_eq_true_eq]at hg
 obtain⟨⟨hs1,hzs⟩,hbp⟩:=hg
 split at h
 ·rename_i id2 off cp2
  split at h
  case h_2=>cases h
  rename_i cs U hs2
  split at h
  case h_2=>cases h
  rename_i sv hcs
  split at h
  case h_2=>cases h
  rename_i k m hwh
  split at h
  case h_2=>cases h
  rename_i sh D m' exk Tk hsk
  split at h
  case isFalse=>cases h
  rename_i hg
  rw[Bool.and_eq_true,Bool.and_eq_true,decide_eq_true_eq]at hg
  obtain⟨⟨hU,hTk⟩,hmm⟩:=hg
  have hmm:=E.eqb_eq _ _ hmm
  subst hmm
  split at h
  case h_2=>cases h
  rename_i o C n ho
  split at h
  case isFalse=>cases h
  rename_i hok
  simp only[decide_eq_true_eq]at hok
  rw[kZ]at h
  replace h:=Res.bind_ok h;obtain⟨t1,ht1,h⟩:=h
  replace h:=Res.bind_ok h;obtain⟨t2,ht2,h⟩:=h
  have ht1:=Res.test_ok hX ht1
  have ht2:=Res.test_ok hX ht2
  split at h
  case isFalse=>cases h
  rename_i hg
  simp only[Bool.and_eq_true]at hg
  obtain⟨rfl,rfl⟩:=hg
  cases h
  replace ht1:(E.mkOp .add n (.lit 1)).den X.G ρ≤1099511627776 / (inf.bytes:Int):=of_decide_eq_true ht1
  replace ht2:m.den X.G ρ≤1099511627776:=of_decide_eq_true ht2
  simp only[SV.R]at rx
  obtain⟨b2,hb2,rfl⟩:=rx
  obtain⟨b2',vs,g1,g2,g3⟩:=hW.blk id2 cs U hs2
  rw[hb2]at g1;cases g1
  have g2':=((cJ hU).1 g2).2
  obtain⟨u,hu1,hu2⟩:=mL g3 hcs
  obtain⟨α1,c,e1,e2,e3,e4⟩:=aKf hW hsk hTk
  obtain⟨_,_,_,_,hlen,_⟩:=uB hW hsk hTk
  have hF:=e4 u (by omega) (aAg hwh hu2)
  have ho1:pO e sh l (σ.set k none++[none])=some (o,C,n):=by
   unfold pO at ho ⊢
   split at ho
   ·exact ho
   ·rename_i id n0 cp
    have hid:id≠k:=by
     intro q
     subst q
     rw[hsk]at ho
     cases ho
    have hlt:id<σ.length:=by
     rcases Nat.lt_or_ge id σ.length with q|q
     ·exact q
     ·rw[List.getElem?_eq_none q]at ho;cases ho
    rw[List.getElem?_append_left (by simpa using hlt),List.getElem?_set_ne (fun q=>hid q.symm)]
    exact ho
   ·cases ho
  have hl0:(σ.set k none++[none]).length=σ.length+1:=by simp
  obtain⟨v,w',α',f1,f2,f3,f4⟩:=aCy (ty:=ty) (M:=[[D.den X.G ρ]]) (B:=[u]) (xv := .slice (some ⟨b2.blk,off,none⟩) 1 cp2) (C1 := .app 91 (.cons C (.cons D .nil))) (n1:=E.mkOp .add n (.lit 1)) hu hinf hz hs1 hzs hbp e2 (fun p hp=>by rw[hl0];have:=hgl p hp;omega) (SV.R_mono e3.mono _ _ rl) ho1 rfl
   (by
    intro u' hu'
    rw[List.mem_singleton.1 hu']
    exact aCA hwh hu2)
   (.inl ⟨_,_,rfl,by
    intro j u' hu'
    rw[bJ]
    cases j with
    |zero=>
     simp only[List.getElem?_cons_zero,Option.some.injEq]at hu'
     subst hu'
     simp [World.cell?,g2',hu1]
    |succ j=>simp at hu'⟩) e1
   (by
    intro i r c' hr hc'
    cases i with
    |zero=>
     simp only[List.getElem?_cons_zero,Option.some.injEq]at hr hc'
     subst hr hc'
     exact hF
    |succ i=>simp at hr)
   (by
    simp only[E.den,EL.den]
    rw[hX.gi.lists _ _ (by omega) (by omega)]
    simp only[Lc.fn,Lc.op91,Lc.dec_enc]) (by rw[E.mkOp_den];simp [IOp.den,E.den]) ht1
  rw[hl0]at f2 f3 f4
  exact⟨v,w',α',f1,f2,f3,e3.trans f4 (Nat.le_succ _)⟩
 ·rename_i x0 _
  split at h
  case h_2=>cases h
  rename_i id3 m hwh
  split at h
  case h_2=>cases h
  rename_i g sh D m' Tk hsk
  split at h
  case isFalse=>cases h
  rename_i hg
  rw[Bool.and_eq_true,decide_eq_true_eq]at hg
  obtain⟨rfl,hmm⟩:=hg
  have hmm:=E.eqb_eq _ _ hmm
  subst hmm
  split at h
  case h_2=>cases h
  rename_i o C n ho
  rw[kZ]at h
  replace h:=Res.bind_ok h;obtain⟨t1,ht1,h⟩:=h
  have ht1:=Res.test_ok hX ht1
  split at h
  case isFalse=>cases h
  rename_i hg
  subst hg
  cases h
  replace ht1:(E.mkOp .add n m).den X.G ρ≤1099511627776 / (inf.bytes:Int):=of_decide_eq_true ht1
  obtain⟨b,q,A,hb,hq,hbc,hb0,hblt,hAn,hdl,hFA⟩:=aEK hsk hW
  obtain⟨bw,hbw,hm0,hwv⟩:=aAg hwh rx
  rw[hb]at hbw;cases hbw
  have one:∀ u,u ∈ A→u.oneCell'=true:=by
   intro u hu
   obtain⟨i,hi,rfl⟩:=List.mem_iff_getElem.1 hu
   rcases hFA i _ _ (List.getElem?_eq_getElem (by omega)) (List.getElem?_eq_getElem hi)with⟨_,_,_,z⟩|⟨_,_,_,_,z,_⟩<;>rw[z]<;>rfl
  obtain⟨v,w',α',f1,f2,f3,f4⟩:=aCy (ty:=ty) (M:=Lc.dec (D.den X.G ρ)) (B:=A) (xv:=xv) (C1 := .app 94 (.cons C (.cons D .nil))) (n1:=E.mkOp .add n m) hu hinf hz hs1 hzs hbp hW hgl rl ho hdl.symm one
   (by
    rcases hwv with⟨z1,a,c,z2⟩|⟨z1,c,z2,z3⟩
    ·have hA0:A=[]:=List.eq_nil_of_length_eq_zero (by omega)
     have hM0:(Lc.dec (D.den X.G ρ)).length=0:=by omega
     cases a with
     |none=>exact .inr ⟨hA0,hM0,c,z2⟩
     |some a=>exact .inl ⟨a,c,by rw[z2,hM0],fun j u hu'=>by rw[hA0]at hu';simp at hu'⟩
    ·rcases hbc with⟨y1,_⟩|⟨_,rest,y2,_⟩
     ·rw[z1]at y1;cases y1
     refine .inl ⟨⟨b.blk,b.base,none⟩,c,by rw[z2,hdl,←hAn];rfl,?_⟩
     intro j u hu'
     rw[bJ,hb0,Nat.zero_add]
     simp only[World.cell?,y2,Option.isSome_none,Bool.false_eq_true,if_false,List.getElem?_toArray]
     rw[List.getElem?_append_left (List.getElem?_eq_some_iff.1 hu').1,hu']) hq hFA
   (by
    simp only[E.den,EL.den]
    rw[hX.gi.lists _ _ (by omega) (by omega)]
    simp only[Lc.fn,Lc.op94,Lc.dec_enc]) (by rw[E.mkOp_den];simp only[IOp.den];rw[←hAn,hdl]) ht1
  exact⟨v,w',α',f1,f2,f3,f4⟩
end
end Sx
end Go.Proofs.Ythiehfhphgkaeaa
namespace Go.Proofs.Ythiehfhphgkaeaa
namespace Sx
open Go Go.RowKit
def lJ (σ:aG) (r:Res SV):Res (SV × aG):=r.bind fun s => .ok (s,σ)
def aD0 (P:Program) (t:TypeId) (f:Nat) (id w:Nat) (i:E) (j:Nat):Res SV:=
 match P.underlying t with
 |some (.struct fs)=>match fs[f]? with
  |some fl=>match P.info? fl.type with
   |some inf=>if decide (inf.size=0) then .fail 370 else .ok (.vptr id w i (j+fl.offset))
   |none => .fail 371
  |none => .fail 372
 |_ => .fail 373
def aDh (P:Program) (t:TypeId) (f:Nat) (id:Nat) (sh:List CK) (C i:E) (j:Nat):Res SV:=
 match P.underlying t with
 |some (.struct fs)=>match fs[f]? with
  |some fl=>match P.info? fl.type with
   |some inf=>if decide (inf.size=0) then .fail 370 else .ok (.fptr id sh C i (j+fl.offset))
   |none => .fail 371
  |none => .fail 372
 |_ => .fail 373
def rM (P:Program) (X:Ctx) (gl:List (Nat × Nat)) (ts:Array TypeId) (s x:SV) (σ:aG):Res (SV × aG):=
 match s with
 | .con _=>match uJ P X gl ts s x σ with
  | .fail _=>nZ P X gl ts s x σ
  |r=>r
 |_=>match nZ P X gl ts s x σ with
  | .fail _=>uJ P X gl ts s x σ
  |r=>r
def aLb (P:Program) (cap:Bool) (t:TypeId) (x:SV):Option (Res SV):=
 match x with
 | .own _ n c=>match P.underlying t with
  |some (.slice _)=>some (if cap then (match aEz n c with|some e => .ok (.int .i64 e)|none => .fail 374) else .ok (.int .i64 n))
  |_=>none
 | .vsl _ _ _ n c=>match P.underlying t with
  |some (.slice _)=>some (if cap then (match c with|some e => .ok (.int .i64 e)|none => .fail 374) else .ok (.int .i64 n))
  |_=>none
 | .fro _ _ _ n=>match P.underlying t with
  |some (.slice _)=>some (if cap then .fail 374 else .ok (.int .i64 n))
  |_=>none
 |_=>none
def gQ (P:Program) (X:Ctx) (gl:List (Nat × Nat)) (ev:Operand→SV) (σ:aG) (o:Oper):Option (Res (SV × aG)):=
 match o.op with
 | .load t x=>match ev x with
  | .vptr id w i j=>some (lJ σ (aIh P X t id w i j σ))
  | .fptr _ sh C i j=>some (lJ σ (aKT P t sh C i j))
  |_=>none
 | .store t x v=>match ev x with
  | .vptr id w i j=>some ((aC5 P X t id w i j (ev v) σ).bind fun σ' => .ok (.tuple [],σ'))
  |_=>none
 | .indexAddr t x i=>(mF P X t (ev x) (ev i)).map (lJ σ)
 | .fieldAddr t x f=>match ev x with
  | .vptr id w i j=>some (lJ σ (aD0 P t f id w i j))
  | .fptr id sh C i j=>some (lJ σ (aDh P t f id sh C i j))
  |_=>none
 | .slice t x lo hi mx=>(aC1 P X t (ev x) (lo.map ev) (hi.map ev) (mx.map ev)).map (lJ σ)
 | .nilCheck x=>match ev x with
  | .vptr id w i j=>some (.ok (.vptr id w i j,σ))
  | .fptr id sh C i j=>some (.ok (.fptr id sh C i j,σ))
  |_=>none
 | .makeSlice t l c=>aCK P X t (ev l) (ev c) σ
 | .call { callee := .builtin b,args,argTypes }=>match b with
  | .len=>match argTypes[0]?,args.toList with
   |some t,x::_=>(aLb P false t (ev x)).map (lJ σ)
   |_,_=>none
  | .cap=>match argTypes[0]?,args.toList with
   |some t,x::_=>(aLb P true t (ev x)).map (lJ σ)
   |_,_=>none
  | .append=>match args.toList with
   |[s,x]=>some (rM P X gl argTypes (ev s) (ev x) σ)
   |_=>none
  |_=>none
 |_=>none
def oN (P:Program) (X:Ctx) (gl:List (Nat × Nat)) (ev:Operand→SV) (σ:aG) (o:Oper):Res (SV × aG):=
 match gQ P X gl ev σ o with
 |some r=>r
 |none=>mY P X ev σ o
section
variable {ρ:Nat→Int} {P:Program} {X:Ctx} {gl:List (Nat × Nat)}
theorem aC8 (hX:X.Ok ρ) {α:aR} {t:TypeId} {x s:SV} {xv:Value} {lo hi mx:Option SV} {lv hv mv:Option Value} {r:Res SV} (h0:aC1 P X t x lo hi mx=some r) (h:r = .ok s) (rx:SV.R X.G ρ α x xv)
  (hl:lv.isSome=lo.isSome) (hlr:∀ s x,lo=some s→lv=some x→SV.R X.G ρ α s x) (hh:hv.isSome=hi.isSome) (hhr:∀ s x,hi=some s→hv=some x→SV.R X.G ρ α s x) (hm:mv.isSome=mx.isSome) (hmr:∀ s x,mx=some s→mv=some x→SV.R X.G ρ α s x) (w:World):
  ∃ v,(Instr.sliceAt t xv lv hv mv).run P w = .ok v w∧SV.R X.G ρ α s v:=by
 unfold aC1 at h0
 split at h0
 ·rename_i id n cap
  cases h0
  split at h
  case h_2=>cases h
  rename_i el hu
  split at h
  case h_2=>cases h
  rename_i inf hinf
  refine rB hX h hu hinf ?_ hl hlr hh hhr hm hmr w
  simp only[SV.R]at rx ⊢
  obtain⟨b,hb,h0,rfl,hnil,hle,hcap⟩:=rx
  refine⟨b,hb,h0,Int.le_refl _,?_⟩
  cases q:b.nil
  ·refine .inr ⟨rfl,b.cap,?_,by omega,fun e he=>hcap e (jK (G:=X.G) (ρ:=ρ) he).1 (jK he).2⟩
   simp [E.den]
  ·obtain⟨z1,z2⟩:=hnil q
   refine .inl ⟨z1,none,0,rfl,.inr ⟨rfl,?_⟩⟩
   intro e he
   have:=hcap e (jK (G:=X.G) (ρ:=ρ) he).1 (jK he).2
   omega
 ·rename_i id wd off n cap
  cases h0
  split at h
  case h_2=>cases h
  rename_i el hu
  split at h
  case h_2=>cases h
  rename_i inf hinf
  split at h
  case isFalse=>cases h
  rename_i hw
  simp only[decide_eq_true_eq]at hw
  subst hw
  exact rB hX h hu hinf rx hl hlr hh hhr hm hmr w
 ·cases h0
theorem aCI {α:aR} {t ty:TypeId} {x s:SV} {v:Value} {vs:List Value} {ts:Array TypeId} {c:Bool} {r:Res SV} (h0:aLb P c t x=some r) (h:r = .ok s) (ht:ts[0]?=some t) (rx:SV.R X.G ρ α x v) (w:World):
  ∃ u,(if c then Builtin.cap_ ts ty (v::vs).toArray else Builtin.len_ ts ty (v::vs).toArray).run P w = .ok u w∧SV.R X.G ρ α s u:=by
 have hv0:(v::vs).toArray[0]?=some v:=by simp
 have key:∀ (a:Option Addr) (n m:Nat) (e:TypeId),v = .slice a n m→P.underlying t=some (.slice e)→(if c then Builtin.cap_ ts ty (v::vs).toArray else Builtin.len_ ts ty (v::vs).toArray).run P w = .ok (.int .i64 (if c then (m:Int) else (n:Int))) w:=by
  intro a n m e hv hu
  subst hv
  cases c
  ·simp [Builtin.len_,ht,run_underlying hu,goInt]
  ·simp [Builtin.cap_,ht,run_underlying hu,goInt]
 unfold aLb at h0
 split at h0
 ·rename_i id n cap
  split at h0
  case h_2=>cases h0
  rename_i e hu
  cases h0
  simp only[SV.R]at rx
  obtain⟨b,hb,h1,hv,hnil,hle,hcap⟩:=rx
  obtain⟨a,m,hv',hm⟩:∃ a m,v = .slice a (n.den X.G ρ).toNat m∧m=b.cap:=by
   cases q:b.nil
   ·rw[q]at hv;exact⟨_,_,hv,rfl⟩
   ·rw[q]at hv
    obtain⟨z1,z2⟩:=hnil q
    exact⟨none,0,by rw[hv,z1];rfl,z2.symm⟩
  refine⟨_,key a _ m e hv' hu,?_⟩
  cases c
  ·simp only[Bool.false_eq_true,if_false]at h ⊢
   cases h
   simp only[SV.R];congr 1;omega
  ·simp only[if_true]at h ⊢
   split at h
   ·rename_i e0 he0
    cases h
    simp only[SV.R];rw[hm,hcap e0 (jK (G:=X.G) (ρ:=ρ) he0).1 (jK he0).2]
   ·cases h
 ·rename_i id wd off n cap
  split at h0
  case h_2=>cases h0
  rename_i e hu
  cases h0
  simp only[SV.R]at rx
  obtain⟨b,hb,h1,h2,hv⟩:=rx
  obtain⟨a,m,hv',hm⟩:∃ (a:Option Addr) (m:Nat),v = .slice a (n.den X.G ρ).toNat m∧∀ e,cap=some e→(m:Int)=e.den X.G ρ:=by
   rcases hv with⟨q1,a,c0,rfl,q2⟩|⟨_,c0,rfl,_,q2⟩
   ·refine⟨a,c0,by rw[q1];rfl,?_⟩
    intro e he
    rcases q2 with q2|⟨q2,q3⟩
    ·rw[he]at q2;cases q2
    ·rw[q3 e he,q2];rfl
   ·exact⟨_,c0,rfl,q2⟩
  refine⟨_,key a _ m e hv' hu,?_⟩
  cases c
  ·simp only[Bool.false_eq_true,if_false]at h ⊢
   cases h
   simp only[SV.R];congr 1;omega
  ·simp only[if_true]at h ⊢
   split at h
   ·rename_i e0
    cases h
    simp only[SV.R];rw[hm e0 rfl]
   ·cases h
 ·rename_i id sh C n
  split at h0
  case h_2=>cases h0
  rename_i e hu
  cases h0
  simp only[SV.R]at rx
  obtain⟨b,hb,h1,hv⟩:=rx
  obtain⟨a,m,hv'⟩:∃ (a:Option Addr) (m:Nat),v = .slice a (n.den X.G ρ).toNat m:=by
   rcases hv with⟨q1,a,k,q2⟩|⟨k,base,cp,vs,q2,_⟩
   ·rw[q1]at h1
    exact⟨a,k,by rw[q2,←h1];rfl⟩
   ·exact⟨_,cp,by rw[q2,←h1];rfl⟩
  refine⟨_,key a _ m e hv' hu,?_⟩
  cases c
  ·simp only[Bool.false_eq_true,if_false]at h ⊢
   cases h
   simp only[SV.R];congr 1;omega
  ·simp only[if_true]at h
   cases h
 ·cases h0
theorem xZ (hX:X.Ok ρ) {α:aR} {σ σ':aG} {w:World} {ts:Array TypeId} {ty:TypeId} {l x s:SV} {lv xv:Value} (h:rM P X gl ts l x σ = .ok (s,σ')) (hW:RelW X.G ρ gl α σ w) (rl:SV.R X.G ρ α l lv) (rx:SV.R X.G ρ α x xv):
  ∃ v w' α',(Builtin.append_ ts ty #[lv,xv]).run P w = .ok v w'∧SV.R X.G ρ α' s v∧RelW X.G ρ gl α' σ' w'∧Ext σ.length σ σ' α α' w w':=by
 unfold rM at h
 split at h
 ·split at h
  ·exact oQ hX h hW rl rx
  ·exact tV hX h hW rl rx
 ·split at h
  ·exact tV hX h hW rl rx
  ·exact oQ hX h hW rl rx
theorem aHm (hX:X.Ok ρ) {α:aR} {σ σ':aG} {w:World} {ev:Operand→SV} {ea:Operand→Value} {o:Oper} {s:SV} {r:Res (SV × aG)} (h0:gQ P X gl ev σ o=some r) (h:r = .ok (s,σ')) (hW:RelW X.G ρ gl α σ w)
  (hop:∀ x,x ∈ o.op.operands→SV.R X.G ρ α (ev x) (ea x)):dY P X ρ gl α σ σ' w s (execOp ea o):=by
 obtain⟨dst,op,type,pos,after,guard⟩:=o
 simp only[gQ]at h0
 cases op<;>simp only[Op.operands]at hop<;>(try simp only at h0)<;>first|(cases h0;done)|skip
 case load t x=>
  have rx:=hop x (by simp)
  split at h0
  case h_3=>cases h0
  case h_2=>
   rename_i id sh C i j he
   cases h0
   rw[he]at rx
   refine dY.pure hW h ?_
   intro hl
   obtain⟨v,hv,rv⟩:=aHn hX hl hW rx
   exact⟨v,by simp [hv],rv⟩
  rename_i id wd i j he
  cases h0
  rw[he]at rx
  refine dY.pure hW h ?_
  intro hl
  obtain⟨v,hv,rv⟩:=aHi hX hl hW rx
  exact⟨v,by simp [hv],rv⟩
 case store t x v=>
  have rx:=hop x (by simp)
  split at h0
  case h_2=>cases h0
  rename_i id wd i j he
  cases h0
  rw[he]at rx
  obtain⟨σ2,h2,h⟩:=Res.bind_ok h
  cases h
  obtain⟨w',h3,h4,h5⟩:=aDf hX h2 hW rx (hop v (by simp))
  exact⟨undef,w',α,.inr ⟨by simp [execOp,h3],rfl⟩,by simp only[SV.R];exact⟨[],rfl,aZ⟩,h4,h5⟩
 case indexAddr t x i=>
  obtain⟨q,hq,rfl⟩:=Option.map_eq_some_iff.1 h0
  refine dY.pure hW h ?_
  intro hb
  exact vY hX hq hb (hop x (by simp)) (hop i (by simp)) w
 case fieldAddr t x f=>
  have rx:=hop x (by simp)
  split at h0
  case h_3=>cases h0
  case h_2=>
   rename_i id sh C i j he
   cases h0
   rw[he]at rx
   simp only[SV.R]at rx
   obtain⟨b,hb,k,base,vs,rx,hi0,hil,hsub,hvs⟩:=rx
   refine dY.pure hW h ?_
   intro hl
   unfold aDh at hl
   split at hl
   case h_2=>cases hl
   rename_i fs hu
   split at hl
   case h_2=>cases hl
   rename_i fl hf
   split at hl
   case h_2=>cases hl
   rename_i inf hinf
   split at hl
   ·cases hl
   rename_i hz
   simp only[decide_eq_true_eq]at hz
   cases hl
   refine⟨.pointer (some ⟨k,base+((i.den X.G ρ).toNat*sh.length+j)+fl.offset,none⟩),?_,by simp only[SV.R];exact⟨b,hb,k,base,vs,by rw[Nat.add_assoc,Nat.add_assoc],hi0,hil,hsub,hvs⟩⟩
   simp [Instr.fieldAt,rx,run_underlying hu,hf,Instr.sureAddr,fieldPlace,sizeOf,typeInfo,hinf,hz,bJ]
  rename_i id wd i j he
  cases h0
  rw[he]at rx
  simp only[SV.R]at rx
  obtain⟨b,hb,hn,hi,rx⟩:=rx
  refine dY.pure hW h ?_
  intro hl
  unfold aD0 at hl
  split at hl
  case h_2=>cases hl
  rename_i fs hu
  split at hl
  case h_2=>cases hl
  rename_i fl hf
  split at hl
  case h_2=>cases hl
  rename_i inf hinf
  split at hl
  ·cases hl
  rename_i hz
  simp only[decide_eq_true_eq]at hz
  cases hl
  refine⟨.pointer (some ⟨b.blk,b.base+((i.den X.G ρ).toNat*wd+j)+fl.offset,none⟩),?_,by simp only[SV.R];exact⟨b,hb,hn,hi,by rw[Nat.add_assoc,Nat.add_assoc]⟩⟩
  simp [Instr.fieldAt,rx,run_underlying hu,hf,Instr.sureAddr,fieldPlace,sizeOf,typeInfo,hinf,hz,bJ]
 case slice t x lo hi mx=>
  obtain⟨q,hq,rfl⟩:=Option.map_eq_some_iff.1 h0
  refine dY.pure hW h ?_
  intro hb
  refine aC8 hX hq hb (hop x (by simp)) (by simp) ?_ (by simp) ?_ (by simp) ?_ w
  ·intro s v hs hv
   cases lo with
   |none=>cases hs
   |some l=>cases hs;cases hv;exact hop l (by simp)
  ·intro s v hs hv
   cases hi with
   |none=>cases hs
   |some l=>cases hs;cases hv;exact hop l (by simp)
  ·intro s v hs hv
   cases mx with
   |none=>cases hs
   |some l=>cases hs;cases hv;exact hop l (by simp)
 case nilCheck x=>
  have rx:=hop x (by simp)
  split at h0
  case h_3=>cases h0
  case h_2=>
   rename_i id sh C i j he
   cases h0
   cases h
   rw[he]at rx
   have rx':=rx
   simp only[SV.R]at rx'
   obtain⟨b,hb,k,base,vs,rx',_⟩:=rx'
   exact dY.here hW (v:=ea x) (by simp [execOp,rx']) rx
  rename_i id wd i j he
  cases h0
  cases h
  rw[he]at rx
  have rx':=rx
  simp only[SV.R]at rx'
  obtain⟨b,hb,_,_,rx'⟩:=rx'
  exact dY.here hW (v:=ea x) (by simp [execOp,rx']) rx
 case makeSlice t l c=>
  obtain⟨v,w',α',h1,h2,h3,h4⟩:=aG7 hX h0 h hW (hop l (by simp)) (hop c (by simp))
  exact⟨v,w',α',.inl (by simp [execOp,h1]),h2,h3,h4⟩
 case call c=>
  obtain⟨callee,args,argTypes⟩:=c
  cases callee with
  |value f=>cases h0
  |invoke r m=>cases h0
  |builtin b=>
   have hargs:∀ p,p ∈ args.toList→SV.R X.G ρ α (ev p) (ea p):=fun p hp=>hop p (by simp [Call.operands]at *;exact hp)
   have harr:args.map ea=(args.toList.map ea).toArray:=by rw[←Array.toList_map]
   cases b<;>(try simp only at h0)<;>first|(cases h0;done)|skip
   case append=>
    split at h0
    case h_2=>cases h0
    rename_i l x hx
    cases h0
    rw[hx]at harr
    simp only[List.map_cons,List.map_nil]at harr
    have e:execOp ea { dst:=dst,op := .call { callee := .builtin .append,args:=args,argTypes:=argTypes },type:=type,pos:=pos,after:=after,guard:=guard }=(do pure (.value (←Builtin.append_ argTypes type (args.map ea))):Sem Next):=rfl
    rw[e,harr]
    obtain⟨v,w',α',h1,h2,h3,h4⟩:=xZ (ty:=type) hX h hW (hargs l (by rw[hx];simp)) (hargs x (by rw[hx];simp))
    exact⟨v,w',α',.inl (by simp [h1]),h2,h3,h4⟩
   case cap=>
    split at h0
    case h_2=>cases h0
    rename_i t x rest ht hx
    obtain⟨q,hq,rfl⟩:=Option.map_eq_some_iff.1 h0
    rw[hx]at harr
    simp only[List.map_cons]at harr
    have rx:=hargs x (by rw[hx];simp)
    have e:execOp ea { dst:=dst,op := .call { callee := .builtin .cap,args:=args,argTypes:=argTypes },type:=type,pos:=pos,after:=after,guard:=guard }=(do pure (.value (←Builtin.cap_ argTypes type (args.map ea))):Sem Next):=rfl
    rw[e,harr]
    refine dY.pure hW h ?_
    intro hb
    exact aCI (c:=true) (ty:=type) (vs:=rest.map ea) hq hb ht rx w
   case len=>
    split at h0
    case h_2=>cases h0
    rename_i t x rest ht hx
    obtain⟨q,hq,rfl⟩:=Option.map_eq_some_iff.1 h0
    rw[hx]at harr
    simp only[List.map_cons]at harr
    have rx:=hargs x (by rw[hx];simp)
    have e:execOp ea { dst:=dst,op := .call { callee := .builtin .len,args:=args,argTypes:=argTypes },type:=type,pos:=pos,after:=after,guard:=guard }=(do pure (.value (←Builtin.len_ argTypes type (args.map ea))):Sem Next):=rfl
    rw[e,harr]
    refine dY.pure hW h ?_
    intro hb
    exact aCI (c:=false) (ty:=type) (vs:=rest.map ea) hq hb ht rx w
theorem aH6 (hX:X.Ok ρ) {α:aR} {σ σ':aG} {w:World} {ev:Operand→SV} {ea:Operand→Value} {o:Oper} {s:SV} (h:oN P X gl ev σ o = .ok (s,σ')) (hW:RelW X.G ρ gl α σ w)
  (hop:∀ x,x ∈ o.op.operands→SV.R X.G ρ α (ev x) (ea x)):dY P X ρ gl α σ σ' w s (execOp ea o):=by
 unfold oN at h
 split at h
 ·rename_i r hr;exact aHm hX hr h hW hop
 ·exact aFl hX h hW hop
end
end Sx
end Go.Proofs.Ythiehfhphgkaeaa
