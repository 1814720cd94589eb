/- What is proved: regions over closed data,whatever order is drawn,are what the model does. No condition. -/
import Derived.Test.YtdldallkeheciaaQg2
import Derived.StillTail
import Derived.TacticsIn
import Derived.OrdersIn
import Derived.RangeFuncIn
import Derived.RangeFuncCalls
import Derived.RangeFuncSeq
import Derived.RangeFuncKeeps
import Derived.LoopNIn
import Derived.RangeFuncLeaves
import Derived.RangeFuncRecord
set_option linter.unusedSimpArgs false
set_option linter.unusedVariables false
namespace Go.Proofs.Ytdldallkeheciaa
namespace Sx
open Go Go.RowKit
variable {mm:Nat}
structure St where
 tmps:List SV
 heap:aM
abbrev bQ:=FuncId→List SV→aM→Res (SV × aM)
def fU (P : Program) (f : FuncId) : Prop := ∃ fn, P.funcs[f]? = some fn ∧ (fn.name == "runtime.NumGoroutine") = false ∧ fn.body.isNone = false
def bX (P:Program) (f:FuncId):Option (Array Tmp × Code × Code):=((P.funcs[f]?).bind (·.body)).bind fun c=>(bD c).head?
def kT (P:Program):Prop:=P.follows .mixedOrders=true∧∀ f,bX P f=aAh f
def YB:Nat:=1000000
def Fr (ro:Option Nat):Fence:={ Fence.wide with round:=ro }
theorem aBW {P:Program} {f:FuncId} {args:Array Value} {w:World} {R:Ending→World→Prop} (ro:Option Nat) (k:Nat) (h:Calls P f args w R):CallsIn (Fr ro) k P f args w R:=(callsIn_wide (n:=k)).2 h
def nD (X:Ctx) (ρ:Nat→Int) (gl:List (Nat × Nat)) (σ σ':aM) (α:aV) (w:World) (s:SV):Ending→World→Prop:=
 fun e w'=>∃ v α',e = .returned v∧SV.R X.G ρ α' s v∧RelW X.G ρ gl α' σ' w'∧Ext σ.length σ σ' α α' w w'
def HOk (P:Program) (X:Ctx) (ρ:Nat→Int) (gl:List (Nat × Nat)) (h:bQ):Prop:=
 ∀ f args σ s σ',h f args σ = .ok (s,σ')→∀ α w vals,RelW X.G ρ gl α σ w→SV.RL X.G ρ α args vals→
  (f<YB→fU P f∧Calls P f vals.toArray w (nD X ρ gl σ σ' α w s))∧
  (∀ L b,f=YB+L→α L=some b→∀ k,YieldAt Fence.wide k P b.blk vals.toArray w (nD X ρ gl σ σ' α w s))
def eR (P:Program) (X:Ctx) (gl:List (Nat × Nat)) (h:bQ) (tm:List SV) (σ:aM) (o:Oper):Res (SV × aM):=
 match o.op with
 | .call { callee := .value f,args,.. }=>
  match mU gl tm f with
  | .func (.func g) first captured=>if decide (g<YB) then h g (first++args.toList.map (mU gl tm)++captured) σ else .fail 99
  | .yld L=>h (YB+L) (args.toList.map (mU gl tm)) σ
  |_ => .fail 100
 | .call { callee := .invoke r name,args,.. }=>
  match mU gl tm r with
  | .iface t l=>match mZ P t name with
   |some g=>if decide (g<YB) then h g (.agg l::args.toList.map (mU gl tm)) σ else .fail 99
   |none => .fail 98
  |_ => .fail 98
 |_=>rJ P X gl (mU gl tm) σ o
def aRe (o:Oper):Bool:=
 match o.op with
 | .alloc _ | .box _ _ | .buildSlice _ _ _ | .store _ _ _ | .makeSlice _ _ _ | .call _ | .makeMap _ _ | .insert _ _ _ _ | .mapUpdate _ _ _ _=>false
 |_=>true
def sF (o:Oper):Bool:=
 match o.op with
 | .alloc _ | .box _ _ | .buildSlice _ _ _ | .makeSlice _ _ _=>true
 | .store _ _ _ | .call _ | .insert _ _ _ _ | .mapUpdate _ _ _ _ | .makeMap _ _=>false
 |_=>true
def kE (tm:List SV) (dst:Option Tmp) (s:SV):List SV:=
 match dst with
 |some d=>tm.set d s
 |none=>tm
def oO (X:Ctx) (gl:List (Nat × Nat)) (ops:Array Oper) (tm:List SV) (o:Oper):Res Bool:=
 match o.guard with
 |none => .ok true
 |some (j,want)=>
  match (ops[j]?).bind (·.dst)with
  |none => .ok false
  |some d=>
   match mU gl tm (.tmp d)with
   | .bool b=>(Res.test X b).bind fun r => .ok (r ==want)
   | .tuple _ => .ok false
   |_ => .fail 101
section
variable {ρ:Nat→Int} {P:Program} {X:Ctx} {gl:List (Nat × Nat)} {h:bQ}
theorem aE7 {ev:Operand→SV} {σ:aM} {o:Oper} {r:SV × aM} (he:rJ P X gl ev σ o = .ok r) (c:Call):o.op ≠ .defer c:=by
 intro hc
 unfold rJ kB pN at he
 rw[hc]at he
 simp at he
theorem qS (hX:X.Ok ρ) (hh:HOk P X ρ gl h) {ro:Option Nat} {k:Nat} {α:aV} {tm:List SV} {σ σ':aM} {w:World} {a:Act} {o:Oper} {s:SV} {K:Act→World→Prop} {Q:Exit→Act→World→Prop}
  (he:eR P X gl h tm σ o = .ok (s,σ')) (hW:RelW X.G ρ gl α σ w) (hop:∀ x,x ∈ o.op.operands→SV.R X.G ρ α (mU gl tm x) (a.eval x))
  (hK:∀ v w' α',SV.R X.G ρ α' s v→RelW X.G ρ gl α' σ' w'→Ext σ.length σ σ' α α' w w'→K (a.put o.dst v) w'):o.wpIn (Fr ro) k P a w K Q:=by
 refine⟨fun _ _=>trivial,?_⟩
 unfold eR at he
 split at he
 ·rename_i f args ats hop'
  rw[Oper.semAt_eq _ _ _ (fun c hc=>by rw[hop']at hc;cases hc)]
  split at he
  ·rename_i g first captured hf
   split at he
   case isFalse=>cases he
   rename_i hg
   simp only[decide_eq_true_eq]at hg
   have rf:=hop f (by rw[hop'];simp [Op.operands,Call.operands])
   rw[hf]at rf
   simp only[SV.R]at rf
   obtain⟨fs,cs,hfv,r1,r2⟩:=rf
   have ra:=lC (X:=X) (ρ:=ρ) (α:=α) (ev:=mU gl tm) (ea:=a.eval) args.toList (fun p hp=>hop p (by rw[hop'];simp [Op.operands,Call.operands]at *;exact .inr hp))
   have rall:=dK (dK r1 ra) r2
   obtain⟨⟨fn,k1,k2,k3⟩,hc⟩:=(hh g _ σ s σ' he α w _ hW rall).1 hg
   have hrun:(execOp a.eval o).run P w = .ok (.enter g (fs++args.toList.map a.eval++cs).toArray) w:=by
    unfold execOp
    rw[hop']
    have e1:args.map a.eval=(args.toList.map a.eval).toArray:=by rw[←Array.toList_map]
    have k2' : ¬ fn.name = "runtime.NumGoroutine" := by simpa using k2
    have k3':¬fn.body=none:=by intro e;rw[e]at k3;cases k3
    simp [resolve,hfv,Deferred.ofValue,invoke,callFunc,k1,k2',k3',e1]
   rw[hrun]
   simp only[Oper.uponIn]
   refine⟨(fun h=>by cases h),(aBW ro (k-1) hc).mono ?_⟩
   rintro e w' ⟨v,α',rfl,q1,q2,q3⟩
   exact hK v w' α' q1 q2 q3
  ·rename_i L hf
   have rf:=hop f (by rw[hop'];simp [Op.operands,Call.operands])
   rw[hf]at rf
   simp only[SV.R]at rf
   obtain⟨b,hb,hfv⟩:=rf
   have ra:=lC (X:=X) (ρ:=ρ) (α:=α) (ev:=mU gl tm) (ea:=a.eval) args.toList (fun p hp=>hop p (by rw[hop'];simp [Op.operands,Call.operands]at *;exact .inr hp))
   obtain⟨fn,tmps,asg,body,hy,hr⟩:=(hh (YB+L) _ σ s σ' he α w _ hW ra).2 L b rfl hb (k-1)
   have hrun:(execOp a.eval o).run P w = .ok (.round b.blk fn tmps asg body) w:=by
    unfold execOp
    rw[hop']
    have e1:args.map a.eval=(args.toList.map a.eval).toArray:=by rw[←Array.toList_map]
    simp [resolve,hfv,Deferred.ofValue,invoke,e1,hy]
   rw[hrun]
   simp only[Oper.uponIn]
   refine⟨(fun h=>by cases h),RoundIn.mono (F:=Fr ro) hr ?_⟩
   rintro e w' ⟨v,α',rfl,q1,q2,q3⟩
   exact hK v w' α' q1 q2 q3
  ·cases he
 ·rename_i f name args ats hop'
  rw[Oper.semAt_eq _ _ _ (fun c hc=>by rw[hop']at hc;cases hc)]
  split at he
  ·rename_i t l hf
   split at he
   ·rename_i g hm
    split at he
    case isFalse=>cases he
    rename_i hg
    simp only[decide_eq_true_eq]at hg
    have rf:=hop f (by rw[hop'];simp [Op.operands,Call.operands])
    rw[hf]at rf
    simp only[SV.R]at rf
    obtain⟨cs,hfv,r1⟩:=rf
    have ra:=lC (X:=X) (ρ:=ρ) (α:=α) (ev:=mU gl tm) (ea:=a.eval) args.toList (fun p hp=>hop p (by rw[hop'];simp [Op.operands,Call.operands]at *;exact .inr hp))
    have rr:SV.R X.G ρ α (.agg l) (.agg cs.toArray):=by simp only[SV.R];exact⟨cs,rfl,r1⟩
    have rall:=aW rr ra
    obtain⟨⟨fn,k1,k2,k3⟩,hc⟩:=(hh g _ σ s σ' he α w _ hW rall).1 hg
    have hrun:(execOp a.eval o).run P w = .ok (.enter g (.agg cs.toArray::args.toList.map a.eval).toArray) w:=by
     unfold execOp
     rw[hop']
     have e1:args.map a.eval=(args.toList.map a.eval).toArray:=by rw[←Array.toList_map]
     have k2' : ¬ fn.name = "runtime.NumGoroutine" := by simpa using k2
     have k3':¬fn.body=none:=by intro e;rw[e]at k3;cases k3
     simp [resolve,hfv,invoke,callMethod,aFJ hm,callFunc,k1,k2',k3',e1]
     exact List.take_of_length_le (by simp)
    rw[hrun]
    simp only[Oper.uponIn]
    refine⟨(fun h=>by cases h),(aBW ro (k-1) hc).mono ?_⟩
    rintro e w' ⟨v,α',rfl,q1,q2,q3⟩
    exact hK v w' α' q1 q2 q3
   ·cases he
  ·cases he
 ·rw[Oper.semAt_eq _ _ _ (aE7 he)]
  obtain⟨v,w',α',q1,q2,q3,q4⟩:=aJl hX he hW hop
  rcases q1 with q1|⟨q1,rfl⟩
  ·rw[q1];exact hK v w' α' q2 q3 q4
  ·rw[q1];exact hK _ w' α' q2 q3 q4
theorem pO (hX:X.Ok ρ) {α:aV} {ops:Array Oper} {tm:List SV} {a:Act} {o:Oper} {r:Bool} (h:oO X gl ops tm o = .ok r)
  (hr:∀ g d,o.guard=some g→(ops[g.1]?).bind (·.dst)=some d→SV.R X.G ρ α (mU gl tm (.tmp d)) (a.eval (.tmp d))):Region.wanted o (yielded ops a.tmps)=r:=by
 unfold oO at h
 unfold Region.wanted
 split at h
 ·rename_i hg;cases h;simp [hg]
 ·rename_i j want hg
  simp only[hg]
  split at h
  ·rename_i hd
   cases h
   simp [yielded,hd]
  ·rename_i d hd
   have hR:=hr (j,want) d hg hd
   split at h
   ·rename_i b hb
    rw[hb]at hR
    simp only[SV.R]at hR
    replace h:=Res.bind_ok h
    obtain⟨q,hq,h⟩:=h
    have:=Res.test_ok hX hq
    cases h
    rw[this]at hR
    have hy:yielded ops a.tmps j=some q:=by
     unfold yielded
     rw[hd]
     simp only[Option.bind_some]
     simp only[Act.eval]at hR
     cases ht:a.tmps[d]? with
     |none=>simp [Array.getD_eq_getD_getElem?,ht,undef]at hR
     |some u=>simp [Array.getD_eq_getD_getElem?,ht]at hR;rw[hR]
    rw[hy]
    cases q<;>cases want<;>rfl
   ·rename_i l hb
    rw[hb]at hR
    simp only[SV.R]at hR
    obtain⟨cs,hv,_⟩:=hR
    cases h
    have hy:yielded ops a.tmps j=none:=by
     unfold yielded
     rw[hd]
     simp only[Option.bind_some]
     simp only[Act.eval]at hv
     cases ht:a.tmps[d]? with
     |none=>rfl
     |some u=>simp [Array.getD_eq_getD_getElem?,ht]at hv;rw[hv]
    rw[hy]
    rfl
   ·cases h
def iK (mm:Nat) (α:aV) (σ:aM) (ds:List Deferred) (w:World):Prop:=mm≤w.heap.size∧ds.Nodup∧∀ d,d ∈ ds→∃ D,mm≤D∧d={ target := .collected D,args:=#[] }∧w.heap[D]?=some (.deferred (some []))∧oQ α σ D
theorem iK.next {n:Nat} {σ σ':aM} {α α':aV} {ds:List Deferred} {w w':World} (h:iK mm α σ ds w) (x:Ext n σ σ' α α' w w'):iK mm α' σ' ds w':=by
 refine⟨Nat.le_trans h.1 x.size,h.2.1,fun d hd=>?_⟩
 obtain⟨D,h0,h1,h2,h3⟩:=h.2.2 d hd
 have hlt:D<w.heap.size:=(Array.getElem?_eq_some_iff.1 h2).1
 exact⟨D,h0,h1,by rw[x.hid D hlt h3];exact h2,h3.next x hlt⟩
theorem iK.nil {α:aV} {σ:aM} {w:World} (h:mm≤w.heap.size):iK mm α σ [] w:=⟨h,List.nodup_nil,fun d hd=>by cases hd⟩
structure RelSt (mm:Nat) (X:Ctx) (ρ:Nat→Int) (gl:List (Nat × Nat)) (α:aV) (st:St) (a:Act) (w:World):Prop where
 tmps:SV.RL X.G ρ α st.tmps a.tmps.toList
 defers:iK mm α st.heap a.defers w
 mem:RelW X.G ρ gl α st.heap w
theorem rF {α:aV} {tm:List SV} {a:Act} (ht:SV.RL X.G ρ α tm a.tmps.toList) (hg:∀ p,p ∈ gl→α p.2=some ⟨p.1,0,false,0⟩) (x:Operand):SV.R X.G ρ α (mU gl tm x) (a.eval x):=by
 cases x with
 |tmp t=>
  simp only[mU,Act.eval]
  cases hs:tm[t]? with
  |none=>
   have hl:=bY ht
   have:a.tmps[t]?=none:=by
    have h1:tm.length≤t:=List.getElem?_eq_none_iff.1 hs
    simp at hl ⊢;omega
   simp only[List.getD,hs,Option.getD_none,Array.getD_eq_getD_getElem?,this]
   simp only[SV.R];exact⟨[],rfl,bC⟩
  |some s=>
   obtain⟨v,hv,hr⟩:=pK ht hs
   have:a.tmps[t]?=some v:=by simpa using hv
   simp only[List.getD,hs,Option.getD_some,Array.getD_eq_getD_getElem?,this]
   exact hr
 |const v=>exact qZ v
 |global g=>
  simp only[mU,Act.eval]
  split
  ·rename_i p hp
   have hm:=List.mem_of_find?_eq_some hp
   have he:=List.find?_some hp
   simp only[beq_iff_eq]at he
   simp only[SV.R]
   exact⟨⟨p.1,0,false,0⟩,hg p hm,by rw[he]⟩
  ·simp [SV.R]
 |func f=>simp only[mU,Act.eval,SV.R];exact⟨[],[],rfl,bC,bC⟩
theorem aS7 {α:aV} {tm:List SV} {a:Act} {s:SV} {v:Value} (ht:SV.RL X.G ρ α tm a.tmps.toList) (hr:SV.R X.G ρ α s v) (d:Option Tmp):SV.RL X.G ρ α (kE tm d s) (a.put d v).tmps.toList:=by
 cases d with
 |none=>exact ht
 |some d=>simpa [kE,Act.put]using aCa d ht hr
theorem lA (a:Act) (d:Option Tmp) (v:Value):(a.put d v).defers=a.defers:=by cases d<;>rfl
end
def zN (P:Program) (X:Ctx) (gl:List (Nat × Nat)) (h:bQ) (ops:Array Oper):List Oper→St→Res St
 |[],st => .ok st
 |o::rest,st=>
  (oO X gl ops st.tmps o).bind fun wt=>
   if wt then (eR P X gl h st.tmps st.heap o).bind fun r=>vO r.1 fun s=>cP (kE st.tmps o.dst s) fun tm=>if aRe o then zN P X gl h ops rest ⟨tm,r.2⟩ else cP r.2 fun σ=>zN P X gl h ops rest ⟨tm,σ⟩
   else cP (kE st.tmps o.dst (.tuple [])) fun tm=>zN P X gl h ops rest ⟨tm,st.heap⟩
section
variable {ρ:Nat→Int} {P:Program} {X:Ctx} {gl:List (Nat × Nat)} {h:bQ}
theorem aAj (hX:X.Ok ρ) (hh:HOk P X ρ gl h) {ro:Option Nat} {k:Nat} {ops:Array Oper} {Q:Exit→Act→World→Prop} {st':St}:∀ (l:List Oper) (st:St) (α:aV) (a:Act) (w:World),zN P X gl h ops l st = .ok st'→RelSt mm X ρ gl α st a w→
  (∀ a' w' α',RelSt mm X ρ gl α' st' a' w'→Ext st.heap.length st.heap st'.heap α α' w w'→Q .normal a' w')→wpListIn (Fr ro) k P ops Q l a w
 |[],st,α,a,w,he,hr,hQ=>by
  simp only[zN]at he
  cases he
  exact hQ a w α hr (Ext.refl _ _ _ _)
 |o::rest,st,α,a,w,he,hr,hQ=>by
  unfold zN at he
  simp only[uL,cQ,ite_self]at he
  obtain⟨wt,h1,he⟩:=Res.bind_ok he
  have hw:=pO (α:=α) (a:=a) hX h1 (fun g d _ _=>rF hr.tmps hr.mem.glob _)
  unfold wpListIn
  cases wt
  ·simp only[Bool.false_eq_true,if_false]at he
   rw[hw]
   simp only[Bool.false_eq_true,if_false]
   exact⟨fun _ _=>trivial,aAj hX hh rest _ α _ w he ⟨aS7 hr.tmps (by simp only[SV.R];exact⟨[],rfl,bC⟩) _,by rw[lA];exact hr.defers,hr.mem⟩ hQ⟩
  ·simp only[if_true]at he
   obtain⟨r,h2,he⟩:=Res.bind_ok he
   obtain⟨s,σ2⟩:=r
   rw[hw]
   simp only[if_true]
   refine qS hX hh h2 hr.mem (fun x _=>rF hr.tmps hr.mem.glob x) ?_
   intro v w1 α1 q1 q2 q3
   refine aAj hX hh rest _ α1 _ w1 he ⟨aS7 (SV.RL_mono q3.mono _ _ hr.tmps) q1 _,by rw[lA];exact hr.defers.next q3,q2⟩ ?_
   intro a' w' α' g1 g2
   exact hQ a' w' α' g1 (q3.trans g2 q3.len)
end
end Sx
end Go.Proofs.Ytdldallkeheciaa
namespace Go.Proofs.Ytdldallkeheciaa
namespace Sx
open Go Go.RowKit
def fO (o:Oper):List Nat:=(o.after.toList.filter (Region.binds .any)).map (·.on)
def aNA (ps:List Nat) (done:List Nat):Nat:=ps.foldl (fun acc d=>acc |||2 ^ d |||done.getD d 0) 0
def gM:List Oper→List Nat→List Nat
 |[],done=>done
 |o::l,done=>gM l (done++[aNA (fO o) done])
def aDB (ops:Array Oper) (D:Nat→Prop):Prop:=∀ (j:Nat) (o:Oper),ops[j]?=some o→D j→∀ d,d ∈ fO o→D d
theorem sP {D:Nat→Prop} {done:List Nat} (hd:∀ k m,done[k]?=some m→D k→∀ j,m.testBit j=true→D j):∀ (ps:List Nat) (acc:Nat),(∀ d,d ∈ ps→D d)→(∀ j,acc.testBit j=true→D j)→∀ j,(ps.foldl (fun acc d=>acc |||2 ^ d |||done.getD d 0) acc).testBit j=true→D j
 |[],acc,_,ha,j,hj=>ha j hj
 |d::ps,acc,hp,ha,j,hj=>by
  simp only[List.foldl_cons]at hj
  refine sP hd ps _ (fun e he=>hp e (by simp [he])) ?_ j hj
  intro i hi
  rw[Nat.testBit_or,Nat.testBit_or,Bool.or_eq_true,Bool.or_eq_true]at hi
  rcases hi with(hi|hi)|hi
  ·exact ha i hi
  ·rw[Nat.testBit_two_pow]at hi
   simp only[decide_eq_true_eq]at hi
   exact hi ▸ hp d (by simp)
  ·cases hm:done[d]? with
   |none=>simp [List.getD,hm]at hi
   |some m=>
    simp only[List.getD,hm,Option.getD_some]at hi
    exact hd d m hm (hp d (by simp)) i hi
theorem qM {ops:Array Oper} {D:Nat→Prop} (hD:aDB ops D):∀ (l:List Oper) (done:List Nat),(∀ j,l[j]?=ops[done.length+j]?)→(∀ k m,done[k]?=some m→D k→∀ j,m.testBit j=true→D j)→
  ∀ k m,(gM l done)[k]?=some m→D k→∀ j,m.testBit j=true→D j
 |[],done,_,hd,k,m,hm,hk,j,hj=>hd k m hm hk j hj
 |o::l,done,hl,hd,k,m,hm,hk,j,hj=>by
  refine qM hD l _ (fun i=>by have:=hl (i+1);simpa [Nat.add_assoc,Nat.add_comm 1 i]using this) ?_ k m hm hk j hj
  intro k' m' hm' hk' j' hj'
  rcases Nat.lt_or_ge k' done.length with hlt|hge
  ·rw[List.getElem?_append_left hlt]at hm'
   exact hd k' m' hm' hk' j' hj'
  ·have he:k'=done.length:=by
    rcases Nat.lt_or_ge k' (done.length+1)with q|q
    ·omega
    ·rw[List.getElem?_eq_none (by simp;omega)]at hm';cases hm'
   subst he
   simp at hm'
   subst hm'
   have ho:ops[done.length]?=some o:=by have:=hl 0;simpa using this.symm
   exact sP hd _ 0 (hD _ o ho hk') (by simp) j' hj'
theorem sZ {ops:Array Oper} {D:Nat→Prop} (hD:aDB ops D) {k m:Nat} {o:Oper} (ho:ops[k]?=some o) (hp:∀ d,d ∈ fO o→D d) (hk:¬D k) (hm:(gM ops.toList [])[k]?=some m) (hself:∀ d,d ∈ fO o→d≠k) (hm2:m.testBit k=false):∀ j,m.testBit j=true→D j:=by
 intro j hj
 have hD':aDB ops (fun i=>D i∨i=k):=by
  intro i oi hoi hi d hd
  rcases hi with hi|rfl
  ·exact .inl (hD i oi hoi hi d hd)
  ·rw[ho]at hoi;cases hoi
   exact .inl (hp d hd)
 rcases qM hD' ops.toList [] (by simp) (by simp) k m hm (.inr rfl) j hj with h|h
 ·exact h
 ·rw[h,hm2]at hj;cases hj
def cA (m:Nat):Nat→List jD→List jD
 |_,[]=>[]
 |k,b::l=>(if m.testBit k then b else none)::cA m (k+1) l
structure HeadOut where
 tm:List SV
 slots:List jD
 vals:List SV
 rest:List Oper
def wY (o:Oper):Bool:=match o.op with | .store .. | .mapUpdate .. | .insert .. =>true|_=>false
def pT (P:Program) (X:Ctx) (gl:List (Nat × Nat)) (h:bQ) (ops:Array Oper) (masks:List Nat) (σ:aM) (lim:Nat):List Oper→List SV→List jD→List SV→Res HeadOut
 |[],tm,slots,vals => .ok ⟨tm,slots,vals,[]⟩
 |o::rest,tm,slots,vals=>
  (oO X gl ops tm o).bind fun wt=>
   if wt then
    if wY o ||decide (lim≤vals.length) then .ok ⟨tm,slots,vals,o::rest⟩
    else cP (σ++cA (masks.getD vals.length 0) 0 slots) fun M=>
     match eR P X gl h tm M o with
     | .need b => .need b
     | .fail _ => .ok ⟨tm,slots,vals,o::rest⟩
     | .ok r=>
      if (sF o ||aM.begins M r.2) && o.op.operands.toList.all (fun x=>(mU gl tm x).ubd M.length) && gl.all (fun p=>decide (p.2<σ.length)) then
       if r.1.ubd M.length then vO r.1 fun s=>cP (kE tm o.dst s) fun tm'=>cP (slots++[none]) fun sl=>cP (vals++[s]) fun vl=>pT P X gl h ops masks σ lim rest tm' sl vl
       else match r.2.drop M.length with
        |[some c]=>if r.1.ubd (M.length+1) && SV.ubdL (M.length+1) c.1 then vO r.1 fun s=>cP (kE tm o.dst s) fun tm'=>cP (slots++[some c]) fun sl=>cP (vals++[s]) fun vl=>pT P X gl h ops masks σ lim rest tm' sl vl else .ok ⟨tm,slots,vals,o::rest⟩
        |_ => .ok ⟨tm,slots,vals,o::rest⟩
      else .ok ⟨tm,slots,vals,o::rest⟩
   else cP (kE tm o.dst (.tuple [])) fun tm'=>cP (slots++[none]) fun sl=>cP (vals++[.tuple []]) fun vl=>pT P X gl h ops masks σ lim rest tm' sl vl
def jE (ops:Array Oper) (tm:List SV) (vals:List SV):Nat→List SV
 |0=>tm
 |i+1=>kE (jE ops tm vals i) ((ops[i]?).bind (·.dst)) (vals.getD i (.tuple []))
structure StepOK (P:Program) (X:Ctx) (gl:List (Nat × Nat)) (h:bQ) (ops:Array Oper) (masks:List Nat) (σ:aM) (tm:List SV) (vals:List SV) (slots:List jD) (i:Nat) (o:Oper) (wt:Bool):Prop where
 wanted:oO X gl ops (jE ops tm vals i) o = .ok wt
 no:wt=false→vals[i]?=some (.tuple [])∧slots[i]?=some none
 yes:wt=true→∃ s σ',eR P X gl h (jE ops tm vals i) (σ++cA (masks.getD i 0) 0 (slots.take i)) o = .ok (s,σ')∧vals[i]?=some s∧
  (∀ x,x ∈ o.op.operands→(mU gl (jE ops tm vals i) x).ubd (σ.length+i)=true)∧SV.ubdH (σ.length+i) (σ++cA (masks.getD i 0) 0 (slots.take i))=true∧(∀ p,p ∈ gl→p.2<σ.length)∧
  ((σ'.take (σ.length+i)=σ++cA (masks.getD i 0) 0 (slots.take i)∧s.ubd (σ.length+i)=true∧slots[i]?=some none)∨
   ∃ c,σ'=(σ++cA (masks.getD i 0) 0 (slots.take i))++[some c]∧s.ubd (σ.length+i+1)=true∧SV.ubdL (σ.length+i+1) c.1=true∧slots[i]?=some (some c))
theorem pE (m:Nat):∀ (k:Nat) (l:List jD),(cA m k l).length=l.length
 |_,[]=>rfl
 |k,b::l=>by simp [cA,pE m (k+1) l]
theorem aDI (m:Nat):∀ (k:Nat) (l:List jD) (i:Nat),(cA m k l)[i]?=(l[i]?).map fun b=>if m.testBit (k+i) then b else none
 |_,[],i=>by simp [cA]
 |k,b::l,0=>by simp [cA]
 |k,b::l,i+1=>by
  simp only[cA,List.getElem?_cons_succ,aDI m (k+1) l i]
  rw[show k+1+i=k+(i+1)by omega]
theorem mH (ops:Array Oper) (tm:List SV) (vals more:List SV):∀ i,i≤vals.length→jE ops tm (vals++more) i=jE ops tm vals i
 |0,_=>rfl
 |i+1,h=>by
  simp only[jE,mH ops tm vals more i (by omega)]
  congr 1
  simp only[List.getD,List.getElem?_append_left (by omega:i<vals.length)]
theorem StepOK.append {P:Program} {X:Ctx} {gl:List (Nat × Nat)} {h:bQ} {ops:Array Oper} {masks:List Nat} {σ:aM} {tm vals more:List SV} {slots mores:List jD} {i:Nat} {o:Oper} {wt:Bool}
  (hs:StepOK P X gl h ops masks σ tm vals slots i o wt) (h1:i<vals.length) (h2:i<slots.length):StepOK P X gl h ops masks σ tm (vals++more) (slots++mores) i o wt:=by
 have e1:jE ops tm (vals++more) i=jE ops tm vals i:=mH ops tm vals more i (by omega)
 have e2:(slots++mores).take i=slots.take i:=by rw[List.take_append_of_le_length (by omega)]
 have e3:(vals++more)[i]?=vals[i]?:=List.getElem?_append_left h1
 have e4:(slots++mores)[i]?=slots[i]?:=List.getElem?_append_left h2
 refine⟨by rw[e1];exact hs.wanted,by rw[e3,e4];exact hs.no,?_⟩
 rw[e1,e2,e3,e4]
 exact hs.yes
mutual
theorem SV.ubd_le {N M:Nat} (h:N≤M):∀ s:SV,SV.ubd N s=true→SV.ubd M s=true
 | .bool _,_=>rfl
 | .int _ _,_=>rfl
 | .con _,_=>rfl
 | .ptr _ _,hs=>by simp only[SV.ubd,decide_eq_true_eq]at *;omega
 | .map _,hs=>by simp only[SV.ubd,decide_eq_true_eq]at *;omega
 | .yld _,hs=>by simp only[SV.ubd,decide_eq_true_eq]at *;omega
 | .any,hs=>by simp only[SV.ubd,decide_eq_true_eq]at *;omega
 | .text _,hs=>by simp only[SV.ubd,decide_eq_true_eq]at *;omega
 | .slice _ _ _ _,hs=>by simp only[SV.ubd,decide_eq_true_eq]at *;omega
 | .vec _ _ _ _,hs=>by simp only[SV.ubd,decide_eq_true_eq]at *;omega
 | .own _ _ _,hs=>by simp only[SV.ubd,decide_eq_true_eq]at *;omega
 | .vsl _ _ _ _ _,hs=>by simp only[SV.ubd,decide_eq_true_eq]at *;omega
 | .vptr _ _ _ _,hs=>by simp only[SV.ubd,decide_eq_true_eq]at *;omega
 | .agg l,hs=>by simp only[SV.ubd]at *;exact SV.ubdL_le h l hs
 | .tuple l,hs=>by simp only[SV.ubd]at *;exact SV.ubdL_le h l hs
 | .iface _ l,hs=>by simp only[SV.ubd]at *;exact SV.ubdL_le h l hs
 | .func _ f c,hs=>by simp only[SV.ubd,Bool.and_eq_true]at *;exact⟨SV.ubdL_le h f hs.1,SV.ubdL_le h c hs.2⟩
theorem SV.ubdL_le {N M:Nat} (h:N≤M):∀ l:List SV,SV.ubdL N l=true→SV.ubdL M l=true
 |[],_=>rfl
 |s::l,hs=>by simp only[SV.ubdL,Bool.and_eq_true]at *;exact⟨SV.ubd_le h s hs.1,SV.ubdL_le h l hs.2⟩
end
theorem yF {N:Nat}:∀ h:aM,(∀ c T,some (c,T) ∈ h→SV.ubdL N c=true)→SV.ubdH N h=true
 |[],_=>rfl
 |none::l,hh=>by simp only[SV.ubdH];exact yF l (fun c T hm=>hh c T (by simp [hm]))
 |some (c,T)::l,hh=>by simp only[SV.ubdH,Bool.and_eq_true];exact⟨hh c T (by simp),yF l (fun c T hm=>hh c T (by simp [hm]))⟩
theorem xS {N:Nat}:∀ {h:aM},SV.ubdH N h=true→∀ c T,some (c,T) ∈ h→SV.ubdL N c=true
 |[],_,c,T,hm=>by simp at hm
 |none::l,hh,c,T,hm=>by simp only[SV.ubdH]at hh;exact xS hh c T (by simpa using hm)
 |some (c',T')::l,hh,c,T,hm=>by
  simp only[SV.ubdH,Bool.and_eq_true]at hh
  rcases List.mem_cons.1 hm with e|e
  ·cases e;exact hh.1
  ·exact xS hh.2 c T e
theorem aDV {b:List SV × TypeId}:∀ {m k:Nat} {l:List jD},some b ∈ cA m k l→some b ∈ l
 |m,k,[],h=>by simp [cA]at h
 |m,k,c::l,h=>by
  simp only[cA,List.mem_cons]at h ⊢
  rcases h with h|h
  ·split at h
   ·exact .inl h
   ·cases h
  ·exact .inr (aDV h)
theorem uN {σ:aM} {r:Res SV} {q:SV × aM} (h:(r.bind fun s=>Res.ok (s,σ)) = .ok q):q.2.take σ.length=σ:=by
 obtain⟨_,_,h⟩:=Res.bind_ok h
 cases h;simp
theorem aHN {σ:aM} {s:SV} {q:SV × aM} (h:Res.ok (s,σ) = .ok q):q.2.take σ.length=σ:=by
 cases h;simp
theorem aAK {σ:aM} {s:SV} {b:jD} {q:SV × aM} (h:Res.ok (s,σ++[b]) = .ok q):q.2.take σ.length=σ:=by
 cases h;simp
theorem aFK {P:Program} {X:Ctx} {t:TypeId} {l c:SV} {σ:aM} {r:SV × aM} (h:aEf P X t l c σ=some (.ok r)):r.2.take σ.length=σ:=by
 unfold aEf at h
 split at h
 ·split at h
  ·cases h
  ·replace h:=Option.some.inj h
   split at h
   ·split at h
    ·replace h:=Res.bind_ok h;obtain⟨_,_,h⟩:=h
     replace h:=Res.bind_ok h;obtain⟨_,_,h⟩:=h
     replace h:=Res.bind_ok h;obtain⟨_,_,h⟩:=h
     split at h
     ·exact aAK h
     ·cases h
    ·cases h
   ·cases h
 ·cases h
set_option maxHeartbeats 2000000 in
theorem aEO {P:Program} {X:Ctx} {ev:Operand→SV} {σ:aM} {o:Oper} {r:SV × aM} (ha:sF o=true) (h:pN P X ev σ o = .ok r):r.2.take σ.length=σ:=by
 unfold sF at ha
 unfold pN at h
 cases hop:o.op<;>rw[hop]at h ha<;>simp only[aF5,mB]at h ha<;>first|(cases ha;done)|skip
 all_goals (repeat' (first|exact aHN h|exact aAK h|exact uN h|(exact absurd h (by intro q;cases q))|split at h|(obtain⟨_,_,h⟩:=Res.bind_ok h)))
theorem aIH {P:Program} {X:Ctx} {gl:List (Nat × Nat)} {hd:bQ} {tm:List SV} {σ:aM} {o:Oper} {r:SV × aM} (ha:sF o=true) (h:eR P X gl hd tm σ o = .ok r):r.2.take σ.length=σ:=by
 have h':rJ P X gl (mU gl tm) σ o = .ok r:=by
  unfold eR at h
  split at h
  ·rename_i hop
   unfold sF at ha
   rw[hop]at ha;cases ha
  ·rename_i hop
   unfold sF at ha
   rw[hop]at ha;cases ha
  ·exact h
 unfold rJ at h'
 split at h'
 ·rename_i q hq
  subst h'
  unfold kB at hq
  unfold sF at ha
  generalize mU gl tm=ev at hq
  cases hop:o.op<;>rw[hop]at hq ha<;>simp only at hq ha<;>first
   |(cases ha;done)
   |(cases hq;done)
   |exact aFK hq
   |(obtain⟨q,_,h2⟩:=Option.map_eq_some_iff.1 hq;exact uN h2)
   |(split at hq<;>first|(cases hq;done)|exact uN (Option.some.inj hq)|exact aHN (Option.some.inj hq))
 ·exact aEO ha h'
theorem vW {P:Program} {X:Ctx} {gl:List (Nat × Nat)} {h:bQ} {ops:Array Oper} {masks:List Nat} {σ:aM} {tm0:List SV} {lim:Nat} {out:HeadOut}:∀ (l:List Oper) (tm:List SV) (slots:List jD) (vals:List SV),
  SV.ubdH σ.length σ=true→pT P X gl h ops masks σ lim l tm slots vals = .ok out→slots.length=vals.length→l=ops.toList.drop vals.length→tm=jE ops tm0 vals vals.length→
  (∀ i o,i<vals.length→ops[i]?=some o→∃ wt,StepOK P X gl h ops masks σ tm0 vals slots i o wt)→
  out.slots.length=out.vals.length∧out.rest=ops.toList.drop out.vals.length∧out.tm=jE ops tm0 out.vals out.vals.length∧out.vals.length≤max ops.size vals.length∧
  (∀ i o,i<out.vals.length→ops[i]?=some o→∃ wt,StepOK P X gl h ops masks σ tm0 out.vals out.slots i o wt)
 |[],tm,slots,vals,hU,he,hl,hd,ht,hs=>by
  simp only[pT]at he
  cases he
  exact⟨hl,hd,ht,Nat.le_max_right _ _,hs⟩
 |o::rest,tm,slots,vals,hU,he,hl,hd,ht,hs=>by
  have hlt:vals.length<ops.size:=by
   rcases Nat.lt_or_ge vals.length ops.size with q|q
   ·exact q
   ·rw[List.drop_of_length_le (by simpa using q)]at hd;cases hd
  have ho:ops[vals.length]?=some o:=by
   have:=congrArg (·[0]?) hd
   simp only[List.getElem?_cons_zero,List.getElem?_drop,Nat.add_zero]at this
   simpa using this.symm
  have hrest:rest=ops.toList.drop (vals.length+1):=by
   have:=congrArg (·.drop 1) hd
   simpa using this
  have stop:(⟨tm,slots,vals,o::rest⟩:HeadOut)=out→_:=fun e=>by
   subst e
   exact(⟨hl,hd,ht,Nat.le_max_right _ _,hs⟩:slots.length=vals.length∧o::rest=ops.toList.drop vals.length∧tm=jE ops tm0 vals vals.length∧vals.length≤max ops.size vals.length∧
    (∀ i o,i<vals.length→ops[i]?=some o→∃ wt,StepOK P X gl h ops masks σ tm0 vals slots i o wt))
  have go:∀ (s:SV) (b:jD) (wt:Bool),pT P X gl h ops masks σ lim rest (kE tm o.dst s) (slots++[b]) (vals++[s]) = .ok out→StepOK P X gl h ops masks σ tm0 (vals++[s]) (slots++[b]) vals.length o wt→_:=fun s b wt h1 h2=>by
   have:=vW (tm0:=tm0) rest (kE tm o.dst s) (slots++[b]) (vals++[s]) hU h1 (by simp [hl]) (by simpa using hrest) (by
    rw[List.length_append,List.length_singleton]
    simp only[jE]
    rw[mH ops tm0 vals [s] vals.length (Nat.le_refl _),←ht,ho]
    simp) (fun i oi hi hoi=>by
    simp only[List.length_append,List.length_singleton]at hi
    rcases Nat.lt_or_ge i vals.length with q|q
    ·obtain⟨wt',hw⟩:=hs i oi q hoi
     exact⟨wt',hw.append q (by omega)⟩
    ·have:i=vals.length:=by omega
     subst this
     rw[ho]at hoi;cases hoi
     exact⟨wt,h2⟩)
   rw[show max ops.size (vals++[s]).length=max ops.size vals.length by simp;omega]at this
   exact this
  have hlen:(σ++cA (masks.getD vals.length 0) 0 slots).length=σ.length+vals.length:=by simp [pE,hl]
  have htk:∀ b:jD,(slots++[b]).take vals.length=slots:=fun b=>by rw[←hl];simp
  have hcan:∀ s:SV,jE ops tm0 (vals++[s]) vals.length=tm:=fun s=>by rw[mH ops tm0 vals [s] vals.length (Nat.le_refl _),←ht]
  have hv:∀ s:SV,(vals++[s])[vals.length]?=some s:=fun s=>by simp
  have hb:∀ b:jD,(slots++[b])[vals.length]?=some b:=fun b=>by rw[←hl];simp
  unfold pT at he
  simp only[cQ,uL]at he
  obtain⟨wt,h1,he⟩:=Res.bind_ok he
  have hg2:SV.ubdH (σ.length+vals.length) (σ++cA (masks.getD vals.length 0) 0 slots)=true:=by
   refine yF _ fun c T hm=>?_
   rcases List.mem_append.1 hm with e|e
   ·exact SV.ubdL_le (by omega) c (xS hU c T e)
   ·obtain⟨i,hi,hc⟩:=List.mem_iff_getElem.1 (aDV e)
    have hc':slots[i]?=some (some (c,T)):=by rw[List.getElem?_eq_getElem hi,hc]
    have hiv:i<vals.length:=by omega
    obtain⟨wt',hw⟩:=hs i ops[i] hiv (by simp)
    cases wt' with
    |false=>have:=(hw.no rfl).2;rw[hc']at this;cases this
    |true=>
     obtain⟨_,_,_,_,_,_,_,h5⟩:=hw.yes rfl
     rcases h5 with⟨_,_,q⟩|⟨c',_,_,q2,q⟩
     ·rw[hc']at q;cases q
     ·rw[hc']at q;cases q
      exact SV.ubdL_le (by omega) c q2
  cases wt
  ·simp only[Bool.false_eq_true,if_false]at he
   exact go _ _ false he ⟨by rw[hcan];exact h1,fun _=>⟨hv _,hb _⟩,fun e=>by cases e⟩
  ·simp only[if_true]at he
   split at he
   ·cases he;exact stop rfl
   ·split at he
    ·cases he
    ·cases he;exact stop rfl
    ·rename_i r hr
     split at he
     ·rename_i hg
      simp only[Bool.and_eq_true,List.all_eq_true,decide_eq_true_eq]at hg
      obtain⟨⟨g1,g3⟩,g4⟩:=hg
      have g2:=hg2
      rw[hlen]at g3
      have g1':r.2.take (σ++cA (masks.getD vals.length 0) 0 slots).length=σ++cA (masks.getD vals.length 0) 0 slots:=by
       rcases Bool.or_eq_true_iff.1 g1 with g1|g1
       ·exact aIH g1 hr
       ·exact aM.begins_eq g1
      rw[hlen]at g1'
      split at he
      ·rename_i hu
       rw[hlen]at hu
       refine go _ _ true he ⟨by rw[hcan];exact h1,fun e=>(by cases e),fun _=>⟨r.1,r.2,?_,hv _,?_,?_,fun p hp=>g4 p hp,.inl ⟨?_,hu,hb _⟩⟩⟩
       ·rw[hcan,htk];exact hr
       ·rw[hcan];exact fun x hx=>g3 x (by simpa using hx)
       ·rw[htk];exact g2
       ·rw[htk];exact g1'
      ·split at he
       ·rename_i c hc
        split at he
        ·rename_i hu
         simp only[Bool.and_eq_true]at hu
         rw[hlen]at hu hc
         refine go _ _ true he ⟨by rw[hcan];exact h1,fun e=>(by cases e),fun _=>⟨r.1,r.2,?_,hv _,?_,?_,fun p hp=>g4 p hp,.inr ⟨c,?_,hu.1,hu.2,hb _⟩⟩⟩
         ·rw[hcan,htk];exact hr
         ·rw[hcan];exact fun x hx=>g3 x (by simpa using hx)
         ·rw[htk];exact g2
         ·rw[htk,←g1',←hc];simp
        ·cases he;exact stop rfl
       ·cases he;exact stop rfl
     ·cases he;exact stop rfl
end Sx
end Go.Proofs.Ytdldallkeheciaa
namespace Go.Proofs.Ytdldallkeheciaa
namespace Sx
open Go Go.RowKit
variable {mm:Nat}
variable {ro:Option Nat} {kk:Nat}
def dC (ops:Array Oper) (k:Nat):Option Tmp:=(ops[k]?).bind (·.dst)
def eF (listed:Array Bool) (slots:List jD) (m:Nat):List jD:=(List.range m).map fun k=>if listed.getD k false then slots.getD k none else none
def uP:Op→Bool
 | .move _ | .assign _ | .pick .. | .binOp .. | .unOp .. | .convert .. | .field .. | .fieldAddr .. | .index .. | .indexAddr .. | .extract .. | .build .. =>true
 |_=>false
theorem pG {P:Program} {X:Ctx} {ev:Operand→SV} {σ σ':aM} {o:Oper} {s:SV} (hp:uP o.op=true) (he:pN P X ev σ o = .ok (s,σ')) (σ2:aM):pN P X ev σ2 o = .ok (s,σ2):=by
 have key:∀ r:Res SV,(r.bind fun s=>(Res.ok (s,σ):Res (SV × aM))) = .ok (s,σ')→(r.bind fun s=>(Res.ok (s,σ2):Res (SV × aM))) = .ok (s,σ2):=by
  intro r hr
  obtain⟨x,rfl,h2⟩:=Res.bind_ok hr
  cases h2
  rfl
 cases hop:o.op<;>rw[hop]at hp<;>simp only[uP]at hp<;>unfold pN at he ⊢ <;> simp only[hop]at he ⊢ <;> first
  |(cases hp;done)
  |exact key _ he
  |(cases he;rfl;done)
  |skip
 all_goals repeat' split at he
 all_goals first
  |(cases he;done)
  |(cases he;simp only[*];done)
  |(simp only[*];exact key _ he)
  |(simp only[*,if_false,if_true,Bool.false_eq_true];cases he;rfl)
  |(obtain⟨x,h1,h2⟩:=Res.bind_ok he;cases h2;simp only[*];rfl)
theorem aAC {σ σ' σ2:aM} {r:Res SV} {s:SV} (h:rC σ r = .ok (s,σ')):rC σ2 r = .ok (s,σ2):=by
 obtain⟨x,rfl,h2⟩:=Res.bind_ok h
 cases h2
 rfl
theorem xX {P:Program} {X:Ctx} {gl:List (Nat × Nat)} {h:bQ} {tm:List SV} {σ σ':aM} {o:Oper} {s:SV} (hp:uP o.op=true) (he:eR P X gl h tm σ o = .ok (s,σ')) (σ2:aM):eR P X gl h tm σ2 o = .ok (s,σ2):=by
 have e0:∀ τ:aM,eR P X gl h tm τ o=rJ P X gl (mU gl tm) τ o:=by
  intro τ
  unfold eR
  cases hop:o.op<;>rw[hop]at hp<;>first|rfl|(cases hp;done)
 rw[e0]at he ⊢
 generalize mU gl tm=ev at he ⊢
 by_cases hf:∃ t x f,o.op = .fieldAddr t x f
 ·obtain⟨t,x,f,hop⟩:=hf
  cases hx:ev x with
  |vptr id w i j=>
   have e1:∀ τ:aM,kB P X gl ev τ o=some (rC τ (aFf P t f id w i j)):=by intro τ;unfold kB;rw[hop];simp only[hx]
   unfold rJ at he ⊢
   simp only[e1]at he ⊢
   exact aAC he
  |_=>
   have e1:∀ τ:aM,kB P X gl ev τ o=none:=by intro τ;unfold kB;rw[hop];simp only[hx]
   unfold rJ at he ⊢
   simp only[e1]at he ⊢
   exact pG hp he σ2
 ·by_cases hg:∃ t x i,o.op = .indexAddr t x i
  ·obtain⟨t,x,i,hop⟩:=hg
   cases hv:oF P X t (ev x) (ev i)with
   |some r=>
    have e1:∀ τ:aM,kB P X gl ev τ o=some (rC τ r):=by intro τ;unfold kB;rw[hop];simp only[hv,Option.map_some]
    unfold rJ at he ⊢
    simp only[e1]at he ⊢
    exact aAC he
   |none=>
    have e1:∀ τ:aM,kB P X gl ev τ o=none:=by intro τ;unfold kB;rw[hop];simp only[hv,Option.map_none]
    unfold rJ at he ⊢
    simp only[e1]at he ⊢
    exact pG hp he σ2
  ·have e1:∀ τ:aM,kB P X gl ev τ o=none:=by
    intro τ
    unfold kB
    cases hop:o.op<;>rw[hop]at hp<;>first|(cases hp;done)|rfl|(exfalso;exact hg ⟨_,_,_,hop⟩)|(exfalso;exact hf ⟨_,_,_,hop⟩)
   unfold rJ at he ⊢
   simp only[e1]at he ⊢
   exact pG hp he σ2
def oC (o:Op):Bool:=match o with | .load _ _=>true|_=>false
theorem aA5 {P:Program} {X:Ctx} {gl:List (Nat × Nat)} {h:bQ} {tm:List SV} {σ σ':aM} {o:Oper} {s:SV} (hp:oC o.op=true) (he:eR P X gl h tm σ o = .ok (s,σ')):σ'=σ:=by
 cases hop:o.op<;>rw[hop]at hp<;>simp only[oC]at hp<;>first|(cases hp;done)|skip
 unfold eR at he
 simp only[hop]at he
 unfold rJ at he
 split at he
 ·rename_i r hr
  unfold kB at hr
  simp only[hop]at hr
  split at hr
  ·cases hr
   obtain⟨_,_,he⟩:=Res.bind_ok he
   cases he;rfl
  ·cases hr
 unfold pN at he
 simp only[hop]at he
 split at he
 ·split at he
  ·split at he
   ·cases he
   ·obtain⟨_,_,he⟩:=Res.bind_ok he
    cases he;rfl
  ·cases he
 ·cases he
theorem aPi {P:Program} {X:Ctx} {gl:List (Nat × Nat)} {h:bQ} {tm tm':List SV} {σ:aM} {o:Oper} (hp:oC o.op=true) (hx:∀ x,x ∈ o.op.operands→mU gl tm x=mU gl tm' x):eR P X gl h tm σ o=eR P X gl h tm' σ o:=by
 cases hop:o.op<;>rw[hop]at hp<;>simp only[oC]at hp<;>first|(cases hp;done)|skip
 rename_i t x
 have e:=hx x (by rw[hop];simp [Op.operands])
 unfold eR
 simp only[hop]
 unfold rJ kB pN
 simp only[hop,e]
def uZ (n m:Nat) (masks:List Nat):List Nat:=(List.range m).filter fun j => !(List.range n).all fun k=>decide (k<m) ||(masks.getD k 0).testBit j
def aHe (ops:Array Oper) (masks:List Nat) (m:Nat) (late:List Nat):Bool:=
 (late.all fun j=>decide (j<m) && match ops[j]? with
  |some o=>o.guard.isNone && (uP o.op ||oC o.op) && (List.range ops.size).all fun k=>match ops[k]? with
   |some ok=>(k ==j ||match o.dst with
     |some u=>decide (ok.dst≠some u) && (decide (k<m) || !(ok.looksAt ops).contains u ||(masks.getD k 0).testBit j)
     |none=>true) && (decide (k<j) ||match ok.dst with
     |some v => !(o.looksAt ops).contains v
     |none=>true)
   |none=>true
  |none=>false)
structure LateOK (ops:Array Oper) (m:Nat) (late:List Nat):Prop where
 lt:∀ j,j ∈ late→j<m
 self:∀ j o,j ∈ late→ops[j]?=some o→o.guard=none∧(uP o.op=true∨oC o.op=true)
 dst:∀ j o k ok u,j ∈ late→ops[j]?=some o→ops[k]?=some ok→k≠j→o.dst=some u→ok.dst≠some u∧(k<m∨u ∉ ok.looksAt ops∨((gM ops.toList []).getD k 0).testBit j=true)
 reads:∀ j o k ok v,j ∈ late→ops[j]?=some o→ops[k]?=some ok→ok.dst=some v→v ∈ o.looksAt ops→k<j
theorem aED {ops:Array Oper} {m:Nat} {late:List Nat} (h:aHe ops (gM ops.toList []) m late=true):LateOK ops m late:=by
 unfold aHe at h
 rw[List.all_eq_true]at h
 have lt:∀ (k:Nat) (o:Oper),ops[k]?=some o→k<ops.size:=fun k o ho=>(Array.getElem?_eq_some_iff.1 ho).1
 have get:∀ j o,j ∈ late→ops[j]?=some o→_:=fun j o hj ho=>(by
  have:=h j hj
  rw[ho]at this
  simp only[Bool.and_eq_true,List.all_eq_true,List.mem_range]at this
  exact this.2)
 refine⟨?_,?_,?_,?_⟩
 ·intro j hj
  have:=h j hj
  simp only[Bool.and_eq_true,decide_eq_true_eq]at this
  exact this.1
 ·intro j o hj ho
  have:=(get j o hj ho).1
  exact⟨by simpa using this.1,by simpa using this.2⟩
 ·intro j o k ok u hj ho hk hkj hu
  have:=(get j o hj ho).2 k (lt k ok hk)
  rw[hk,hu]at this
  simp only[Bool.and_eq_true,Bool.or_eq_true,beq_iff_eq,hkj,false_or,decide_eq_true_eq,Bool.not_eq_true',List.contains_eq_mem,decide_eq_false_iff_not]at this
  obtain⟨⟨a,b⟩,_⟩:=this
  refine⟨a,?_⟩
  rcases b with(b|b)|b
  ·exact .inl b
  ·exact .inr (.inl b)
  ·exact .inr (.inr b)
 ·intro j o k ok v hj ho hk hv hr
  have:=(get j o hj ho).2 k (lt k ok hk)
  rw[hk]at this
  dsimp only at this
  rw[hv]at this
  simp only[Bool.and_eq_true,Bool.or_eq_true,decide_eq_true_eq,Bool.not_eq_true',List.contains_eq_mem,decide_eq_false_iff_not]at this
  rcases this.2 with q|q
  ·exact q
  ·exact absurd hr q
def aHt (ops:Array Oper) (masks:List Nat) (m:Nat) (late:List Nat):Bool:=
 decide (m≤ops.size) && Region.noSelect ops && (List.range ops.size).all fun k=>
  match ops[k]?,masks[k]? with
  |some o,some mk=>
   (fO o).all (fun d=>decide (d<k)) && !mk.testBit k &&
    (if k<m then (List.range m).all fun j=>j ==k ||match dC ops j with
     |some t=>decide (o.dst≠some t) && (!(o.looksAt ops).contains t ||(decide (j<k) && mk.testBit j) ||(decide (k<j) && (masks.getD j 0).testBit k))
     |none=>true
    else (List.range m).all fun j=>late.contains j ||mk.testBit j)
  |_,_=>false
structure HeadOK (ops:Array Oper) (m:Nat) (late:List Nat):Prop where
 le:m≤ops.size
 nosel:Region.noSelect ops=true
 preds:∀ (k:Nat) (o:Oper),ops[k]?=some o→∀ d,d ∈ fO o→d<k
 mask:∀ (k:Nat) (o:Oper),ops[k]?=some o→∃ mk,(gM ops.toList [])[k]?=some mk∧mk.testBit k=false
 dsts:∀ (k j:Nat) (o:Oper) (t:Tmp),k<m→j<m→j≠k→ops[k]?=some o→dC ops j=some t→o.dst≠some t∧
  (t ∉ o.looksAt ops∨(j<k∧((gM ops.toList []).getD k 0).testBit j=true)∨(k<j∧((gM ops.toList []).getD j 0).testBit k=true))
 tail:∀ (k j:Nat) (o:Oper),m≤k→ops[k]?=some o→j<m→j ∉ late→((gM ops.toList []).getD k 0).testBit j=true
theorem aE3 {ops:Array Oper} {m:Nat} {late:List Nat} (h:aHt ops (gM ops.toList []) m late=true):HeadOK ops m late:=by
 unfold aHt at h
 simp only[Bool.and_eq_true,decide_eq_true_eq,List.all_eq_true,List.mem_range]at h
 obtain⟨⟨h1,h2⟩,h3⟩:=h
 have lt:∀ (k:Nat) (o:Oper),ops[k]?=some o→k<ops.size:=fun k o ho=>(Array.getElem?_eq_some_iff.1 ho).1
 refine⟨h1,h2,?_,?_,?_,?_⟩
 ·intro k o ho d hd
  have:=h3 k (lt k o ho)
  rw[ho]at this
  split at this
  ·rename_i o' mk e1 e2
   cases e1
   simp only[Bool.and_eq_true,List.all_eq_true,decide_eq_true_eq]at this
   exact this.1.1 d hd
  ·cases this
 ·intro k o ho
  have:=h3 k (lt k o ho)
  rw[ho]at this
  split at this
  ·rename_i o' mk e1 e2
   cases e1
   simp only[Bool.and_eq_true,Bool.not_eq_true']at this
   exact⟨mk,e2,this.1.2⟩
  ·cases this
 ·intro k j o t hk hj hjk ho hd
  have:=h3 k (lt k o ho)
  rw[ho]at this
  split at this
  ·rename_i o' mk e1 e2
   cases e1
   simp only[Bool.and_eq_true,hk,if_true,List.all_eq_true,List.mem_range]at this
   have h4:=this.2 j hj
   simp only[Bool.or_eq_true,beq_iff_eq,hjk,false_or]at h4
   rw[hd]at h4
   simp only[Bool.and_eq_true,decide_eq_true_eq,Bool.or_eq_true,Bool.not_eq_true',List.contains_eq_mem,decide_eq_false_iff_not]at h4
   have e3:(gM ops.toList []).getD k 0=mk:=by simp [List.getD,e2]
   rw[e3]
   refine⟨h4.1,?_⟩
   rcases h4.2 with(h5|h5)|h5
   ·exact .inl h5
   ·exact .inr (.inl h5)
   ·exact .inr (.inr h5)
  ·cases this
 ·intro k j o hk ho hj hl
  have:=h3 k (lt k o ho)
  rw[ho]at this
  split at this
  ·rename_i o' mk e1 e2
   cases e1
   simp only[Bool.and_eq_true,Nat.not_lt.2 hk,if_false,List.all_eq_true,List.mem_range]at this
   have e3:(gM ops.toList []).getD k 0=mk:=by simp [List.getD,e2]
   rw[e3]
   have:=this.2 j hj
   simpa [hl]using this
  ·cases this
section
variable (mm:Nat) (P:Program) (X:Ctx) (ρ:Nat→Int) (gl:List (Nat × Nat)) (ops:Array Oper) (σ:aM) (tm0 vals:List SV) (slots:List jD) (α0:aV) (w0:World)
structure InvA (listed:Array Bool) (a:Act) (w:World) (α:aV):Prop where
 size:listed.size=ops.size
 down:aDB ops (fun j=>listed.getD j false=true)
 tail:∀ k,vals.length≤k→listed.getD k false=false
 defers:iK mm α0 σ a.defers w0
 tsize:a.tmps.size=tm0.length
 tmp:∀ (t:Nat) (v:Value),a.tmps[t]?=some v→((∀ k,k<vals.length→listed.getD k false=true→dC ops k≠some t)→SV.R X.G ρ α (tm0.getD t (.tuple [])) v)∧
  ∀ k,k<vals.length→listed.getD k false=true→dC ops k=some t→SV.R X.G ρ α (vals.getD k (.tuple [])) v
 mem:RelW X.G ρ gl α (σ++eF listed slots vals.length) w
 ext:Ext σ.length σ (σ++eF listed slots vals.length) α0 α w0 w
 unset:∀ k,k<vals.length→listed.getD k false=false→α (σ.length+k)=none
end
section
variable {P:Program} {X:Ctx} {ρ:Nat→Int} {gl:List (Nat × Nat)} {h:bQ} {ops:Array Oper} {σ:aM} {tm0 vals:List SV} {slots:List jD} {α0:aV} {w0:World}
theorem mD (tm:List SV) (d:Option Tmp) (s:SV):(kE tm d s).length=tm.length:=by cases d<;>simp [kE]
theorem iG (ops:Array Oper) (tm vals:List SV):∀ i,(jE ops tm vals i).length=tm.length
 |0=>rfl
 |i+1=>by simp [jE,mD,iG ops tm vals i]
theorem tT (hd:∀ k j t,k<vals.length→j<vals.length→j≠k→dC ops j=some t→dC ops k≠some t) {t:Nat} (ht:t<tm0.length):∀ i,i≤vals.length→
  ((∀ k,k<i→dC ops k≠some t)→(jE ops tm0 vals i).getD t (.tuple [])=tm0.getD t (.tuple []))∧(∀ k,k<i→dC ops k=some t→(jE ops tm0 vals i).getD t (.tuple [])=vals.getD k (.tuple []))
 |0,_=>⟨fun _=>rfl,fun k hk=>by omega⟩
 |i+1,hi=>by
  obtain⟨ih1,ih2⟩:=tT hd ht i (by omega)
  have hlen:=iG ops tm0 vals i
  have step:∀ d:Option Tmp,dC ops i=d→jE ops tm0 vals (i+1)=kE (jE ops tm0 vals i) d (vals.getD i (.tuple [])):=fun d e=>by simp only[jE];rw[←e];rfl
  refine⟨fun hn=>?_,fun k hk hkt=>?_⟩
  ·rw[step _ rfl]
   have:=ih1 (fun k hk=>hn k (by omega))
   cases hdi:dC ops i with
   |none=>exact this
   |some u=>
    have hut:u≠t:=fun e=>hn i (by omega) (by rw[hdi,e])
    simp only[kE,List.getD,List.getElem?_set_ne hut]
    exact this
  ·rw[step _ rfl]
   rcases Nat.lt_or_ge k i with hki|hki
   ·have:=ih2 k hki hkt
    cases hdi:dC ops i with
    |none=>exact this
    |some u=>
     have hut:u≠t:=fun e=>hd k i t (by omega) (by omega) (by omega) (by rw[hdi,e]) hkt
     simp only[kE,List.getD,List.getElem?_set_ne hut]
     exact this
   ·have:k=i:=by omega
    subst this
    rw[hkt]
    simp only[kE,List.getD]
    rw[List.getElem?_set_self (by omega)]
    rfl
theorem cW {listed:Array Bool} {i k:Nat} (hi:i<listed.size):(listed.setIfInBounds i true).getD k false=if k=i then true else listed.getD k false:=by
 by_cases h:k=i
 ·subst h;simp [hi]
 ·rw[getD_set_ne false (fun e=>h e.symm),if_neg h]
theorem hJ (listed:Array Bool) (slots:List jD) (m k:Nat) (hk:k<m):(eF listed slots m)[k]?=some (if listed.getD k false then slots.getD k none else none):=by
 simp [eF,hk]
theorem dU (listed:Array Bool) (slots:List jD) (m:Nat):(eF listed slots m).length=m:=by simp [eF]
theorem rN {listed:Array Bool} {slots:List jD} {m i:Nat} (hi:i<m) (hs:i<listed.size) (hl:listed.getD i false=false):eF (listed.setIfInBounds i true) slots m=(eF listed slots m).set i (slots.getD i none):=by
 apply List.ext_getElem?
 intro k
 by_cases hk:k<m
 ·rw[hJ _ _ _ _ hk]
  by_cases e:k=i
  ·subst e
   rw[List.getElem?_set_self (by rw[dU];exact hi),cW hs,if_pos rfl]
   rfl
  ·rw[List.getElem?_set_ne (fun q=>e q.symm),hJ _ _ _ _ hk,cW hs,if_neg e]
 ·rw[List.getElem?_eq_none (by rw[dU];omega),List.getElem?_eq_none (by simp [dU];omega)]
theorem aFz (l r:List jD) (i:Nat) (x:jD):(l++r).set (l.length+i) x=l++r.set i x:=by
 rw[List.set_append,if_neg (by omega),show l.length+i-l.length=i by omega]
theorem aIC (hX:X.Ok ρ) (hh:HOk P X ρ gl h) {late:List Nat} (hO:HeadOK ops vals.length late) (hls:slots.length=vals.length)
  (hS:∀ i o,i<vals.length→ops[i]?=some o→∃ wt,StepOK P X gl h ops (gM ops.toList []) σ tm0 vals slots i o wt)
  {Q:Exit→Act→World→Prop} {listed:Array Bool} {a:Act} {w:World} {α:aV} {i:Nat} (inv:InvA mm X ρ gl ops σ tm0 vals slots α0 w0 listed a w α) (hr:i ∈ Region.ready .any ops listed) (hi:i<vals.length):
  wpOpIn (Fr ro) kk P ops Q i (fun a' w'=>∃ α',InvA mm X ρ gl ops σ tm0 vals slots α0 w0 (listed.setIfInBounds i true) a' w' α') a w:=by
 obtain⟨hun,o,ho,hall⟩:=mem_ready.1 hr
 have hiL:i<listed.size:=by rw[inv.size];have:=hO.le;omega
 have hunf:listed.getD i false=false:=getD_both hun
 have hpre:∀ d,d ∈ fO o→listed.getD d false=true:=by
  intro d hd
  unfold fO at hd
  obtain⟨e,he,rfl⟩:=List.mem_map.1 hd
  have he':=List.mem_filter.1 he
  exact hall e (by simpa using he'.1) he'.2
 obtain⟨mk,hmk,hself⟩:=hO.mask i o ho
 have hmkD:(gM ops.toList []).getD i 0=mk:=by simp [List.getD,hmk]
 have hanc:∀ j,mk.testBit j=true→listed.getD j false=true:=
  sZ inv.down ho hpre (by rw[hunf];simp) hmk (fun d hd=>Nat.ne_of_lt (hO.preds i o ho d hd)) hself
 have hdst:∀ k j t,k<vals.length→j<vals.length→j≠k→dC ops j=some t→dC ops k≠some t:=by
  intro k j t hk hj hjk hd
  obtain⟨ok,hok⟩:∃ ok,ops[k]?=some ok:=⟨ops[k]'(by have:=hO.le;omega),by simp [show k<ops.size by have:=hO.le;omega]⟩
  have:=(hO.dsts k j ok t hk hj hjk hok hd).1
  unfold dC
  rw[hok];exact this
 obtain⟨wt,st⟩:=hS i o hi ho
 
 have looks:∀ t,t ∈ o.looksAt ops→SV.R X.G ρ α (mU gl (jE ops tm0 vals i) (.tmp t)) (a.eval (.tmp t)):=by
  intro t ht
  simp only[mU,Act.eval]
  by_cases hlt:t<tm0.length
  ·have hat:t<a.tmps.size:=by rw[inv.tsize];exact hlt
   have hget:a.tmps[t]?=some a.tmps[t]:=by simp [hat]
   rw[show a.tmps.getD t undef=a.tmps[t]by simp [hat]]
   obtain⟨c1,c2⟩:=tT (ops:=ops) (tm0:=tm0) (vals:=vals) hdst hlt i (by omega)
   obtain⟨t1,t2⟩:=inv.tmp t _ hget
   by_cases hex:∃ k,k<i∧dC ops k=some t
   ·obtain⟨k,hk,hkt⟩:=hex
    rw[c2 k hk hkt]
    refine t2 k (by omega) ?_ hkt
    rcases(hO.dsts i k o t hi (by omega) (by omega) ho hkt).2 with q|⟨_,q⟩|⟨q,_⟩
    ·exact absurd ht q
    ·rw[hmkD]at q;exact hanc k q
    ·omega
   ·have hno:∀ k,k<i→dC ops k≠some t:=fun k hk e=>hex ⟨k,hk,e⟩
    rw[c1 hno]
    refine t1 ?_
    intro k hk hl hkt
    rcases Nat.lt_trichotomy k i with q|q|q
    ·exact hno k q hkt
    ·subst q;rw[hunf]at hl;cases hl
    ·rcases(hO.dsts i k o t hi hk (by omega) ho hkt).2 with p|⟨p,_⟩|⟨_,p⟩
     ·exact p ht
     ·omega
     ·obtain⟨ok,hok⟩:∃ ok,ops[k]?=some ok:=by
       unfold dC at hkt
       cases hq:ops[k]? with
       |none=>rw[hq]at hkt;cases hkt
       |some ok=>exact⟨ok,rfl⟩
      obtain⟨mj,hmj,_⟩:=hO.mask k ok hok
      rw[show (gM ops.toList []).getD k 0=mj by simp [List.getD,hmj]]at p
      have:=qM inv.down ops.toList [] (by simp) (by simp) k mj hmj hl i p
      rw[hunf]at this;cases this
  ·have e1:(jE ops tm0 vals i)[t]?=none:=List.getElem?_eq_none (by rw[iG];exact Nat.le_of_not_lt hlt)
   have e2:a.tmps[t]?=none:=Array.getElem?_eq_none (by rw[inv.tsize];exact Nat.le_of_not_lt hlt)
   simp only[List.getD,e1,Option.getD_none,Array.getD_eq_getD_getElem?,e2]
   simp only[SV.R];exact⟨[],rfl,bC⟩
 have hop:∀ x,x ∈ o.op.operands→SV.R X.G ρ α (mU gl (jE ops tm0 vals i) x) (a.eval x):=by
  intro x hx
  cases x with
  |tmp t=>
   refine looks t ?_
   unfold Oper.looksAt
   exact List.mem_append_left _ (List.mem_filterMap.2 ⟨.tmp t,by simpa using hx,rfl⟩)
  |const v=>exact qZ v
  |global g=>
   have:=rF (X:=X) (ρ:=ρ) (gl:=gl) (α:=α) (tm:=[]) (a:=⟨#[],[]⟩) (by simpa using bC) inv.mem.glob (.global g)
   exact this
  |func f=>simp only[mU,Act.eval,SV.R];exact⟨[],[],rfl,bC,bC⟩
 have hwant:Region.wanted o (yielded ops a.tmps)=wt:=by
  refine pO (α:=α) hX st.wanted ?_
  intro g d hg hd
  refine looks d ?_
  unfold Oper.looksAt
  refine List.mem_append_right _ ?_
  rw[hg]
  simp [hd]
 have hdsti:dC ops i=o.dst:=by unfold dC;rw[ho];rfl
 
 have fin:∀ (v:Value) (w':World) (α':aV),(∀ id b,α id=some b→α' id=some b)→SV.R X.G ρ α' (vals.getD i (.tuple [])) v→RelW X.G ρ gl α' (σ++eF (listed.setIfInBounds i true) slots vals.length) w'→
   Ext σ.length σ (σ++eF (listed.setIfInBounds i true) slots vals.length) α0 α' w0 w'→(∀ k,k<vals.length→k≠i→α' (σ.length+k)=α (σ.length+k))→
   InvA mm X ρ gl ops σ tm0 vals slots α0 w0 (listed.setIfInBounds i true) (a.put o.dst v) w' α':=by
  intro v w' α' mono hv hmem hext hα
  refine⟨by simp [inv.size],?_,?_,by rw[lA];exact inv.defers,?_,?_,hmem,hext,?_⟩
  ·intro j oj hoj hj d hd
   rw[cW hiL]at hj ⊢
   by_cases e:j=i
   ·subst e
    rw[ho]at hoj;cases hoj
    have h1:=hpre d hd
    split
    ·rfl
    ·exact h1
   ·rw[if_neg e]at hj
    have h1:=inv.down j oj hoj hj d hd
    split
    ·rfl
    ·exact h1
  ·intro k hk
   rw[cW hiL,if_neg (by omega)]
   exact inv.tail k hk
  ·cases o.dst<;>simp [Act.put,inv.tsize]
  ·intro t u hu
   by_cases ht:o.dst=some t
   ·have huv:u=v:=by
     rw[ht]at hu
     simp only[Act.put]at hu
     rw[Array.getElem?_setIfInBounds]at hu
     simp at hu
     exact hu.2.symm
    subst huv
    refine⟨fun hn=>absurd (hdsti.trans ht) (hn i hi (by rw[cW hiL,if_pos rfl])),?_⟩
    intro k hk hl hkt
    by_cases e:k=i
    ·subst e;exact hv
    ·exact absurd (hdsti.trans ht) (hdst i k t hi hk e hkt)
   ·have hu':a.tmps[t]?=some u:=by
     cases hd:o.dst with
     |none=>rw[hd]at hu;exact hu
     |some d=>
      rw[hd]at hu
      simp only[Act.put]at hu
      rwa [Array.getElem?_setIfInBounds_ne (fun e=>ht (by rw[hd,e]))]at hu
    obtain⟨t1,t2⟩:=inv.tmp t u hu'
    refine⟨fun hn=>SV.R_mono mono _ _ (t1 fun k hk hl=>hn k hk ?_),?_⟩
    ·rw[cW hiL];split
     ·rfl
     ·exact hl
    ·intro k hk hl hkt
     by_cases e:k=i
     ·subst e;rw[hdsti]at hkt;exact absurd hkt ht
     ·rw[cW hiL,if_neg e]at hl
      exact SV.R_mono mono _ _ (t2 k hk hl hkt)
  ·intro k hk hl
   have e:k≠i:=fun q=>by rw[cW hiL,if_pos q]at hl;cases hl
   rw[cW hiL,if_neg e]at hl
   rw[hα k hk e]
   exact inv.unset k hk hl
 unfold wpOpIn
 rw[ho]
 simp only
 cases wt
 ·rw[hwant]
  simp only[Bool.false_eq_true,if_false]
  obtain⟨n1,n2⟩:=st.no rfl
  have hsl:slots.getD i none=none:=by simp [List.getD,n2]
  have hsD:eF (listed.setIfInBounds i true) slots vals.length=eF listed slots vals.length:=by
   rw[rN hi hiL hunf,hsl]
   apply List.ext_getElem?
   intro k
   by_cases e:k=i
   ·subst e
    rw[List.getElem?_set_self (by rw[dU];exact hi),hJ _ _ _ _ hi,hunf];rfl
   ·rw[List.getElem?_set_ne (fun q=>e q.symm)]
  refine⟨fun _ _=>trivial,α,fin undef w α (fun _ _ e=>e) ?_ (by rw[hsD];exact inv.mem) (by rw[hsD];exact inv.ext) (fun _ _ _=>rfl)⟩
  simp only[List.getD,n1,Option.getD_some,SV.R]
  exact⟨[],rfl,bC⟩
 ·rw[hwant]
  simp only[if_true]
  obtain⟨s,σ',e1,e2,e3,e4,e5,e6⟩:=st.yes rfl
  generalize hM:σ++cA ((gM ops.toList []).getD i 0) 0 (slots.take i)=M at e1 e4 e6
  have hMl:M.length=σ.length+i:=by rw[←hM];simp [pE];omega
  have hvi:vals.getD i (.tuple [])=s:=by simp [List.getD,e2]
  have hPart:aCv M (σ++eF listed slots vals.length):=by
   refine⟨by rw[hMl];simp [dU];omega,?_⟩
   intro id hid
   rw[hMl]at hid
   rw[←hM]
   rcases Nat.lt_or_ge id σ.length with q|q
   ·left
    rw[List.getElem?_append_left q,List.getElem?_append_left q]
   ·have hji:id-σ.length<i:=by omega
    rw[List.getElem?_append_right q,List.getElem?_append_right q,aDI,hJ _ _ _ _ (by omega)]
    have hsj:(slots.take i)[id-σ.length]?=some (slots.getD (id-σ.length) none):=by
     rw[List.getElem?_take,if_pos hji,List.getD,List.getElem?_eq_getElem (by omega)];rfl
    rw[hsj,hmkD]
    simp only[Option.map_some,Nat.zero_add]
    cases hb:mk.testBit (id-σ.length)
    ·right;rfl
    ·left
     rw[hanc _ hb]
  have hRM:=inv.mem.part hPart (by rw[hMl];exact e4) (fun p hp=>by rw[hMl];have:=e5 p hp;omega)
  have hopM:∀ x,x ∈ o.op.operands→SV.R X.G ρ (aCu M.length α) (mU gl (jE ops tm0 vals i) x) (a.eval x):=fun x hx=>
   SV.R_agree M.length (fun id b hid e=>qR e hid) _ _ (by rw[hMl];exact e3 x hx) (hop x hx)
  refine qS hX hh e1 hRM hopM ?_
  intro v w' α1 q1 q2 q3
  have hub:σ.length+i<(σ++eF listed slots vals.length).length:=by simp [dU];omega
  rcases e6 with⟨f1,f2,f3⟩|⟨c,f1,f2,f3,f4⟩
  ·obtain⟨r1,r2,r3⟩:=aE6 inv.mem hPart (by rw[hMl];exact e4) q3 q2 (by rw[hMl];exact f1) (by rw[hMl];exact f2) q1 (fun p hp=>by rw[hMl];have:=e5 p hp;omega)
   have hsl:slots.getD i none=none:=by simp [List.getD,f3]
   have hsD:eF (listed.setIfInBounds i true) slots vals.length=eF listed slots vals.length:=by
    rw[rN hi hiL hunf,hsl]
    apply List.ext_getElem?
    intro k
    by_cases e:k=i
    ·subst e
     rw[List.getElem?_set_self (by rw[dU];exact hi),hJ _ _ _ _ hi,hunf];rfl
    ·rw[List.getElem?_set_ne (fun q=>e q.symm)]
   exact⟨α,fin v w' α (fun _ _ e=>e) (by rw[hvi];exact r3) (by rw[hsD];exact r1) (by rw[hsD];exact inv.ext.trans r2 (by rw[hMl];omega)) (fun _ _ _=>rfl)⟩
  ·have hFn:(σ++eF listed slots vals.length)[M.length]?=some none:=by
    rw[hMl,List.getElem?_append_right (by omega),show σ.length+i-σ.length=i by omega,hJ _ _ _ _ hi,hunf];rfl
   obtain⟨α',r1,r2,r3,r4⟩:=aIX inv.mem hPart (by rw[hMl];exact e4) q3 q2 f1 (by rw[hMl];exact f2) (by rw[hMl];exact f3) q1 (fun p hp=>by rw[hMl];have:=e5 p hp;omega) hFn (by rw[hMl];exact inv.unset i hi hunf)
   have hsl:slots.getD i none=some c:=by simp [List.getD,f4]
   have hsD:(σ++eF listed slots vals.length).set M.length (some c)=σ++eF (listed.setIfInBounds i true) slots vals.length:=by
    rw[rN hi hiL hunf,hsl,hMl]
    exact aFz σ _ _ _
   rw[hsD]at r1 r2
   refine⟨α',fin v w' α' r2.mono (by rw[hvi];exact r3) r1 (inv.ext.trans r2 (by rw[hMl];omega)) (fun k _ hk=>r4 _ (by rw[hMl];omega))⟩
end
end Sx
end Go.Proofs.Ytdldallkeheciaa
namespace Go.Proofs.Ytdldallkeheciaa
namespace Sx
open Go Go.RowKit
variable {mm:Nat}
variable {ro:Option Nat} {kk:Nat}
def uX (P:Program) (X:Ctx) (gl:List (Nat × Nat)) (h:bQ) (ops:Array Oper) (k:Nat) (st:St):Res St:=
 match ops[k]? with
 |none => .fail 114
 |some o=>
  (oO X gl ops st.tmps o).bind fun wt=>
   if wt then (eR P X gl h st.tmps st.heap o).bind fun r=>vO r.1 fun s=>cP (kE st.tmps o.dst s) fun tm=>cP r.2 fun σ => .ok ⟨tm,σ⟩
   else cP (kE st.tmps o.dst (.tuple [])) fun tm => .ok ⟨tm,st.heap⟩
def aM.eqb:aM→aM→Bool
 |[],[]=>true
 |a::l,b::r=>jD.eqb a b && aM.eqb l r
 |_,_=>false
theorem aM.eqb_eq:∀ {a b:aM},aM.eqb a b=true→a=b
 |[],[],_=>rfl
 |a::l,b::r,h=>by
  simp only[aM.eqb,Bool.and_eq_true]at h
  rw[jD.eqb_eq h.1,aM.eqb_eq h.2]
 |[],_::_,h=>by simp [aM.eqb]at h
 |_::_,[],h=>by simp [aM.eqb]at h
def St.eqb (a b:St):Bool:=SV.eqbL a.tmps b.tmps && aM.eqb a.heap b.heap
theorem St.eqb_eq {a b:St} (h:St.eqb a b=true):a=b:=by
 unfold St.eqb at h
 simp only[Bool.and_eq_true]at h
 cases a;cases b
 simp only at h
 rw[SV.eqbL_eq _ _ h.1,aM.eqb_eq h.2]
def aC8 (ops:Array Oper) (rem:List Nat):List Nat:=rem.filter fun k=>match ops[k]? with
 |some o=>(fO o).all fun d => !rem.contains d
 |none=>false
def aJa (x:List Nat × St):List (List Nat × St)→Res (List (List Nat × St))
 |[] => .ok [x]
 |y::l=>if x.1=y.1 then (if St.eqb x.2 y.2 then .ok (y::l) else .fail 117) else (aJa x l).bind fun l' => .ok (y::l')
theorem aAY {x:List Nat × St}:∀ {l l':List (List Nat × St)},aJa x l = .ok l'→x ∈ l'∧∀ y,y ∈ l→y ∈ l'
 |[],l',h=>by simp only[aJa]at h;cases h;simp
 |y::l,l',h=>by
  unfold aJa at h
  split at h
  ·rename_i he
   split at h
   ·rename_i hq
    cases h
    have:x=y:=Prod.ext he (St.eqb_eq hq)
    subst this
    exact⟨by simp,fun z hz=>hz⟩
   ·cases h
  ·obtain⟨l2,h2,h⟩:=Res.bind_ok h
   cases h
   obtain⟨q1,q2⟩:=aAY h2
   refine⟨by simp [q1],?_⟩
   intro z hz
   rcases List.mem_cons.1 hz with rfl|hz
   ·simp
   ·simp [q2 z hz]
def xL (P:Program) (X:Ctx) (gl:List (Nat × Nat)) (h:bQ) (ops:Array Oper) (p:List Nat × St):List Nat→List (List Nat × St)→Res (List (List Nat × St))
 |[],acc => .ok acc
 |k::ks,acc=>(uX P X gl h ops k p.2).bind fun st=>(aJa (p.1.erase k,st) acc).bind fun acc=>xL P X gl h ops p ks acc
theorem wL {P:Program} {X:Ctx} {gl:List (Nat × Nat)} {h:bQ} {ops:Array Oper} {p:List Nat × St}:∀ {ks:List Nat} {acc out:List (List Nat × St)},xL P X gl h ops p ks acc = .ok out→
  (∀ y,y ∈ acc→y ∈ out)∧∀ k,k ∈ ks→∃ st,uX P X gl h ops k p.2 = .ok st∧(p.1.erase k,st) ∈ out
 |[],acc,out,he=>by simp only[xL]at he;cases he;exact⟨fun y hy=>hy,fun k hk=>by cases hk⟩
 |k::ks,acc,out,he=>by
  unfold xL at he
  obtain⟨st,h1,he⟩:=Res.bind_ok he
  obtain⟨acc',h2,he⟩:=Res.bind_ok he
  obtain⟨q1,q2⟩:=aAY h2
  obtain⟨r1,r2⟩:=wL he
  refine⟨fun y hy=>r1 y (q2 y hy),?_⟩
  intro j hj
  rcases List.mem_cons.1 hj with rfl|hj
  ·exact⟨st,h1,r1 _ q1⟩
  ·exact r2 j hj
def mY (P:Program) (X:Ctx) (gl:List (Nat × Nat)) (h:bQ) (ops:Array Oper):List (List Nat × St)→List (List Nat × St)→Res (List (List Nat × St))
 |[],acc => .ok acc
 |p::ps,acc=>(xL P X gl h ops p (aC8 ops p.1) acc).bind fun acc=>mY P X gl h ops ps acc
theorem pU {P:Program} {X:Ctx} {gl:List (Nat × Nat)} {h:bQ} {ops:Array Oper}:∀ {ps acc out:List (List Nat × St)},mY P X gl h ops ps acc = .ok out→
  (∀ y,y ∈ acc→y ∈ out)∧∀ p,p ∈ ps→∀ k,k ∈ aC8 ops p.1→∃ st,uX P X gl h ops k p.2 = .ok st∧(p.1.erase k,st) ∈ out
 |[],acc,out,he=>by simp only[mY]at he;cases he;exact⟨fun y hy=>hy,fun p hp=>by cases hp⟩
 |p::ps,acc,out,he=>by
  unfold mY at he
  obtain⟨acc',h1,he⟩:=Res.bind_ok he
  obtain⟨q1,q2⟩:=wL h1
  obtain⟨r1,r2⟩:=pU he
  refine⟨fun y hy=>r1 y (q1 y hy),?_⟩
  intro x hx k hk
  rcases List.mem_cons.1 hx with rfl|hx
  ·obtain⟨st,g1,g2⟩:=q2 k hk
   exact⟨st,g1,r1 _ g2⟩
  ·exact r2 x hx k hk
def yT (P:Program) (X:Ctx) (gl:List (Nat × Nat)) (h:bQ) (ops:Array Oper) (chk:List Nat→St→Bool):Nat→List (List Nat × St)→Res St
 |0,_ => .fail 115
 |n+1,L=>
  if !L.all (fun p=>chk p.1 p.2) then .fail 118
  else match L with
   |[([],st)] => .ok st
   |L=>if L.any (fun p=>p.1.isEmpty) then .fail 119 else (mY P X gl h ops L []).bind fun L'=>yT P X gl h ops chk n L'
def aGs (P:Program) (X:Ctx) (gl:List (Nat × Nat)) (h:bQ) (ops:Array Oper) (φ:List Nat→St→Prop):Nat→List Nat→St→St→Prop
 |0,_,_,_=>False
 |n+1,rem,st,out=>φ rem st∧(rem=[]→st=out)∧∀ k o,k ∈ rem→ops[k]?=some o→(∀ d,d ∈ fO o→d ∉ rem)→∃ st1,uX P X gl h ops k st = .ok st1∧aGs P X gl h ops φ n (rem.erase k) st1 out
theorem wQ {P:Program} {X:Ctx} {gl:List (Nat × Nat)} {h:bQ} {ops:Array Oper} {chk:List Nat→St→Bool} {φ:List Nat→St→Prop} (hc:∀ rem st,chk rem st=true→φ rem st):∀ (n:Nat) (L:List (List Nat × St)) (out:St),yT P X gl h ops chk n L = .ok out→∀ p,p ∈ L→aGs P X gl h ops φ n p.1 p.2 out
 |0,_,_,he=>by simp [yT]at he
 |n+1,L,out,he=>by
  intro p hp
  unfold yT at he
  split at he
  ·cases he
  rename_i hchk
  have hall:L.all (fun p=>chk p.1 p.2)=true:=by simpa using hchk
  have hφ:φ p.1 p.2:=hc _ _ (List.all_eq_true.1 hall p hp)
  split at he
  ·rename_i st
   cases he
   rw[List.mem_singleton.1 hp]
   exact⟨by rw[List.mem_singleton.1 hp]at hφ;exact hφ,fun _=>rfl,fun k o hk=>by cases hk⟩
  ·split at he
   ·cases he
   rename_i hne
   obtain⟨L',h1,he⟩:=Res.bind_ok he
   have hemp:p.1≠[]:=fun e=>hne (List.any_eq_true.2 ⟨p,hp,by simp [e]⟩)
   refine⟨hφ,fun e=>absurd e hemp,?_⟩
   intro k o hk ho hd
   have hmem:k ∈ aC8 ops p.1:=by
    unfold aC8
    refine List.mem_filter.2 ⟨hk,?_⟩
    rw[ho]
    simp only[List.all_eq_true,Bool.not_eq_true',List.contains_eq_mem,decide_eq_false_iff_not]
    exact hd
   obtain⟨st,g1,g2⟩:=(pU h1).2 p hp k hmem
   exact⟨st,g1,wQ hc n L' out he _ g2⟩
def aK1 (ops:Array Oper) (masks:List Nat) (m:Nat) (rem:List Nat) (i:Nat):Bool:=
 (List.range ops.size).any fun k=>decide (m≤k) && !rem.contains k && (masks.getD k 0).testBit i
def aEg (P:Program) (X:Ctx) (gl:List (Nat × Nat)) (h:bQ) (ops:Array Oper) (masks:List Nat) (late:List Nat) (vals:List SV) (rem:List Nat) (st:St):Bool:=
 late.all fun i=>match ops[i]? with
  |some o => !oC o.op ||aK1 ops masks vals.length rem i ||(match eR P X gl h st.tmps st.heap o with
   | .ok r=>SV.eqb r.1 (vals.getD i (.tuple []))
   |_=>false)
  |none=>true
def tP (P:Program) (X:Ctx) (gl:List (Nat × Nat)) (h:bQ) (ops:Array Oper) (late:List Nat) (vals:List SV) (rem:List Nat) (st:St):Prop:=
 ∀ i o,i ∈ late→ops[i]?=some o→oC o.op=true→(∀ k,vals.length≤k→k<ops.size→k ∉ rem→((gM ops.toList []).getD k 0).testBit i=false)→eR P X gl h st.tmps st.heap o = .ok (vals.getD i (.tuple []),st.heap)
theorem aAx {P:Program} {X:Ctx} {gl:List (Nat × Nat)} {h:bQ} {ops:Array Oper} {late:List Nat} {vals:List SV} (rem:List Nat) (st:St) (hc:aEg P X gl h ops (gM ops.toList []) late vals rem st=true):tP P X gl h ops late vals rem st:=by
 intro i o hi ho hl hn
 have:=List.all_eq_true.1 hc i hi
 rw[ho]at this
 simp only[hl,Bool.not_true,Bool.false_or,Bool.or_eq_true]at this
 rcases this with this|this
 ·obtain⟨k,hk,hk2⟩:=List.any_eq_true.1 this
  simp only[Bool.and_eq_true,decide_eq_true_eq,Bool.not_eq_true',List.contains_eq_mem,decide_eq_false_iff_not]at hk2
  rw[hn k hk2.1.1 (List.mem_range.1 hk) hk2.1.2]at hk2
  exact absurd hk2.2 (by decide)
 split at this
 ·rename_i r hr
  obtain⟨s,σ'⟩:=r
  have e:=aA5 hl hr
  subst e
  rw[hr,show s=vals.getD i (.tuple [])from SV.eqb_eq _ _ this]
 ·cases this
def aB1 (P:Program) (X:Ctx) (gl:List (Nat × Nat)) (h:bQ) (ops:Array Oper) (m:Nat) (st:St):Res St:=
 let masks:=gM ops.toList []
 if SV.ubdH st.heap.length st.heap then
 (pT P X gl h ops masks st.heap m ops.toList st.tmps [] []).bind fun out=>
  let late:=uZ ops.size out.vals.length masks
  if aHt ops masks out.vals.length late && aHe ops masks out.vals.length late then
   cP (st.heap++out.slots) fun σ=>yT P X gl h ops (aEg P X gl h ops masks late out.vals) (ops.size+1) [((List.range ops.size).drop out.vals.length,⟨out.tm,σ⟩)]
  else .fail 110
 else .fail 111
def cnt (listed:Array Bool) (m:Nat):Nat:=(List.range m).countP fun k => !listed.getD k false
theorem pW (listed:Array Bool) (m:Nat):cnt listed (m+1)=cnt listed m+if listed.getD m false then 0 else 1:=by
 unfold cnt
 rw[List.range_succ,List.countP_append]
 cases h:listed.getD m false<;>simp only[List.countP_cons,List.countP_nil,h]<;>rfl
theorem aHK {listed:Array Bool} {i:Nat} (hi:i<listed.size) (hl:listed.getD i false=false):∀ m,(i<m→cnt (listed.setIfInBounds i true) m+1=cnt listed m)∧(m≤i→cnt (listed.setIfInBounds i true) m=cnt listed m)
 |0=>⟨fun h=>by omega,fun _=>rfl⟩
 |m+1=>by
  obtain⟨h1,h2⟩:=aHK hi hl m
  rw[pW,pW,cW hi]
  refine⟨fun h=>?_,fun h=>?_⟩
  ·by_cases e:m=i
   ·subst e
    rw[show (if m=m then true else listed.getD m false)=true from if_pos rfl,hl,h2 (Nat.le_refl _)];simp
   ·rw[show (if m=i then true else listed.getD m false)=listed.getD m false from if_neg e];have:=h1 (by omega);omega
  ·rw[show (if m=i then true else listed.getD m false)=listed.getD m false from if_neg (by omega),h2 (by omega)]
theorem tI {listed:Array Bool}:∀ {m:Nat},cnt listed m=0→∀ i,i<m→listed.getD i false=true
 |0,_,i,hi=>by omega
 |m+1,h,i,hi=>by
  rw[pW]at h
  have h1:cnt listed m=0:=by omega
  rcases Nat.lt_or_ge i m with q|q
  ·exact tI h1 i q
  ·have:i=m:=by omega
   subst this
   cases hl:listed.getD i false
   ·rw[hl]at h;simp at h
   ·rfl
theorem aH0 {listed:Array Bool}:∀ {m:Nat},cnt listed m≠0→∃ i,i<m∧listed.getD i false=false∧∀ j,j<i→listed.getD j false=true
 |0,h=>absurd rfl h
 |m+1,h=>by
  by_cases h1:cnt listed m=0
  ·refine⟨m,by omega,?_,tI h1⟩
   rw[pW,h1]at h
   cases hl:listed.getD m false
   ·rfl
   ·rw[hl]at h;simp at h
  ·obtain⟨i,a,b,c⟩:=aH0 h1
   exact⟨i,by omega,b,c⟩
theorem aAR {G:Nat→List Int→Int} {ρ:Nat→Int} {α:aV}:∀ {l:List SV} {vs:List Value},l.length=vs.length→(∀ (i:Nat) (v:Value),vs[i]?=some v→SV.R G ρ α (l.getD i (.tuple [])) v)→SV.RL G ρ α l vs
 |[],[],_,_=>bC
 |[],_::_,h,_=>by simp at h
 |_::_,[],h,_=>by simp at h
 |s::l,v::vs,h,hg=>aW (by have:=hg 0 v (by simp);simpa using this) (aAR (by simpa using h) (fun i u hu=>by have:=hg (i+1) u (by simpa using hu);simpa using this))
section
variable {P:Program} {X:Ctx} {ρ:Nat→Int} {gl:List (Nat × Nat)} {h:bQ} {ops:Array Oper} {σ:aM} {tm0 vals:List SV} {slots:List jD} {α0:aV} {w0:World}
theorem aCb {listed:Array Bool} {k:Nat} {o:Oper} (ho:ops[k]?=some o) (hs:k<listed.size) (hl:listed.getD k false=false) (hp:∀ d,d ∈ fO o→listed.getD d false=true):k ∈ Region.ready .any ops listed:=by
 refine mem_ready.2 ⟨getD_in hs hl,o,ho,fun e he hb=>hp _ ?_⟩
 exact List.mem_map.2 ⟨e,List.mem_filter.2 ⟨by simpa using he,hb⟩,rfl⟩
structure InvB (mm:Nat) (P:Program) (X:Ctx) (ρ:Nat→Int) (gl:List (Nat × Nat)) (h:bQ) (ops:Array Oper) (σ:aM) (tm0 vals:List SV) (late:List Nat) (α0:aV) (w0:World) (st':St) (rem:List Nat) (st:St) (listed:Array Bool) (a:Act) (w:World) (α:aV):Prop where
 size:listed.size=ops.size
 down:aDB ops (fun j=>listed.getD j false=true)
 tl:∀ k,vals.length≤k→k<ops.size→listed.getD k false = !rem.contains k
 hd:∀ j,j<vals.length→j ∉ late→listed.getD j false=true
 defers:iK mm α0 σ a.defers w0
 tsize:a.tmps.size=st.tmps.length
 tmp:∀ (u:Nat) (v:Value),a.tmps[u]?=some v→(∀ j,j ∈ late→listed.getD j false=false→dC ops j≠some u)→SV.R X.G ρ α (st.tmps.getD u (.tuple [])) v
 lv:∀ j u,j ∈ late→u<st.tmps.length→dC ops j=some u→st.tmps.getD u (.tuple [])=vals.getD j (.tuple [])
 lk:∀ j o u,j ∈ late→ops[j]?=some o→u ∈ o.looksAt ops→st.tmps.getD u (.tuple [])=(jE ops tm0 vals j).getD u (.tuple [])
 len:st.tmps.length=tm0.length
 mem:RelW X.G ρ gl α st.heap w
 ext:Ext σ.length σ st.heap α0 α w0 w
 out:∃ n,aGs P X gl h ops (tP P X gl h ops late vals) n rem st st'
 nd:rem.Nodup
 rng:∀ k,k ∈ rem→vals.length≤k∧k<ops.size
theorem lZ {o:Oper} {u:Tmp} (h:Operand.tmp u ∈ o.op.operands):u ∈ o.looksAt ops:=by
 unfold Oper.looksAt
 exact List.mem_append_left _ (List.mem_filterMap.2 ⟨.tmp u,by simpa using h,rfl⟩)
theorem wV {o:Oper} {g:Nat × Bool} {d:Tmp} (hg:o.guard=some g) (hd:(ops[g.1]?).bind (·.dst)=some d):d ∈ o.looksAt ops:=by
 unfold Oper.looksAt
 refine List.mem_append_right _ ?_
 rw[hg]
 simp [hd]
theorem wB {tm:List SV} {α:aV} {a:Act} {w:World} {σ:aM} {o:Oper} (hm:RelW X.G ρ gl α σ w) (h:∀ u,u ∈ o.looksAt ops→SV.R X.G ρ α (mU gl tm (.tmp u)) (a.eval (.tmp u))):
  ∀ x,x ∈ o.op.operands→SV.R X.G ρ α (mU gl tm x) (a.eval x):=by
 intro x hx
 cases x with
 |tmp u=>exact h u (lZ hx)
 |const v=>exact qZ v
 |global g=>
  have:=rF (X:=X) (ρ:=ρ) (gl:=gl) (α:=α) (tm:=[]) (a:=⟨#[],[]⟩) (by simpa using bC) hm.glob (.global g)
  exact this
 |func f=>simp only[mU,Act.eval,SV.R];exact⟨[],[],rfl,bC,bC⟩
theorem aTi {tm:List SV} {α:aV} {a:Act} {u:Tmp} (hl:a.tmps.size=tm.length) (h:∀ v,a.tmps[u]?=some v→SV.R X.G ρ α (tm.getD u (.tuple [])) v):SV.R X.G ρ α (mU gl tm (.tmp u)) (a.eval (.tmp u)):=by
 simp only[mU,Act.eval]
 by_cases hu:u<a.tmps.size
 ·have e:a.tmps[u]?=some a.tmps[u]:=by simp [hu]
  rw[show a.tmps.getD u undef=a.tmps[u]by simp [hu]]
  exact h _ e
 ·have e1:tm[u]?=none:=List.getElem?_eq_none (by rw[←hl];exact Nat.le_of_not_lt hu)
  have e2:a.tmps[u]?=none:=Array.getElem?_eq_none (Nat.le_of_not_lt hu)
  simp only[List.getD,e1,Option.getD_none,Array.getD_eq_getD_getElem?,e2]
  simp only[SV.R];exact⟨[],rfl,bC⟩
theorem oD {listed:Array Bool} {i:Nat} {o:Oper} (ho:ops[i]?=some o) (hr:i ∈ Region.ready .any ops listed):∀ d,d ∈ fO o→listed.getD d false=true:=by
 obtain⟨_,o',ho',hall⟩:=mem_ready.1 hr
 rw[ho]at ho';cases ho'
 intro d hd
 unfold fO at hd
 obtain⟨e,he,rfl⟩:=List.mem_map.1 hd
 have he':=List.mem_filter.1 he
 exact hall e (by simpa using he'.1) he'.2
theorem rL {late:List Nat} (hO:HeadOK ops vals.length late) {listed:Array Bool} (hdn:aDB ops (fun j=>listed.getD j false=true)) {i j:Nat} {o:Oper} (ho:ops[i]?=some o) (hr:i ∈ Region.ready .any ops listed)
  (hb:((gM ops.toList []).getD i 0).testBit j=true):listed.getD j false=true:=by
 obtain⟨hun,_⟩:=mem_ready.1 hr
 obtain⟨mk,hmk,hself⟩:=hO.mask i o ho
 rw[show (gM ops.toList []).getD i 0=mk by simp [List.getD,hmk]]at hb
 exact sZ hdn ho (oD ho hr) (by rw[getD_both hun];simp) hmk (fun d hd=>Nat.ne_of_lt (hO.preds i o ho d hd)) hself j hb
theorem aEs {listed:Array Bool} {i:Nat} {o:Oper} (hi:i<listed.size) (ho:ops[i]?=some o) (hp:∀ d,d ∈ fO o→listed.getD d false=true) (hdn:aDB ops (fun j=>listed.getD j false=true)):
  aDB ops (fun j=>(listed.setIfInBounds i true).getD j false=true):=by
 intro j oj hoj hj d hd
 rw[cW hi]at hj ⊢
 by_cases e:j=i
 ·subst e
  rw[ho]at hoj;cases hoj
  have h1:=hp d hd
  split
  ·rfl
  ·exact h1
 ·rw[if_neg e]at hj
  have h1:=hdn j oj hoj hj d hd
  split
  ·rfl
  ·exact h1
theorem aIV (hX:X.Ok ρ) (hh:HOk P X ρ gl h) {late:List Nat} (hO:HeadOK ops vals.length late) (hL:LateOK ops vals.length late)
  (hS:∀ i o,i<vals.length→ops[i]?=some o→∃ wt,StepOK P X gl h ops (gM ops.toList []) σ tm0 vals slots i o wt)
  {Q:Exit→Act→World→Prop} {st' st:St} {rem:List Nat} {listed:Array Bool} {a:Act} {w:World} {α:aV} {i:Nat} (inv:InvB mm P X ρ gl h ops σ tm0 vals late α0 w0 st' rem st listed a w α) (hr:i ∈ Region.ready .any ops listed) (hi:i ∈ late):
  wpOpIn (Fr ro) kk P ops Q i (fun a' w'=>∃ α',InvB mm P X ρ gl h ops σ tm0 vals late α0 w0 st' rem st (listed.setIfInBounds i true) a' w' α') a w:=by
 obtain⟨hun,o,ho,_⟩:=mem_ready.1 hr
 have him:=hL.lt i hi
 have hiL:i<listed.size:=by rw[inv.size];have:=hO.le;omega
 have hpre:=oD ho hr
 obtain⟨hg,hpu⟩:=hL.self i o hi ho
 have looks:∀ u,u ∈ o.looksAt ops→SV.R X.G ρ α (mU gl (jE ops tm0 vals i) (.tmp u)) (a.eval (.tmp u)):=by
  intro u hu
  refine aTi (by rw[iG,inv.tsize,inv.len]) ?_
  intro v hv
  rw[←inv.lk i o u hi ho hu]
  refine inv.tmp u v hv ?_
  intro j hj hlj hd
  obtain⟨oj,hoj⟩:∃ oj,ops[j]?=some oj:=by
   unfold dC at hd
   cases hq:ops[j]? with
   |none=>rw[hq]at hd;cases hd
   |some oj=>exact⟨oj,rfl⟩
  have hdj:oj.dst=some u:=by unfold dC at hd;rw[hoj]at hd;exact hd
  have hji:=hL.reads i o j oj u hi ho hoj hdj hu
  rcases(hO.dsts i j o u him (by omega) (by omega) ho hd).2 with q|⟨_,q⟩|⟨q,_⟩
  ·exact q hu
  ·have:=rL hO inv.down ho hr q
   rw[hlj]at this;cases this
  ·omega
 obtain⟨wt,sto⟩:=hS i o him ho
 have hwt:wt=true:=by
  have:=sto.wanted
  unfold oO at this
  rw[hg]at this
  cases this;rfl
 subst hwt
 obtain⟨s,σ',e1,e2,_⟩:=sto.yes rfl
 have e3:eR P X gl h (jE ops tm0 vals i) st.heap o = .ok (s,st.heap):=by
  rcases hpu with hpu|hld
  ·exact xX hpu e1 st.heap
  ·obtain⟨n,hT⟩:=inv.out
   have hφ:tP P X gl h ops late vals rem st:=by
    cases n with
    |zero=>exact hT.elim
    |succ n=>exact hT.1
   have:=hφ i o hi ho hld (fun k hk hk' hkr=>by
    have hlk:listed.getD k false=true:=by rw[inv.tl k hk hk'];simp [hkr]
    cases hm:(gM ops.toList [])[k]? with
    |none=>simp [List.getD,hm]
    |some mk=>
     simp only[List.getD,hm,Option.getD_some]
     cases hb:mk.testBit i with
     |false=>rfl
     |true=>
      have:=qM inv.down ops.toList [] (by simp) (by simp) k mk hm hlk i hb
      rw[getD_both hun]at this;cases this)
   rw[show vals.getD i (.tuple [])=s by simp [List.getD,e2]]at this
   rw[←this]
   refine aPi hld ?_
   intro x hx
   cases x with
   |tmp u=>exact(inv.lk i o u hi ho (lZ hx)).symm
   |const v=>rfl
   |global g=>rfl
   |func f=>rfl
 have hwant:Region.wanted o (yielded ops a.tmps)=true:=by unfold Region.wanted;rw[hg]
 have hdsti:dC ops i=o.dst:=by unfold dC;rw[ho];rfl
 unfold wpOpIn
 rw[ho]
 simp only
 rw[hwant]
 simp only[if_true]
 refine qS hX hh e3 inv.mem (wB inv.mem looks) ?_
 intro v w' α1 q1 q2 q3
 refine⟨α1,by simp [inv.size],aEs hiL ho hpre inv.down,?_,?_,by rw[lA];exact inv.defers,?_,?_,inv.lv,inv.lk,inv.len,q2,inv.ext.trans q3 inv.ext.len,inv.out,inv.nd,inv.rng⟩
 ·intro k hk hk'
  rw[cW hiL,if_neg (by omega)]
  exact inv.tl k hk hk'
 ·intro j hj hjl
  rw[cW hiL];split
  ·rfl
  ·exact inv.hd j hj hjl
 ·cases o.dst<;>simp [Act.put,inv.tsize]
 ·intro u x hx hno
  by_cases hu:o.dst=some u
  ·have hxv:x=v∧u<a.tmps.size:=by
    rw[hu]at hx
    simp only[Act.put]at hx
    rw[Array.getElem?_setIfInBounds]at hx
    simp at hx
    exact⟨hx.2.symm,hx.1⟩
   obtain⟨rfl,hus⟩:=hxv
   rw[inv.tsize]at hus
   rw[inv.lv i u hi hus (hdsti.trans hu)]
   rw[show vals.getD i (.tuple [])=s by simp [List.getD,e2]]
   exact q1
  ·have hx':a.tmps[u]?=some x:=by
    cases hd:o.dst with
    |none=>rw[hd]at hx;exact hx
    |some d=>
     rw[hd]at hx
     simp only[Act.put]at hx
     rwa [Array.getElem?_setIfInBounds_ne (fun e=>hu (by rw[hd,e]))]at hx
   refine SV.R_mono q3.mono _ _ (inv.tmp u x hx' ?_)
   intro j hj hlj hd
   by_cases e:j=i
   ·subst e;rw[hdsti]at hd;exact hu hd
   ·exact hno j hj (by rw[cW hiL,if_neg e];exact hlj) hd
theorem aID (hX:X.Ok ρ) (hh:HOk P X ρ gl h) {late:List Nat} (hO:HeadOK ops vals.length late) (hL:LateOK ops vals.length late)
  {Q:Exit→Act→World→Prop} {st' st:St} {rem:List Nat} {i:Nat} {listed:Array Bool} {a:Act} {w:World} {α:aV} (inv:InvB mm P X ρ gl h ops σ tm0 vals late α0 w0 st' rem st listed a w α) (hr:i ∈ Region.ready .any ops listed) (him:vals.length≤i):
  wpOpIn (Fr ro) kk P ops Q i (fun a' w'=>∃ α' st2,InvB mm P X ρ gl h ops σ tm0 vals late α0 w0 st' (rem.erase i) st2 (listed.setIfInBounds i true) a' w' α') a w:=by
 obtain⟨hun,o,ho,_⟩:=mem_ready.1 hr
 have hlt:i<ops.size:=(Array.getElem?_eq_some_iff.1 ho).1
 have hiL:i<listed.size:=by rw[inv.size];exact hlt
 have hpre:=oD ho hr
 have hirem:i ∈ rem:=by
  have:=inv.tl i him hlt
  rw[getD_both hun]at this
  simpa using this
 have hdsti:dC ops (i)=o.dst:=by unfold dC;rw[ho];rfl
 have getj:∀ j u,dC ops j=some u→∃ oj,ops[j]?=some oj∧oj.dst=some u:=by
  intro j u hd
  unfold dC at hd
  cases hq:ops[j]? with
  |none=>rw[hq]at hd;cases hd
  |some oj=>rw[hq]at hd;exact⟨oj,rfl,hd⟩
 have looks:∀ u,u ∈ o.looksAt ops→SV.R X.G ρ α (mU gl st.tmps (.tmp u)) (a.eval (.tmp u)):=by
  intro u hu
  refine aTi inv.tsize ?_
  intro v hv
  refine inv.tmp u v hv ?_
  intro j hj hlj hd
  obtain⟨oj,hoj,hdj⟩:=getj j u hd
  have hjm:=hL.lt j hj
  rcases(hL.dst j oj _ o u hj hoj ho (by omega) hdj).2 with q|q|q
  ·omega
  ·exact q hu
  ·have:=rL hO inv.down ho hr q
   rw[hlj]at this;cases this
 obtain⟨n,hT⟩:=inv.out
 obtain⟨st1,hstep,hrest⟩:∃ st1,uX P X gl h ops i st = .ok st1∧∃ n,aGs P X gl h ops (tP P X gl h ops late vals) n (rem.erase i) st1 st':=by
  cases n with
  |zero=>exact hT.elim
  |succ n=>
   obtain⟨st1,g1,g2⟩:=hT.2.2 i o hirem ho (fun d hd hdr=>by
    have h1:=hpre d hd
    obtain⟨r1,r2⟩:=inv.rng d hdr
    rw[inv.tl d r1 r2]at h1
    simp [hdr]at h1)
   exact⟨st1,g1,n,g2⟩
 unfold uX at hstep
 rw[ho]at hstep
 simp only[uL,cQ]at hstep
 obtain⟨wt,h1,hout⟩:=Res.bind_ok hstep
 have hwant:=pO (α:=α) (a:=a) hX h1 (fun g d hg hd=>looks d (wV hg hd))
 
 have fin:∀ (s:SV) (σ2:aM) (v:Value) (w':World) (α':aV),Res.ok (⟨kE st.tmps o.dst s,σ2⟩:St) = .ok st1→(∀ id b,α id=some b→α' id=some b)→SV.R X.G ρ α' s v→
   RelW X.G ρ gl α' σ2 w'→Ext σ.length σ σ2 α0 α' w0 w'→
   InvB mm P X ρ gl h ops σ tm0 vals late α0 w0 st' (rem.erase i) ⟨kE st.tmps o.dst s,σ2⟩ (listed.setIfInBounds (i) true) (a.put o.dst v) w' α':=by
  intro s σ2 v w' α' hex mono hv hmem hext
  have other:∀ u,o.dst≠some u→(kE st.tmps o.dst s).getD u (.tuple [])=st.tmps.getD u (.tuple []):=by
   intro u hu
   cases hd:o.dst with
   |none=>rfl
   |some d=>
    simp only[kE,List.getD]
    rw[List.getElem?_set_ne (fun e=>hu (by rw[hd,e]))]
  refine⟨by simp [inv.size],aEs hiL ho hpre inv.down,?_,?_,by rw[lA];exact inv.defers,?_,?_,?_,?_,?_,hmem,hext,by cases hex;exact hrest,inv.nd.erase i,fun k hk=>inv.rng k (List.mem_of_mem_erase hk)⟩
  ·intro k hk hk'
   rw[cW hiL]
   by_cases e:k=i
   ·rw[if_pos e,e];simp [inv.nd.not_mem_erase]
   ·rw[if_neg e,inv.tl k hk hk']
    congr 1
    simp [List.mem_erase_of_ne e]
  ·intro j hj hjl
   rw[cW hiL];split
   ·rfl
   ·exact inv.hd j hj hjl
  ·rw[mD]
   cases o.dst<;>simp [Act.put,inv.tsize]
  ·intro u x hx hno
   by_cases hu:o.dst=some u
   ·have hxv:x=v∧u<a.tmps.size:=by
     rw[hu]at hx
     simp only[Act.put]at hx
     rw[Array.getElem?_setIfInBounds]at hx
     simp at hx
     exact⟨hx.2.symm,hx.1⟩
    obtain⟨rfl,hus⟩:=hxv
    rw[hu]
    simp only[kE,List.getD]
    rw[List.getElem?_set_self (by rw[←inv.tsize];exact hus)]
    exact hv
   ·have hx':a.tmps[u]?=some x:=by
     cases hd:o.dst with
     |none=>rw[hd]at hx;exact hx
     |some d=>
      rw[hd]at hx
      simp only[Act.put]at hx
      rwa [Array.getElem?_setIfInBounds_ne (fun e=>hu (by rw[hd,e]))]at hx
    show SV.R X.G ρ α' ((kE st.tmps o.dst s).getD u (.tuple [])) x
    rw[other u hu]
    refine SV.R_mono mono _ _ (inv.tmp u x hx' ?_)
    intro j hj hlj hd
    have hjm:=hL.lt j hj
    exact hno j hj (by rw[cW hiL,if_neg (by omega)];exact hlj) hd
  ·intro j u hj hu hd
   obtain⟨oj,hoj,hdj⟩:=getj j u hd
   have hjm:=hL.lt j hj
   have:=(hL.dst j oj _ o u hj hoj ho (by omega) hdj).1
   show (kE st.tmps o.dst s).getD u (.tuple [])=_
   rw[other u this]
   exact inv.lv j u hj (by rw[←mD st.tmps o.dst s];exact hu) hd
  ·intro j oj u hj hoj hu
   have hjm:=hL.lt j hj
   have:o.dst≠some u:=fun e=>by have:=hL.reads j oj _ o u hj hoj ho e hu;omega
   show (kE st.tmps o.dst s).getD u (.tuple [])=_
   rw[other u this]
   exact inv.lk j oj u hj hoj hu
  ·rw[mD];exact inv.len
 unfold wpOpIn
 rw[ho]
 simp only
 rw[hwant]
 cases wt
 ·simp only[Bool.false_eq_true,if_false]at hout ⊢
  exact⟨fun _ _=>trivial,α,_,fin _ _ _ w α hout (fun _ _ e=>e) (by simp only[SV.R];exact⟨[],rfl,bC⟩) inv.mem inv.ext⟩
 ·simp only[if_true]at hout ⊢
  obtain⟨r,h2,hout⟩:=Res.bind_ok hout
  obtain⟨s,σ2⟩:=r
  refine qS hX hh h2 inv.mem (wB inv.mem looks) ?_
  intro v w1 α1 q1 q2 q3
  exact⟨α1,_,fin s σ2 v w1 α1 hout q3.mono q1 q2 (inv.ext.trans q3 inv.ext.len)⟩
theorem wH {late:List Nat} (hO:HeadOK ops vals.length late) {listed:Array Bool} (hs:listed.size=ops.size) (h:cnt listed ops.size≠0):Region.ready .any ops listed≠[]:=by
 obtain⟨i0,l1,l2,l3⟩:=aH0 (listed:=listed) (m:=ops.size) h
 have hrdy:i0 ∈ Region.ready .any ops listed:=
  aCb (o:=ops[i0]) (by simp [l1]) (by rw[hs];exact l1) l2 (fun d hd=>l3 d (hO.preds i0 _ (by simp [l1]) d hd))
 intro e
 rw[e]at hrdy;cases hrdy
theorem aDz {listed:Array Bool} {i c:Nat} (hs:listed.size=ops.size) (hi:i ∈ Region.ready .any ops listed) (hc:cnt listed ops.size=c+1):cnt (listed.setIfInBounds i true) ops.size=c:=by
 obtain⟨hun,o,ho,_⟩:=mem_ready.1 hi
 have hlt:i<ops.size:=(Array.getElem?_eq_some_iff.1 ho).1
 have:=(aHK (listed:=listed) (i:=i) (by rw[hs];exact hlt) (getD_both hun) ops.size).1 hlt
 omega
theorem aAc (hX:X.Ok ρ) (hh:HOk P X ρ gl h) {late:List Nat} (hO:HeadOK ops vals.length late) (hL:LateOK ops vals.length late)
  (hS:∀ i o,i<vals.length→ops[i]?=some o→∃ wt,StepOK P X gl h ops (gM ops.toList []) σ tm0 vals slots i o wt)
  {Q:Exit→Act→World→Prop} {st':St} (hQ:∀ a' w' α',RelSt mm X ρ gl α' st' a' w'→Ext σ.length σ st'.heap α0 α' w0 w'→Q .normal a' w'):
  ∀ (c:Nat) (rem:List Nat) (st:St) (listed:Array Bool) (a:Act) (w:World) (α:aV),InvB mm P X ρ gl h ops σ tm0 vals late α0 w0 st' rem st listed a w α→cnt listed ops.size=c→wpAnyIn (Fr ro) kk P .any ops Q c listed a w
 |0,rem,st,listed,a,w,α,inv,hc=>by
  have hall:=tI hc
  refine⟨?_,?_⟩
  ·cases hr:Region.ready .any ops listed with
   |nil=>rfl
   |cons i l=>
    have hi:i ∈ Region.ready .any ops listed:=by rw[hr];simp
    obtain⟨hun,o,ho,_⟩:=mem_ready.1 hi
    have:=hall i (Array.getElem?_eq_some_iff.1 ho).1
    rw[getD_both hun]at this;cases this
  ·have ht:rem=[]:=by
    rw[List.eq_nil_iff_forall_not_mem]
    intro k hk
    obtain⟨r1,r2⟩:=inv.rng k hk
    have h1:=inv.tl k r1 r2
    rw[hall k r2]at h1
    simp [hk]at h1
   obtain⟨n,hT⟩:=inv.out
   have hout:st=st':=by
    cases n with
    |zero=>exact hT.elim
    |succ n=>exact hT.2.1 ht
   subst hout
   refine hQ a w α ⟨?_,inv.defers.next inv.ext,inv.mem⟩ inv.ext
   refine aAR (by simp [inv.tsize]) ?_
   intro u v hv
   refine inv.tmp u v (by simpa using hv) ?_
   intro j hj hlj
   have:=hall j (by have:=hL.lt j hj;have:=hO.le;omega)
   rw[hlj]at this;cases this
 |c+1,rem,st,listed,a,w,α,inv,hc=>by
  refine⟨fun h0=>absurd h0 (wH hO inv.size (by omega)),fun i hi=>?_⟩
  obtain⟨hun,o,ho,_⟩:=mem_ready.1 hi
  have hlt:i<ops.size:=(Array.getElem?_eq_some_iff.1 ho).1
  have hun':=getD_both hun
  have hc':=aDz inv.size hi hc
  by_cases him:i<vals.length
  ·have hil:i ∈ late:=by
    rcases Decidable.em (i ∈ late)with q|q
    ·exact q
    ·have:=inv.hd i him q
     rw[hun']at this;cases this
   refine wpOpIn_mono (fun a' w' ⟨α',hI⟩=>?_) (aIV (Q:=Q) hX hh hO hL hS inv hi hil)
   exact aAc hX hh hO hL hS hQ c rem st _ a' w' α' hI hc'
  ·refine wpOpIn_mono (fun a' w' ⟨α',st2,hI⟩=>?_) (aID (Q:=Q) hX hh hO hL inv hi (by omega))
   exact aAc hX hh hO hL hS hQ c _ st2 _ a' w' α' hI hc'
theorem aKr (hX:X.Ok ρ) (hh:HOk P X ρ gl h) {late:List Nat} (hO:HeadOK ops vals.length late) (hls:slots.length=vals.length)
  (hS:∀ i o,i<vals.length→ops[i]?=some o→∃ wt,StepOK P X gl h ops (gM ops.toList []) σ tm0 vals slots i o wt)
  {Q:Exit→Act→World→Prop} (hT:∀ listed a w α,InvA mm X ρ gl ops σ tm0 vals slots α0 w0 listed a w α→(∀ j,j<vals.length→j ∉ late→listed.getD j false=true)→wpAnyIn (Fr ro) kk P .any ops Q (cnt listed ops.size) listed a w):
  ∀ (c:Nat) (listed:Array Bool) (a:Act) (w:World),(∃ α,InvA mm X ρ gl ops σ tm0 vals slots α0 w0 listed a w α)→cnt listed ops.size=c→wpAnyIn (Fr ro) kk P .any ops Q c listed a w:=by
 intro c
 induction c with
 |zero=>
  rintro listed a w ⟨α,inv⟩ hc
  have:=hT listed a w α inv (fun j hj _=>tI hc j (by have:=hO.le;omega))
  rwa [hc]at this
 |succ c ih=>
  rintro listed a w ⟨α,inv⟩ hc
  by_cases hall:∀ j,j<vals.length→j ∉ late→listed.getD j false=true
  ·have:=hT listed a w α inv hall
   rwa [hc]at this
  ·obtain⟨j,hj⟩:=Classical.not_forall.1 hall
   obtain⟨hjm,hj⟩:=Classical.not_imp.1 hj
   obtain⟨hjl,hj⟩:=Classical.not_imp.1 hj
   refine⟨fun h0=>absurd h0 (wH hO inv.size (by omega)),fun i hi=>?_⟩
   obtain⟨hun,o,ho,_⟩:=mem_ready.1 hi
   have him:i<vals.length:=by
    rcases Nat.lt_or_ge i vals.length with q|q
    ·exact q
    ·exact absurd (rL hO inv.down ho hi (hO.tail i j o q ho hjm hjl)) hj
   refine wpOpIn_mono (fun a' w' hI=>?_) (aIC (Q:=Q) hX hh hO hls hS inv hi him)
   exact ih _ a' w' hI (aDz inv.size hi hc)
theorem yW {n m k:Nat} (h1:m≤k) (h2:k<n):((List.range n).drop m).contains k=true:=by
 rw[List.contains_iff_mem,List.mem_iff_getElem?]
 exact⟨k-m,by rw[List.getElem?_drop,List.getElem?_range (by omega)];congr 1;omega⟩
theorem xN {n m k:Nat} (h:k ∈ (List.range n).drop m):m≤k∧k<n:=by
 obtain⟨i,hi⟩:=List.mem_iff_getElem?.1 h
 rw[List.getElem?_drop]at hi
 have:=List.getElem?_eq_some_iff.1 hi
 obtain⟨q,e⟩:=this
 simp at q e
 omega
theorem yQ (hX:X.Ok ρ) (hh:HOk P X ρ gl h) {m:Nat} {st st':St} {α:aV} {a:Act} {w:World} {Q:Exit→Act→World→Prop}
  (he:aB1 P X gl h ops m st = .ok st') (hr:RelSt mm X ρ gl α st a w)
  (hQ:∀ a' w' α',RelSt mm X ρ gl α' st' a' w'→Ext st.heap.length st.heap st'.heap α α' w w'→Q .normal a' w'):wpAnyIn (Fr ro) kk P .any ops Q ops.size (Array.replicate ops.size false) a { w with drawn:=w.drawn+1 }:=by
 unfold aB1 at he
 simp only[cQ]at he
 split at he
 case isFalse=>cases he
 rename_i hU
 obtain⟨out,h1,he⟩:=Res.bind_ok he
 try dsimp only at he
 split at he
 ·rename_i hg
  simp only[Bool.and_eq_true]at hg
  obtain⟨hg1,hg2⟩:=hg
  have hO:=aE3 hg1
  obtain⟨s1,s2,s3,s4,s5⟩:=vW (tm0:=st.tmps) ops.toList st.tmps [] [] hU h1 rfl (by simp) rfl (fun i o hi=>by simp at hi)
  have hle:=hO.le
  have hL:=aED hg2
  have inv0:InvA mm X ρ gl ops st.heap st.tmps out.vals out.slots α { w with drawn:=w.drawn+1 } (Array.replicate ops.size false) a { w with drawn:=w.drawn+1 } α:=by
   have hnone:eF (Array.replicate ops.size false) out.slots out.vals.length=List.replicate out.vals.length none:=by
    unfold eF
    apply List.ext_getElem?
    intro k
    simp only[List.getElem?_map]
    by_cases hk:k<out.vals.length
    ·rw[List.getElem?_range hk,List.getElem?_replicate,if_pos hk]
     simp only[Option.map_some,getD_replicate_false]
     simp
    ·rw[List.getElem?_eq_none (by simp;omega),List.getElem?_replicate,if_neg hk];rfl
   have hext:Ext st.heap.length st.heap (st.heap++List.replicate out.vals.length none) α α { w with drawn:=w.drawn+1 } { w with drawn:=w.drawn+1 }:=
    ⟨rfl,rfl,rfl,Nat.le_refl _,by simp,fun _ _ e=>e,fun _ _ e => .inl e,fun _ _ _=>rfl,fun id b e hv=>by unfold jT at hv ⊢;rwa [List.getElem?_append_left (hr.mem.dom id b e).1]at hv⟩
   refine⟨by simp,fun j o _ hj=>(by have hj':(Array.replicate ops.size false).getD j false=true:=hj;rw[getD_replicate_false]at hj';cases hj'),fun k _=>getD_replicate_false _ _,hr.defers,?_,?_,?_,by rw[hnone];exact hext,?_⟩
   ·have:=bY hr.tmps;simpa using this
   ·intro t v hv
    refine⟨fun _=>?_,fun k _ hl=>(by rw[getD_replicate_false]at hl;cases hl)⟩
    have:=rF (gl:=gl) hr.tmps hr.mem.glob (.tmp t)
    simp only[mU,Act.eval]at this
    rwa [show a.tmps.getD t undef=v by simp [Array.getD_eq_getD_getElem?,hv]]at this
   ·rw[hnone]
    refine⟨fun id b e=>⟨by have:=(hr.mem.dom id b e).1;simp;omega,(hr.mem.dom id b e).2⟩,fun i j b c ei ej hb hc hbc vi vj=>hr.mem.inj i j b c ei ej hb hc hbc (by unfold jT at vi ⊢;rwa [List.getElem?_append_left (hr.mem.dom i b ei).1]at vi) (by unfold jT at vj ⊢;rwa [List.getElem?_append_left (hr.mem.dom j c ej).1]at vj),?_,hr.mem.glob,?_⟩
    ·intro id cs T e
     rcases Nat.lt_or_ge id st.heap.length with q|q
     ·rw[List.getElem?_append_left q]at e
      exact hr.mem.blk id cs T e
     ·rw[List.getElem?_append_right q,List.getElem?_replicate]at e
      split at e<;>cases e
    ·intro id cs T b e hT ei hb j c ej hc hk vj
     rw[List.getElem?_append_left (hr.mem.dom id b ei).1]at e
     exact hr.mem.view id cs T b e hT ei hb j c ej hc hk (by unfold jT at vj ⊢;rwa [List.getElem?_append_left (hr.mem.dom j c ej).1]at vj)
   ·intro k _ _
    cases hk:α (st.heap.length+k)with
    |none=>rfl
    |some b=>have:=(hr.mem.dom _ b hk).1;omega
  refine aKr hX hh hO s1 s5 (α0:=α) (w0:={ w with drawn:=w.drawn+1 }) ?_ ops.size (Array.replicate ops.size false) a { w with drawn:=w.drawn+1 } ⟨α,inv0⟩ ?_
  ·intro listed a' w' α' inv hall
   have hdst:∀ k j t,k<out.vals.length→j<out.vals.length→j≠k→dC ops j=some t→dC ops k≠some t:=by
    intro k j t hk hj hjk hd
    obtain⟨ok,hok⟩:∃ ok,ops[k]?=some ok:=⟨ops[k]'(by omega),by simp [show k<ops.size by omega]⟩
    have:=(hO.dsts k j ok t hk hj hjk hok hd).1
    unfold dC
    rw[hok];exact this
   have noslot:∀ j,j ∈ uZ ops.size out.vals.length (gM ops.toList [])→out.slots.getD j none=none:=by
    intro j hj
    have hjm:=hL.lt j hj
    obtain⟨oj,hoj⟩:∃ oj,ops[j]?=some oj:=⟨ops[j]'(by omega),by simp [show j<ops.size by omega]⟩
    obtain⟨hg,hpu⟩:=hL.self j oj hj hoj
    obtain⟨wt,sto⟩:=s5 j oj hjm hoj
    cases wt with
    |false=>simp [List.getD,(sto.no rfl).2]
    |true=>
     obtain⟨s,σ',e1,_,_,_,_,e6⟩:=sto.yes rfl
     have e8:σ'=st.heap++cA ((gM ops.toList []).getD j 0) 0 (out.slots.take j):=by
      rcases hpu with hpu|hld
      ·have e7:=xX hpu e1 (st.heap++cA ((gM ops.toList []).getD j 0) 0 (out.slots.take j))
       rw[e1]at e7
       cases e7;rfl
      ·exact aA5 hld e1
     subst e8
     rcases e6 with⟨_,_,f3⟩|⟨c,f1,_⟩
     ·simp [List.getD,f3]
     ·have:=congrArg List.length f1
      simp at this
   have hsl:eF listed out.slots out.vals.length=out.slots:=by
    apply List.ext_getElem?
    intro k
    rcases Nat.lt_or_ge k out.vals.length with q|q
    ·rw[hJ _ _ _ _ q]
     have e:out.slots[k]?=some (out.slots.getD k none):=by
      simp only[List.getD]
      rw[List.getElem?_eq_getElem (by omega)];rfl
     rw[e]
     by_cases hk:k ∈ uZ ops.size out.vals.length (gM ops.toList [])
     ·rw[noslot k hk];simp
     ·rw[hall k q hk];rfl
    ·rw[List.getElem?_eq_none (by rw[dU];omega),List.getElem?_eq_none (by omega)]
   have hmem:=inv.mem
   have hext:=inv.ext
   rw[hsl]at hmem hext
   have hlen:out.tm.length=st.tmps.length:=by rw[s3,iG]
   have hcan:∀ u,u<st.tmps.length→_:=fun u hu=>tT (ops:=ops) (tm0:=st.tmps) (vals:=out.vals) hdst hu out.vals.length (Nat.le_refl _)
   have getj:∀ j u,dC ops j=some u→∃ oj,ops[j]?=some oj∧oj.dst=some u:=by
    intro j u hd
    unfold dC at hd
    cases hq:ops[j]? with
    |none=>rw[hq]at hd;cases hd
    |some oj=>rw[hq]at hd;exact⟨oj,rfl,hd⟩
   have invB:InvB mm P X ρ gl h ops st.heap st.tmps out.vals (uZ ops.size out.vals.length (gM ops.toList [])) α { w with drawn:=w.drawn+1 } st' ((List.range ops.size).drop out.vals.length) ⟨out.tm,st.heap++out.slots⟩ listed a' w' α':=by
    refine⟨inv.size,inv.down,?_,hall,inv.defers,by rw[inv.tsize];exact hlen.symm,?_,?_,?_,hlen,hmem,hext,⟨_,wQ (aAx) _ _ _ he _ (List.mem_singleton.2 rfl)⟩,List.nodup_range.sublist (List.drop_sublist _ _),?_⟩
    ·intro k hk hk'
     rw[inv.tail k hk,yW hk hk'];rfl
    ·intro u v hv hno
     have hlt:u<st.tmps.length:=by
      have:=(Array.getElem?_eq_some_iff.1 hv).1
      rw[inv.tsize]at this;exact this
     obtain⟨c1,c2⟩:=hcan u hlt
     obtain⟨t1,t2⟩:=inv.tmp u v hv
     show SV.R X.G ρ α' (out.tm.getD u (.tuple [])) v
     rw[s3]
     by_cases hex:∃ k,k<out.vals.length∧dC ops k=some u
     ·obtain⟨k,hk,hkt⟩:=hex
      rw[c2 k hk hkt]
      refine t2 k hk ?_ hkt
      by_cases hkl:k ∈ uZ ops.size out.vals.length (gM ops.toList [])
      ·cases hq:listed.getD k false with
       |true=>rfl
       |false=>exact absurd hkt (hno k hkl hq)
      ·exact hall k hk hkl
     ·have hno':∀ k,k<out.vals.length→dC ops k≠some u:=fun k hk e=>hex ⟨k,hk,e⟩
      rw[c1 hno']
      exact t1 (fun k hk _=>hno' k hk)
    ·intro j u hj hu hd
     show out.tm.getD u (.tuple [])=_
     rw[s3]
     exact(hcan u (by rw[←hlen];exact hu)).2 j (hL.lt j hj) hd
    ·intro j o u hj ho hu
     show out.tm.getD u (.tuple [])=_
     rcases Nat.lt_or_ge u st.tmps.length with q|q
     ·obtain⟨c1,c2⟩:=hcan u q
      have hjm:=hL.lt j hj
      obtain⟨d1,d2⟩:=tT (ops:=ops) (tm0:=st.tmps) (vals:=out.vals) hdst q j (by omega)
      rw[s3]
      by_cases hex:∃ k,k<out.vals.length∧dC ops k=some u
      ·obtain⟨k,hk,hkt⟩:=hex
       obtain⟨ok,hok,hdk⟩:=getj k u hkt
       have hkj:=hL.reads j o k ok u hj ho hok hdk hu
       rw[c2 k hk hkt,d2 k hkj hkt]
      ·have hno':∀ k,k<out.vals.length→dC ops k≠some u:=fun k hk e=>hex ⟨k,hk,e⟩
       rw[c1 hno',d1 (fun k hk=>hno' k (by omega))]
     ·rw[List.getD,List.getD,List.getElem?_eq_none (by rw[hlen];exact q),List.getElem?_eq_none (by rw[iG];exact q)]
    ·exact fun k hk=>xN hk
   refine aAc hX hh hO hL s5 ?_ _ _ _ listed a' w' α' invB rfl
   intro a2 w2 α2 r1 r2
   exact hQ a2 w2 α2 r1 (Ext.drawn r2)
  ·have:∀ m,cnt (Array.replicate ops.size false) m=m:=by
    intro m
    induction m with
    |zero=>rfl
    |succ m ih=>rw[pW,ih,getD_replicate_false];simp
   exact this _
 ·cases he
end
def aAm (ops:Array Oper):Nat:=(ops.toList.findIdx wY)
def aVO (ops:Array Oper):Bool:=
 let masks:=gM ops.toList []
 let m:=aAm ops
 decide (m=ops.size) ||(let late:=uZ ops.size m masks;aHt ops masks m late && aHe ops masks m late)
def zL (sp:Oper→Bool) (ops:List Oper) (i:Nat):Nat:=
 match ops with
 |[]=>0
 |o::rest=>(if sp o then 2 ^ i else 0)+zL sp rest (i+1)
def aDw (sp:Oper→Bool) (masks:List Nat) (S:Nat) (stores:List Nat):List Oper→Nat→Nat→Nat
 |[],_,f=>f
 |o::rest,i,f=>
  let m:=masks.getD i 0
  aDw sp masks S stores rest (i+1) (if !sp o && (m &&& S ==0) && (m |||f ==f) && (((uP o.op ||oC o.op) && o.guard.isNone) ||stores.all fun s=>(masks.getD s 0).testBit i) then f |||2 ^ i else f)
def aMd (o:Oper):Bool:=match o.op with
 | .call ⟨.value _,_,_⟩=>true
 |_=>false
def aGn (sp:Oper→Bool) (ops:Array Oper):Nat:=
 let masks:=gM ops.toList []
 let S:=zL sp ops.toList 0
 aDw sp masks S ((List.range ops.size).filter fun i=>S.testBit i) ops.toList 0 0
def aVR (sp:Oper→Bool) (ops:Array Oper):List Nat:=
 let f:=aGn sp ops
 (List.range ops.size).filter (fun i=>f.testBit i)++(List.range ops.size).filter (fun i => !f.testBit i)
def aSk (sp:Oper→Bool) (ops:Array Oper):Nat:=
 let f:=aGn sp ops
 ((List.range ops.size).filter (fun i=>f.testBit i)).length
def aWS (π:List Nat) (n:Nat):List Nat:=(List.range n).map fun i=>π.findIdx (· ==i)
def uH (inv:List Nat) (o:Oper):Oper:={ o with after:=o.after.map fun e=>{ e with on:=inv.getD e.on e.on },guard:=o.guard.map fun g=>(inv.getD g.1 g.1,g.2) }
def fE (ops:Array Oper) (π inv:List Nat):Array Oper:=((List.range ops.size).map fun k=>uH inv (ops.getD (π.getD k 0) default)).toArray
def aFd (π inv:List Nat) (n:Nat):Bool:=
 decide (π.length=n) && decide (inv.length=n) && (List.range n).all fun k=>decide (π.getD k n<n) && decide (inv.getD (π.getD k n) n=k) && decide (inv.getD k n<n) && decide (π.getD (inv.getD k n) n=k)
structure Perm (π inv:List Nat) (n:Nat):Prop where
 lp:π.length=n
 li:inv.length=n
 plt:∀ k,k<n→π.getD k 0<n
 ip:∀ k,k<n→inv.getD (π.getD k 0) 0=k
 ilt:∀ k,k<n→inv.getD k 0<n
 pi:∀ k,k<n→π.getD (inv.getD k 0) 0=k
theorem tN {l:List Nat} {k a b:Nat} (h:k<l.length):l.getD k a=l.getD k b:=by
 simp [List.getD,List.getElem?_eq_getElem h]
theorem aD4 {π inv:List Nat} {n:Nat} (h:aFd π inv n=true):Perm π inv n:=by
 unfold aFd at h
 simp only[Bool.and_eq_true,decide_eq_true_eq,List.all_eq_true,List.mem_range]at h
 obtain⟨⟨h1,h2⟩,h3⟩:=h
 have e1:∀ k,k<n→π.getD k n=π.getD k 0:=fun k hk=>tN (by omega)
 have e2:∀ k,k<n→inv.getD k n=inv.getD k 0:=fun k hk=>tN (by omega)
 refine⟨h1,h2,?_,?_,?_,?_⟩<;>intro k hk<;>obtain⟨⟨⟨a,b⟩,c⟩,d⟩:=h3 k hk
 ·rw[e1 k hk]at a;exact a
 ·rw[e1 k hk]at a b;rw[e2 _ a]at b;exact b
 ·rw[e2 k hk]at c;exact c
 ·rw[e2 k hk]at c d;rw[e1 _ c]at d;exact d
section
variable {P:Program} {ops:Array Oper} {π inv:List Nat} {Q:Exit→Act→World→Prop}
theorem uO (hp:Perm π inv ops.size) {k:Nat} (hk:k<ops.size):∃ o,ops[π.getD k 0]?=some o∧(fE ops π inv)[k]?=some (uH inv o):=by
 have hl:=hp.plt k hk
 refine⟨ops.getD (π.getD k 0) default,?_,?_⟩
 ·rw[Array.getD_eq_getD_getElem?,Array.getElem?_eq_getElem hl];rfl
 ·simp [fE,List.getElem?_range hk]
theorem nX:(fE ops π inv).size=ops.size:=by simp [fE]
theorem aAM {l:Array Bool} {i:Nat} (h:l.size≤i):l.getD i false=false:=by
 rw[Array.getD_eq_getD_getElem?,Array.getElem?_eq_none h];rfl
theorem aHZ {l:Array Bool} {i:Nat} (h:i<l.size):l.getD i true=l.getD i false:=by
 rw[Array.getD_eq_getD_getElem?,Array.getD_eq_getD_getElem?,Array.getElem?_eq_getElem h];rfl
theorem aTY (hp:Perm π inv ops.size) {listed listed':Array Bool} (h1:listed.size=ops.size) (h2:listed'.size=ops.size)
  (hr:∀ k,k<ops.size→listed'.getD k false=listed.getD (π.getD k 0) false) (d:Nat):listed'.getD (inv.getD d d) false=listed.getD d false:=by
 by_cases hd:d<ops.size
 ·rw[tN (a:=d) (b:=0) (by rw[hp.li];exact hd),hr _ (hp.ilt d hd),hp.pi d hd]
 ·have e:inv.getD d d=d:=by
   have:inv[d]?=none:=List.getElem?_eq_none (by rw[hp.li];omega)
   simp [List.getD,this]
  rw[e,aAM (by omega),aAM (by omega)]
theorem rM (hp:Perm π inv ops.size) {listed listed':Array Bool} (h1:listed.size=ops.size) (h2:listed'.size=ops.size)
  (hr:∀ k,k<ops.size→listed'.getD k false=listed.getD (π.getD k 0) false) {k:Nat} (hk:k<ops.size):
  k ∈ Region.ready .any (fE ops π inv) listed'↔π.getD k 0 ∈ Region.ready .any ops listed:=by
 obtain⟨o,e1,e2⟩:=uO hp hk
 have hl:=hp.plt k hk
 unfold Region.ready
 simp only[List.mem_filter,List.mem_range,nX,hk,hl,true_and,e1,e2,Option.map_some,Option.getD_some]
 rw[aHZ (by omega),aHZ (by omega),hr k hk]
 have e3:((uH inv o).after.all fun e => !Region.binds .any e ||listed'.getD e.on false)=(o.after.all fun e => !Region.binds .any e ||listed.getD e.on false):=by
  unfold uH
  simp only[Array.all_map]
  congr 1
  funext e
  simp only[Function.comp]
  rw[aTY hp h1 h2 hr e.on]
  rfl
 rw[e3]
theorem aC9 (hp:Perm π inv ops.size) (tmps:Array Value) (g:Nat):yielded (fE ops π inv) tmps (inv.getD g g)=yielded ops tmps g:=by
 by_cases hg:g<ops.size
 ·rw[tN (a:=g) (b:=0) (by rw[hp.li];exact hg)]
  obtain⟨o,e1,e2⟩:=uO hp (hp.ilt g hg)
  rw[hp.pi g hg]at e1
  unfold yielded
  rw[e1,e2]
  rfl
 ·have e:inv.getD g g=g:=by
   have:inv[g]?=none:=List.getElem?_eq_none (by rw[hp.li];omega)
   simp [List.getD,this]
  rw[e]
  unfold yielded
  rw[Array.getElem?_eq_none (by rw[nX];omega),Array.getElem?_eq_none (by omega)]
theorem aDt (hp:Perm π inv ops.size) (tmps:Array Value) (o:Oper):Region.wanted (uH inv o) (yielded (fE ops π inv) tmps)=Region.wanted o (yielded ops tmps):=by
 unfold Region.wanted uH
 cases o.guard with
 |none=>rfl
 |some g=>
  obtain⟨g,b⟩:=g
  simp only[Option.map_some]
  rw[aC9 hp tmps g]
theorem aEX (hp:Perm π inv ops.size):∀ (fuel:Nat) (listed listed':Array Bool) (a:Act) (w:World),listed.size=ops.size→listed'.size=ops.size→
  (∀ k,k<ops.size→listed'.getD k false=listed.getD (π.getD k 0) false)→wpAnyIn (Fr ro) kk P .any (fE ops π inv) Q fuel listed' a w→wpAnyIn (Fr ro) kk P .any ops Q fuel listed a w:=by
 intro fuel
 have lt:∀ {o:Array Oper} {l:Array Bool} {i:Nat},i ∈ Region.ready .any o l→i<o.size:=fun {o l i} h=>by
  unfold Region.ready at h
  exact List.mem_range.1 (List.mem_filter.1 h).1
 have nil:∀ (listed listed':Array Bool),listed.size=ops.size→listed'.size=ops.size→(∀ k,k<ops.size→listed'.getD k false=listed.getD (π.getD k 0) false)→
   (Region.ready .any ops listed=[]↔Region.ready .any (fE ops π inv) listed'=[]):=by
  intro listed listed' h1 h2 hr
  rw[List.eq_nil_iff_forall_not_mem,List.eq_nil_iff_forall_not_mem]
  constructor
  ·intro h k hk
   have hk':=lt hk
   rw[nX]at hk'
   exact h _ ((rM hp h1 h2 hr hk').1 hk)
  ·intro h i hi
   have hi':=lt hi
   refine h (inv.getD i 0) ((rM hp h1 h2 hr (hp.ilt i hi')).2 ?_)
   rw[hp.pi i hi'];exact hi
 induction fuel with
 |zero=>
  intro listed listed' a w h1 h2 hr h
  simp only[wpAnyIn]at h ⊢
  exact⟨(nil listed listed' h1 h2 hr).2 h.1,h.2⟩
 |succ fuel ih=>
  intro listed listed' a w h1 h2 hr h
  simp only[wpAnyIn]at h ⊢
  refine⟨fun hn=>h.1 ((nil listed listed' h1 h2 hr).1 hn),?_⟩
  intro i hi
  have hi':=lt hi
  have hk:=hp.ilt i hi'
  have hmem:inv.getD i 0 ∈ Region.ready .any (fE ops π inv) listed':=(rM hp h1 h2 hr hk).2 (by rw[hp.pi i hi'];exact hi)
  have hop:=h.2 _ hmem
  obtain⟨o,e1,e2⟩:=uO hp hk
  rw[hp.pi i hi']at e1
  have key:∀ (a:Act) (w:World),wpAnyIn (Fr ro) kk P .any (fE ops π inv) Q fuel (listed'.setIfInBounds (inv.getD i 0) true) a w→wpAnyIn (Fr ro) kk P .any ops Q fuel (listed.setIfInBounds i true) a w:=by
   intro a w hw
   refine ih _ _ a w (by simp [h1]) (by simp [h2]) ?_ hw
   intro m hm
   rw[cW (by omega),cW (by omega),hr m hm]
   by_cases hmi:m=inv.getD i 0
   ·rw[if_pos hmi,if_pos (by rw[hmi,hp.pi i hi'])]
   ·rw[if_neg hmi,if_neg (fun q=>hmi (by rw[←q,hp.ip m hm]))]
  unfold wpOpIn at hop ⊢
  rw[e2]at hop
  rw[e1]
  simp only at hop ⊢
  rw[aDt hp]at hop
  split
  ·rename_i hw
   rw[if_pos hw]at hop
   exact Oper.wpIn_mono (o:=o) key hop
  ·rename_i hw
   rw[if_neg hw]at hop
   exact⟨fun _ _=>trivial,key _ _ hop.2⟩
end
def xF (P:Program) (X:Ctx) (gl:List (Nat × Nat)) (h:bQ) (ops:Array Oper) (sp:Oper→Bool) (st:St):Res St:=
 let π:=aVR sp ops
 let inv:=aWS π ops.size
 if aFd π inv ops.size then aB1 P X gl h (fE ops π inv) (aSk sp ops) st else .fail 112
def aBS (P:Program) (X:Ctx) (gl:List (Nat × Nat)) (h:bQ) (ops:Array Oper) (st:St):Res St:=
 match if aVO ops then aB1 P X gl h ops (aAm ops) st else xF P X gl h ops wY st with
 | .fail n=>if n=110∧ops.toList.any aMd=true then xF P X gl h ops (fun o=>wY o ||aMd o) st else .fail n
 |r=>r
section
variable {ρ:Nat→Int} {P:Program} {X:Ctx} {gl:List (Nat × Nat)} {h:bQ} {ops:Array Oper}
theorem aI2 (hX:X.Ok ρ) (hh:HOk P X ρ gl h) (hm:P.follows .mixedOrders=true) {st st':St} {α:aV} {a:Act} {w:World} {id:Nat} {Q:Exit→Act→World→Prop}
  (he:aBS P X gl h ops st = .ok st') (hr:RelSt mm X ρ gl α st a w)
  (hQ:∀ a' w' α',RelSt mm X ρ gl α' st' a' w'→Ext st.heap.length st.heap st'.heap α α' w w'→Q .normal a' w'):(Code.region id ops true).wpIn (Fr ro) kk P Q a w:=by
 refine wpIn_region_any hm ?_
 have perm:∀ sp,xF P X gl h ops sp st = .ok st'→wpAnyIn (Fr ro) kk P .any ops Q ops.size (Array.replicate ops.size false) a { w with drawn:=w.drawn+1 }:=by
  intro sp he
  unfold xF at he
  dsimp only at he
  split at he
  ·rename_i hp
   have hp:=aD4 hp
   have k:=yQ (ro:=ro) (kk:=kk) hX hh he hr hQ
   rw[nX]at k
   exact aEX hp _ _ _ _ _ (by simp) (by simp) (fun k _=>by rw[getD_replicate_false,getD_replicate_false]) k
  ·cases he
 unfold aBS at he
 split at he
 ·split at he
  ·exact perm _ he
  ·cases he
 ·split at he
  ·exact yQ hX hh he hr hQ
  ·exact perm _ he
end
inductive Ex where
 |normal
 |exit (id:Nat)
 |ret
def Ex.toExit:Ex→Exit
 | .normal => .normal
 | .exit id => .exit id
 | .ret => .ret
def kD (P:Program) (gl:List (Nat × Nat)) (st:St):List ResultVar→Option (List SV)
 |[]=>some []
 | .tmp t::l=>match kD P gl st l with
  |some r=>some (mU gl st.tmps (.tmp t)::r)
  |none=>none
 | .cell a t::l=>match mU gl st.tmps (.tmp a)with
  | .ptr id off=>match st.heap[id]? with
   |some (some (cs,T))=>if fY T=false then none else match aH5 P t cs off,kD P gl st l with
    |some s,some r=>some (s::r)
    |_,_=>none
   |_=>none
  |_=>none
def sK:List SV→SV
 |[s]=>s
 |l => .tuple l
inductive CtE where
 |pure (g:Ctx→List SV→Res SV)
 |mem (g:Ctx→List SV→aM→Res (SV × aM))
abbrev bA:=FuncId→Option CtE
abbrev dF:=List (Nat × List SV × TypeId)
def bN (gb:dF):List (Nat × Nat):=gb.zipIdx.map fun p=>(p.1.1,p.2)
def jI (gb:dF):aM:=gb.map fun q=>some q.2
def xQ:List Tmp→List SV→List SV→List SV
 |p::ps,a::args,tm=>xQ ps args (tm.set p a)
 |_,_,tm=>tm
def qW (cs:List SV):Option Int:=
 match cs.getLast? with
 |some (.int .i64 (.lit s))=>some s
 |_=>none
def cY (s:Int):SV := .int .i64 (.lit s)
def Ex.cell:Ex→Int
 | .normal => -1
 | .ret=>0
 | .exit i=>(i:Int)+1
def Ex.goes:Ex→Bool
 | .normal=>true
 |_=>false
def vQ (P:Program) (run:FuncId→Bool→Code→St→Res (Ex × St)) (L:Nat) (args:List SV) (σ:aM):Res (SV × aM):=
 match σ[L]? with
 |some (some (cs,T))=>
  if decide (bL≤T) && decide (T<bL+100000) then
   match bX P (T-bL),qW cs with
   |some (ps,asg,body),some s=>
    if decide (s = -1) && decide (ps.size=args.length) && (bD asg).isEmpty && (bD body).isEmpty then
     cP (xQ ps.toList args cs.dropLast) fun tm=>(run (T-bL) true asg ⟨tm,σ⟩).bind fun r1=>
      match r1.1,r1.2.heap[L]? with
      | .normal,some (some (c1,T1))=>
       if decide (T1=T) && decide (qW c1=some (-1)) then
        (run (T-bL) true body ⟨r1.2.tmps,r1.2.heap.set L (some (c1.dropLast++[cY (-2)],T))⟩).bind fun r2=>
         match r2.2.heap[L]? with
         |some (some (c2,T2))=>if decide (T2=T) && (qW c2).isSome then .ok (.bool (.lit r2.1.goes),r2.2.heap.set L (some (c2.dropLast++[cY r2.1.cell],T))) else .fail 126
         |_ => .fail 126
       else .fail 127
      |_,_ => .fail 128
    else .fail 129
   |_,_ => .fail 133
  else .fail 134
 |_ => .fail 135
def rO (P:Program) (X:Ctx) (gb:dF) (run:FuncId→Bool→Code→St→Res (Ex × St)):bQ:=fun f args σ=>
 let gl:=bN gb
 match P.funcs[f]? with
 |some fn=>
  match fn.body with
  |some c=>
   if fn.name == "runtime.NumGoroutine" then .fail 120
   else if decide (1<(bD c).length) then .fail 125
   else
    cP (args++List.replicate (fn.ntmps-args.length) (.tuple [])) fun tm=>(run f false c ⟨tm,σ⟩).bind fun r=>
     match r.1 with
     | .exit _ => .fail 121
     |_=>
      match kD P gl r.2 fn.results.toList with
      |some l=>
       let s:=sK l
       let τ:=r.2.heap.take σ.length
       if s.ubd σ.length && SV.ubdH σ.length τ && gl.all (fun p=>decide (p.2<σ.length)) then .ok (s,τ) else .ok (s,r.2.heap)
      |none => .fail 122
  |none => .fail 123
 |none => .fail 124
def fX (P:Program) (X:Ctx) (gb:dF) (ct:bA) (run:FuncId→Bool→Code→St→Res (Ex × St)):bQ:=fun f args σ=>
 let gl:=bN gb
 if decide (YB≤f) then vQ P run (f-YB) args σ else
 match ct f with
 |some (.pure g)=>if aM.begins (jI gb) σ then (g X args).bind fun s => .ok (s,σ) else .fail 119
 |some (.mem g)=>match g X args σ with
  | .fail _=>rO P X gb run f args σ
  |r=>r
 |none=>rO P X gb run f args σ
def vN (gb:dF) (h:bQ) (f:FuncId) (inr:Bool) (g:Operand) (st:St):Res (Ex × St):=
 if inr then .fail 150 else
 match mU (bN gb) st.tmps g with
 | .func (.func gf) first captured=>
  if decide (gf<YB) && decide (f<100000) then
   (h gf (first++[.yld st.heap.length]++captured) (st.heap++[some (st.tmps++[cY (-1)],bL+f)])).bind fun r=>
    match r.2[st.heap.length]? with
    |some (some (cs,T))=>
     match qW cs with
     |some s=>if decide (T=bL+f) && decide (-1≤s) then .ok ((if s = -1 then .normal else if s=0 then .ret else .exit (s-1).toNat),⟨st.tmps,r.2.set st.heap.length none⟩) else .fail 151
     |none => .fail 152
    |_ => .fail 153
  else .fail 154
 |_ => .fail 155
def cM (P:Program) (X:Ctx) (gb:dF) (ct:bA):Nat→FuncId→Bool→Code→St→Res (Ex × St)
 |0,_,_,_,_ => .fail 130
 |n+1,f,inr,c,st=>
  match c with
  | .skip => .ok (.normal,st)
  | .label _ => .ok (.normal,st)
  | .seq a b=>(cM P X gb ct n f inr a st).bind fun r=>
   match r.1 with
   | .normal=>cM P X gb ct n f inr b r.2
   |_ => .ok r
  | .cond o a b=>
   match mU (bN gb) st.tmps o with
   | .bool t=>(Res.test X t).bind fun r=>if r then cM P X gb ct n f inr a st else cM P X gb ct n f inr b st
   |_ => .fail 131
  | .block id b=>(cM P X gb ct n f inr b st).bind fun r=>
   match r.1 with
   | .exit i=>if i=id then .ok (.normal,r.2) else .ok r
   |_ => .ok r
  | .loop b=>(cM P X gb ct n f inr b st).bind fun r=>
   match r.1 with
   | .normal=>cM P X gb ct n f inr (.loop b) r.2
   |_ => .ok r
  | .scope b=>if inr then .fail 156 else cM P X gb ct n f inr b st
  | .exit id => .ok (.exit id,st)
  | .ret => .ok (.ret,st)
  | .region _ ops false=>(zN P X (bN gb) (fX P X gb ct (cM P X gb ct n)) ops ops.toList st).bind fun s => .ok (.normal,s)
  | .region _ ops true=>(aBS P X (bN gb) (fX P X gb ct (cM P X gb ct n)) ops st).bind fun s => .ok (.normal,s)
  | .rangeFunc g _ _ _=>vN gb (fX P X gb ct (cM P X gb ct n)) f inr g st
  |_ => .fail 132
def SV.isLit:SV→Bool
 | .int _ (.lit _)=>true
 | .bool (.lit _)=>true
 | .con _=>true
 |_=>false
def aFQ:SV→Value
 | .int k (.lit n) => .int k n
 | .bool (.lit b) => .bool b
 | .con v=>v
 |_=>undef
def WOk (gb:dF) (w:World):Prop:=∀ q,q ∈ gb→w.heap[q.1]?=some (.cells (q.2.1.map aFQ).toArray q.2.2 (0,0))
def eU (P:Program) (X:Ctx) (ρ:Nat→Int) (gb:dF) (f:FuncId) (g:Ctx→List SV→aM→Res (SV × aM)):Prop:=
 ∀ args σ s σ',g X args σ = .ok (s,σ')→∀ α w vals,RelW X.G ρ (bN gb) α σ w→SV.RL X.G ρ α args vals→
  fU P f∧Calls P f vals.toArray w (fun e w'=>∃ v α',e = .returned v∧SV.R X.G ρ α' s v∧RelW X.G ρ (bN gb) α' σ' w'∧Ext σ.length σ σ' α α' w w')
def aWD (P:Program) (X:Ctx) (ρ:Nat→Int) (gb:dF) (f:FuncId):CtE→Prop
 | .pure g=>∀ args s,g X args = .ok s→∀ α w vals,SV.RL X.G ρ α args vals→WOk gb w→
  fU P f∧Calls P f vals.toArray w (fun e w'=>∃ v,e = .returned v∧SV.R X.G ρ α s v∧Below w.heap.size w w')
 | .mem g=>eU P X ρ gb f g
def fF (P:Program) (X:Ctx) (ρ:Nat→Int) (gb:dF) (ct:bA):Prop:=
 ∀ f g,ct f=some g→aWD P X ρ gb f g
section
variable {P:Program} {X:Ctx} {ρ:Nat→Int} {gl:List (Nat × Nat)} {gb:dF} {ct:bA}
theorem qC {α:aV} {st:St} {a:Act} {w:World} (hr:RelSt mm X ρ gl α st a w):∀ {rs:List ResultVar} {l:List SV},kD P gl st rs=some l→
  ∃ vs:List Value,(rs.mapM fun (r:ResultVar)=>(match r with
   | .tmp t=>pure (a.tmps.getD t undef)
   | .cell b t=>do loadVar t (←asAddr (a.tmps.getD b undef)):Sem Value)).run P w = .ok vs w∧SV.RL X.G ρ α l vs
 |[],l,h=>by
  simp only[kD,Option.some.injEq]at h
  subst h
  exact⟨[],by simp,bC⟩
 | .tmp t::rs,l,h=>by
  simp only[kD]at h
  split at h
  ·rename_i r hr'
   cases h
   obtain⟨vs,h1,h2⟩:=qC hr hr'
   refine⟨a.tmps.getD t undef::vs,?_,aW (rF hr.tmps hr.mem.glob (.tmp t)) h2⟩
   simp only[List.mapM_cons,Sem.run_bind,Sem.run_pure,Result.andThen_ok,h1]
  ·cases h
 | .cell b t::rs,l,h=>by
  simp only[kD]at h
  split at h
  ·rename_i id off he
   have rx:=rF hr.tmps hr.mem.glob (.tmp b)
   rw[he]at rx
   simp only[SV.R,Act.eval]at rx
   obtain⟨k,hk,rx⟩:=rx
   split at h
   ·rename_i cs T hs
    obtain⟨k',us,q1,q2,q3⟩:=hr.mem.blk id cs T hs
    rw[hk]at q1;cases q1
    split at h
    ·cases h
    rename_i hT
    simp only[Bool.not_eq_false]at hT
    rw[cV hT]at q2
    replace q2:=q2.2
    split at h
    ·rename_i s r h3 h4
     cases h
     obtain⟨v,hv,rv⟩:=aAX (P:=P) h3 q2 q3
     obtain⟨vs,h1,h2⟩:=qC hr h4
     refine⟨v::vs,?_,aW rv h2⟩
     have ha:(asAddr (a.tmps.getD b undef)).run P w = .ok ⟨k.blk,off,none⟩ w:=by rw[rx];simp [asAddr]
     simp only[List.mapM_cons,Sem.run_bind,ha,Sem.run_pure,Result.andThen_ok,hv,h1]
    ·cases h
   ·cases h
  ·cases h
theorem aKb {α:aV} {l:List SV} {vs:List Value} (h:SV.RL X.G ρ α l vs):SV.R X.G ρ α (sK l) (if hs:vs.toArray.size=1 then vs.toArray[0] else .tuple vs.toArray):=by
 have hl:=bY h
 match l,vs,h with
 |[s],[v],h=>
  simp only[SV.RL]at h
  obtain⟨u,us,e,h1,_⟩:=h
  cases e
  exact h1
 |[],vs,h=>
  simp only[SV.RL]at h
  subst h
  simp only[sK,SV.R]
  exact⟨[],rfl,bC⟩
 |s::t::l,vs,h=>
  have:¬vs.toArray.size=1:=by simp at hl ⊢;omega
  rw[dif_neg this]
  simp only[sK,SV.R]
  exact⟨vs,rfl,h⟩
 |[s],[],h=>simp at hl
 |[s],_::_::_,h=>simp at hl
theorem zY:∀ {m h:aM} {i:Nat} {b:jD},aM.begins m h=true→m[i]?=some b→h[i]?=some b:=by
 intro m h i b hb hm
 have hlt:i<m.length:=by
  rcases Nat.lt_or_ge i m.length with q|q
  ·exact q
  ·rw[List.getElem?_eq_none q]at hm;cases hm
 have:=aM.begins_eq hb
 rw[←this,List.getElem?_take,if_pos hlt]at hm
 exact hm
theorem aJh {gb:dF} {i:Nat} {q:Nat × List SV × TypeId} (h:gb[i]?=some q):(q.1,i) ∈ bN gb:=by
 unfold bN
 exact List.mem_map.2 ⟨(q,i),List.mem_iff_getElem?.2 ⟨i,by simp [h]⟩,rfl⟩
theorem aWB {α:aV}:∀ {s:SV},s.isLit=true→SV.R X.G ρ α s (aFQ s)
 | .int k (.lit n),_=>by simp [SV.R,aFQ,E.den]
 | .bool (.lit b),_=>by simp [SV.R,aFQ,B.den]
 | .con v,_=>by simp [SV.R,aFQ]
 | .int _ (.var _),h=>by simp [SV.isLit]at h
 | .int _ (.op _ _ _),h=>by simp [SV.isLit]at h
 | .int _ (.wrap _ _),h=>by simp [SV.isLit]at h
 | .int _ (.bit _ _ _ _),h=>by simp [SV.isLit]at h
 | .int _ (.app _ _),h=>by simp [SV.isLit]at h
 | .bool (.cmp _ _ _),h=>by simp [SV.isLit]at h
 | .bool (.and _ _),h=>by simp [SV.isLit]at h
 | .bool (.or _ _),h=>by simp [SV.isLit]at h
 | .ptr _ _,h=>by simp [SV.isLit]at h
 | .slice _ _ _ _,h=>by simp [SV.isLit]at h
 | .agg _,h=>by simp [SV.isLit]at h
 | .tuple _,h=>by simp [SV.isLit]at h
 | .func _ _ _,h=>by simp [SV.isLit]at h
theorem aCc {α:aV}:∀ {l:List SV},l.all SV.isLit=true→SV.RL X.G ρ α l (l.map aFQ)
 |[],_=>bC
 |s::l,h=>by
  simp only[List.all_cons,Bool.and_eq_true]at h
  exact aW (aWB h.1) (aCc h.2)
theorem aKf:∀ {s:SV},s.isLit=true→s.sure=true:=by
 intro s h
 cases s<;>first|rfl|(simp [SV.isLit]at h)
theorem uW:∀ {l:List SV},l.all SV.isLit=true→SV.sureL l=true
 |[],_=>rfl
 |s::l,h=>by
  simp only[List.all_cons,Bool.and_eq_true]at h
  simp only[SV.sureL,Bool.and_eq_true]
  exact⟨aKf h.1,uW h.2⟩
def jN (gb:dF):Bool:=gb.all fun q=>fY q.2.2 && q.2.1.all SV.isLit
theorem aV9 {α:aV} {σ:aM} {w:World} (hW:RelW X.G ρ (bN gb) α σ w) (hb:aM.begins (jI gb) σ=true) (hf:jN gb=true):WOk gb w:=by
 intro q hq
 obtain⟨i,hi⟩:=List.mem_iff_getElem?.1 hq
 have hσ:σ[i]?=some (some q.2):=zY hb (by simp [jI,hi])
 obtain⟨b,vs,h1,h2,h3⟩:=hW.blk i q.2.1 q.2.2 hσ
 have hg:=hW.glob _ (aJh hi)
 simp only at hg
 rw[h1]at hg
 cases hg
 have hq2:=List.all_eq_true.1 hf q hq
 simp only[Bool.and_eq_true]at hq2
 have h2':=((cV hq2.1).1 h2).2
 simp only at h2'
 rw[h2',SV.RL_one _ _ _ (uW hq2.2) h3 (aCc hq2.2)]
def aCD (P:Program) (X:Ctx) (ρ:Nat→Int) (gl:List (Nat × Nat)) (run:FuncId→Bool→Code→St→Res (Ex × St)):Prop:=
 ∀ f inr c st e st',run f inr c st = .ok (e,st')→(∀ x,x ∈ bD c→bX P f=some x)→∀ (mm:Nat) (ro:Option Nat) (kk:Nat),ro.isSome=inr→∀ α a w Q,RelSt mm X ρ gl α st a w→(∀ a' w' α',RelSt mm X ρ gl α' st' a' w'→Ext st.heap.length st.heap st'.heap α α' w w'→Q e.toExit a' w')→c.wpIn (Fr ro) kk P Q a w
theorem oB {α:aV} {cs:List SV} {s s0:Int} {ts:List Value} (h:qW cs=some s) (r:SV.RL X.G ρ α cs (ts++[.int .i64 s0])):SV.RL X.G ρ α cs.dropLast ts∧s0=s:=by
 unfold qW at h
 split at h
 ·rename_i s' hl
  cases h
  obtain⟨hne,e⟩:=List.getLast?_eq_some_iff.1 hl
  subst e
  rw[List.dropLast_concat]
  have hlen:=bY r
  have key:∀ (l:List SV) (us:List Value),l.length=us.length→SV.RL X.G ρ α (l++[.int .i64 (.lit s)]) (us++[.int .i64 s0])→SV.RL X.G ρ α l us∧s0=s:=by
   intro l
   induction l with
   |nil=>
    intro us hu hr
    cases us with
    |nil=>
     simp only[List.nil_append,SV.RL]at hr
     obtain⟨v,vs',e1,e2,e3⟩:=hr
     simp only[SV.R,E.den]at e2
     cases e1
     cases e2
     exact⟨bC,rfl⟩
    |cons u us=>simp at hu
   |cons x l ih=>
    intro us hu hr
    cases us with
    |nil=>simp at hu
    |cons u us=>
     simp only[List.cons_append,SV.RL]at hr
     obtain⟨v,vs',e1,e2,e3⟩:=hr
     obtain⟨rfl,rfl⟩:=List.cons.inj e1
     obtain⟨g1,g2⟩:=ih us (by simpa using hu) e3
     exact⟨aW e2 g1,g2⟩
  exact key _ ts (by simp at hlen;omega) r
 ·cases h
theorem aG9 {α:aV}:∀ {ps:List Tmp} {args:List SV} {vals:List Value} {tm:List SV} {ts:Array Value},SV.RL X.G ρ α args vals→SV.RL X.G ρ α tm ts.toList→
  SV.RL X.G ρ α (xQ ps args tm) ((ps.zip vals).foldl (fun tmps (p:Tmp × Value)=>tmps.setIfInBounds p.1 p.2) ts).toList
 |[],args,vals,tm,ts,_,h=>by simpa [xQ]using h
 |p::ps,[],vals,tm,ts,ha,h=>by
  simp only[SV.RL]at ha
  subst ha
  simpa [xQ]using h
 |p::ps,a::args,vals,tm,ts,ha,h=>by
  simp only[SV.RL]at ha
  obtain⟨v,vs',rfl,h1,h2⟩:=ha
  simp only[xQ,List.zip_cons_cons,List.foldl_cons]
  exact aG9 h2 (by simpa using aCa p h h1)
theorem aBP {st:LoopState} {pe:Option Code} (h:aFA (-1) st pe):st = .ready∧pe=none:=by
 rcases h with⟨_,a,b⟩|⟨e,_⟩|⟨e,_⟩|⟨i,e,_⟩
 ·exact⟨a,b⟩
 ·omega
 ·omega
 ·omega
theorem aLO (hP:kT P) {run:FuncId→Bool→Code→St→Res (Ex × St)} (hrun:aCD P X ρ gl run) {L:Nat} {args:List SV} {σ σ':aM} {s:SV} (h:vQ P run L args σ = .ok (s,σ')) {α:aV} {w:World} {vals:List Value}
  (hW:RelW X.G ρ gl α σ w) (hv:SV.RL X.G ρ α args vals) {b:Loc} (hb:α L=some b) (k:Nat):YieldAt Fence.wide k P b.blk vals.toArray w (nD X ρ gl σ σ' α w s):=by
 unfold vQ at h
 split at h
 case h_2=>cases h
 rename_i cs T hs
 split at h
 case isFalse=>cases h
 rename_i hT
 simp only[Bool.and_eq_true,decide_eq_true_eq]at hT
 obtain⟨fi,hfi,hlt⟩:∃ fi:Nat,T=bL+fi∧fi<100000:=⟨T-bL,by have:=hT.1;have:=hT.2;simp only[TypeId]at *;omega,by have:=hT.1;have:=hT.2;simp only[TypeId]at *;omega⟩
 subst hfi
 rw[show bL+fi-bL=fi from Nat.add_sub_cancel_left _ _]at h
 split at h
 case h_2=>cases h
 rename_i ps asg body s0 hlc hli
 split at h
 case isFalse=>cases h
 rename_i hc
 simp only[Bool.and_eq_true,decide_eq_true_eq,List.isEmpty_iff]at hc
 obtain⟨⟨⟨rfl,hps⟩,hra⟩,hrb⟩:=hc
 simp only[cQ]at h
 obtain⟨r1,h1,h⟩:=Res.bind_ok h
 obtain⟨e1,st1⟩:=r1
 simp only at h
 split at h
 case h_2=>cases h
 rename_i c1 T1 hs1
 split at h
 case isFalse=>cases h
 rename_i hc1
 simp only[Bool.and_eq_true,decide_eq_true_eq]at hc1
 obtain⟨rfl,hl1⟩:=hc1
 obtain⟨r2,h2,h⟩:=Res.bind_ok h
 obtain⟨e2,st2⟩:=r2
 simp only at h
 split at h
 case h_2=>cases h
 rename_i c2 T2 hs2
 split at h
 case isFalse=>cases h
 rename_i hc2
 simp only[Bool.and_eq_true,decide_eq_true_eq]at hc2
 obtain⟨rfl,hl2⟩:=hc2
 cases h
 
 obtain⟨b',vs,q1,q2,q3⟩:=hW.blk L cs _ hs
 rw[hb]at q1;cases q1
 obtain⟨hnil,r,c,s0,hr,hcode,hpar,hasg,hbody,hvs,hat⟩:=(iA hlt).1 q2
 rw[←hP.2 fi,hlc]at hcode
 cases hcode
 subst hvs
 obtain⟨t1,t2⟩:=oB hli q3
 have hlen:=bY hv
 refine⟨r.fn,_,r.assign,r.body,run_yield hr (by rw[hpar];simp [hps,hlen]),roundIn_of_wpIn trivial ?_⟩
 rw[hasg,hbody]
 have hst:RelSt 0 X ρ gl α ⟨xQ ps.toList args cs.dropLast,σ⟩ { tmps:=(r.params.zip vals.toArray).foldl (fun tmps (p:Tmp × Value)=>tmps.setIfInBounds p.1 p.2) r.tmps,defers:=[] } w:=by
  refine⟨?_,iK.nil (Nat.zero_le _),hW⟩
  have:=aG9 (ps:=ps.toList) (ts:=r.tmps) hv t1
  rw[hpar]
  have e:((ps.zip vals.toArray).foldl (fun tmps (p:Tmp × Value)=>tmps.setIfInBounds p.1 p.2) r.tmps)=((ps.toList.zip vals).foldl (fun tmps (p:Tmp × Value)=>tmps.setIfInBounds p.1 p.2) r.tmps):=by
   rw[←Array.foldl_toList]
   simp
  simp only
  rw[e]
  exact this
 refine hrun fi true asg _ .normal st1 h1 (by rw[hra];simp) 0 (some b.blk) k rfl α _ w _ hst ?_
 intro a1 w1 α1 hr1 hx1
 simp only[Ex.toExit,Exit.then]
 obtain⟨b1,vs1,p1,p2,p3⟩:=hr1.mem.blk L c1 _ hs1
 have hb1:=hx1.mono L b hb
 rw[hb1]at p1;cases p1
 obtain⟨_,r1,c',s1,hr1',hcode1,hpar1,hasg1,hbody1,hvs1,hat1⟩:=(iA hlt).1 p2
 subst hvs1
 obtain⟨u1,u2⟩:=oB hl1 p3
 subst u2
 obtain⟨v1,v2⟩:=aBP hat1
 refine⟨_,run_beginRound hr1' v1,?_⟩
 have hbs:b.blk<w1.heap.size:=(Array.getElem?_eq_some_iff.1 hr1').1
 obtain⟨g1,g2⟩:=jH (w':=w1.putObj b.blk (.loop { r1 with state := .busy })) (cs':=c1.dropLast++[cY (-2)]) (vs':=r1.tmps.toList++[.int .i64 (-2)]) hr1.mem hs1 (xD hlt) hb1 hnil rfl rfl rfl (by simp) (fun k hk=>World.putObj_heap_other hk)
  ((iA hlt).2 ⟨hnil,{ r1 with state := .busy },c',-2,World.putObj_heap_same hbs,hcode1,hpar1,hasg1,hbody1,rfl,.inr (.inl ⟨rfl,rfl,v2⟩)⟩) (dK u1 (aW (by simp only[cY,SV.R,E.den]) bC))
 refine hrun fi true body _ e2 st2 h2 (by rw[hrb];simp) 0 (some b.blk) k rfl α1 a1 _ (roundPost P b.blk _) ⟨hr1.tmps,hr1.defers.next g2,g1⟩ ?_
 intro a3 w3 α3 hr3 hx3
 obtain⟨b3,vs3,p31,p32,p33⟩:=hr3.mem.blk L c2 _ hs2
 have hb3:=hx3.mono L b hb1
 rw[hb3]at p31;cases p31
 obtain⟨_,r3,c3,s3,hr3',hcode3,hpar3,hasg3,hbody3,hvs3,hat3⟩:=(iA hlt).1 p32
 subst hvs3
 obtain⟨s2,hs2'⟩:=Option.isSome_iff_exists.1 hl2
 obtain⟨u31,_⟩:=oB hs2' p33
 have hbs3:b.blk<w3.heap.size:=(Array.getElem?_eq_some_iff.1 hr3').1
 have fin:∀ jump:Option Code,aFA e2.cell (if jump.isNone then .ready else .done) jump→jump.isNone=e2.goes→
   ∃ v w',(Instr.endRound b.blk jump).run P w3 = .ok v w'∧nD X ρ gl σ (st2.heap.set L (some (c2.dropLast++[cY e2.cell],bL+fi))) α w (.bool (.lit e2.goes)) (.returned v) w':=by
  intro jump hla hj
  obtain⟨z1,z2⟩:=jH (w':=w3.putObj b.blk (.loop { r3 with state:=if jump.isNone then .ready else .done,pending:=jump })) (cs':=c2.dropLast++[cY e2.cell]) (vs':=r3.tmps.toList++[.int .i64 e2.cell]) hr3.mem hs2 (xD hlt) hb3 hnil rfl rfl rfl (by simp) (fun k hk=>World.putObj_heap_other hk)
   ((iA hlt).2 ⟨hnil,{ r3 with state:=if jump.isNone then .ready else .done,pending:=jump },c3,e2.cell,World.putObj_heap_same hbs3,hcode3,hpar3,hasg3,hbody3,rfl,hla⟩) (dK u31 (aW (by simp only[cY,SV.R,E.den]) bC))
  refine⟨_,_,run_endRound jump hr3',_,α3,rfl,by simp only[SV.R,B.den];rw[hj],z1,?_⟩
  exact((hx1.trans g2 hx1.len).trans hx3 (Nat.le_trans hx1.len g2.len)).trans z2 (Nat.le_trans (Nat.le_trans hx1.len g2.len) hx3.len)
 cases e2 with
 |normal=>exact fin none (.inl ⟨rfl,rfl,rfl⟩) rfl
 |ret=>exact fin (some .ret) (.inr (.inr (.inl ⟨rfl,rfl,rfl⟩))) rfl
 |exit i=>exact fin (some (.exit i)) (.inr (.inr (.inr ⟨i,rfl,rfl,rfl⟩))) rfl
theorem aLu {α:aV} {σ:aM} {w:World} {D:Nat} {o:Obj} (hW:RelW X.G ρ gl α σ w) (hD:oQ α σ D) (hO:∃ q,w.heap[D]?=some (.deferred q)):RelW X.G ρ gl α σ (w.putObj D o):=by
 refine⟨fun id b e=>by have:=hW.dom id b e;simpa using this,hW.inj,?_,hW.glob,hW.view⟩
 intro id cs T e
 obtain⟨b,vs,h1,h2,h3⟩:=hW.blk id cs T e
 refine⟨b,vs,h1,h2.of_eq (fun hn=>World.putObj_heap_other (fun hk=>?_)),h3⟩
 cases hT:vw T
 ·exact hD id b h1 hn hk ⟨_,e,hT⟩
 ·obtain⟨q,hq⟩:=hO
  obtain⟨c,wd,ex,_,_,h4⟩:=(gZ hT).1 h2
  rcases h4 with⟨h4,_⟩|⟨_,cs',T',fz,h4,_⟩
  ·rw[hn]at h4;cases h4
  ·rw[hk,hq]at h4;cases h4
theorem tB {fn:Func} {tmps:Array Value} {R:Ending→World→Prop} {α0 α:aV} {σ σe:aM} {w:World} (hR:∀ w',RelW X.G ρ gl α σe w'→Ext σ.length σ σe α0 α w w'→∃ v,(results fn tmps).run P w' = .ok v w'∧R (.returned v) w'):
  ∀ (ds:List Deferred) (w':World),iK w.heap.size α σe ds w'→RelW X.G ρ gl α σe w'→Ext σ.length σ σe α0 α w w'→LeavesInM Fence.wide 0 P fn tmps R ds .returning w'
 |[],w',_,hW,hx=>hR w' hW hx
 |d::ds,w',hd,hW,hx=>by
  obtain⟨hsz,hnd,hall⟩:=hd
  obtain⟨D,h0,h1,h2,h3⟩:=hall d (by simp)
  have hnd':=List.nodup_cons.1 hnd
  refine⟨by simp,.inl ⟨D,w'.putObj D (.deferred none),by rw[h1],run_takeDeferred h2,tB hR ds _ ⟨by simpa using hsz,hnd'.2,fun d' hd'=>?_⟩ (aLu hW h3 ⟨_,h2⟩) ?_⟩⟩
  ·obtain⟨D',g0,g1,g2,g3⟩:=hall d' (by simp [hd'])
   refine⟨D',g0,g1,?_,g3⟩
   have hne:D'≠D:=fun e=>hnd'.1 (by rw[h1,←e,←g1];exact hd')
   rw[World.putObj_heap_other hne];exact g2
  ·refine⟨hx.os,hx.tape,hx.output,by simpa using hx.size,hx.len,hx.mono,hx.fresh,?_,hx.mask⟩
   intro k hk hh
   rw[World.putObj_heap_other (by omega)]
   exact hx.hid k hk hh
theorem aAV (hfl:jN gb=true) {run:FuncId→Bool→Code→St→Res (Ex × St)} (hrun:aCD P X ρ (bN gb) run) {f:FuncId} {args:List SV} {σ σ':aM} {s:SV} (h:rO P X gb run f args σ = .ok (s,σ')) {α:aV} {w:World} {vals:List Value}
  (hW:RelW X.G ρ (bN gb) α σ w) (hv:SV.RL X.G ρ α args vals):fU P f∧Calls P f vals.toArray w (nD X ρ (bN gb) σ σ' α w s):=by
 unfold rO at h
 simp only[cQ]at h
 split at h
 ·rename_i fn hfn
  split at h
  ·rename_i c hc
   split at h
   ·cases h
   ·rename_i hname
    split at h
    ·cases h
    rename_i hrg
    simp only[decide_eq_true_eq]at hrg
    have hranges:∀ x,x ∈ bD c→bX P f=some x:=by
     intro x hx
     unfold bX
     rw[hfn]
     simp only[Option.bind_some,hc]
     match hl:bD c,hx,hrg with
     |[],hx,_=>cases hx
     |[y],hx,_=>simp only[List.mem_cons,List.mem_nil_iff,or_false]at hx;rw[hx];rfl
     |y::z::l,_,hrg=>exact absurd (by simp) hrg
    obtain⟨r,h1,h⟩:=Res.bind_ok h
    obtain⟨e,st'⟩:=r
    refine⟨⟨fn,hfn,by simpa using hname,by simp [hc]⟩,?_⟩
    have hlen:=bY hv
    refine callsIn_wide.1 (callsIn_of_wp_marks (F:=Fence.wide) (n:=0) hfn hc trivial ?_ rfl)
    have hst:RelSt w.heap.size X ρ (bN gb) α ⟨args++List.replicate (fn.ntmps-args.length) (.tuple []),σ⟩ { tmps:=vals.toArray++Array.replicate (fn.ntmps-vals.toArray.size) undef,defers:=[] } w:=by
     refine⟨?_,iK.nil (Nat.le_refl _),hW⟩
     have:=dK hv (tZ (G:=X.G) (ρ:=ρ) (α:=α) (s := .tuple []) (v:=undef) (by simp only[SV.R];exact⟨[],rfl,bC⟩) (fn.ntmps-args.length))
     simpa [hlen]using this
    refine hrun f false c _ e st' h1 hranges w.heap.size none 0 rfl α _ w _ hst ?_
    intro a' w' α' hr' hx'
    simp only at h hx'
    have done:∀ l:List SV,kD P (bN gb) st' fn.results.toList=some l→((if ((sK l).ubd σ.length && SV.ubdH σ.length (st'.heap.take σ.length) && (bN gb).all (fun p=>decide (p.2<σ.length)))=true then (.ok (sK l,st'.heap.take σ.length):Res (SV × aM)) else .ok (sK l,st'.heap)) = .ok (s,σ'))→
      LeavesInM Fence.wide 0 P fn a'.tmps (nD X ρ (bN gb) σ σ' α w s) a'.defers .returning w':=by
     intro l hl hh
     refine tB (X:=X) (ρ:=ρ) (gl:=bN gb) (α0:=α) (α:=α') (σ:=σ) (σe:=st'.heap) (w:=w) ?_ a'.defers w' hr'.defers hr'.mem hx'
     intro w2 hm2 hx2
     have hr2:RelSt 0 X ρ (bN gb) α' st' { tmps:=a'.tmps,defers:=[] } w2:=⟨hr'.tmps,iK.nil (Nat.zero_le _),hm2⟩
     obtain⟨vs,g1,g2⟩:=qC (P:=P) hr2 hl
     refine⟨(if hs:vs.toArray.size=1 then vs.toArray[0] else .tuple vs.toArray),?_,?_⟩
     ·unfold results
      rw[Array.mapM_eq_mapM_toList]
      simp only[map_eq_pure_bind,Sem.run_bind,Sem.run_pure]
      erw [g1]
      simp only[Result.andThen_ok]
     ·have rt:=aKb g2
      split at hh
      ·rename_i hg
       simp only[Bool.and_eq_true,List.all_eq_true,decide_eq_true_eq]at hg
       obtain⟨⟨b1,b2⟩,b3⟩:=hg
       cases hh
       have hle:σ.length≤st'.heap.length:=hx2.len
       have htl:(st'.heap.take σ.length).length=σ.length:=by simp;omega
       have hpart:aCv (st'.heap.take σ.length) st'.heap:=⟨by omega,fun id hid => .inl (by rw[List.getElem?_take,if_pos (by omega)])⟩
       have hp:=hm2.part hpart (by rw[htl];exact b2) (fun p hp=>by rw[htl];exact b3 p hp)
       rw[htl]at hp
       refine⟨_,aCu σ.length α',rfl,SV.R_agree σ.length (fun id b hid e=>qR e hid) _ _ b1 rt,hp,?_⟩
       refine⟨hx2.os,hx2.tape,hx2.output,hx2.size,by omega,fun id b e=>qR (hx2.mono id b e) (hW.dom id b e).1,fun id b e=>hx2.fresh id b (gI e).2,hx2.hid,?_⟩
       intro id b e hv
       refine hx2.mask id b e ?_
       unfold jT at hv ⊢
       rwa [List.getElem?_take,if_pos (hW.dom id b e).1]at hv
      ·cases hh
       exact⟨_,α',rfl,rt,hm2,hx2⟩
    cases e with
    |exit id=>cases h
    |normal=>
     simp only at h
     split at h
     ·exact done _ ‹_› h
     ·cases h
    |ret=>
     simp only at h
     split at h
     ·exact done _ ‹_› h
     ·cases h
  ·cases h
 ·cases h
theorem qB (hP:kT P) (hct:fF P X ρ gb ct) (hfl:jN gb=true) {run:FuncId→Bool→Code→St→Res (Ex × St)} (hrun:aCD P X ρ (bN gb) run):
  HOk P X ρ (bN gb) (fX P X gb ct run):=by
 intro f args σ s σ' h α w vals hW hv
 unfold fX at h
 simp only[cQ]at h
 by_cases hY:YB≤f
 ·rw[if_pos (by simpa using hY)]at h
  refine⟨fun hf=>absurd hY (Nat.not_le.2 hf),fun L b hL hb k=>?_⟩
  have e:f-YB=L:=by rw[hL];exact Nat.add_sub_cancel_left _ _
  rw[e]at h
  exact aLO hP hrun h hW hv hb k
 rw[if_neg (by simpa using hY)]at h
 refine⟨fun _=>?_,fun L b hL=>absurd (by rw[hL];exact Nat.le_add_right _ _) hY⟩
 split at h
 ·rename_i g hg
  split at h
  case isFalse=>cases h
  rename_i hbeg
  obtain⟨s1,h1,h⟩:=Res.bind_ok h
  cases h
  obtain⟨hk,hc⟩:=hct f _ hg args _ h1 α w vals hv (aV9 hW hbeg hfl)
  refine⟨hk,hc.mono ?_⟩
  rintro e w' ⟨v,rfl,rv,hb⟩
  refine⟨v,α,rfl,rv,⟨fun id b e=>⟨(hW.dom id b e).1,(hW.dom id b e).2.imp (fun x=>x) (fun x=>Nat.lt_of_lt_of_le x hb.size)⟩,hW.inj,?_,hW.glob,hW.view⟩,⟨hb.os,hb.tape,hb.output,hb.size,Nat.le_refl _,fun _ _ e=>e,fun _ _ e => .inl e,fun b hb' _=>hb.block b hb',fun _ _ _ e=>e⟩⟩
  intro id cs T e
  obtain⟨b,vs,q1,q2,q3⟩:=hW.blk id cs T e
  refine⟨b,vs,q1,q2.of_eq fun hnil=>hb.block b.blk ?_,q3⟩
  rcases(hW.dom id b q1).2 with q|q
  ·rw[hnil]at q;cases q
  ·exact q
 ·rename_i g hg
  split at h
  ·exact aAV hfl hrun h hW hv
  ·exact hct f _ hg args σ s σ' h α w vals hW hv
 ·exact aAV hfl hrun h hW hv
end
section
variable {P:Program} {X:Ctx} {ρ:Nat→Int} {gl:List (Nat × Nat)} {gb:dF} {ct:bA}
theorem aB6 {α:aV} {σ:aM} {w:World} (o:Obj) (hW:RelW X.G ρ gl α σ w):RelW X.G ρ gl α σ (w.alloc o)∧Ext σ.length σ σ α α w (w.alloc o):=by
 have hs:(w.alloc o).heap.size=w.heap.size+1:=by simp
 have hg:∀ k,k<w.heap.size→(w.alloc o).heap[k]?=w.heap[k]?:=fun k hk=>by
  show (w.heap.push o)[k]?=w.heap[k]?
  rw[Array.getElem?_push,if_neg (by omega)]
 refine⟨⟨fun id b e=>⟨(hW.dom id b e).1,(hW.dom id b e).2.imp (fun x=>x) (fun x=>by omega)⟩,hW.inj,?_,hW.glob,hW.view⟩,⟨rfl,rfl,rfl,by omega,Nat.le_refl _,fun _ _ e=>e,fun _ _ e => .inl e,fun k hk _=>hg k hk,fun _ _ _ e=>e⟩⟩
 intro id cs T e
 obtain⟨b,vs,h1,h2,h3⟩:=hW.blk id cs T e
 refine⟨b,vs,h1,h2.of_eq (fun hn=>hg _ ?_),h3⟩
 rcases(hW.dom id b h1).2 with q|q
 ·rw[hn]at q;cases q
 ·exact q
set_option maxHeartbeats 1000000 in
theorem aJQ (hP:kT P) {h:bQ} (hh:HOk P X ρ (bN gb) h) {f:FuncId} {inr:Bool} {g:Operand} {ps:Array Tmp} {x y:Code} {st st':St} {e:Ex} (hr:vN gb h f inr g st = .ok (e,st')) (hloop:bX P f=some (ps,x,y))
  {mm:Nat} {ro:Option Nat} {kk:Nat} (hro:ro.isSome=inr) {α:aV} {a:Act} {w:World} {Q:Exit→Act→World→Prop} (hst:RelSt mm X ρ (bN gb) α st a w)
  (hQ:∀ a' w' α',RelSt mm X ρ (bN gb) α' st' a' w'→Ext st.heap.length st.heap st'.heap α α' w w'→Q e.toExit a' w'):(Code.rangeFunc g ps x y).wpIn (Fr ro) kk P Q a w:=by
 unfold vN at hr
 split at hr
 ·cases hr
 rename_i hinr
 have hro':ro=none:=by
  cases ro with
  |none=>rfl
  |some l=>exact absurd hro.symm hinr
 subst hro'
 split at hr
 case h_2=>cases hr
 rename_i gf first captured hg
 split at hr
 case isFalse=>cases hr
 rename_i hc
 simp only[Bool.and_eq_true,decide_eq_true_eq]at hc
 obtain⟨hgf,hf⟩:=hc
 obtain⟨r,h1,hr⟩:=Res.bind_ok hr
 obtain⟨s0,σ2⟩:=r
 simp only at hr
 split at hr
 case h_2=>cases hr
 rename_i cs T hcs
 split at hr
 case h_2=>cases hr
 rename_i s hls
 split at hr
 case isFalse=>cases hr
 rename_i hT
 simp only[Bool.and_eq_true,decide_eq_true_eq]at hT
 obtain⟨rfl,hs1⟩:=hT
 cases hr
 have hcode:aAh f=some (ps,x,y):=by rw[←hP.2 f];exact hloop
 have rg:=rF hst.tmps hst.mem.glob g
 rw[hg]at rg
 simp only[SV.R]at rg
 obtain⟨fs,cap,hgv,rf,rc⟩:=rg
 refine wpIn_rangeFunc ?_
 intro fn _
 have henter:=run_enterLoop_outer (P:=P) (w:=w) fn a.tmps ps x y
 obtain⟨b1,b2⟩:=aB6 (.deferred (some [])) hst.mem
 have hsz:(w.alloc (.deferred (some []))).heap.size=w.heap.size+1:=by simp
 obtain⟨rec0,hrec0⟩:∃ r:Loop,r={ state := .ready,pending:=none,fn:=fn,tmps:=a.tmps,params:=ps,assign:=x,body:=y,defers:=w.heap.size }:=⟨_,rfl⟩
 rw[←hrec0]at henter
 have hcells:SV.RL X.G ρ α (st.tmps++[cY (-1)]) (a.tmps.toList++[.int .i64 (-1)]):=dK hst.tmps (aW (by simp only[cY,SV.R,E.den]) bC)
 have hob:eN ⟨(w.alloc (.deferred (some []))).heap.size,0,false,0⟩ (some (.loop rec0)) (a.tmps.toList++[.int .i64 (-1)]) (bL+f):=
  (iA hf).2 ⟨rfl,rec0,(ps,x,y),-1,rfl,hcode,by rw[hrec0],by rw[hrec0],by rw[hrec0],by rw[hrec0],.inl ⟨rfl,by rw[hrec0],by rw[hrec0]⟩⟩
 obtain⟨α1,c1,c2,c3⟩:=uV _ _ hob b1 hcells
 have hext1:=b2.trans c3 (Nat.le_refl _)
 
 have hd1:iK mm α1 (st.heap++[some (st.tmps++[cY (-1)],bL+f)]) ({ target := .collected w.heap.size,args:=#[] }::a.defers) ((w.alloc (.deferred (some []))).alloc (.loop rec0)):=by
  have hold:=hst.defers.next hext1
  obtain⟨z0,z1,z2⟩:=hst.defers
  refine⟨hold.1,List.nodup_cons.2 ⟨fun hin=>?_,hold.2.1⟩,fun d hd=>?_⟩
  ·obtain⟨D,y0,y1,y2,y3⟩:=z2 _ hin
   have:w.heap.size=D:=by have:=congrArg Deferred.target y1;simpa using this
   have:=(Array.getElem?_eq_some_iff.1 y2).1
   omega
  ·rcases List.mem_cons.1 hd with rfl|hd
   ·refine⟨w.heap.size,z0,rfl,?_,?_⟩
    ·have e1:((w.alloc (.deferred (some []))).alloc (.loop rec0)).heap[w.heap.size]?=(w.alloc (.deferred (some []))).heap[w.heap.size]?:=by
      show ((w.alloc (.deferred (some []))).heap.push _)[w.heap.size]?=_
      rw[Array.getElem?_push,if_neg (by omega)]
     rw[e1];exact World.alloc_heap_new w _
    ·intro id b hb hn hk _
     have hdom:=(c2.dom id b hb).1
     simp only[List.length_append,List.length_cons,List.length_nil]at hdom
     rcases c3.fresh id b hb with q|⟨q,_⟩
     ·rcases(hst.mem.dom id b q).2 with q|q
      ·rw[hn]at q;cases q
      ·omega
     ·have hid:id=st.heap.length:=by omega
      subst hid
      rw[c1]at hb
      cases hb
      simp only[hsz]at hk
      omega
   ·exact hold.2.2 d hd
 have hargs:SV.RL X.G ρ α1 (first++[.yld st.heap.length]++captured) (fs++[.func (.yield (w.heap.size+1)) #[] #[]]++cap):=
  dK (dK (SV.RL_mono hext1.mono _ _ rf) (aW (by simp only[SV.R];exact⟨_,c1,by rw[hsz]⟩) bC)) (SV.RL_mono hext1.mono _ _ rc)
 obtain⟨⟨fn',k1,k2,k3⟩,hcall⟩:=(hh gf _ _ _ _ h1 α1 _ _ c2 hargs).1 hgf
 obtain⟨W1,hW1⟩:∃ W1,W1=(w.alloc (.deferred (some []))).alloc (.loop rec0):=⟨_,rfl⟩
 rw[←hW1]at henter hd1 hcall c2 c3 hext1
 have k2' : ¬ fn'.name = "runtime.NumGoroutine" := by simpa using k2
 have k3':¬fn'.body=none:=by intro e;rw[e]at k3;cases k3
 have hresolve:(resolve a.eval (rangeCall g (w.heap.size+1)) 0).run P W1 = .ok { target := .fn (.func gf) cap.toArray,args:=(fs++[Value.func (.yield (w.heap.size+1)) #[] #[]]).toArray } W1:=by
  simp [resolve,hgv,rangeCall,Deferred.ofValue]
  rfl
 have hinvoke:(invoke (.fn (.func gf) cap.toArray) (fs++[Value.func (.yield (w.heap.size+1)) #[] #[]]).toArray).run P W1 = .ok (.enter gf (fs++[Value.func (.yield (w.heap.size+1)) #[] #[]]++cap).toArray) W1:=by
  simp [invoke,callFunc,k1,k2',k3']
 refine⟨w.heap.size+1,[{ target := .collected w.heap.size,args:=#[] }],W1,_,W1,gf,_,W1,henter,hresolve,fun _ _=>trivial,hinvoke,(fun hq=>by cases hq),?_⟩
 refine aBW none (kk-1) (hcall.mono ?_)
 rintro en w3 ⟨v,α3,rfl,r1,r2,r3⟩
 obtain⟨b3,vs3,p1,p2,p3⟩:=r2.blk _ cs _ hcs
 have hb3:=r3.mono _ _ c1
 rw[hb3]at p1;cases p1
 obtain⟨hnil,rr,cc,s3,hrr,_,_,_,_,hvs3,hat⟩:=(iA hf).1 p2
 subst hvs3
 obtain⟨_,hs3⟩:=oB hls p3
 subst hs3
 simp only[hsz]at hrr hb3
 have hbusy:rr.state ≠ .busy:=by
  rcases hat with⟨_,q,_⟩|⟨q,_⟩|⟨_,q,_⟩|⟨_,_,q,_⟩
  ·rw[q];simp
  ·omega
  ·rw[q];simp
  ·rw[q];simp
 have hend:=run_endLoop (P:=P) hrr hbusy
 
 have vis0:∀ i,jT (σ2.set st.heap.length none) i→jT σ2 i∧i≠st.heap.length:=by
  intro i ⟨q,hq,hv⟩
  have hne:i≠st.heap.length:=by
   rintro rfl
   rw[List.getElem?_set_self (List.getElem?_eq_some_iff.1 hcs).1]at hq
   cases hq
  rw[List.getElem?_set_ne (fun q=>hne q.symm)]at hq
  exact⟨⟨q,hq,hv⟩,hne⟩
 have hW4:RelW X.G ρ (bN gb) α3 (σ2.set st.heap.length none) (w3.putObj (w.heap.size+1) (.loop { rr with state := .exhausted })):=by
  refine⟨fun id b hb=>by have:=r2.dom id b hb;simpa using this,fun i j b c hi hj hb hc hbc vi vj=>r2.inj i j b c hi hj hb hc hbc (vis0 i vi).1 (vis0 j vj).1,?_,r2.glob,?_⟩
  ·intro id ds U hU
   have hne:id≠st.heap.length:=by
    rintro rfl
    rw[List.getElem?_set_self (List.getElem?_eq_some_iff.1 hcs).1]at hU
    cases hU
   rw[List.getElem?_set_ne (fun q=>hne q.symm)]at hU
   obtain⟨b,us,g1,g2,g3⟩:=r2.blk id ds U hU
   refine⟨b,us,g1,g2.of_eq (fun hn=>World.putObj_heap_other (fun hk=>hne ?_)),g3⟩
   exact(r2.only hU g1 hb3 hn rfl (by rw[hk]) ⟨_,hcs,xD hf⟩).symm
  ·intro id ds U b hU hT ei hb j d ej hd hk vj
   have hne:id≠st.heap.length:=by
    rintro rfl
    rw[List.getElem?_set_self (List.getElem?_eq_some_iff.1 hcs).1]at hU
    cases hU
   rw[List.getElem?_set_ne (fun q=>hne q.symm)]at hU
   exact r2.view id ds U b hU hT ei hb j d ej hd hk (vis0 j vj).1
 have hx4:Ext σ2.length σ2 (σ2.set st.heap.length none) α3 α3 w3 (w3.putObj (w.heap.size+1) (.loop { rr with state := .exhausted })):=by
  refine⟨rfl,rfl,rfl,by simp,by simp,fun _ _ hb=>hb,fun _ _ hb => .inl hb,fun k hk hh'=>?_,fun i b _ hv=>(vis0 i hv).1⟩
  exact World.putObj_heap_other (fun hk'=>hh' _ _ hb3 rfl hk'.symm ⟨_,hcs,xD hf⟩)
 have hl1:st.heap.length≤(st.heap++[some (st.tmps++[cY (-1)],bL+f)]).length:=by simp
 have hxx:=(hext1.trans r3 hl1).trans hx4 (Nat.le_trans hl1 r3.len)
 have hst4:RelSt mm X ρ (bN gb) α3 ⟨st.tmps,σ2.set st.heap.length none⟩ { a with defers:={ target := .collected w.heap.size,args:=#[] }::a.defers } (w3.putObj (w.heap.size+1) (.loop { rr with state := .exhausted })):=
  ⟨SV.RL_mono (fun id b hb=>r3.mono _ _ (hext1.mono _ _ hb)) _ _ hst.tmps,(hd1.next r3).next hx4,hW4⟩
 have hfin:=hQ _ _ α3 hst4 hxx
 generalize w3.putObj (w.heap.size+1) (.loop { rr with state := .exhausted })=Wf at hend hfin
 refine⟨rr.pending,Wf,hend,?_⟩
 rcases hat with⟨q0,_,q⟩|⟨q0,_⟩|⟨q0,_,q⟩|⟨i,q0,_,q⟩
 ·rw[q]
  rw[if_pos q0]at hfin
  exact hfin
 ·omega
 ·rw[q]
  rw[if_neg (by omega),if_pos q0]at hfin
  exact wpIn_ret hfin
 ·rw[q]
  rw[if_neg (by omega),if_neg (by omega),show (s3-1).toNat=i by omega]at hfin
  exact wpIn_exit hfin
theorem vE (hX:X.Ok ρ) (hct:fF P X ρ gb ct) (hfl:jN gb=true) (hm:kT P):∀ n:Nat,aCD P X ρ (bN gb) (cM P X gb ct n)∧
  (∀ f inr b st e st',cM P X gb ct n f inr (.loop b) st = .ok (e,st')→(∀ x,x ∈ bD b→bX P f=some x)→∀ (mm:Nat) (ro:Option Nat) (kk:Nat),ro.isSome=inr→∀ α a w Q,RelSt mm X ρ (bN gb) α st a w→(∀ a' w' α',RelSt mm X ρ (bN gb) α' st' a' w'→Ext st.heap.length st.heap st'.heap α α' w w'→Q e.toExit a' w')→Code.roundsIn (Fr ro) kk P b Q n a w)
 |0=>⟨fun f inr c st e st' h=>by simp [cM]at h,fun f inr b st e st' h=>by simp [cM]at h⟩
 |n+1=>by
  obtain⟨ih,ihl⟩:=vE hX hct hfl hm n
  have hh:HOk P X ρ (bN gb) (fX P X gb ct (cM P X gb ct n)):=qB hm hct hfl ih
  have loop:∀ f inr b st e st',cM P X gb ct (n+1) f inr (.loop b) st = .ok (e,st')→(∀ x,x ∈ bD b→bX P f=some x)→∀ (mm:Nat) (ro:Option Nat) (kk:Nat),ro.isSome=inr→∀ α a w Q,RelSt mm X ρ (bN gb) α st a w→(∀ a' w' α',RelSt mm X ρ (bN gb) α' st' a' w'→Ext st.heap.length st.heap st'.heap α α' w w'→Q e.toExit a' w')→Code.roundsIn (Fr ro) kk P b Q (n+1) a w:=by
   intro f inr b st e st' h hrg mm ro kk hro α a w Q hr hQ
   unfold cM at h
   simp only at h
   obtain⟨r,h1,h⟩:=Res.bind_ok h
   obtain⟨e1,s1⟩:=r
   rw[roundsIn_succ]
   refine ih f inr b st e1 s1 h1 hrg mm ro kk hro α a w _ hr ?_
   intro a1 w1 α1 r1 x1
   cases e1 with
   |normal=>
    simp only at h
    simp only[Ex.toExit,Exit.then]
    exact ihl f inr b s1 e st' h hrg mm ro kk hro α1 a1 w1 Q r1 (fun a' w' α' r2 x2=>hQ a' w' α' r2 (x1.trans x2 x1.len))
   |exit id=>
    cases h
    exact hQ a1 w1 α1 r1 x1
   |ret=>
    cases h
    exact hQ a1 w1 α1 r1 x1
  refine⟨?_,loop⟩
  intro f inr c st e st' h hrg mm ro kk hro α a w Q hr hQ
  cases c with
  |skip=>
   simp only[cM]at h
   cases h
   exact wpIn_skip (hQ a w α hr (Ext.refl _ _ _ _))
  |label l=>
   simp only[cM]at h
   cases h
   exact wpIn_label (hQ a w α hr (Ext.refl _ _ _ _))
  |seq x y=>
   simp only[cM]at h
   obtain⟨r,h1,h⟩:=Res.bind_ok h
   obtain⟨e1,s1⟩:=r
   have rx:∀ z,z ∈ bD x→bX P f=some z:=fun z hz=>hrg z (List.mem_append_left _ hz)
   have ry:∀ z,z ∈ bD y→bX P f=some z:=fun z hz=>hrg z (List.mem_append_right _ hz)
   refine wpIn_seq (ih f inr x st e1 s1 h1 rx mm ro kk hro α a w _ hr ?_)
   intro a1 w1 α1 r1 x1
   cases e1 with
   |normal=>
    simp only at h
    simp only[Ex.toExit,Exit.then]
    exact ih f inr y s1 e st' h ry mm ro kk hro α1 a1 w1 Q r1 (fun a' w' α' r2 x2=>hQ a' w' α' r2 (x1.trans x2 x1.len))
   |exit id=>
    cases h
    exact hQ a1 w1 α1 r1 x1
   |ret=>
    cases h
    exact hQ a1 w1 α1 r1 x1
  |cond o x y=>
   simp only[cM]at h
   split at h
   ·rename_i t ht
    replace h:=Res.bind_ok h
    obtain⟨r,h1,h⟩:=h
    have hd:=Res.test_ok hX h1
    have ho:=rF hr.tmps hr.mem.glob o
    rw[ht]at ho
    simp only[SV.R]at ho
    rw[hd]at ho
    have rx:∀ z,z ∈ bD x→bX P f=some z:=fun z hz=>hrg z (List.mem_append_left _ hz)
    have ry:∀ z,z ∈ bD y→bX P f=some z:=fun z hz=>hrg z (List.mem_append_right _ hz)
    refine wpIn_cond ho ?_
    cases r
    ·simp only[Bool.false_eq_true,if_false]at h ⊢
     exact ih f inr y st e st' h ry mm ro kk hro α a w Q hr hQ
    ·simp only[if_true]at h ⊢
     exact ih f inr x st e st' h rx mm ro kk hro α a w Q hr hQ
   ·cases h
  |block id x=>
   simp only[cM]at h
   obtain⟨r,h1,h⟩:=Res.bind_ok h
   obtain⟨e1,s1⟩:=r
   refine wpIn_block (ih f inr x st e1 s1 h1 hrg mm ro kk hro α a w _ hr ?_)
   intro a1 w1 α1 r1 x1
   cases e1 with
   |normal=>
    cases h
    exact hQ a1 w1 α1 r1 x1
   |exit i=>
    simp only at h
    simp only[Ex.toExit,Exit.inBlock]
    split at h
    ·rename_i hi
     cases h
     rw[if_pos hi]
     exact hQ a1 w1 α1 r1 x1
    ·rename_i hi
     cases h
     rw[if_neg hi]
     exact hQ a1 w1 α1 r1 x1
   |ret=>
    cases h
    exact hQ a1 w1 α1 r1 x1
  |loop b=>exact wpIn_loop_rounds (n+1) (loop f inr b st e st' h hrg mm ro kk hro α a w Q hr hQ)
  |scope b=>
   simp only[cM]at h
   split at h
   ·cases h
   rename_i hinr
   have hro':ro=none:=by
    cases ro with
    |none=>rfl
    |some l=>exact absurd hro.symm hinr
   subst hro'
   refine(wpIn_wide (n:=kk)).2 (wp_scope_straight ((wpIn_wide (n:=kk)).1 (ih f inr b st e st' h hrg mm none kk hro α a w _ hr ?_)))
   intro a1 w1 α1 r1 x1
   have:=hQ a1 w1 α1 r1 x1
   cases e<;>exact this
  |exit id=>
   simp only[cM]at h
   cases h
   exact wpIn_exit (hQ a w α hr (Ext.refl _ _ _ _))
  |ret=>
   simp only[cM]at h
   cases h
   exact wpIn_ret (hQ a w α hr (Ext.refl _ _ _ _))
  |region id ops draw=>
   cases draw
   ·simp only[cM]at h
    obtain⟨s,h1,h⟩:=Res.bind_ok h
    cases h
    exact wpIn_region_list (aAj hX hh ops.toList st α a w h1 hr (fun a' w' α' r1 x1=>hQ a' w' α' r1 x1))
   ·simp only[cM]at h
    obtain⟨s,h1,h⟩:=Res.bind_ok h
    cases h
    exact aI2 hX hh hm.1 h1 hr (fun a' w' α' r1 x1=>hQ a' w' α' r1 x1)
  |rangeFunc g ps x y=>
   simp only[cM]at h
   exact aJQ hm hh h (hrg _ (by simp [bD])) hro hr hQ
  |goto l=>simp [cM]at h
  |refuse y=>simp [cM]at h
def aA8 (P:Program) (X:Ctx) (gb:dF) (ct:bA) (n:Nat) (f:FuncId) (args:List SV):Res SV:=
 if decide (YB≤f) then .fail 141 else (fX P X gb ct (cM P X gb ct n) f args (jI gb)).bind fun r=>if aM.begins (jI gb) r.2 then .ok r.1 else .fail 140
def aOf (gb:dF):aV:=fun id=>(gb[id]?).map fun q=>⟨q.1,0,false,0⟩
def wX (gb:dF):Prop:=∀ (i j:Nat) (p q:Nat × List SV × TypeId),gb[i]?=some p→gb[j]?=some q→p.1=q.1→i=j
theorem aFj {w:World} (hw:WOk gb w) (hfl:jN gb=true) (ha:wX gb):RelW X.G ρ (bN gb) (aOf gb) (jI gb) w:=by
 have get:∀ id b,aOf gb id=some b→∃ q,gb[id]?=some q∧(⟨q.1,0,false,0⟩:Loc)=b:=by
  intro id b e
  unfold aOf at e
  cases h:gb[id]? with
  |none=>rw[h]at e;cases e
  |some q=>rw[h]at e;exact⟨q,rfl,Option.some.inj e⟩
 refine⟨?_,?_,?_,?_,?_⟩
 ·intro id b e
  obtain⟨q,hq,rfl⟩:=get id b e
  have h1:=hw q (List.mem_of_getElem? hq)
  refine⟨?_,.inr (Array.getElem?_eq_some_iff.1 h1).1⟩
  simp only[jI,List.length_map]
  exact(List.getElem?_eq_some_iff.1 hq).1
 ·intro i j b c ei ej _ _ hbc _ _
  obtain⟨p,hp,h1⟩:=get i b ei
  obtain⟨q,hq,h2⟩:=get j c ej
  subst h1;subst h2
  exact ha i j p q hp hq hbc
 ·intro id cs T e
  unfold jI at e
  rw[List.getElem?_map]at e
  cases h:gb[id]? with
  |none=>rw[h]at e;cases e
  |some q=>
   rw[h]at e
   have e':q.2=(cs,T):=Option.some.inj (Option.some.inj e)
   have h1:=hw q (List.mem_of_getElem? h)
   have h2:=List.all_eq_true.1 hfl q (List.mem_of_getElem? h)
   simp only[Bool.and_eq_true]at h2
   rw[e']at h1 h2
   exact⟨⟨q.1,0,false,0⟩,cs.map aFQ,by simp [aOf,h],(cV h2.1).2 ⟨rfl,h1⟩,aCc h2.2⟩
 ·intro p hp
  unfold bN at hp
  obtain⟨r,hr,rfl⟩:=List.mem_map.1 hp
  obtain⟨i,hi⟩:=List.mem_iff_getElem?.1 hr
  rw[List.getElem?_zipIdx]at hi
  cases h:gb[i]? with
  |none=>rw[h]at hi;cases hi
  |some q=>
   rw[h]at hi
   have hi':(q,0+i)=r:=Option.some.inj hi
   subst hi'
   simp [aOf,h]
 ·intro id cs T b e hT _ _
  exfalso
  unfold jI at e
  rw[List.getElem?_map]at e
  cases h:gb[id]? with
  |none=>rw[h]at e;cases e
  |some q=>
   rw[h]at e
   have e':q.2=(cs,T):=Option.some.inj (Option.some.inj e)
   have h2:=List.all_eq_true.1 hfl q (List.mem_of_getElem? h)
   simp only[Bool.and_eq_true]at h2
   rw[e']at h2
   rw[aDy h2.1]at hT;cases hT
theorem aEB (hX:X.Ok ρ) (hct:fF P X ρ gb ct) (hfl:jN gb=true) (ha:wX gb) (hm:kT P) {n:Nat} {f:FuncId} {args:List SV} {s:SV} (h:aA8 P X gb ct n f args = .ok s) {vals:List Value} (hv:SV.RL X.G ρ (fun _=>none) args vals) (w:World) (hw:WOk gb w):
  fU P f∧Calls P f vals.toArray w (fun e w'=>∃ v α,e = .returned v∧SV.R X.G ρ α s v∧Below w.heap.size w w'):=by
 unfold aA8 at h
 split at h
 ·cases h
 rename_i hY
 simp only[decide_eq_true_eq,Nat.not_le]at hY
 replace h:=Res.bind_ok h
 obtain⟨r,h1,h⟩:=h
 obtain⟨s1,σ1⟩:=r
 simp only at h
 split at h
 case isFalse=>cases h
 rename_i hbeg
 cases h
 have hW:=aFj (X:=X) (ρ:=ρ) hw hfl ha
 obtain⟨hk,hc⟩:=(qB hm hct hfl (vE hX hct hfl hm n).1 f args (jI gb) _ σ1 h1 (aOf gb) w vals hW (SV.RL_mono (fun _ _ x=>by cases x) _ _ hv)).1 hY
 refine⟨hk,hc.mono ?_⟩
 rintro e w' ⟨v,α',rfl,r1,r2,x1⟩
 refine⟨v,α',rfl,r1,⟨x1.os,x1.tape,x1.output,x1.size,?_⟩⟩
 intro k hk'
 by_cases hex:∃ id b,aOf gb id=some b∧b.blk=k
 ·obtain⟨id,b0,hid,rfl⟩:=hex
  have hlt:=(hW.dom id b0 hid).1
  obtain⟨blk,hblk⟩:∃ q,(jI gb)[id]?=some q:=⟨(jI gb)[id],by simp [hlt]⟩
  have hnn:∃ c,blk=some c∧fY c.2=true∧SV.sureL c.1=true:=by
   unfold jI at hblk
   rw[List.getElem?_map]at hblk
   cases hq:gb[id]? with
   |none=>rw[hq]at hblk;cases hblk
   |some q=>
    rw[hq]at hblk
    have hf:=List.all_eq_true.1 hfl q (List.mem_of_getElem? hq)
    simp only[Bool.and_eq_true]at hf
    exact⟨q.2,(Option.some.inj hblk).symm,hf.1,uW hf.2⟩
  obtain⟨⟨cs,T⟩,rfl,hT,hsu⟩:=hnn
  obtain⟨b,vs,g1,g2,g3⟩:=hW.blk id cs T hblk
  rw[hid]at g1;cases g1
  obtain⟨b',vs',g4,g5,g6⟩:=r2.blk id cs T (zY hbeg hblk)
  rw[x1.mono id _ hid]at g4;cases g4
  rw[((cV hT).1 g2).2,((cV hT).1 g5).2,SV.RL_one cs vs' vs hsu g6 (SV.RL_mono x1.mono cs vs g3)]
 ·exact x1.hid k hk' (fun id b e _ hb=>absurd ⟨id,b,e,hb⟩ hex)
end
end Sx
end Go.Proofs.Ytdldallkeheciaa
namespace Go.Proofs.Ytdldallkeheciaa
namespace Sx
open Go Go.RowKit
def vA (n:Int):E→List B
 | .op .max a b => .cmp .le (.op .max a b) (.lit n)::(vA n a++vA n b)
 |e=>[.cmp .le e (.lit n)]
def uE (n:Int):E→List B
 | .op .min a b => .cmp .le (.lit n) (.op .min a b)::(uE n a++uE n b)
 |e=>[.cmp .le (.lit n) e]
def aJ:B→List B
 | .and x y=>aJ x++aJ y
 | .cmp .le (.lit n) e=>uE n e
 | .cmp .lt (.lit n) e => .cmp .lt (.lit n) e::uE (n+1) e
 | .cmp .le e (.lit n)=>vA n e
 | .cmp .lt e (.lit n) => .cmp .lt e (.lit n)::vA (n-1) e
 |b=>[b]
section
variable {G:Nat→List Int→Int} {ρ:Nat→Int}
theorem nS {n:Int}:∀ {e:E},e.den G ρ≤n→∀ b,b ∈ vA n e→b.den G ρ=true
 |e,h,b,hb=>by
  unfold vA at hb
  split at hb
  ·rename_i x y
   have h1:x.den G ρ≤n∧y.den G ρ≤n:=by
    simp only[E.den,IOp.den]at h
    split at h<;>omega
   rcases List.mem_cons.1 hb with rfl|hb
   ·exact decide_eq_true h
   ·rcases List.mem_append.1 hb with hb|hb
    ·exact nS h1.1 b hb
    ·exact nS h1.2 b hb
  ·rw[List.mem_singleton.1 hb];exact decide_eq_true h
theorem oN {n:Int}:∀ {e:E},n≤e.den G ρ→∀ b,b ∈ uE n e→b.den G ρ=true
 |e,h,b,hb=>by
  unfold uE at hb
  split at hb
  ·rename_i x y
   have h1:n≤x.den G ρ∧n≤y.den G ρ:=by
    simp only[E.den,IOp.den]at h
    split at h<;>omega
   rcases List.mem_cons.1 hb with rfl|hb
   ·exact decide_eq_true h
   ·rcases List.mem_append.1 hb with hb|hb
    ·exact oN h1.1 b hb
    ·exact oN h1.2 b hb
  ·rw[List.mem_singleton.1 hb];exact decide_eq_true h
theorem mX:∀ {f:B},f.den G ρ=true→∀ b,b ∈ aJ f→b.den G ρ=true
 |f,h,b,hb=>by
  unfold aJ at hb
  split at hb
  ·rename_i x y
   simp only[B.den,Bool.and_eq_true]at h
   rcases List.mem_append.1 hb with hb|hb
   ·exact mX h.1 b hb
   ·exact mX h.2 b hb
  ·exact oN (of_decide_eq_true h) b hb
  ·rcases List.mem_cons.1 hb with rfl|hb
   ·exact h
   ·have h':=of_decide_eq_true h
    simp only[E.den]at h'
    exact oN (by omega) b hb
  ·exact nS (of_decide_eq_true h) b hb
  ·rcases List.mem_cons.1 hb with rfl|hb
   ·exact h
   ·have h':=of_decide_eq_true h
    simp only[E.den]at h'
    exact nS (by omega) b hb
  ·rw[List.mem_singleton.1 hb];exact h
end
inductive Tree where
 |leaf (s:SV)
 |br (b:B) (t f:Tree)
 |bad (code:Nat)
def Tree.Good (G:Nat→List Int→Int) (ρ:Nat→Int) (p:SV→Prop):Tree→Prop
 | .leaf s=>p s
 | .br b t f=>(b.den G ρ=true→Tree.Good G ρ p t)∧(b.den G ρ=false→Tree.Good G ρ p f)
 | .bad _=>False
mutual
def SV.den (G:Nat→List Int→Int) (ρ:Nat→Int):SV→Value
 | .bool b => .bool (b.den G ρ)
 | .int k e => .int k (e.den G ρ)
 | .agg l => .agg (SV.denL G ρ l).toArray
 | .tuple l => .tuple (SV.denL G ρ l).toArray
 | .iface t l => .iface t (.agg (SV.denL G ρ l).toArray)
 | .con v=>v
 | .func fn f c => .func fn (SV.denL G ρ f).toArray (SV.denL G ρ c).toArray
 |_ => .nilFunc
def SV.denL (G:Nat→List Int→Int) (ρ:Nat→Int):List SV→List Value
 |[]=>[]
 |s::l=>SV.den G ρ s::SV.denL G ρ l
end
mutual
theorem SV.R_den {G:Nat→List Int→Int} {ρ:Nat→Int} {α:aV}:∀ (s:SV) (v:Value),s.ubd 0=true→SV.R G ρ α s v→v=s.den G ρ
 | .any,v,h,_=>by simp [SV.ubd]at h
 | .bool b,v,_,r=>by simpa [SV.R,SV.den]using r
 | .int k e,v,_,r=>by simpa [SV.R,SV.den]using r
 | .con x,v,_,r=>by simpa [SV.R,SV.den]using r
 | .ptr id off,v,h,_=>by simp [SV.ubd]at h
 | .slice id off l c,v,h,_=>by simp [SV.ubd]at h
 | .agg l,v,h,r=>by
  simp only[SV.R]at r
  obtain⟨cs,rfl,h2⟩:=r
  simp only[SV.den]
  rw[SV.RL_den l cs (by simpa [SV.ubd]using h) h2]
 | .tuple l,v,h,r=>by
  simp only[SV.R]at r
  obtain⟨cs,rfl,h2⟩:=r
  simp only[SV.den]
  rw[SV.RL_den l cs (by simpa [SV.ubd]using h) h2]
 | .iface _ l,v,h,r=>by
  simp only[SV.R]at r
  obtain⟨cs,rfl,h2⟩:=r
  simp only[SV.den]
  rw[SV.RL_den l cs (by simpa [SV.ubd]using h) h2]
 | .func fn f c,v,h,r=>by
  simp only[SV.R]at r
  obtain⟨fs,cs,rfl,h2,h3⟩:=r
  simp only[SV.ubd,Bool.and_eq_true]at h
  simp only[SV.den]
  rw[SV.RL_den f fs h.1 h2,SV.RL_den c cs h.2 h3]
theorem SV.RL_den {G:Nat→List Int→Int} {ρ:Nat→Int} {α:aV}:∀ (l:List SV) (vs:List Value),SV.ubdL 0 l=true→SV.RL G ρ α l vs→vs=SV.denL G ρ l
 |[],vs,_,r=>by simpa [SV.RL,SV.denL]using r
 |s::l,vs,h,r=>by
  simp only[SV.RL]at r
  obtain⟨v,vs',rfl,h2,h3⟩:=r
  simp only[SV.ubdL,Bool.and_eq_true]at h
  simp only[SV.denL]
  rw[SV.R_den s v h.1 h2,SV.RL_den l vs' h.2 h3]
end
mutual
theorem SV.den_R {G:Nat→List Int→Int} {ρ:Nat→Int} {α:aV}:∀ (s:SV),s.ubd 0=true→SV.R G ρ α s (s.den G ρ)
 | .any,h=>by simp [SV.ubd]at h
 | .bool b,_=>by simp [SV.R,SV.den]
 | .int k e,_=>by simp [SV.R,SV.den]
 | .con x,_=>by simp [SV.R,SV.den]
 | .ptr id off,h=>by simp [SV.ubd]at h
 | .slice id off l c,h=>by simp [SV.ubd]at h
 | .agg l,h=>by
  simp only[SV.R,SV.den]
  exact⟨_,rfl,SV.denL_R l (by simpa [SV.ubd]using h)⟩
 | .tuple l,h=>by
  simp only[SV.R,SV.den]
  exact⟨_,rfl,SV.denL_R l (by simpa [SV.ubd]using h)⟩
 | .iface _ l,h=>by
  simp only[SV.R,SV.den]
  exact⟨_,rfl,SV.denL_R l (by simpa [SV.ubd]using h)⟩
 | .func fn f c,h=>by
  simp only[SV.ubd,Bool.and_eq_true]at h
  simp only[SV.R,SV.den]
  exact⟨_,_,rfl,SV.denL_R f h.1,SV.denL_R c h.2⟩
theorem SV.denL_R {G:Nat→List Int→Int} {ρ:Nat→Int} {α:aV}:∀ (l:List SV),SV.ubdL 0 l=true→SV.RL G ρ α l (SV.denL G ρ l)
 |[],_=>by simp [SV.RL,SV.denL]
 |s::l,h=>by
  simp only[SV.ubdL,Bool.and_eq_true]at h
  simp only[SV.denL]
  exact aW (SV.den_R s h.1) (SV.denL_R l h.2)
end
def Way (run:List B→Res SV) (G:Nat→List Int→Int) (ρ:Nat→Int) (p:SV→Prop) (fs:List B):Prop:=
 (∀ b,b ∈ fs→b.den G ρ=true)→∃ fs' s,(∀ b,b ∈ fs'→b.den G ρ=true)∧run fs' = .ok s∧p s
theorem aH {run:List B→Res SV} {G:Nat→List Int→Int} {ρ:Nat→Int} {p:SV→Prop} {fs:List B} {s:SV} (h:run fs = .ok s) (hp:p s):Way run G ρ p fs:=fun hf=>⟨fs,s,hf,h,hp⟩
theorem nK {run:List B→Res SV} {G:Nat→List Int→Int} {ρ:Nat→Int} {p:SV→Prop} {fs:List B} {b:B} (_h:run fs = .need b)
  (h1:b.den G ρ=true→Way run G ρ p (aJ b++fs)) (h2:b.den G ρ=false→Way run G ρ p (aJ b.neg++fs)):Way run G ρ p fs:=by
 intro hf
 cases hb:b.den G ρ
 ·refine h2 hb ?_
  intro c hc
  rcases List.mem_append.1 hc with hc|hc
  ·exact mX (by rw[B.neg_den,hb];rfl) c hc
  ·exact hf c hc
 ·refine h1 hb ?_
  intro c hc
  rcases List.mem_append.1 hc with hc|hc
  ·exact mX hb c hc
  ·exact hf c hc
def E.isLit:E→Bool
 | .lit _=>true
 |_=>false
def aDa (X:Ctx) (a e:E) (d:Int):List B:=
 (match E.itv X e with|some p=>if a.isLit then [] else [.cmp .le a (.lit (p.2-d))]|none=>[]) ++
 (match E.itv X a with|some p=>if e.isLit then [] else [.cmp .le (.lit (p.1+d)) e]|none=>[])
def aE8 (X:Ctx):B→List B
 | .cmp .le a e=>if a.isLit ||e.isLit then [] else aDa X a e 0
 | .cmp .lt a e=>if a.isLit ||e.isLit then [] else aDa X a e 1
 |_=>[]
def Ctx.more (X:Ctx):Ctx:={ X with facts:=X.facts.flatMap (aE8 X)++X.facts }
theorem aAt {X:Ctx} {ρ:Nat→Int} (hX:X.Ok ρ) {a e:E} {d:Int} (h:a.den X.G ρ+d≤e.den X.G ρ):∀ b,b ∈ aDa X a e d→b.den X.G ρ=true:=by
 intro b hb
 have ha:=E.itv_has hX a
 have he:=E.itv_has hX e
 unfold aDa at hb
 rcases List.mem_append.1 hb with hb|hb
 ·split at hb
  ·rename_i p hp
   rw[hp]at he
   simp only[fV.has]at he
   split at hb
   ·cases hb
   ·rw[List.mem_singleton.1 hb]
    exact decide_eq_true (show a.den X.G ρ≤p.2-d by omega)
  ·cases hb
 ·split at hb
  ·rename_i p hp
   rw[hp]at ha
   simp only[fV.has]at ha
   split at hb
   ·cases hb
   ·rw[List.mem_singleton.1 hb]
    exact decide_eq_true (show p.1+d≤e.den X.G ρ by omega)
  ·cases hb
theorem aEU {X:Ctx} {ρ:Nat→Int} (hX:X.Ok ρ) {f:B} (h:f.den X.G ρ=true):∀ b,b ∈ aE8 X f→b.den X.G ρ=true:=by
 intro b hb
 unfold aE8 at hb
 split at hb
 ·split at hb
  ·cases hb
  ·simp only[B.den,COp.den,decide_eq_true_eq]at h
   exact aAt hX (by omega) b hb
 ·split at hb
  ·cases hb
  ·simp only[B.den,COp.den,decide_eq_true_eq]at h
   exact aAt hX (by omega) b hb
 ·cases hb
theorem aFm {X:Ctx} {ρ:Nat→Int} (hX:X.Ok ρ):∀ b,b ∈ X.more.facts→b.den X.G ρ=true:=by
 intro b hb
 rcases List.mem_append.1 hb with hb|hb
 ·obtain⟨f,hf,hb⟩:=List.mem_flatMap.1 hb
  exact aEU hX (hX.facts f hf) b hb
 ·exact hX.facts b hb
end Sx
end Go.Proofs.Ytdldallkeheciaa
namespace Go.Proofs.Ytdldallkeheciaa
namespace Sx
open Go Go.RowKit
def cR (xs:List Int):Nat→Int:=fun i=>xs.getD i 0
def dW:List (Int × Int)→List Int→Prop
 |[],[]=>True
 |p::l,x::xs=>(p.1≤x∧x≤p.2)∧dW l xs
 |_,_=>False
theorem lD:∀ {l:List (Int × Int)} {xs:List Int},dW l xs→∀ i q,l[i]?=some q→q.1≤cR xs i∧cR xs i≤q.2
 |[],[],_,i,q,h=>by simp at h
 |[],_::_,h,_,_,_=>by simp [dW]at h
 |_::_,[],h,_,_,_=>by simp [dW]at h
 |p::l,x::xs,h,0,q,hq=>by
  simp at hq
  subst hq
  simpa [cR]using h.1
 |p::l,x::xs,h,i+1,q,hq=>by
  have:=lD h.2 i q (by simpa using hq)
  simpa [cR]using this
theorem aHk (x y:Int):IOp.den .sub x y=x-y:=rfl
theorem aOT (x y:Int):IOp.den .max x y=max x y:=by simp only[IOp.den];split<;>omega
theorem aQm (x y:Int):IOp.den .min x y=min x y:=by simp only[IOp.den];split<;>omega
theorem aFR (x y:Int):COp.den .le x y=decide (x≤y):=rfl
theorem aMT (x y:Int):COp.den .eq x y=decide (x=y):=rfl
def E.lies (e:E) (X:Ctx) (lo hi:Int):Bool:=
 match e.itv X with
 |some p=>decide (lo≤p.1) && decide (p.2≤hi)
 |none=>false
theorem E.lies_in {X:Ctx} {ρ:Nat→Int} (hX:X.Ok ρ) {lo hi:Int} {e:E} (h:e.lies X lo hi=true):lo≤e.den X.G ρ∧e.den X.G ρ≤hi:=by
 have hi:=E.itv_has hX e
 unfold E.lies at h
 split at h
 ·rename_i p hp
  rw[hp]at hi
  simp only[Bool.and_eq_true,decide_eq_true_eq]at h
  simp only[fV.has]at hi
  omega
 ·cases h
def oA (X:Ctx):List (Int × Int)→List E→Bool
 |[],[]=>true
 |p::l,e::es=>e.lies X p.1 p.2 && oA X l es
 |_,_=>false
theorem sJ {X:Ctx} {ρ:Nat→Int} (hX:X.Ok ρ):∀ {l:List (Int × Int)} {es:List E},oA X l es=true→dW l (es.map (E.den X.G ρ))
 |[],[],_=>trivial
 |p::l,e::es,h=>by
  simp only[oA,Bool.and_eq_true]at h
  exact⟨E.lies_in hX h.1,sJ hX h.2⟩
 |[],_::_,h=>by simp [oA]at h
 |_::_,[],h=>by simp [oA]at h
abbrev nL:=Ctx→List SV→Res SV
def iW (P:Program) (X:Ctx) (ρ:Nat→Int) (gb:dF) (f:FuncId) (g:nL):Prop:=
 ∀ args s,g X args = .ok s→∀ α w vals,SV.RL X.G ρ α args vals→WOk gb w→
  fU P f∧Calls P f vals.toArray w (fun e w'=>∃ v,e = .returned v∧SV.R X.G ρ α s v∧Below w.heap.size w w')
def aLI:bA:=fun _=>none
def kJ (F:FuncId) (g:nL) (ct:bA):bA:=fun f=>if f=F then some (.pure g) else ct f
def fT (F:FuncId) (g:Ctx→List SV→aM→Res (SV × aM)) (ct:bA):bA:=fun f=>if f=F then some (.mem g) else ct f
theorem aM1 {P:Program} {X:Ctx} {ρ:Nat→Int} {gb:dF}:fF P X ρ gb aLI:=fun f g h=>by simp [aLI]at h
theorem fJ {P:Program} {X:Ctx} {ρ:Nat→Int} {gb:dF} {F:FuncId} {g:nL} {ct:bA} (h:iW P X ρ gb F g) (hc:fF P X ρ gb ct):fF P X ρ gb (kJ F g ct):=by
 intro f g' hf
 unfold kJ at hf
 split at hf
 ·rename_i e
  subst e
  cases hf
  exact h
 ·exact hc f g' hf
theorem dM {P:Program} {X:Ctx} {ρ:Nat→Int} {gb:dF} {F:FuncId} {g:Ctx→List SV→aM→Res (SV × aM)} {ct:bA} (h:eU P X ρ gb F g) (hc:fF P X ρ gb ct):fF P X ρ gb (fT F g ct):=by
 intro f g' hf
 unfold fT at hf
 split at hf
 ·rename_i e
  subst e
  cases hf
  exact h
 ·exact hc f g' hf
theorem dB {P:Program} {X:Ctx} {ρ:Nat→Int} {f:FuncId} {α:aV} {args:List SV} {s:SV} {vals:List Value} {w:World} (hv:SV.RL X.G ρ α args vals) (ha:SV.ubdL 0 args=true) (hs:s.ubd 0=true)
  (h:fU P f∧Calls P f (SV.denL X.G ρ args).toArray w (fun e w'=>e = .returned (s.den X.G ρ)∧Below w.heap.size w w')):
  fU P f∧Calls P f vals.toArray w (fun e w'=>∃ v,e = .returned v∧SV.R X.G ρ α s v∧Below w.heap.size w w'):=by
 have e:=SV.RL_den args vals ha hv
 subst e
 refine⟨h.1,h.2.mono ?_⟩
 rintro e w' ⟨rfl,hb⟩
 exact⟨_,rfl,SV.den_R s hs,hb⟩
theorem qF:wX []:=fun i j p q h=>by simp at h
theorem zE {P:Program} {f:FuncId} {args:Array Value} {w:World} {V:Value} (h:fU P f∧Calls P f args w (fun e w'=>∃ v,e = .returned v∧v=V∧Below w.heap.size w w')):
  fU P f∧Calls P f args w (fun e w'=>e = .returned V∧Below w.heap.size w w'):=by
 refine⟨h.1,h.2.mono ?_⟩
 rintro e w' ⟨v,rfl,rfl,hb⟩
 exact⟨rfl,hb⟩
end Sx
end Go.Proofs.Ytdldallkeheciaa
namespace Go.Proofs.Ytdldallkeheciaa
namespace Sx
open Go Go.RowKit
def aCW {β:Type} (n:Int) (k:Int→β):β:=
 match n with
 | .ofNat m=>match m with
  |0=>k (.ofNat 0)
  |m+1=>k (.ofNat (Nat.succ m))
 | .negSucc m=>match m with
  |0=>k (.negSucc 0)
  |m+1=>k (.negSucc (Nat.succ m))
theorem aIW {β:Type} (n:Int) (k:Int→β):aCW n k=k n:=by
 unfold aCW
 split<;>split<;>rfl
def xC {β:Type}:List (Int × Int)→(List (Int × Int)→β)→β
 |[],k=>k []
 |(a,b)::l,k=>aCW a fun a=>aCW b fun b=>xC l fun l=>k ((a,b)::l)
theorem aAq {β:Type}:∀ (l:List (Int × Int)) (k:List (Int × Int)→β),xC l k=k l
 |[],k=>rfl
 |(a,b)::l,k=>by simp only[xC,aIW,aAq l]
def tO {β:Type} (X:Ctx) (k:Ctx→β):β:=
 match X with
 |⟨G,GI,vars,facts⟩=>xC vars fun vars=>cP facts fun facts=>k ⟨G,GI,vars,facts⟩
theorem vX {β:Type} (X:Ctx) (k:Ctx→β):tO X k=k X:=by
 obtain⟨G,GI,vars,facts⟩:=X
 simp only[tO,aAq,cQ]
def aDT (f:B) (vs:List (Int × Int)):List (Int × Int):=
 match f with
 | .cmp _ (.var i) (.lit _)=>match vs[i]? with
  |some q=>vs.set i (sI (.var i) f q)
  |none=>vs
 | .cmp _ (.lit _) (.var i)=>match vs[i]? with
  |some q=>vs.set i (sI (.var i) f q)
  |none=>vs
 |_=>vs
def aQ3:B→Bool
 | .cmp .ne _ _=>false
 | .cmp _ (.var _) (.lit _)=>true
 | .cmp _ (.lit _) (.var _)=>true
 |_=>false
def Ctx.pre (X:Ctx):Ctx:={ X with vars:=X.facts.foldr aDT (X.facts.foldr aDT X.vars),facts:=X.facts.filter fun f => !aQ3 f }
theorem aA9 {G:Nat→List Int→Int} {ρ:Nat→Int} {f:B} (hf:f.den G ρ=true) {vs:List (Int × Int)} (h:∀ i q,vs[i]?=some q→q.1≤ρ i∧ρ i≤q.2) (j:Nat) (q0:Int × Int) (hj:vs[j]?=some q0):
  ∀ i q,(vs.set j (sI (.var j) f q0))[i]?=some q→q.1≤ρ i∧ρ i≤q.2:=by
 intro i q hq
 by_cases e:j=i
 ·subst e
  have hlt:j<vs.length:=(List.getElem?_eq_some_iff.1 hj).1
  rw[List.getElem?_set_self hlt]at hq
  cases hq
  exact zO G ρ (.var j) f q0 hf (h j q0 hj)
 ·rw[List.getElem?_set_ne e]at hq
  exact h i q hq
theorem aIg {G:Nat→List Int→Int} {ρ:Nat→Int} {f:B} (hf:f.den G ρ=true) {vs:List (Int × Int)} (h:∀ i q,vs[i]?=some q→q.1≤ρ i∧ρ i≤q.2):∀ i q,(aDT f vs)[i]?=some q→q.1≤ρ i∧ρ i≤q.2:=by
 unfold aDT
 split
 ·split
  ·exact aA9 hf h _ _ ‹_›
  ·exact h
 ·split
  ·exact aA9 hf h _ _ ‹_›
  ·exact h
 ·exact h
theorem uD {G:Nat→List Int→Int} {ρ:Nat→Int}:∀ (fs:List B) (vs:List (Int × Int)),(∀ b,b ∈ fs→b.den G ρ=true)→(∀ i q,vs[i]?=some q→q.1≤ρ i∧ρ i≤q.2)→∀ i q,(fs.foldr aDT vs)[i]?=some q→q.1≤ρ i∧ρ i≤q.2
 |[],vs,_,h=>h
 |f::fs,vs,hf,h=>aIg (hf f (by simp)) (uD fs vs (fun b hb=>hf b (by simp [hb])) h)
theorem Ctx.pre_ok {X:Ctx} {ρ:Nat→Int} (hX:X.Ok ρ):X.pre.Ok ρ:=
 ⟨uD X.facts _ hX.facts (uD X.facts _ hX.facts hX.vars),fun b hb=>hX.facts b (List.mem_filter.1 hb).1,hX.gi⟩
def cB {β:Type} (G:Nat→List Int→Int) (GI:Nat→List fV→fV) (vars:List (Int × Int)) (fs:List B) (k:Ctx→β):β:=
 tO (Ctx.pre ⟨G,GI,vars,fs⟩) fun X1=>tO (Ctx.pre (Ctx.more X1)) k
theorem oS {β:Type} (G:Nat→List Int→Int) (GI:Nat→List fV→fV) (vars:List (Int × Int)) (fs:List B) (k:Ctx→β):
  cB G GI vars fs k=k (Ctx.pre (Ctx.more (Ctx.pre ⟨G,GI,vars,fs⟩))):=by
 unfold cB;rw[vX,vX]
theorem nT {G:Nat→List Int→Int} {GI:Nat→List fV→fV} {vars:List (Int × Int)} {fs:List B} {ρ:Nat→Int} (hX:Ctx.Ok ⟨G,GI,vars,fs⟩ ρ):(Ctx.pre (Ctx.more (Ctx.pre ⟨G,GI,vars,fs⟩))).Ok ρ:=by
 have h1:=Ctx.pre_ok hX
 have h2:(Ctx.more (Ctx.pre ⟨G,GI,vars,fs⟩)).Ok ρ:=⟨h1.vars,aFm h1,h1.gi⟩
 exact Ctx.pre_ok h2
theorem rR {P:Program} {G:Nat→List Int→Int} {GI:Nat→List fV→fV} {vars:List (Int × Int)} {ρ:Nat→Int} {gb:dF} {ct:bA} {n:Nat} {f:FuncId} {args:List SV} {p:Value→Prop} {run:List B→Res SV}
  (hrun:∀ fs,run fs=cB G GI vars fs fun X=>aA8 P X gb ct n f args) (hm:kT P)
  (hv:∀ i q,vars[i]?=some q→q.1≤ρ i∧ρ i≤q.2) (hg:GiOk G GI)
  (hct:∀ X:Ctx,X.Ok ρ→X.G=G→fF P X ρ gb ct) (hargs:SV.ubdL 0 args=true) (hfl:jN gb=true) (ha:wX gb)
  (hgood:Way run G ρ (fun s=>s.ubd 0=true∧p (s.den G ρ)) []) (w:World) (hw:WOk gb w):
  fU P f∧Calls P f (SV.denL G ρ args).toArray w (fun e w'=>∃ v,e = .returned v∧p v∧Below w.heap.size w w'):=by
 obtain⟨fs,s,h1,h2,h3,h4⟩:=hgood (fun b hb=>by cases hb)
 rw[hrun,oS]at h2
 have hX:=nT (show Ctx.Ok ⟨G,GI,vars,fs⟩ ρ from⟨hv,h1,hg⟩)
 obtain⟨hk,hc⟩:=aEB hX (hct _ hX rfl) hfl ha hm h2 (SV.denL_R args hargs) w hw
 refine⟨hk,hc.mono ?_⟩
 rintro e w' ⟨v,α,rfl,r,hb⟩
 refine⟨v,rfl,?_,hb⟩
 rw[SV.R_den s v h3 r]
 exact h4
theorem aG {run:List B→Res SV} {G:Nat→List Int→Int} {ρ:Nat→Int} {p:SV→Prop} {fs:List B} (b:B)
  (h1:b.den G ρ=true→Way run G ρ p (aJ b++fs)) (h2:b.den G ρ=false→Way run G ρ p (aJ b.neg++fs)):Way run G ρ p fs:=by
 intro hf
 cases hb:b.den G ρ
 ·refine h2 hb ?_
  intro c hc
  rcases List.mem_append.1 hc with hc|hc
  ·exact mX (by rw[B.neg_den,hb];rfl) c hc
  ·exact hf c hc
 ·refine h1 hb ?_
  intro c hc
  rcases List.mem_append.1 hc with hc|hc
  ·exact mX hb c hc
  ·exact hf c hc
end Sx
end Go.Proofs.Ytdldallkeheciaa
