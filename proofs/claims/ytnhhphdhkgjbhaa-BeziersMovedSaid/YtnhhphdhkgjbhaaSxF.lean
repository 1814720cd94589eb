/- What is proved: regions over closed data, whatever order is drawn, are what the model does. No condition. -/
import Derived.Test.YtnhhphdhkgjbhaaSxE
import Derived.StillTail
set_option linter.unusedSimpArgs false
set_option linter.unusedVariables false
namespace Go.Proofs.Ytnhhphdhkgjbhaa
namespace Sx
open Go Go.RowKit

structure St where
  tmps : List SV
  heap : Heap
abbrev Handler := FuncId → List SV → Heap → Res (SV × Heap)
/-- a call of a function with a body can be met -/
def Known (P : Program) (f : FuncId) : Prop := ∃ fn, P.funcs[f]? = some fn ∧ (fn.name == "runtime.NumGoroutine") = false ∧ fn.body.isNone = false
def HOk (P : Program) (X : Ctx) (ρ : Nat → Int) (gl : List (Nat × Nat)) (h : Handler) : Prop :=
  ∀ f args σ s σ', h f args σ = .ok (s, σ') → ∀ α w vals, RelW X.G ρ gl α σ w → SV.RL X.G ρ α args vals →
    Known P f ∧ Calls P f vals.toArray w (fun e w' => ∃ v α', e = .returned v ∧ SV.R X.G ρ α' s v ∧ RelW X.G ρ gl α' σ' w' ∧ Ext σ.length σ σ' α α' w w')
def exOper (P : Program) (X : Ctx) (gl : List (Nat × Nat)) (h : Handler) (tm : List SV) (σ : Heap) (o : Oper) : Res (SV × Heap) :=
  match o.op with
  | .call { callee := .value f, args, .. } =>
    match evO gl tm f with
    | .func (.func g) first captured => h g (first ++ args.toList.map (evO gl tm) ++ captured) σ
    | _ => .fail 100
  | _ => exOp P X (evO gl tm) σ o
/-- an operation that leaves the memory as it is -/
def quietOp (o : Oper) : Bool :=
  match o.op with
  | .alloc _ | .box _ _ | .buildSlice _ _ _ | .store _ _ _ | .makeSlice _ _ _ | .call _ | .makeMap _ _ | .insert _ _ _ _ | .mapUpdate _ _ _ _ => false
  | _ => true
/-- an operation that adds one block at most -/
def addsOp (o : Oper) : Bool :=
  match o.op with
  | .alloc _ | .box _ _ | .buildSlice _ _ _ | .makeSlice _ _ _ => true
  | .store _ _ _ | .call _ | .insert _ _ _ _ | .mapUpdate _ _ _ _ | .makeMap _ _ => false
  | _ => true
def sPut (tm : List SV) (dst : Option Tmp) (s : SV) : List SV :=
  match dst with
  | some d => tm.set d s
  | none => tm
def sWanted (X : Ctx) (gl : List (Nat × Nat)) (ops : Array Oper) (tm : List SV) (o : Oper) : Res Bool :=
  match o.guard with
  | none => .ok true
  | some (j, want) =>
    match (ops[j]?).bind (·.dst) with
    | none => .ok false
    | some d =>
      match evO gl tm (.tmp d) with
      | .bool b => (Res.test X b).bind fun r => .ok (r == want)
      | .tuple _ => .ok false
      | _ => .fail 101
section
variable {ρ : Nat → Int} {P : Program} {X : Ctx} {gl : List (Nat × Nat)} {h : Handler}
theorem exOper_wp (hX : X.Ok ρ) (hh : HOk P X ρ gl h) {α : AMap} {tm : List SV} {σ σ' : Heap} {w : World} {a : Act} {o : Oper} {s : SV} {K : Act → World → Prop} {Q : Exit → Act → World → Prop}
    (he : exOper P X gl h tm σ o = .ok (s, σ')) (hW : RelW X.G ρ gl α σ w) (hop : ∀ x, x ∈ o.op.operands → SV.R X.G ρ α (evO gl tm x) (a.eval x))
    (hK : ∀ v w' α', SV.R X.G ρ α' s v → RelW X.G ρ gl α' σ' w' → Ext σ.length σ σ' α α' w w' → K (a.put o.dst v) w') : o.wp P a w K Q := by
  unfold exOper at he
  split at he
  · rename_i f args ats hop'
    split at he
    · rename_i g first captured hf
      have rf := hop f (by rw [hop']; simp [Op.operands, Call.operands])
      rw [hf] at rf
      simp only [SV.R] at rf
      obtain ⟨fs, cs, hfv, r1, r2⟩ := rf
      have ra := list_rel (X := X) (ρ := ρ) (α := α) (ev := evO gl tm) (ea := a.eval) args.toList (fun p hp => hop p (by rw [hop']; simp [Op.operands, Call.operands] at *; exact .inr hp))
      have rall := RL_append (RL_append r1 ra) r2
      obtain ⟨⟨fn, k1, k2, k3⟩, hc⟩ := hh g _ σ s σ' he α w _ hW rall
      unfold Oper.wp
      have hrun : (execOp a.eval o).run P w = .ok (.enter g (fs ++ args.toList.map a.eval ++ cs).toArray) w := by
        unfold execOp
        rw [hop']
        have e1 : args.map a.eval = (args.toList.map a.eval).toArray := by rw [← Array.toList_map]
        have k2' : ¬ fn.name = "runtime.NumGoroutine" := by simpa using k2
        have k3' : ¬ fn.body = none := by intro e; rw [e] at k3; cases k3
        simp [resolve, hfv, Deferred.ofValue, invoke, callFunc, k1, k2', k3', e1]
      rw [hrun]
      simp only [Oper.upon]
      refine hc.mono ?_
      rintro e w' ⟨v, α', rfl, q1, q2, q3⟩
      exact hK v w' α' q1 q2 q3
    · cases he
  · obtain ⟨v, w', α', q1, q2, q3, q4⟩ := exOp_run hX he hW hop
    unfold Oper.wp
    rcases q1 with q1 | ⟨q1, rfl⟩
    · rw [q1]; exact hK v w' α' q2 q3 q4
    · rw [q1]; exact hK _ w' α' q2 q3 q4
theorem sWanted_run (hX : X.Ok ρ) {α : AMap} {ops : Array Oper} {tm : List SV} {a : Act} {o : Oper} {r : Bool} (h : sWanted X gl ops tm o = .ok r)
    (hr : ∀ g d, o.guard = some g → (ops[g.1]?).bind (·.dst) = some d → SV.R X.G ρ α (evO gl tm (.tmp d)) (a.eval (.tmp d))) : Region.wanted o (yielded ops a.tmps) = r := by
  unfold sWanted at h
  unfold Region.wanted
  split at h
  · rename_i hg; cases h; simp [hg]
  · rename_i j want hg
    simp only [hg]
    split at h
    · rename_i hd
      cases h
      simp [yielded, hd]
    · rename_i d hd
      have hR := hr (j, want) d hg hd
      split at h
      · rename_i b hb
        rw [hb] at hR
        simp only [SV.R] at hR
        replace h := Res.bind_ok h
        obtain ⟨q, hq, h⟩ := h
        have := Res.test_ok hX hq
        cases h
        rw [this] at hR
        have hy : yielded ops a.tmps j = some q := by
          unfold yielded
          rw [hd]
          simp only [Option.bind_some]
          simp only [Act.eval] at hR
          cases ht : a.tmps[d]? with
          | none => simp [Array.getD_eq_getD_getElem?, ht, undef] at hR
          | some u => simp [Array.getD_eq_getD_getElem?, ht] at hR; rw [hR]
        rw [hy]
        cases q <;> cases want <;> rfl
      · rename_i l hb
        rw [hb] at hR
        simp only [SV.R] at hR
        obtain ⟨cs, hv, _⟩ := hR
        cases h
        have hy : yielded ops a.tmps j = none := by
          unfold yielded
          rw [hd]
          simp only [Option.bind_some]
          simp only [Act.eval] at hv
          cases ht : a.tmps[d]? with
          | none => rfl
          | some u => simp [Array.getD_eq_getD_getElem?, ht] at hv; rw [hv]
        rw [hy]
        rfl
      · cases h
/-- how a state stands to the model's -/
structure RelSt (X : Ctx) (ρ : Nat → Int) (gl : List (Nat × Nat)) (α : AMap) (st : St) (a : Act) (w : World) : Prop where
  tmps : SV.RL X.G ρ α st.tmps a.tmps.toList
  defers : a.defers = []
  mem : RelW X.G ρ gl α st.heap w
theorem evO_R {α : AMap} {tm : List SV} {a : Act} (ht : SV.RL X.G ρ α tm a.tmps.toList) (hg : ∀ p, p ∈ gl → α p.2 = some p.1) (x : Operand) : SV.R X.G ρ α (evO gl tm x) (a.eval x) := by
  cases x with
  | tmp t =>
    simp only [evO, Act.eval]
    cases hs : tm[t]? with
    | none =>
      have hl := RL_length ht
      have : a.tmps[t]? = none := by
        have h1 : tm.length ≤ t := List.getElem?_eq_none_iff.1 hs
        simp at hl ⊢; omega
      simp only [List.getD, hs, Option.getD_none, Array.getD_eq_getD_getElem?, this]
      simp only [SV.R]; exact ⟨[], rfl, RL_nil⟩
    | some s =>
      obtain ⟨v, hv, hr⟩ := RL_get ht hs
      have : a.tmps[t]? = some v := by simpa using hv
      simp only [List.getD, hs, Option.getD_some, Array.getD_eq_getD_getElem?, this]
      exact hr
  | const v => exact R_ofV v
  | global g =>
    simp only [evO, Act.eval]
    split
    · rename_i p hp
      have hm := List.mem_of_find?_eq_some hp
      have he := List.find?_some hp
      simp only [beq_iff_eq] at he
      simp only [SV.R]
      exact ⟨p.1, hg p hm, by rw [he]⟩
    · simp [SV.R]
  | func f => simp only [evO, Act.eval, SV.R]; exact ⟨[], [], rfl, RL_nil, RL_nil⟩
theorem put_R {α : AMap} {tm : List SV} {a : Act} {s : SV} {v : Value} (ht : SV.RL X.G ρ α tm a.tmps.toList) (hr : SV.R X.G ρ α s v) (d : Option Tmp) : SV.RL X.G ρ α (sPut tm d s) (a.put d v).tmps.toList := by
  cases d with
  | none => exact ht
  | some d => simpa [sPut, Act.put] using RL_set d ht hr
theorem put_defers (a : Act) (d : Option Tmp) (v : Value) : (a.put d v).defers = a.defers := by cases d <;> rfl
end
/-! ### in the order of the text -/
def exOps (P : Program) (X : Ctx) (gl : List (Nat × Nat)) (h : Handler) (ops : Array Oper) : List Oper → St → Res St
  | [], st => .ok st
  | o :: rest, st =>
    (sWanted X gl ops st.tmps o).bind fun wt =>
      if wt then (exOper P X gl h st.tmps st.heap o).bind fun r => forceV r.1 fun s => forceL (sPut st.tmps o.dst s) fun tm => if quietOp o then exOps P X gl h ops rest ⟨tm, r.2⟩ else forceL r.2 fun σ => exOps P X gl h ops rest ⟨tm, σ⟩
      else forceL (sPut st.tmps o.dst (.tuple [])) fun tm => exOps P X gl h ops rest ⟨tm, st.heap⟩
section
variable {ρ : Nat → Int} {P : Program} {X : Ctx} {gl : List (Nat × Nat)} {h : Handler}
theorem exOps_wp (hX : X.Ok ρ) (hh : HOk P X ρ gl h) {ops : Array Oper} {Q : Exit → Act → World → Prop} {st' : St} : ∀ (l : List Oper) (st : St) (α : AMap) (a : Act) (w : World), exOps P X gl h ops l st = .ok st' → RelSt X ρ gl α st a w →
    (∀ a' w' α', RelSt X ρ gl α' st' a' w' → Ext st.heap.length st.heap st'.heap α α' w w' → Q .normal a' w') → wpList P ops Q l a w
  | [], st, α, a, w, he, hr, hQ => by
    simp only [exOps] at he
    cases he
    exact hQ a w α hr (Ext.refl _ _ _ _)
  | o :: rest, st, α, a, w, he, hr, hQ => by
    unfold exOps at he
    simp only [forceV_eq, forceL_eq, ite_self] at he
    obtain ⟨wt, h1, he⟩ := Res.bind_ok he
    have hw := sWanted_run (α := α) (a := a) hX h1 (fun g d _ _ => evO_R hr.tmps hr.mem.glob _)
    unfold wpList
    cases wt
    · simp only [Bool.false_eq_true, if_false] at he
      rw [hw]
      simp only [Bool.false_eq_true, if_false]
      exact exOps_wp hX hh rest _ α _ w he ⟨put_R hr.tmps (by simp only [SV.R]; exact ⟨[], rfl, RL_nil⟩) _, by rw [put_defers]; exact hr.defers, hr.mem⟩ hQ
    · simp only [if_true] at he
      obtain ⟨r, h2, he⟩ := Res.bind_ok he
      obtain ⟨s, σ2⟩ := r
      rw [hw]
      simp only [if_true]
      refine .inl (exOper_wp hX hh h2 hr.mem (fun x _ => evO_R hr.tmps hr.mem.glob x) ?_)
      intro v w1 α1 q1 q2 q3
      refine exOps_wp hX hh rest _ α1 _ w1 he ⟨put_R (SV.RL_mono q3.mono _ _ hr.tmps) q1 _, by rw [put_defers]; exact hr.defers, q2⟩ ?_
      intro a' w' α' g1 g2
      exact hQ a' w' α' g1 (q3.trans g2 q3.len)
end
end Sx
end Go.Proofs.Ytnhhphdhkgjbhaa
