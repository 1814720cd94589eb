/- What is proved: a region whose order is drawn, over closed data: whatever order is drawn it is what the text's order gives. No condition. -/
import Derived.Test.YtnhhphdhkgjbhaaSxF
set_option linter.unusedSimpArgs false
set_option linter.unusedVariables false
namespace Go.Proofs.Ytnhhphdhkgjbhaa
namespace Sx
open Go Go.RowKit

/-! which operations come before which, in any order -/
def predsOf (o : Oper) : List Nat := (o.after.toList.filter (Region.binds .any)).map (·.on)
def ancMask (ps : List Nat) (done : List Nat) : Nat := ps.foldl (fun acc d => acc ||| 2 ^ d ||| done.getD d 0) 0
def ancs : List Oper → List Nat → List Nat
  | [], done => done
  | o :: l, done => ancs l (done ++ [ancMask (predsOf o) done])
/-- a set that holds with an operation all that comes before it -/
def Down (ops : Array Oper) (D : Nat → Prop) : Prop := ∀ (j : Nat) (o : Oper), ops[j]? = some o → D j → ∀ d, d ∈ predsOf o → D d
theorem ancMask_spec {D : Nat → Prop} {done : List Nat} (hd : ∀ k m, done[k]? = some m → D k → ∀ j, m.testBit j = true → D j) : ∀ (ps : List Nat) (acc : Nat), (∀ d, d ∈ ps → D d) → (∀ j, acc.testBit j = true → D j) → ∀ j, (ps.foldl (fun acc d => acc ||| 2 ^ d ||| done.getD d 0) acc).testBit j = true → D j
  | [], acc, _, ha, j, hj => ha j hj
  | d :: ps, acc, hp, ha, j, hj => by
    simp only [List.foldl_cons] at hj
    refine ancMask_spec hd ps _ (fun e he => hp e (by simp [he])) ?_ j hj
    intro i hi
    rw [Nat.testBit_or, Nat.testBit_or, Bool.or_eq_true, Bool.or_eq_true] at hi
    rcases hi with (hi | hi) | hi
    · exact ha i hi
    · rw [Nat.testBit_two_pow] at hi
      simp only [decide_eq_true_eq] at hi
      exact hi ▸ hp d (by simp)
    · cases hm : done[d]? with
      | none => simp [List.getD, hm] at hi
      | some m =>
        simp only [List.getD, hm, Option.getD_some] at hi
        exact hd d m hm (hp d (by simp)) i hi
theorem ancs_spec {ops : Array Oper} {D : Nat → Prop} (hD : Down ops D) : ∀ (l : List Oper) (done : List Nat), (∀ j, l[j]? = ops[done.length + j]?) → (∀ k m, done[k]? = some m → D k → ∀ j, m.testBit j = true → D j) →
    ∀ k m, (ancs l done)[k]? = some m → D k → ∀ j, m.testBit j = true → D j
  | [], done, _, hd, k, m, hm, hk, j, hj => hd k m hm hk j hj
  | o :: l, done, hl, hd, k, m, hm, hk, j, hj => by
    refine ancs_spec hD l _ (fun i => by have := hl (i + 1); simpa [Nat.add_assoc, Nat.add_comm 1 i] using this) ?_ k m hm hk j hj
    intro k' m' hm' hk' j' hj'
    rcases Nat.lt_or_ge k' done.length with hlt | hge
    · rw [List.getElem?_append_left hlt] at hm'
      exact hd k' m' hm' hk' j' hj'
    · have he : k' = done.length := by
        rcases Nat.lt_or_ge k' (done.length + 1) with q | q
        · omega
        · rw [List.getElem?_eq_none (by simp; omega)] at hm'; cases hm'
      subst he
      simp at hm'
      subst hm'
      have ho : ops[done.length]? = some o := by have := hl 0; simpa using this.symm
      exact ancMask_spec hd _ 0 (hD _ o ho hk') (by simp) j' hj'
/-- of an operation that may come next: what comes before it has come -/
theorem anc_of_ready {ops : Array Oper} {D : Nat → Prop} (hD : Down ops D) {k m : Nat} {o : Oper} (ho : ops[k]? = some o) (hp : ∀ d, d ∈ predsOf o → D d) (hk : ¬ D k) (hm : (ancs ops.toList [])[k]? = some m) (hself : ∀ d, d ∈ predsOf o → d ≠ k) (hm2 : m.testBit k = false) : ∀ j, m.testBit j = true → D j := by
  intro j hj
  have hD' : Down ops (fun i => D i ∨ i = k) := by
    intro i oi hoi hi d hd
    rcases hi with hi | rfl
    · exact .inl (hD i oi hoi hi d hd)
    · rw [ho] at hoi; cases hoi
      exact .inl (hp d hd)
  rcases ancs_spec hD' ops.toList [] (by simp) (by simp) k m hm (.inr rfl) j hj with h | h
  · exact h
  · rw [h, hm2] at hj; cases hj

/-! the head: operations that change nothing that was there -/
def maskSlots (m : Nat) : Nat → List Blk → List Blk
  | _, [] => []
  | k, b :: l => (if m.testBit k then b else none) :: maskSlots m (k + 1) l
structure HeadOut where
  tm : List SV
  slots : List Blk
  vals : List SV
  rest : List Oper
def isStore (o : Oper) : Bool := match o.op with | .store .. | .mapUpdate .. | .insert .. => true | _ => false
def exHead (P : Program) (X : Ctx) (gl : List (Nat × Nat)) (h : Handler) (ops : Array Oper) (masks : List Nat) (σ : Heap) (lim : Nat) : List Oper → List SV → List Blk → List SV → Res HeadOut
  | [], tm, slots, vals => .ok ⟨tm, slots, vals, []⟩
  | o :: rest, tm, slots, vals =>
    (sWanted X gl ops tm o).bind fun wt =>
      if wt then
        if isStore o || decide (lim ≤ vals.length) then .ok ⟨tm, slots, vals, o :: rest⟩
        else forceL (σ ++ maskSlots (masks.getD vals.length 0) 0 slots) fun M =>
          match exOper P X gl h tm M o with
          | .need b => .need b
          | .fail _ => .ok ⟨tm, slots, vals, o :: rest⟩
          | .ok r =>
            if (addsOp o || Heap.begins M r.2) && o.op.operands.toList.all (fun x => (evO gl tm x).ubd M.length) && gl.all (fun p => decide (p.2 < σ.length)) then
              if r.1.ubd M.length then forceV r.1 fun s => forceL (sPut tm o.dst s) fun tm' => forceL (slots ++ [none]) fun sl => forceL (vals ++ [s]) fun vl => exHead P X gl h ops masks σ lim rest tm' sl vl
              else match r.2.drop M.length with
                | [some c] => if r.1.ubd (M.length + 1) && SV.ubdL (M.length + 1) c.1 then forceV r.1 fun s => forceL (sPut tm o.dst s) fun tm' => forceL (slots ++ [some c]) fun sl => forceL (vals ++ [s]) fun vl => exHead P X gl h ops masks σ lim rest tm' sl vl else .ok ⟨tm, slots, vals, o :: rest⟩
                | _ => .ok ⟨tm, slots, vals, o :: rest⟩
            else .ok ⟨tm, slots, vals, o :: rest⟩
      else forceL (sPut tm o.dst (.tuple [])) fun tm' => forceL (slots ++ [none]) fun sl => forceL (vals ++ [.tuple []]) fun vl => exHead P X gl h ops masks σ lim rest tm' sl vl
/-- the frame in the order of the text, ahead of operation i -/
def canT (ops : Array Oper) (tm : List SV) (vals : List SV) : Nat → List SV
  | 0 => tm
  | i + 1 => sPut (canT ops tm vals i) ((ops[i]?).bind (·.dst)) (vals.getD i (.tuple []))
structure StepOK (P : Program) (X : Ctx) (gl : List (Nat × Nat)) (h : Handler) (ops : Array Oper) (masks : List Nat) (σ : Heap) (tm : List SV) (vals : List SV) (slots : List Blk) (i : Nat) (o : Oper) (wt : Bool) : Prop where
  wanted : sWanted X gl ops (canT ops tm vals i) o = .ok wt
  no : wt = false → vals[i]? = some (.tuple []) ∧ slots[i]? = some none
  yes : wt = true → ∃ s σ', exOper P X gl h (canT ops tm vals i) (σ ++ maskSlots (masks.getD i 0) 0 (slots.take i)) o = .ok (s, σ') ∧ vals[i]? = some s ∧
    (∀ x, x ∈ o.op.operands → (evO gl (canT ops tm vals i) x).ubd (σ.length + i) = true) ∧ SV.ubdH (σ.length + i) (σ ++ maskSlots (masks.getD i 0) 0 (slots.take i)) = true ∧ (∀ p, p ∈ gl → p.2 < σ.length) ∧
    ((σ'.take (σ.length + i) = σ ++ maskSlots (masks.getD i 0) 0 (slots.take i) ∧ s.ubd (σ.length + i) = true ∧ slots[i]? = some none) ∨
      ∃ c, σ' = (σ ++ maskSlots (masks.getD i 0) 0 (slots.take i)) ++ [some c] ∧ s.ubd (σ.length + i + 1) = true ∧ SV.ubdL (σ.length + i + 1) c.1 = true ∧ slots[i]? = some (some c))
theorem length_mask (m : Nat) : ∀ (k : Nat) (l : List Blk), (maskSlots m k l).length = l.length
  | _, [] => rfl
  | k, b :: l => by simp [maskSlots, length_mask m (k + 1) l]
theorem get_mask (m : Nat) : ∀ (k : Nat) (l : List Blk) (i : Nat), (maskSlots m k l)[i]? = (l[i]?).map fun b => if m.testBit (k + i) then b else none
  | _, [], i => by simp [maskSlots]
  | k, b :: l, 0 => by simp [maskSlots]
  | k, b :: l, i + 1 => by
    simp only [maskSlots, List.getElem?_cons_succ, get_mask m (k + 1) l i]
    rw [show k + 1 + i = k + (i + 1) by omega]
theorem canT_append (ops : Array Oper) (tm : List SV) (vals more : List SV) : ∀ i, i ≤ vals.length → canT ops tm (vals ++ more) i = canT ops tm vals i
  | 0, _ => rfl
  | i + 1, h => by
    simp only [canT, canT_append ops tm vals more i (by omega)]
    congr 1
    simp only [List.getD, List.getElem?_append_left (by omega : i < vals.length)]
theorem StepOK.append {P : Program} {X : Ctx} {gl : List (Nat × Nat)} {h : Handler} {ops : Array Oper} {masks : List Nat} {σ : Heap} {tm vals more : List SV} {slots mores : List Blk} {i : Nat} {o : Oper} {wt : Bool}
    (hs : StepOK P X gl h ops masks σ tm vals slots i o wt) (h1 : i < vals.length) (h2 : i < slots.length) : StepOK P X gl h ops masks σ tm (vals ++ more) (slots ++ mores) i o wt := by
  have e1 : canT ops tm (vals ++ more) i = canT ops tm vals i := canT_append ops tm vals more i (by omega)
  have e2 : (slots ++ mores).take i = slots.take i := by rw [List.take_append_of_le_length (by omega)]
  have e3 : (vals ++ more)[i]? = vals[i]? := List.getElem?_append_left h1
  have e4 : (slots ++ mores)[i]? = slots[i]? := List.getElem?_append_left h2
  refine ⟨by rw [e1]; exact hs.wanted, by rw [e3, e4]; exact hs.no, ?_⟩
  rw [e1, e2, e3, e4]
  exact hs.yes
mutual
theorem SV.ubd_le {N M : Nat} (h : N ≤ M) : ∀ s : SV, SV.ubd N s = true → SV.ubd M s = true
  | .bool _, _ => rfl
  | .int _ _, _ => rfl
  | .con _, _ => rfl
  | .ptr _ _, hs => by simp only [SV.ubd, decide_eq_true_eq] at *; omega
  | .map _, hs => by simp only [SV.ubd, decide_eq_true_eq] at *; omega
  | .slice _ _ _ _, hs => by simp only [SV.ubd, decide_eq_true_eq] at *; omega
  | .agg l, hs => by simp only [SV.ubd] at *; exact SV.ubdL_le h l hs
  | .tuple l, hs => by simp only [SV.ubd] at *; exact SV.ubdL_le h l hs
  | .func _ f c, hs => by simp only [SV.ubd, Bool.and_eq_true] at *; exact ⟨SV.ubdL_le h f hs.1, SV.ubdL_le h c hs.2⟩
theorem SV.ubdL_le {N M : Nat} (h : N ≤ M) : ∀ l : List SV, SV.ubdL N l = true → SV.ubdL M l = true
  | [], _ => rfl
  | s :: l, hs => by simp only [SV.ubdL, Bool.and_eq_true] at *; exact ⟨SV.ubd_le h s hs.1, SV.ubdL_le h l hs.2⟩
end
theorem ubdH_all {N : Nat} : ∀ h : Heap, (∀ c T, some (c, T) ∈ h → SV.ubdL N c = true) → SV.ubdH N h = true
  | [], _ => rfl
  | none :: l, hh => by simp only [SV.ubdH]; exact ubdH_all l (fun c T hm => hh c T (by simp [hm]))
  | some (c, T) :: l, hh => by simp only [SV.ubdH, Bool.and_eq_true]; exact ⟨hh c T (by simp), ubdH_all l (fun c T hm => hh c T (by simp [hm]))⟩
theorem ubdH_mem {N : Nat} : ∀ {h : Heap}, SV.ubdH N h = true → ∀ c T, some (c, T) ∈ h → SV.ubdL N c = true
  | [], _, c, T, hm => by simp at hm
  | none :: l, hh, c, T, hm => by simp only [SV.ubdH] at hh; exact ubdH_mem hh c T (by simpa using hm)
  | some (c', T') :: l, hh, c, T, hm => by
    simp only [SV.ubdH, Bool.and_eq_true] at hh
    rcases List.mem_cons.1 hm with e | e
    · cases e; exact hh.1
    · exact ubdH_mem hh.2 c T e
theorem mask_mem {b : List SV × TypeId} : ∀ {m k : Nat} {l : List Blk}, some b ∈ maskSlots m k l → some b ∈ l
  | m, k, [], h => by simp [maskSlots] at h
  | m, k, c :: l, h => by
    simp only [maskSlots, List.mem_cons] at h ⊢
    rcases h with h | h
    · split at h
      · exact .inl h
      · cases h
    · exact .inr (mask_mem h)
theorem take_pure {σ : Heap} {r : Res SV} {q : SV × Heap} (h : (r.bind fun s => Res.ok (s, σ)) = .ok q) : q.2.take σ.length = σ := by
  obtain ⟨_, _, h⟩ := Res.bind_ok h
  cases h; simp
theorem take_ok {σ : Heap} {s : SV} {q : SV × Heap} (h : Res.ok (s, σ) = .ok q) : q.2.take σ.length = σ := by
  cases h; simp
theorem take_more {σ : Heap} {s : SV} {b : Blk} {q : SV × Heap} (h : Res.ok (s, σ ++ [b]) = .ok q) : q.2.take σ.length = σ := by
  cases h; simp
set_option maxHeartbeats 2000000 in
theorem adds_take {P : Program} {X : Ctx} {gl : List (Nat × Nat)} {hd : Handler} {tm : List SV} {σ : Heap} {o : Oper} {r : SV × Heap} (ha : addsOp o = true) (h : exOper P X gl hd tm σ o = .ok r) : r.2.take σ.length = σ := by
  unfold exOper at h
  unfold addsOp at ha
  unfold exOp at h
  generalize evO gl tm = ev at h
  cases hop : o.op <;> rw [hop] at h ha <;> simp only [sMake, sBuildSlice] at h ha <;> first | (cases ha; done) | skip
  all_goals (repeat' (first | exact take_ok h | exact take_more h | exact take_pure h | (exact absurd h (by intro q; cases q)) | split at h | (obtain ⟨_, _, h⟩ := Res.bind_ok h)))
theorem exHead_spec {P : Program} {X : Ctx} {gl : List (Nat × Nat)} {h : Handler} {ops : Array Oper} {masks : List Nat} {σ : Heap} {tm0 : List SV} {lim : Nat} {out : HeadOut} : ∀ (l : List Oper) (tm : List SV) (slots : List Blk) (vals : List SV),
    SV.ubdH σ.length σ = true → exHead P X gl h ops masks σ lim l tm slots vals = .ok out → slots.length = vals.length → l = ops.toList.drop vals.length → tm = canT ops tm0 vals vals.length →
    (∀ i o, i < vals.length → ops[i]? = some o → ∃ wt, StepOK P X gl h ops masks σ tm0 vals slots i o wt) →
    out.slots.length = out.vals.length ∧ out.rest = ops.toList.drop out.vals.length ∧ out.tm = canT ops tm0 out.vals out.vals.length ∧ out.vals.length ≤ max ops.size vals.length ∧
    (∀ i o, i < out.vals.length → ops[i]? = some o → ∃ wt, StepOK P X gl h ops masks σ tm0 out.vals out.slots i o wt)
  | [], tm, slots, vals, hU, he, hl, hd, ht, hs => by
    simp only [exHead] at he
    cases he
    exact ⟨hl, hd, ht, Nat.le_max_right _ _, hs⟩
  | o :: rest, tm, slots, vals, hU, he, hl, hd, ht, hs => by
    have hlt : vals.length < ops.size := by
      rcases Nat.lt_or_ge vals.length ops.size with q | q
      · exact q
      · rw [List.drop_of_length_le (by simpa using q)] at hd; cases hd
    have ho : ops[vals.length]? = some o := by
      have := congrArg (·[0]?) hd
      simp only [List.getElem?_cons_zero, List.getElem?_drop, Nat.add_zero] at this
      simpa using this.symm
    have hrest : rest = ops.toList.drop (vals.length + 1) := by
      have := congrArg (·.drop 1) hd
      simpa using this
    have stop : (⟨tm, slots, vals, o :: rest⟩ : HeadOut) = out → _ := fun e => by
      subst e
      exact (⟨hl, hd, ht, Nat.le_max_right _ _, hs⟩ : slots.length = vals.length ∧ o :: rest = ops.toList.drop vals.length ∧ tm = canT ops tm0 vals vals.length ∧ vals.length ≤ max ops.size vals.length ∧
        (∀ i o, i < vals.length → ops[i]? = some o → ∃ wt, StepOK P X gl h ops masks σ tm0 vals slots i o wt))
    have go : ∀ (s : SV) (b : Blk) (wt : Bool), exHead P X gl h ops masks σ lim rest (sPut tm o.dst s) (slots ++ [b]) (vals ++ [s]) = .ok out → StepOK P X gl h ops masks σ tm0 (vals ++ [s]) (slots ++ [b]) vals.length o wt → _ := fun s b wt h1 h2 => by
      have := exHead_spec (tm0 := tm0) rest (sPut tm o.dst s) (slots ++ [b]) (vals ++ [s]) hU h1 (by simp [hl]) (by simpa using hrest) (by
        rw [List.length_append, List.length_singleton]
        simp only [canT]
        rw [canT_append ops tm0 vals [s] vals.length (Nat.le_refl _), ← ht, ho]
        simp) (fun i oi hi hoi => by
        simp only [List.length_append, List.length_singleton] at hi
        rcases Nat.lt_or_ge i vals.length with q | q
        · obtain ⟨wt', hw⟩ := hs i oi q hoi
          exact ⟨wt', hw.append q (by omega)⟩
        · have : i = vals.length := by omega
          subst this
          rw [ho] at hoi; cases hoi
          exact ⟨wt, h2⟩)
      rw [show max ops.size (vals ++ [s]).length = max ops.size vals.length by simp; omega] at this
      exact this
    have hlen : (σ ++ maskSlots (masks.getD vals.length 0) 0 slots).length = σ.length + vals.length := by simp [length_mask, hl]
    have htk : ∀ b : Blk, (slots ++ [b]).take vals.length = slots := fun b => by rw [← hl]; simp
    have hcan : ∀ s : SV, canT ops tm0 (vals ++ [s]) vals.length = tm := fun s => by rw [canT_append ops tm0 vals [s] vals.length (Nat.le_refl _), ← ht]
    have hv : ∀ s : SV, (vals ++ [s])[vals.length]? = some s := fun s => by simp
    have hb : ∀ b : Blk, (slots ++ [b])[vals.length]? = some b := fun b => by rw [← hl]; simp
    unfold exHead at he
    simp only [forceL_eq, forceV_eq] at he
    obtain ⟨wt, h1, he⟩ := Res.bind_ok he
    have hg2 : SV.ubdH (σ.length + vals.length) (σ ++ maskSlots (masks.getD vals.length 0) 0 slots) = true := by
      refine ubdH_all _ fun c T hm => ?_
      rcases List.mem_append.1 hm with e | e
      · exact SV.ubdL_le (by omega) c (ubdH_mem hU c T e)
      · obtain ⟨i, hi, hc⟩ := List.mem_iff_getElem.1 (mask_mem e)
        have hc' : slots[i]? = some (some (c, T)) := by rw [List.getElem?_eq_getElem hi, hc]
        have hiv : i < vals.length := by omega
        obtain ⟨wt', hw⟩ := hs i ops[i] hiv (by simp)
        cases wt' with
        | false => have := (hw.no rfl).2; rw [hc'] at this; cases this
        | true =>
          obtain ⟨_, _, _, _, _, _, _, h5⟩ := hw.yes rfl
          rcases h5 with ⟨_, _, q⟩ | ⟨c', _, _, q2, q⟩
          · rw [hc'] at q; cases q
          · rw [hc'] at q; cases q
            exact SV.ubdL_le (by omega) c q2
    cases wt
    · simp only [Bool.false_eq_true, if_false] at he
      exact go _ _ false he ⟨by rw [hcan]; exact h1, fun _ => ⟨hv _, hb _⟩, fun e => by cases e⟩
    · simp only [if_true] at he
      split at he
      · cases he; exact stop rfl
      · split at he
        · cases he
        · cases he; exact stop rfl
        · rename_i r hr
          split at he
          · rename_i hg
            simp only [Bool.and_eq_true, List.all_eq_true, decide_eq_true_eq] at hg
            obtain ⟨⟨g1, g3⟩, g4⟩ := hg
            have g2 := hg2
            rw [hlen] at g3
            have g1' : r.2.take (σ ++ maskSlots (masks.getD vals.length 0) 0 slots).length = σ ++ maskSlots (masks.getD vals.length 0) 0 slots := by
              rcases Bool.or_eq_true_iff.1 g1 with g1 | g1
              · exact adds_take g1 hr
              · exact Heap.begins_eq g1
            rw [hlen] at g1'
            split at he
            · rename_i hu
              rw [hlen] at hu
              refine go _ _ true he ⟨by rw [hcan]; exact h1, fun e => (by cases e), fun _ => ⟨r.1, r.2, ?_, hv _, ?_, ?_, fun p hp => g4 p hp, .inl ⟨?_, hu, hb _⟩⟩⟩
              · rw [hcan, htk]; exact hr
              · rw [hcan]; exact fun x hx => g3 x (by simpa using hx)
              · rw [htk]; exact g2
              · rw [htk]; exact g1'
            · split at he
              · rename_i c hc
                split at he
                · rename_i hu
                  simp only [Bool.and_eq_true] at hu
                  rw [hlen] at hu hc
                  refine go _ _ true he ⟨by rw [hcan]; exact h1, fun e => (by cases e), fun _ => ⟨r.1, r.2, ?_, hv _, ?_, ?_, fun p hp => g4 p hp, .inr ⟨c, ?_, hu.1, hu.2, hb _⟩⟩⟩
                  · rw [hcan, htk]; exact hr
                  · rw [hcan]; exact fun x hx => g3 x (by simpa using hx)
                  · rw [htk]; exact g2
                  · rw [htk, ← g1', ← hc]; simp
                · cases he; exact stop rfl
              · cases he; exact stop rfl
          · cases he; exact stop rfl
end Sx
end Go.Proofs.Ytnhhphdhkgjbhaa
