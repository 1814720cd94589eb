/- What is proved: the operations that change nothing that was there may come in any order. No condition. -/
import Derived.Test.YtnhhphdhkgjbhaaSxG
set_option linter.unusedSimpArgs false
set_option linter.unusedVariables false
namespace Go.Proofs.Ytnhhphdhkgjbhaa
namespace Sx
open Go Go.RowKit

def dstOf (ops : Array Oper) (k : Nat) : Option Tmp := (ops[k]?).bind (·.dst)
def slotsD (listed : Array Bool) (slots : List Blk) (m : Nat) : List Blk := (List.range m).map fun k => if listed.getD k false then slots.getD k none else none
/-- an operation that looks at nothing but its own operands -/
def pureOp : Op → Bool
  | .move _ | .assign _ | .pick .. | .binOp .. | .unOp .. | .convert .. | .field .. | .fieldAddr .. | .index .. | .extract .. | .build .. => true
  | _ => false
theorem pureOp_any {P : Program} {X : Ctx} {gl : List (Nat × Nat)} {h : Handler} {tm : List SV} {σ σ' : Heap} {o : Oper} {s : SV} (hp : pureOp o.op = true) (he : exOper P X gl h tm σ o = .ok (s, σ')) (σ2 : Heap) : exOper P X gl h tm σ2 o = .ok (s, σ2) := by
  have key : ∀ r : Res SV, (r.bind fun s => (Res.ok (s, σ) : Res (SV × Heap))) = .ok (s, σ') → (r.bind fun s => (Res.ok (s, σ2) : Res (SV × Heap))) = .ok (s, σ2) := by
    intro r hr
    obtain ⟨x, rfl, h2⟩ := Res.bind_ok hr
    cases h2
    rfl
  unfold exOper at he ⊢
  cases hop : o.op <;> rw [hop] at hp <;> simp only [pureOp] at hp <;> simp only [hop] at he ⊢ <;> unfold exOp at he ⊢ <;> simp only [hop] at he ⊢ <;> first
    | (cases hp; done)
    | exact key _ he
    | (cases he; rfl; done)
    | skip
  all_goals repeat' split at he
  all_goals first
    | (cases he; done)
    | (cases he; simp only [*]; done)
    | (simp only [*]; exact key _ he)
    | (simp only [*, if_false, if_true, Bool.false_eq_true]; cases he; rfl)
    | (obtain ⟨x, h1, h2⟩ := Res.bind_ok he; cases h2; simp only [*]; rfl)
def isLoad (o : Op) : Bool := match o with | .load _ _ => true | _ => false
theorem load_same {P : Program} {X : Ctx} {gl : List (Nat × Nat)} {h : Handler} {tm : List SV} {σ σ' : Heap} {o : Oper} {s : SV} (hp : isLoad o.op = true) (he : exOper P X gl h tm σ o = .ok (s, σ')) : σ' = σ := by
  cases hop : o.op <;> rw [hop] at hp <;> simp only [isLoad] at hp <;> first | (cases hp; done) | skip
  unfold exOper at he
  simp only [hop] at he
  unfold exOp at he
  simp only [hop] at he
  split at he
  · split at he
    · split at he
      · cases he
      · obtain ⟨_, _, he⟩ := Res.bind_ok he
        cases he; rfl
    · cases he
  · cases he
theorem load_tm {P : Program} {X : Ctx} {gl : List (Nat × Nat)} {h : Handler} {tm tm' : List SV} {σ : Heap} {o : Oper} (hp : isLoad o.op = true) (hx : ∀ x, x ∈ o.op.operands → evO gl tm x = evO gl tm' x) : exOper P X gl h tm σ o = exOper P X gl h tm' σ o := by
  cases hop : o.op <;> rw [hop] at hp <;> simp only [isLoad] at hp <;> first | (cases hp; done) | skip
  rename_i t x
  have e := hx x (by rw [hop]; simp [Op.operands])
  unfold exOper
  simp only [hop]
  unfold exOp
  simp only [hop, e]
/-- operations of the head that some operation behind it need not wait for -/
def lateOf (n m : Nat) (masks : List Nat) : List Nat := (List.range m).filter fun j => !(List.range n).all fun k => decide (k < m) || (masks.getD k 0).testBit j
def lateB (ops : Array Oper) (masks : List Nat) (m : Nat) (late : List Nat) : Bool :=
  (late.all fun j => decide (j < m) && match ops[j]? with
    | some o => o.guard.isNone && (pureOp o.op || isLoad o.op) && (List.range ops.size).all fun k => match ops[k]? with
      | some ok => (k == j || match o.dst with
          | some u => decide (ok.dst ≠ some u) && (decide (k < m) || !(ok.looksAt ops).contains u || (masks.getD k 0).testBit j)
          | none => true) && (decide (k < j) || match ok.dst with
          | some v => !(o.looksAt ops).contains v
          | none => true)
      | none => true
    | none => false)
structure LateOK (ops : Array Oper) (m : Nat) (late : List Nat) : Prop where
  lt : ∀ j, j ∈ late → j < m
  self : ∀ j o, j ∈ late → ops[j]? = some o → o.guard = none ∧ (pureOp o.op = true ∨ isLoad o.op = true)
  dst : ∀ j o k ok u, j ∈ late → ops[j]? = some o → ops[k]? = some ok → k ≠ j → o.dst = some u → ok.dst ≠ some u ∧ (k < m ∨ u ∉ ok.looksAt ops ∨ ((ancs ops.toList []).getD k 0).testBit j = true)
  reads : ∀ j o k ok v, j ∈ late → ops[j]? = some o → ops[k]? = some ok → ok.dst = some v → v ∈ o.looksAt ops → k < j
theorem lateB_spec {ops : Array Oper} {m : Nat} {late : List Nat} (h : lateB ops (ancs ops.toList []) m late = true) : LateOK ops m late := by
  unfold lateB at h
  rw [List.all_eq_true] at h
  have lt : ∀ (k : Nat) (o : Oper), ops[k]? = some o → k < ops.size := fun k o ho => (Array.getElem?_eq_some_iff.1 ho).1
  have get : ∀ j o, j ∈ late → ops[j]? = some o → _ := fun j o hj ho => (by
    have := h j hj
    rw [ho] at this
    simp only [Bool.and_eq_true, List.all_eq_true, List.mem_range] at this
    exact this.2)
  refine ⟨?_, ?_, ?_, ?_⟩
  · intro j hj
    have := h j hj
    simp only [Bool.and_eq_true, decide_eq_true_eq] at this
    exact this.1
  · intro j o hj ho
    have := (get j o hj ho).1
    exact ⟨by simpa using this.1, by simpa using this.2⟩
  · intro j o k ok u hj ho hk hkj hu
    have := (get j o hj ho).2 k (lt k ok hk)
    rw [hk, hu] at this
    simp only [Bool.and_eq_true, Bool.or_eq_true, beq_iff_eq, hkj, false_or, decide_eq_true_eq, Bool.not_eq_true', List.contains_eq_mem, decide_eq_false_iff_not] at this
    obtain ⟨⟨a, b⟩, _⟩ := this
    refine ⟨a, ?_⟩
    rcases b with (b | b) | b
    · exact .inl b
    · exact .inr (.inl b)
    · exact .inr (.inr b)
  · intro j o k ok v hj ho hk hv hr
    have := (get j o hj ho).2 k (lt k ok hk)
    rw [hk] at this
    dsimp only at this
    rw [hv] at this
    simp only [Bool.and_eq_true, Bool.or_eq_true, decide_eq_true_eq, Bool.not_eq_true', List.contains_eq_mem, decide_eq_false_iff_not] at this
    rcases this.2 with q | q
    · exact q
    · exact absurd hr q
def headB (ops : Array Oper) (masks : List Nat) (m : Nat) (late : List Nat) : Bool :=
  decide (m ≤ ops.size) && Region.noSelect ops && (List.range ops.size).all fun k =>
    match ops[k]?, masks[k]? with
    | some o, some mk =>
      (predsOf o).all (fun d => decide (d < k)) && !mk.testBit k &&
        (if k < m then (List.range m).all fun j => j == k || match dstOf ops j with
          | some t => decide (o.dst ≠ some t) && (!(o.looksAt ops).contains t || (decide (j < k) && mk.testBit j) || (decide (k < j) && (masks.getD j 0).testBit k))
          | none => true
        else (List.range m).all fun j => late.contains j || mk.testBit j)
    | _, _ => false
structure HeadOK (ops : Array Oper) (m : Nat) (late : List Nat) : Prop where
  le : m ≤ ops.size
  nosel : Region.noSelect ops = true
  preds : ∀ (k : Nat) (o : Oper), ops[k]? = some o → ∀ d, d ∈ predsOf o → d < k
  mask : ∀ (k : Nat) (o : Oper), ops[k]? = some o → ∃ mk, (ancs ops.toList [])[k]? = some mk ∧ mk.testBit k = false
  dsts : ∀ (k j : Nat) (o : Oper) (t : Tmp), k < m → j < m → j ≠ k → ops[k]? = some o → dstOf ops j = some t → o.dst ≠ some t ∧
    (t ∉ o.looksAt ops ∨ (j < k ∧ ((ancs ops.toList []).getD k 0).testBit j = true) ∨ (k < j ∧ ((ancs ops.toList []).getD j 0).testBit k = true))
  tail : ∀ (k j : Nat) (o : Oper), m ≤ k → ops[k]? = some o → j < m → j ∉ late → ((ancs ops.toList []).getD k 0).testBit j = true
theorem headB_spec {ops : Array Oper} {m : Nat} {late : List Nat} (h : headB ops (ancs ops.toList []) m late = true) : HeadOK ops m late := by
  unfold headB at h
  simp only [Bool.and_eq_true, decide_eq_true_eq, List.all_eq_true, List.mem_range] at h
  obtain ⟨⟨h1, h2⟩, h3⟩ := h
  have lt : ∀ (k : Nat) (o : Oper), ops[k]? = some o → k < ops.size := fun k o ho => (Array.getElem?_eq_some_iff.1 ho).1
  refine ⟨h1, h2, ?_, ?_, ?_, ?_⟩
  · intro k o ho d hd
    have := h3 k (lt k o ho)
    rw [ho] at this
    split at this
    · rename_i o' mk e1 e2
      cases e1
      simp only [Bool.and_eq_true, List.all_eq_true, decide_eq_true_eq] at this
      exact this.1.1 d hd
    · cases this
  · intro k o ho
    have := h3 k (lt k o ho)
    rw [ho] at this
    split at this
    · rename_i o' mk e1 e2
      cases e1
      simp only [Bool.and_eq_true, Bool.not_eq_true'] at this
      exact ⟨mk, e2, this.1.2⟩
    · cases this
  · intro k j o t hk hj hjk ho hd
    have := h3 k (lt k o ho)
    rw [ho] at this
    split at this
    · rename_i o' mk e1 e2
      cases e1
      simp only [Bool.and_eq_true, hk, if_true, List.all_eq_true, List.mem_range] at this
      have h4 := this.2 j hj
      simp only [Bool.or_eq_true, beq_iff_eq, hjk, false_or] at h4
      rw [hd] at h4
      simp only [Bool.and_eq_true, decide_eq_true_eq, Bool.or_eq_true, Bool.not_eq_true', List.contains_eq_mem, decide_eq_false_iff_not] at h4
      have e3 : (ancs ops.toList []).getD k 0 = mk := by simp [List.getD, e2]
      rw [e3]
      refine ⟨h4.1, ?_⟩
      rcases h4.2 with (h5 | h5) | h5
      · exact .inl h5
      · exact .inr (.inl h5)
      · exact .inr (.inr h5)
    · cases this
  · intro k j o hk ho hj hl
    have := h3 k (lt k o ho)
    rw [ho] at this
    split at this
    · rename_i o' mk e1 e2
      cases e1
      simp only [Bool.and_eq_true, Nat.not_lt.2 hk, if_false, List.all_eq_true, List.mem_range] at this
      have e3 : (ancs ops.toList []).getD k 0 = mk := by simp [List.getD, e2]
      rw [e3]
      have := this.2 j hj
      simpa [hl] using this
    · cases this
section
variable (P : Program) (X : Ctx) (ρ : Nat → Int) (gl : List (Nat × Nat)) (ops : Array Oper) (σ : Heap) (tm0 vals : List SV) (slots : List Blk) (α0 : AMap) (w0 : World)
structure InvA (listed : Array Bool) (a : Act) (w : World) (α : AMap) : Prop where
  size : listed.size = ops.size
  down : Down ops (fun j => listed.getD j false = true)
  tail : ∀ k, vals.length ≤ k → listed.getD k false = false
  defers : a.defers = []
  tsize : a.tmps.size = tm0.length
  tmp : ∀ (t : Nat) (v : Value), a.tmps[t]? = some v → ((∀ k, k < vals.length → listed.getD k false = true → dstOf ops k ≠ some t) → SV.R X.G ρ α (tm0.getD t (.tuple [])) v) ∧
    ∀ k, k < vals.length → listed.getD k false = true → dstOf ops k = some t → SV.R X.G ρ α (vals.getD k (.tuple [])) v
  mem : RelW X.G ρ gl α (σ ++ slotsD listed slots vals.length) w
  ext : Ext σ.length σ (σ ++ slotsD listed slots vals.length) α0 α w0 w
  unset : ∀ k, k < vals.length → listed.getD k false = false → α (σ.length + k) = none
end
section
variable {P : Program} {X : Ctx} {ρ : Nat → Int} {gl : List (Nat × Nat)} {h : Handler} {ops : Array Oper} {σ : Heap} {tm0 vals : List SV} {slots : List Blk} {α0 : AMap} {w0 : World}
theorem length_sPut (tm : List SV) (d : Option Tmp) (s : SV) : (sPut tm d s).length = tm.length := by cases d <;> simp [sPut]
theorem length_canT (ops : Array Oper) (tm vals : List SV) : ∀ i, (canT ops tm vals i).length = tm.length
  | 0 => rfl
  | i + 1 => by simp [canT, length_sPut, length_canT ops tm vals i]
/-- the frame ahead of operation i, place by place -/
theorem canT_get (hd : ∀ k j t, k < vals.length → j < vals.length → j ≠ k → dstOf ops j = some t → dstOf ops k ≠ some t) {t : Nat} (ht : t < tm0.length) : ∀ i, i ≤ vals.length →
    ((∀ k, k < i → dstOf ops k ≠ some t) → (canT ops tm0 vals i).getD t (.tuple []) = tm0.getD t (.tuple [])) ∧ (∀ k, k < i → dstOf ops k = some t → (canT ops tm0 vals i).getD t (.tuple []) = vals.getD k (.tuple []))
  | 0, _ => ⟨fun _ => rfl, fun k hk => by omega⟩
  | i + 1, hi => by
    obtain ⟨ih1, ih2⟩ := canT_get hd ht i (by omega)
    have hlen := length_canT ops tm0 vals i
    have step : ∀ d : Option Tmp, dstOf ops i = d → canT ops tm0 vals (i + 1) = sPut (canT ops tm0 vals i) d (vals.getD i (.tuple [])) := fun d e => by simp only [canT]; rw [← e]; rfl
    refine ⟨fun hn => ?_, fun k hk hkt => ?_⟩
    · rw [step _ rfl]
      have := ih1 (fun k hk => hn k (by omega))
      cases hdi : dstOf ops i with
      | none => exact this
      | some u =>
        have hut : u ≠ t := fun e => hn i (by omega) (by rw [hdi, e])
        simp only [sPut, List.getD, List.getElem?_set_ne hut]
        exact this
    · rw [step _ rfl]
      rcases Nat.lt_or_ge k i with hki | hki
      · have := ih2 k hki hkt
        cases hdi : dstOf ops i with
        | none => exact this
        | some u =>
          have hut : u ≠ t := fun e => hd k i t (by omega) (by omega) (by omega) (by rw [hdi, e]) hkt
          simp only [sPut, List.getD, List.getElem?_set_ne hut]
          exact this
      · have : k = i := by omega
        subst this
        rw [hkt]
        simp only [sPut, List.getD]
        rw [List.getElem?_set_self (by omega)]
        rfl
theorem getD_set {listed : Array Bool} {i k : Nat} (hi : i < listed.size) : (listed.setIfInBounds i true).getD k false = if k = i then true else listed.getD k false := by
  by_cases h : k = i
  · subst h; simp [hi]
  · rw [getD_set_ne false (fun e => h e.symm), if_neg h]
theorem slotsD_get (listed : Array Bool) (slots : List Blk) (m k : Nat) (hk : k < m) : (slotsD listed slots m)[k]? = some (if listed.getD k false then slots.getD k none else none) := by
  simp [slotsD, hk]
theorem length_slotsD (listed : Array Bool) (slots : List Blk) (m : Nat) : (slotsD listed slots m).length = m := by simp [slotsD]
theorem slotsD_set {listed : Array Bool} {slots : List Blk} {m i : Nat} (hi : i < m) (hs : i < listed.size) (hl : listed.getD i false = false) : slotsD (listed.setIfInBounds i true) slots m = (slotsD listed slots m).set i (slots.getD i none) := by
  apply List.ext_getElem?
  intro k
  by_cases hk : k < m
  · rw [slotsD_get _ _ _ _ hk]
    by_cases e : k = i
    · subst e
      rw [List.getElem?_set_self (by rw [length_slotsD]; exact hi), getD_set hs, if_pos rfl]
      rfl
    · rw [List.getElem?_set_ne (fun q => e q.symm), slotsD_get _ _ _ _ hk, getD_set hs, if_neg e]
  · rw [List.getElem?_eq_none (by rw [length_slotsD]; omega), List.getElem?_eq_none (by simp [length_slotsD]; omega)]
theorem set_behind (l r : List Blk) (i : Nat) (x : Blk) : (l ++ r).set (l.length + i) x = l ++ r.set i x := by
  rw [List.set_append, if_neg (by omega), show l.length + i - l.length = i by omega]
theorem head_step (hX : X.Ok ρ) (hh : HOk P X ρ gl h) {late : List Nat} (hO : HeadOK ops vals.length late) (hls : slots.length = vals.length)
    (hS : ∀ i o, i < vals.length → ops[i]? = some o → ∃ wt, StepOK P X gl h ops (ancs ops.toList []) σ tm0 vals slots i o wt)
    {Q : Exit → Act → World → Prop} {listed : Array Bool} {a : Act} {w : World} {α : AMap} {i : Nat} (inv : InvA X ρ gl ops σ tm0 vals slots α0 w0 listed a w α) (hr : i ∈ Region.ready .any ops listed) (hi : i < vals.length) :
    wpOp P ops Q i (fun a' w' => ∃ α', InvA X ρ gl ops σ tm0 vals slots α0 w0 (listed.setIfInBounds i true) a' w' α') a w := by
  obtain ⟨hun, o, ho, hall⟩ := mem_ready.1 hr
  have hiL : i < listed.size := by rw [inv.size]; have := hO.le; omega
  have hunf : listed.getD i false = false := getD_both hun
  have hpre : ∀ d, d ∈ predsOf o → listed.getD d false = true := by
    intro d hd
    unfold predsOf at hd
    obtain ⟨e, he, rfl⟩ := List.mem_map.1 hd
    have he' := List.mem_filter.1 he
    exact hall e (by simpa using he'.1) he'.2
  obtain ⟨mk, hmk, hself⟩ := hO.mask i o ho
  have hmkD : (ancs ops.toList []).getD i 0 = mk := by simp [List.getD, hmk]
  have hanc : ∀ j, mk.testBit j = true → listed.getD j false = true :=
    anc_of_ready inv.down ho hpre (by rw [hunf]; simp) hmk (fun d hd => Nat.ne_of_lt (hO.preds i o ho d hd)) hself
  have hdst : ∀ k j t, k < vals.length → j < vals.length → j ≠ k → dstOf ops j = some t → dstOf ops k ≠ some t := by
    intro k j t hk hj hjk hd
    obtain ⟨ok, hok⟩ : ∃ ok, ops[k]? = some ok := ⟨ops[k]'(by have := hO.le; omega), by simp [show k < ops.size by have := hO.le; omega]⟩
    have := (hO.dsts k j ok t hk hj hjk hok hd).1
    unfold dstOf
    rw [hok]; exact this
  obtain ⟨wt, st⟩ := hS i o hi ho
  -- the temporaries that are looked at
  have looks : ∀ t, t ∈ o.looksAt ops → SV.R X.G ρ α (evO gl (canT ops tm0 vals i) (.tmp t)) (a.eval (.tmp t)) := by
    intro t ht
    simp only [evO, Act.eval]
    by_cases hlt : t < tm0.length
    · have hat : t < a.tmps.size := by rw [inv.tsize]; exact hlt
      have hget : a.tmps[t]? = some a.tmps[t] := by simp [hat]
      rw [show a.tmps.getD t undef = a.tmps[t] by simp [hat]]
      obtain ⟨c1, c2⟩ := canT_get (ops := ops) (tm0 := tm0) (vals := vals) hdst hlt i (by omega)
      obtain ⟨t1, t2⟩ := inv.tmp t _ hget
      by_cases hex : ∃ k, k < i ∧ dstOf ops k = some t
      · obtain ⟨k, hk, hkt⟩ := hex
        rw [c2 k hk hkt]
        refine t2 k (by omega) ?_ hkt
        rcases (hO.dsts i k o t hi (by omega) (by omega) ho hkt).2 with q | ⟨_, q⟩ | ⟨q, _⟩
        · exact absurd ht q
        · rw [hmkD] at q; exact hanc k q
        · omega
      · have hno : ∀ k, k < i → dstOf ops k ≠ some t := fun k hk e => hex ⟨k, hk, e⟩
        rw [c1 hno]
        refine t1 ?_
        intro k hk hl hkt
        rcases Nat.lt_trichotomy k i with q | q | q
        · exact hno k q hkt
        · subst q; rw [hunf] at hl; cases hl
        · rcases (hO.dsts i k o t hi hk (by omega) ho hkt).2 with p | ⟨p, _⟩ | ⟨_, p⟩
          · exact p ht
          · omega
          · obtain ⟨ok, hok⟩ : ∃ ok, ops[k]? = some ok := by
              unfold dstOf at hkt
              cases hq : ops[k]? with
              | none => rw [hq] at hkt; cases hkt
              | some ok => exact ⟨ok, rfl⟩
            obtain ⟨mj, hmj, _⟩ := hO.mask k ok hok
            rw [show (ancs ops.toList []).getD k 0 = mj by simp [List.getD, hmj]] at p
            have := ancs_spec inv.down ops.toList [] (by simp) (by simp) k mj hmj hl i p
            rw [hunf] at this; cases this
    · have e1 : (canT ops tm0 vals i)[t]? = none := List.getElem?_eq_none (by rw [length_canT]; exact Nat.le_of_not_lt hlt)
      have e2 : a.tmps[t]? = none := Array.getElem?_eq_none (by rw [inv.tsize]; exact Nat.le_of_not_lt hlt)
      simp only [List.getD, e1, Option.getD_none, Array.getD_eq_getD_getElem?, e2]
      simp only [SV.R]; exact ⟨[], rfl, RL_nil⟩
  have hop : ∀ x, x ∈ o.op.operands → SV.R X.G ρ α (evO gl (canT ops tm0 vals i) x) (a.eval x) := by
    intro x hx
    cases x with
    | tmp t =>
      refine looks t ?_
      unfold Oper.looksAt
      exact List.mem_append_left _ (List.mem_filterMap.2 ⟨.tmp t, by simpa using hx, rfl⟩)
    | const v => exact R_ofV v
    | global g =>
      have := evO_R (X := X) (ρ := ρ) (gl := gl) (α := α) (tm := []) (a := ⟨#[], []⟩) (by simpa using RL_nil) inv.mem.glob (.global g)
      exact this
    | func f => simp only [evO, Act.eval, SV.R]; exact ⟨[], [], rfl, RL_nil, RL_nil⟩
  have hwant : Region.wanted o (yielded ops a.tmps) = wt := by
    refine sWanted_run (α := α) hX st.wanted ?_
    intro g d hg hd
    refine looks d ?_
    unfold Oper.looksAt
    refine List.mem_append_right _ ?_
    rw [hg]
    simp [hd]
  have hdsti : dstOf ops i = o.dst := by unfold dstOf; rw [ho]; rfl
  -- what any value that fits does to the state
  have fin : ∀ (v : Value) (w' : World) (α' : AMap), (∀ id b, α id = some b → α' id = some b) → SV.R X.G ρ α' (vals.getD i (.tuple [])) v → RelW X.G ρ gl α' (σ ++ slotsD (listed.setIfInBounds i true) slots vals.length) w' →
      Ext σ.length σ (σ ++ slotsD (listed.setIfInBounds i true) slots vals.length) α0 α' w0 w' → (∀ k, k < vals.length → k ≠ i → α' (σ.length + k) = α (σ.length + k)) →
      InvA X ρ gl ops σ tm0 vals slots α0 w0 (listed.setIfInBounds i true) (a.put o.dst v) w' α' := by
    intro v w' α' mono hv hmem hext hα
    refine ⟨by simp [inv.size], ?_, ?_, by rw [put_defers]; exact inv.defers, ?_, ?_, hmem, hext, ?_⟩
    · intro j oj hoj hj d hd
      rw [getD_set hiL] at hj ⊢
      by_cases e : j = i
      · subst e
        rw [ho] at hoj; cases hoj
        have h1 := hpre d hd
        split
        · rfl
        · exact h1
      · rw [if_neg e] at hj
        have h1 := inv.down j oj hoj hj d hd
        split
        · rfl
        · exact h1
    · intro k hk
      rw [getD_set hiL, if_neg (by omega)]
      exact inv.tail k hk
    · cases o.dst <;> simp [Act.put, inv.tsize]
    · intro t u hu
      by_cases ht : o.dst = some t
      · have huv : u = v := by
          rw [ht] at hu
          simp only [Act.put] at hu
          rw [Array.getElem?_setIfInBounds] at hu
          simp at hu
          exact hu.2.symm
        subst huv
        refine ⟨fun hn => absurd (hdsti.trans ht) (hn i hi (by rw [getD_set hiL, if_pos rfl])), ?_⟩
        intro k hk hl hkt
        by_cases e : k = i
        · subst e; exact hv
        · exact absurd (hdsti.trans ht) (hdst i k t hi hk e hkt)
      · have hu' : a.tmps[t]? = some u := by
          cases hd : o.dst with
          | none => rw [hd] at hu; exact hu
          | some d =>
            rw [hd] at hu
            simp only [Act.put] at hu
            rwa [Array.getElem?_setIfInBounds_ne (fun e => ht (by rw [hd, e]))] at hu
        obtain ⟨t1, t2⟩ := inv.tmp t u hu'
        refine ⟨fun hn => SV.R_mono mono _ _ (t1 fun k hk hl => hn k hk ?_), ?_⟩
        · rw [getD_set hiL]; split
          · rfl
          · exact hl
        · intro k hk hl hkt
          by_cases e : k = i
          · subst e; rw [hdsti] at hkt; exact absurd hkt ht
          · rw [getD_set hiL, if_neg e] at hl
            exact SV.R_mono mono _ _ (t2 k hk hl hkt)
    · intro k hk hl
      have e : k ≠ i := fun q => by rw [getD_set hiL, if_pos q] at hl; cases hl
      rw [getD_set hiL, if_neg e] at hl
      rw [hα k hk e]
      exact inv.unset k hk hl
  unfold wpOp
  rw [ho]
  simp only
  cases wt
  · rw [hwant]
    simp only [Bool.false_eq_true, if_false]
    obtain ⟨n1, n2⟩ := st.no rfl
    have hsl : slots.getD i none = none := by simp [List.getD, n2]
    have hsD : slotsD (listed.setIfInBounds i true) slots vals.length = slotsD listed slots vals.length := by
      rw [slotsD_set hi hiL hunf, hsl]
      apply List.ext_getElem?
      intro k
      by_cases e : k = i
      · subst e
        rw [List.getElem?_set_self (by rw [length_slotsD]; exact hi), slotsD_get _ _ _ _ hi, hunf]; rfl
      · rw [List.getElem?_set_ne (fun q => e q.symm)]
    refine ⟨α, fin undef w α (fun _ _ e => e) ?_ (by rw [hsD]; exact inv.mem) (by rw [hsD]; exact inv.ext) (fun _ _ _ => rfl)⟩
    simp only [List.getD, n1, Option.getD_some, SV.R]
    exact ⟨[], rfl, RL_nil⟩
  · rw [hwant]
    simp only [if_true]
    refine .inl ?_
    obtain ⟨s, σ', e1, e2, e3, e4, e5, e6⟩ := st.yes rfl
    generalize hM : σ ++ maskSlots ((ancs ops.toList []).getD i 0) 0 (slots.take i) = M at e1 e4 e6
    have hMl : M.length = σ.length + i := by rw [← hM]; simp [length_mask]; omega
    have hvi : vals.getD i (.tuple []) = s := by simp [List.getD, e2]
    have hPart : Part M (σ ++ slotsD listed slots vals.length) := by
      refine ⟨by rw [hMl]; simp [length_slotsD]; omega, ?_⟩
      intro id hid
      rw [hMl] at hid
      rw [← hM]
      rcases Nat.lt_or_ge id σ.length with q | q
      · left
        rw [List.getElem?_append_left q, List.getElem?_append_left q]
      · have hji : id - σ.length < i := by omega
        rw [List.getElem?_append_right q, List.getElem?_append_right q, get_mask, slotsD_get _ _ _ _ (by omega)]
        have hsj : (slots.take i)[id - σ.length]? = some (slots.getD (id - σ.length) none) := by
          rw [List.getElem?_take, if_pos hji, List.getD, List.getElem?_eq_getElem (by omega)]; rfl
        rw [hsj, hmkD]
        simp only [Option.map_some, Nat.zero_add]
        cases hb : mk.testBit (id - σ.length)
        · right; rfl
        · left
          rw [hanc _ hb]
    have hRM := inv.mem.part hPart (by rw [hMl]; exact e4) (fun p hp => by rw [hMl]; have := e5 p hp; omega)
    have hopM : ∀ x, x ∈ o.op.operands → SV.R X.G ρ (cutA M.length α) (evO gl (canT ops tm0 vals i) x) (a.eval x) := fun x hx =>
      SV.R_agree M.length (fun id b hid e => cutA_of e hid) _ _ (by rw [hMl]; exact e3 x hx) (hop x hx)
    refine exOper_wp hX hh e1 hRM hopM ?_
    intro v w' α1 q1 q2 q3
    have hub : σ.length + i < (σ ++ slotsD listed slots vals.length).length := by simp [length_slotsD]; omega
    rcases e6 with ⟨f1, f2, f3⟩ | ⟨c, f1, f2, f3, f4⟩
    · obtain ⟨r1, r2, r3⟩ := frame_same inv.mem hPart (by rw [hMl]; exact e4) q3 q2 (by rw [hMl]; exact f1) (by rw [hMl]; exact f2) q1 (fun p hp => by rw [hMl]; have := e5 p hp; omega)
      have hsl : slots.getD i none = none := by simp [List.getD, f3]
      have hsD : slotsD (listed.setIfInBounds i true) slots vals.length = slotsD listed slots vals.length := by
        rw [slotsD_set hi hiL hunf, hsl]
        apply List.ext_getElem?
        intro k
        by_cases e : k = i
        · subst e
          rw [List.getElem?_set_self (by rw [length_slotsD]; exact hi), slotsD_get _ _ _ _ hi, hunf]; rfl
        · rw [List.getElem?_set_ne (fun q => e q.symm)]
      exact ⟨α, fin v w' α (fun _ _ e => e) (by rw [hvi]; exact r3) (by rw [hsD]; exact r1) (by rw [hsD]; exact inv.ext.trans r2 (by rw [hMl]; omega)) (fun _ _ _ => rfl)⟩
    · have hFn : (σ ++ slotsD listed slots vals.length)[M.length]? = some none := by
        rw [hMl, List.getElem?_append_right (by omega), show σ.length + i - σ.length = i by omega, slotsD_get _ _ _ _ hi, hunf]; rfl
      obtain ⟨α', r1, r2, r3, r4⟩ := frame_new inv.mem hPart (by rw [hMl]; exact e4) q3 q2 f1 (by rw [hMl]; exact f2) (by rw [hMl]; exact f3) q1 (fun p hp => by rw [hMl]; have := e5 p hp; omega) hFn (by rw [hMl]; exact inv.unset i hi hunf)
      have hsl : slots.getD i none = some c := by simp [List.getD, f4]
      have hsD : (σ ++ slotsD listed slots vals.length).set M.length (some c) = σ ++ slotsD (listed.setIfInBounds i true) slots vals.length := by
        rw [slotsD_set hi hiL hunf, hsl, hMl]
        exact set_behind σ _ _ _
      rw [hsD] at r1 r2
      refine ⟨α', fin v w' α' r2.mono (by rw [hvi]; exact r3) r1 (inv.ext.trans r2 (by rw [hMl]; omega)) (fun k _ hk => r4 _ (by rw [hMl]; omega))⟩
end
end Sx
end Go.Proofs.Ytnhhphdhkgjbhaa
