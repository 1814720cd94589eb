/- What is proved: a piece of code over closed data is what the model does; so is a call of a function. No condition. -/
import Derived.Test.YtnffpaenalccaaaDoorQg1
set_option linter.unusedSimpArgs false
set_option linter.unusedVariables false
namespace Go.Proofs.YtnffpaenalccaaaDoor
namespace Sx
open Go Go.RowKit

def exStep (P : Program) (X : Ctx) (gl : List (Nat × Nat)) (h : Handler) (ops : Array Oper) (k : Nat) (st : St) : Res St :=
  match ops[k]? with
  | none => .fail 114
  | some o =>
    (sWanted X gl ops st.tmps o).bind fun wt =>
      if wt then (exOper P X gl h st.tmps st.heap o).bind fun r => forceV r.1 fun s => forceL (sPut st.tmps o.dst s) fun tm => forceL r.2 fun σ => .ok ⟨tm, σ⟩
      else forceL (sPut st.tmps o.dst (.tuple [])) fun tm => .ok ⟨tm, st.heap⟩
def Heap.eqb : Heap → Heap → Bool
  | [], [] => true
  | a :: l, b :: r => Blk.eqb a b && Heap.eqb l r
  | _, _ => false
theorem Heap.eqb_eq : ∀ {a b : Heap}, Heap.eqb a b = true → a = b
  | [], [], _ => rfl
  | a :: l, b :: r, h => by
    simp only [Heap.eqb, Bool.and_eq_true] at h
    rw [Blk.eqb_eq h.1, Heap.eqb_eq h.2]
  | [], _ :: _, h => by simp [Heap.eqb] at h
  | _ :: _, [], h => by simp [Heap.eqb] at h
def St.eqb (a b : St) : Bool := SV.eqbL a.tmps b.tmps && Heap.eqb a.heap b.heap
theorem St.eqb_eq {a b : St} (h : St.eqb a b = true) : a = b := by
  unfold St.eqb at h
  simp only [Bool.and_eq_true] at h
  cases a; cases b
  simp only at h
  rw [SV.eqbL_eq _ _ h.1, Heap.eqb_eq h.2]
def freeOf (ops : Array Oper) (rem : List Nat) : List Nat := rem.filter fun k => match ops[k]? with
  | some o => (predsOf o).all fun d => !rem.contains d
  | none => false
def insM (x : List Nat × St) : List (List Nat × St) → Res (List (List Nat × St))
  | [] => .ok [x]
  | y :: l => if x.1 = y.1 then (if St.eqb x.2 y.2 then .ok (y :: l) else .fail 117) else (insM x l).bind fun l' => .ok (y :: l')
theorem insM_spec {x : List Nat × St} : ∀ {l l' : List (List Nat × St)}, insM x l = .ok l' → x ∈ l' ∧ ∀ y, y ∈ l → y ∈ l'
  | [], l', h => by simp only [insM] at h; cases h; simp
  | y :: l, l', h => by
    unfold insM at h
    split at h
    · rename_i he
      split at h
      · rename_i hq
        cases h
        have : x = y := Prod.ext he (St.eqb_eq hq)
        subst this
        exact ⟨by simp, fun z hz => hz⟩
      · cases h
    · obtain ⟨l2, h2, h⟩ := Res.bind_ok h
      cases h
      obtain ⟨q1, q2⟩ := insM_spec h2
      refine ⟨by simp [q1], ?_⟩
      intro z hz
      rcases List.mem_cons.1 hz with rfl | hz
      · simp
      · simp [q2 z hz]
def expand (P : Program) (X : Ctx) (gl : List (Nat × Nat)) (h : Handler) (ops : Array Oper) (p : List Nat × St) : List Nat → List (List Nat × St) → Res (List (List Nat × St))
  | [], acc => .ok acc
  | k :: ks, acc => (exStep P X gl h ops k p.2).bind fun st => (insM (p.1.erase k, st) acc).bind fun acc => expand P X gl h ops p ks acc
theorem expand_spec {P : Program} {X : Ctx} {gl : List (Nat × Nat)} {h : Handler} {ops : Array Oper} {p : List Nat × St} : ∀ {ks : List Nat} {acc out : List (List Nat × St)}, expand P X gl h ops p ks acc = .ok out →
    (∀ y, y ∈ acc → y ∈ out) ∧ ∀ k, k ∈ ks → ∃ st, exStep P X gl h ops k p.2 = .ok st ∧ (p.1.erase k, st) ∈ out
  | [], acc, out, he => by simp only [expand] at he; cases he; exact ⟨fun y hy => hy, fun k hk => by cases hk⟩
  | k :: ks, acc, out, he => by
    unfold expand at he
    obtain ⟨st, h1, he⟩ := Res.bind_ok he
    obtain ⟨acc', h2, he⟩ := Res.bind_ok he
    obtain ⟨q1, q2⟩ := insM_spec h2
    obtain ⟨r1, r2⟩ := expand_spec he
    refine ⟨fun y hy => r1 y (q2 y hy), ?_⟩
    intro j hj
    rcases List.mem_cons.1 hj with rfl | hj
    · exact ⟨st, h1, r1 _ q1⟩
    · exact r2 j hj
def expandAll (P : Program) (X : Ctx) (gl : List (Nat × Nat)) (h : Handler) (ops : Array Oper) : List (List Nat × St) → List (List Nat × St) → Res (List (List Nat × St))
  | [], acc => .ok acc
  | p :: ps, acc => (expand P X gl h ops p (freeOf ops p.1) acc).bind fun acc => expandAll P X gl h ops ps acc
theorem expandAll_spec {P : Program} {X : Ctx} {gl : List (Nat × Nat)} {h : Handler} {ops : Array Oper} : ∀ {ps acc out : List (List Nat × St)}, expandAll P X gl h ops ps acc = .ok out →
    (∀ y, y ∈ acc → y ∈ out) ∧ ∀ p, p ∈ ps → ∀ k, k ∈ freeOf ops p.1 → ∃ st, exStep P X gl h ops k p.2 = .ok st ∧ (p.1.erase k, st) ∈ out
  | [], acc, out, he => by simp only [expandAll] at he; cases he; exact ⟨fun y hy => hy, fun p hp => by cases hp⟩
  | p :: ps, acc, out, he => by
    unfold expandAll at he
    obtain ⟨acc', h1, he⟩ := Res.bind_ok he
    obtain ⟨q1, q2⟩ := expand_spec h1
    obtain ⟨r1, r2⟩ := expandAll_spec he
    refine ⟨fun y hy => r1 y (q1 y hy), ?_⟩
    intro x hx k hk
    rcases List.mem_cons.1 hx with rfl | hx
    · obtain ⟨st, g1, g2⟩ := q2 k hk
      exact ⟨st, g1, r1 _ g2⟩
    · exact r2 x hx k hk
def exTail (P : Program) (X : Ctx) (gl : List (Nat × Nat)) (h : Handler) (ops : Array Oper) (chk : St → Bool) : Nat → List (List Nat × St) → Res St
  | 0, _ => .fail 115
  | n + 1, L =>
    if !L.all (fun p => chk p.2) then .fail 118
    else match L with
      | [([], st)] => .ok st
      | L => if L.any (fun p => p.1.isEmpty) then .fail 119 else (expandAll P X gl h ops L []).bind fun L' => exTail P X gl h ops chk n L'
def TailP (P : Program) (X : Ctx) (gl : List (Nat × Nat)) (h : Handler) (ops : Array Oper) (φ : St → Prop) : Nat → List Nat → St → St → Prop
  | 0, _, _, _ => False
  | n + 1, rem, st, out => φ st ∧ (rem = [] → st = out) ∧ ∀ k o, k ∈ rem → ops[k]? = some o → (∀ d, d ∈ predsOf o → d ∉ rem) → ∃ st1, exStep P X gl h ops k st = .ok st1 ∧ TailP P X gl h ops φ n (rem.erase k) st1 out
theorem exTail_spec {P : Program} {X : Ctx} {gl : List (Nat × Nat)} {h : Handler} {ops : Array Oper} {chk : St → Bool} {φ : St → Prop} (hc : ∀ st, chk st = true → φ st) : ∀ (n : Nat) (L : List (List Nat × St)) (out : St), exTail P X gl h ops chk n L = .ok out → ∀ p, p ∈ L → TailP P X gl h ops φ n p.1 p.2 out
  | 0, _, _, he => by simp [exTail] at he
  | n + 1, L, out, he => by
    intro p hp
    unfold exTail at he
    split at he
    · cases he
    rename_i hchk
    have hall : L.all (fun p => chk p.2) = true := by simpa using hchk
    have hφ : φ p.2 := hc _ (List.all_eq_true.1 hall p hp)
    split at he
    · rename_i st
      cases he
      rw [List.mem_singleton.1 hp]
      exact ⟨by rw [List.mem_singleton.1 hp] at hφ; exact hφ, fun _ => rfl, fun k o hk => by cases hk⟩
    · split at he
      · cases he
      rename_i hne
      obtain ⟨L', h1, he⟩ := Res.bind_ok he
      have hemp : p.1 ≠ [] := fun e => hne (List.any_eq_true.2 ⟨p, hp, by simp [e]⟩)
      refine ⟨hφ, fun e => absurd e hemp, ?_⟩
      intro k o hk ho hd
      have hmem : k ∈ freeOf ops p.1 := by
        unfold freeOf
        refine List.mem_filter.2 ⟨hk, ?_⟩
        rw [ho]
        simp only [List.all_eq_true, Bool.not_eq_true', List.contains_eq_mem, decide_eq_false_iff_not]
        exact hd
      obtain ⟨st, g1, g2⟩ := (expandAll_spec h1).2 p hp k hmem
      exact ⟨st, g1, exTail_spec hc n L' out he _ g2⟩
def loadsFit (P : Program) (X : Ctx) (gl : List (Nat × Nat)) (h : Handler) (ops : Array Oper) (late : List Nat) (vals : List SV) (st : St) : Bool :=
  late.all fun i => match ops[i]? with
    | some o => !isLoad o.op || (match exOper P X gl h st.tmps st.heap o with
      | .ok r => SV.eqb r.1 (vals.getD i (.tuple []))
      | _ => false)
    | none => true
def LoadsFit (P : Program) (X : Ctx) (gl : List (Nat × Nat)) (h : Handler) (ops : Array Oper) (late : List Nat) (vals : List SV) (st : St) : Prop :=
  ∀ i o, i ∈ late → ops[i]? = some o → isLoad o.op = true → exOper P X gl h st.tmps st.heap o = .ok (vals.getD i (.tuple []), st.heap)
theorem loadsFit_spec {P : Program} {X : Ctx} {gl : List (Nat × Nat)} {h : Handler} {ops : Array Oper} {late : List Nat} {vals : List SV} (st : St) (hc : loadsFit P X gl h ops late vals st = true) : LoadsFit P X gl h ops late vals st := by
  intro i o hi ho hl
  have := List.all_eq_true.1 hc i hi
  rw [ho] at this
  simp only [hl, Bool.not_true, Bool.false_or] at this
  split at this
  · rename_i r hr
    obtain ⟨s, σ'⟩ := r
    have e := load_same hl hr
    subst e
    rw [hr, show s = vals.getD i (.tuple []) from SV.eqb_eq _ _ this]
  · cases this
def exDraw (P : Program) (X : Ctx) (gl : List (Nat × Nat)) (h : Handler) (ops : Array Oper) (m : Nat) (st : St) : Res St :=
  let masks := ancs ops.toList []
  if SV.ubdH st.heap.length st.heap then
  (exHead P X gl h ops masks st.heap m ops.toList st.tmps [] []).bind fun out =>
    let late := lateOf ops.size out.vals.length masks
    if headB ops masks out.vals.length late && lateB ops masks out.vals.length late then
      forceL (st.heap ++ out.slots) fun σ => exTail P X gl h ops (loadsFit P X gl h ops late out.vals) (ops.size + 1) [((List.range ops.size).drop out.vals.length, ⟨out.tm, σ⟩)]
    else .fail 110
  else .fail 111
def cnt (listed : Array Bool) (m : Nat) : Nat := (List.range m).countP fun k => !listed.getD k false
theorem cnt_succ (listed : Array Bool) (m : Nat) : cnt listed (m + 1) = cnt listed m + if listed.getD m false then 0 else 1 := by
  unfold cnt
  rw [List.range_succ, List.countP_append]
  cases h : listed.getD m false <;> simp only [List.countP_cons, List.countP_nil, h] <;> rfl
theorem cnt_set {listed : Array Bool} {i : Nat} (hi : i < listed.size) (hl : listed.getD i false = false) : ∀ m, (i < m → cnt (listed.setIfInBounds i true) m + 1 = cnt listed m) ∧ (m ≤ i → cnt (listed.setIfInBounds i true) m = cnt listed m)
  | 0 => ⟨fun h => by omega, fun _ => rfl⟩
  | m + 1 => by
    obtain ⟨h1, h2⟩ := cnt_set hi hl m
    rw [cnt_succ, cnt_succ, getD_set hi]
    refine ⟨fun h => ?_, fun h => ?_⟩
    · by_cases e : m = i
      · subst e
        rw [show (if m = m then true else listed.getD m false) = true from if_pos rfl, hl, h2 (Nat.le_refl _)]; simp
      · rw [show (if m = i then true else listed.getD m false) = listed.getD m false from if_neg e]; have := h1 (by omega); omega
    · rw [show (if m = i then true else listed.getD m false) = listed.getD m false from if_neg (by omega), h2 (by omega)]
theorem cnt_zero {listed : Array Bool} : ∀ {m : Nat}, cnt listed m = 0 → ∀ i, i < m → listed.getD i false = true
  | 0, _, i, hi => by omega
  | m + 1, h, i, hi => by
    rw [cnt_succ] at h
    have h1 : cnt listed m = 0 := by omega
    rcases Nat.lt_or_ge i m with q | q
    · exact cnt_zero h1 i q
    · have : i = m := by omega
      subst this
      cases hl : listed.getD i false
      · rw [hl] at h; simp at h
      · rfl
theorem cnt_pos {listed : Array Bool} : ∀ {m : Nat}, cnt listed m ≠ 0 → ∃ i, i < m ∧ listed.getD i false = false ∧ ∀ j, j < i → listed.getD j false = true
  | 0, h => absurd rfl h
  | m + 1, h => by
    by_cases h1 : cnt listed m = 0
    · refine ⟨m, by omega, ?_, cnt_zero h1⟩
      rw [cnt_succ, h1] at h
      cases hl : listed.getD m false
      · rfl
      · rw [hl] at h; simp at h
    · obtain ⟨i, a, b, c⟩ := cnt_pos h1
      exact ⟨i, by omega, b, c⟩
theorem RL_of_get {G : Nat → List Int → Int} {ρ : Nat → Int} {α : AMap} : ∀ {l : List SV} {vs : List Value}, l.length = vs.length → (∀ (i : Nat) (v : Value), vs[i]? = some v → SV.R G ρ α (l.getD i (.tuple [])) v) → SV.RL G ρ α l vs
  | [], [], _, _ => RL_nil
  | [], _ :: _, h, _ => by simp at h
  | _ :: _, [], h, _ => by simp at h
  | s :: l, v :: vs, h, hg => RL_cons (by have := hg 0 v (by simp); simpa using this) (RL_of_get (by simpa using h) (fun i u hu => by have := hg (i + 1) u (by simpa using hu); simpa using this))
section
variable {P : Program} {X : Ctx} {ρ : Nat → Int} {gl : List (Nat × Nat)} {h : Handler} {ops : Array Oper} {σ : Heap} {tm0 vals : List SV} {slots : List Blk} {α0 : AMap} {w0 : World}
theorem mem_ready_of {listed : Array Bool} {k : Nat} {o : Oper} (ho : ops[k]? = some o) (hs : k < listed.size) (hl : listed.getD k false = false) (hp : ∀ d, d ∈ predsOf o → listed.getD d false = true) : k ∈ Region.ready .any ops listed := by
  refine mem_ready.2 ⟨getD_in hs hl, o, ho, fun e he hb => hp _ ?_⟩
  exact List.mem_map.2 ⟨e, List.mem_filter.2 ⟨by simpa using he, hb⟩, rfl⟩
structure InvB (P : Program) (X : Ctx) (ρ : Nat → Int) (gl : List (Nat × Nat)) (h : Handler) (ops : Array Oper) (σ : Heap) (tm0 vals : List SV) (late : List Nat) (α0 : AMap) (w0 : World) (st' : St) (rem : List Nat) (st : St) (listed : Array Bool) (a : Act) (w : World) (α : AMap) : Prop where
  size : listed.size = ops.size
  down : Down ops (fun j => listed.getD j false = true)
  tl : ∀ k, vals.length ≤ k → k < ops.size → listed.getD k false = !rem.contains k
  hd : ∀ j, j < vals.length → j ∉ late → listed.getD j false = true
  defers : a.defers = []
  tsize : a.tmps.size = st.tmps.length
  tmp : ∀ (u : Nat) (v : Value), a.tmps[u]? = some v → (∀ j, j ∈ late → listed.getD j false = false → dstOf ops j ≠ some u) → SV.R X.G ρ α (st.tmps.getD u (.tuple [])) v
  lv : ∀ j u, j ∈ late → u < st.tmps.length → dstOf ops j = some u → st.tmps.getD u (.tuple []) = vals.getD j (.tuple [])
  lk : ∀ j o u, j ∈ late → ops[j]? = some o → u ∈ o.looksAt ops → st.tmps.getD u (.tuple []) = (canT ops tm0 vals j).getD u (.tuple [])
  len : st.tmps.length = tm0.length
  mem : RelW X.G ρ gl α st.heap w
  ext : Ext σ.length σ st.heap α0 α w0 w
  out : ∃ n, TailP P X gl h ops (LoadsFit P X gl h ops late vals) n rem st st'
  nd : rem.Nodup
  rng : ∀ k, k ∈ rem → vals.length ≤ k ∧ k < ops.size
theorem mem_looks_operand {o : Oper} {u : Tmp} (h : Operand.tmp u ∈ o.op.operands) : u ∈ o.looksAt ops := by
  unfold Oper.looksAt
  exact List.mem_append_left _ (List.mem_filterMap.2 ⟨.tmp u, by simpa using h, rfl⟩)
theorem mem_looks_guard {o : Oper} {g : Nat × Bool} {d : Tmp} (hg : o.guard = some g) (hd : (ops[g.1]?).bind (·.dst) = some d) : d ∈ o.looksAt ops := by
  unfold Oper.looksAt
  refine List.mem_append_right _ ?_
  rw [hg]
  simp [hd]
theorem ops_of_tmps {tm : List SV} {α : AMap} {a : Act} {w : World} {σ : Heap} {o : Oper} (hm : RelW X.G ρ gl α σ w) (h : ∀ u, u ∈ o.looksAt ops → SV.R X.G ρ α (evO gl tm (.tmp u)) (a.eval (.tmp u))) :
    ∀ x, x ∈ o.op.operands → SV.R X.G ρ α (evO gl tm x) (a.eval x) := by
  intro x hx
  cases x with
  | tmp u => exact h u (mem_looks_operand hx)
  | const v => exact R_ofV v
  | global g =>
    have := evO_R (X := X) (ρ := ρ) (gl := gl) (α := α) (tm := []) (a := ⟨#[], []⟩) (by simpa using RL_nil) hm.glob (.global g)
    exact this
  | func f => simp only [evO, Act.eval, SV.R]; exact ⟨[], [], rfl, RL_nil, RL_nil⟩
theorem tmp_R {tm : List SV} {α : AMap} {a : Act} {u : Tmp} (hl : a.tmps.size = tm.length) (h : ∀ v, a.tmps[u]? = some v → SV.R X.G ρ α (tm.getD u (.tuple [])) v) : SV.R X.G ρ α (evO gl tm (.tmp u)) (a.eval (.tmp u)) := by
  simp only [evO, Act.eval]
  by_cases hu : u < a.tmps.size
  · have e : a.tmps[u]? = some a.tmps[u] := by simp [hu]
    rw [show a.tmps.getD u undef = a.tmps[u] by simp [hu]]
    exact h _ e
  · have e1 : tm[u]? = none := List.getElem?_eq_none (by rw [← hl]; exact Nat.le_of_not_lt hu)
    have e2 : a.tmps[u]? = none := Array.getElem?_eq_none (Nat.le_of_not_lt hu)
    simp only [List.getD, e1, Option.getD_none, Array.getD_eq_getD_getElem?, e2]
    simp only [SV.R]; exact ⟨[], rfl, RL_nil⟩
theorem preds_listed {listed : Array Bool} {i : Nat} {o : Oper} (ho : ops[i]? = some o) (hr : i ∈ Region.ready .any ops listed) : ∀ d, d ∈ predsOf o → listed.getD d false = true := by
  obtain ⟨_, o', ho', hall⟩ := mem_ready.1 hr
  rw [ho] at ho'; cases ho'
  intro d hd
  unfold predsOf at hd
  obtain ⟨e, he, rfl⟩ := List.mem_map.1 hd
  have he' := List.mem_filter.1 he
  exact hall e (by simpa using he'.1) he'.2
theorem anc_listed {late : List Nat} (hO : HeadOK ops vals.length late) {listed : Array Bool} (hdn : Down ops (fun j => listed.getD j false = true)) {i j : Nat} {o : Oper} (ho : ops[i]? = some o) (hr : i ∈ Region.ready .any ops listed)
    (hb : ((ancs ops.toList []).getD i 0).testBit j = true) : listed.getD j false = true := by
  obtain ⟨hun, _⟩ := mem_ready.1 hr
  obtain ⟨mk, hmk, hself⟩ := hO.mask i o ho
  rw [show (ancs ops.toList []).getD i 0 = mk by simp [List.getD, hmk]] at hb
  exact anc_of_ready hdn ho (preds_listed ho hr) (by rw [getD_both hun]; simp) hmk (fun d hd => Nat.ne_of_lt (hO.preds i o ho d hd)) hself j hb
theorem down_set {listed : Array Bool} {i : Nat} {o : Oper} (hi : i < listed.size) (ho : ops[i]? = some o) (hp : ∀ d, d ∈ predsOf o → listed.getD d false = true) (hdn : Down ops (fun j => listed.getD j false = true)) :
    Down ops (fun j => (listed.setIfInBounds i true).getD j false = true) := by
  intro j oj hoj hj d hd
  rw [getD_set hi] at hj ⊢
  by_cases e : j = i
  · subst e
    rw [ho] at hoj; cases hoj
    have h1 := hp d hd
    split
    · rfl
    · exact h1
  · rw [if_neg e] at hj
    have h1 := hdn j oj hoj hj d hd
    split
    · rfl
    · exact h1
theorem late_step (hX : X.Ok ρ) (hh : HOk P X ρ gl h) {late : List Nat} (hO : HeadOK ops vals.length late) (hL : LateOK ops vals.length late)
    (hS : ∀ i o, i < vals.length → ops[i]? = some o → ∃ wt, StepOK P X gl h ops (ancs ops.toList []) σ tm0 vals slots i o wt)
    {Q : Exit → Act → World → Prop} {st' st : St} {rem : List Nat} {listed : Array Bool} {a : Act} {w : World} {α : AMap} {i : Nat} (inv : InvB P X ρ gl h ops σ tm0 vals late α0 w0 st' rem st listed a w α) (hr : i ∈ Region.ready .any ops listed) (hi : i ∈ late) :
    wpOp P ops Q i (fun a' w' => ∃ α', InvB P X ρ gl h ops σ tm0 vals late α0 w0 st' rem st (listed.setIfInBounds i true) a' w' α') a w := by
  obtain ⟨hun, o, ho, _⟩ := mem_ready.1 hr
  have him := hL.lt i hi
  have hiL : i < listed.size := by rw [inv.size]; have := hO.le; omega
  have hpre := preds_listed ho hr
  obtain ⟨hg, hpu⟩ := hL.self i o hi ho
  have looks : ∀ u, u ∈ o.looksAt ops → SV.R X.G ρ α (evO gl (canT ops tm0 vals i) (.tmp u)) (a.eval (.tmp u)) := by
    intro u hu
    refine tmp_R (by rw [length_canT, inv.tsize, inv.len]) ?_
    intro v hv
    rw [← inv.lk i o u hi ho hu]
    refine inv.tmp u v hv ?_
    intro j hj hlj hd
    obtain ⟨oj, hoj⟩ : ∃ oj, ops[j]? = some oj := by
      unfold dstOf at hd
      cases hq : ops[j]? with
      | none => rw [hq] at hd; cases hd
      | some oj => exact ⟨oj, rfl⟩
    have hdj : oj.dst = some u := by unfold dstOf at hd; rw [hoj] at hd; exact hd
    have hji := hL.reads i o j oj u hi ho hoj hdj hu
    rcases (hO.dsts i j o u him (by omega) (by omega) ho hd).2 with q | ⟨_, q⟩ | ⟨q, _⟩
    · exact q hu
    · have := anc_listed hO inv.down ho hr q
      rw [hlj] at this; cases this
    · omega
  obtain ⟨wt, sto⟩ := hS i o him ho
  have hwt : wt = true := by
    have := sto.wanted
    unfold sWanted at this
    rw [hg] at this
    cases this; rfl
  subst hwt
  obtain ⟨s, σ', e1, e2, _⟩ := sto.yes rfl
  have e3 : exOper P X gl h (canT ops tm0 vals i) st.heap o = .ok (s, st.heap) := by
    rcases hpu with hpu | hld
    · exact pureOp_any hpu e1 st.heap
    · obtain ⟨n, hT⟩ := inv.out
      have hφ : LoadsFit P X gl h ops late vals st := by
        cases n with
        | zero => exact hT.elim
        | succ n => exact hT.1
      have := hφ i o hi ho hld
      rw [show vals.getD i (.tuple []) = s by simp [List.getD, e2]] at this
      rw [← this]
      refine load_tm hld ?_
      intro x hx
      cases x with
      | tmp u => exact (inv.lk i o u hi ho (mem_looks_operand hx)).symm
      | const v => rfl
      | global g => rfl
      | func f => rfl
  have hwant : Region.wanted o (yielded ops a.tmps) = true := by unfold Region.wanted; rw [hg]
  have hdsti : dstOf ops i = o.dst := by unfold dstOf; rw [ho]; rfl
  unfold wpOp
  rw [ho]
  simp only
  rw [hwant]
  simp only [if_true]
  refine .inl (exOper_wp hX hh e3 inv.mem (ops_of_tmps inv.mem looks) ?_)
  intro v w' α1 q1 q2 q3
  refine ⟨α1, by simp [inv.size], down_set hiL ho hpre inv.down, ?_, ?_, by rw [put_defers]; exact inv.defers, ?_, ?_, inv.lv, inv.lk, inv.len, q2, inv.ext.trans q3 inv.ext.len, inv.out, inv.nd, inv.rng⟩
  · intro k hk hk'
    rw [getD_set hiL, if_neg (by omega)]
    exact inv.tl k hk hk'
  · intro j hj hjl
    rw [getD_set hiL]; split
    · rfl
    · exact inv.hd j hj hjl
  · cases o.dst <;> simp [Act.put, inv.tsize]
  · intro u x hx hno
    by_cases hu : o.dst = some u
    · have hxv : x = v ∧ u < a.tmps.size := by
        rw [hu] at hx
        simp only [Act.put] at hx
        rw [Array.getElem?_setIfInBounds] at hx
        simp at hx
        exact ⟨hx.2.symm, hx.1⟩
      obtain ⟨rfl, hus⟩ := hxv
      rw [inv.tsize] at hus
      rw [inv.lv i u hi hus (hdsti.trans hu)]
      rw [show vals.getD i (.tuple []) = s by simp [List.getD, e2]]
      exact q1
    · have hx' : a.tmps[u]? = some x := by
        cases hd : o.dst with
        | none => rw [hd] at hx; exact hx
        | some d =>
          rw [hd] at hx
          simp only [Act.put] at hx
          rwa [Array.getElem?_setIfInBounds_ne (fun e => hu (by rw [hd, e]))] at hx
      refine SV.R_mono q3.mono _ _ (inv.tmp u x hx' ?_)
      intro j hj hlj hd
      by_cases e : j = i
      · subst e; rw [hdsti] at hd; exact hu hd
      · exact hno j hj (by rw [getD_set hiL, if_neg e]; exact hlj) hd
theorem tail_step (hX : X.Ok ρ) (hh : HOk P X ρ gl h) {late : List Nat} (hO : HeadOK ops vals.length late) (hL : LateOK ops vals.length late)
    {Q : Exit → Act → World → Prop} {st' st : St} {rem : List Nat} {i : Nat} {listed : Array Bool} {a : Act} {w : World} {α : AMap} (inv : InvB P X ρ gl h ops σ tm0 vals late α0 w0 st' rem st listed a w α) (hr : i ∈ Region.ready .any ops listed) (him : vals.length ≤ i) :
    wpOp P ops Q i (fun a' w' => ∃ α' st2, InvB P X ρ gl h ops σ tm0 vals late α0 w0 st' (rem.erase i) st2 (listed.setIfInBounds i true) a' w' α') a w := by
  obtain ⟨hun, o, ho, _⟩ := mem_ready.1 hr
  have hlt : i < ops.size := (Array.getElem?_eq_some_iff.1 ho).1
  have hiL : i < listed.size := by rw [inv.size]; exact hlt
  have hpre := preds_listed ho hr
  have hirem : i ∈ rem := by
    have := inv.tl i him hlt
    rw [getD_both hun] at this
    simpa using this
  have hdsti : dstOf ops (i) = o.dst := by unfold dstOf; rw [ho]; rfl
  have getj : ∀ j u, dstOf ops j = some u → ∃ oj, ops[j]? = some oj ∧ oj.dst = some u := by
    intro j u hd
    unfold dstOf at hd
    cases hq : ops[j]? with
    | none => rw [hq] at hd; cases hd
    | some oj => rw [hq] at hd; exact ⟨oj, rfl, hd⟩
  have looks : ∀ u, u ∈ o.looksAt ops → SV.R X.G ρ α (evO gl st.tmps (.tmp u)) (a.eval (.tmp u)) := by
    intro u hu
    refine tmp_R inv.tsize ?_
    intro v hv
    refine inv.tmp u v hv ?_
    intro j hj hlj hd
    obtain ⟨oj, hoj, hdj⟩ := getj j u hd
    have hjm := hL.lt j hj
    rcases (hL.dst j oj _ o u hj hoj ho (by omega) hdj).2 with q | q | q
    · omega
    · exact q hu
    · have := anc_listed hO inv.down ho hr q
      rw [hlj] at this; cases this
  obtain ⟨n, hT⟩ := inv.out
  obtain ⟨st1, hstep, hrest⟩ : ∃ st1, exStep P X gl h ops i st = .ok st1 ∧ ∃ n, TailP P X gl h ops (LoadsFit P X gl h ops late vals) n (rem.erase i) st1 st' := by
    cases n with
    | zero => exact hT.elim
    | succ n =>
      obtain ⟨st1, g1, g2⟩ := hT.2.2 i o hirem ho (fun d hd hdr => by
        have h1 := hpre d hd
        obtain ⟨r1, r2⟩ := inv.rng d hdr
        rw [inv.tl d r1 r2] at h1
        simp [hdr] at h1)
      exact ⟨st1, g1, n, g2⟩
  unfold exStep at hstep
  rw [ho] at hstep
  simp only [forceV_eq, forceL_eq] at hstep
  obtain ⟨wt, h1, hout⟩ := Res.bind_ok hstep
  have hwant := sWanted_run (α := α) (a := a) hX h1 (fun g d hg hd => looks d (mem_looks_guard hg hd))
  -- whatever is put
  have fin : ∀ (s : SV) (σ2 : Heap) (v : Value) (w' : World) (α' : AMap), Res.ok (⟨sPut st.tmps o.dst s, σ2⟩ : St) = .ok st1 → (∀ id b, α id = some b → α' id = some b) → SV.R X.G ρ α' s v →
      RelW X.G ρ gl α' σ2 w' → Ext σ.length σ σ2 α0 α' w0 w' →
      InvB P X ρ gl h ops σ tm0 vals late α0 w0 st' (rem.erase i) ⟨sPut st.tmps o.dst s, σ2⟩ (listed.setIfInBounds (i) true) (a.put o.dst v) w' α' := by
    intro s σ2 v w' α' hex mono hv hmem hext
    have other : ∀ u, o.dst ≠ some u → (sPut st.tmps o.dst s).getD u (.tuple []) = st.tmps.getD u (.tuple []) := by
      intro u hu
      cases hd : o.dst with
      | none => rfl
      | some d =>
        simp only [sPut, List.getD]
        rw [List.getElem?_set_ne (fun e => hu (by rw [hd, e]))]
    refine ⟨by simp [inv.size], down_set hiL ho hpre inv.down, ?_, ?_, by rw [put_defers]; exact inv.defers, ?_, ?_, ?_, ?_, ?_, hmem, hext, by cases hex; exact hrest, inv.nd.erase i, fun k hk => inv.rng k (List.mem_of_mem_erase hk)⟩
    · intro k hk hk'
      rw [getD_set hiL]
      by_cases e : k = i
      · rw [if_pos e, e]; simp [inv.nd.not_mem_erase]
      · rw [if_neg e, inv.tl k hk hk']
        congr 1
        simp [List.mem_erase_of_ne e]
    · intro j hj hjl
      rw [getD_set hiL]; split
      · rfl
      · exact inv.hd j hj hjl
    · rw [length_sPut]
      cases o.dst <;> simp [Act.put, inv.tsize]
    · intro u x hx hno
      by_cases hu : o.dst = some u
      · have hxv : x = v ∧ u < a.tmps.size := by
          rw [hu] at hx
          simp only [Act.put] at hx
          rw [Array.getElem?_setIfInBounds] at hx
          simp at hx
          exact ⟨hx.2.symm, hx.1⟩
        obtain ⟨rfl, hus⟩ := hxv
        rw [hu]
        simp only [sPut, List.getD]
        rw [List.getElem?_set_self (by rw [← inv.tsize]; exact hus)]
        exact hv
      · have hx' : a.tmps[u]? = some x := by
          cases hd : o.dst with
          | none => rw [hd] at hx; exact hx
          | some d =>
            rw [hd] at hx
            simp only [Act.put] at hx
            rwa [Array.getElem?_setIfInBounds_ne (fun e => hu (by rw [hd, e]))] at hx
        show SV.R X.G ρ α' ((sPut st.tmps o.dst s).getD u (.tuple [])) x
        rw [other u hu]
        refine SV.R_mono mono _ _ (inv.tmp u x hx' ?_)
        intro j hj hlj hd
        have hjm := hL.lt j hj
        exact hno j hj (by rw [getD_set hiL, if_neg (by omega)]; exact hlj) hd
    · intro j u hj hu hd
      obtain ⟨oj, hoj, hdj⟩ := getj j u hd
      have hjm := hL.lt j hj
      have := (hL.dst j oj _ o u hj hoj ho (by omega) hdj).1
      show (sPut st.tmps o.dst s).getD u (.tuple []) = _
      rw [other u this]
      exact inv.lv j u hj (by rw [← length_sPut st.tmps o.dst s]; exact hu) hd
    · intro j oj u hj hoj hu
      have hjm := hL.lt j hj
      have : o.dst ≠ some u := fun e => by have := hL.reads j oj _ o u hj hoj ho e hu; omega
      show (sPut st.tmps o.dst s).getD u (.tuple []) = _
      rw [other u this]
      exact inv.lk j oj u hj hoj hu
    · rw [length_sPut]; exact inv.len
  unfold wpOp
  rw [ho]
  simp only
  rw [hwant]
  cases wt
  · simp only [Bool.false_eq_true, if_false] at hout ⊢
    exact ⟨α, _, fin _ _ _ w α hout (fun _ _ e => e) (by simp only [SV.R]; exact ⟨[], rfl, RL_nil⟩) inv.mem inv.ext⟩
  · simp only [if_true] at hout ⊢
    obtain ⟨r, h2, hout⟩ := Res.bind_ok hout
    obtain ⟨s, σ2⟩ := r
    refine .inl (exOper_wp hX hh h2 inv.mem (ops_of_tmps inv.mem looks) ?_)
    intro v w1 α1 q1 q2 q3
    exact ⟨α1, _, fin s σ2 v w1 α1 hout q3.mono q1 q2 (inv.ext.trans q3 inv.ext.len)⟩
theorem ready_least {late : List Nat} (hO : HeadOK ops vals.length late) {listed : Array Bool} (hs : listed.size = ops.size) (h : cnt listed ops.size ≠ 0) : Region.ready .any ops listed ≠ [] := by
  obtain ⟨i0, l1, l2, l3⟩ := cnt_pos (listed := listed) (m := ops.size) h
  have hrdy : i0 ∈ Region.ready .any ops listed :=
    mem_ready_of (o := ops[i0]) (by simp [l1]) (by rw [hs]; exact l1) l2 (fun d hd => l3 d (hO.preds i0 _ (by simp [l1]) d hd))
  intro e
  rw [e] at hrdy; cases hrdy
theorem cnt_less {listed : Array Bool} {i c : Nat} (hs : listed.size = ops.size) (hi : i ∈ Region.ready .any ops listed) (hc : cnt listed ops.size = c + 1) : cnt (listed.setIfInBounds i true) ops.size = c := by
  obtain ⟨hun, o, ho, _⟩ := mem_ready.1 hi
  have hlt : i < ops.size := (Array.getElem?_eq_some_iff.1 ho).1
  have := (cnt_set (listed := listed) (i := i) (by rw [hs]; exact hlt) (getD_both hun) ops.size).1 hlt
  omega
theorem tail_all (hX : X.Ok ρ) (hh : HOk P X ρ gl h) {late : List Nat} (hO : HeadOK ops vals.length late) (hL : LateOK ops vals.length late)
    (hS : ∀ i o, i < vals.length → ops[i]? = some o → ∃ wt, StepOK P X gl h ops (ancs ops.toList []) σ tm0 vals slots i o wt)
    {Q : Exit → Act → World → Prop} {st' : St} (hQ : ∀ a' w' α', RelSt X ρ gl α' st' a' w' → Ext σ.length σ st'.heap α0 α' w0 w' → Q .normal a' w') :
    ∀ (c : Nat) (rem : List Nat) (st : St) (listed : Array Bool) (a : Act) (w : World) (α : AMap), InvB P X ρ gl h ops σ tm0 vals late α0 w0 st' rem st listed a w α → cnt listed ops.size = c → wpAny P .any ops Q c listed a w
  | 0, rem, st, listed, a, w, α, inv, hc => by
    have hall := cnt_zero hc
    refine ⟨?_, ?_⟩
    · cases hr : Region.ready .any ops listed with
      | nil => rfl
      | cons i l =>
        have hi : i ∈ Region.ready .any ops listed := by rw [hr]; simp
        obtain ⟨hun, o, ho, _⟩ := mem_ready.1 hi
        have := hall i (Array.getElem?_eq_some_iff.1 ho).1
        rw [getD_both hun] at this; cases this
    · have ht : rem = [] := by
        rw [List.eq_nil_iff_forall_not_mem]
        intro k hk
        obtain ⟨r1, r2⟩ := inv.rng k hk
        have h1 := inv.tl k r1 r2
        rw [hall k r2] at h1
        simp [hk] at h1
      obtain ⟨n, hT⟩ := inv.out
      have hout : st = st' := by
        cases n with
        | zero => exact hT.elim
        | succ n => exact hT.2.1 ht
      subst hout
      refine hQ a w α ⟨?_, inv.defers, inv.mem⟩ inv.ext
      refine RL_of_get (by simp [inv.tsize]) ?_
      intro u v hv
      refine inv.tmp u v (by simpa using hv) ?_
      intro j hj hlj
      have := hall j (by have := hL.lt j hj; have := hO.le; omega)
      rw [hlj] at this; cases this
  | c + 1, rem, st, listed, a, w, α, inv, hc => by
    refine ⟨fun h0 => absurd h0 (ready_least hO inv.size (by omega)), fun i hi => ?_⟩
    obtain ⟨hun, o, ho, _⟩ := mem_ready.1 hi
    have hlt : i < ops.size := (Array.getElem?_eq_some_iff.1 ho).1
    have hun' := getD_both hun
    have hc' := cnt_less inv.size hi hc
    by_cases him : i < vals.length
    · have hil : i ∈ late := by
        rcases Decidable.em (i ∈ late) with q | q
        · exact q
        · have := inv.hd i him q
          rw [hun'] at this; cases this
      refine wpOp_mono (fun a' w' ⟨α', hI⟩ => ?_) (late_step (Q := Q) hX hh hO hL hS inv hi hil)
      exact tail_all hX hh hO hL hS hQ c rem st _ a' w' α' hI hc'
    · refine wpOp_mono (fun a' w' ⟨α', st2, hI⟩ => ?_) (tail_step (Q := Q) hX hh hO hL inv hi (by omega))
      exact tail_all hX hh hO hL hS hQ c _ st2 _ a' w' α' hI hc'
theorem head_all (hX : X.Ok ρ) (hh : HOk P X ρ gl h) {late : List Nat} (hO : HeadOK ops vals.length late) (hls : slots.length = vals.length)
    (hS : ∀ i o, i < vals.length → ops[i]? = some o → ∃ wt, StepOK P X gl h ops (ancs ops.toList []) σ tm0 vals slots i o wt)
    {Q : Exit → Act → World → Prop} (hT : ∀ listed a w α, InvA X ρ gl ops σ tm0 vals slots α0 w0 listed a w α → (∀ j, j < vals.length → j ∉ late → listed.getD j false = true) → wpAny P .any ops Q (cnt listed ops.size) listed a w) :
    ∀ (c : Nat) (listed : Array Bool) (a : Act) (w : World), (∃ α, InvA X ρ gl ops σ tm0 vals slots α0 w0 listed a w α) → cnt listed ops.size = c → wpAny P .any ops Q c listed a w := by
  intro c
  induction c with
  | zero =>
    rintro listed a w ⟨α, inv⟩ hc
    have := hT listed a w α inv (fun j hj _ => cnt_zero hc j (by have := hO.le; omega))
    rwa [hc] at this
  | succ c ih =>
    rintro listed a w ⟨α, inv⟩ hc
    by_cases hall : ∀ j, j < vals.length → j ∉ late → listed.getD j false = true
    · have := hT listed a w α inv hall
      rwa [hc] at this
    · obtain ⟨j, hj⟩ := Classical.not_forall.1 hall
      obtain ⟨hjm, hj⟩ := Classical.not_imp.1 hj
      obtain ⟨hjl, hj⟩ := Classical.not_imp.1 hj
      refine ⟨fun h0 => absurd h0 (ready_least hO inv.size (by omega)), fun i hi => ?_⟩
      obtain ⟨hun, o, ho, _⟩ := mem_ready.1 hi
      have him : i < vals.length := by
        rcases Nat.lt_or_ge i vals.length with q | q
        · exact q
        · exact absurd (anc_listed hO inv.down ho hi (hO.tail i j o q ho hjm hjl)) hj
      refine wpOp_mono (fun a' w' hI => ?_) (head_step (Q := Q) hX hh hO hls hS inv hi him)
      exact ih _ a' w' hI (cnt_less inv.size hi hc)
theorem mem_drop_range {n m k : Nat} (h1 : m ≤ k) (h2 : k < n) : ((List.range n).drop m).contains k = true := by
  rw [List.contains_iff_mem, List.mem_iff_getElem?]
  exact ⟨k - m, by rw [List.getElem?_drop, List.getElem?_range (by omega)]; congr 1; omega⟩
theorem drop_range_mem {n m k : Nat} (h : k ∈ (List.range n).drop m) : m ≤ k ∧ k < n := by
  obtain ⟨i, hi⟩ := List.mem_iff_getElem?.1 h
  rw [List.getElem?_drop] at hi
  have := List.getElem?_eq_some_iff.1 hi
  obtain ⟨q, e⟩ := this
  simp at q e
  omega
theorem exDraw_any (hX : X.Ok ρ) (hh : HOk P X ρ gl h) {m : Nat} {st st' : St} {α : AMap} {a : Act} {w : World} {Q : Exit → Act → World → Prop}
    (he : exDraw P X gl h ops m st = .ok st') (hr : RelSt X ρ gl α st a w)
    (hQ : ∀ a' w' α', RelSt X ρ gl α' st' a' w' → Ext st.heap.length st.heap st'.heap α α' w w' → Q .normal a' w') : wpAny P .any ops Q ops.size (Array.replicate ops.size false) a { w with drawn := w.drawn + 1 } := by
  unfold exDraw at he
  simp only [forceL_eq] at he
  split at he
  case isFalse => cases he
  rename_i hU
  obtain ⟨out, h1, he⟩ := Res.bind_ok he
  try dsimp only at he
  split at he
  · rename_i hg
    simp only [Bool.and_eq_true] at hg
    obtain ⟨hg1, hg2⟩ := hg
    have hO := headB_spec hg1
    obtain ⟨s1, s2, s3, s4, s5⟩ := exHead_spec (tm0 := st.tmps) ops.toList st.tmps [] [] hU h1 rfl (by simp) rfl (fun i o hi => by simp at hi)
    have hle := hO.le
    have hL := lateB_spec hg2
    have inv0 : InvA X ρ gl ops st.heap st.tmps out.vals out.slots α { w with drawn := w.drawn + 1 } (Array.replicate ops.size false) a { w with drawn := w.drawn + 1 } α := by
      have hnone : slotsD (Array.replicate ops.size false) out.slots out.vals.length = List.replicate out.vals.length none := by
        unfold slotsD
        apply List.ext_getElem?
        intro k
        simp only [List.getElem?_map]
        by_cases hk : k < out.vals.length
        · rw [List.getElem?_range hk, List.getElem?_replicate, if_pos hk]
          simp only [Option.map_some, getD_replicate_false]
          simp
        · rw [List.getElem?_eq_none (by simp; omega), List.getElem?_replicate, if_neg hk]; rfl
      have hext : Ext st.heap.length st.heap (st.heap ++ List.replicate out.vals.length none) α α { w with drawn := w.drawn + 1 } { w with drawn := w.drawn + 1 } :=
        ⟨rfl, rfl, rfl, Nat.le_refl _, by simp, fun _ _ e => e, fun _ _ e => .inl e, fun _ _ _ => rfl, fun id b e hn => by rw [List.getElem?_append_left (hr.mem.dom id b e).1]; exact hn⟩
      refine ⟨by simp, fun j o _ hj => (by have hj' : (Array.replicate ops.size false).getD j false = true := hj; rw [getD_replicate_false] at hj'; cases hj'), fun k _ => getD_replicate_false _ _, hr.defers, ?_, ?_, ?_, by rw [hnone]; exact hext, ?_⟩
      · have := RL_length hr.tmps; simpa using this
      · intro t v hv
        refine ⟨fun _ => ?_, fun k _ hl => (by rw [getD_replicate_false] at hl; cases hl)⟩
        have := evO_R (gl := gl) hr.tmps hr.mem.glob (.tmp t)
        simp only [evO, Act.eval] at this
        rwa [show a.tmps.getD t undef = v by simp [Array.getD_eq_getD_getElem?, hv]] at this
      · rw [hnone]
        refine ⟨fun id b e => ⟨by have := (hr.mem.dom id b e).1; simp; omega, (hr.mem.dom id b e).2⟩, hr.mem.inj, ?_, hr.mem.glob⟩
        intro id cs T e
        rcases Nat.lt_or_ge id st.heap.length with q | q
        · rw [List.getElem?_append_left q] at e
          exact hr.mem.blk id cs T e
        · rw [List.getElem?_append_right q, List.getElem?_replicate] at e
          split at e <;> cases e
      · intro k _ _
        cases hk : α (st.heap.length + k) with
        | none => rfl
        | some b => have := (hr.mem.dom _ b hk).1; omega
    refine head_all hX hh hO s1 s5 (α0 := α) (w0 := { w with drawn := w.drawn + 1 }) ?_ ops.size (Array.replicate ops.size false) a { w with drawn := w.drawn + 1 } ⟨α, inv0⟩ ?_
    · intro listed a' w' α' inv hall
      have hdst : ∀ k j t, k < out.vals.length → j < out.vals.length → j ≠ k → dstOf ops j = some t → dstOf ops k ≠ some t := by
        intro k j t hk hj hjk hd
        obtain ⟨ok, hok⟩ : ∃ ok, ops[k]? = some ok := ⟨ops[k]'(by omega), by simp [show k < ops.size by omega]⟩
        have := (hO.dsts k j ok t hk hj hjk hok hd).1
        unfold dstOf
        rw [hok]; exact this
      have noslot : ∀ j, j ∈ lateOf ops.size out.vals.length (ancs ops.toList []) → out.slots.getD j none = none := by
        intro j hj
        have hjm := hL.lt j hj
        obtain ⟨oj, hoj⟩ : ∃ oj, ops[j]? = some oj := ⟨ops[j]'(by omega), by simp [show j < ops.size by omega]⟩
        obtain ⟨hg, hpu⟩ := hL.self j oj hj hoj
        obtain ⟨wt, sto⟩ := s5 j oj hjm hoj
        cases wt with
        | false => simp [List.getD, (sto.no rfl).2]
        | true =>
          obtain ⟨s, σ', e1, _, _, _, _, e6⟩ := sto.yes rfl
          have e8 : σ' = st.heap ++ maskSlots ((ancs ops.toList []).getD j 0) 0 (out.slots.take j) := by
            rcases hpu with hpu | hld
            · have e7 := pureOp_any hpu e1 (st.heap ++ maskSlots ((ancs ops.toList []).getD j 0) 0 (out.slots.take j))
              rw [e1] at e7
              cases e7; rfl
            · exact load_same hld e1
          subst e8
          rcases e6 with ⟨_, _, f3⟩ | ⟨c, f1, _⟩
          · simp [List.getD, f3]
          · have := congrArg List.length f1
            simp at this
      have hsl : slotsD listed out.slots out.vals.length = out.slots := by
        apply List.ext_getElem?
        intro k
        rcases Nat.lt_or_ge k out.vals.length with q | q
        · rw [slotsD_get _ _ _ _ q]
          have e : out.slots[k]? = some (out.slots.getD k none) := by
            simp only [List.getD]
            rw [List.getElem?_eq_getElem (by omega)]; rfl
          rw [e]
          by_cases hk : k ∈ lateOf ops.size out.vals.length (ancs ops.toList [])
          · rw [noslot k hk]; simp
          · rw [hall k q hk]; rfl
        · rw [List.getElem?_eq_none (by rw [length_slotsD]; omega), List.getElem?_eq_none (by omega)]
      have hmem := inv.mem
      have hext := inv.ext
      rw [hsl] at hmem hext
      have hlen : out.tm.length = st.tmps.length := by rw [s3, length_canT]
      have hcan : ∀ u, u < st.tmps.length → _ := fun u hu => canT_get (ops := ops) (tm0 := st.tmps) (vals := out.vals) hdst hu out.vals.length (Nat.le_refl _)
      have getj : ∀ j u, dstOf ops j = some u → ∃ oj, ops[j]? = some oj ∧ oj.dst = some u := by
        intro j u hd
        unfold dstOf at hd
        cases hq : ops[j]? with
        | none => rw [hq] at hd; cases hd
        | some oj => rw [hq] at hd; exact ⟨oj, rfl, hd⟩
      have invB : InvB P X ρ gl h ops st.heap st.tmps out.vals (lateOf ops.size out.vals.length (ancs ops.toList [])) α { w with drawn := w.drawn + 1 } st' ((List.range ops.size).drop out.vals.length) ⟨out.tm, st.heap ++ out.slots⟩ listed a' w' α' := by
        refine ⟨inv.size, inv.down, ?_, hall, inv.defers, by rw [inv.tsize]; exact hlen.symm, ?_, ?_, ?_, hlen, hmem, hext, ⟨_, exTail_spec (loadsFit_spec) _ _ _ he _ (List.mem_singleton.2 rfl)⟩, List.nodup_range.sublist (List.drop_sublist _ _), ?_⟩
        · intro k hk hk'
          rw [inv.tail k hk, mem_drop_range hk hk']; rfl
        · intro u v hv hno
          have hlt : u < st.tmps.length := by
            have := (Array.getElem?_eq_some_iff.1 hv).1
            rw [inv.tsize] at this; exact this
          obtain ⟨c1, c2⟩ := hcan u hlt
          obtain ⟨t1, t2⟩ := inv.tmp u v hv
          show SV.R X.G ρ α' (out.tm.getD u (.tuple [])) v
          rw [s3]
          by_cases hex : ∃ k, k < out.vals.length ∧ dstOf ops k = some u
          · obtain ⟨k, hk, hkt⟩ := hex
            rw [c2 k hk hkt]
            refine t2 k hk ?_ hkt
            by_cases hkl : k ∈ lateOf ops.size out.vals.length (ancs ops.toList [])
            · cases hq : listed.getD k false with
              | true => rfl
              | false => exact absurd hkt (hno k hkl hq)
            · exact hall k hk hkl
          · have hno' : ∀ k, k < out.vals.length → dstOf ops k ≠ some u := fun k hk e => hex ⟨k, hk, e⟩
            rw [c1 hno']
            exact t1 (fun k hk _ => hno' k hk)
        · intro j u hj hu hd
          show out.tm.getD u (.tuple []) = _
          rw [s3]
          exact (hcan u (by rw [← hlen]; exact hu)).2 j (hL.lt j hj) hd
        · intro j o u hj ho hu
          show out.tm.getD u (.tuple []) = _
          rcases Nat.lt_or_ge u st.tmps.length with q | q
          · obtain ⟨c1, c2⟩ := hcan u q
            have hjm := hL.lt j hj
            obtain ⟨d1, d2⟩ := canT_get (ops := ops) (tm0 := st.tmps) (vals := out.vals) hdst q j (by omega)
            rw [s3]
            by_cases hex : ∃ k, k < out.vals.length ∧ dstOf ops k = some u
            · obtain ⟨k, hk, hkt⟩ := hex
              obtain ⟨ok, hok, hdk⟩ := getj k u hkt
              have hkj := hL.reads j o k ok u hj ho hok hdk hu
              rw [c2 k hk hkt, d2 k hkj hkt]
            · have hno' : ∀ k, k < out.vals.length → dstOf ops k ≠ some u := fun k hk e => hex ⟨k, hk, e⟩
              rw [c1 hno', d1 (fun k hk => hno' k (by omega))]
          · rw [List.getD, List.getD, List.getElem?_eq_none (by rw [hlen]; exact q), List.getElem?_eq_none (by rw [length_canT]; exact q)]
        · exact fun k hk => drop_range_mem hk
      refine tail_all hX hh hO hL s5 ?_ _ _ _ listed a' w' α' invB rfl
      intro a2 w2 α2 r1 r2
      exact hQ a2 w2 α2 r1 (Ext.drawn r2)
    · have : ∀ m, cnt (Array.replicate ops.size false) m = m := by
        intro m
        induction m with
        | zero => rfl
        | succ m ih => rw [cnt_succ, ih, getD_replicate_false]; simp
      exact this _
  · cases he
end
def firstStore (ops : Array Oper) : Nat := (ops.toList.findIdx isStore)
def noPerm (ops : Array Oper) : Bool :=
  let masks := ancs ops.toList []
  let m := firstStore ops
  decide (m = ops.size) || (let late := lateOf ops.size m masks; headB ops masks m late && lateB ops masks m late)
def storesMask (ops : List Oper) (i : Nat) : Nat :=
  match ops with
  | [] => 0
  | o :: rest => (if isStore o then 2 ^ i else 0) + storesMask rest (i + 1)
def freeMask (masks : List Nat) (S : Nat) (stores : List Nat) : List Oper → Nat → Nat → Nat
  | [], _, f => f
  | o :: rest, i, f =>
    let m := masks.getD i 0
    freeMask masks S stores rest (i + 1) (if !isStore o && (m &&& S == 0) && (m ||| f == f) && (((pureOp o.op || isLoad o.op) && o.guard.isNone) || stores.all fun s => (masks.getD s 0).testBit i) then f ||| 2 ^ i else f)
def permOf (ops : Array Oper) : List Nat :=
  let masks := ancs ops.toList []
  let S := storesMask ops.toList 0
  let f := freeMask masks S ((List.range ops.size).filter fun i => S.testBit i) ops.toList 0 0
  (List.range ops.size).filter (fun i => f.testBit i) ++ (List.range ops.size).filter (fun i => !f.testBit i)
def headLen (ops : Array Oper) : Nat :=
  let masks := ancs ops.toList []
  let S := storesMask ops.toList 0
  let f := freeMask masks S ((List.range ops.size).filter fun i => S.testBit i) ops.toList 0 0
  ((List.range ops.size).filter (fun i => f.testBit i)).length
def invOf (π : List Nat) (n : Nat) : List Nat := (List.range n).map fun i => π.findIdx (· == i)
def remapO (inv : List Nat) (o : Oper) : Oper := { o with after := o.after.map fun e => { e with on := inv.getD e.on e.on }, guard := o.guard.map fun g => (inv.getD g.1 g.1, g.2) }
def remapOps (ops : Array Oper) (π inv : List Nat) : Array Oper := ((List.range ops.size).map fun k => remapO inv (ops.getD (π.getD k 0) default)).toArray
def permOK (π inv : List Nat) (n : Nat) : Bool :=
  decide (π.length = n) && decide (inv.length = n) && (List.range n).all fun k => decide (π.getD k n < n) && decide (inv.getD (π.getD k n) n = k) && decide (inv.getD k n < n) && decide (π.getD (inv.getD k n) n = k)
structure Perm (π inv : List Nat) (n : Nat) : Prop where
  lp : π.length = n
  li : inv.length = n
  plt : ∀ k, k < n → π.getD k 0 < n
  ip : ∀ k, k < n → inv.getD (π.getD k 0) 0 = k
  ilt : ∀ k, k < n → inv.getD k 0 < n
  pi : ∀ k, k < n → π.getD (inv.getD k 0) 0 = k
theorem getD_any {l : List Nat} {k a b : Nat} (h : k < l.length) : l.getD k a = l.getD k b := by
  simp [List.getD, List.getElem?_eq_getElem h]
theorem permOK_spec {π inv : List Nat} {n : Nat} (h : permOK π inv n = true) : Perm π inv n := by
  unfold permOK at h
  simp only [Bool.and_eq_true, decide_eq_true_eq, List.all_eq_true, List.mem_range] at h
  obtain ⟨⟨h1, h2⟩, h3⟩ := h
  have e1 : ∀ k, k < n → π.getD k n = π.getD k 0 := fun k hk => getD_any (by omega)
  have e2 : ∀ k, k < n → inv.getD k n = inv.getD k 0 := fun k hk => getD_any (by omega)
  refine ⟨h1, h2, ?_, ?_, ?_, ?_⟩ <;> intro k hk <;> obtain ⟨⟨⟨a, b⟩, c⟩, d⟩ := h3 k hk
  · rw [e1 k hk] at a; exact a
  · rw [e1 k hk] at a b; rw [e2 _ a] at b; exact b
  · rw [e2 k hk] at c; exact c
  · rw [e2 k hk] at c d; rw [e1 _ c] at d; exact d
section
variable {P : Program} {ops : Array Oper} {π inv : List Nat} {Q : Exit → Act → World → Prop}
theorem remap_get (hp : Perm π inv ops.size) {k : Nat} (hk : k < ops.size) : ∃ o, ops[π.getD k 0]? = some o ∧ (remapOps ops π inv)[k]? = some (remapO inv o) := by
  have hl := hp.plt k hk
  refine ⟨ops.getD (π.getD k 0) default, ?_, ?_⟩
  · rw [Array.getD_eq_getD_getElem?, Array.getElem?_eq_getElem hl]; rfl
  · simp [remapOps, List.getElem?_range hk]
theorem remap_size : (remapOps ops π inv).size = ops.size := by simp [remapOps]
theorem getD_size {l : Array Bool} {i : Nat} (h : l.size ≤ i) : l.getD i false = false := by
  rw [Array.getD_eq_getD_getElem?, Array.getElem?_eq_none h]; rfl
theorem getD_tf {l : Array Bool} {i : Nat} (h : i < l.size) : l.getD i true = l.getD i false := by
  rw [Array.getD_eq_getD_getElem?, Array.getD_eq_getD_getElem?, Array.getElem?_eq_getElem h]; rfl
theorem inv_on (hp : Perm π inv ops.size) {listed listed' : Array Bool} (h1 : listed.size = ops.size) (h2 : listed'.size = ops.size)
    (hr : ∀ k, k < ops.size → listed'.getD k false = listed.getD (π.getD k 0) false) (d : Nat) : listed'.getD (inv.getD d d) false = listed.getD d false := by
  by_cases hd : d < ops.size
  · rw [getD_any (a := d) (b := 0) (by rw [hp.li]; exact hd), hr _ (hp.ilt d hd), hp.pi d hd]
  · have e : inv.getD d d = d := by
      have : inv[d]? = none := List.getElem?_eq_none (by rw [hp.li]; omega)
      simp [List.getD, this]
    rw [e, getD_size (by omega), getD_size (by omega)]
theorem ready_perm (hp : Perm π inv ops.size) {listed listed' : Array Bool} (h1 : listed.size = ops.size) (h2 : listed'.size = ops.size)
    (hr : ∀ k, k < ops.size → listed'.getD k false = listed.getD (π.getD k 0) false) {k : Nat} (hk : k < ops.size) :
    k ∈ Region.ready .any (remapOps ops π inv) listed' ↔ π.getD k 0 ∈ Region.ready .any ops listed := by
  obtain ⟨o, e1, e2⟩ := remap_get hp hk
  have hl := hp.plt k hk
  unfold Region.ready
  simp only [List.mem_filter, List.mem_range, remap_size, hk, hl, true_and, e1, e2, Option.map_some, Option.getD_some]
  rw [getD_tf (by omega), getD_tf (by omega), hr k hk]
  have e3 : ((remapO inv o).after.all fun e => !Region.binds .any e || listed'.getD e.on false) = (o.after.all fun e => !Region.binds .any e || listed.getD e.on false) := by
    unfold remapO
    simp only [Array.all_map]
    congr 1
    funext e
    simp only [Function.comp]
    rw [inv_on hp h1 h2 hr e.on]
    rfl
  rw [e3]
theorem yielded_perm (hp : Perm π inv ops.size) (tmps : Array Value) (g : Nat) : yielded (remapOps ops π inv) tmps (inv.getD g g) = yielded ops tmps g := by
  by_cases hg : g < ops.size
  · rw [getD_any (a := g) (b := 0) (by rw [hp.li]; exact hg)]
    obtain ⟨o, e1, e2⟩ := remap_get hp (hp.ilt g hg)
    rw [hp.pi g hg] at e1
    unfold yielded
    rw [e1, e2]
    rfl
  · have e : inv.getD g g = g := by
      have : inv[g]? = none := List.getElem?_eq_none (by rw [hp.li]; omega)
      simp [List.getD, this]
    rw [e]
    unfold yielded
    rw [Array.getElem?_eq_none (by rw [remap_size]; omega), Array.getElem?_eq_none (by omega)]
theorem wanted_perm (hp : Perm π inv ops.size) (tmps : Array Value) (o : Oper) : Region.wanted (remapO inv o) (yielded (remapOps ops π inv) tmps) = Region.wanted o (yielded ops tmps) := by
  unfold Region.wanted remapO
  cases o.guard with
  | none => rfl
  | some g =>
    obtain ⟨g, b⟩ := g
    simp only [Option.map_some]
    rw [yielded_perm hp tmps g]
theorem wpAny_perm (hp : Perm π inv ops.size) : ∀ (fuel : Nat) (listed listed' : Array Bool) (a : Act) (w : World), listed.size = ops.size → listed'.size = ops.size →
    (∀ k, k < ops.size → listed'.getD k false = listed.getD (π.getD k 0) false) → wpAny P .any (remapOps ops π inv) Q fuel listed' a w → wpAny P .any ops Q fuel listed a w := by
  intro fuel
  have lt : ∀ {o : Array Oper} {l : Array Bool} {i : Nat}, i ∈ Region.ready .any o l → i < o.size := fun {o l i} h => by
    unfold Region.ready at h
    exact List.mem_range.1 (List.mem_filter.1 h).1
  have nil : ∀ (listed listed' : Array Bool), listed.size = ops.size → listed'.size = ops.size → (∀ k, k < ops.size → listed'.getD k false = listed.getD (π.getD k 0) false) →
      (Region.ready .any ops listed = [] ↔ Region.ready .any (remapOps ops π inv) listed' = []) := by
    intro listed listed' h1 h2 hr
    rw [List.eq_nil_iff_forall_not_mem, List.eq_nil_iff_forall_not_mem]
    constructor
    · intro h k hk
      have hk' := lt hk
      rw [remap_size] at hk'
      exact h _ ((ready_perm hp h1 h2 hr hk').1 hk)
    · intro h i hi
      have hi' := lt hi
      refine h (inv.getD i 0) ((ready_perm hp h1 h2 hr (hp.ilt i hi')).2 ?_)
      rw [hp.pi i hi']; exact hi
  induction fuel with
  | zero =>
    intro listed listed' a w h1 h2 hr h
    simp only [wpAny] at h ⊢
    exact ⟨(nil listed listed' h1 h2 hr).2 h.1, h.2⟩
  | succ fuel ih =>
    intro listed listed' a w h1 h2 hr h
    simp only [wpAny] at h ⊢
    refine ⟨fun hn => h.1 ((nil listed listed' h1 h2 hr).1 hn), ?_⟩
    intro i hi
    have hi' := lt hi
    have hk := hp.ilt i hi'
    have hmem : inv.getD i 0 ∈ Region.ready .any (remapOps ops π inv) listed' := (ready_perm hp h1 h2 hr hk).2 (by rw [hp.pi i hi']; exact hi)
    have hop := h.2 _ hmem
    obtain ⟨o, e1, e2⟩ := remap_get hp hk
    rw [hp.pi i hi'] at e1
    have key : ∀ (a : Act) (w : World), wpAny P .any (remapOps ops π inv) Q fuel (listed'.setIfInBounds (inv.getD i 0) true) a w → wpAny P .any ops Q fuel (listed.setIfInBounds i true) a w := by
      intro a w hw
      refine ih _ _ a w (by simp [h1]) (by simp [h2]) ?_ hw
      intro m hm
      rw [getD_set (by omega), getD_set (by omega), hr m hm]
      by_cases hmi : m = inv.getD i 0
      · rw [if_pos hmi, if_pos (by rw [hmi, hp.pi i hi'])]
      · rw [if_neg hmi, if_neg (fun q => hmi (by rw [← q, hp.ip m hm]))]
    unfold wpOp at hop ⊢
    rw [e2] at hop
    rw [e1]
    simp only at hop ⊢
    rw [wanted_perm hp] at hop
    split
    · rename_i hw
      rw [if_pos hw] at hop
      rcases hop with hop | hop
      · exact .inl (Oper.wp_mono (o := o) key hop)
      · exact .inr hop
    · rename_i hw
      rw [if_neg hw] at hop
      exact key _ _ hop
end
def exDrawX (P : Program) (X : Ctx) (gl : List (Nat × Nat)) (h : Handler) (ops : Array Oper) (st : St) : Res St :=
  if noPerm ops then exDraw P X gl h ops (firstStore ops) st
  else
    let π := permOf ops
    let inv := invOf π ops.size
    if permOK π inv ops.size then exDraw P X gl h (remapOps ops π inv) (headLen ops) st else .fail 112
section
variable {ρ : Nat → Int} {P : Program} {X : Ctx} {gl : List (Nat × Nat)} {h : Handler} {ops : Array Oper}
theorem exDraw_wp (hX : X.Ok ρ) (hh : HOk P X ρ gl h) (hm : P.follows .mixedOrders = true) {st st' : St} {α : AMap} {a : Act} {w : World} {id : Nat} {Q : Exit → Act → World → Prop}
    (he : exDrawX P X gl h ops st = .ok st') (hr : RelSt X ρ gl α st a w)
    (hQ : ∀ a' w' α', RelSt X ρ gl α' st' a' w' → Ext st.heap.length st.heap st'.heap α α' w w' → Q .normal a' w') : (Code.region id ops true).wp P Q a w := by
  refine wp_region_any hm ?_
  unfold exDrawX at he
  split at he
  · exact exDraw_any hX hh he hr hQ
  · dsimp only at he
    split at he
    · rename_i hp
      have hp := permOK_spec hp
      have k := exDraw_any hX hh he hr hQ
      rw [remap_size] at k
      exact wpAny_perm hp _ _ _ _ _ (by simp) (by simp) (fun k _ => by rw [getD_replicate_false, getD_replicate_false]) k
    · cases he
end
inductive Ex where
  | normal
  | exit (id : Nat)
  | ret
def Ex.toExit : Ex → Exit
  | .normal => .normal
  | .exit id => .exit id
  | .ret => .ret
def sResults (P : Program) (gl : List (Nat × Nat)) (st : St) : List ResultVar → Option (List SV)
  | [] => some []
  | .tmp t :: l => match sResults P gl st l with
    | some r => some (evO gl st.tmps (.tmp t) :: r)
    | none => none
  | .cell a t :: l => match evO gl st.tmps (.tmp a) with
    | .ptr id off => match st.heap[id]? with
      | some (some (cs, T)) => if decide (T = mapTag) then none else match sLoad P t cs off, sResults P gl st l with
        | some s, some r => some (s :: r)
        | _, _ => none
      | _ => none
    | _ => none
def tupled : List SV → SV
  | [s] => s
  | l => .tuple l
abbrev Contracts := FuncId → Option (Ctx → List SV → Res SV)
abbrev Globs := List (Nat × List SV × TypeId)
def glOf (gb : Globs) : List (Nat × Nat) := gb.zipIdx.map fun p => (p.1.1, p.2)
def heapOf (gb : Globs) : Heap := gb.map fun q => some q.2
def callWith (P : Program) (X : Ctx) (gb : Globs) (ct : Contracts) (run : Code → St → Res (Ex × St)) : Handler := fun f args σ =>
  let gl := glOf gb
  match ct f with
  | some g => if Heap.begins (heapOf gb) σ then (g X args).bind fun s => .ok (s, σ) else .fail 119
  | none =>
    match P.funcs[f]? with
    | some fn =>
      match fn.body with
      | some c =>
        if fn.name == "runtime.NumGoroutine" then .fail 120
        else
          forceL (args ++ List.replicate (fn.ntmps - args.length) (.tuple [])) fun tm => (run c ⟨tm, σ⟩).bind fun r =>
            match r.1 with
            | .exit _ => .fail 121
            | _ =>
              match sResults P gl r.2 fn.results.toList with
              | some l =>
                let s := tupled l
                let τ := r.2.heap.take σ.length
                if s.ubd σ.length && SV.ubdH σ.length τ && gl.all (fun p => decide (p.2 < σ.length)) then .ok (s, τ) else .ok (s, r.2.heap)
              | none => .fail 122
      | none => .fail 123
    | none => .fail 124
def exCode (P : Program) (X : Ctx) (gb : Globs) (ct : Contracts) : Nat → Code → St → Res (Ex × St)
  | 0, _, _ => .fail 130
  | n + 1, c, st =>
    match c with
    | .skip => .ok (.normal, st)
    | .label _ => .ok (.normal, st)
    | .seq a b => (exCode P X gb ct n a st).bind fun r =>
      match r.1 with
      | .normal => exCode P X gb ct n b r.2
      | _ => .ok r
    | .cond o a b =>
      match evO (glOf gb) st.tmps o with
      | .bool t => (Res.test X t).bind fun r => if r then exCode P X gb ct n a st else exCode P X gb ct n b st
      | _ => .fail 131
    | .block id b => (exCode P X gb ct n b st).bind fun r =>
      match r.1 with
      | .exit i => if i = id then .ok (.normal, r.2) else .ok r
      | _ => .ok r
    | .loop b => (exCode P X gb ct n b st).bind fun r =>
      match r.1 with
      | .normal => exCode P X gb ct n (.loop b) r.2
      | _ => .ok r
    | .scope b => exCode P X gb ct n b st
    | .exit id => .ok (.exit id, st)
    | .ret => .ok (.ret, st)
    | .region _ ops false => (exOps P X (glOf gb) (callWith P X gb ct (exCode P X gb ct n)) ops ops.toList st).bind fun s => .ok (.normal, s)
    | .region _ ops true => (exDrawX P X (glOf gb) (callWith P X gb ct (exCode P X gb ct n)) ops st).bind fun s => .ok (.normal, s)
    | _ => .fail 132
def SV.isLit : SV → Bool
  | .int _ (.lit _) => true
  | .bool (.lit _) => true
  | .con _ => true
  | _ => false
def litV : SV → Value
  | .int k (.lit n) => .int k n
  | .bool (.lit b) => .bool b
  | .con v => v
  | _ => undef
def WOk (gb : Globs) (w : World) : Prop := ∀ q, q ∈ gb → w.heap[q.1]? = some (.cells (q.2.1.map litV).toArray q.2.2 (0, 0))
def CtOk (P : Program) (X : Ctx) (ρ : Nat → Int) (gb : Globs) (ct : Contracts) : Prop :=
  ∀ f g, ct f = some g → ∀ args s, g X args = .ok s → ∀ α w vals, SV.RL X.G ρ α args vals → WOk gb w →
    Known P f ∧ Calls P f vals.toArray w (fun e w' => ∃ v, e = .returned v ∧ SV.R X.G ρ α s v ∧ Below w.heap.size w w')
section
variable {P : Program} {X : Ctx} {ρ : Nat → Int} {gl : List (Nat × Nat)} {gb : Globs} {ct : Contracts}
theorem results_run {α : AMap} {st : St} {a : Act} {w : World} (hr : RelSt X ρ gl α st a w) : ∀ {rs : List ResultVar} {l : List SV}, sResults P gl st rs = some l →
    ∃ vs : List Value, (rs.mapM fun (r : ResultVar) => (match r with
      | .tmp t => pure (a.tmps.getD t undef)
      | .cell b t => do loadVar t (← asAddr (a.tmps.getD b undef)) : Sem Value)).run P w = .ok vs w ∧ SV.RL X.G ρ α l vs
  | [], l, h => by
    simp only [sResults, Option.some.injEq] at h
    subst h
    exact ⟨[], by simp, RL_nil⟩
  | .tmp t :: rs, l, h => by
    simp only [sResults] at h
    split at h
    · rename_i r hr'
      cases h
      obtain ⟨vs, h1, h2⟩ := results_run hr hr'
      refine ⟨a.tmps.getD t undef :: vs, ?_, RL_cons (evO_R hr.tmps hr.mem.glob (.tmp t)) h2⟩
      simp only [List.mapM_cons, Sem.run_bind, Sem.run_pure, Result.andThen_ok, h1]
    · cases h
  | .cell b t :: rs, l, h => by
    simp only [sResults] at h
    split at h
    · rename_i id off he
      have rx := evO_R hr.tmps hr.mem.glob (.tmp b)
      rw [he] at rx
      simp only [SV.R, Act.eval] at rx
      obtain ⟨k, hk, rx⟩ := rx
      split at h
      · rename_i cs T hs
        obtain ⟨k', us, q1, q2, q3⟩ := hr.mem.blk id cs T hs
        rw [hk] at q1; cases q1
        split at h
        · cases h
        rename_i hT
        simp only [decide_eq_true_eq] at hT
        rw [isObj_cells hT] at q2
        split at h
        · rename_i s r h3 h4
          cases h
          obtain ⟨v, hv, rv⟩ := sLoad_run (P := P) h3 q2 q3
          obtain ⟨vs, h1, h2⟩ := results_run hr h4
          refine ⟨v :: vs, ?_, RL_cons rv h2⟩
          have ha : (asAddr (a.tmps.getD b undef)).run P w = .ok ⟨k, off, none⟩ w := by rw [rx]; simp [asAddr]
          simp only [List.mapM_cons, Sem.run_bind, ha, Sem.run_pure, Result.andThen_ok, hv, h1]
        · cases h
      · cases h
    · cases h
theorem tupled_R {α : AMap} {l : List SV} {vs : List Value} (h : SV.RL X.G ρ α l vs) : SV.R X.G ρ α (tupled l) (if hs : vs.toArray.size = 1 then vs.toArray[0] else .tuple vs.toArray) := by
  have hl := RL_length h
  match l, vs, h with
  | [s], [v], h =>
    simp only [SV.RL] at h
    obtain ⟨u, us, e, h1, _⟩ := h
    cases e
    exact h1
  | [], vs, h =>
    simp only [SV.RL] at h
    subst h
    simp only [tupled, SV.R]
    exact ⟨[], rfl, RL_nil⟩
  | s :: t :: l, vs, h =>
    have : ¬ vs.toArray.size = 1 := by simp at hl ⊢; omega
    rw [dif_neg this]
    simp only [tupled, SV.R]
    exact ⟨vs, rfl, h⟩
  | [s], [], h => simp at hl
  | [s], _ :: _ :: _, h => simp at hl
theorem begins_get : ∀ {m h : Heap} {i : Nat} {b : Blk}, Heap.begins m h = true → m[i]? = some b → h[i]? = some b := by
  intro m h i b hb hm
  have hlt : i < m.length := by
    rcases Nat.lt_or_ge i m.length with q | q
    · exact q
    · rw [List.getElem?_eq_none q] at hm; cases hm
  have := Heap.begins_eq hb
  rw [← this, List.getElem?_take, if_pos hlt] at hm
  exact hm
theorem mem_glOf {gb : Globs} {i : Nat} {q : Nat × List SV × TypeId} (h : gb[i]? = some q) : (q.1, i) ∈ glOf gb := by
  unfold glOf
  exact List.mem_map.2 ⟨(q, i), List.mem_iff_getElem?.2 ⟨i, by simp [h]⟩, rfl⟩
theorem lit_R {α : AMap} : ∀ {s : SV}, s.isLit = true → SV.R X.G ρ α s (litV s)
  | .int k (.lit n), _ => by simp [SV.R, litV, E.den]
  | .bool (.lit b), _ => by simp [SV.R, litV, B.den]
  | .con v, _ => by simp [SV.R, litV]
  | .int _ (.var _), h => by simp [SV.isLit] at h
  | .int _ (.op _ _ _), h => by simp [SV.isLit] at h
  | .int _ (.wrap _ _), h => by simp [SV.isLit] at h
  | .int _ (.bit _ _ _ _), h => by simp [SV.isLit] at h
  | .int _ (.app _ _), h => by simp [SV.isLit] at h
  | .bool (.cmp _ _ _), h => by simp [SV.isLit] at h
  | .bool (.and _ _), h => by simp [SV.isLit] at h
  | .bool (.or _ _), h => by simp [SV.isLit] at h
  | .ptr _ _, h => by simp [SV.isLit] at h
  | .slice _ _ _ _, h => by simp [SV.isLit] at h
  | .agg _, h => by simp [SV.isLit] at h
  | .tuple _, h => by simp [SV.isLit] at h
  | .func _ _ _, h => by simp [SV.isLit] at h
theorem lits_RL {α : AMap} : ∀ {l : List SV}, l.all SV.isLit = true → SV.RL X.G ρ α l (l.map litV)
  | [], _ => RL_nil
  | s :: l, h => by
    simp only [List.all_cons, Bool.and_eq_true] at h
    exact RL_cons (lit_R h.1) (lits_RL h.2)
theorem lit_sure : ∀ {s : SV}, s.isLit = true → s.sure = true := by
  intro s h
  cases s <;> first | rfl | (simp [SV.isLit] at h)
theorem lits_sure : ∀ {l : List SV}, l.all SV.isLit = true → SV.sureL l = true
  | [], _ => rfl
  | s :: l, h => by
    simp only [List.all_cons, Bool.and_eq_true] at h
    simp only [SV.sureL, Bool.and_eq_true]
    exact ⟨lit_sure h.1, lits_sure h.2⟩
def gbFlat (gb : Globs) : Bool := gb.all fun q => decide (q.2.2 ≠ mapTag) && q.2.1.all SV.isLit
theorem WOk_of {α : AMap} {σ : Heap} {w : World} (hW : RelW X.G ρ (glOf gb) α σ w) (hb : Heap.begins (heapOf gb) σ = true) (hf : gbFlat gb = true) : WOk gb w := by
  intro q hq
  obtain ⟨i, hi⟩ := List.mem_iff_getElem?.1 hq
  have hσ : σ[i]? = some (some q.2) := begins_get hb (by simp [heapOf, hi])
  obtain ⟨b, vs, h1, h2, h3⟩ := hW.blk i q.2.1 q.2.2 hσ
  have hg := hW.glob _ (mem_glOf hi)
  simp only at hg
  rw [h1] at hg
  cases hg
  have hq2 := List.all_eq_true.1 hf q hq
  simp only [Bool.and_eq_true, decide_eq_true_eq] at hq2
  rw [(isObj_cells hq2.1).1 h2, SV.RL_one _ _ _ (lits_sure hq2.2) h3 (lits_RL hq2.2)]
theorem callWith_ok (hct : CtOk P X ρ gb ct) (hfl : gbFlat gb = true) {run : Code → St → Res (Ex × St)}
    (hrun : ∀ c st e st', run c st = .ok (e, st') → ∀ α a w Q, RelSt X ρ (glOf gb) α st a w → (∀ a' w' α', RelSt X ρ (glOf gb) α' st' a' w' → Ext st.heap.length st.heap st'.heap α α' w w' → Q e.toExit a' w') → c.wp P Q a w) :
    HOk P X ρ (glOf gb) (callWith P X gb ct run) := by
  intro f args σ s σ' h α w vals hW hv
  unfold callWith at h
  simp only [forceL_eq] at h
  split at h
  · rename_i g hg
    split at h
    case isFalse => cases h
    rename_i hbeg
    obtain ⟨s1, h1, h⟩ := Res.bind_ok h
    cases h
    obtain ⟨hk, hc⟩ := hct f g hg args _ h1 α w vals hv (WOk_of hW hbeg hfl)
    refine ⟨hk, hc.mono ?_⟩
    rintro e w' ⟨v, rfl, rv, hb⟩
    refine ⟨v, α, rfl, rv, ⟨fun id b e => ⟨(hW.dom id b e).1, Nat.lt_of_lt_of_le (hW.dom id b e).2 hb.size⟩, hW.inj, ?_, hW.glob⟩, ⟨hb.os, hb.tape, hb.output, hb.size, Nat.le_refl _, fun _ _ e => e, fun _ _ e => .inl e, fun b hb' _ => hb.block b hb', fun _ _ _ e => e⟩⟩
    intro id cs T e
    obtain ⟨b, vs, q1, q2, q3⟩ := hW.blk id cs T e
    exact ⟨b, vs, q1, by rw [hb.block b (hW.dom id b q1).2]; exact q2, q3⟩
  · split at h
    · rename_i fn hfn
      split at h
      · rename_i c hc
        split at h
        · cases h
        · rename_i hname
          obtain ⟨r, h1, h⟩ := Res.bind_ok h
          obtain ⟨e, st'⟩ := r
          refine ⟨⟨fn, hfn, by simpa using hname, by simp [hc]⟩, ?_⟩
          have hlen := RL_length hv
          refine calls_of_wp hfn hc ?_
          have hst : RelSt X ρ (glOf gb) α ⟨args ++ List.replicate (fn.ntmps - args.length) (.tuple []), σ⟩ { tmps := vals.toArray ++ Array.replicate (fn.ntmps - vals.toArray.size) undef, defers := [] } w := by
            refine ⟨?_, rfl, hW⟩
            have := RL_append hv (RL_replicate (G := X.G) (ρ := ρ) (α := α) (s := .tuple []) (v := undef) (by simp only [SV.R]; exact ⟨[], rfl, RL_nil⟩) (fn.ntmps - args.length))
            simpa [hlen] using this
          refine hrun c _ e st' h1 α _ w _ hst ?_
          intro a' w' α' hr' hx'
          simp only at h hx'
          have done : ∀ l : List SV, sResults P (glOf gb) st' fn.results.toList = some l → ((if ((tupled l).ubd σ.length && SV.ubdH σ.length (st'.heap.take σ.length) && (glOf gb).all (fun p => decide (p.2 < σ.length))) = true then (.ok (tupled l, st'.heap.take σ.length) : Res (SV × Heap)) else .ok (tupled l, st'.heap)) = .ok (s, σ')) →
              a'.defers = [] ∧ ∃ v, (results fn a'.tmps).run P w' = .ok v w' ∧ ∃ v_1 α', Ending.returned v = Ending.returned v_1 ∧ SV.R X.G ρ α' s v_1 ∧ RelW X.G ρ (glOf gb) α' σ' w' ∧ Ext σ.length σ σ' α α' w w' := by
            intro l hl hh
            obtain ⟨vs, g1, g2⟩ := results_run (P := P) hr' hl
            refine ⟨hr'.defers, (if hs : vs.toArray.size = 1 then vs.toArray[0] else .tuple vs.toArray), ?_, ?_⟩
            · unfold results
              rw [Array.mapM_eq_mapM_toList]
              simp only [map_eq_pure_bind, Sem.run_bind, Sem.run_pure]
              erw [g1]
              simp only [Result.andThen_ok]
            · have rt := tupled_R g2
              split at hh
              · rename_i hg
                simp only [Bool.and_eq_true, List.all_eq_true, decide_eq_true_eq] at hg
                obtain ⟨⟨b1, b2⟩, b3⟩ := hg
                cases hh
                have hle : σ.length ≤ st'.heap.length := hx'.len
                have htl : (st'.heap.take σ.length).length = σ.length := by simp; omega
                have hpart : Part (st'.heap.take σ.length) st'.heap := ⟨by omega, fun id hid => .inl (by rw [List.getElem?_take, if_pos (by omega)])⟩
                have hp := hr'.mem.part hpart (by rw [htl]; exact b2) (fun p hp => by rw [htl]; exact b3 p hp)
                rw [htl] at hp
                refine ⟨_, cutA σ.length α', rfl, SV.R_agree σ.length (fun id b hid e => cutA_of e hid) _ _ b1 rt, hp, ?_⟩
                refine ⟨hx'.os, hx'.tape, hx'.output, hx'.size, by omega, fun id b e => cutA_of (hx'.mono id b e) (hW.dom id b e).1, fun id b e => hx'.fresh id b (cutA_lt e).2, hx'.hid, ?_⟩
                intro id b e hn
                rw [List.getElem?_take, if_pos (hW.dom id b e).1]
                exact hx'.mask id b e hn
              · cases hh
                exact ⟨_, α', rfl, rt, hr'.mem, hx'⟩
          cases e with
          | exit id => cases h
          | normal =>
            simp only at h
            split at h
            · exact done _ ‹_› h
            · cases h
          | ret =>
            simp only at h
            split at h
            · exact done _ ‹_› h
            · cases h
      · cases h
    · cases h
end
section
variable {P : Program} {X : Ctx} {ρ : Nat → Int} {gl : List (Nat × Nat)} {gb : Globs} {ct : Contracts}
def CodeOK (P : Program) (X : Ctx) (ρ : Nat → Int) (gl : List (Nat × Nat)) (run : Code → St → Res (Ex × St)) : Prop :=
  ∀ c st e st', run c st = .ok (e, st') → ∀ α a w Q, RelSt X ρ gl α st a w → (∀ a' w' α', RelSt X ρ gl α' st' a' w' → Ext st.heap.length st.heap st'.heap α α' w w' → Q e.toExit a' w') → c.wp P Q a w
theorem exCode_wp (hX : X.Ok ρ) (hct : CtOk P X ρ gb ct) (hfl : gbFlat gb = true) (hm : P.follows .mixedOrders = true) : ∀ n : Nat, CodeOK P X ρ (glOf gb) (exCode P X gb ct n) ∧
    (∀ b st e st', exCode P X gb ct n (.loop b) st = .ok (e, st') → ∀ α a w Q, RelSt X ρ (glOf gb) α st a w → (∀ a' w' α', RelSt X ρ (glOf gb) α' st' a' w' → Ext st.heap.length st.heap st'.heap α α' w w' → Q e.toExit a' w') → Code.rounds P b Q n a w)
  | 0 => ⟨fun c st e st' h => by simp [exCode] at h, fun b st e st' h => by simp [exCode] at h⟩
  | n + 1 => by
    obtain ⟨ih, ihl⟩ := exCode_wp hX hct hfl hm n
    have hh : HOk P X ρ (glOf gb) (callWith P X gb ct (exCode P X gb ct n)) := callWith_ok hct hfl ih
    have loop : ∀ b st e st', exCode P X gb ct (n + 1) (.loop b) st = .ok (e, st') → ∀ α a w Q, RelSt X ρ (glOf gb) α st a w → (∀ a' w' α', RelSt X ρ (glOf gb) α' st' a' w' → Ext st.heap.length st.heap st'.heap α α' w w' → Q e.toExit a' w') → Code.rounds P b Q (n + 1) a w := by
      intro b st e st' h α a w Q hr hQ
      unfold exCode at h
      simp only at h
      obtain ⟨r, h1, h⟩ := Res.bind_ok h
      obtain ⟨e1, s1⟩ := r
      rw [rounds_succ]
      refine ih b st e1 s1 h1 α a w _ hr ?_
      intro a1 w1 α1 r1 x1
      cases e1 with
      | normal =>
        simp only at h
        simp only [Ex.toExit, Exit.then]
        exact ihl b s1 e st' h α1 a1 w1 Q r1 (fun a' w' α' r2 x2 => hQ a' w' α' r2 (x1.trans x2 x1.len))
      | exit id =>
        cases h
        exact hQ a1 w1 α1 r1 x1
      | ret =>
        cases h
        exact hQ a1 w1 α1 r1 x1
    refine ⟨?_, loop⟩
    intro c st e st' h α a w Q hr hQ
    cases c with
    | skip =>
      simp only [exCode] at h
      cases h
      exact wp_skip (hQ a w α hr (Ext.refl _ _ _ _))
    | label l =>
      simp only [exCode] at h
      cases h
      exact wp_label (hQ a w α hr (Ext.refl _ _ _ _))
    | seq x y =>
      simp only [exCode] at h
      obtain ⟨r, h1, h⟩ := Res.bind_ok h
      obtain ⟨e1, s1⟩ := r
      refine wp_seq (ih x st e1 s1 h1 α a w _ hr ?_)
      intro a1 w1 α1 r1 x1
      cases e1 with
      | normal =>
        simp only at h
        simp only [Ex.toExit, Exit.then]
        exact ih y s1 e st' h α1 a1 w1 Q r1 (fun a' w' α' r2 x2 => hQ a' w' α' r2 (x1.trans x2 x1.len))
      | exit id =>
        cases h
        exact hQ a1 w1 α1 r1 x1
      | ret =>
        cases h
        exact hQ a1 w1 α1 r1 x1
    | cond o x y =>
      simp only [exCode] at h
      split at h
      · rename_i t ht
        replace h := Res.bind_ok h
        obtain ⟨r, h1, h⟩ := h
        have hd := Res.test_ok hX h1
        have ho := evO_R hr.tmps hr.mem.glob o
        rw [ht] at ho
        simp only [SV.R] at ho
        rw [hd] at ho
        refine wp_cond ho ?_
        cases r
        · simp only [Bool.false_eq_true, if_false] at h ⊢
          exact ih y st e st' h α a w Q hr hQ
        · simp only [if_true] at h ⊢
          exact ih x st e st' h α a w Q hr hQ
      · cases h
    | block id x =>
      simp only [exCode] at h
      obtain ⟨r, h1, h⟩ := Res.bind_ok h
      obtain ⟨e1, s1⟩ := r
      refine wp_block (ih x st e1 s1 h1 α a w _ hr ?_)
      intro a1 w1 α1 r1 x1
      cases e1 with
      | normal =>
        cases h
        exact hQ a1 w1 α1 r1 x1
      | exit i =>
        simp only at h
        simp only [Ex.toExit, Exit.inBlock]
        split at h
        · rename_i hi
          cases h
          rw [if_pos hi]
          exact hQ a1 w1 α1 r1 x1
        · rename_i hi
          cases h
          rw [if_neg hi]
          exact hQ a1 w1 α1 r1 x1
      | ret =>
        cases h
        exact hQ a1 w1 α1 r1 x1
    | loop b => exact wp_loop_rounds (n + 1) (loop b st e st' h α a w Q hr hQ)
    | scope b =>
      simp only [exCode] at h
      refine wp_scope_straight (ih b st e st' h α a w _ hr ?_)
      intro a1 w1 α1 r1 x1
      have := hQ a1 w1 α1 r1 x1
      cases e <;> exact this
    | exit id =>
      simp only [exCode] at h
      cases h
      exact wp_exit (hQ a w α hr (Ext.refl _ _ _ _))
    | ret =>
      simp only [exCode] at h
      cases h
      exact wp_ret (hQ a w α hr (Ext.refl _ _ _ _))
    | region id ops draw =>
      cases draw
      · simp only [exCode] at h
        obtain ⟨s, h1, h⟩ := Res.bind_ok h
        cases h
        exact wp_region_list (exOps_wp hX hh ops.toList st α a w h1 hr (fun a' w' α' r1 x1 => hQ a' w' α' r1 x1))
      · simp only [exCode] at h
        obtain ⟨s, h1, h⟩ := Res.bind_ok h
        cases h
        exact exDraw_wp hX hh hm h1 hr (fun a' w' α' r1 x1 => hQ a' w' α' r1 x1)
    | rangeFunc f ps x y => simp [exCode] at h
    | goto l => simp [exCode] at h
    | refuse y => simp [exCode] at h
def exFun (P : Program) (X : Ctx) (gb : Globs) (ct : Contracts) (n : Nat) (f : FuncId) (args : List SV) : Res SV :=
  (callWith P X gb ct (exCode P X gb ct n) f args (heapOf gb)).bind fun r => if Heap.begins (heapOf gb) r.2 then .ok r.1 else .fail 140
def aOf (gb : Globs) : AMap := fun id => (gb[id]?).map (·.1)
def gbApart (gb : Globs) : Prop := ∀ (i j : Nat) (p q : Nat × List SV × TypeId), gb[i]? = some p → gb[j]? = some q → p.1 = q.1 → i = j
theorem relW_start {w : World} (hw : WOk gb w) (hfl : gbFlat gb = true) (ha : gbApart gb) : RelW X.G ρ (glOf gb) (aOf gb) (heapOf gb) w := by
  have get : ∀ id b, aOf gb id = some b → ∃ q, gb[id]? = some q ∧ q.1 = b := by
    intro id b e
    unfold aOf at e
    cases h : gb[id]? with
    | none => rw [h] at e; cases e
    | some q => rw [h] at e; exact ⟨q, rfl, Option.some.inj e⟩
  refine ⟨?_, ?_, ?_, ?_⟩
  · intro id b e
    obtain ⟨q, hq, rfl⟩ := get id b e
    have h1 := hw q (List.mem_of_getElem? hq)
    refine ⟨?_, (Array.getElem?_eq_some_iff.1 h1).1⟩
    simp only [heapOf, List.length_map]
    exact (List.getElem?_eq_some_iff.1 hq).1
  · intro i j b ei ej
    obtain ⟨p, hp, h1⟩ := get i b ei
    obtain ⟨q, hq, h2⟩ := get j b ej
    exact ha i j p q hp hq (h1.trans h2.symm)
  · intro id cs T e
    unfold heapOf at e
    rw [List.getElem?_map] at e
    cases h : gb[id]? with
    | none => rw [h] at e; cases e
    | some q =>
      rw [h] at e
      have e' : q.2 = (cs, T) := Option.some.inj (Option.some.inj e)
      have h1 := hw q (List.mem_of_getElem? h)
      have h2 := List.all_eq_true.1 hfl q (List.mem_of_getElem? h)
      simp only [Bool.and_eq_true, decide_eq_true_eq] at h2
      rw [e'] at h1 h2
      exact ⟨q.1, cs.map litV, by simp [aOf, h], (isObj_cells h2.1).2 h1, lits_RL h2.2⟩
  · intro p hp
    unfold glOf at hp
    obtain ⟨r, hr, rfl⟩ := List.mem_map.1 hp
    obtain ⟨i, hi⟩ := List.mem_iff_getElem?.1 hr
    rw [List.getElem?_zipIdx] at hi
    cases h : gb[i]? with
    | none => rw [h] at hi; cases hi
    | some q =>
      rw [h] at hi
      have hi' : (q, 0 + i) = r := Option.some.inj hi
      subst hi'
      simp [aOf, h]
theorem exFun_calls (hX : X.Ok ρ) (hct : CtOk P X ρ gb ct) (hfl : gbFlat gb = true) (ha : gbApart gb) (hm : P.follows .mixedOrders = true) {n : Nat} {f : FuncId} {args : List SV} {s : SV} (h : exFun P X gb ct n f args = .ok s) {vals : List Value} (hv : SV.RL X.G ρ (fun _ => none) args vals) (w : World) (hw : WOk gb w) :
    Known P f ∧ Calls P f vals.toArray w (fun e w' => ∃ v α, e = .returned v ∧ SV.R X.G ρ α s v ∧ Below w.heap.size w w') := by
  unfold exFun at h
  replace h := Res.bind_ok h
  obtain ⟨r, h1, h⟩ := h
  obtain ⟨s1, σ1⟩ := r
  simp only at h
  split at h
  case isFalse => cases h
  rename_i hbeg
  cases h
  have hW := relW_start (X := X) (ρ := ρ) hw hfl ha
  obtain ⟨hk, hc⟩ := callWith_ok hct hfl (exCode_wp hX hct hfl hm n).1 f args (heapOf gb) _ σ1 h1 (aOf gb) w vals hW (SV.RL_mono (fun _ _ x => by cases x) _ _ hv)
  refine ⟨hk, hc.mono ?_⟩
  rintro e w' ⟨v, α', rfl, r1, r2, x1⟩
  refine ⟨v, α', rfl, r1, ⟨x1.os, x1.tape, x1.output, x1.size, ?_⟩⟩
  intro k hk'
  by_cases hex : ∃ id, aOf gb id = some k
  · obtain ⟨id, hid⟩ := hex
    have hlt := (hW.dom id k hid).1
    obtain ⟨blk, hblk⟩ : ∃ q, (heapOf gb)[id]? = some q := ⟨(heapOf gb)[id], by simp [hlt]⟩
    have hnn : ∃ c, blk = some c ∧ c.2 ≠ mapTag ∧ SV.sureL c.1 = true := by
      unfold heapOf at hblk
      rw [List.getElem?_map] at hblk
      cases hq : gb[id]? with
      | none => rw [hq] at hblk; cases hblk
      | some q =>
        rw [hq] at hblk
        have hf := List.all_eq_true.1 hfl q (List.mem_of_getElem? hq)
        simp only [Bool.and_eq_true, decide_eq_true_eq] at hf
        exact ⟨q.2, (Option.some.inj hblk).symm, hf.1, lits_sure hf.2⟩
    obtain ⟨⟨cs, T⟩, rfl, hT, hsu⟩ := hnn
    obtain ⟨b, vs, g1, g2, g3⟩ := hW.blk id cs T hblk
    rw [hid] at g1; cases g1
    obtain ⟨b', vs', g4, g5, g6⟩ := r2.blk id cs T (begins_get hbeg hblk)
    rw [x1.mono id k hid] at g4; cases g4
    rw [(isObj_cells hT).1 g2, (isObj_cells hT).1 g5, SV.RL_one cs vs' vs hsu g6 (SV.RL_mono x1.mono cs vs g3)]
  · exact x1.hid k hk' (fun id e => absurd ⟨id, e⟩ hex)
end
end Sx
end Go.Proofs.YtnffpaenalccaaaDoor
namespace Go.Proofs.YtnffpaenalccaaaDoor
namespace Sx
open Go Go.RowKit

def growLe (n : Int) : E → List B
  | .op .max a b => .cmp .le (.op .max a b) (.lit n) :: (growLe n a ++ growLe n b)
  | e => [.cmp .le e (.lit n)]
def growGe (n : Int) : E → List B
  | .op .min a b => .cmp .le (.lit n) (.op .min a b) :: (growGe n a ++ growGe n b)
  | e => [.cmp .le (.lit n) e]
def grow : B → List B
  | .and x y => grow x ++ grow y
  | .cmp .le (.lit n) e => growGe n e
  | .cmp .lt (.lit n) e => .cmp .lt (.lit n) e :: growGe (n + 1) e
  | .cmp .le e (.lit n) => growLe n e
  | .cmp .lt e (.lit n) => .cmp .lt e (.lit n) :: growLe (n - 1) e
  | b => [b]
section
variable {G : Nat → List Int → Int} {ρ : Nat → Int}
theorem growLe_den {n : Int} : ∀ {e : E}, e.den G ρ ≤ n → ∀ b, b ∈ growLe n e → b.den G ρ = true
  | e, h, b, hb => by
    unfold growLe at hb
    split at hb
    · rename_i x y
      have h1 : x.den G ρ ≤ n ∧ y.den G ρ ≤ n := by
        simp only [E.den, IOp.den] at h
        split at h <;> omega
      rcases List.mem_cons.1 hb with rfl | hb
      · exact decide_eq_true h
      · rcases List.mem_append.1 hb with hb | hb
        · exact growLe_den h1.1 b hb
        · exact growLe_den h1.2 b hb
    · rw [List.mem_singleton.1 hb]; exact decide_eq_true h
theorem growGe_den {n : Int} : ∀ {e : E}, n ≤ e.den G ρ → ∀ b, b ∈ growGe n e → b.den G ρ = true
  | e, h, b, hb => by
    unfold growGe at hb
    split at hb
    · rename_i x y
      have h1 : n ≤ x.den G ρ ∧ n ≤ y.den G ρ := by
        simp only [E.den, IOp.den] at h
        split at h <;> omega
      rcases List.mem_cons.1 hb with rfl | hb
      · exact decide_eq_true h
      · rcases List.mem_append.1 hb with hb | hb
        · exact growGe_den h1.1 b hb
        · exact growGe_den h1.2 b hb
    · rw [List.mem_singleton.1 hb]; exact decide_eq_true h
theorem grow_den : ∀ {f : B}, f.den G ρ = true → ∀ b, b ∈ grow f → b.den G ρ = true
  | f, h, b, hb => by
    unfold grow at hb
    split at hb
    · rename_i x y
      simp only [B.den, Bool.and_eq_true] at h
      rcases List.mem_append.1 hb with hb | hb
      · exact grow_den h.1 b hb
      · exact grow_den h.2 b hb
    · exact growGe_den (of_decide_eq_true h) b hb
    · rcases List.mem_cons.1 hb with rfl | hb
      · exact h
      · have h' := of_decide_eq_true h
        simp only [E.den] at h'
        exact growGe_den (by omega) b hb
    · exact growLe_den (of_decide_eq_true h) b hb
    · rcases List.mem_cons.1 hb with rfl | hb
      · exact h
      · have h' := of_decide_eq_true h
        simp only [E.den] at h'
        exact growLe_den (by omega) b hb
    · rw [List.mem_singleton.1 hb]; exact h
end
inductive Tree where
  | leaf (s : SV)
  | br (b : B) (t f : Tree)
  | bad (code : Nat)
def explore (run : List B → Res SV) : Nat → List B → Tree
  | 0, _ => .bad 0
  | n + 1, fs =>
    match run fs with
    | .ok s => .leaf s
    | .fail c => .bad c
    | .need b => .br b (explore run n (grow b ++ fs)) (explore run n (grow b.neg ++ fs))
def Tree.Good (G : Nat → List Int → Int) (ρ : Nat → Int) (p : SV → Prop) : Tree → Prop
  | .leaf s => p s
  | .br b t f => (b.den G ρ = true → Tree.Good G ρ p t) ∧ (b.den G ρ = false → Tree.Good G ρ p f)
  | .bad _ => False
theorem explore_ok {G : Nat → List Int → Int} {ρ : Nat → Int} {p : SV → Prop} {run : List B → Res SV} : ∀ (n : Nat) (fs : List B), (∀ b, b ∈ fs → b.den G ρ = true) → (explore run n fs).Good G ρ p → ∃ fs' s, (∀ b, b ∈ fs' → b.den G ρ = true) ∧ run fs' = .ok s ∧ p s
  | 0, fs, _, h => by simp [explore, Tree.Good] at h
  | n + 1, fs, hf, h => by
    unfold explore at h
    split at h
    · rename_i s hs
      exact ⟨fs, s, hf, hs, h⟩
    · exact h.elim
    · rename_i b _
      simp only [Tree.Good] at h
      cases hb : b.den G ρ
      · refine explore_ok n _ ?_ (h.2 hb)
        intro c hc
        rcases List.mem_append.1 hc with hc | hc
        · exact grow_den (by rw [B.neg_den, hb]; rfl) c hc
        · exact hf c hc
      · refine explore_ok n _ ?_ (h.1 hb)
        intro c hc
        rcases List.mem_append.1 hc with hc | hc
        · exact grow_den hb c hc
        · exact hf c hc
mutual
def SV.den (G : Nat → List Int → Int) (ρ : Nat → Int) : SV → Value
  | .bool b => .bool (b.den G ρ)
  | .int k e => .int k (e.den G ρ)
  | .agg l => .agg (SV.denL G ρ l).toArray
  | .tuple l => .tuple (SV.denL G ρ l).toArray
  | .con v => v
  | .func fn f c => .func fn (SV.denL G ρ f).toArray (SV.denL G ρ c).toArray
  | _ => .nilFunc
def SV.denL (G : Nat → List Int → Int) (ρ : Nat → Int) : List SV → List Value
  | [] => []
  | s :: l => SV.den G ρ s :: SV.denL G ρ l
end
mutual
theorem SV.R_den {G : Nat → List Int → Int} {ρ : Nat → Int} {α : AMap} : ∀ (s : SV) (v : Value), s.ubd 0 = true → SV.R G ρ α s v → v = s.den G ρ
  | .any, v, h, _ => by simp [SV.ubd] at h
  | .bool b, v, _, r => by simpa [SV.R, SV.den] using r
  | .int k e, v, _, r => by simpa [SV.R, SV.den] using r
  | .con x, v, _, r => by simpa [SV.R, SV.den] using r
  | .ptr id off, v, h, _ => by simp [SV.ubd] at h
  | .slice id off l c, v, h, _ => by simp [SV.ubd] at h
  | .agg l, v, h, r => by
    simp only [SV.R] at r
    obtain ⟨cs, rfl, h2⟩ := r
    simp only [SV.den]
    rw [SV.RL_den l cs (by simpa [SV.ubd] using h) h2]
  | .tuple l, v, h, r => by
    simp only [SV.R] at r
    obtain ⟨cs, rfl, h2⟩ := r
    simp only [SV.den]
    rw [SV.RL_den l cs (by simpa [SV.ubd] using h) h2]
  | .func fn f c, v, h, r => by
    simp only [SV.R] at r
    obtain ⟨fs, cs, rfl, h2, h3⟩ := r
    simp only [SV.ubd, Bool.and_eq_true] at h
    simp only [SV.den]
    rw [SV.RL_den f fs h.1 h2, SV.RL_den c cs h.2 h3]
theorem SV.RL_den {G : Nat → List Int → Int} {ρ : Nat → Int} {α : AMap} : ∀ (l : List SV) (vs : List Value), SV.ubdL 0 l = true → SV.RL G ρ α l vs → vs = SV.denL G ρ l
  | [], vs, _, r => by simpa [SV.RL, SV.denL] using r
  | s :: l, vs, h, r => by
    simp only [SV.RL] at r
    obtain ⟨v, vs', rfl, h2, h3⟩ := r
    simp only [SV.ubdL, Bool.and_eq_true] at h
    simp only [SV.denL]
    rw [SV.R_den s v h.1 h2, SV.RL_den l vs' h.2 h3]
end
mutual
theorem SV.den_R {G : Nat → List Int → Int} {ρ : Nat → Int} {α : AMap} : ∀ (s : SV), s.ubd 0 = true → SV.R G ρ α s (s.den G ρ)
  | .any, h => by simp [SV.ubd] at h
  | .bool b, _ => by simp [SV.R, SV.den]
  | .int k e, _ => by simp [SV.R, SV.den]
  | .con x, _ => by simp [SV.R, SV.den]
  | .ptr id off, h => by simp [SV.ubd] at h
  | .slice id off l c, h => by simp [SV.ubd] at h
  | .agg l, h => by
    simp only [SV.R, SV.den]
    exact ⟨_, rfl, SV.denL_R l (by simpa [SV.ubd] using h)⟩
  | .tuple l, h => by
    simp only [SV.R, SV.den]
    exact ⟨_, rfl, SV.denL_R l (by simpa [SV.ubd] using h)⟩
  | .func fn f c, h => by
    simp only [SV.ubd, Bool.and_eq_true] at h
    simp only [SV.R, SV.den]
    exact ⟨_, _, rfl, SV.denL_R f h.1, SV.denL_R c h.2⟩
theorem SV.denL_R {G : Nat → List Int → Int} {ρ : Nat → Int} {α : AMap} : ∀ (l : List SV), SV.ubdL 0 l = true → SV.RL G ρ α l (SV.denL G ρ l)
  | [], _ => by simp [SV.RL, SV.denL]
  | s :: l, h => by
    simp only [SV.ubdL, Bool.and_eq_true] at h
    simp only [SV.denL]
    exact RL_cons (SV.den_R s h.1) (SV.denL_R l h.2)
end
theorem tree_calls {P : Program} {G : Nat → List Int → Int} {GI : Nat → List Itv → Itv} {vars : List (Int × Int)} {ρ : Nat → Int} {gb : Globs} {ct : Contracts} {n m : Nat} {f : FuncId} {args : List SV} {T : Tree} {p : Value → Prop}
    (hT : explore (fun fs => exFun P ⟨G, GI, vars, fs⟩ gb ct n f args) m [] = T) (hm : P.follows .mixedOrders = true)
    (hv : ∀ i q, vars[i]? = some q → q.1 ≤ ρ i ∧ ρ i ≤ q.2) (hg : ∀ g is xs, itvsHave is xs → (GI g is).has (G g xs))
    (hct : ∀ fs, (∀ b, b ∈ fs → b.den G ρ = true) → CtOk P ⟨G, GI, vars, fs⟩ ρ gb ct) (hargs : SV.ubdL 0 args = true) (hfl : gbFlat gb = true) (ha : gbApart gb)
    (hgood : T.Good G ρ (fun s => s.ubd 0 = true ∧ p (s.den G ρ))) (w : World) (hw : WOk gb w) :
    Known P f ∧ Calls P f (SV.denL G ρ args).toArray w (fun e w' => ∃ v, e = .returned v ∧ p v ∧ Below w.heap.size w w') := by
  subst hT
  obtain ⟨fs, s, h1, h2, h3, h4⟩ := explore_ok m [] (fun b hb => by cases hb) hgood
  have hX : Ctx.Ok ⟨G, GI, vars, fs⟩ ρ := ⟨hv, h1, hg⟩
  obtain ⟨hk, hc⟩ := exFun_calls hX (hct fs h1) hfl ha hm h2 (SV.denL_R args hargs) w hw
  refine ⟨hk, hc.mono ?_⟩
  rintro e w' ⟨v, α, rfl, r, hb⟩
  refine ⟨v, rfl, ?_, hb⟩
  rw [SV.R_den s v h3 r]
  exact h4
def Way (run : List B → Res SV) (G : Nat → List Int → Int) (ρ : Nat → Int) (p : SV → Prop) (fs : List B) : Prop :=
  (∀ b, b ∈ fs → b.den G ρ = true) → ∃ fs' s, (∀ b, b ∈ fs' → b.den G ρ = true) ∧ run fs' = .ok s ∧ p s
theorem way_leaf {run : List B → Res SV} {G : Nat → List Int → Int} {ρ : Nat → Int} {p : SV → Prop} {fs : List B} {s : SV} (h : run fs = .ok s) (hp : p s) : Way run G ρ p fs := fun hf => ⟨fs, s, hf, h, hp⟩
theorem way_need {run : List B → Res SV} {G : Nat → List Int → Int} {ρ : Nat → Int} {p : SV → Prop} {fs : List B} {b : B} (_h : run fs = .need b)
    (h1 : b.den G ρ = true → Way run G ρ p (grow b ++ fs)) (h2 : b.den G ρ = false → Way run G ρ p (grow b.neg ++ fs)) : Way run G ρ p fs := by
  intro hf
  cases hb : b.den G ρ
  · refine h2 hb ?_
    intro c hc
    rcases List.mem_append.1 hc with hc | hc
    · exact grow_den (by rw [B.neg_den, hb]; rfl) c hc
    · exact hf c hc
  · refine h1 hb ?_
    intro c hc
    rcases List.mem_append.1 hc with hc | hc
    · exact grow_den hb c hc
    · exact hf c hc
theorem way_calls {P : Program} {G : Nat → List Int → Int} {GI : Nat → List Itv → Itv} {vars : List (Int × Int)} {ρ : Nat → Int} {gb : Globs} {ct : Contracts} {n : Nat} {f : FuncId} {args : List SV} {p : Value → Prop} {run : List B → Res SV}
    (hrun : ∀ fs, run fs = exFun P ⟨G, GI, vars, fs⟩ gb ct n f args) (hm : P.follows .mixedOrders = true)
    (hv : ∀ i q, vars[i]? = some q → q.1 ≤ ρ i ∧ ρ i ≤ q.2) (hg : ∀ g is xs, itvsHave is xs → (GI g is).has (G g xs))
    (hct : ∀ fs, (∀ b, b ∈ fs → b.den G ρ = true) → CtOk P ⟨G, GI, vars, fs⟩ ρ gb ct) (hargs : SV.ubdL 0 args = true) (hfl : gbFlat gb = true) (ha : gbApart gb)
    (hgood : Way run G ρ (fun s => s.ubd 0 = true ∧ p (s.den G ρ)) []) (w : World) (hw : WOk gb w) :
    Known P f ∧ Calls P f (SV.denL G ρ args).toArray w (fun e w' => ∃ v, e = .returned v ∧ p v ∧ Below w.heap.size w w') := by
  obtain ⟨fs, s, h1, h2, h3, h4⟩ := hgood (fun b hb => by cases hb)
  rw [hrun] at h2
  have hX : Ctx.Ok ⟨G, GI, vars, fs⟩ ρ := ⟨hv, h1, hg⟩
  obtain ⟨hk, hc⟩ := exFun_calls hX (hct fs h1) hfl ha hm h2 (SV.denL_R args hargs) w hw
  refine ⟨hk, hc.mono ?_⟩
  rintro e w' ⟨v, α, rfl, r, hb⟩
  refine ⟨v, rfl, ?_, hb⟩
  rw [SV.R_den s v h3 r]
  exact h4
def E.isLit : E → Bool
  | .lit _ => true
  | _ => false
def moreLe (X : Ctx) (a e : E) (d : Int) : List B :=
  (match E.itv X e with | some p => if a.isLit then [] else [.cmp .le a (.lit (p.2 - d))] | none => []) ++
  (match E.itv X a with | some p => if e.isLit then [] else [.cmp .le (.lit (p.1 + d)) e] | none => [])
def moreOf (X : Ctx) : B → List B
  | .cmp .le a e => if a.isLit || e.isLit then [] else moreLe X a e 0
  | .cmp .lt a e => if a.isLit || e.isLit then [] else moreLe X a e 1
  | _ => []
def Ctx.more (X : Ctx) : Ctx := { X with facts := X.facts.flatMap (moreOf X) ++ X.facts }
theorem moreLe_den {X : Ctx} {ρ : Nat → Int} (hX : X.Ok ρ) {a e : E} {d : Int} (h : a.den X.G ρ + d ≤ e.den X.G ρ) : ∀ b, b ∈ moreLe X a e d → b.den X.G ρ = true := by
  intro b hb
  have ha := E.itv_has hX a
  have he := E.itv_has hX e
  unfold moreLe at hb
  rcases List.mem_append.1 hb with hb | hb
  · split at hb
    · rename_i p hp
      rw [hp] at he
      simp only [Itv.has] at he
      split at hb
      · cases hb
      · rw [List.mem_singleton.1 hb]
        exact decide_eq_true (show a.den X.G ρ ≤ p.2 - d by omega)
    · cases hb
  · split at hb
    · rename_i p hp
      rw [hp] at ha
      simp only [Itv.has] at ha
      split at hb
      · cases hb
      · rw [List.mem_singleton.1 hb]
        exact decide_eq_true (show p.1 + d ≤ e.den X.G ρ by omega)
    · cases hb
theorem moreOf_den {X : Ctx} {ρ : Nat → Int} (hX : X.Ok ρ) {f : B} (h : f.den X.G ρ = true) : ∀ b, b ∈ moreOf X f → b.den X.G ρ = true := by
  intro b hb
  unfold moreOf at hb
  split at hb
  · split at hb
    · cases hb
    · simp only [B.den, COp.den, decide_eq_true_eq] at h
      exact moreLe_den hX (by omega) b hb
  · split at hb
    · cases hb
    · simp only [B.den, COp.den, decide_eq_true_eq] at h
      exact moreLe_den hX (by omega) b hb
  · cases hb
theorem more_facts {X : Ctx} {ρ : Nat → Int} (hX : X.Ok ρ) : ∀ b, b ∈ X.more.facts → b.den X.G ρ = true := by
  intro b hb
  rcases List.mem_append.1 hb with hb | hb
  · obtain ⟨f, hf, hb⟩ := List.mem_flatMap.1 hb
    exact moreOf_den hX (hX.facts f hf) b hb
  · exact hX.facts b hb
theorem way_calls2 {P : Program} {G : Nat → List Int → Int} {GI : Nat → List Itv → Itv} {vars : List (Int × Int)} {ρ : Nat → Int} {gb : Globs} {ct : Contracts} {n : Nat} {f : FuncId} {args : List SV} {p : Value → Prop} {run : List B → Res SV}
    (hrun : ∀ fs, run fs = exFun P (Ctx.more ⟨G, GI, vars, fs⟩) gb ct n f args) (hm : P.follows .mixedOrders = true)
    (hv : ∀ i q, vars[i]? = some q → q.1 ≤ ρ i ∧ ρ i ≤ q.2) (hg : ∀ g is xs, itvsHave is xs → (GI g is).has (G g xs))
    (hct : ∀ fs, (∀ b, b ∈ fs → b.den G ρ = true) → CtOk P ⟨G, GI, vars, fs⟩ ρ gb ct) (hargs : SV.ubdL 0 args = true) (hfl : gbFlat gb = true) (ha : gbApart gb)
    (hgood : Way run G ρ (fun s => s.ubd 0 = true ∧ p (s.den G ρ)) []) (w : World) (hw : WOk gb w) :
    Known P f ∧ Calls P f (SV.denL G ρ args).toArray w (fun e w' => ∃ v, e = .returned v ∧ p v ∧ Below w.heap.size w w') := by
  obtain ⟨fs, s, h1, h2, h3, h4⟩ := hgood (fun b hb => by cases hb)
  rw [hrun] at h2
  have hX0 : Ctx.Ok ⟨G, GI, vars, fs⟩ ρ := ⟨hv, h1, hg⟩
  have hf := more_facts hX0
  have hX : Ctx.Ok (Ctx.more ⟨G, GI, vars, fs⟩) ρ := ⟨hv, hf, hg⟩
  obtain ⟨hk, hc⟩ := exFun_calls hX (hct (Ctx.more ⟨G, GI, vars, fs⟩).facts hf) hfl ha hm h2 (SV.denL_R args hargs) w hw
  refine ⟨hk, hc.mono ?_⟩
  rintro e w' ⟨v, α, rfl, r, hb⟩
  refine ⟨v, rfl, ?_, hb⟩
  rw [SV.R_den s v h3 r]
  exact h4
end Sx
end Go.Proofs.YtnffpaenalccaaaDoor
namespace Go.Proofs.YtnffpaenalccaaaDoor
namespace Sx
open Go Go.RowKit

def rho (xs : List Int) : Nat → Int := fun i => xs.getD i 0
def within : List (Int × Int) → List Int → Prop
  | [], [] => True
  | p :: l, x :: xs => (p.1 ≤ x ∧ x ≤ p.2) ∧ within l xs
  | _, _ => False
theorem within_get : ∀ {l : List (Int × Int)} {xs : List Int}, within l xs → ∀ i q, l[i]? = some q → q.1 ≤ rho xs i ∧ rho xs i ≤ q.2
  | [], [], _, i, q, h => by simp at h
  | [], _ :: _, h, _, _, _ => by simp [within] at h
  | _ :: _, [], h, _, _, _ => by simp [within] at h
  | p :: l, x :: xs, h, 0, q, hq => by
    simp at hq
    subst hq
    simpa [rho] using h.1
  | p :: l, x :: xs, h, i + 1, q, hq => by
    have := within_get h.2 i q (by simpa using hq)
    simpa [rho] using this
theorem iop_add (x y : Int) : IOp.den .add x y = x + y := rfl
theorem iop_sub (x y : Int) : IOp.den .sub x y = x - y := rfl
theorem iop_mul (x y : Int) : IOp.den .mul x y = x * y := rfl
theorem iop_quo (x y : Int) : IOp.den .quo x y = x.tdiv y := rfl
theorem iop_rem (x y : Int) : IOp.den .rem x y = x.tmod y := rfl
theorem iop_fdiv (x y : Int) : IOp.den .fdiv x y = x.fdiv y := rfl
theorem iop_shl (x y : Int) : IOp.den .shl x y = x * 2 ^ y.toNat := rfl
theorem iop_max (x y : Int) : IOp.den .max x y = max x y := by simp only [IOp.den]; split <;> omega
theorem iop_min (x y : Int) : IOp.den .min x y = min x y := by simp only [IOp.den]; split <;> omega
theorem cop_lt (x y : Int) : COp.den .lt x y = decide (x < y) := rfl
theorem cop_le (x y : Int) : COp.den .le x y = decide (x ≤ y) := rfl
theorem cop_eq (x y : Int) : COp.den .eq x y = decide (x = y) := rfl
theorem cop_ne (x y : Int) : COp.den .ne x y = !decide (x = y) := rfl
def E.lies (e : E) (X : Ctx) (lo hi : Int) : Bool :=
  match e.itv X with
  | some p => decide (lo ≤ p.1) && decide (p.2 ≤ hi)
  | none => false
theorem E.lies_in {X : Ctx} {ρ : Nat → Int} (hX : X.Ok ρ) {lo hi : Int} {e : E} (h : e.lies X lo hi = true) : lo ≤ e.den X.G ρ ∧ e.den X.G ρ ≤ hi := by
  have hi := E.itv_has hX e
  unfold E.lies at h
  split at h
  · rename_i p hp
    rw [hp] at hi
    simp only [Bool.and_eq_true, decide_eq_true_eq] at h
    simp only [Itv.has] at hi
    omega
  · cases h
abbrev Entry := Ctx → List SV → Res SV
def EntryOk (P : Program) (X : Ctx) (ρ : Nat → Int) (gb : Globs) (f : FuncId) (g : Entry) : Prop :=
  ∀ args s, g X args = .ok s → ∀ α w vals, SV.RL X.G ρ α args vals → WOk gb w →
    Known P f ∧ Calls P f vals.toArray w (fun e w' => ∃ v, e = .returned v ∧ SV.R X.G ρ α s v ∧ Below w.heap.size w w')
def ctNil : Contracts := fun _ => none
def ctCons (F : FuncId) (g : Entry) (ct : Contracts) : Contracts := fun f => if f = F then some g else ct f
theorem ctNil_ok {P : Program} {X : Ctx} {ρ : Nat → Int} {gb : Globs} : CtOk P X ρ gb ctNil := fun f g h => by simp [ctNil] at h
theorem ctCons_ok {P : Program} {X : Ctx} {ρ : Nat → Int} {gb : Globs} {F : FuncId} {g : Entry} {ct : Contracts} (h : EntryOk P X ρ gb F g) (hc : CtOk P X ρ gb ct) : CtOk P X ρ gb (ctCons F g ct) := by
  intro f g' hf
  unfold ctCons at hf
  split at hf
  · rename_i e
    subst e
    cases hf
    exact h
  · exact hc f g' hf
theorem entry_calls {P : Program} {X : Ctx} {ρ : Nat → Int} {f : FuncId} {α : AMap} {args : List SV} {s : SV} {vals : List Value} {w : World} (hv : SV.RL X.G ρ α args vals) (ha : SV.ubdL 0 args = true) (hs : s.ubd 0 = true)
    (h : Known P f ∧ Calls P f (SV.denL X.G ρ args).toArray w (fun e w' => e = .returned (s.den X.G ρ) ∧ Below w.heap.size w w')) :
    Known P f ∧ Calls P f vals.toArray w (fun e w' => ∃ v, e = .returned v ∧ SV.R X.G ρ α s v ∧ Below w.heap.size w w') := by
  have e := SV.RL_den args vals ha hv
  subst e
  refine ⟨h.1, h.2.mono ?_⟩
  rintro e w' ⟨rfl, hb⟩
  exact ⟨_, rfl, SV.den_R s hs, hb⟩
theorem gbApart_nil : gbApart [] := fun i j p q h => by simp at h
theorem gbApart_one (q : Nat × List SV × TypeId) : gbApart [q] := by
  intro i j p r hi hj _
  match i, j, hi, hj with
  | 0, 0, _, _ => rfl
  | 0, j + 1, _, hj => simp at hj
  | i + 1, _, hi, _ => simp at hi
theorem wok_nil (w : World) : WOk [] w := fun q h => by cases h
theorem calls_eq {P : Program} {f : FuncId} {args : Array Value} {w : World} {V : Value} (h : Known P f ∧ Calls P f args w (fun e w' => ∃ v, e = .returned v ∧ v = V ∧ Below w.heap.size w w')) :
    Known P f ∧ Calls P f args w (fun e w' => e = .returned V ∧ Below w.heap.size w w') := by
  refine ⟨h.1, h.2.mono ?_⟩
  rintro e w' ⟨v, rfl, rfl, hb⟩
  exact ⟨rfl, hb⟩
end Sx
end Go.Proofs.YtnffpaenalccaaaDoor
namespace Go.Proofs.YtnffpaenalccaaaDoor
namespace Sx
open Go Go.RowKit

def forceI {β : Type} (n : Int) (k : Int → β) : β :=
  match n with
  | .ofNat m => match m with
    | 0 => k (.ofNat 0)
    | m + 1 => k (.ofNat (Nat.succ m))
  | .negSucc m => match m with
    | 0 => k (.negSucc 0)
    | m + 1 => k (.negSucc (Nat.succ m))
theorem forceI_eq {β : Type} (n : Int) (k : Int → β) : forceI n k = k n := by
  unfold forceI
  split <;> split <;> rfl
def forceVs {β : Type} : List (Int × Int) → (List (Int × Int) → β) → β
  | [], k => k []
  | (a, b) :: l, k => forceI a fun a => forceI b fun b => forceVs l fun l => k ((a, b) :: l)
theorem forceVs_eq {β : Type} : ∀ (l : List (Int × Int)) (k : List (Int × Int) → β), forceVs l k = k l
  | [], k => rfl
  | (a, b) :: l, k => by simp only [forceVs, forceI_eq, forceVs_eq l]
def forceCtx {β : Type} (X : Ctx) (k : Ctx → β) : β :=
  match X with
  | ⟨G, GI, vars, facts⟩ => forceVs vars fun vars => forceL facts fun facts => k ⟨G, GI, vars, facts⟩
theorem forceCtx_eq {β : Type} (X : Ctx) (k : Ctx → β) : forceCtx X k = k X := by
  obtain ⟨G, GI, vars, facts⟩ := X
  simp only [forceCtx, forceVs_eq, forceL_eq]
def stepV (f : B) (vs : List (Int × Int)) : List (Int × Int) :=
  match f with
  | .cmp _ (.var i) (.lit _) => match vs[i]? with
    | some q => vs.set i (narrow (.var i) f q)
    | none => vs
  | .cmp _ (.lit _) (.var i) => match vs[i]? with
    | some q => vs.set i (narrow (.var i) f q)
    | none => vs
  | _ => vs
def toldVar : B → Bool
  | .cmp .ne _ _ => false
  | .cmp _ (.var _) (.lit _) => true
  | .cmp _ (.lit _) (.var _) => true
  | _ => false
def Ctx.pre (X : Ctx) : Ctx := { X with vars := X.facts.foldr stepV (X.facts.foldr stepV X.vars), facts := X.facts.filter fun f => !toldVar f }
theorem stepV_set {G : Nat → List Int → Int} {ρ : Nat → Int} {f : B} (hf : f.den G ρ = true) {vs : List (Int × Int)} (h : ∀ i q, vs[i]? = some q → q.1 ≤ ρ i ∧ ρ i ≤ q.2) (j : Nat) (q0 : Int × Int) (hj : vs[j]? = some q0) :
    ∀ i q, (vs.set j (narrow (.var j) f q0))[i]? = some q → q.1 ≤ ρ i ∧ ρ i ≤ q.2 := by
  intro i q hq
  by_cases e : j = i
  · subst e
    have hlt : j < vs.length := (List.getElem?_eq_some_iff.1 hj).1
    rw [List.getElem?_set_self hlt] at hq
    cases hq
    exact narrow_has G ρ (.var j) f q0 hf (h j q0 hj)
  · rw [List.getElem?_set_ne e] at hq
    exact h i q hq
theorem stepV_has {G : Nat → List Int → Int} {ρ : Nat → Int} {f : B} (hf : f.den G ρ = true) {vs : List (Int × Int)} (h : ∀ i q, vs[i]? = some q → q.1 ≤ ρ i ∧ ρ i ≤ q.2) : ∀ i q, (stepV f vs)[i]? = some q → q.1 ≤ ρ i ∧ ρ i ≤ q.2 := by
  unfold stepV
  split
  · split
    · exact stepV_set hf h _ _ ‹_›
    · exact h
  · split
    · exact stepV_set hf h _ _ ‹_›
    · exact h
  · exact h
theorem foldV_has {G : Nat → List Int → Int} {ρ : Nat → Int} : ∀ (fs : List B) (vs : List (Int × Int)), (∀ b, b ∈ fs → b.den G ρ = true) → (∀ i q, vs[i]? = some q → q.1 ≤ ρ i ∧ ρ i ≤ q.2) → ∀ i q, (fs.foldr stepV vs)[i]? = some q → q.1 ≤ ρ i ∧ ρ i ≤ q.2
  | [], vs, _, h => h
  | f :: fs, vs, hf, h => stepV_has (hf f (by simp)) (foldV_has fs vs (fun b hb => hf b (by simp [hb])) h)
theorem Ctx.pre_ok {X : Ctx} {ρ : Nat → Int} (hX : X.Ok ρ) : X.pre.Ok ρ :=
  ⟨foldV_has X.facts _ hX.facts (foldV_has X.facts _ hX.facts hX.vars), fun b hb => hX.facts b (List.mem_filter.1 hb).1, hX.gi⟩
def withCtx {β : Type} (G : Nat → List Int → Int) (GI : Nat → List Itv → Itv) (vars : List (Int × Int)) (fs : List B) (k : Ctx → β) : β :=
  forceCtx (Ctx.pre ⟨G, GI, vars, fs⟩) fun X1 => forceCtx (Ctx.pre (Ctx.more X1)) k
theorem withCtx_eq {β : Type} (G : Nat → List Int → Int) (GI : Nat → List Itv → Itv) (vars : List (Int × Int)) (fs : List B) (k : Ctx → β) :
    withCtx G GI vars fs k = k (Ctx.pre (Ctx.more (Ctx.pre ⟨G, GI, vars, fs⟩))) := by
  unfold withCtx; rw [forceCtx_eq, forceCtx_eq]
theorem withCtx_ok {G : Nat → List Int → Int} {GI : Nat → List Itv → Itv} {vars : List (Int × Int)} {fs : List B} {ρ : Nat → Int} (hX : Ctx.Ok ⟨G, GI, vars, fs⟩ ρ) : (Ctx.pre (Ctx.more (Ctx.pre ⟨G, GI, vars, fs⟩))).Ok ρ := by
  have h1 := Ctx.pre_ok hX
  have h2 : (Ctx.more (Ctx.pre ⟨G, GI, vars, fs⟩)).Ok ρ := ⟨h1.vars, more_facts h1, h1.gi⟩
  exact Ctx.pre_ok h2
theorem way_calls3 {P : Program} {G : Nat → List Int → Int} {GI : Nat → List Itv → Itv} {vars : List (Int × Int)} {ρ : Nat → Int} {gb : Globs} {ct : Contracts} {n : Nat} {f : FuncId} {args : List SV} {p : Value → Prop} {run : List B → Res SV}
    (hrun : ∀ fs, run fs = withCtx G GI vars fs fun X => exFun P X gb ct n f args) (hm : P.follows .mixedOrders = true)
    (hv : ∀ i q, vars[i]? = some q → q.1 ≤ ρ i ∧ ρ i ≤ q.2) (hg : ∀ g is xs, itvsHave is xs → (GI g is).has (G g xs))
    (hct : ∀ X : Ctx, X.Ok ρ → X.G = G → CtOk P X ρ gb ct) (hargs : SV.ubdL 0 args = true) (hfl : gbFlat gb = true) (ha : gbApart gb)
    (hgood : Way run G ρ (fun s => s.ubd 0 = true ∧ p (s.den G ρ)) []) (w : World) (hw : WOk gb w) :
    Known P f ∧ Calls P f (SV.denL G ρ args).toArray w (fun e w' => ∃ v, e = .returned v ∧ p v ∧ Below w.heap.size w w') := by
  obtain ⟨fs, s, h1, h2, h3, h4⟩ := hgood (fun b hb => by cases hb)
  rw [hrun, withCtx_eq] at h2
  have hX := withCtx_ok (show Ctx.Ok ⟨G, GI, vars, fs⟩ ρ from ⟨hv, h1, hg⟩)
  obtain ⟨hk, hc⟩ := exFun_calls hX (hct _ hX rfl) hfl ha hm h2 (SV.denL_R args hargs) w hw
  refine ⟨hk, hc.mono ?_⟩
  rintro e w' ⟨v, α, rfl, r, hb⟩
  refine ⟨v, rfl, ?_, hb⟩
  rw [SV.R_den s v h3 r]
  exact h4
theorem way_cut {run : List B → Res SV} {G : Nat → List Int → Int} {ρ : Nat → Int} {p : SV → Prop} {fs : List B} (b : B)
    (h1 : b.den G ρ = true → Way run G ρ p (grow b ++ fs)) (h2 : b.den G ρ = false → Way run G ρ p (grow b.neg ++ fs)) : Way run G ρ p fs := by
  intro hf
  cases hb : b.den G ρ
  · refine h2 hb ?_
    intro c hc
    rcases List.mem_append.1 hc with hc | hc
    · exact grow_den (by rw [B.neg_den, hb]; rfl) c hc
    · exact hf c hc
  · refine h1 hb ?_
    intro c hc
    rcases List.mem_append.1 hc with hc | hc
    · exact grow_den hb c hc
    · exact hf c hc
end Sx
end Go.Proofs.YtnffpaenalccaaaDoor
namespace Go.Proofs.YtnffpaenalccaaaDoor
namespace Sx
open Go Go.RowKit

mutual
def E.low (n : Nat) : E → Bool
  | .lit _ => true
  | .var i => decide (i < n)
  | .op _ a b => E.low n a && E.low n b
  | .wrap _ a => E.low n a
  | .bit _ _ a b => E.low n a && E.low n b
  | .app _ l => EL.low n l
def EL.low (n : Nat) : EL → Bool
  | .nil => true
  | .cons e l => E.low n e && EL.low n l
end
def B.low (n : Nat) : B → Bool
  | .lit _ => true
  | .cmp _ a b => E.low n a && E.low n b
  | .and a b => B.low n a && B.low n b
  | .or a b => B.low n a && B.low n b
def LowSame (n : Nat) (ρ ρ' : Nat → Int) : Prop := ∀ i, i < n → ρ i = ρ' i
mutual
theorem E.low_den {n : Nat} {ρ ρ' : Nat → Int} (G : Nat → List Int → Int) (h : LowSame n ρ ρ') : ∀ e : E, e.low n = true → e.den G ρ = e.den G ρ'
  | .lit _, _ => by simp only [E.den]
  | .var i, g => by simp only [E.low, decide_eq_true_eq] at g; simp only [E.den]; exact h i g
  | .op _ a b, g => by simp only [E.low, Bool.and_eq_true] at g; simp only [E.den]; rw [E.low_den G h a g.1, E.low_den G h b g.2]
  | .wrap _ a, g => by simp only [E.low] at g; simp only [E.den]; rw [E.low_den G h a g]
  | .bit _ _ a b, g => by simp only [E.low, Bool.and_eq_true] at g; simp only [E.den]; rw [E.low_den G h a g.1, E.low_den G h b g.2]
  | .app _ l, g => by simp only [E.low] at g; simp only [E.den]; rw [EL.low_den G h l g]
theorem EL.low_den {n : Nat} {ρ ρ' : Nat → Int} (G : Nat → List Int → Int) (h : LowSame n ρ ρ') : ∀ l : EL, l.low n = true → l.den G ρ = l.den G ρ'
  | .nil, _ => by simp only [EL.den]
  | .cons e l, g => by simp only [EL.low, Bool.and_eq_true] at g; simp only [EL.den]; rw [E.low_den G h e g.1, EL.low_den G h l g.2]
end
theorem B.low_den {n : Nat} {ρ ρ' : Nat → Int} (G : Nat → List Int → Int) (h : LowSame n ρ ρ') : ∀ b : B, b.low n = true → b.den G ρ = b.den G ρ'
  | .lit _, _ => by simp only [B.den]
  | .cmp _ a b, g => by simp only [B.low, Bool.and_eq_true] at g; simp only [B.den]; rw [E.low_den G h a g.1, E.low_den G h b g.2]
  | .and a b, g => by simp only [B.low, Bool.and_eq_true] at g; simp only [B.den]; rw [B.low_den G h a g.1, B.low_den G h b g.2]
  | .or a b, g => by simp only [B.low, Bool.and_eq_true] at g; simp only [B.den]; rw [B.low_den G h a g.1, B.low_den G h b g.2]
mutual
def SV.diff (n : Nat) : SV → SV → Option (List SV)
  | .any, .any => some []
  | .int k e, .int q f => if decide (k = q) then (if E.eqb e f && e.low n then some [] else some [.int k e, .int k f]) else none
  | .bool b, .bool c => if B.eqb b c && b.low n then some [] else none
  | .ptr i o, .ptr j p => if i == j && o == p then some [] else none
  | .slice i o l c, .slice j p m d => if i == j && o == p && l == m && c == d then some [] else none
  | .agg l, .agg r => SV.diffL n l r
  | .tuple l, .tuple r => SV.diffL n l r
  | .con v, .con u => if Value.same v u then some [] else none
  | .map i, .map j => if i == j then some [] else none
  | _, .any => some []
  | _, _ => none
def SV.diffL (n : Nat) : List SV → List SV → Option (List SV)
  | [], [] => some []
  | a :: l, b :: r => match SV.diff n a b with
    | some x => match SV.diffL n l r with
      | some y => some (x ++ y)
      | none => none
    | none => none
  | _, _ => none
end
section
variable (G : Nat → List Int → Int)
def AgreeSV (ρ ρ' : Nat → Int) : List SV → Prop
  | [] => True
  | .int _ a :: .int _ b :: l => a.den G ρ = b.den G ρ' ∧ AgreeSV ρ ρ' l
  | _ => False
end
section
variable {G : Nat → List Int → Int} {ρ ρ' : Nat → Int} {n : Nat}
inductive Pairs : List SV → Prop where
  | nil : Pairs []
  | cons (k : IntKind) (a b : E) {l : List SV} (h : Pairs l) : Pairs (.int k a :: .int k b :: l)
theorem Pairs.append {l r : List SV} (h : Pairs l) (g : Pairs r) : Pairs (l ++ r) := by
  induction h with
  | nil => exact g
  | cons k a b _ ih => exact .cons k a b ih
theorem AgreeSV.split {l r : List SV} (h : Pairs l) (g : AgreeSV G ρ ρ' (l ++ r)) : AgreeSV G ρ ρ' l ∧ AgreeSV G ρ ρ' r := by
  induction h with
  | nil => exact ⟨trivial, g⟩
  | cons k a b _ ih =>
    simp only [List.cons_append, AgreeSV] at g
    exact ⟨⟨g.1, (ih g.2).1⟩, (ih g.2).2⟩
mutual
theorem SV.diff_pairs : ∀ (s t : SV) (L : List SV), SV.diff n s t = some L → Pairs L
  | s, t, L, h => by
    unfold SV.diff at h
    split at h
    · cases h; exact .nil
    · split at h
      · split at h
        · cases h; exact .nil
        · cases h; exact .cons _ _ _ .nil
      · cases h
    · split at h <;> cases h; exact .nil
    · split at h <;> cases h; exact .nil
    · split at h <;> cases h; exact .nil
    · rename_i l r; exact SV.diffL_pairs l r L h
    · rename_i l r; exact SV.diffL_pairs l r L h
    · split at h <;> cases h; exact .nil
    · split at h <;> cases h; exact .nil
    · cases h; exact .nil
    · cases h
theorem SV.diffL_pairs : ∀ (s t : List SV) (L : List SV), SV.diffL n s t = some L → Pairs L
  | [], t, L, h => by
    cases t with
    | nil => simp only [SV.diffL] at h; cases h; exact .nil
    | cons => simp [SV.diffL] at h
  | a :: l, t, L, h => by
    cases t with
    | nil => simp [SV.diffL] at h
    | cons b r =>
      simp only [SV.diffL] at h
      split at h
      · rename_i x hx
        split at h
        · rename_i y hy
          cases h
          exact (SV.diff_pairs a b x hx).append (SV.diffL_pairs l r y hy)
        · cases h
      · cases h
end
mutual
theorem SV.diff_R (hl : LowSame n ρ ρ') {α : AMap} : ∀ (s t : SV) (L : List SV), SV.diff n s t = some L → AgreeSV G ρ ρ' L → ∀ v, SV.R G ρ α s v → SV.R G ρ' α t v
  | s, t, L, h, ha, v, hr => by
    unfold SV.diff at h
    split at h
    · simp [SV.R]
    · rename_i k e q f
      split at h
      · rename_i hk
        simp only [decide_eq_true_eq] at hk
        subst hk
        simp only [SV.R] at hr ⊢
        split at h
        · rename_i he
          simp only [Bool.and_eq_true] at he
          rw [hr, ← E.eqb_eq _ _ he.1, E.low_den G hl e he.2]
        · cases h
          simp only [AgreeSV] at ha
          rw [hr, ha.1]
      · cases h
    · split at h
      · rename_i he
        simp only [Bool.and_eq_true] at he
        simp only [SV.R] at hr ⊢
        rw [hr, ← B.eqb_eq _ _ he.1, B.low_den G hl _ he.2]
      · cases h
    · split at h
      · rename_i he
        simp only [Bool.and_eq_true, beq_iff_eq] at he
        rw [← he.1, ← he.2]
        simpa [SV.R] using hr
      · cases h
    · split at h
      · rename_i he
        simp only [Bool.and_eq_true, beq_iff_eq] at he
        rw [← he.1.1.1, ← he.1.1.2, ← he.1.2, ← he.2]
        simpa [SV.R] using hr
      · cases h
    · rename_i l r
      simp only [SV.R] at hr ⊢
      obtain ⟨cs, rfl, h2⟩ := hr
      exact ⟨cs, rfl, SV.diffL_R hl l r L h ha cs h2⟩
    · rename_i l r
      simp only [SV.R] at hr ⊢
      obtain ⟨cs, rfl, h2⟩ := hr
      exact ⟨cs, rfl, SV.diffL_R hl l r L h ha cs h2⟩
    · split at h
      · rename_i he
        rw [← Value.same_eq he]
        simpa [SV.R] using hr
      · cases h
    · split at h
      · rename_i he
        simp only [beq_iff_eq] at he
        rw [← he]
        simpa [SV.R] using hr
      · cases h
    · simp [SV.R]
    · cases h
theorem SV.diffL_R (hl : LowSame n ρ ρ') {α : AMap} : ∀ (s t : List SV) (L : List SV), SV.diffL n s t = some L → AgreeSV G ρ ρ' L → ∀ v, SV.RL G ρ α s v → SV.RL G ρ' α t v
  | [], t, L, h, ha, v, hr => by
    cases t with
    | nil => simpa [SV.RL] using hr
    | cons => simp [SV.diffL] at h
  | a :: l, t, L, h, ha, v, hr => by
    cases t with
    | nil => simp [SV.diffL] at h
    | cons b r =>
      simp only [SV.diffL] at h
      split at h
      · rename_i x hx
        split at h
        · rename_i y hy
          cases h
          obtain ⟨a1, a2⟩ := AgreeSV.split (SV.diff_pairs a b x hx) ha
          simp only [SV.RL] at hr ⊢
          obtain ⟨u, us, rfl, h2, h3⟩ := hr
          exact ⟨u, us, rfl, SV.diff_R hl a b x hx a1 u h2, SV.diffL_R hl l r y hy a2 us h3⟩
        · cases h
      · cases h
end
end
def Heap.diff (n : Nat) : Heap → Heap → Option (List SV)
  | [], [] => some []
  | none :: l, none :: r => Heap.diff n l r
  | some (cs, T) :: l, some (ds, U) :: r =>
    if T == U then match SV.diffL n cs ds with
      | some x => match Heap.diff n l r with
        | some y => some (x ++ y)
        | none => none
      | none => none
    else none
  | _, _ => none
def SameNone (σ τ : Heap) : Prop := σ.length = τ.length ∧ ∀ id : Nat, σ[id]? = some none ↔ τ[id]? = some none
theorem SameNone.refl (σ : Heap) : SameNone σ σ := ⟨rfl, fun _ => Iff.rfl⟩
theorem SameNone.symm {σ τ : Heap} (h : SameNone σ τ) : SameNone τ σ := ⟨h.1.symm, fun i => (h.2 i).symm⟩
theorem SameNone.trans {σ τ υ : Heap} (h : SameNone σ τ) (g : SameNone τ υ) : SameNone σ υ := ⟨h.1.trans g.1, fun i => (h.2 i).trans (g.2 i)⟩
theorem Ext.swap {m : Nat} {σ σ' τ τ' : Heap} {α α' : AMap} {w w' : World} (h : SameNone σ τ) (g : SameNone σ' τ') (x : Ext m σ σ' α α' w w') : Ext m τ τ' α α' w w' :=
  ⟨x.os, x.tape, x.output, x.size, by rw [← h.1, ← g.1]; exact x.len, x.mono, x.fresh, fun b hb hh => x.hid b hb (fun id e => (h.2 id).2 (hh id e)), fun id b e hn => (g.2 id).1 (x.mask id b e ((h.2 id).2 hn))⟩
section
variable {G : Nat → List Int → Int} {ρ ρ' : Nat → Int} {n : Nat} {gl : List (Nat × Nat)}
theorem Heap.diff_pairs : ∀ (σ τ : Heap) (L : List SV), Heap.diff n σ τ = some L → Pairs L
  | [], [], L, h => by simp only [Heap.diff] at h; cases h; exact .nil
  | none :: l, none :: r, L, h => by simp only [Heap.diff] at h; exact Heap.diff_pairs l r L h
  | some (cs, T) :: l, some (ds, U) :: r, L, h => by
    simp only [Heap.diff] at h
    split at h
    · split at h
      · rename_i x hx
        split at h
        · rename_i y hy
          cases h
          exact (SV.diffL_pairs cs ds x hx).append (Heap.diff_pairs l r y hy)
        · cases h
      · cases h
    · cases h
  | [], _ :: _, L, h => by simp [Heap.diff] at h
  | _ :: _, [], L, h => by simp [Heap.diff] at h
  | none :: _, some _ :: _, L, h => by simp [Heap.diff] at h
  | some _ :: _, none :: _, L, h => by simp [Heap.diff] at h
theorem Heap.diff_same : ∀ (σ τ : Heap) (L : List SV), Heap.diff n σ τ = some L → SameNone σ τ
  | [], [], L, h => SameNone.refl _
  | none :: l, none :: r, L, h => by
    simp only [Heap.diff] at h
    have := Heap.diff_same l r L h
    refine ⟨by simp [this.1], ?_⟩
    intro id
    cases id with
    | zero => simp
    | succ k => simpa using this.2 k
  | some (cs, T) :: l, some (ds, U) :: r, L, h => by
    simp only [Heap.diff] at h
    split at h
    · split at h
      · split at h
        · rename_i y hy
          have := Heap.diff_same l r y hy
          refine ⟨by simp [this.1], ?_⟩
          intro id
          cases id with
          | zero => simp
          | succ k => simpa using this.2 k
        · cases h
      · cases h
    · cases h
  | [], _ :: _, L, h => by simp [Heap.diff] at h
  | _ :: _, [], L, h => by simp [Heap.diff] at h
  | none :: _, some _ :: _, L, h => by simp [Heap.diff] at h
  | some _ :: _, none :: _, L, h => by simp [Heap.diff] at h
theorem Heap.diff_blk (hl : LowSame n ρ ρ') {α : AMap} : ∀ (σ τ : Heap) (L : List SV), Heap.diff n σ τ = some L → AgreeSV G ρ ρ' L → ∀ (id : Nat) (ds : List SV) (T : TypeId), τ[id]? = some (some (ds, T)) →
    ∃ cs, σ[id]? = some (some (cs, T)) ∧ ∀ vs, SV.RL G ρ α cs vs → SV.RL G ρ' α ds vs
  | [], [], L, h, ha, id, ds, T, e => by simp at e
  | none :: l, none :: r, L, h, ha, id, ds, T, e => by
    simp only [Heap.diff] at h
    cases id with
    | zero => simp at e
    | succ k => simpa using Heap.diff_blk hl l r L h ha k ds T (by simpa using e)
  | some (cs, T) :: l, some (ds, U) :: r, L, h, ha, id, es, V, e => by
    simp only [Heap.diff] at h
    split at h
    · rename_i hT
      simp only [beq_iff_eq] at hT
      subst hT
      split at h
      · rename_i x hx
        split at h
        · rename_i y hy
          cases h
          obtain ⟨a1, a2⟩ := AgreeSV.split (SV.diffL_pairs cs ds x hx) ha
          cases id with
          | zero =>
            simp only [List.getElem?_cons_zero, Option.some.injEq, Prod.mk.injEq] at e
            obtain ⟨rfl, rfl⟩ := e
            exact ⟨cs, by simp, fun vs => SV.diffL_R hl cs ds x hx a1 vs⟩
          | succ k => simpa using Heap.diff_blk hl l r y hy a2 k es V (by simpa using e)
        · cases h
      · cases h
    · cases h
  | [], _ :: _, L, h, ha, _, _, _, _ => by simp [Heap.diff] at h
  | _ :: _, [], L, h, ha, _, _, _, _ => by simp [Heap.diff] at h
  | none :: _, some _ :: _, L, h, ha, _, _, _, _ => by simp [Heap.diff] at h
  | some _ :: _, none :: _, L, h, ha, _, _, _, _ => by simp [Heap.diff] at h
def St.diff (n : Nat) (s t : St) : Option (List SV) :=
  match SV.diffL n s.tmps t.tmps with
  | some x => match Heap.diff n s.heap t.heap with
    | some y => some (x ++ y)
    | none => none
  | none => none
theorem St.diff_rel {X X' : Ctx} (hX : X.G = G) (hX' : X'.G = G) (hl : LowSame n ρ ρ') {s t : St} {L : List SV} (h : St.diff n s t = some L) (ha : AgreeSV G ρ ρ' L) {α : AMap} {a : Act} {w : World} (hr : RelSt X ρ gl α s a w) :
    RelSt X' ρ' gl α t a w ∧ SameNone s.heap t.heap := by
  unfold St.diff at h
  split at h
  · rename_i x hx
    split at h
    · rename_i y hy
      cases h
      obtain ⟨a1, a2⟩ := AgreeSV.split (SV.diffL_pairs _ _ x hx) ha
      have hs := Heap.diff_same _ _ y hy
      have h1 := hr.tmps
      have h2 := hr.mem
      rw [hX] at h1 h2
      refine ⟨⟨by rw [hX']; exact SV.diffL_R hl _ _ x hx a1 _ h1, hr.defers, ?_⟩, hs⟩
      rw [hX']
      refine ⟨fun id b e => ?_, h2.inj, ?_, h2.glob⟩
      · rw [← hs.1]; exact h2.dom id b e
      · intro id ds T e
        obtain ⟨cs, e1, e2⟩ := Heap.diff_blk (α := α) hl _ _ y hy a2 id ds T e
        obtain ⟨b, vs, g1, g2, g3⟩ := h2.blk id cs T e1
        exact ⟨b, vs, g1, g2, e2 vs g3⟩
    · cases h
  · cases h
end
mutual
def SV.ubdA (N : Nat) : SV → Bool
  | .any => true
  | .ptr id _ => decide (id < N)
  | .slice id _ _ _ => decide (id < N)
  | .map id => decide (id < N)
  | .agg l => SV.ubdAL N l
  | .tuple l => SV.ubdAL N l
  | .func _ f c => SV.ubdAL N f && SV.ubdAL N c
  | _ => true
def SV.ubdAL (N : Nat) : List SV → Bool
  | [] => true
  | s :: l => SV.ubdA N s && SV.ubdAL N l
end
section
variable {G : Nat → List Int → Int} {ρ ρ' : Nat → Int} {n : Nat} {gl : List (Nat × Nat)}
mutual
theorem SV.R_cut {α : AMap} {N : Nat} : ∀ (s : SV) (v : Value), s.ubdA N = true → SV.R G ρ α s v → SV.R G ρ (cutA N α) s v
  | .any, v, _, _ => by simp [SV.R]
  | .bool b, v, _, r => by simpa [SV.R] using r
  | .int k e, v, _, r => by simpa [SV.R] using r
  | .con x, v, _, r => by simpa [SV.R] using r
  | .ptr id o, v, h, r => by
    simp only [SV.R] at r ⊢
    simp only [SV.ubdA, decide_eq_true_eq] at h
    obtain ⟨b, h1, h2⟩ := r
    exact ⟨b, cutA_of h1 h, h2⟩
  | .slice id _ _ _, v, h, r => by
    simp only [SV.R] at r ⊢
    simp only [SV.ubdA, decide_eq_true_eq] at h
    obtain ⟨b, h1, h2⟩ := r
    exact ⟨b, cutA_of h1 h, h2⟩
  | .map id, v, h, r => by
    simp only [SV.R] at r ⊢
    simp only [SV.ubdA, decide_eq_true_eq] at h
    obtain ⟨b, h1, h2⟩ := r
    exact ⟨b, cutA_of h1 h, h2⟩
  | .agg l, v, h, r => by
    simp only [SV.R] at r ⊢
    simp only [SV.ubdA] at h
    obtain ⟨cs, rfl, h2⟩ := r
    exact ⟨cs, rfl, SV.RL_cut l cs h h2⟩
  | .tuple l, v, h, r => by
    simp only [SV.R] at r ⊢
    simp only [SV.ubdA] at h
    obtain ⟨cs, rfl, h2⟩ := r
    exact ⟨cs, rfl, SV.RL_cut l cs h h2⟩
  | .func fn f c, v, h, r => by
    simp only [SV.R] at r ⊢
    simp only [SV.ubdA, Bool.and_eq_true] at h
    obtain ⟨fs, cs, rfl, h2, h3⟩ := r
    exact ⟨fs, cs, rfl, SV.RL_cut f fs h.1 h2, SV.RL_cut c cs h.2 h3⟩
theorem SV.RL_cut {α : AMap} {N : Nat} : ∀ (l : List SV) (vs : List Value), SV.ubdAL N l = true → SV.RL G ρ α l vs → SV.RL G ρ (cutA N α) l vs
  | [], vs, _, r => by simpa [SV.RL] using r
  | s :: l, vs, h, r => by
    simp only [SV.RL] at r ⊢
    simp only [SV.ubdAL, Bool.and_eq_true] at h
    obtain ⟨v, us, rfl, h2, h3⟩ := r
    exact ⟨v, us, rfl, SV.R_cut s v h.1 h2, SV.RL_cut l us h.2 h3⟩
end
def St.diffT (n : Nat) (gl : List (Nat × Nat)) (s t : St) : Option (List SV) :=
  if SV.ubdAL t.heap.length t.tmps && SV.ubdH t.heap.length t.heap && gl.all (fun p => decide (p.2 < t.heap.length)) && decide (t.heap.length ≤ s.heap.length) then St.diff n ⟨s.tmps, s.heap.take t.heap.length⟩ t else none
theorem St.diffT_rel {X X' : Ctx} (hX : X.G = G) (hX' : X'.G = G) (hl : LowSame n ρ ρ') {s t : St} {L : List SV} (h : St.diffT n gl s t = some L) (ha : AgreeSV G ρ ρ' L) {α : AMap} {a : Act} {w : World} (hr : RelSt X ρ gl α s a w) :
    RelSt X' ρ' gl (cutA t.heap.length α) t a w ∧ ∀ (m : Nat) (σ0 : Heap) (α0 : AMap) (w0 : World), (∀ id b, α0 id = some b → id < σ0.length) → σ0.length ≤ t.heap.length → Ext m σ0 s.heap α0 α w0 w → Ext m σ0 t.heap α0 (cutA t.heap.length α) w0 w := by
  unfold St.diffT at h
  split at h
  case isFalse => cases h
  rename_i hg
  simp only [Bool.and_eq_true, decide_eq_true_eq, List.all_eq_true] at hg
  obtain ⟨⟨⟨g1, g2⟩, g3⟩, g4⟩ := hg
  unfold St.diff at h
  split at h
  · rename_i x hx
    split at h
    · rename_i y hy
      cases h
      obtain ⟨a1, a2⟩ := AgreeSV.split (SV.diffL_pairs _ _ x hx) ha
      have hs := Heap.diff_same _ _ y hy
      have h1 := hr.tmps
      have h2 := hr.mem
      rw [hX] at h1 h2
      have tk : ∀ id : Nat, id < t.heap.length → (s.heap.take t.heap.length)[id]? = s.heap[id]? := fun id hid => by rw [List.getElem?_take, if_pos hid]
      refine ⟨⟨by rw [hX']; exact SV.RL_cut _ _ g1 (SV.diffL_R hl _ _ x hx a1 _ h1), hr.defers, ?_⟩, ?_⟩
      · rw [hX']
        refine ⟨fun id b e => ⟨(cutA_lt e).1, (h2.dom id b (cutA_lt e).2).2⟩, fun i j b ei ej => h2.inj i j b (cutA_lt ei).2 (cutA_lt ej).2, ?_, fun p hp => cutA_of (h2.glob p hp) (g3 p hp)⟩
        intro id ds T e
        have hid : id < t.heap.length := (List.getElem?_eq_some_iff.1 e).1
        obtain ⟨cs, e1, e2⟩ := Heap.diff_blk (α := α) hl _ _ y hy a2 id ds T e
        rw [tk id hid] at e1
        obtain ⟨b, vs, q1, q2, q3⟩ := h2.blk id cs T e1
        exact ⟨b, vs, cutA_of q1 hid, q2, SV.RL_agree t.heap.length (fun id b hid e => cutA_of e hid) _ _ (ubdH_get g2 e) (e2 vs q3)⟩
      · intro m σ0 α0 w0 hd hle hx
        refine ⟨hx.os, hx.tape, hx.output, hx.size, hle, fun id b e => cutA_of (hx.mono id b e) (Nat.lt_of_lt_of_le (hd id b e) hle), fun id b e => hx.fresh id b (cutA_lt e).2, hx.hid, ?_⟩
        intro id b e hn
        have hid := Nat.lt_of_lt_of_le (hd id b e) hle
        have := hx.mask id b e hn
        rw [← tk id hid] at this
        exact (hs.2 id).1 this
    · cases h
  · cases h
end
end Sx
end Go.Proofs.YtnffpaenalccaaaDoor
namespace Go.Proofs.YtnffpaenalccaaaDoor
namespace Sx
open Go Go.RowKit

def codeLoops : Code → List Code
  | .seq a b => codeLoops a ++ codeLoops b
  | .cond _ a b => codeLoops a ++ codeLoops b
  | .block _ b => codeLoops b
  | .scope b => codeLoops b
  | .loop b => [b]
  | _ => []
def loopKey : Code → Option Nat
  | .region id _ _ => some id
  | .seq a b => match loopKey a with
    | some i => some i
    | none => loopKey b
  | .cond _ a b => match loopKey a with
    | some i => some i
    | none => loopKey b
  | .block _ b => loopKey b
  | .scope b => loopKey b
  | .loop b => loopKey b
  | _ => none
abbrev Loops := Nat → Option (Ctx → St → Res (Ex × St))
def exCodeL (P : Program) (X : Ctx) (gb : Globs) (ct : Contracts) (lp : Loops) : Nat → Code → St → Res (Ex × St)
  | 0, _, _ => .fail 130
  | n + 1, c, st =>
    match c with
    | .seq a b => (exCodeL P X gb ct lp n a st).bind fun r =>
      match r.1 with
      | .normal => exCodeL P X gb ct lp n b r.2
      | _ => .ok r
    | .cond o a b =>
      match evO (glOf gb) st.tmps o with
      | .bool t => (Res.test X t).bind fun r => if r then exCodeL P X gb ct lp n a st else exCodeL P X gb ct lp n b st
      | _ => .fail 131
    | .block id b => (exCodeL P X gb ct lp n b st).bind fun r =>
      match r.1 with
      | .exit i => if i = id then .ok (.normal, r.2) else .ok r
      | _ => .ok r
    | .loop b =>
      match loopKey b with
      | some k => match lp k with
        | some g => g X st
        | none => exCode P X gb ct (n + 1) (.loop b) st
      | none => exCode P X gb ct (n + 1) (.loop b) st
    | .scope b => exCodeL P X gb ct lp n b st
    | c => exCode P X gb ct (n + 1) c st
def LpAt (P : Program) (X : Ctx) (ρ : Nat → Int) (gl : List (Nat × Nat)) (lp : Loops) (b : Code) : Prop :=
  ∀ k g, loopKey b = some k → lp k = some g → ∀ st e st', g X st = .ok (e, st') → ∀ α a w Q, RelSt X ρ gl α st a w →
    (∀ a' w' α', RelSt X ρ gl α' st' a' w' → Ext st.heap.length st.heap st'.heap α α' w w' → Q e.toExit a' w') → (Code.loop b).wp P Q a w
def LpOk (P : Program) (X : Ctx) (ρ : Nat → Int) (gl : List (Nat × Nat)) (lp : Loops) (c : Code) : Prop := ∀ b, b ∈ codeLoops c → LpAt P X ρ gl lp b
section
variable {P : Program} {X : Ctx} {ρ : Nat → Int} {gb : Globs} {ct : Contracts}
theorem exCodeL_wp {lp : Loops} (hX : X.Ok ρ) (hct : CtOk P X ρ gb ct) (hfl : gbFlat gb = true) (hm : P.follows .mixedOrders = true) : ∀ (n : Nat) (c : Code) (st : St) (e : Ex) (st' : St), LpOk P X ρ (glOf gb) lp c → exCodeL P X gb ct lp n c st = .ok (e, st') →
    ∀ α a w Q, RelSt X ρ (glOf gb) α st a w → (∀ a' w' α', RelSt X ρ (glOf gb) α' st' a' w' → Ext st.heap.length st.heap st'.heap α α' w w' → Q e.toExit a' w') → c.wp P Q a w
  | 0, c, st, e, st', hlp, h => by simp [exCodeL] at h
  | n + 1, c, st, e, st', hlp, h => by
    have ih := fun c' st e st' (hl : LpOk P X ρ (glOf gb) lp c') => exCodeL_wp (n := n) hX hct hfl hm c' st e st' hl
    have plain : exCode P X gb ct (n + 1) c st = .ok (e, st') → ∀ α a w Q, RelSt X ρ (glOf gb) α st a w → (∀ a' w' α', RelSt X ρ (glOf gb) α' st' a' w' → Ext st.heap.length st.heap st'.heap α α' w w' → Q e.toExit a' w') → c.wp P Q a w :=
      fun hh => (exCode_wp hX hct hfl hm (n + 1)).1 c st e st' hh
    intro α a w Q hr hQ
    cases c with
    | seq x y =>
      simp only [exCodeL] at h
      obtain ⟨r, h1, h⟩ := Res.bind_ok h
      obtain ⟨e1, s1⟩ := r
      have lx : LpOk P X ρ (glOf gb) lp x := fun b hb => hlp b (by simp only [codeLoops]; exact List.mem_append_left _ hb)
      have ly : LpOk P X ρ (glOf gb) lp y := fun b hb => hlp b (by simp only [codeLoops]; exact List.mem_append_right _ hb)
      refine wp_seq (ih x st e1 s1 lx h1 α a w _ hr ?_)
      intro a1 w1 α1 r1 x1
      cases e1 with
      | normal =>
        simp only at h
        simp only [Ex.toExit, Exit.then]
        exact ih y s1 e st' ly h α1 a1 w1 Q r1 (fun a' w' α' r2 x2 => hQ a' w' α' r2 (x1.trans x2 x1.len))
      | exit id => cases h; exact hQ a1 w1 α1 r1 x1
      | ret => cases h; exact hQ a1 w1 α1 r1 x1
    | cond o x y =>
      simp only [exCodeL] at h
      have lx : LpOk P X ρ (glOf gb) lp x := fun b hb => hlp b (by simp only [codeLoops]; exact List.mem_append_left _ hb)
      have ly : LpOk P X ρ (glOf gb) lp y := fun b hb => hlp b (by simp only [codeLoops]; exact List.mem_append_right _ hb)
      split at h
      · rename_i t ht
        replace h := Res.bind_ok h
        obtain ⟨r, h1, h⟩ := h
        have hd := Res.test_ok hX h1
        have ho := evO_R hr.tmps hr.mem.glob o
        rw [ht] at ho
        simp only [SV.R] at ho
        rw [hd] at ho
        refine wp_cond ho ?_
        cases r
        · simp only [Bool.false_eq_true, if_false] at h ⊢
          exact ih y st e st' ly h α a w Q hr hQ
        · simp only [if_true] at h ⊢
          exact ih x st e st' lx h α a w Q hr hQ
      · cases h
    | block id x =>
      simp only [exCodeL] at h
      have lx : LpOk P X ρ (glOf gb) lp x := fun b hb => hlp b (by simp only [codeLoops]; exact hb)
      obtain ⟨r, h1, h⟩ := Res.bind_ok h
      obtain ⟨e1, s1⟩ := r
      refine wp_block (ih x st e1 s1 lx h1 α a w _ hr ?_)
      intro a1 w1 α1 r1 x1
      cases e1 with
      | normal => cases h; exact hQ a1 w1 α1 r1 x1
      | exit i =>
        simp only at h
        simp only [Ex.toExit, Exit.inBlock]
        split at h
        · rename_i hi
          cases h
          rw [if_pos hi]
          exact hQ a1 w1 α1 r1 x1
        · rename_i hi
          cases h
          rw [if_neg hi]
          exact hQ a1 w1 α1 r1 x1
      | ret => cases h; exact hQ a1 w1 α1 r1 x1
    | loop b =>
      simp only [exCodeL] at h
      split at h
      · rename_i k hk
        split at h
        · rename_i g hg
          exact hlp b (by simp [codeLoops]) k g hk hg st e st' h α a w Q hr hQ
        · exact plain h α a w Q hr hQ
      · exact plain h α a w Q hr hQ
    | scope x =>
      simp only [exCodeL] at h
      have lx : LpOk P X ρ (glOf gb) lp x := fun b hb => hlp b (by simp only [codeLoops]; exact hb)
      refine wp_scope_straight (ih x st e st' lx h α a w _ hr ?_)
      intro a1 w1 α1 r1 x1
      have := hQ a1 w1 α1 r1 x1
      cases e <;> exact this
    | skip => simp only [exCodeL] at h; exact plain h α a w Q hr hQ
    | label l => simp only [exCodeL] at h; exact plain h α a w Q hr hQ
    | exit id => simp only [exCodeL] at h; exact plain h α a w Q hr hQ
    | ret => simp only [exCodeL] at h; exact plain h α a w Q hr hQ
    | region id ops draw => simp only [exCodeL] at h; exact plain h α a w Q hr hQ
    | rangeFunc f ps x y => simp only [exCodeL] at h; exact plain h α a w Q hr hQ
    | goto l => simp only [exCodeL] at h; exact plain h α a w Q hr hQ
    | refuse y => simp only [exCodeL] at h; exact plain h α a w Q hr hQ
open Classical in
theorem callWithL_ok {lp : Loops} (hX : X.Ok ρ) (hct : CtOk P X ρ gb ct) (hfl : gbFlat gb = true) (hm : P.follows .mixedOrders = true) {n : Nat} {f : FuncId} {args : List SV} {σ : Heap} {s : SV} {σ' : Heap}
    (hlp : ∀ fn c, P.funcs[f]? = some fn → fn.body = some c → LpOk P X ρ (glOf gb) lp c) (h : callWith P X gb ct (exCodeL P X gb ct lp n) f args σ = .ok (s, σ')) : ∀ α w vals, RelW X.G ρ (glOf gb) α σ w → SV.RL X.G ρ α args vals →
    Known P f ∧ Calls P f vals.toArray w (fun e w' => ∃ v α', e = .returned v ∧ SV.R X.G ρ α' s v ∧ RelW X.G ρ (glOf gb) α' σ' w' ∧ Ext σ.length σ σ' α α' w w') := by
  let run : Code → St → Res (Ex × St) := fun c st => if LpOk P X ρ (glOf gb) lp c then exCodeL P X gb ct lp n c st else .fail 999
  have key : callWith P X gb ct run f args σ = .ok (s, σ') := by
    rw [← h]
    unfold callWith
    cases ct f with
    | some g => rfl
    | none =>
      simp only
      cases hf : P.funcs[f]? with
      | none => rfl
      | some fn =>
        simp only
        cases hb : fn.body with
        | none => rfl
        | some c =>
          have := hlp fn c hf hb
          simp only [run, forceL_eq, if_pos this]
  refine callWith_ok hct hfl (run := run) ?_ f args σ s σ' key
  intro c st e st' hh α a w Q hr hQ
  simp only [run] at hh
  split at hh
  · rename_i hl
    exact exCodeL_wp hX hct hfl hm n c st e st' hl hh α a w Q hr hQ
  · cases hh
def exFunL (P : Program) (X : Ctx) (gb : Globs) (ct : Contracts) (lp : Loops) (n : Nat) (f : FuncId) (args : List SV) : Res SV :=
  (callWith P X gb ct (exCodeL P X gb ct lp n) f args (heapOf gb)).bind fun r => if Heap.begins (heapOf gb) r.2 then .ok r.1 else .fail 140
theorem exFunL_calls {lp : Loops} (hX : X.Ok ρ) (hct : CtOk P X ρ gb ct) (hfl : gbFlat gb = true) (ha : gbApart gb) (hm : P.follows .mixedOrders = true) {n : Nat} {f : FuncId} (hlp : ∀ fn c, P.funcs[f]? = some fn → fn.body = some c → LpOk P X ρ (glOf gb) lp c) {args : List SV} {s : SV} (h : exFunL P X gb ct lp n f args = .ok s) {vals : List Value} (hv : SV.RL X.G ρ (fun _ => none) args vals) (w : World) (hw : WOk gb w) :
    Known P f ∧ Calls P f vals.toArray w (fun e w' => ∃ v α, e = .returned v ∧ SV.R X.G ρ α s v ∧ Below w.heap.size w w') := by
  unfold exFunL at h
  replace h := Res.bind_ok h
  obtain ⟨r, h1, h⟩ := h
  obtain ⟨s1, σ1⟩ := r
  simp only at h
  split at h
  case isFalse => cases h
  rename_i hbeg
  cases h
  have hW := relW_start (X := X) (ρ := ρ) hw hfl ha
  obtain ⟨hk, hc⟩ := callWithL_ok hX hct hfl hm hlp h1 (aOf gb) w vals hW (SV.RL_mono (fun _ _ x => by cases x) _ _ hv)
  refine ⟨hk, hc.mono ?_⟩
  rintro e w' ⟨v, α', rfl, r1, r2, x1⟩
  refine ⟨v, α', rfl, r1, ⟨x1.os, x1.tape, x1.output, x1.size, ?_⟩⟩
  intro k hk'
  by_cases hex : ∃ id, aOf gb id = some k
  · obtain ⟨id, hid⟩ := hex
    have hlt := (hW.dom id k hid).1
    obtain ⟨blk, hblk⟩ : ∃ q, (heapOf gb)[id]? = some q := ⟨(heapOf gb)[id], by simp [hlt]⟩
    have hnn : ∃ c, blk = some c ∧ c.2 ≠ mapTag ∧ SV.sureL c.1 = true := by
      unfold heapOf at hblk
      rw [List.getElem?_map] at hblk
      cases hq : gb[id]? with
      | none => rw [hq] at hblk; cases hblk
      | some q =>
        rw [hq] at hblk
        have hf := List.all_eq_true.1 hfl q (List.mem_of_getElem? hq)
        simp only [Bool.and_eq_true, decide_eq_true_eq] at hf
        exact ⟨q.2, (Option.some.inj hblk).symm, hf.1, lits_sure hf.2⟩
    obtain ⟨⟨cs, T⟩, rfl, hT, hsu⟩ := hnn
    obtain ⟨b, vs, g1, g2, g3⟩ := hW.blk id cs T hblk
    rw [hid] at g1; cases g1
    obtain ⟨b', vs', g4, g5, g6⟩ := r2.blk id cs T (begins_get hbeg hblk)
    rw [x1.mono id k hid] at g4; cases g4
    rw [(isObj_cells hT).1 g2, (isObj_cells hT).1 g5, SV.RL_one cs vs' vs hsu g6 (SV.RL_mono x1.mono cs vs g3)]
  · exact x1.hid k hk' (fun id e => absurd ⟨id, e⟩ hex)

end
theorem way_callsL {P : Program} {lp : Loops} {G : Nat → List Int → Int} {GI : Nat → List Itv → Itv} {vars : List (Int × Int)} {ρ : Nat → Int} {gb : Globs} {ct : Contracts} {n : Nat} {f : FuncId} {args : List SV} {p : Value → Prop} {run : List B → Res SV}
    (hrun : ∀ fs, run fs = withCtx G GI vars fs fun X => exFunL P X gb ct lp n f args) (hm : P.follows .mixedOrders = true)
    (hv : ∀ i q, vars[i]? = some q → q.1 ≤ ρ i ∧ ρ i ≤ q.2) (hg : ∀ g is xs, itvsHave is xs → (GI g is).has (G g xs))
    (hct : ∀ X : Ctx, X.Ok ρ → X.G = G → CtOk P X ρ gb ct) (hlp : ∀ X : Ctx, X.Ok ρ → X.G = G → ∀ fn c, P.funcs[f]? = some fn → fn.body = some c → LpOk P X ρ (glOf gb) lp c) (hargs : SV.ubdL 0 args = true) (hfl : gbFlat gb = true) (ha : gbApart gb)
    (hgood : Way run G ρ (fun s => s.ubd 0 = true ∧ p (s.den G ρ)) []) (w : World) (hw : WOk gb w) :
    Known P f ∧ Calls P f (SV.denL G ρ args).toArray w (fun e w' => ∃ v, e = .returned v ∧ p v ∧ Below w.heap.size w w') := by
  obtain ⟨fs, s, h1, h2, h3, h4⟩ := hgood (fun b hb => by cases hb)
  rw [hrun, withCtx_eq] at h2
  have hX := withCtx_ok (show Ctx.Ok ⟨G, GI, vars, fs⟩ ρ from ⟨hv, h1, hg⟩)
  obtain ⟨hk, hc⟩ := exFunL_calls hX (hct _ hX rfl) hfl ha hm (hlp _ hX rfl) h2 (SV.denL_R args hargs) w hw
  refine ⟨hk, hc.mono ?_⟩
  rintro e w' ⟨v, α, rfl, r, hb⟩
  refine ⟨v, rfl, ?_, hb⟩
  rw [SV.R_den s v h3 r]
  exact h4

def tgtSV (n0 : Nat) (gl : List (Nat × Nat)) (S T : St) (idT : Nat) (r : Ex × St) : Res SV :=
  match r.1 with
  | .normal => match St.diffT n0 gl r.2 S with
    | some L => .ok (.agg L)
    | none => .fail 160
  | .exit i => if i = idT then match St.diffT n0 gl r.2 T with
      | some L => .ok (.tuple L)
      | none => .fail 161
    else .fail 162
  | .ret => .fail 163
def exRound (P : Program) (X : Ctx) (gb : Globs) (ct : Contracts) (lp : Loops) (n : Nat) (b : Code) (n0 : Nat) (S S' T : St) (idT : Nat) : Res SV :=
  (exCodeL P X gb ct lp n b S).bind (tgtSV n0 (glOf gb) S' T idT)
theorem RelSt.ctx {X X' : Ctx} {ρ : Nat → Int} {gl : List (Nat × Nat)} {α : AMap} {st : St} {a : Act} {w : World} (h : X.G = X'.G) (r : RelSt X ρ gl α st a w) : RelSt X' ρ gl α st a w :=
  ⟨by rw [← h]; exact r.tmps, r.defers, by rw [← h]; exact r.mem⟩
def RoundP {ι : Type} (G : Nat → List Int → Int) (ρ : ι → Nat → Int) (ρT : Nat → Int) (n0 : Nat) (Good : ι → Prop) (m : ι → Nat) (x : ι) : SV → Prop
  | .agg l => ∃ y, Good y ∧ m y < m x ∧ LowSame n0 (ρ x) (ρ y) ∧ AgreeSV G (ρ x) (ρ y) l
  | .tuple l => LowSame n0 (ρ x) ρT ∧ AgreeSV G (ρ x) ρT l
  | _ => False
theorem loop_rounds {ι : Type} {P : Program} {G : Nat → List Int → Int} {GI : Nat → List Itv → Itv} {gb : Globs} {ct : Contracts} {lp : Loops} {n n0 idT : Nat} {b : Code} {S T : St} {vars : List (Int × Int)} {ρ : ι → Nat → Int} {ρT : Nat → Int} {m : ι → Nat} {Good : ι → Prop} {run : List B → Res SV}
    (hrun : ∀ fs, run fs = withCtx G GI vars fs fun X => exRound P X gb ct lp n b n0 S S T idT) (hm : P.follows .mixedOrders = true) (hfl : gbFlat gb = true) (hg : ∀ g is xs, itvsHave is xs → (GI g is).has (G g xs))
    (hv : ∀ x, Good x → ∀ i q, vars[i]? = some q → q.1 ≤ ρ x i ∧ ρ x i ≤ q.2)
    (hct : ∀ x, Good x → ∀ X : Ctx, X.Ok (ρ x) → X.G = G → CtOk P X (ρ x) gb ct)
    (hlp : ∀ x, Good x → ∀ X : Ctx, X.Ok (ρ x) → X.G = G → LpOk P X (ρ x) (glOf gb) lp b)
    (way : ∀ x, Good x → Way run G (ρ x) (RoundP G ρ ρT n0 Good m x) []) (hST : S.heap.length ≤ T.heap.length) :
    ∀ k x, Good x → m x < k → ∀ X : Ctx, X.G = G → ∀ α a w Q, RelSt X (ρ x) (glOf gb) α S a w → (∀ a' w' α', RelSt X ρT (glOf gb) α' T a' w' → Ext S.heap.length S.heap T.heap α α' w w' → Q (.exit idT) a' w') → Code.rounds P b Q k a w
  | 0, x, _, hk => by omega
  | k + 1, x, hx, hk => by
    intro X hXG α a w Q hr hQ
    have ih := loop_rounds hrun hm hfl hg hv hct hlp way hST k
    obtain ⟨fs, s, h1, h2, h3⟩ := way x hx (fun b hb => by cases hb)
    rw [hrun, withCtx_eq] at h2
    have hX1 := withCtx_ok (show Ctx.Ok ⟨G, GI, vars, fs⟩ (ρ x) from ⟨hv x hx, h1, hg⟩)
    unfold exRound at h2
    obtain ⟨r, q1, q2⟩ := Res.bind_ok h2
    obtain ⟨e, st'⟩ := r
    rw [rounds_succ]
    refine exCodeL_wp hX1 (hct x hx _ hX1 rfl) hfl hm n b S e st' (hlp x hx _ hX1 rfl) q1 α a w _ (RelSt.ctx hXG hr) ?_
    intro a1 w1 α1 r1 x1
    unfold tgtSV at q2
    split at q2
    · rename_i he
      simp only at he
      subst he
      split at q2
      · rename_i L hL
        cases q2
        simp only [RoundP] at h3
        obtain ⟨y, hy, hmy, hlow, hag⟩ := h3
        obtain ⟨r2, sn⟩ := St.diffT_rel (X' := X) (G := G) rfl hXG hlow hL hag r1
        have x1' := sn _ _ _ _ (fun id b e => (hr.mem.dom id b e).1) (Nat.le_refl _) x1
        simp only [Ex.toExit, Exit.then]
        refine ih y hy (by omega) X hXG _ a1 w1 Q r2 ?_
        intro a' w' α' r3 x3
        exact hQ a' w' α' r3 (x1'.trans x3 (Nat.le_refl _))
      · cases q2
    · rename_i i he
      simp only at he
      subst he
      split at q2
      · rename_i hi
        subst hi
        split at q2
        · rename_i L hL
          cases q2
          simp only [RoundP] at h3
          obtain ⟨hlow, hag⟩ := h3
          obtain ⟨r2, sn⟩ := St.diffT_rel (X' := X) (G := G) rfl hXG hlow hL hag r1
          simp only [Ex.toExit, Exit.then]
          exact hQ a1 w1 _ r2 (sn _ _ _ _ (fun id b e => (hr.mem.dom id b e).1) hST x1)
        · cases q2
      · cases q2
    · cases q2
def ChainP (G : Nat → List Int → Int) (ρ ρT : Nat → Int) (N k : Nat) : SV → Prop
  | .agg l => k < N ∧ AgreeSV G ρ ρ l
  | .tuple l => AgreeSV G ρ ρT l
  | _ => False
theorem chain_rounds {P : Program} {G : Nat → List Int → Int} {GI : Nat → List Itv → Itv} {gb : Globs} {ct : Contracts} {lp : Loops} {n n0 idT N : Nat} {b : Code} {S : Nat → St} {T : St} {vars : List (Int × Int)} {ρ ρT : Nat → Int} {run : Nat → List B → Res SV}
    (hrun : ∀ k fs, run k fs = withCtx G GI vars fs fun X => exRound P X gb ct lp n b n0 (S k) (S (k + 1)) T idT) (hm : P.follows .mixedOrders = true) (hfl : gbFlat gb = true) (hg : ∀ g is xs, itvsHave is xs → (GI g is).has (G g xs))
    (hv : ∀ i q, vars[i]? = some q → q.1 ≤ ρ i ∧ ρ i ≤ q.2) (hlow : LowSame n0 ρ ρT)
    (hct : ∀ X : Ctx, X.Ok ρ → X.G = G → CtOk P X ρ gb ct)
    (hlp : ∀ X : Ctx, X.Ok ρ → X.G = G → LpOk P X ρ (glOf gb) lp b)
    (way : ∀ k, k ≤ N → Way (run k) G ρ (ChainP G ρ ρT N k) []) (hST : ∀ k, (S k).heap.length ≤ (S (k + 1)).heap.length ∧ (S k).heap.length ≤ T.heap.length) :
    ∀ d k, k + d = N → ∀ X : Ctx, X.G = G → ∀ α a w Q, RelSt X ρ (glOf gb) α (S k) a w → (∀ a' w' α', RelSt X ρT (glOf gb) α' T a' w' → Ext (S k).heap.length (S k).heap T.heap α α' w w' → Q (.exit idT) a' w') → Code.rounds P b Q (d + 1) a w := by
  intro d
  induction d with
  | zero =>
    intro k hk X hXG α a w Q hr hQ
    obtain ⟨fs, s, h1, h2, h3⟩ := way k (by omega) (fun b hb => by cases hb)
    rw [hrun, withCtx_eq] at h2
    have hX1 := withCtx_ok (show Ctx.Ok ⟨G, GI, vars, fs⟩ ρ from ⟨hv, h1, hg⟩)
    unfold exRound at h2
    obtain ⟨r, q1, q2⟩ := Res.bind_ok h2
    obtain ⟨e, st'⟩ := r
    rw [rounds_succ]
    refine exCodeL_wp hX1 (hct _ hX1 rfl) hfl hm n b (S k) e st' (hlp _ hX1 rfl) q1 α a w _ (RelSt.ctx hXG hr) ?_
    intro a1 w1 α1 r1 x1
    unfold tgtSV at q2
    split at q2
    · split at q2
      · cases q2
        simp only [ChainP] at h3
        omega
      · cases q2
    · rename_i i he
      simp only at he
      subst he
      split at q2
      · rename_i hi
        subst hi
        split at q2
        · rename_i L hL
          cases q2
          simp only [ChainP] at h3
          obtain ⟨r2, sn⟩ := St.diffT_rel (X' := X) (G := G) rfl hXG hlow hL h3 r1
          simp only [Ex.toExit, Exit.then]
          exact hQ a1 w1 _ r2 (sn _ _ _ _ (fun id b e => (hr.mem.dom id b e).1) (hST k).2 x1)
        · cases q2
      · cases q2
    · cases q2
  | succ d ih =>
    intro k hk X hXG α a w Q hr hQ
    obtain ⟨fs, s, h1, h2, h3⟩ := way k (by omega) (fun b hb => by cases hb)
    rw [hrun, withCtx_eq] at h2
    have hX1 := withCtx_ok (show Ctx.Ok ⟨G, GI, vars, fs⟩ ρ from ⟨hv, h1, hg⟩)
    unfold exRound at h2
    obtain ⟨r, q1, q2⟩ := Res.bind_ok h2
    obtain ⟨e, st'⟩ := r
    rw [rounds_succ]
    refine exCodeL_wp hX1 (hct _ hX1 rfl) hfl hm n b (S k) e st' (hlp _ hX1 rfl) q1 α a w _ (RelSt.ctx hXG hr) ?_
    intro a1 w1 α1 r1 x1
    unfold tgtSV at q2
    split at q2
    · rename_i he
      simp only at he
      subst he
      split at q2
      · rename_i L hL
        cases q2
        simp only [ChainP] at h3
        obtain ⟨r2, sn⟩ := St.diffT_rel (X' := X) (G := G) rfl hXG (ρ' := ρ) (fun _ _ => rfl) hL h3.2 r1
        have x1' := sn _ _ _ _ (fun id b e => (hr.mem.dom id b e).1) (hST k).1 x1
        simp only [Ex.toExit, Exit.then]
        refine ih (k + 1) (by omega) X hXG _ a1 w1 Q r2 ?_
        intro a' w' α' r3 x3
        exact hQ a' w' α' r3 (x1'.trans x3 x1'.len)
      · cases q2
    · rename_i i he
      simp only at he
      subst he
      split at q2
      · rename_i hi
        subst hi
        split at q2
        · rename_i L hL
          cases q2
          simp only [ChainP] at h3
          obtain ⟨r2, sn⟩ := St.diffT_rel (X' := X) (G := G) rfl hXG hlow hL h3 r1
          simp only [Ex.toExit, Exit.then]
          exact hQ a1 w1 _ r2 (sn _ _ _ _ (fun id b e => (hr.mem.dom id b e).1) (hST k).2 x1)
        · cases q2
      · cases q2
    · cases q2
def loopEntry (n0 : Nat) (S T : St) (idT : Nat) (L0 : List SV) : Ctx → St → Res (Ex × St) := fun _ st =>
  match St.diff n0 st S with
  | some L => if SV.eqbL L L0 then .ok (.exit idT, T) else .fail 170
  | none => .fail 171
def lpOne (key : Nat) (g : Ctx → St → Res (Ex × St)) : Loops := fun k => if k = key then some g else none
theorem lpAt_rounds {P : Program} {G : Nat → List Int → Int} {gb : Globs} {b : Code} {S T : St} {idT n0 key k : Nat} {L0 : List SV} {X : Ctx} {ρ0 ρ1 : Nat → Int} (hXG : X.G = G)
    (hlow : LowSame n0 ρ0 ρ1) (hag : AgreeSV G ρ0 ρ1 L0)
    (hloop : ∀ X : Ctx, X.G = G → ∀ α a w Q, RelSt X ρ1 (glOf gb) α S a w → (∀ a' w' α', RelSt X ρ0 (glOf gb) α' T a' w' → Ext S.heap.length S.heap T.heap α α' w w' → Q (.exit idT) a' w') → Code.rounds P b Q k a w) :
    LpAt P X ρ0 (glOf gb) (lpOne key (loopEntry n0 S T idT L0)) b := by
  intro k' g hk hg st e st' h α a w Q hr hQ
  unfold lpOne at hg
  split at hg
  · cases hg
    unfold loopEntry at h
    split at h
    · rename_i L hL
      split at h
      · rename_i he
        cases h
        have := SV.eqbL_eq _ _ he
        subst this
        obtain ⟨r2, sn⟩ := St.diff_rel (X' := X) (G := G) hXG hXG hlow hL hag hr
        refine wp_loop_rounds k (hloop X hXG α a w Q r2 ?_)
        intro a' w' α' r3 x3
        refine hQ a' w' α' r3 ?_
        have := x3.swap sn.symm (SameNone.refl _)
        rw [sn.1]
        exact this
      · cases h
    · cases h
  · cases hg
theorem lpOk_one {P : Program} {X : Ctx} {ρ : Nat → Int} {gl : List (Nat × Nat)} {lp : Loops} {c b : Code} (h : codeLoops c = [b]) (hb : LpAt P X ρ gl lp b) : LpOk P X ρ gl lp c := by
  intro d hd
  rw [h, List.mem_singleton] at hd
  subst hd
  exact hb
theorem lpOk_nil {P : Program} {X : Ctx} {ρ : Nat → Int} {gl : List (Nat × Nat)} {lp : Loops} {c : Code} (h : codeLoops c = []) : LpOk P X ρ gl lp c := by
  intro d hd
  rw [h] at hd
  cases hd
theorem way_bad {run : List B → Res SV} {G : Nat → List Int → Int} {ρ : Nat → Int} {p : SV → Prop} {fs : List B} (h : False) : Way run G ρ p fs := h.elim
def lpNil : Loops := fun _ => none
theorem lpOk_lpNil {P : Program} {X : Ctx} {ρ : Nat → Int} {gl : List (Nat × Nat)} {c : Code} : LpOk P X ρ gl lpNil c := by
  intro b _ k g _ hg
  simp [lpNil] at hg
def bodyOf (P : Program) (f : FuncId) : Code :=
  match P.funcs[f]? with
  | some fn => match fn.body with
    | some c => c
    | none => .skip
  | none => .skip
def loopOf (c : Code) : Code := match codeLoops c with
  | b :: _ => b
  | [] => .skip
theorem bodyOf_eq {P : Program} {f : FuncId} {fn : Func} {c : Code} (h : P.funcs[f]? = some fn) (g : fn.body = some c) : bodyOf P f = c := by
  unfold bodyOf; rw [h]; simp only; rw [g]
end Sx
end Go.Proofs.YtnffpaenalccaaaDoor
