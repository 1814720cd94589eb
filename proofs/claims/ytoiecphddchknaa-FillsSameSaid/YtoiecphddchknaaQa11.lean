/- What is proved: an argument that is a slice of plain numbers, or of structs of such, is a list of rows that is looked at alone; a law over such lists leaves what was there as it was. No condition but those that are stated. -/
import Derived.Test.YtoiecphddchknaaQg5
import Derived.Test.YtoiecphddchknaaQg4
import Derived.Test.YtoiecphddchknaaQNn
import Derived.Test.YtoiecphddchknaaQa9
import Derived.Test.YtoiecphddchknaaQSmf1
import Derived.Test.YtoiecphddchknaaQSmf2
import Derived.Test.YtoiecphddchknaaQSmf3
import Derived.Test.YtoiecphddchknaaQSmf4
import Derived.Test.YtoiecphddchknaaQSmW
set_option linter.unusedSimpArgs false
set_option linter.unusedVariables false
namespace Go.Proofs.Ytoiecphddchknaa
open Go Go.RowKit Sx
def CKhas : CK → Int → Prop
  | .int k, n => k.min ≤ n ∧ n ≤ k.max
  | .bool, n => n = 0 ∨ n = 1
def Kin (ks : List CK) (cs : List Value) : Prop := cs.length = ks.length ∧ ∀ (i : Nat) (k : CK), ks[i]? = some k → ∃ n, cs[i]? = some (k.mk n) ∧ CKhas k n
theorem Kin.append {a b : List CK} {xs ys : List Value} (h : Kin a xs) (g : Kin b ys) : Kin (a ++ b) (xs ++ ys) := by
  refine ⟨by rw [List.length_append, List.length_append, h.1, g.1], fun i k e => ?_⟩
  rcases Nat.lt_or_ge i a.length with q | q
  · rw [List.getElem?_append_left q] at e
    rw [List.getElem?_append_left (by rw [h.1]; exact q)]
    exact h.2 i k e
  · rw [List.getElem?_append_right q] at e
    rw [List.getElem?_append_right (by rw [h.1]; exact q), h.1]
    exact g.2 _ k e
theorem Kin.row {ks : List CK} {cs : List Value} (h : Kin ks cs) : ∃ r : List Int, r.length = ks.length ∧ cs = rowCells ks r ∧ ∀ (i : Nat) (k : CK), ks[i]? = some k → CKhas k (r.getD i 0) := by
  classical
  obtain ⟨f, hf⟩ : ∃ f : Nat → Int, ∀ (i : Nat) (k : CK), ks[i]? = some k → cs[i]? = some (k.mk (f i)) ∧ CKhas k (f i) := by
    refine ⟨fun i => if q : ∃ n, ∀ k, ks[i]? = some k → cs[i]? = some (k.mk n) ∧ CKhas k n then q.choose else 0, fun i k e => ?_⟩
    have q : ∃ n, ∀ k, ks[i]? = some k → cs[i]? = some (k.mk n) ∧ CKhas k n := by
      obtain ⟨n, h1, h2⟩ := h.2 i k e
      refine ⟨n, fun k' e' => ?_⟩
      rw [e] at e'; cases e'
      exact ⟨h1, h2⟩
    simp only [dif_pos q]
    exact q.choose_spec k e
  have hg : ∀ i, i < ks.length → ((List.range ks.length).map f).getD i 0 = f i := fun i hi => by simp [List.getD, hi]
  refine ⟨(List.range ks.length).map f, by simp, ?_, fun i k e => ?_⟩
  · apply List.ext_getElem?
    intro i
    unfold rowCells
    rw [List.getElem?_map, List.getElem?_zipIdx]
    cases e : ks[i]? with
    | none =>
      have := List.getElem?_eq_none_iff.1 e
      rw [List.getElem?_eq_none (show cs.length ≤ i by rw [h.1]; exact this)]; rfl
    | some k =>
      rw [(hf i k e).1]
      simp only [Option.map_some, Nat.zero_add]
      rw [hg i (List.getElem?_eq_some_iff.1 e).1]
  · rw [hg i (List.getElem?_eq_some_iff.1 e).1]; exact (hf i k e).2
section
variable {H : Type} {enc : TypeId × Value → H} {P : Program} {w : World} {base : Nat} {spare : Nat → Bool} {held : Bool}
end
theorem views_rel {G : Nat → List Int → Int} {ρ : Nat → Int} {W : World} (vs : List (Sx.Loc × List SV)) (h : ∀ q, q ∈ vs → (q.1.nil = true ∨ q.1.blk < W.heap.size) ∧ ∃ us, IsView q.1 W.heap[q.1.blk]? us ∧ SV.RL G ρ (fun _ => none) q.2 us) :
    RelW G ρ [] (fun id => (vs[id]?).map (·.1)) (vs.map fun q => some (q.2, viewTag)) W := by
  have hvis : ∀ id, ¬ Vis (vs.map fun q => (some (q.2, viewTag) : Blk)) id := by
    rintro id ⟨q, hq, hv⟩
    rw [List.getElem?_map] at hq
    cases e : vs[id]? with
    | none => rw [e] at hq; cases hq
    | some p =>
      rw [e] at hq
      have : q = (p.2, viewTag) := by cases hq; rfl
      rw [this] at hv
      exact absurd hv (show ¬ vw viewTag = false by decide)
  have get : ∀ (id : Nat) (b : Sx.Loc), (vs[id]?).map (fun q : Sx.Loc × List SV => q.1) = some b → ∃ q : Sx.Loc × List SV, vs[id]? = some q ∧ q.1 = b := by
    intro id b e
    cases e2 : vs[id]? with
    | none => rw [e2] at e; cases e
    | some p => rw [e2] at e; exact ⟨p, rfl, by cases e; rfl⟩
  refine ⟨fun id b e => ?_, fun i j b c _ _ _ _ _ vi _ => absurd vi (hvis i), fun id cs T e => ?_, (fun p hp => nomatch hp), fun id cs T b _ _ _ _ j c _ _ _ vj => absurd vj (hvis j)⟩
  · obtain ⟨q, hq, rfl⟩ := get id b e
    exact ⟨by rw [List.length_map]; exact (List.getElem?_eq_some_iff.1 hq).1, (h q (List.mem_of_getElem? hq)).1⟩
  · rw [List.getElem?_map] at e
    cases e2 : vs[id]? with
    | none => rw [e2] at e; cases e
    | some p =>
      rw [e2] at e
      cases e
      obtain ⟨_, us, h1, h2⟩ := h p (List.mem_of_getElem? e2)
      exact ⟨p.1, us, rfl, (isObj_view (by decide)).2 h1, SV.RL_mono (fun _ _ z => by cases z) _ _ h2⟩
theorem law_mem {P : Program} {G : Nat → List Int → Int} {f : FuncId} {F : FunS} {ρ : Nat → Int} {W : World} {vals : List Value} {α : AMap} (hF : MemFun P G [] f F ρ) (hW : RelW G ρ [] α F.H W) (hvis : ∀ id, ¬ Vis F.H id) (hv : SV.RL G ρ α F.args vals) (hb : F.b = .lit true) (hs : F.s1 = .bool (.lit true)) :
    Calls P f vals.toArray W (fun e w' => e = .returned (.bool true) ∧ Below W.heap.size W w') := by
  obtain ⟨_, hc⟩ := hF α W vals hW hv
  refine hc.mono ?_
  rintro e w' ⟨v, α', r, hr, rfl, rv, _, x⟩
  rw [hb] at hr
  have hr : r = true := hr.symm
  subst hr
  rw [hs] at rv
  simp only [if_true, SV.R, B.den] at rv
  subst rv
  exact ⟨rfl, x.os, x.tape, x.output, x.size, fun k hk => x.hid k hk (fun id b _ _ _ => hvis id)⟩
theorem views_unseen (l : List (List SV)) : ∀ id, ¬ Vis (l.map fun q => (some (q, viewTag) : Blk)) id := by
  rintro id ⟨q, hq, hv⟩
  rw [List.getElem?_map] at hq
  cases e : l[id]? with
  | none => rw [e] at hq; cases hq
  | some p =>
    rw [e] at hq
    have : q = (p, viewTag) := by cases hq; rfl
    rw [this] at hv
    exact absurd hv (show ¬ vw viewTag = false by decide)
end Go.Proofs.Ytoiecphddchknaa
namespace Go.Proofs.Ytoiecphddchknaa
open Go Go.RowKit Sx Wi
theorem sm_loops : codeLoops (bodyOf Try.prog 9) = [loopNo (bodyOf Try.prog 9) 0, loopNo (bodyOf Try.prog 9) 1, loopNo (bodyOf Try.prog 9) 2, loopNo (bodyOf Try.prog 9) 3] := by kernel_rfl
set_option maxHeartbeats 1000000 in
set_option maxRecDepth 100000 in
theorem sm_uok_tt (x0 x1 x2 x3 x4 x5 x6 x7 x8 x9 x10 x11 x12 x13 x14 x15 x16 x17 x18 x19 x20 x21 : Int) : LoopUOK Try.prog G (glOf GB) (loopNo (bodyOf Try.prog 9) 3) sm_u_tt (rho ([x0, x1, x2, x3, x4, x5, x6, x7, x8, x9, x10, x11, x12, x13, x14, x15, x16, x17, x18, x19, x20, x21] : List Int)) := by
  intro hw hp
  have e : envOf G (rho ([x0, x1, x2, x3, x4, x5, x6, x7, x8, x9, x10, x11, x12, x13, x14, x15, x16, x17, x18, x19, x20, x21] : List Int)) sm_u_tt.es = sm_rho x20 x21 0 (max (-2147483648) (min 2147483647 (G 2 [x18, x19]))) (G 73 [x0, x1, x2, x3, x4, x5, x18, x18, x18, x19, x20, (max (max 0 (Int.fdiv (min (min x1 x3) x5 - 128 + 256 - 1) 256)) (min 12 (Int.fdiv (max (max x1 x3) x5 - 128) 256 + 1)))]) (G 76 [x6, x7, x8, x9, x10, x11, x12, x13, x14, x15, x16, x17, x18, x19, x21, (max (max 0 (Int.fdiv (min (min x7 x9) x11 - 128 + 256 - 1) 256)) (min 12 (Int.fdiv (max (max x7 x9) x11 - 128) 256 + 1)))]) x19 0 := by
    rw [envOf_rho]
    unfold sm_rho
    congr 1 <;> (unfold sm_u_tt; simp only [List.map_cons, List.map_nil]; simp only [nn, List.cons_append, List.nil_append, lenE, ne_eq]; try rfl)
  have hb : within sm_vt [x20, x21, 0, (max (-2147483648) (min 2147483647 (G 2 [x18, x19]))), 0] := by
    have q : sm_u_tt.es.map (E.den G (rho ([x0, x1, x2, x3, x4, x5, x6, x7, x8, x9, x10, x11, x12, x13, x14, x15, x16, x17, x18, x19, x20, x21] : List Int))) = [x20, x21, 0, (max (-2147483648) (min 2147483647 (G 2 [x18, x19]))), 0] ++ [(G 73 [x0, x1, x2, x3, x4, x5, x18, x18, x18, x19, x20, (max (max 0 (Int.fdiv (min (min x1 x3) x5 - 128 + 256 - 1) 256)) (min 12 (Int.fdiv (max (max x1 x3) x5 - 128) 256 + 1)))]), (G 76 [x6, x7, x8, x9, x10, x11, x12, x13, x14, x15, x16, x17, x18, x19, x21, (max (max 0 (Int.fdiv (min (min x7 x9) x11 - 128 + 256 - 1) 256)) (min 12 (Int.fdiv (max (max x7 x9) x11 - 128) 256 + 1)))]), x19] := by
      have := congrArg (fun f : Nat → Int => f) e
      unfold sm_u_tt
      simp only [List.map_cons, List.map_nil]
      simp only [nn, List.cons_append, List.nil_append, lenE, ne_eq]
      try rfl
    rw [List.map_take, q] at hw
    exact hw
  have hd : 1 ≤ x19 := by
    rw [e] at hp
    unfold sm_u_tt at hp
    simp only [nn, sm_rho, List.cons_append, List.nil_append, lenE, ne_eq] at hp
    exact hp
  unfold sm_vt at hb
  obtain ⟨g0, g1, g2, g3, _⟩ := hb
  rw [e]
  have t1 : Told0 (Lc.dec (G 73 [x0, x1, x2, x3, x4, x5, x18, x18, x18, x19, x20, (max (max 0 (Int.fdiv (min (min x1 x3) x5 - 128 + 256 - 1) 256)) (min 12 (Int.fdiv (max (max x1 x3) x5 - 128) 256 + 1)))])) x20 (max (-2147483648) (min 2147483647 (G 2 [x18, x19]))) := (told_face x0 x1 x2 x3 x4 x5 x18 x19 x20 hd (max (tops [x0, x1, x2, x3, x4, x5, x18, x18, x18, x19, x20]) (ends [x0, x1, x2, x3, x4, x5, x18, x18, x18, x19, x20]) - tops [x0, x1, x2, x3, x4, x5, x18, x18, x18, x19, x20]).toNat (by omega))
  have t2 : Told (Lc.dec (G 76 [x6, x7, x8, x9, x10, x11, x12, x13, x14, x15, x16, x17, x18, x19, x21, (max (max 0 (Int.fdiv (min (min x7 x9) x11 - 128 + 256 - 1) 256)) (min 12 (Int.fdiv (max (max x7 x9) x11 - 128) 256 + 1)))])) x21 (max (-2147483648) (min 2147483647 (G 2 [x18, x19]))) := (told_facet x6 x7 x8 x9 x10 x11 x12 x13 x14 x15 x16 x17 x18 x19 x21 hd _)
  exact ⟨145, loop_rounds (ι := Nat) (ρ := sm_rho x20 x21 0 (max (-2147483648) (min 2147483647 (G 2 [x18, x19]))) (G 73 [x0, x1, x2, x3, x4, x5, x18, x18, x18, x19, x20, (max (max 0 (Int.fdiv (min (min x1 x3) x5 - 128 + 256 - 1) 256)) (min 12 (Int.fdiv (max (max x1 x3) x5 - 128) 256 + 1)))]) (G 76 [x6, x7, x8, x9, x10, x11, x12, x13, x14, x15, x16, x17, x18, x19, x21, (max (max 0 (Int.fdiv (min (min x7 x9) x11 - 128 + 256 - 1) 256)) (min 12 (Int.fdiv (max (max x7 x9) x11 - 128) 256 + 1)))]) x19) (ρT := rho ([x0, x1, x2, x3, x4, x5, x6, x7, x8, x9, x10, x11, x12, x13, x14, x15, x16, x17, x18, x19, x20, x21] : List Int)) (m := fun i => 144 - i) (Good := fun i => i ≤ 144) (run := sm_round198 Try.prog) (fun _ => rfl) fits rfl gi_ok (fun i hi => sm_vars x20 x21 0 (max (-2147483648) (min 2147483647 (G 2 [x18, x19]))) (G 73 [x0, x1, x2, x3, x4, x5, x18, x18, x18, x19, x20, (max (max 0 (Int.fdiv (min (min x1 x3) x5 - 128 + 256 - 1) 256)) (min 12 (Int.fdiv (max (max x1 x3) x5 - 128) 256 + 1)))]) (G 76 [x6, x7, x8, x9, x10, x11, x12, x13, x14, x15, x16, x17, x18, x19, x21, (max (max 0 (Int.fdiv (min (min x7 x9) x11 - 128 + 256 - 1) 256)) (min 12 (Int.fdiv (max (max x7 x9) x11 - 128) 256 + 1)))]) x19 g0 g1 g2 g3 i hi) (fun _ _ X hX hG => ct_two_ok hX hG) (fun _ _ X hX hG => lpOk_lpNil) (fun i hi => sm_way198 x20 x21 0 (max (-2147483648) (min 2147483647 (G 2 [x18, x19]))) (G 73 [x0, x1, x2, x3, x4, x5, x18, x18, x18, x19, x20, (max (max 0 (Int.fdiv (min (min x1 x3) x5 - 128 + 256 - 1) 256)) (min 12 (Int.fdiv (max (max x1 x3) x5 - 128) 256 + 1)))]) (G 76 [x6, x7, x8, x9, x10, x11, x12, x13, x14, x15, x16, x17, x18, x19, x21, (max (max 0 (Int.fdiv (min (min x7 x9) x11 - 128 + 256 - 1) 256)) (min 12 (Int.fdiv (max (max x7 x9) x11 - 128) 256 + 1)))]) x19 g0 g1 g2 g3 t1 (.inl rfl) t2 _ i hi) (by decide) 145 0 (Nat.zero_le _) (by decide)⟩
set_option maxHeartbeats 1000000 in
set_option maxRecDepth 100000 in
theorem sm_uok_ft (x0 x1 x2 x3 x4 x5 x6 x7 x8 x9 x10 x11 x12 x13 x14 x15 x16 x17 x18 x19 x20 x21 : Int) : LoopUOK Try.prog G (glOf GB) (loopNo (bodyOf Try.prog 9) 3) sm_u_ft (rho ([x0, x1, x2, x3, x4, x5, x6, x7, x8, x9, x10, x11, x12, x13, x14, x15, x16, x17, x18, x19, x20, x21] : List Int)) := by
  intro hw hp
  have e : envOf G (rho ([x0, x1, x2, x3, x4, x5, x6, x7, x8, x9, x10, x11, x12, x13, x14, x15, x16, x17, x18, x19, x20, x21] : List Int)) sm_u_ft.es = sm_rho x20 x21 1 (max (-2147483648) (min 2147483647 (G 2 [x18, x19]))) (wG 96 [144, 0, 0, 0, 0, 0, 0, 0, 0]) (G 76 [x6, x7, x8, x9, x10, x11, x12, x13, x14, x15, x16, x17, x18, x19, x21, (max (max 0 (Int.fdiv (min (min x7 x9) x11 - 128 + 256 - 1) 256)) (min 12 (Int.fdiv (max (max x7 x9) x11 - 128) 256 + 1)))]) x19 0 := by
    rw [envOf_rho]
    unfold sm_rho
    congr 1 <;> (unfold sm_u_ft; simp only [List.map_cons, List.map_nil]; simp only [nn, List.cons_append, List.nil_append, lenE, ne_eq]; try rfl)
  have hb : within sm_vt [x20, x21, 1, (max (-2147483648) (min 2147483647 (G 2 [x18, x19]))), 0] := by
    have q : sm_u_ft.es.map (E.den G (rho ([x0, x1, x2, x3, x4, x5, x6, x7, x8, x9, x10, x11, x12, x13, x14, x15, x16, x17, x18, x19, x20, x21] : List Int))) = [x20, x21, 1, (max (-2147483648) (min 2147483647 (G 2 [x18, x19]))), 0] ++ [(wG 96 [144, 0, 0, 0, 0, 0, 0, 0, 0]), (G 76 [x6, x7, x8, x9, x10, x11, x12, x13, x14, x15, x16, x17, x18, x19, x21, (max (max 0 (Int.fdiv (min (min x7 x9) x11 - 128 + 256 - 1) 256)) (min 12 (Int.fdiv (max (max x7 x9) x11 - 128) 256 + 1)))]), x19] := by
      have := congrArg (fun f : Nat → Int => f) e
      unfold sm_u_ft
      simp only [List.map_cons, List.map_nil]
      simp only [nn, List.cons_append, List.nil_append, lenE, ne_eq]
      try rfl
    rw [List.map_take, q] at hw
    exact hw
  have hd : 1 ≤ x19 := by
    rw [e] at hp
    unfold sm_u_ft at hp
    simp only [nn, sm_rho, List.cons_append, List.nil_append, lenE, ne_eq] at hp
    exact hp
  unfold sm_vt at hb
  obtain ⟨g0, g1, g2, g3, _⟩ := hb
  rw [e]
  have t1 : Told0 (Lc.dec (wG 96 [144, 0, 0, 0, 0, 0, 0, 0, 0])) x20 (max (-2147483648) (min 2147483647 (G 2 [x18, x19]))) := (told0_blank _ _)
  have t2 : Told (Lc.dec (G 76 [x6, x7, x8, x9, x10, x11, x12, x13, x14, x15, x16, x17, x18, x19, x21, (max (max 0 (Int.fdiv (min (min x7 x9) x11 - 128 + 256 - 1) 256)) (min 12 (Int.fdiv (max (max x7 x9) x11 - 128) 256 + 1)))])) x21 (max (-2147483648) (min 2147483647 (G 2 [x18, x19]))) := (told_facet x6 x7 x8 x9 x10 x11 x12 x13 x14 x15 x16 x17 x18 x19 x21 hd _)
  exact ⟨145, loop_rounds (ι := Nat) (ρ := sm_rho x20 x21 1 (max (-2147483648) (min 2147483647 (G 2 [x18, x19]))) (wG 96 [144, 0, 0, 0, 0, 0, 0, 0, 0]) (G 76 [x6, x7, x8, x9, x10, x11, x12, x13, x14, x15, x16, x17, x18, x19, x21, (max (max 0 (Int.fdiv (min (min x7 x9) x11 - 128 + 256 - 1) 256)) (min 12 (Int.fdiv (max (max x7 x9) x11 - 128) 256 + 1)))]) x19) (ρT := rho ([x0, x1, x2, x3, x4, x5, x6, x7, x8, x9, x10, x11, x12, x13, x14, x15, x16, x17, x18, x19, x20, x21] : List Int)) (m := fun i => 144 - i) (Good := fun i => i ≤ 144) (run := sm_round198 Try.prog) (fun _ => rfl) fits rfl gi_ok (fun i hi => sm_vars x20 x21 1 (max (-2147483648) (min 2147483647 (G 2 [x18, x19]))) (wG 96 [144, 0, 0, 0, 0, 0, 0, 0, 0]) (G 76 [x6, x7, x8, x9, x10, x11, x12, x13, x14, x15, x16, x17, x18, x19, x21, (max (max 0 (Int.fdiv (min (min x7 x9) x11 - 128 + 256 - 1) 256)) (min 12 (Int.fdiv (max (max x7 x9) x11 - 128) 256 + 1)))]) x19 g0 g1 g2 g3 i hi) (fun _ _ X hX hG => ct_two_ok hX hG) (fun _ _ X hX hG => lpOk_lpNil) (fun i hi => sm_way198 x20 x21 1 (max (-2147483648) (min 2147483647 (G 2 [x18, x19]))) (wG 96 [144, 0, 0, 0, 0, 0, 0, 0, 0]) (G 76 [x6, x7, x8, x9, x10, x11, x12, x13, x14, x15, x16, x17, x18, x19, x21, (max (max 0 (Int.fdiv (min (min x7 x9) x11 - 128 + 256 - 1) 256)) (min 12 (Int.fdiv (max (max x7 x9) x11 - 128) 256 + 1)))]) x19 g0 g1 g2 g3 t1 (.inr blank_all) t2 _ i hi) (by decide) 145 0 (Nat.zero_le _) (by decide)⟩
set_option maxHeartbeats 1000000 in
set_option maxRecDepth 100000 in
theorem sm_uok_f0 (x0 x1 x2 x3 x4 x5 x6 x7 x8 x9 x10 x11 x12 x13 x14 x15 x16 x17 x18 x19 x20 x21 : Int) : LoopUOK Try.prog G (glOf GB) (loopNo (bodyOf Try.prog 9) 3) sm_u_f0 (rho ([x0, x1, x2, x3, x4, x5, x6, x7, x8, x9, x10, x11, x12, x13, x14, x15, x16, x17, x18, x19, x20, x21] : List Int)) := by
  intro hw hp
  have e : envOf G (rho ([x0, x1, x2, x3, x4, x5, x6, x7, x8, x9, x10, x11, x12, x13, x14, x15, x16, x17, x18, x19, x20, x21] : List Int)) sm_u_f0.es = sm_rho x20 x21 1 0 (wG 96 [144, 0, 0, 0, 0, 0, 0, 0, 0]) (wG 96 [144, 0, 0, 0, 0, 0, 0, 0, 0]) x19 0 := by
    rw [envOf_rho]
    unfold sm_rho
    congr 1 <;> (unfold sm_u_f0; simp only [List.map_cons, List.map_nil]; simp only [nn, List.cons_append, List.nil_append, lenE, ne_eq]; try rfl)
  have hb : within sm_vt [x20, x21, 1, 0, 0] := by
    have q : sm_u_f0.es.map (E.den G (rho ([x0, x1, x2, x3, x4, x5, x6, x7, x8, x9, x10, x11, x12, x13, x14, x15, x16, x17, x18, x19, x20, x21] : List Int))) = [x20, x21, 1, 0, 0] ++ [(wG 96 [144, 0, 0, 0, 0, 0, 0, 0, 0]), (wG 96 [144, 0, 0, 0, 0, 0, 0, 0, 0]), x19] := by
      have := congrArg (fun f : Nat → Int => f) e
      unfold sm_u_f0
      simp only [List.map_cons, List.map_nil]
      simp only [nn, List.cons_append, List.nil_append, lenE, ne_eq]
      try rfl
    rw [List.map_take, q] at hw
    exact hw
  unfold sm_vt at hb
  obtain ⟨g0, g1, g2, g3, _⟩ := hb
  rw [e]
  have t1 : Told0 (Lc.dec (wG 96 [144, 0, 0, 0, 0, 0, 0, 0, 0])) x20 0 := (told0_blank _ _)
  have t2 : Told (Lc.dec (wG 96 [144, 0, 0, 0, 0, 0, 0, 0, 0])) x21 0 := (told_blank _ _)
  exact ⟨145, loop_rounds (ι := Nat) (ρ := sm_rho x20 x21 1 0 (wG 96 [144, 0, 0, 0, 0, 0, 0, 0, 0]) (wG 96 [144, 0, 0, 0, 0, 0, 0, 0, 0]) x19) (ρT := rho ([x0, x1, x2, x3, x4, x5, x6, x7, x8, x9, x10, x11, x12, x13, x14, x15, x16, x17, x18, x19, x20, x21] : List Int)) (m := fun i => 144 - i) (Good := fun i => i ≤ 144) (run := sm_round198 Try.prog) (fun _ => rfl) fits rfl gi_ok (fun i hi => sm_vars x20 x21 1 0 (wG 96 [144, 0, 0, 0, 0, 0, 0, 0, 0]) (wG 96 [144, 0, 0, 0, 0, 0, 0, 0, 0]) x19 g0 g1 g2 g3 i hi) (fun _ _ X hX hG => ct_two_ok hX hG) (fun _ _ X hX hG => lpOk_lpNil) (fun i hi => sm_way198 x20 x21 1 0 (wG 96 [144, 0, 0, 0, 0, 0, 0, 0, 0]) (wG 96 [144, 0, 0, 0, 0, 0, 0, 0, 0]) x19 g0 g1 g2 g3 t1 (.inr blank_all) t2 _ i hi) (by decide) 145 0 (Nat.zero_le _) (by decide)⟩
set_option maxHeartbeats 1000000 in
set_option maxRecDepth 100000 in
theorem sm_uok_tf (x0 x1 x2 x3 x4 x5 x6 x7 x8 x9 x10 x11 x12 x13 x14 x15 x16 x17 x18 x19 x20 x21 : Int) : LoopUOK Try.prog G (glOf GB) (loopNo (bodyOf Try.prog 9) 3) sm_u_tf (rho ([x0, x1, x2, x3, x4, x5, x6, x7, x8, x9, x10, x11, x12, x13, x14, x15, x16, x17, x18, x19, x20, x21] : List Int)) := by
  intro hw hp
  have e : envOf G (rho ([x0, x1, x2, x3, x4, x5, x6, x7, x8, x9, x10, x11, x12, x13, x14, x15, x16, x17, x18, x19, x20, x21] : List Int)) sm_u_tf.es = sm_rho x20 x21 0 (max (-2147483648) (min 2147483647 (G 2 [x18, x19]))) (G 73 [x0, x1, x2, x3, x4, x5, x18, x18, x18, x19, x20, (max (max 0 (Int.fdiv (min (min x1 x3) x5 - 128 + 256 - 1) 256)) (min 12 (Int.fdiv (max (max x1 x3) x5 - 128) 256 + 1)))]) (wG 96 [144, 0, 0, 0, 0, 0, 0, 0, 0]) x19 0 := by
    rw [envOf_rho]
    unfold sm_rho
    congr 1 <;> (unfold sm_u_tf; simp only [List.map_cons, List.map_nil]; simp only [nn, List.cons_append, List.nil_append, lenE, ne_eq]; try rfl)
  have hb : within sm_vt [x20, x21, 0, (max (-2147483648) (min 2147483647 (G 2 [x18, x19]))), 0] := by
    have q : sm_u_tf.es.map (E.den G (rho ([x0, x1, x2, x3, x4, x5, x6, x7, x8, x9, x10, x11, x12, x13, x14, x15, x16, x17, x18, x19, x20, x21] : List Int))) = [x20, x21, 0, (max (-2147483648) (min 2147483647 (G 2 [x18, x19]))), 0] ++ [(G 73 [x0, x1, x2, x3, x4, x5, x18, x18, x18, x19, x20, (max (max 0 (Int.fdiv (min (min x1 x3) x5 - 128 + 256 - 1) 256)) (min 12 (Int.fdiv (max (max x1 x3) x5 - 128) 256 + 1)))]), (wG 96 [144, 0, 0, 0, 0, 0, 0, 0, 0]), x19] := by
      have := congrArg (fun f : Nat → Int => f) e
      unfold sm_u_tf
      simp only [List.map_cons, List.map_nil]
      simp only [nn, List.cons_append, List.nil_append, lenE, ne_eq]
      try rfl
    rw [List.map_take, q] at hw
    exact hw
  have hd : 1 ≤ x19 := by
    rw [e] at hp
    unfold sm_u_tf at hp
    simp only [nn, sm_rho, List.cons_append, List.nil_append, lenE, ne_eq] at hp
    exact hp
  unfold sm_vt at hb
  obtain ⟨g0, g1, g2, g3, _⟩ := hb
  rw [e]
  have t1 : Told0 (Lc.dec (G 73 [x0, x1, x2, x3, x4, x5, x18, x18, x18, x19, x20, (max (max 0 (Int.fdiv (min (min x1 x3) x5 - 128 + 256 - 1) 256)) (min 12 (Int.fdiv (max (max x1 x3) x5 - 128) 256 + 1)))])) x20 (max (-2147483648) (min 2147483647 (G 2 [x18, x19]))) := (told_face x0 x1 x2 x3 x4 x5 x18 x19 x20 hd (max (tops [x0, x1, x2, x3, x4, x5, x18, x18, x18, x19, x20]) (ends [x0, x1, x2, x3, x4, x5, x18, x18, x18, x19, x20]) - tops [x0, x1, x2, x3, x4, x5, x18, x18, x18, x19, x20]).toNat (by omega))
  have t2 : Told (Lc.dec (wG 96 [144, 0, 0, 0, 0, 0, 0, 0, 0])) x21 (max (-2147483648) (min 2147483647 (G 2 [x18, x19]))) := (told_blank _ _)
  exact ⟨145, loop_rounds (ι := Nat) (ρ := sm_rho x20 x21 0 (max (-2147483648) (min 2147483647 (G 2 [x18, x19]))) (G 73 [x0, x1, x2, x3, x4, x5, x18, x18, x18, x19, x20, (max (max 0 (Int.fdiv (min (min x1 x3) x5 - 128 + 256 - 1) 256)) (min 12 (Int.fdiv (max (max x1 x3) x5 - 128) 256 + 1)))]) (wG 96 [144, 0, 0, 0, 0, 0, 0, 0, 0]) x19) (ρT := rho ([x0, x1, x2, x3, x4, x5, x6, x7, x8, x9, x10, x11, x12, x13, x14, x15, x16, x17, x18, x19, x20, x21] : List Int)) (m := fun i => 144 - i) (Good := fun i => i ≤ 144) (run := sm_round199 Try.prog) (fun _ => rfl) fits rfl gi_ok (fun i hi => sm_vars x20 x21 0 (max (-2147483648) (min 2147483647 (G 2 [x18, x19]))) (G 73 [x0, x1, x2, x3, x4, x5, x18, x18, x18, x19, x20, (max (max 0 (Int.fdiv (min (min x1 x3) x5 - 128 + 256 - 1) 256)) (min 12 (Int.fdiv (max (max x1 x3) x5 - 128) 256 + 1)))]) (wG 96 [144, 0, 0, 0, 0, 0, 0, 0, 0]) x19 g0 g1 g2 g3 i hi) (fun _ _ X hX hG => ct_two_ok hX hG) (fun _ _ X hX hG => lpOk_lpNil) (fun i hi => sm_way199 x20 x21 0 (max (-2147483648) (min 2147483647 (G 2 [x18, x19]))) (G 73 [x0, x1, x2, x3, x4, x5, x18, x18, x18, x19, x20, (max (max 0 (Int.fdiv (min (min x1 x3) x5 - 128 + 256 - 1) 256)) (min 12 (Int.fdiv (max (max x1 x3) x5 - 128) 256 + 1)))]) (wG 96 [144, 0, 0, 0, 0, 0, 0, 0, 0]) x19 g0 g1 g2 g3 t1 (.inl rfl) t2 _ i hi) (by decide) 145 0 (Nat.zero_le _) (by decide)⟩
set_option maxHeartbeats 1000000 in
set_option maxRecDepth 100000 in
theorem sm_uok_ff (x0 x1 x2 x3 x4 x5 x6 x7 x8 x9 x10 x11 x12 x13 x14 x15 x16 x17 x18 x19 x20 x21 : Int) : LoopUOK Try.prog G (glOf GB) (loopNo (bodyOf Try.prog 9) 3) sm_u_ff (rho ([x0, x1, x2, x3, x4, x5, x6, x7, x8, x9, x10, x11, x12, x13, x14, x15, x16, x17, x18, x19, x20, x21] : List Int)) := by
  intro hw hp
  have e : envOf G (rho ([x0, x1, x2, x3, x4, x5, x6, x7, x8, x9, x10, x11, x12, x13, x14, x15, x16, x17, x18, x19, x20, x21] : List Int)) sm_u_ff.es = sm_rho x20 x21 1 (max (-2147483648) (min 2147483647 (G 2 [x18, x19]))) (wG 96 [144, 0, 0, 0, 0, 0, 0, 0, 0]) (wG 96 [144, 0, 0, 0, 0, 0, 0, 0, 0]) x19 0 := by
    rw [envOf_rho]
    unfold sm_rho
    congr 1 <;> (unfold sm_u_ff; simp only [List.map_cons, List.map_nil]; simp only [nn, List.cons_append, List.nil_append, lenE, ne_eq]; try rfl)
  have hb : within sm_vt [x20, x21, 1, (max (-2147483648) (min 2147483647 (G 2 [x18, x19]))), 0] := by
    have q : sm_u_ff.es.map (E.den G (rho ([x0, x1, x2, x3, x4, x5, x6, x7, x8, x9, x10, x11, x12, x13, x14, x15, x16, x17, x18, x19, x20, x21] : List Int))) = [x20, x21, 1, (max (-2147483648) (min 2147483647 (G 2 [x18, x19]))), 0] ++ [(wG 96 [144, 0, 0, 0, 0, 0, 0, 0, 0]), (wG 96 [144, 0, 0, 0, 0, 0, 0, 0, 0]), x19] := by
      have := congrArg (fun f : Nat → Int => f) e
      unfold sm_u_ff
      simp only [List.map_cons, List.map_nil]
      simp only [nn, List.cons_append, List.nil_append, lenE, ne_eq]
      try rfl
    rw [List.map_take, q] at hw
    exact hw
  unfold sm_vt at hb
  obtain ⟨g0, g1, g2, g3, _⟩ := hb
  rw [e]
  have t1 : Told0 (Lc.dec (wG 96 [144, 0, 0, 0, 0, 0, 0, 0, 0])) x20 (max (-2147483648) (min 2147483647 (G 2 [x18, x19]))) := (told0_blank _ _)
  have t2 : Told (Lc.dec (wG 96 [144, 0, 0, 0, 0, 0, 0, 0, 0])) x21 (max (-2147483648) (min 2147483647 (G 2 [x18, x19]))) := (told_blank _ _)
  exact ⟨145, loop_rounds (ι := Nat) (ρ := sm_rho x20 x21 1 (max (-2147483648) (min 2147483647 (G 2 [x18, x19]))) (wG 96 [144, 0, 0, 0, 0, 0, 0, 0, 0]) (wG 96 [144, 0, 0, 0, 0, 0, 0, 0, 0]) x19) (ρT := rho ([x0, x1, x2, x3, x4, x5, x6, x7, x8, x9, x10, x11, x12, x13, x14, x15, x16, x17, x18, x19, x20, x21] : List Int)) (m := fun i => 144 - i) (Good := fun i => i ≤ 144) (run := sm_round199 Try.prog) (fun _ => rfl) fits rfl gi_ok (fun i hi => sm_vars x20 x21 1 (max (-2147483648) (min 2147483647 (G 2 [x18, x19]))) (wG 96 [144, 0, 0, 0, 0, 0, 0, 0, 0]) (wG 96 [144, 0, 0, 0, 0, 0, 0, 0, 0]) x19 g0 g1 g2 g3 i hi) (fun _ _ X hX hG => ct_two_ok hX hG) (fun _ _ X hX hG => lpOk_lpNil) (fun i hi => sm_way199 x20 x21 1 (max (-2147483648) (min 2147483647 (G 2 [x18, x19]))) (wG 96 [144, 0, 0, 0, 0, 0, 0, 0, 0]) (wG 96 [144, 0, 0, 0, 0, 0, 0, 0, 0]) x19 g0 g1 g2 g3 t1 (.inr blank_all) t2 _ i hi) (by decide) 145 0 (Nat.zero_le _) (by decide)⟩
set_option maxHeartbeats 4000000 in
set_option maxRecDepth 100000 in
theorem sm_mem (x0 x1 x2 x3 x4 x5 x6 x7 x8 x9 x10 x11 x12 x13 x14 x15 x16 x17 x18 x19 x20 x21 : Int) (b0 : (-9223372036854775808) ≤ x0 ∧ x0 ≤ 9223372036854775807) (b1 : (-9223372036854775808) ≤ x1 ∧ x1 ≤ 9223372036854775807) (b2 : (-9223372036854775808) ≤ x2 ∧ x2 ≤ 9223372036854775807) (b3 : (-9223372036854775808) ≤ x3 ∧ x3 ≤ 9223372036854775807) (b4 : (-9223372036854775808) ≤ x4 ∧ x4 ≤ 9223372036854775807) (b5 : (-9223372036854775808) ≤ x5 ∧ x5 ≤ 9223372036854775807) (b6 : (-9223372036854775808) ≤ x6 ∧ x6 ≤ 9223372036854775807) (b7 : (-9223372036854775808) ≤ x7 ∧ x7 ≤ 9223372036854775807) (b8 : (-9223372036854775808) ≤ x8 ∧ x8 ≤ 9223372036854775807) (b9 : (-9223372036854775808) ≤ x9 ∧ x9 ≤ 9223372036854775807) (b10 : (-9223372036854775808) ≤ x10 ∧ x10 ≤ 9223372036854775807) (b11 : (-9223372036854775808) ≤ x11 ∧ x11 ≤ 9223372036854775807) (b12 : (-2147483648) ≤ x12 ∧ x12 ≤ 2147483647) (b13 : (-2147483648) ≤ x13 ∧ x13 ≤ 2147483647) (b14 : (-2147483648) ≤ x14 ∧ x14 ≤ 2147483647) (b15 : (-2147483648) ≤ x15 ∧ x15 ≤ 2147483647) (b16 : (-2147483648) ≤ x16 ∧ x16 ≤ 2147483647) (b17 : (-2147483648) ≤ x17 ∧ x17 ≤ 2147483647) (b18 : (-170141183460469231731687303715884105728) ≤ x18 ∧ x18 ≤ 170141183460469231731687303715884105727) (b19 : (-9223372036854775808) ≤ x19 ∧ x19 ≤ 9223372036854775807) (b20 : (-9223372036854775808) ≤ x20 ∧ x20 ≤ 9223372036854775807) (b21 : (-9223372036854775808) ≤ x21 ∧ x21 ≤ 9223372036854775807) : MemFun Try.prog G GB 9 sm_F (rho ([x0, x1, x2, x3, x4, x5, x6, x7, x8, x9, x10, x11, x12, x13, x14, x15, x16, x17, x18, x19, x20, x21] : List Int)) := by
  refine memFun_way (lp := sm_lp) (run := sm_run Try.prog) (fun _ => rfl) fits (within_get ⟨b0, b1, b2, b3, b4, b5, b6, b7, b8, b9, b10, b11, b12, b13, b14, b15, b16, b17, b18, b19, b20, b21, trivial⟩) gi_ok (fun X hX hG => ct_two_ok hX hG) (fun X hX hG fn c hf hc => ?_) rfl ?_
  · refine lpOk_cons ((congrArg codeLoops (bodyOf_eq hf hc)).symm.trans sm_loops) ?_
    intro b hb
    simp only [List.mem_cons, List.mem_nil_iff, or_false] at hb
    rcases hb with rfl | rfl | rfl | rfl
    · exact lpAt_skip (j := 2) (by kernel_rfl) (by decide) lpAt_nil
    · exact lpAt_skip (j := 5) (by kernel_rfl) (by decide) lpAt_nil
    · exact lpAt_skip (j := 9) (by kernel_rfl) (by decide) lpAt_nil
    · refine lpAt_any hX hG (by kernel_rfl) ?_
      intro p hp
      simp only [List.mem_cons, List.mem_nil_iff, or_false] at hp
      rcases hp with rfl | rfl | rfl | rfl | rfl
      · exact sm_uok_tt x0 x1 x2 x3 x4 x5 x6 x7 x8 x9 x10 x11 x12 x13 x14 x15 x16 x17 x18 x19 x20 x21
      · exact sm_uok_ft x0 x1 x2 x3 x4 x5 x6 x7 x8 x9 x10 x11 x12 x13 x14 x15 x16 x17 x18 x19 x20 x21
      · exact sm_uok_f0 x0 x1 x2 x3 x4 x5 x6 x7 x8 x9 x10 x11 x12 x13 x14 x15 x16 x17 x18 x19 x20 x21
      · exact sm_uok_tf x0 x1 x2 x3 x4 x5 x6 x7 x8 x9 x10 x11 x12 x13 x14 x15 x16 x17 x18 x19 x20 x21
      · exact sm_uok_ff x0 x1 x2 x3 x4 x5 x6 x7 x8 x9 x10 x11 x12 x13 x14 x15 x16 x17 x18 x19 x20 x21
  · skip
    refine way_cut smf_b0 (fun h0 => ?_) (fun h0 => ?_)
    · skip
      refine way_cut smf_b1 (fun h1 => ?_) (fun h1 => ?_)
      · skip
        refine way_cut smf_b2 (fun h2 => ?_) (fun h2 => ?_)
        rotate_left
        · skip
          refine way_leaf smf_n8 ?_
          unfold smf_b0 at h0; unfold smf_b1 at h1; unfold smf_b2 at h2; exact ⟨rfl, trivial⟩
        refine way_cut smf_b3 (fun h3 => ?_) (fun h3 => ?_)
        rotate_left
        · skip
          refine way_leaf smf_n7 ?_
          unfold smf_b0 at h0; unfold smf_b1 at h1; unfold smf_b2 at h2; unfold smf_b3 at h3; exact ⟨rfl, trivial⟩
        refine way_cut smf_b4 (fun h4 => ?_) (fun h4 => ?_)
        · skip
          refine way_leaf smf_n5 ?_
          unfold smf_b0 at h0; unfold smf_b1 at h1; unfold smf_b2 at h2; unfold smf_b3 at h3; unfold smf_b4 at h4; exact ⟨rfl, trivial⟩
        refine way_leaf smf_n6 ?_
        unfold smf_b0 at h0; unfold smf_b1 at h1; unfold smf_b2 at h2; unfold smf_b3 at h3; unfold smf_b4 at h4; exact ⟨rfl, trivial⟩
      refine way_cut smf_b2 (fun h2 => ?_) (fun h2 => ?_)
      rotate_left
      · skip
        refine way_leaf smf_n15 ?_
        unfold smf_b0 at h0; unfold smf_b1 at h1; unfold smf_b2 at h2; exact ⟨rfl, trivial⟩
      refine way_cut smf_b3 (fun h3 => ?_) (fun h3 => ?_)
      rotate_left
      · skip
        refine way_leaf smf_n14 ?_
        unfold smf_b0 at h0; unfold smf_b1 at h1; unfold smf_b2 at h2; unfold smf_b3 at h3; exact ⟨rfl, trivial⟩
      refine way_cut smf_b4 (fun h4 => ?_) (fun h4 => ?_)
      · skip
        refine way_leaf smf_n12 ?_
        unfold smf_b0 at h0; unfold smf_b1 at h1; unfold smf_b2 at h2; unfold smf_b3 at h3; unfold smf_b4 at h4; exact ⟨rfl, trivial⟩
      refine way_leaf smf_n13 ?_
      unfold smf_b0 at h0; unfold smf_b1 at h1; unfold smf_b2 at h2; unfold smf_b3 at h3; unfold smf_b4 at h4; exact ⟨rfl, trivial⟩
    refine way_cut smf_b1 (fun h1 => ?_) (fun h1 => ?_)
    · skip
      refine way_cut smf_b2 (fun h2 => ?_) (fun h2 => ?_)
      rotate_left
      · skip
        refine way_leaf smf_n23 ?_
        unfold smf_b0 at h0; unfold smf_b1 at h1; unfold smf_b2 at h2; exact ⟨rfl, trivial⟩
      refine way_cut smf_b3 (fun h3 => ?_) (fun h3 => ?_)
      rotate_left
      · skip
        refine way_leaf smf_n22 ?_
        unfold smf_b0 at h0; unfold smf_b1 at h1; unfold smf_b2 at h2; unfold smf_b3 at h3; exact ⟨rfl, trivial⟩
      refine way_cut smf_b4 (fun h4 => ?_) (fun h4 => ?_)
      · skip
        refine way_leaf smf_n20 ?_
        unfold smf_b0 at h0; unfold smf_b1 at h1; unfold smf_b2 at h2; unfold smf_b3 at h3; unfold smf_b4 at h4; exact ⟨rfl, trivial⟩
      refine way_leaf smf_n21 ?_
      unfold smf_b0 at h0; unfold smf_b1 at h1; unfold smf_b2 at h2; unfold smf_b3 at h3; unfold smf_b4 at h4; exact ⟨rfl, trivial⟩
    refine way_cut smf_b2 (fun h2 => ?_) (fun h2 => ?_)
    rotate_left
    · skip
      refine way_leaf smf_n30 ?_
      unfold smf_b0 at h0; unfold smf_b1 at h1; unfold smf_b2 at h2; exact ⟨rfl, trivial⟩
    refine way_cut smf_b3 (fun h3 => ?_) (fun h3 => ?_)
    rotate_left
    · skip
      refine way_leaf smf_n29 ?_
      unfold smf_b0 at h0; unfold smf_b1 at h1; unfold smf_b2 at h2; unfold smf_b3 at h3; exact ⟨rfl, trivial⟩
    refine way_cut smf_b4 (fun h4 => ?_) (fun h4 => ?_)
    · skip
      refine way_leaf smf_n27 ?_
      unfold smf_b0 at h0; unfold smf_b1 at h1; unfold smf_b2 at h2; unfold smf_b3 at h3; unfold smf_b4 at h4; exact ⟨rfl, trivial⟩
    refine way_leaf smf_n28 ?_
    unfold smf_b0 at h0; unfold smf_b1 at h1; unfold smf_b2 at h2; unfold smf_b3 at h3; unfold smf_b4 at h4; exact ⟨rfl, trivial⟩
end Go.Proofs.Ytoiecphddchknaa
namespace Go.Proofs.Ytoiecphddchknaa
open Go.ChangeShapes Go.WideShapes Go.ChangeAt Go.RowKit
theorem open_kinds {P : Program} {W : World} {r : Reach} {base : Nat} {t : TypeId} {v : Value} (ks : List IntKind) (hagg : (match P.underlying t with | some (.struct _) | some (.array _ _) => true | _ => false) = true)
    (hc : P.cellsOf t = ks.length) (hk0 : (match P.cellTypes P.depth t with | some ts => ts.length == ks.length && (List.range ks.length).all fun i => (match ts[i]?.bind P.underlying, ks[i]? with | some (.int q), some k => q == k | _, _ => false) | none => false) = true) (h : Value.okWide P W r base t v) :
    ∃ f : Nat → Int, v = .agg ((List.range ks.length).map fun i => Value.int (ks.getD i .i64) (f i)).toArray ∧ ∀ i k, ks[i]? = some k → k.min ≤ f i ∧ f i ≤ k.max := by
  have h' : ∃ cs, v = .agg cs ∧ cs.size = P.cellsOf t ∧ Row.okWide P W r base t cs := by
    unfold Value.okWide at h
    split at hagg
    · rename_i hu; rw [hu] at h; exact h
    · rename_i hu; rw [hu] at h; exact h
    · cases hagg
  obtain ⟨cs, rfl, hsz, ts, hts, _, hcell⟩ := h'
  rw [hts] at hk0
  simp only [Bool.and_eq_true, beq_iff_eq, List.all_eq_true, List.mem_range] at hk0
  obtain ⟨hn, hk⟩ := hk0
  rw [hc] at hsz
  have hone : ∀ (i : Nat) (k : IntKind), ks[i]? = some k → ∃ q : Int, cs[i]? = some (Value.int k q) ∧ k.min ≤ q ∧ q ≤ k.max := by
    intro i k hik
    have hi : i < ks.length := (List.getElem?_eq_some_iff.1 hik).1
    have hi' : i < cs.size := by omega
    obtain ⟨u, hu, ho⟩ := hcell i cs[i] (by simp [hi'])
    rw [Nat.mod_eq_of_lt (by omega)] at hu
    have hku := hk i hi
    rw [hu, hik] at hku
    simp only [Option.bind_some] at hku
    split at hku
    · rename_i q k' hq hk'
      have hqk : q = k' := by simpa using hku
      cases hk'
      subst hqk
      unfold Cell.okWide at ho
      rw [hq] at ho
      simp only at ho
      unfold Cell.ok at ho
      rw [hq] at ho
      cases hv : cs[i] with
      | int k' m =>
        rw [hv] at ho
        simp only at ho
        obtain ⟨rfl, hlo, hhi⟩ := ho
        exact ⟨m, by simp [hi', hv], hlo, hhi⟩
      | _ => rw [hv] at ho; exact ho.elim
    · cases hku
  refine ⟨fun i => match cs[i]? with | some (.int _ q) => q | _ => 0, ?_, ?_⟩
  · congr 1
    apply Array.ext'
    apply List.ext_getElem?
    intro i
    by_cases hi : i < ks.length
    · obtain ⟨q, hq, _⟩ := hone i ks[i] (by simp [hi])
      simp [hi, hq, List.getD, List.getElem?_eq_getElem hi]
    · have : cs.size ≤ i := by omega
      simp [hi, this]
  · intro i k hik
    obtain ⟨q, hq, h1, h2⟩ := hone i k hik
    simp only [hq]
    exact ⟨h1, h2⟩
end Go.Proofs.Ytoiecphddchknaa
