/- What is proved: a line of a move and a curve, as it is told. No condition but the numbers' own bounds. -/
import Derived.Test.YthiehfhphgkaeaaQLb
import Derived.Test.YthiehfhphgkaeaaQLf0
set_option linter.unusedSimpArgs false
set_option linter.unusedVariables false
namespace Go.Proofs.Ythiehfhphgkaeaa
open Go Go.RowKit Sx Wi
set_option maxRecDepth 100000 in
theorem line_uok (x0 x1 x2 x3 x4 x5 x6 x7 : Int) : LoopUOK Try.prog G (glOf GB) (loopNo (bodyOf Try.prog 16) 1) line_u (rho ([x0, x1, x2, x3, x4, x5, x6, x7] : List Int)) := by
  intro hw _
  have hb : within line_vt (([x0, x1, x2, x3, x4, x5, x6, x7] : List Int) ++ [0, 1]) := hw
  unfold line_vt at hb
  simp only [List.cons_append, List.nil_append] at hb
  obtain ⟨b0, b1, b2, b3, b4, b5, b6, b7, _⟩ := hb
  have hC : G 91 [0, G 2 [x0, 1 * 256], G 2 [x1, 1 * 256]] = Lc.enc (pdots [x0, x1, x2, x3, x4, x5, x6, x7] (pall [x0, x1, x2, x3, x4, x5, x6, x7]) 0) := snoc_enc gl_ok [] [G 2 [x0, 1 * 256], G 2 [x1, 1 * 256]]
  have e : envOf G (rho ([x0, x1, x2, x3, x4, x5, x6, x7] : List Int)) line_u.es = line_rho x0 x1 x2 x3 x4 x5 x6 x7 0 := by
    rw [envOf_rho]; unfold line_rho; rw [← hC]; rfl
  rw [e]
  have hp := pall_bd [x0, x1, x2, x3, x4, x5, x6, x7]
  exact ⟨(pall [x0, x1, x2, x3, x4, x5, x6, x7]).toNat + 1, loop_rounds (ι := Nat) (ρ := line_rho x0 x1 x2 x3 x4 x5 x6 x7) (ρT := rho ([x0, x1, x2, x3, x4, x5, x6, x7] : List Int)) (m := fun a => (pall [x0, x1, x2, x3, x4, x5, x6, x7]).toNat - a) (Good := fun a => (a : Int) ≤ pall [x0, x1, x2, x3, x4, x5, x6, x7]) (run := line_round Try.prog) (fun _ => rfl) fits rfl gi_ok (fun a ha => line_vars x0 x1 x2 x3 x4 x5 x6 x7 b0 b1 b2 b3 b4 b5 b6 b7 a ha) (fun _ _ X hX hG => ct_level_ok hX hG) (fun _ _ X hX hG => lpOk_lpNil) (fun a ha => line_way x0 x1 x2 x3 x4 x5 x6 x7 b0 b1 b2 b3 b4 b5 b6 b7 a ha) (by decide) _ 0 (by show ((0 : Nat) : Int) ≤ _; omega) (by show (pall [x0, x1, x2, x3, x4, x5, x6, x7]).toNat - 0 < _; omega)⟩
theorem line_loops : codeLoops (bodyOf Try.prog 16) = [loopNo (bodyOf Try.prog 16) 0, loopNo (bodyOf Try.prog 16) 1] := by kernel_rfl
set_option maxRecDepth 100000 in
theorem line_mem (x0 x1 x2 x3 x4 x5 x6 x7 : Int) (b0 : -2147483648 ≤ x0 ∧ x0 ≤ 2147483647) (b1 : -2147483648 ≤ x1 ∧ x1 ≤ 2147483647) (b2 : -2147483648 ≤ x2 ∧ x2 ≤ 2147483647) (b3 : -2147483648 ≤ x3 ∧ x3 ≤ 2147483647) (b4 : -2147483648 ≤ x4 ∧ x4 ≤ 2147483647) (b5 : -2147483648 ≤ x5 ∧ x5 ≤ 2147483647) (b6 : -2147483648 ≤ x6 ∧ x6 ≤ 2147483647) (b7 : -2147483648 ≤ x7 ∧ x7 ≤ 2147483647) : MemFun Try.prog G GB 16 line_F (rho ([x0, x1, x2, x3, x4, x5, x6, x7] : List Int)) := by
  refine memFun_way (lp := line_lp) (run := line_run Try.prog) (fun _ => rfl) fits (within_get ⟨b0, b1, b2, b3, b4, b5, b6, b7, trivial⟩) gi_ok (fun X hX hG => ct_level_ok hX hG) (fun X hX hG fn c hf hc => ?_) rfl ?_
  · refine lpOk_cons ((congrArg codeLoops (bodyOf_eq hf hc)).symm.trans line_loops) ?_
    intro b hb
    simp only [List.mem_cons, List.mem_nil_iff, or_false] at hb
    rcases hb with rfl | rfl
    · exact lpAt_skip (j := 3) (by kernel_rfl) (by decide) lpAt_nil
    · refine lpAt_any hX hG (by kernel_rfl) ?_
      intro p hp
      simp only [List.mem_cons, List.mem_nil_iff, or_false] at hp
      subst hp
      exact line_uok x0 x1 x2 x3 x4 x5 x6 x7
  · skip
    refine way_leaf linef_n0 ?_
    exact ⟨rfl, trivial⟩
theorem in_cons {p : Int × Int} {l : List (Int × Int)} {xs : List Int} (h : within (p :: l) xs) : ∃ x ys, xs = x :: ys ∧ (p.1 ≤ x ∧ x ≤ p.2) ∧ within l ys := by
  cases xs with
  | nil => exact h.elim
  | cons x ys => exact ⟨x, ys, rfl, h.1, h.2⟩
theorem in_nil {xs : List Int} (h : within [] xs) : xs = [] := by
  cases xs with
  | nil => rfl
  | cons x ys => exact h.elim
def line_entry : Ctx → List SV → Heap → Res (SV × Heap) := memEntry GB line_vt0 0 (.lit true) line_F
theorem line_ok {X : Ctx} {ρ : Nat → Int} (hX : X.Ok ρ) (hG : X.G = G) : MemOk Try.prog X ρ GB 16 line_entry := by
  obtain ⟨XG, XI, XV, XF⟩ := X
  simp only at hG
  subst hG
  refine memEntry_ok hX ?_
  intro xs ls hw hl _
  have hl' : ls = [] := List.length_eq_zero_iff.1 hl
  subst hl'
  rw [List.append_nil]
  unfold line_vt0 at hw
  obtain ⟨x0, y0, e0, b0, h0⟩ := in_cons hw
  obtain ⟨x1, y1, e1, b1, h1⟩ := in_cons h0
  obtain ⟨x2, y2, e2, b2, h2⟩ := in_cons h1
  obtain ⟨x3, y3, e3, b3, h3⟩ := in_cons h2
  obtain ⟨x4, y4, e4, b4, h4⟩ := in_cons h3
  obtain ⟨x5, y5, e5, b5, h5⟩ := in_cons h4
  obtain ⟨x6, y6, e6, b6, h6⟩ := in_cons h5
  obtain ⟨x7, y7, e7, b7, h7⟩ := in_cons h6
  have e8 := in_nil h7
  subst e8 e7 e6 e5 e4 e3 e2 e1 e0
  exact line_mem x0 x1 x2 x3 x4 x5 x6 x7 b0 b1 b2 b3 b4 b5 b6 b7
def ct_line : Contracts := ctConsM 16 line_entry ct_level
theorem ct_line_ok {X : Ctx} {ρ : Nat → Int} (hX : X.Ok ρ) (hG : X.G = G) : CtOk Try.prog X ρ GB ct_line := ctConsM_ok (line_ok hX hG) (ct_level_ok hX hG)
end Go.Proofs.Ythiehfhphgkaeaa
