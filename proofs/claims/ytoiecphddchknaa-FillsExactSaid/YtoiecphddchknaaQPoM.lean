/- What is proved: the pixels of a triangle, as they are told. No condition but the numbers' own bounds. -/
import Derived.Test.YtoiecphddchknaaQPof0
import Derived.Test.YtoiecphddchknaaQPoW
set_option linter.unusedSimpArgs false
set_option linter.unusedVariables false
namespace Go.Proofs.Ytoiecphddchknaa
open Go Go.RowKit Sx Wi
theorem pou_loops : codeLoops (bodyOf Try.prog 78) = [loopNo (bodyOf Try.prog 78) 0, loopNo (bodyOf Try.prog 78) 1] := by kernel_rfl
theorem pou_loops0 : codeLoops (loopNo (bodyOf Try.prog 78) 0) = [loopNo (bodyOf Try.prog 78) 1] := by kernel_rfl
set_option maxRecDepth 100000 in
theorem pou_uok (x0 x1 x2 x3 x4 x5 x6 x7 x8 x9 x10 : Int) (b0 : (-671088640) ≤ x0 ∧ x0 ≤ 671088640) (b1 : (-671088640) ≤ x1 ∧ x1 ≤ 671088640) (b2 : (-671088640) ≤ x2 ∧ x2 ≤ 671088640) (b3 : (-671088640) ≤ x3 ∧ x3 ≤ 671088640) (b4 : (-671088640) ≤ x4 ∧ x4 ≤ 671088640) (b5 : (-671088640) ≤ x5 ∧ x5 ≤ 671088640) (b6 : (-1125899906842624) ≤ x6 ∧ x6 ≤ 1125899906842624) (b7 : (-1125899906842624) ≤ x7 ∧ x7 ≤ 1125899906842624) (b8 : (-1125899906842624) ≤ x8 ∧ x8 ≤ 1125899906842624) (b9 : 1 ≤ x9 ∧ x9 ≤ 65535) (b10 : (-9223372036854775808) ≤ x10 ∧ x10 ≤ 9223372036854775807) : LoopUOK Try.prog G (glOf GB) (loopNo (bodyOf Try.prog 78) 0) pou_u (rho ([x0, x1, x2, x3, x4, x5, x6, x7, x8, x9, x10] : List Int)) := by
  intro _ _
  have hl : 0 ≤ tops [x0, x1, x2, x3, x4, x5, x6, x7, x8, x9, x10] ∧ tops [x0, x1, x2, x3, x4, x5, x6, x7, x8, x9, x10] ≤ 2700000 := left_bd x1 x3 x5 ⟨b1, b3, b5⟩
  have e : envOf G (rho ([x0, x1, x2, x3, x4, x5, x6, x7, x8, x9, x10] : List Int)) pou_u.es = pou_rho x0 x1 x2 x3 x4 x5 x6 x7 x8 x9 x10 0 := by
    rw [envOf_rho]
    unfold pou_rho
    congr 1
    unfold pou_u
    simp only [List.map_cons, List.map_nil]
    simp only [E.den, EL.den, B.den, cop_lt, cop_le, cop_eq, cop_ne, iop_add, iop_sub, iop_mul, iop_max, iop_min, iop_quo, iop_rem, iop_fdiv, iop_shl, SV.den, SV.denL, SV.ubd, SV.ubdL, rho, List.cons_append, List.nil_append, List.getD_cons_zero, List.getD_cons_succ, decide_eq_true_eq, decide_eq_false_iff_not, Bool.not_eq_true', Bool.not_eq_false', Bool.and_eq_true, true_and, lenE, ne_eq]
    rw [tops_eq, Int.natCast_zero, Int.add_zero]
    rfl
  rw [e]
  refine ⟨(ends [x0, x1, x2, x3, x4, x5, x6, x7, x8, x9, x10] - tops [x0, x1, x2, x3, x4, x5, x6, x7, x8, x9, x10]).toNat + 1, loop_rounds (ι := Nat) (ρ := pou_rho x0 x1 x2 x3 x4 x5 x6 x7 x8 x9 x10) (ρT := rho ([x0, x1, x2, x3, x4, x5, x6, x7, x8, x9, x10] : List Int)) (m := fun i => (ends [x0, x1, x2, x3, x4, x5, x6, x7, x8, x9, x10] - tops [x0, x1, x2, x3, x4, x5, x6, x7, x8, x9, x10]).toNat - i) (Good := fun i => i ≤ (ends [x0, x1, x2, x3, x4, x5, x6, x7, x8, x9, x10] - tops [x0, x1, x2, x3, x4, x5, x6, x7, x8, x9, x10]).toNat) (run := pou_round Try.prog) (fun _ => rfl) fits rfl gi_ok (fun i hi => pou_vars x0 x1 x2 x3 x4 x5 x6 x7 x8 x9 x10 b0 b1 b2 b3 b4 b5 b6 b7 b8 b9 b10 i hi) (fun _ _ X hX hG => ct_cw_ok hX hG) (fun i hi X hX hG => ?_) (fun i hi => pou_way x0 x1 x2 x3 x4 x5 x6 x7 x8 x9 x10 b0 b1 b2 b3 b4 b5 b6 b7 b8 b9 b10 i hi) (by decide) ((ends [x0, x1, x2, x3, x4, x5, x6, x7, x8, x9, x10] - tops [x0, x1, x2, x3, x4, x5, x6, x7, x8, x9, x10]).toNat + 1) 0 (Nat.zero_le _) (by show (ends [x0, x1, x2, x3, x4, x5, x6, x7, x8, x9, x10] - tops [x0, x1, x2, x3, x4, x5, x6, x7, x8, x9, x10]).toNat - 0 < (ends [x0, x1, x2, x3, x4, x5, x6, x7, x8, x9, x10] - tops [x0, x1, x2, x3, x4, x5, x6, x7, x8, x9, x10]).toNat + 1; omega)⟩
  refine lpOk_cons (bs := [loopNo (bodyOf Try.prog 78) 1]) pou_loops0 ?_
  intro b hb
  simp only [List.mem_cons, List.mem_nil_iff, or_false] at hb
  subst hb
  refine lpAt_any hX hG (by kernel_rfl) ?_
  intro p hp
  simp only [List.mem_cons, List.mem_nil_iff, or_false] at hp
  subst hp
  exact pin_uok x0 x1 x2 x3 x4 x5 x6 x7 x8 x9 x10 b0 b1 b2 b3 b4 b5 b6 b7 b8 b9 b10 i
set_option maxRecDepth 100000 in
theorem pix_mem (x0 x1 x2 x3 x4 x5 x6 x7 x8 x9 x10 : Int) (b0 : (-671088640) ≤ x0 ∧ x0 ≤ 671088640) (b1 : (-671088640) ≤ x1 ∧ x1 ≤ 671088640) (b2 : (-671088640) ≤ x2 ∧ x2 ≤ 671088640) (b3 : (-671088640) ≤ x3 ∧ x3 ≤ 671088640) (b4 : (-671088640) ≤ x4 ∧ x4 ≤ 671088640) (b5 : (-671088640) ≤ x5 ∧ x5 ≤ 671088640) (b6 : (-1125899906842624) ≤ x6 ∧ x6 ≤ 1125899906842624) (b7 : (-1125899906842624) ≤ x7 ∧ x7 ≤ 1125899906842624) (b8 : (-1125899906842624) ≤ x8 ∧ x8 ≤ 1125899906842624) (b9 : 1 ≤ x9 ∧ x9 ≤ 65535) (b10 : (-9223372036854775808) ≤ x10 ∧ x10 ≤ 9223372036854775807) : MemFun Try.prog G GB 78 pix_F (rho ([x0, x1, x2, x3, x4, x5, x6, x7, x8, x9, x10] : List Int)) := by
  refine memFun_way (lp := pou_lp) (run := pix_run Try.prog) (fun _ => rfl) fits (within_get ⟨b0, b1, b2, b3, b4, b5, b6, b7, b8, b9, b10, trivial⟩) gi_ok (fun X hX hG => ct_cw_ok hX hG) (fun X hX hG fn c hf hc => ?_) rfl ?_
  · refine lpOk_cons ((congrArg codeLoops (bodyOf_eq hf hc)).symm.trans pou_loops) ?_
    intro b hb
    simp only [List.mem_cons, List.mem_nil_iff, or_false] at hb
    rcases hb with rfl | rfl
    · refine lpAt_any hX hG (by kernel_rfl) ?_
      intro p hp
      simp only [List.mem_cons, List.mem_nil_iff, or_false] at hp
      subst hp
      exact pou_uok x0 x1 x2 x3 x4 x5 x6 x7 x8 x9 x10 b0 b1 b2 b3 b4 b5 b6 b7 b8 b9 b10
    · exact lpAt_skip (j := 6) (by kernel_rfl) (by decide) lpAt_nil
  · skip
    refine way_leaf pixf_n0 ?_
    exact ⟨rfl, trivial⟩
theorem in_cons {p : Int × Int} {l : List (Int × Int)} {xs : List Int} (h : within (p :: l) xs) : ∃ x ys, xs = x :: ys ∧ (p.1 ≤ x ∧ x ≤ p.2) ∧ within l ys := by
  cases xs with
  | nil => exact h.elim
  | cons x ys => exact ⟨x, ys, rfl, h.1, h.2⟩
theorem in_nil {xs : List Int} (h : within [] xs) : xs = [] := by
  cases xs with
  | nil => rfl
  | cons x ys => exact h.elim
def pix_entry : Ctx → List SV → Heap → Res (SV × Heap) := memEntry GB fn_vt 0 (.lit true) pix_F
theorem pix_ok {X : Ctx} {ρ : Nat → Int} (hX : X.Ok ρ) (hG : X.G = G) : MemOk Try.prog X ρ GB 78 pix_entry := by
  obtain ⟨XG, XI, XV, XF⟩ := X
  simp only at hG
  subst hG
  refine memEntry_ok hX ?_
  intro xs ls hw hl _
  have hl' : ls = [] := List.length_eq_zero_iff.1 hl
  subst hl'
  rw [List.append_nil]
  unfold fn_vt at hw
  obtain ⟨x0, y0, e0, b0, h0⟩ := in_cons hw
  obtain ⟨x1, y1, e1, b1, h1⟩ := in_cons h0
  obtain ⟨x2, y2, e2, b2, h2⟩ := in_cons h1
  obtain ⟨x3, y3, e3, b3, h3⟩ := in_cons h2
  obtain ⟨x4, y4, e4, b4, h4⟩ := in_cons h3
  obtain ⟨x5, y5, e5, b5, h5⟩ := in_cons h4
  obtain ⟨x6, y6, e6, b6, h6⟩ := in_cons h5
  obtain ⟨x7, y7, e7, b7, h7⟩ := in_cons h6
  obtain ⟨x8, y8, e8, b8, h8⟩ := in_cons h7
  obtain ⟨x9, y9, e9, b9, h9⟩ := in_cons h8
  obtain ⟨x10, y10, e10, b10, h10⟩ := in_cons h9
  have e11 := in_nil h10
  subst e11 e10 e9 e8 e7 e6 e5 e4 e3 e2 e1 e0
  exact pix_mem x0 x1 x2 x3 x4 x5 x6 x7 x8 x9 x10 b0 b1 b2 b3 b4 b5 b6 b7 b8 b9 b10
def ct_pix : Contracts := ctConsM 78 pix_entry ct_cw
theorem ct_pix_ok {X : Ctx} {ρ : Nat → Int} (hX : X.Ok ρ) (hG : X.G = G) : CtOk Try.prog X ρ GB ct_pix := ctConsM_ok (pix_ok hX hG) (ct_cw_ok hX hG)
end Go.Proofs.Ytoiecphddchknaa
