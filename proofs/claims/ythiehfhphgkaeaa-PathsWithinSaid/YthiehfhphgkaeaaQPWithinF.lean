/- What is proved: the law Within, over all its ways: it is true. No condition but the numbers' own bounds. -/
import Derived.Test.YthiehfhphgkaeaaQPWithinf0
import Derived.Test.YthiehfhphgkaeaaQPWithinW
set_option linter.unusedSimpArgs false
set_option linter.unusedVariables false
namespace Go.Proofs.Ythiehfhphgkaeaa
open Go Go.RowKit Sx Wi
theorem pathsWithin_loops : codeLoops (bodyOf Try.prog 4) = [loopNo (bodyOf Try.prog 4) 0] := by kernel_rfl
set_option maxRecDepth 100000 in
theorem pathsWithin_uok (x0 x1 x2 x3 x4 x5 x6 x7 : Int) : LoopUOK Try.prog G (glOf GB) (loopNo (bodyOf Try.prog 4) 0) pathsWithin_u (rho ([x0, x1, x2, x3, x4, x5, x6, x7] : List Int)) := by
  intro hw _
  have hb : within pathsWithin_vt (([x0, x1, x2, x3, x4, x5, x6, x7] : List Int) ++ [0]) := hw
  unfold pathsWithin_vt at hb
  simp only [List.cons_append, List.nil_append] at hb
  obtain ⟨b0, b1, b2, b3, b4, b5, b6, b7, _⟩ := hb
  have e : envOf G (rho ([x0, x1, x2, x3, x4, x5, x6, x7] : List Int)) pathsWithin_u.es = pathsWithin_rho x0 x1 x2 x3 x4 x5 x6 x7 0 := by
    rw [envOf_rho]; rfl
  rw [e]
  have hp := pall_bd [x0, x1, x2, x3, x4, x5, x6, x7]
  exact ⟨((pall [x0, x1, x2, x3, x4, x5, x6, x7]) + 1).toNat + 1, loop_rounds (ι := Nat) (ρ := pathsWithin_rho x0 x1 x2 x3 x4 x5 x6 x7) (ρT := rho ([x0, x1, x2, x3, x4, x5, x6, x7] : List Int)) (m := fun a => ((pall [x0, x1, x2, x3, x4, x5, x6, x7]) + 1).toNat - a) (Good := fun a => (a : Int) ≤ (pall [x0, x1, x2, x3, x4, x5, x6, x7]) + 1) (run := pathsWithin_round Try.prog) (fun _ => rfl) fits rfl gi_ok (fun a ha => pathsWithin_vars x0 x1 x2 x3 x4 x5 x6 x7 b0 b1 b2 b3 b4 b5 b6 b7 a ha) (fun _ _ X hX hG => ct_lv_ok hX hG) (fun _ _ X hX hG => lpOk_lpNil) (fun a ha => pathsWithin_way x0 x1 x2 x3 x4 x5 x6 x7 b0 b1 b2 b3 b4 b5 b6 b7 a ha) (by decide) _ 0 (by show ((0 : Nat) : Int) ≤ _; omega) (by show ((pall [x0, x1, x2, x3, x4, x5, x6, x7]) + 1).toNat - 0 < _; omega)⟩
set_option maxHeartbeats 4000000 in
set_option maxRecDepth 100000 in
theorem pathsWithin_any (x0 x1 x2 x3 x4 x5 x6 x7 : Int) (b0 : -2147483648 ≤ x0 ∧ x0 ≤ 2147483647) (b1 : -2147483648 ≤ x1 ∧ x1 ≤ 2147483647) (b2 : -2147483648 ≤ x2 ∧ x2 ≤ 2147483647) (b3 : -2147483648 ≤ x3 ∧ x3 ≤ 2147483647) (b4 : -2147483648 ≤ x4 ∧ x4 ≤ 2147483647) (b5 : -2147483648 ≤ x5 ∧ x5 ≤ 2147483647) (b6 : -2147483648 ≤ x6 ∧ x6 ≤ 2147483647) (b7 : -2147483648 ≤ x7 ∧ x7 ≤ 2147483647) (w : World) (hw : WOk GB w) : Calls Try.prog 4 #[.agg #[.int .i32 x0, .int .i32 x1, .int .i32 x2, .int .i32 x3, .int .i32 x4, .int .i32 x5, .int .i32 x6, .int .i32 x7]] w (fun e w' => e = .returned (.bool true) ∧ Below w.heap.size w w') := by
  refine (calls_eq (way_callsL (ρ := rho ([x0, x1, x2, x3, x4, x5, x6, x7] : List Int)) (lp := pathsWithin_lp) (run := pathsWithin_run Try.prog) (fun _ => rfl) fits (within_get ⟨b0, b1, b2, b3, b4, b5, b6, b7, trivial⟩) gi_ok (fun X hX hG => ct_lv_ok hX hG) (fun X hX hG fn c hf hc => ?_) rfl rfl gbApart_nil ?_ w hw)).2
  · refine lpOk_cons ((congrArg codeLoops (bodyOf_eq hf hc)).symm.trans pathsWithin_loops) ?_
    intro b hb
    simp only [List.mem_cons, List.mem_nil_iff, or_false] at hb
    subst hb
    refine lpAt_any hX hG (by kernel_rfl) ?_
    intro p hp
    simp only [List.mem_cons, List.mem_nil_iff, or_false] at hp
    subst hp
    exact pathsWithin_uok x0 x1 x2 x3 x4 x5 x6 x7
  refine way_cut (.cmp .eq (.app 83 (.cons (.app 44 (.cons (.var 0) (.cons (.var 1) (.cons (.var 2) (.cons (.var 3) (.cons (.var 4) (.cons (.var 5) (.cons (.var 6) (.cons (.var 7) .nil))))))))) (.cons (.lit 0) (.cons (.lit 0) .nil)))) (.app 83 (.cons (.app 91 (.cons (.app 91 (.cons (.lit 0) (.cons (.app 2 (.cons (.var 0) (.cons (.lit 256) .nil))) (.cons (.app 2 (.cons (.var 1) (.cons (.lit 256) .nil))) .nil)))) (.cons (.app 2 (.cons (.var 6) (.cons (.lit 256) .nil))) (.cons (.app 2 (.cons (.var 7) (.cons (.lit 256) .nil))) .nil)))) (.cons (.lit 0) (.cons (.lit 0) .nil))))) (fun h0 => ?_) (fun h0 => ?_)
  rotate_left
  · skip
    refine way_leaf pathsWithin_n10 ?_
    exfalso; simp only [E.den, EL.den, B.den, cop_lt, cop_le, cop_eq, cop_ne, iop_add, iop_sub, iop_mul, iop_max, iop_min, iop_quo, iop_rem, iop_fdiv, iop_shl, SV.den, SV.denL, SV.ubd, SV.ubdL, rho, List.cons_append, List.nil_append, List.getD_cons_zero, List.getD_cons_succ, decide_eq_true_eq, decide_eq_false_iff_not, Bool.not_eq_true', Bool.not_eq_false', Bool.and_eq_true, true_and, lenE] at h0; with_reducible exact absurd (ends_all b0 b1 b2 b3 b4 b5 b6 b7 _ rfl _ rfl).1 h0
  refine way_cut (.cmp .eq (.app 83 (.cons (.app 44 (.cons (.var 0) (.cons (.var 1) (.cons (.var 2) (.cons (.var 3) (.cons (.var 4) (.cons (.var 5) (.cons (.var 6) (.cons (.var 7) .nil))))))))) (.cons (.lit 0) (.cons (.lit 1) .nil)))) (.app 83 (.cons (.app 91 (.cons (.app 91 (.cons (.lit 0) (.cons (.app 2 (.cons (.var 0) (.cons (.lit 256) .nil))) (.cons (.app 2 (.cons (.var 1) (.cons (.lit 256) .nil))) .nil)))) (.cons (.app 2 (.cons (.var 6) (.cons (.lit 256) .nil))) (.cons (.app 2 (.cons (.var 7) (.cons (.lit 256) .nil))) .nil)))) (.cons (.lit 0) (.cons (.lit 1) .nil))))) (fun h1 => ?_) (fun h1 => ?_)
  rotate_left
  · skip
    refine way_leaf pathsWithin_n9 ?_
    exfalso; clear h0; simp only [E.den, EL.den, B.den, cop_lt, cop_le, cop_eq, cop_ne, iop_add, iop_sub, iop_mul, iop_max, iop_min, iop_quo, iop_rem, iop_fdiv, iop_shl, SV.den, SV.denL, SV.ubd, SV.ubdL, rho, List.cons_append, List.nil_append, List.getD_cons_zero, List.getD_cons_succ, decide_eq_true_eq, decide_eq_false_iff_not, Bool.not_eq_true', Bool.not_eq_false', Bool.and_eq_true, true_and, lenE] at h1; with_reducible exact absurd (ends_all b0 b1 b2 b3 b4 b5 b6 b7 _ rfl _ rfl).2.1 h1
  refine way_cut (.cmp .lt (.op .sub (.op .add (.op .shl (.lit 1) (.app 43 (.cons (.var 0) (.cons (.var 1) (.cons (.var 2) (.cons (.var 3) (.cons (.var 4) (.cons (.var 5) (.cons (.var 6) (.cons (.var 7) .nil)))))))))) (.lit 1)) (.lit 1)) (.op .add (.op .shl (.lit 1) (.app 43 (.cons (.var 0) (.cons (.var 1) (.cons (.var 2) (.cons (.var 3) (.cons (.var 4) (.cons (.var 5) (.cons (.var 6) (.cons (.var 7) .nil)))))))))) (.lit 1))) (fun h2 => ?_) (fun h2 => ?_)
  rotate_left
  · skip
    refine way_bad ?_
    exfalso; clear h0 h1; simp only [E.den, EL.den, B.den, cop_lt, cop_le, cop_eq, cop_ne, iop_add, iop_sub, iop_mul, iop_max, iop_min, iop_quo, iop_rem, iop_fdiv, iop_shl, SV.den, SV.denL, SV.ubd, SV.ubdL, rho, List.cons_append, List.nil_append, List.getD_cons_zero, List.getD_cons_succ, decide_eq_true_eq, decide_eq_false_iff_not, Bool.not_eq_true', Bool.not_eq_false', Bool.and_eq_true, true_and, lenE] at h2; omega
  refine way_cut (.cmp .eq (.app 83 (.cons (.app 44 (.cons (.var 0) (.cons (.var 1) (.cons (.var 2) (.cons (.var 3) (.cons (.var 4) (.cons (.var 5) (.cons (.var 6) (.cons (.var 7) .nil))))))))) (.cons (.op .sub (.op .add (.op .shl (.lit 1) (.app 43 (.cons (.var 0) (.cons (.var 1) (.cons (.var 2) (.cons (.var 3) (.cons (.var 4) (.cons (.var 5) (.cons (.var 6) (.cons (.var 7) .nil)))))))))) (.lit 1)) (.lit 1)) (.cons (.lit 0) .nil)))) (.app 83 (.cons (.app 91 (.cons (.app 91 (.cons (.lit 0) (.cons (.app 2 (.cons (.var 0) (.cons (.lit 256) .nil))) (.cons (.app 2 (.cons (.var 1) (.cons (.lit 256) .nil))) .nil)))) (.cons (.app 2 (.cons (.var 6) (.cons (.lit 256) .nil))) (.cons (.app 2 (.cons (.var 7) (.cons (.lit 256) .nil))) .nil)))) (.cons (.lit 1) (.cons (.lit 0) .nil))))) (fun h3 => ?_) (fun h3 => ?_)
  rotate_left
  · skip
    refine way_leaf pathsWithin_n7 ?_
    exfalso; clear h0 h1 h2; simp only [E.den, EL.den, B.den, cop_lt, cop_le, cop_eq, cop_ne, iop_add, iop_sub, iop_mul, iop_max, iop_min, iop_quo, iop_rem, iop_fdiv, iop_shl, SV.den, SV.denL, SV.ubd, SV.ubdL, rho, List.cons_append, List.nil_append, List.getD_cons_zero, List.getD_cons_succ, decide_eq_true_eq, decide_eq_false_iff_not, Bool.not_eq_true', Bool.not_eq_false', Bool.and_eq_true, true_and, lenE] at h3; with_reducible exact absurd (ends_all b0 b1 b2 b3 b4 b5 b6 b7 _ rfl _ (by simp only [pall_eq]; omega)).2.2.1 h3
  refine way_cut (.cmp .eq (.app 83 (.cons (.app 44 (.cons (.var 0) (.cons (.var 1) (.cons (.var 2) (.cons (.var 3) (.cons (.var 4) (.cons (.var 5) (.cons (.var 6) (.cons (.var 7) .nil))))))))) (.cons (.op .sub (.op .add (.op .shl (.lit 1) (.app 43 (.cons (.var 0) (.cons (.var 1) (.cons (.var 2) (.cons (.var 3) (.cons (.var 4) (.cons (.var 5) (.cons (.var 6) (.cons (.var 7) .nil)))))))))) (.lit 1)) (.lit 1)) (.cons (.lit 1) .nil)))) (.app 83 (.cons (.app 91 (.cons (.app 91 (.cons (.lit 0) (.cons (.app 2 (.cons (.var 0) (.cons (.lit 256) .nil))) (.cons (.app 2 (.cons (.var 1) (.cons (.lit 256) .nil))) .nil)))) (.cons (.app 2 (.cons (.var 6) (.cons (.lit 256) .nil))) (.cons (.app 2 (.cons (.var 7) (.cons (.lit 256) .nil))) .nil)))) (.cons (.lit 1) (.cons (.lit 1) .nil))))) (fun h4 => way_leaf pathsWithin_n5 ⟨rfl, rfl⟩) (fun h4 => ?_)
  refine way_leaf pathsWithin_n6 ?_
  exfalso; clear h0 h1 h2 h3; simp only [E.den, EL.den, B.den, cop_lt, cop_le, cop_eq, cop_ne, iop_add, iop_sub, iop_mul, iop_max, iop_min, iop_quo, iop_rem, iop_fdiv, iop_shl, SV.den, SV.denL, SV.ubd, SV.ubdL, rho, List.cons_append, List.nil_append, List.getD_cons_zero, List.getD_cons_succ, decide_eq_true_eq, decide_eq_false_iff_not, Bool.not_eq_true', Bool.not_eq_false', Bool.and_eq_true, true_and, lenE] at h4; with_reducible exact absurd (ends_all b0 b1 b2 b3 b4 b5 b6 b7 _ rfl _ (by simp only [pall_eq]; omega)).2.2.2 h4
end Go.Proofs.Ythiehfhphgkaeaa
