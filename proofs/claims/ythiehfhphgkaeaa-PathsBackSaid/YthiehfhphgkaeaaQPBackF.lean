/- What is proved: the law Back, over all its ways: it is true. No condition but the numbers' own bounds. -/
import Derived.Test.YthiehfhphgkaeaaQPBackf0
import Derived.Test.YthiehfhphgkaeaaQPBackW
set_option linter.unusedSimpArgs false
set_option linter.unusedVariables false
namespace Go.Proofs.Ythiehfhphgkaeaa
open Go Go.RowKit Sx Wi
theorem pathsBack_loops : codeLoops (bodyOf Try.prog 3) = [loopNo (bodyOf Try.prog 3) 0] := by kernel_rfl
set_option maxRecDepth 100000 in
theorem pathsBack_uok (x0 x1 x2 x3 x4 x5 x6 x7 : Int) : LoopUOK Try.prog G (glOf GB) (loopNo (bodyOf Try.prog 3) 0) pathsBack_u (rho ([x0, x1, x2, x3, x4, x5, x6, x7] : List Int)) := by
  intro hw _
  have hb : within pathsBack_vt (([x0, x1, x2, x3, x4, x5, x6, x7] : List Int) ++ [0]) := hw
  unfold pathsBack_vt at hb
  simp only [List.cons_append, List.nil_append] at hb
  obtain ⟨b0, b1, b2, b3, b4, b5, b6, b7, _⟩ := hb
  have e : envOf G (rho ([x0, x1, x2, x3, x4, x5, x6, x7] : List Int)) pathsBack_u.es = pathsBack_rho x0 x1 x2 x3 x4 x5 x6 x7 0 := by
    rw [envOf_rho]; rfl
  rw [e]
  have hp := pall_bd [x0, x1, x2, x3, x4, x5, x6, x7]
  exact ⟨((pall [x0, x1, x2, x3, x4, x5, x6, x7]) + 1).toNat + 1, loop_rounds (ι := Nat) (ρ := pathsBack_rho x0 x1 x2 x3 x4 x5 x6 x7) (ρT := rho ([x0, x1, x2, x3, x4, x5, x6, x7] : List Int)) (m := fun a => ((pall [x0, x1, x2, x3, x4, x5, x6, x7]) + 1).toNat - a) (Good := fun a => (a : Int) ≤ (pall [x0, x1, x2, x3, x4, x5, x6, x7]) + 1) (run := pathsBack_round Try.prog) (fun _ => rfl) fits rfl gi_ok (fun a ha => pathsBack_vars x0 x1 x2 x3 x4 x5 x6 x7 b0 b1 b2 b3 b4 b5 b6 b7 a ha) (fun _ _ X hX hG => ct_lv_ok hX hG) (fun _ _ X hX hG => lpOk_lpNil) (fun a ha => pathsBack_way x0 x1 x2 x3 x4 x5 x6 x7 b0 b1 b2 b3 b4 b5 b6 b7 a ha) (by decide) _ 0 (by show ((0 : Nat) : Int) ≤ _; omega) (by show ((pall [x0, x1, x2, x3, x4, x5, x6, x7]) + 1).toNat - 0 < _; omega)⟩
set_option maxHeartbeats 4000000 in
set_option maxRecDepth 100000 in
theorem pathsBack_any (x0 x1 x2 x3 x4 x5 x6 x7 : Int) (b0 : -2147483648 ≤ x0 ∧ x0 ≤ 2147483647) (b1 : -2147483648 ≤ x1 ∧ x1 ≤ 2147483647) (b2 : -2147483648 ≤ x2 ∧ x2 ≤ 2147483647) (b3 : -2147483648 ≤ x3 ∧ x3 ≤ 2147483647) (b4 : -2147483648 ≤ x4 ∧ x4 ≤ 2147483647) (b5 : -2147483648 ≤ x5 ∧ x5 ≤ 2147483647) (b6 : -2147483648 ≤ x6 ∧ x6 ≤ 2147483647) (b7 : -2147483648 ≤ x7 ∧ x7 ≤ 2147483647) (w : World) (hw : WOk GB w) : Calls Try.prog 3 #[.agg #[.int .i32 x0, .int .i32 x1, .int .i32 x2, .int .i32 x3, .int .i32 x4, .int .i32 x5, .int .i32 x6, .int .i32 x7]] w (fun e w' => e = .returned (.bool true) ∧ Below w.heap.size w w') := by
  refine (calls_eq (way_callsL (ρ := rho ([x0, x1, x2, x3, x4, x5, x6, x7] : List Int)) (lp := pathsBack_lp) (run := pathsBack_run Try.prog) (fun _ => rfl) fits (within_get ⟨b0, b1, b2, b3, b4, b5, b6, b7, trivial⟩) gi_ok (fun X hX hG => ct_lv_ok hX hG) (fun X hX hG fn c hf hc => ?_) rfl rfl gbApart_nil ?_ w hw)).2
  · refine lpOk_cons ((congrArg codeLoops (bodyOf_eq hf hc)).symm.trans pathsBack_loops) ?_
    intro b hb
    simp only [List.mem_cons, List.mem_nil_iff, or_false] at hb
    subst hb
    refine lpAt_any hX hG (by kernel_rfl) ?_
    intro p hp
    simp only [List.mem_cons, List.mem_nil_iff, or_false] at hp
    subst hp
    exact pathsBack_uok x0 x1 x2 x3 x4 x5 x6 x7
  refine way_cut (.cmp .ne (.op .add (.op .shl (.lit 1) (.app 43 (.cons (.var 0) (.cons (.var 1) (.cons (.var 2) (.cons (.var 3) (.cons (.var 4) (.cons (.var 5) (.cons (.var 6) (.cons (.var 7) .nil)))))))))) (.lit 1)) (.op .add (.op .shl (.lit 1) (.app 43 (.cons (.var 6) (.cons (.var 7) (.cons (.var 4) (.cons (.var 5) (.cons (.var 2) (.cons (.var 3) (.cons (.var 0) (.cons (.var 1) .nil)))))))))) (.lit 1))) (fun h0 => ?_) (fun h0 => ?_)
  · skip
    refine way_leaf pathsBack_n1 ?_
    exfalso; have hb := pall_back x0 x1 x2 x3 x4 x5 x6 x7; simp only [E.den, EL.den, B.den, cop_lt, cop_le, cop_eq, cop_ne, iop_add, iop_sub, iop_mul, iop_max, iop_min, iop_quo, iop_rem, iop_fdiv, iop_shl, SV.den, SV.denL, SV.ubd, SV.ubdL, rho, List.cons_append, List.nil_append, List.getD_cons_zero, List.getD_cons_succ, decide_eq_true_eq, decide_eq_false_iff_not, Bool.not_eq_true', Bool.not_eq_false', Bool.and_eq_true, true_and, lenE] at h0; simp only [pall_eq] at h0; omega
  refine way_cut (.cmp .eq (.op .add (.op .shl (.lit 1) (.app 43 (.cons (.var 0) (.cons (.var 1) (.cons (.var 2) (.cons (.var 3) (.cons (.var 4) (.cons (.var 5) (.cons (.var 6) (.cons (.var 7) .nil)))))))))) (.lit 1)) (.lit 2)) (fun h1 => way_leaf pathsBack_n3 ⟨rfl, rfl⟩) (fun h1 => ?_)
  refine way_cut (.cmp .eq (.op .add (.op .shl (.lit 1) (.app 43 (.cons (.var 0) (.cons (.var 1) (.cons (.var 2) (.cons (.var 3) (.cons (.var 4) (.cons (.var 5) (.cons (.var 6) (.cons (.var 7) .nil)))))))))) (.lit 1)) (.lit 3)) (fun h2 => way_leaf pathsBack_n5 ⟨rfl, rfl⟩) (fun h2 => ?_)
  refine way_cut (.cmp .eq (.op .add (.op .shl (.lit 1) (.app 43 (.cons (.var 0) (.cons (.var 1) (.cons (.var 2) (.cons (.var 3) (.cons (.var 4) (.cons (.var 5) (.cons (.var 6) (.cons (.var 7) .nil)))))))))) (.lit 1)) (.lit 5)) (fun h3 => way_leaf pathsBack_n7 ⟨rfl, rfl⟩) (fun h3 => ?_)
  refine way_cut (.cmp .eq (.op .add (.op .shl (.lit 1) (.app 43 (.cons (.var 0) (.cons (.var 1) (.cons (.var 2) (.cons (.var 3) (.cons (.var 4) (.cons (.var 5) (.cons (.var 6) (.cons (.var 7) .nil)))))))))) (.lit 1)) (.lit 9)) (fun h4 => way_leaf pathsBack_n9 ⟨rfl, rfl⟩) (fun h4 => ?_)
  refine way_cut (.cmp .eq (.op .add (.op .shl (.lit 1) (.app 43 (.cons (.var 0) (.cons (.var 1) (.cons (.var 2) (.cons (.var 3) (.cons (.var 4) (.cons (.var 5) (.cons (.var 6) (.cons (.var 7) .nil)))))))))) (.lit 1)) (.lit 17)) (fun h5 => way_leaf pathsBack_n11 ⟨rfl, rfl⟩) (fun h5 => ?_)
  refine way_cut (.cmp .eq (.op .add (.op .shl (.lit 1) (.app 43 (.cons (.var 0) (.cons (.var 1) (.cons (.var 2) (.cons (.var 3) (.cons (.var 4) (.cons (.var 5) (.cons (.var 6) (.cons (.var 7) .nil)))))))))) (.lit 1)) (.lit 33)) (fun h6 => way_leaf pathsBack_n13 ⟨rfl, rfl⟩) (fun h6 => ?_)
  refine way_cut (.cmp .eq (.op .add (.op .shl (.lit 1) (.app 43 (.cons (.var 0) (.cons (.var 1) (.cons (.var 2) (.cons (.var 3) (.cons (.var 4) (.cons (.var 5) (.cons (.var 6) (.cons (.var 7) .nil)))))))))) (.lit 1)) (.lit 65)) (fun h7 => way_leaf pathsBack_n15 ⟨rfl, rfl⟩) (fun h7 => ?_)
  refine way_leaf pathsBack_n16 ?_
  exfalso; have hc := pall_cases [x0, x1, x2, x3, x4, x5, x6, x7]; clear h0; simp only [E.den, EL.den, B.den, cop_lt, cop_le, cop_eq, cop_ne, iop_add, iop_sub, iop_mul, iop_max, iop_min, iop_quo, iop_rem, iop_fdiv, iop_shl, SV.den, SV.denL, SV.ubd, SV.ubdL, rho, List.cons_append, List.nil_append, List.getD_cons_zero, List.getD_cons_succ, decide_eq_true_eq, decide_eq_false_iff_not, Bool.not_eq_true', Bool.not_eq_false', Bool.and_eq_true, true_and, lenE] at *; (try simp only [pall_eq] at *); omega
end Go.Proofs.Ythiehfhphgkaeaa
