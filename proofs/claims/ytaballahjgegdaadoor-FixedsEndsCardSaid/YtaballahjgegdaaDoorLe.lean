/- What is proved: the law FixedsEnds, over all its ways: it is true. The conditions are the numbers' own bounds. -/
import Derived.Test.YtaballahjgegdaaDoorCa
import Derived.Test.YtaballahjgegdaaDoorLe1
import Derived.Test.YtaballahjgegdaaDoorLe2
import Derived.Test.YtaballahjgegdaaDoorLe3
set_option linter.unusedSimpArgs false
set_option linter.unusedVariables false
namespace Go.Proofs.YtaballahjgegdaaDoor
open Go Go.RowKit Sx Wi
set_option maxRecDepth 100000 in
theorem fixedsEnds_any (x0 x1 x2 x3 x4 x5 : Int) (b0 : (-2147483648) ≤ x0 ∧ x0 ≤ 2147483647) (b1 : (-2147483648) ≤ x1 ∧ x1 ≤ 2147483647) (b2 : (-2147483648) ≤ x2 ∧ x2 ≤ 2147483647) (b3 : (-2147483648) ≤ x3 ∧ x3 ≤ 2147483647) (b4 : (-2147483648) ≤ x4 ∧ x4 ≤ 2147483647) (b5 : (-2147483648) ≤ x5 ∧ x5 ≤ 2147483647) (w : World) (hw : WOk GB w) : Calls Tryd.prog 5 #[(.agg #[.int .i32 x0, .int .i32 x1]), (.agg #[.int .i32 x2, .int .i32 x3]), (.agg #[.int .i32 x4, .int .i32 x5])] w (fun e w' => e = .returned (.bool true) ∧ Below w.heap.size w w') := by
  refine (calls_eq (way_calls (ρ := rho [x0, x1, x2, x3, x4, x5]) (run := fun fs => exFun Tryd.prog ⟨G, GI, [((-2147483648), 2147483647), ((-2147483648), 2147483647), ((-2147483648), 2147483647), ((-2147483648), 2147483647), ((-2147483648), 2147483647), ((-2147483648), 2147483647)], fs⟩ GB ct_ftrunc 4000 5 [(.agg [(.int .i32 (.var 0)), (.int .i32 (.var 1))]), (.agg [(.int .i32 (.var 2)), (.int .i32 (.var 3))]), (.agg [(.int .i32 (.var 4)), (.int .i32 (.var 5))])]) (fun _ => rfl) (by kernel_rfl) (within_get ⟨b0, b1, b2, b3, b4, b5, trivial⟩) gi_ok (fun fs hf => ct_ftrunc_ok (X := ⟨G, GI, _, fs⟩) ⟨within_get ⟨b0, b1, b2, b3, b4, b5, trivial⟩, hf, gi_ok⟩ rfl) rfl gb_flat gb_apart ?_ w hw)).2
  refine way_need fixedsEnds_n0 (fun h0 => ?_) (fun h0 => ?_)
  · skip
    refine way_leaf fixedsEnds_n1 ?_
    exact ⟨rfl, rfl⟩
  · skip
    refine way_need fixedsEnds_n2 (fun h1 => ?_) (fun h1 => ?_)
    · skip
      refine way_leaf fixedsEnds_n3 ?_
      simp only [E.den, EL.den, B.den, cop_lt, cop_le, cop_eq, cop_ne, iop_add, iop_sub, iop_mul, iop_max, iop_min, iop_quo, iop_rem, iop_fdiv, SV.den, SV.denL, SV.ubd, SV.ubdL, rho, List.getD_cons_zero, List.getD_cons_succ, decide_eq_true_eq, decide_eq_false_iff_not, Bool.not_eq_true', Bool.not_eq_false', Bool.and_eq_true, true_and, G, wG, xG3, xG4, xG5, xG6, xG7, xG8, xG9] at *; exfalso; have e0 : x0 ≠ x1 := (by omega); have l1 := Fx.line_lo x0 x1 x2 x3 e0 b2; have l2 := Fx.line_hi x0 x1 x2 x3 e0 b3; have l3 := Fx.line_self x4 x0 x1 e0 b4; have l4 := Fx.line_rises (min x4 x5) (max x4 x5) x0 x1 x2 x3 e0 (by omega); omega
    · skip
      refine way_need fixedsEnds_n4 (fun h2 => ?_) (fun h2 => ?_)
      · skip
        refine way_leaf fixedsEnds_n5 ?_
        simp only [E.den, EL.den, B.den, cop_lt, cop_le, cop_eq, cop_ne, iop_add, iop_sub, iop_mul, iop_max, iop_min, iop_quo, iop_rem, iop_fdiv, SV.den, SV.denL, SV.ubd, SV.ubdL, rho, List.getD_cons_zero, List.getD_cons_succ, decide_eq_true_eq, decide_eq_false_iff_not, Bool.not_eq_true', Bool.not_eq_false', Bool.and_eq_true, true_and, G, wG, xG3, xG4, xG5, xG6, xG7, xG8, xG9] at *; exfalso; have e0 : x0 ≠ x1 := (by omega); have l1 := Fx.line_lo x0 x1 x2 x3 e0 b2; have l2 := Fx.line_hi x0 x1 x2 x3 e0 b3; have l3 := Fx.line_self x4 x0 x1 e0 b4; have l4 := Fx.line_rises (min x4 x5) (max x4 x5) x0 x1 x2 x3 e0 (by omega); omega
      · skip
        refine way_need fixedsEnds_n6 (fun h3 => ?_) (fun h3 => ?_)
        · skip
          refine way_leaf fixedsEnds_n7 ?_
          simp only [E.den, EL.den, B.den, cop_lt, cop_le, cop_eq, cop_ne, iop_add, iop_sub, iop_mul, iop_max, iop_min, iop_quo, iop_rem, iop_fdiv, SV.den, SV.denL, SV.ubd, SV.ubdL, rho, List.getD_cons_zero, List.getD_cons_succ, decide_eq_true_eq, decide_eq_false_iff_not, Bool.not_eq_true', Bool.not_eq_false', Bool.and_eq_true, true_and, G, wG, xG3, xG4, xG5, xG6, xG7, xG8, xG9] at *; exfalso; have e0 : x0 ≠ x1 := (by omega); have l1 := Fx.line_lo x0 x1 x2 x3 e0 b2; have l2 := Fx.line_hi x0 x1 x2 x3 e0 b3; have l3 := Fx.line_self x4 x0 x1 e0 b4; have l4 := Fx.line_rises (min x4 x5) (max x4 x5) x0 x1 x2 x3 e0 (by omega); omega
        · skip
          refine way_need fixedsEnds_n8 (fun h4 => ?_) (fun h4 => ?_)
          · skip
            refine way_leaf fixedsEnds_n9 ?_
            simp only [E.den, EL.den, B.den, cop_lt, cop_le, cop_eq, cop_ne, iop_add, iop_sub, iop_mul, iop_max, iop_min, iop_quo, iop_rem, iop_fdiv, SV.den, SV.denL, SV.ubd, SV.ubdL, rho, List.getD_cons_zero, List.getD_cons_succ, decide_eq_true_eq, decide_eq_false_iff_not, Bool.not_eq_true', Bool.not_eq_false', Bool.and_eq_true, true_and, G, wG, xG3, xG4, xG5, xG6, xG7, xG8, xG9] at *; exfalso; have e0 : x0 ≠ x1 := (by omega); have l1 := Fx.line_lo x0 x1 x2 x3 e0 b2; have l2 := Fx.line_hi x0 x1 x2 x3 e0 b3; have l3 := Fx.line_self x4 x0 x1 e0 b4; have l4 := Fx.line_rises (min x4 x5) (max x4 x5) x0 x1 x2 x3 e0 (by omega); omega
          · skip
            refine way_need fixedsEnds_n10 (fun h5 => ?_) (fun h5 => ?_)
            · skip
              refine way_leaf fixedsEnds_n11 ?_
              exact ⟨rfl, rfl⟩
            · skip
              refine way_need fixedsEnds_n12 (fun h6 => ?_) (fun h6 => ?_)
              · skip
                refine way_need fixedsEnds_n13 (fun h7 => ?_) (fun h7 => ?_)
                · skip
                  refine way_need fixedsEnds_n14 (fun h8 => ?_) (fun h8 => ?_)
                  · skip
                    refine way_leaf fixedsEnds_n15 ?_
                    exact ⟨rfl, rfl⟩
                  · skip
                    refine way_leaf fixedsEnds_n16 ?_
                    simp only [E.den, EL.den, B.den, cop_lt, cop_le, cop_eq, cop_ne, iop_add, iop_sub, iop_mul, iop_max, iop_min, iop_quo, iop_rem, iop_fdiv, SV.den, SV.denL, SV.ubd, SV.ubdL, rho, List.getD_cons_zero, List.getD_cons_succ, decide_eq_true_eq, decide_eq_false_iff_not, Bool.not_eq_true', Bool.not_eq_false', Bool.and_eq_true, true_and, G, wG, xG3, xG4, xG5, xG6, xG7, xG8, xG9] at *; exfalso; have e0 : x0 ≠ x1 := (by omega); have l1 := Fx.line_lo x0 x1 x2 x3 e0 b2; have l2 := Fx.line_hi x0 x1 x2 x3 e0 b3; have l3 := Fx.line_self x4 x0 x1 e0 b4; have l4 := Fx.line_rises (min x4 x5) (max x4 x5) x0 x1 x2 x3 e0 (by omega); omega
                · skip
                  refine way_need fixedsEnds_n17 (fun h8 => ?_) (fun h8 => ?_)
                  · skip
                    refine way_leaf fixedsEnds_n18 ?_
                    exact ⟨rfl, rfl⟩
                  · skip
                    refine way_leaf fixedsEnds_n19 ?_
                    simp only [E.den, EL.den, B.den, cop_lt, cop_le, cop_eq, cop_ne, iop_add, iop_sub, iop_mul, iop_max, iop_min, iop_quo, iop_rem, iop_fdiv, SV.den, SV.denL, SV.ubd, SV.ubdL, rho, List.getD_cons_zero, List.getD_cons_succ, decide_eq_true_eq, decide_eq_false_iff_not, Bool.not_eq_true', Bool.not_eq_false', Bool.and_eq_true, true_and, G, wG, xG3, xG4, xG5, xG6, xG7, xG8, xG9] at *; exfalso; have e0 : x0 ≠ x1 := (by omega); have l1 := Fx.line_lo x0 x1 x2 x3 e0 b2; have l2 := Fx.line_hi x0 x1 x2 x3 e0 b3; have l3 := Fx.line_self x4 x0 x1 e0 b4; have l4 := Fx.line_rises (min x4 x5) (max x4 x5) x0 x1 x2 x3 e0 (by omega); omega
              · skip
                refine way_need fixedsEnds_n20 (fun h7 => ?_) (fun h7 => ?_)
                · skip
                  refine way_need fixedsEnds_n21 (fun h8 => ?_) (fun h8 => ?_)
                  · skip
                    refine way_leaf fixedsEnds_n22 ?_
                    exact ⟨rfl, rfl⟩
                  · skip
                    refine way_leaf fixedsEnds_n23 ?_
                    simp only [E.den, EL.den, B.den, cop_lt, cop_le, cop_eq, cop_ne, iop_add, iop_sub, iop_mul, iop_max, iop_min, iop_quo, iop_rem, iop_fdiv, SV.den, SV.denL, SV.ubd, SV.ubdL, rho, List.getD_cons_zero, List.getD_cons_succ, decide_eq_true_eq, decide_eq_false_iff_not, Bool.not_eq_true', Bool.not_eq_false', Bool.and_eq_true, true_and, G, wG, xG3, xG4, xG5, xG6, xG7, xG8, xG9] at *; exfalso; have e0 : x0 ≠ x1 := (by omega); have l1 := Fx.line_lo x0 x1 x2 x3 e0 b2; have l2 := Fx.line_hi x0 x1 x2 x3 e0 b3; have l3 := Fx.line_self x4 x0 x1 e0 b4; have l4 := Fx.line_rises (min x4 x5) (max x4 x5) x0 x1 x2 x3 e0 (by omega); omega
                · skip
                  refine way_need fixedsEnds_n24 (fun h8 => ?_) (fun h8 => ?_)
                  · skip
                    refine way_leaf fixedsEnds_n25 ?_
                    exact ⟨rfl, rfl⟩
                  · skip
                    refine way_leaf fixedsEnds_n26 ?_
                    simp only [E.den, EL.den, B.den, cop_lt, cop_le, cop_eq, cop_ne, iop_add, iop_sub, iop_mul, iop_max, iop_min, iop_quo, iop_rem, iop_fdiv, SV.den, SV.denL, SV.ubd, SV.ubdL, rho, List.getD_cons_zero, List.getD_cons_succ, decide_eq_true_eq, decide_eq_false_iff_not, Bool.not_eq_true', Bool.not_eq_false', Bool.and_eq_true, true_and, G, wG, xG3, xG4, xG5, xG6, xG7, xG8, xG9] at *; exfalso; have e0 : x0 ≠ x1 := (by omega); have l1 := Fx.line_lo x0 x1 x2 x3 e0 b2; have l2 := Fx.line_hi x0 x1 x2 x3 e0 b3; have l3 := Fx.line_self x4 x0 x1 e0 b4; have l4 := Fx.line_rises (min x4 x5) (max x4 x5) x0 x1 x2 x3 e0 (by omega); omega
end Go.Proofs.YtaballahjgegdaaDoor
