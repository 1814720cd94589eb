/- What is proved: the law EdgesMoved, over all its ways: it is true. The conditions are the numbers' own bounds. -/
import Derived.Test.YtoighnoliehafaaCl
import Derived.Test.YtoighnoliehafaaMp
namespace Go.Proofs.Ytoighnoliehafaa
open Go Go.RowKit Sx Ed
set_option maxRecDepth 100000 in
theorem edgesMoved_tree : explore (fun fs => exFun Try.prog ⟨G, GI, [((-9223372036854775808), 9223372036854775807), ((-9223372036854775808), 9223372036854775807), ((-9223372036854775808), 9223372036854775807), ((-9223372036854775808), 9223372036854775807), ((-9223372036854775808), 9223372036854775807), ((-9223372036854775808), 9223372036854775807), ((-9223372036854775808), 9223372036854775807), ((-9223372036854775808), 9223372036854775807), ((-32768), 32767), ((-32768), 32767)], fs⟩ ct_lives 4000 7 [(.agg [(.int .i64 (.var 0)), (.int .i64 (.var 1)), (.int .i64 (.var 2)), (.int .i64 (.var 3)), (.int .i64 (.var 4)), (.int .i64 (.var 5))]), (.agg [(.int .i64 (.var 6)), (.int .i64 (.var 7))]), (.agg [(.int .i16 (.var 8)), (.int .i16 (.var 9))])]) 60 [] =
 (.br (.cmp .lt (.lit 536870912) (.op .max (.var 0) (.var 1)))
 (.leaf (.bool (.lit true)))
 (.br (.cmp .lt (.op .min (.var 0) (.var 1)) (.lit (-536870912)))
 (.leaf (.bool (.lit true)))
 (.br (.cmp .lt (.lit 536870912) (.op .max (.var 2) (.var 3)))
 (.leaf (.bool (.lit true)))
 (.br (.cmp .lt (.op .min (.var 2) (.var 3)) (.lit (-536870912)))
 (.leaf (.bool (.lit true)))
 (.br (.cmp .lt (.lit 536870912) (.op .max (.var 4) (.var 5)))
 (.leaf (.bool (.lit true)))
 (.br (.cmp .lt (.op .min (.var 4) (.var 5)) (.lit (-536870912)))
 (.leaf (.bool (.lit true)))
 (.br (.cmp .lt (.lit 536870912) (.op .max (.var 6) (.var 7)))
 (.leaf (.bool (.lit true)))
 (.br (.cmp .lt (.op .min (.var 6) (.var 7)) (.lit (-536870912)))
 (.leaf (.bool (.lit true)))
 (.br (.cmp .eq (.app 1 (.cons (.var 0) (.cons (.var 1) (.cons (.var 2) (.cons (.var 3) (.cons (.var 4) (.cons (.var 5) .nil))))))) (.app 1 (.cons (.op .add (.var 0) (.var 8)) (.cons (.op .add (.var 1) (.var 9)) (.cons (.op .add (.var 2) (.var 8)) (.cons (.op .add (.var 3) (.var 9)) (.cons (.op .add (.var 4) (.var 8)) (.cons (.op .add (.var 5) (.var 9)) .nil))))))))
 (.br (.cmp .eq (.app 3 (.cons (.var 0) (.cons (.var 1) (.cons (.var 2) (.cons (.var 3) (.cons (.var 4) (.cons (.var 5) (.cons (.var 6) (.cons (.var 7) .nil))))))))) (.app 3 (.cons (.op .add (.var 0) (.var 8)) (.cons (.op .add (.var 1) (.var 9)) (.cons (.op .add (.var 2) (.var 8)) (.cons (.op .add (.var 3) (.var 9)) (.cons (.op .add (.var 4) (.var 8)) (.cons (.op .add (.var 5) (.var 9)) (.cons (.op .add (.var 6) (.var 8)) (.cons (.op .add (.var 7) (.var 9)) .nil))))))))))
 (.br (.cmp .eq (.app 4 (.cons (.var 0) (.cons (.var 1) (.cons (.var 2) (.cons (.var 3) (.cons (.var 4) (.cons (.var 5) (.cons (.var 6) (.cons (.var 7) .nil))))))))) (.app 4 (.cons (.op .add (.var 0) (.var 8)) (.cons (.op .add (.var 1) (.var 9)) (.cons (.op .add (.var 2) (.var 8)) (.cons (.op .add (.var 3) (.var 9)) (.cons (.op .add (.var 4) (.var 8)) (.cons (.op .add (.var 5) (.var 9)) (.cons (.op .add (.var 6) (.var 8)) (.cons (.op .add (.var 7) (.var 9)) .nil))))))))))
 (.br (.cmp .eq (.app 5 (.cons (.var 0) (.cons (.var 1) (.cons (.var 2) (.cons (.var 3) (.cons (.var 4) (.cons (.var 5) (.cons (.var 6) (.cons (.var 7) .nil))))))))) (.app 5 (.cons (.op .add (.var 0) (.var 8)) (.cons (.op .add (.var 1) (.var 9)) (.cons (.op .add (.var 2) (.var 8)) (.cons (.op .add (.var 3) (.var 9)) (.cons (.op .add (.var 4) (.var 8)) (.cons (.op .add (.var 5) (.var 9)) (.cons (.op .add (.var 6) (.var 8)) (.cons (.op .add (.var 7) (.var 9)) .nil))))))))))
 (.br (.cmp .eq (.app 6 (.cons (.var 0) (.cons (.var 1) (.cons (.var 2) (.cons (.var 3) (.cons (.var 4) (.cons (.var 5) (.cons (.var 6) (.cons (.var 7) .nil))))))))) (.app 6 (.cons (.op .add (.var 0) (.var 8)) (.cons (.op .add (.var 1) (.var 9)) (.cons (.op .add (.var 2) (.var 8)) (.cons (.op .add (.var 3) (.var 9)) (.cons (.op .add (.var 4) (.var 8)) (.cons (.op .add (.var 5) (.var 9)) (.cons (.op .add (.var 6) (.var 8)) (.cons (.op .add (.var 7) (.var 9)) .nil))))))))))
 (.leaf (.bool (.lit true)))
 (.leaf (.bool (.lit false))))
 (.leaf (.bool (.lit false))))
 (.leaf (.bool (.lit false))))
 (.leaf (.bool (.lit false))))
 (.leaf (.bool (.lit false)))))))))))) := by kernel_rfl
set_option maxRecDepth 100000 in
theorem edgesMoved_any (x0 x1 x2 x3 x4 x5 x6 x7 x8 x9 : Int) (b0 : (-9223372036854775808) ≤ x0 ∧ x0 ≤ 9223372036854775807) (b1 : (-9223372036854775808) ≤ x1 ∧ x1 ≤ 9223372036854775807) (b2 : (-9223372036854775808) ≤ x2 ∧ x2 ≤ 9223372036854775807) (b3 : (-9223372036854775808) ≤ x3 ∧ x3 ≤ 9223372036854775807) (b4 : (-9223372036854775808) ≤ x4 ∧ x4 ≤ 9223372036854775807) (b5 : (-9223372036854775808) ≤ x5 ∧ x5 ≤ 9223372036854775807) (b6 : (-9223372036854775808) ≤ x6 ∧ x6 ≤ 9223372036854775807) (b7 : (-9223372036854775808) ≤ x7 ∧ x7 ≤ 9223372036854775807) (b8 : (-32768) ≤ x8 ∧ x8 ≤ 32767) (b9 : (-32768) ≤ x9 ∧ x9 ≤ 32767) (w : World) : Calls Try.prog 7 #[(.agg #[.int .i64 x0, .int .i64 x1, .int .i64 x2, .int .i64 x3, .int .i64 x4, .int .i64 x5]), (.agg #[.int .i64 x6, .int .i64 x7]), (.agg #[.int .i16 x8, .int .i16 x9])] w (fun e w' => e = .returned (.bool true) ∧ Below w.heap.size w w') := by
  refine (calls_eq (tree_calls (ρ := rho [x0, x1, x2, x3, x4, x5, x6, x7, x8, x9]) edgesMoved_tree (by kernel_rfl) (within_get ⟨b0, b1, b2, b3, b4, b5, b6, b7, b8, b9, trivial⟩) gi_ok (fun fs hf => ct_lives_ok (X := ⟨G, GI, _, fs⟩) ⟨within_get ⟨b0, b1, b2, b3, b4, b5, b6, b7, b8, b9, trivial⟩, hf, gi_ok⟩) rfl ?_ w)).2
  refine ⟨fun h0 => ?_, fun h0 => ?_⟩
  · skip
    exact ⟨rfl, rfl⟩
  · skip
    refine ⟨fun h1 => ?_, fun h1 => ?_⟩
    · skip
      exact ⟨rfl, rfl⟩
    · skip
      refine ⟨fun h2 => ?_, fun h2 => ?_⟩
      · skip
        exact ⟨rfl, rfl⟩
      · skip
        refine ⟨fun h3 => ?_, fun h3 => ?_⟩
        · skip
          exact ⟨rfl, rfl⟩
        · skip
          refine ⟨fun h4 => ?_, fun h4 => ?_⟩
          · skip
            exact ⟨rfl, rfl⟩
          · skip
            refine ⟨fun h5 => ?_, fun h5 => ?_⟩
            · skip
              exact ⟨rfl, rfl⟩
            · skip
              refine ⟨fun h6 => ?_, fun h6 => ?_⟩
              · skip
                exact ⟨rfl, rfl⟩
              · skip
                refine ⟨fun h7 => ?_, fun h7 => ?_⟩
                · skip
                  exact ⟨rfl, rfl⟩
                · skip
                  refine ⟨fun h8 => ?_, fun h8 => ?_⟩
                  · skip
                    refine ⟨fun h9 => ?_, fun h9 => ?_⟩
                    · skip
                      refine ⟨fun h10 => ?_, fun h10 => ?_⟩
                      · skip
                        refine ⟨fun h11 => ?_, fun h11 => ?_⟩
                        · skip
                          refine ⟨fun h12 => ?_, fun h12 => ?_⟩
                          · skip
                            exact ⟨rfl, rfl⟩
                          · skip
                            simp only [E.den, EL.den, B.den, cop_lt, cop_le, cop_eq, cop_ne, iop_add, iop_sub, iop_mul, iop_max, iop_min, iop_quo, iop_rem, iop_fdiv, SV.den, SV.denL, SV.ubd, SV.ubdL, rho, List.getD_cons_zero, List.getD_cons_succ, decide_eq_true_eq, decide_eq_false_iff_not, Bool.not_eq_true', Bool.not_eq_false', Bool.and_eq_true, true_and, G] at *; exfalso; have k : Close x0 x1 x2 x3 x4 x5 x6 x7 x8 x9 := (by unfold Close cl sh; omega); first | exact absurd (mvA k) (by assumption) | exact absurd (mvC k) (by assumption) | exact absurd (mvW k 0) (by assumption) | exact absurd (mvW k 1) (by assumption) | exact absurd (mvW k 2) (by assumption)
                        · skip
                          simp only [E.den, EL.den, B.den, cop_lt, cop_le, cop_eq, cop_ne, iop_add, iop_sub, iop_mul, iop_max, iop_min, iop_quo, iop_rem, iop_fdiv, SV.den, SV.denL, SV.ubd, SV.ubdL, rho, List.getD_cons_zero, List.getD_cons_succ, decide_eq_true_eq, decide_eq_false_iff_not, Bool.not_eq_true', Bool.not_eq_false', Bool.and_eq_true, true_and, G] at *; exfalso; have k : Close x0 x1 x2 x3 x4 x5 x6 x7 x8 x9 := (by unfold Close cl sh; omega); first | exact absurd (mvA k) (by assumption) | exact absurd (mvC k) (by assumption) | exact absurd (mvW k 0) (by assumption) | exact absurd (mvW k 1) (by assumption) | exact absurd (mvW k 2) (by assumption)
                      · skip
                        simp only [E.den, EL.den, B.den, cop_lt, cop_le, cop_eq, cop_ne, iop_add, iop_sub, iop_mul, iop_max, iop_min, iop_quo, iop_rem, iop_fdiv, SV.den, SV.denL, SV.ubd, SV.ubdL, rho, List.getD_cons_zero, List.getD_cons_succ, decide_eq_true_eq, decide_eq_false_iff_not, Bool.not_eq_true', Bool.not_eq_false', Bool.and_eq_true, true_and, G] at *; exfalso; have k : Close x0 x1 x2 x3 x4 x5 x6 x7 x8 x9 := (by unfold Close cl sh; omega); first | exact absurd (mvA k) (by assumption) | exact absurd (mvC k) (by assumption) | exact absurd (mvW k 0) (by assumption) | exact absurd (mvW k 1) (by assumption) | exact absurd (mvW k 2) (by assumption)
                    · skip
                      simp only [E.den, EL.den, B.den, cop_lt, cop_le, cop_eq, cop_ne, iop_add, iop_sub, iop_mul, iop_max, iop_min, iop_quo, iop_rem, iop_fdiv, SV.den, SV.denL, SV.ubd, SV.ubdL, rho, List.getD_cons_zero, List.getD_cons_succ, decide_eq_true_eq, decide_eq_false_iff_not, Bool.not_eq_true', Bool.not_eq_false', Bool.and_eq_true, true_and, G] at *; exfalso; have k : Close x0 x1 x2 x3 x4 x5 x6 x7 x8 x9 := (by unfold Close cl sh; omega); first | exact absurd (mvA k) (by assumption) | exact absurd (mvC k) (by assumption) | exact absurd (mvW k 0) (by assumption) | exact absurd (mvW k 1) (by assumption) | exact absurd (mvW k 2) (by assumption)
                  · skip
                    simp only [E.den, EL.den, B.den, cop_lt, cop_le, cop_eq, cop_ne, iop_add, iop_sub, iop_mul, iop_max, iop_min, iop_quo, iop_rem, iop_fdiv, SV.den, SV.denL, SV.ubd, SV.ubdL, rho, List.getD_cons_zero, List.getD_cons_succ, decide_eq_true_eq, decide_eq_false_iff_not, Bool.not_eq_true', Bool.not_eq_false', Bool.and_eq_true, true_and, G] at *; exfalso; have k : Close x0 x1 x2 x3 x4 x5 x6 x7 x8 x9 := (by unfold Close cl sh; omega); first | exact absurd (mvA k) (by assumption) | exact absurd (mvC k) (by assumption) | exact absurd (mvW k 0) (by assumption) | exact absurd (mvW k 1) (by assumption) | exact absurd (mvW k 2) (by assumption)
end Go.Proofs.Ytoighnoliehafaa
