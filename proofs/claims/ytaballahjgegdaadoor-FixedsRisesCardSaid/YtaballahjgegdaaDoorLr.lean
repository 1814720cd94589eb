/- What is proved: the law FixedsRises, over all its ways: it is true. The conditions are the numbers' own bounds. -/
import Derived.Test.YtaballahjgegdaaDoorCa
set_option linter.unusedSimpArgs false
set_option linter.unusedVariables false
namespace Go.Proofs.YtaballahjgegdaaDoor
open Go Go.RowKit Sx Wi
set_option maxRecDepth 100000 in
theorem fixedsRises_tree : explore (fun fs => exFun Tryd.prog ⟨G, GI, [((-2147483648), 2147483647), ((-2147483648), 2147483647), ((-2147483648), 2147483647)], fs⟩ GB ct_ftrunc 4000 10 [(.agg [(.int .i32 (.var 0)), (.int .i32 (.var 1)), (.int .i32 (.var 2))])]) 60 [] =
 (.br (.cmp .lt (.op .max (.lit (-2147483648)) (.op .min (.lit 2147483647) (.op .add (.op .max (.var 0) (.var 1)) (.var 2)))) (.op .max (.lit (-2147483648)) (.op .min (.lit 2147483647) (.op .add (.op .min (.var 0) (.var 1)) (.var 2)))))
 (.leaf (.bool (.lit false)))
 (.br (.cmp .lt (.op .max (.lit (-2147483648)) (.op .min (.lit 2147483647) (.op .sub (.op .max (.var 0) (.var 1)) (.var 2)))) (.op .max (.lit (-2147483648)) (.op .min (.lit 2147483647) (.op .sub (.op .min (.var 0) (.var 1)) (.var 2)))))
 (.leaf (.bool (.lit false)))
 (.br (.cmp .lt (.app 6 (.cons (.op .max (.var 0) (.var 1)) .nil)) (.app 6 (.cons (.op .min (.var 0) (.var 1)) .nil)))
 (.leaf (.bool (.lit false)))
 (.br (.cmp .lt (.app 7 (.cons (.op .max (.var 0) (.var 1)) .nil)) (.app 7 (.cons (.op .min (.var 0) (.var 1)) .nil)))
 (.leaf (.bool (.lit false)))
 (.br (.cmp .lt (.app 8 (.cons (.op .max (.var 0) (.var 1)) .nil)) (.app 8 (.cons (.op .min (.var 0) (.var 1)) .nil)))
 (.leaf (.bool (.lit false)))
 (.br (.cmp .lt (.app 9 (.cons (.op .max (.var 0) (.var 1)) .nil)) (.app 9 (.cons (.op .min (.var 0) (.var 1)) .nil)))
 (.leaf (.bool (.lit false)))
 (.br (.cmp .lt (.var 2) (.lit 0))
 (.leaf (.bool (.lit true)))
 (.br (.cmp .eq (.var 2) (.lit 0))
 (.br (.cmp .le (.app 5 (.cons (.op .min (.var 0) (.var 1)) (.cons (.var 2) .nil))) (.app 5 (.cons (.op .max (.var 0) (.var 1)) (.cons (.var 2) .nil))))
 (.leaf (.bool (.lit true)))
 (.leaf (.bool (.lit false))))
 (.br (.cmp .le (.app 5 (.cons (.op .min (.var 0) (.var 1)) (.cons (.var 2) .nil))) (.app 5 (.cons (.op .max (.var 0) (.var 1)) (.cons (.var 2) .nil))))
 (.br (.cmp .le (.app 3 (.cons (.op .min (.var 0) (.var 1)) (.cons (.var 2) .nil))) (.app 3 (.cons (.op .max (.var 0) (.var 1)) (.cons (.var 2) .nil))))
 (.leaf (.bool (.lit true)))
 (.leaf (.bool (.lit false))))
 (.leaf (.bool (.lit false)))))))))))) := by kernel_rfl
set_option maxRecDepth 100000 in
theorem fixedsRises_any (x0 x1 x2 : Int) (b0 : (-2147483648) ≤ x0 ∧ x0 ≤ 2147483647) (b1 : (-2147483648) ≤ x1 ∧ x1 ≤ 2147483647) (b2 : (-2147483648) ≤ x2 ∧ x2 ≤ 2147483647) (w : World) (hw : WOk GB w) : Calls Tryd.prog 10 #[(.agg #[.int .i32 x0, .int .i32 x1, .int .i32 x2])] w (fun e w' => e = .returned (.bool true) ∧ Below w.heap.size w w') := by
  refine (calls_eq (tree_calls (ρ := rho [x0, x1, x2]) fixedsRises_tree (by kernel_rfl) (within_get ⟨b0, b1, b2, trivial⟩) gi_ok (fun fs hf => ct_ftrunc_ok (X := ⟨G, GI, _, fs⟩) ⟨within_get ⟨b0, b1, b2, trivial⟩, hf, gi_ok⟩ rfl) rfl gb_flat gb_apart ?_ w hw)).2
  refine ⟨fun h0 => ?_, fun h0 => ?_⟩
  · skip
    simp only [E.den, EL.den, B.den, cop_lt, cop_le, cop_eq, cop_ne, iop_add, iop_sub, iop_mul, iop_max, iop_min, iop_quo, iop_rem, iop_fdiv, SV.den, SV.denL, SV.ubd, SV.ubdL, rho, List.getD_cons_zero, List.getD_cons_succ, decide_eq_true_eq, decide_eq_false_iff_not, Bool.not_eq_true', Bool.not_eq_false', Bool.and_eq_true, true_and, G, wG, xG3, xG4, xG5, xG6, xG7, xG8, xG9] at *; exfalso; have hab : min x0 x1 ≤ max x0 x1 := (by omega); have r1 := Fx.floor_rises hab; have r2 := Fx.ceil_rises hab; have r3 := Fx.round_rises hab; have r4 := Fx.trunc_rises hab; first | omega | (have r5 := Fx.mul_rises _ _ x2 hab (by omega); first | omega | (have r6 := Fx.ratio_rises _ _ x2 hab (by omega); omega))
  · skip
    refine ⟨fun h1 => ?_, fun h1 => ?_⟩
    · skip
      simp only [E.den, EL.den, B.den, cop_lt, cop_le, cop_eq, cop_ne, iop_add, iop_sub, iop_mul, iop_max, iop_min, iop_quo, iop_rem, iop_fdiv, SV.den, SV.denL, SV.ubd, SV.ubdL, rho, List.getD_cons_zero, List.getD_cons_succ, decide_eq_true_eq, decide_eq_false_iff_not, Bool.not_eq_true', Bool.not_eq_false', Bool.and_eq_true, true_and, G, wG, xG3, xG4, xG5, xG6, xG7, xG8, xG9] at *; exfalso; have hab : min x0 x1 ≤ max x0 x1 := (by omega); have r1 := Fx.floor_rises hab; have r2 := Fx.ceil_rises hab; have r3 := Fx.round_rises hab; have r4 := Fx.trunc_rises hab; first | omega | (have r5 := Fx.mul_rises _ _ x2 hab (by omega); first | omega | (have r6 := Fx.ratio_rises _ _ x2 hab (by omega); omega))
    · skip
      refine ⟨fun h2 => ?_, fun h2 => ?_⟩
      · skip
        simp only [E.den, EL.den, B.den, cop_lt, cop_le, cop_eq, cop_ne, iop_add, iop_sub, iop_mul, iop_max, iop_min, iop_quo, iop_rem, iop_fdiv, SV.den, SV.denL, SV.ubd, SV.ubdL, rho, List.getD_cons_zero, List.getD_cons_succ, decide_eq_true_eq, decide_eq_false_iff_not, Bool.not_eq_true', Bool.not_eq_false', Bool.and_eq_true, true_and, G, wG, xG3, xG4, xG5, xG6, xG7, xG8, xG9] at *; exfalso; have hab : min x0 x1 ≤ max x0 x1 := (by omega); have r1 := Fx.floor_rises hab; have r2 := Fx.ceil_rises hab; have r3 := Fx.round_rises hab; have r4 := Fx.trunc_rises hab; first | omega | (have r5 := Fx.mul_rises _ _ x2 hab (by omega); first | omega | (have r6 := Fx.ratio_rises _ _ x2 hab (by omega); omega))
      · skip
        refine ⟨fun h3 => ?_, fun h3 => ?_⟩
        · skip
          simp only [E.den, EL.den, B.den, cop_lt, cop_le, cop_eq, cop_ne, iop_add, iop_sub, iop_mul, iop_max, iop_min, iop_quo, iop_rem, iop_fdiv, SV.den, SV.denL, SV.ubd, SV.ubdL, rho, List.getD_cons_zero, List.getD_cons_succ, decide_eq_true_eq, decide_eq_false_iff_not, Bool.not_eq_true', Bool.not_eq_false', Bool.and_eq_true, true_and, G, wG, xG3, xG4, xG5, xG6, xG7, xG8, xG9] at *; exfalso; have hab : min x0 x1 ≤ max x0 x1 := (by omega); have r1 := Fx.floor_rises hab; have r2 := Fx.ceil_rises hab; have r3 := Fx.round_rises hab; have r4 := Fx.trunc_rises hab; first | omega | (have r5 := Fx.mul_rises _ _ x2 hab (by omega); first | omega | (have r6 := Fx.ratio_rises _ _ x2 hab (by omega); omega))
        · skip
          refine ⟨fun h4 => ?_, fun h4 => ?_⟩
          · skip
            simp only [E.den, EL.den, B.den, cop_lt, cop_le, cop_eq, cop_ne, iop_add, iop_sub, iop_mul, iop_max, iop_min, iop_quo, iop_rem, iop_fdiv, SV.den, SV.denL, SV.ubd, SV.ubdL, rho, List.getD_cons_zero, List.getD_cons_succ, decide_eq_true_eq, decide_eq_false_iff_not, Bool.not_eq_true', Bool.not_eq_false', Bool.and_eq_true, true_and, G, wG, xG3, xG4, xG5, xG6, xG7, xG8, xG9] at *; exfalso; have hab : min x0 x1 ≤ max x0 x1 := (by omega); have r1 := Fx.floor_rises hab; have r2 := Fx.ceil_rises hab; have r3 := Fx.round_rises hab; have r4 := Fx.trunc_rises hab; first | omega | (have r5 := Fx.mul_rises _ _ x2 hab (by omega); first | omega | (have r6 := Fx.ratio_rises _ _ x2 hab (by omega); omega))
          · skip
            refine ⟨fun h5 => ?_, fun h5 => ?_⟩
            · skip
              simp only [E.den, EL.den, B.den, cop_lt, cop_le, cop_eq, cop_ne, iop_add, iop_sub, iop_mul, iop_max, iop_min, iop_quo, iop_rem, iop_fdiv, SV.den, SV.denL, SV.ubd, SV.ubdL, rho, List.getD_cons_zero, List.getD_cons_succ, decide_eq_true_eq, decide_eq_false_iff_not, Bool.not_eq_true', Bool.not_eq_false', Bool.and_eq_true, true_and, G, wG, xG3, xG4, xG5, xG6, xG7, xG8, xG9] at *; exfalso; have hab : min x0 x1 ≤ max x0 x1 := (by omega); have r1 := Fx.floor_rises hab; have r2 := Fx.ceil_rises hab; have r3 := Fx.round_rises hab; have r4 := Fx.trunc_rises hab; first | omega | (have r5 := Fx.mul_rises _ _ x2 hab (by omega); first | omega | (have r6 := Fx.ratio_rises _ _ x2 hab (by omega); omega))
            · skip
              refine ⟨fun h6 => ?_, fun h6 => ?_⟩
              · skip
                exact ⟨rfl, rfl⟩
              · skip
                refine ⟨fun h7 => ?_, fun h7 => ?_⟩
                · skip
                  refine ⟨fun h8 => ?_, fun h8 => ?_⟩
                  · skip
                    exact ⟨rfl, rfl⟩
                  · skip
                    simp only [E.den, EL.den, B.den, cop_lt, cop_le, cop_eq, cop_ne, iop_add, iop_sub, iop_mul, iop_max, iop_min, iop_quo, iop_rem, iop_fdiv, SV.den, SV.denL, SV.ubd, SV.ubdL, rho, List.getD_cons_zero, List.getD_cons_succ, decide_eq_true_eq, decide_eq_false_iff_not, Bool.not_eq_true', Bool.not_eq_false', Bool.and_eq_true, true_and, G, wG, xG3, xG4, xG5, xG6, xG7, xG8, xG9] at *; exfalso; have hab : min x0 x1 ≤ max x0 x1 := (by omega); have r1 := Fx.floor_rises hab; have r2 := Fx.ceil_rises hab; have r3 := Fx.round_rises hab; have r4 := Fx.trunc_rises hab; first | omega | (have r5 := Fx.mul_rises _ _ x2 hab (by omega); first | omega | (have r6 := Fx.ratio_rises _ _ x2 hab (by omega); omega))
                · skip
                  refine ⟨fun h8 => ?_, fun h8 => ?_⟩
                  · skip
                    refine ⟨fun h9 => ?_, fun h9 => ?_⟩
                    · skip
                      exact ⟨rfl, rfl⟩
                    · skip
                      simp only [E.den, EL.den, B.den, cop_lt, cop_le, cop_eq, cop_ne, iop_add, iop_sub, iop_mul, iop_max, iop_min, iop_quo, iop_rem, iop_fdiv, SV.den, SV.denL, SV.ubd, SV.ubdL, rho, List.getD_cons_zero, List.getD_cons_succ, decide_eq_true_eq, decide_eq_false_iff_not, Bool.not_eq_true', Bool.not_eq_false', Bool.and_eq_true, true_and, G, wG, xG3, xG4, xG5, xG6, xG7, xG8, xG9] at *; exfalso; have hab : min x0 x1 ≤ max x0 x1 := (by omega); have r1 := Fx.floor_rises hab; have r2 := Fx.ceil_rises hab; have r3 := Fx.round_rises hab; have r4 := Fx.trunc_rises hab; first | omega | (have r5 := Fx.mul_rises _ _ x2 hab (by omega); first | omega | (have r6 := Fx.ratio_rises _ _ x2 hab (by omega); omega))
                  · skip
                    simp only [E.den, EL.den, B.den, cop_lt, cop_le, cop_eq, cop_ne, iop_add, iop_sub, iop_mul, iop_max, iop_min, iop_quo, iop_rem, iop_fdiv, SV.den, SV.denL, SV.ubd, SV.ubdL, rho, List.getD_cons_zero, List.getD_cons_succ, decide_eq_true_eq, decide_eq_false_iff_not, Bool.not_eq_true', Bool.not_eq_false', Bool.and_eq_true, true_and, G, wG, xG3, xG4, xG5, xG6, xG7, xG8, xG9] at *; exfalso; have hab : min x0 x1 ≤ max x0 x1 := (by omega); have r1 := Fx.floor_rises hab; have r2 := Fx.ceil_rises hab; have r3 := Fx.round_rises hab; have r4 := Fx.trunc_rises hab; first | omega | (have r5 := Fx.mul_rises _ _ x2 hab (by omega); first | omega | (have r6 := Fx.ratio_rises _ _ x2 hab (by omega); omega))
end Go.Proofs.YtaballahjgegdaaDoor
