/- What is proved: the law ColoursBack, over all its ways: it is true. The conditions are the numbers' own bounds. -/
import Derived.Test.YtldoimianllcdaaCa
import Derived.Test.YtldoimianllcdaaTl
import Derived.Test.YtldoimianllcdaaLk1
set_option linter.unusedSimpArgs false
set_option linter.unusedVariables false
namespace Go.Proofs.Ytldoimianllcdaa
open Go Go.RowKit Sx Wi
set_option maxHeartbeats 8000000 in
set_option maxRecDepth 100000 in
theorem coloursBack_any (x0 x1 x2 x3 : Int) (b0 : (-2147483648) ≤ x0 ∧ x0 ≤ 2147483647) (b1 : (-2147483648) ≤ x1 ∧ x1 ≤ 2147483647) (b2 : (-2147483648) ≤ x2 ∧ x2 ≤ 2147483647) (b3 : (-2147483648) ≤ x3 ∧ x3 ≤ 2147483647) (w : World) (hw : WOk GB w) : Calls Try.prog 4 #[(.agg #[.int .i32 x0, .int .i32 x1, .int .i32 x2, .int .i32 x3])] w (fun e w' => e = .returned (.bool true) ∧ Below w.heap.size w w') := by
  refine (calls_eq (way_calls2 (ρ := rho [x0, x1, x2, x3]) (run := fun fs => exFun Try.prog (Ctx.more ⟨G, GI, [((-2147483648), 2147483647), ((-2147483648), 2147483647), ((-2147483648), 2147483647), ((-2147483648), 2147483647)], fs⟩) GB ct_to 4000 4 [(.agg [(.int .i32 (.var 0)), (.int .i32 (.var 1)), (.int .i32 (.var 2)), (.int .i32 (.var 3))])]) (fun _ => rfl) (by kernel_rfl) (within_get ⟨b0, b1, b2, b3, trivial⟩) gi_ok (fun fs hf => ct_to_ok (X := ⟨G, GI, _, fs⟩) ⟨within_get ⟨b0, b1, b2, b3, trivial⟩, hf, gi_ok⟩ rfl) rfl rfl gbApart_nil ?_ w hw)).2
  refine way_need coloursBack_n0 (fun h0 => ?_) (fun h0 => ?_)
  · skip
    refine way_need coloursBack_n1 (fun h1 => ?_) (fun h1 => ?_)
    · skip
      refine way_need coloursBack_n2 (fun h2 => ?_) (fun h2 => ?_)
      · skip
        refine way_need coloursBack_n3 (fun h3 => ?_) (fun h3 => ?_)
        · skip
          refine way_need coloursBack_n4 (fun h4 => ?_) (fun h4 => ?_)
          · skip
            refine way_need coloursBack_n5 (fun h5 => ?_) (fun h5 => ?_)
            · skip
              refine way_need coloursBack_n6 (fun h6 => ?_) (fun h6 => ?_)
              · skip
                refine way_need coloursBack_n7 (fun h7 => ?_) (fun h7 => ?_)
                · skip
                  refine way_need coloursBack_n8 (fun h8 => ?_) (fun h8 => ?_)
                  · skip
                    refine way_need coloursBack_n9 (fun h9 => ?_) (fun h9 => ?_)
                    · skip
                      refine way_need coloursBack_n10 (fun h10 => ?_) (fun h10 => ?_)
                      · skip
                        refine way_need coloursBack_n11 (fun h11 => ?_) (fun h11 => ?_)
                        · skip
                          refine way_leaf coloursBack_n12 ?_
                          exact ⟨rfl, rfl⟩
                        · skip
                          refine way_leaf coloursBack_n13 ?_
                          simp only [E.den, EL.den, B.den, cop_lt, cop_le, cop_eq, cop_ne, iop_add, iop_sub, iop_mul, iop_max, iop_min, iop_quo, iop_rem, iop_fdiv, iop_shl, SV.den, SV.denL, SV.ubd, SV.ubdL, rho, List.getD_cons_zero, List.getD_cons_succ, decide_eq_true_eq, decide_eq_false_iff_not, Bool.not_eq_true', Bool.not_eq_false', Bool.and_eq_true, true_and, G, wG, xT] at *; exfalso; simp only [t000, t001, t002, t003, t010, t011, t012, t013, t020, t021, t022, t023, t110, t111, t112, t113, t100, t101, t102, t103, t120, t121, t122, t123, t220, t221, t222, t223, t200, t201, t202, t203, t210, t211, t212, t213, hd_hd, hd_0, hd_1, not_true_eq_false] at * <;> (try simp only [lu, ls, mx3, hd] at *) <;> omega
                      · skip
                        refine way_leaf coloursBack_n14 ?_
                        simp only [E.den, EL.den, B.den, cop_lt, cop_le, cop_eq, cop_ne, iop_add, iop_sub, iop_mul, iop_max, iop_min, iop_quo, iop_rem, iop_fdiv, iop_shl, SV.den, SV.denL, SV.ubd, SV.ubdL, rho, List.getD_cons_zero, List.getD_cons_succ, decide_eq_true_eq, decide_eq_false_iff_not, Bool.not_eq_true', Bool.not_eq_false', Bool.and_eq_true, true_and, G, wG, xT] at *; exfalso; simp only [t000, t001, t002, t003, t010, t011, t012, t013, t020, t021, t022, t023, t110, t111, t112, t113, t100, t101, t102, t103, t120, t121, t122, t123, t220, t221, t222, t223, t200, t201, t202, t203, t210, t211, t212, t213, hd_hd, hd_0, hd_1, not_true_eq_false] at * <;> (try simp only [lu, ls, mx3, hd] at *) <;> omega
                    · skip
                      refine way_leaf coloursBack_n15 ?_
                      simp only [E.den, EL.den, B.den, cop_lt, cop_le, cop_eq, cop_ne, iop_add, iop_sub, iop_mul, iop_max, iop_min, iop_quo, iop_rem, iop_fdiv, iop_shl, SV.den, SV.denL, SV.ubd, SV.ubdL, rho, List.getD_cons_zero, List.getD_cons_succ, decide_eq_true_eq, decide_eq_false_iff_not, Bool.not_eq_true', Bool.not_eq_false', Bool.and_eq_true, true_and, G, wG, xT] at *; exfalso; simp only [t000, t001, t002, t003, t010, t011, t012, t013, t020, t021, t022, t023, t110, t111, t112, t113, t100, t101, t102, t103, t120, t121, t122, t123, t220, t221, t222, t223, t200, t201, t202, t203, t210, t211, t212, t213, hd_hd, hd_0, hd_1, not_true_eq_false] at * <;> (try simp only [lu, ls, mx3, hd] at *) <;> omega
                  · skip
                    refine way_leaf coloursBack_n16 ?_
                    simp only [E.den, EL.den, B.den, cop_lt, cop_le, cop_eq, cop_ne, iop_add, iop_sub, iop_mul, iop_max, iop_min, iop_quo, iop_rem, iop_fdiv, iop_shl, SV.den, SV.denL, SV.ubd, SV.ubdL, rho, List.getD_cons_zero, List.getD_cons_succ, decide_eq_true_eq, decide_eq_false_iff_not, Bool.not_eq_true', Bool.not_eq_false', Bool.and_eq_true, true_and, G, wG, xT] at *; exfalso; simp only [t000, t001, t002, t003, t010, t011, t012, t013, t020, t021, t022, t023, t110, t111, t112, t113, t100, t101, t102, t103, t120, t121, t122, t123, t220, t221, t222, t223, t200, t201, t202, t203, t210, t211, t212, t213, hd_hd, hd_0, hd_1, not_true_eq_false] at * <;> (try simp only [lu, ls, mx3, hd] at *) <;> omega
                · skip
                  refine way_leaf coloursBack_n17 ?_
                  simp only [E.den, EL.den, B.den, cop_lt, cop_le, cop_eq, cop_ne, iop_add, iop_sub, iop_mul, iop_max, iop_min, iop_quo, iop_rem, iop_fdiv, iop_shl, SV.den, SV.denL, SV.ubd, SV.ubdL, rho, List.getD_cons_zero, List.getD_cons_succ, decide_eq_true_eq, decide_eq_false_iff_not, Bool.not_eq_true', Bool.not_eq_false', Bool.and_eq_true, true_and, G, wG, xT] at *; exfalso; simp only [t000, t001, t002, t003, t010, t011, t012, t013, t020, t021, t022, t023, t110, t111, t112, t113, t100, t101, t102, t103, t120, t121, t122, t123, t220, t221, t222, t223, t200, t201, t202, t203, t210, t211, t212, t213, hd_hd, hd_0, hd_1, not_true_eq_false] at * <;> (try simp only [lu, ls, mx3, hd] at *) <;> omega
              · skip
                refine way_leaf coloursBack_n18 ?_
                simp only [E.den, EL.den, B.den, cop_lt, cop_le, cop_eq, cop_ne, iop_add, iop_sub, iop_mul, iop_max, iop_min, iop_quo, iop_rem, iop_fdiv, iop_shl, SV.den, SV.denL, SV.ubd, SV.ubdL, rho, List.getD_cons_zero, List.getD_cons_succ, decide_eq_true_eq, decide_eq_false_iff_not, Bool.not_eq_true', Bool.not_eq_false', Bool.and_eq_true, true_and, G, wG, xT] at *; exfalso; simp only [t000, t001, t002, t003, t010, t011, t012, t013, t020, t021, t022, t023, t110, t111, t112, t113, t100, t101, t102, t103, t120, t121, t122, t123, t220, t221, t222, t223, t200, t201, t202, t203, t210, t211, t212, t213, hd_hd, hd_0, hd_1, not_true_eq_false] at * <;> (try simp only [lu, ls, mx3, hd] at *) <;> omega
            · skip
              refine way_leaf coloursBack_n19 ?_
              simp only [E.den, EL.den, B.den, cop_lt, cop_le, cop_eq, cop_ne, iop_add, iop_sub, iop_mul, iop_max, iop_min, iop_quo, iop_rem, iop_fdiv, iop_shl, SV.den, SV.denL, SV.ubd, SV.ubdL, rho, List.getD_cons_zero, List.getD_cons_succ, decide_eq_true_eq, decide_eq_false_iff_not, Bool.not_eq_true', Bool.not_eq_false', Bool.and_eq_true, true_and, G, wG, xT] at *; exfalso; simp only [t000, t001, t002, t003, t010, t011, t012, t013, t020, t021, t022, t023, t110, t111, t112, t113, t100, t101, t102, t103, t120, t121, t122, t123, t220, t221, t222, t223, t200, t201, t202, t203, t210, t211, t212, t213, hd_hd, hd_0, hd_1, not_true_eq_false] at * <;> (try simp only [lu, ls, mx3, hd] at *) <;> omega
          · skip
            refine way_leaf coloursBack_n20 ?_
            simp only [E.den, EL.den, B.den, cop_lt, cop_le, cop_eq, cop_ne, iop_add, iop_sub, iop_mul, iop_max, iop_min, iop_quo, iop_rem, iop_fdiv, iop_shl, SV.den, SV.denL, SV.ubd, SV.ubdL, rho, List.getD_cons_zero, List.getD_cons_succ, decide_eq_true_eq, decide_eq_false_iff_not, Bool.not_eq_true', Bool.not_eq_false', Bool.and_eq_true, true_and, G, wG, xT] at *; exfalso; simp only [t000, t001, t002, t003, t010, t011, t012, t013, t020, t021, t022, t023, t110, t111, t112, t113, t100, t101, t102, t103, t120, t121, t122, t123, t220, t221, t222, t223, t200, t201, t202, t203, t210, t211, t212, t213, hd_hd, hd_0, hd_1, not_true_eq_false] at * <;> (try simp only [lu, ls, mx3, hd] at *) <;> omega
        · skip
          refine way_leaf coloursBack_n21 ?_
          simp only [E.den, EL.den, B.den, cop_lt, cop_le, cop_eq, cop_ne, iop_add, iop_sub, iop_mul, iop_max, iop_min, iop_quo, iop_rem, iop_fdiv, iop_shl, SV.den, SV.denL, SV.ubd, SV.ubdL, rho, List.getD_cons_zero, List.getD_cons_succ, decide_eq_true_eq, decide_eq_false_iff_not, Bool.not_eq_true', Bool.not_eq_false', Bool.and_eq_true, true_and, G, wG, xT] at *; exfalso; simp only [t000, t001, t002, t003, t010, t011, t012, t013, t020, t021, t022, t023, t110, t111, t112, t113, t100, t101, t102, t103, t120, t121, t122, t123, t220, t221, t222, t223, t200, t201, t202, t203, t210, t211, t212, t213, hd_hd, hd_0, hd_1, not_true_eq_false] at * <;> (try simp only [lu, ls, mx3, hd] at *) <;> omega
      · skip
        refine way_leaf coloursBack_n22 ?_
        simp only [E.den, EL.den, B.den, cop_lt, cop_le, cop_eq, cop_ne, iop_add, iop_sub, iop_mul, iop_max, iop_min, iop_quo, iop_rem, iop_fdiv, iop_shl, SV.den, SV.denL, SV.ubd, SV.ubdL, rho, List.getD_cons_zero, List.getD_cons_succ, decide_eq_true_eq, decide_eq_false_iff_not, Bool.not_eq_true', Bool.not_eq_false', Bool.and_eq_true, true_and, G, wG, xT] at *; exfalso; simp only [t000, t001, t002, t003, t010, t011, t012, t013, t020, t021, t022, t023, t110, t111, t112, t113, t100, t101, t102, t103, t120, t121, t122, t123, t220, t221, t222, t223, t200, t201, t202, t203, t210, t211, t212, t213, hd_hd, hd_0, hd_1, not_true_eq_false] at * <;> (try simp only [lu, ls, mx3, hd] at *) <;> omega
    · skip
      refine way_leaf coloursBack_n23 ?_
      simp only [E.den, EL.den, B.den, cop_lt, cop_le, cop_eq, cop_ne, iop_add, iop_sub, iop_mul, iop_max, iop_min, iop_quo, iop_rem, iop_fdiv, iop_shl, SV.den, SV.denL, SV.ubd, SV.ubdL, rho, List.getD_cons_zero, List.getD_cons_succ, decide_eq_true_eq, decide_eq_false_iff_not, Bool.not_eq_true', Bool.not_eq_false', Bool.and_eq_true, true_and, G, wG, xT] at *; exfalso; simp only [t000, t001, t002, t003, t010, t011, t012, t013, t020, t021, t022, t023, t110, t111, t112, t113, t100, t101, t102, t103, t120, t121, t122, t123, t220, t221, t222, t223, t200, t201, t202, t203, t210, t211, t212, t213, hd_hd, hd_0, hd_1, not_true_eq_false] at * <;> (try simp only [lu, ls, mx3, hd] at *) <;> omega
  · skip
    refine way_leaf coloursBack_n24 ?_
    simp only [E.den, EL.den, B.den, cop_lt, cop_le, cop_eq, cop_ne, iop_add, iop_sub, iop_mul, iop_max, iop_min, iop_quo, iop_rem, iop_fdiv, iop_shl, SV.den, SV.denL, SV.ubd, SV.ubdL, rho, List.getD_cons_zero, List.getD_cons_succ, decide_eq_true_eq, decide_eq_false_iff_not, Bool.not_eq_true', Bool.not_eq_false', Bool.and_eq_true, true_and, G, wG, xT] at *; exfalso; simp only [t000, t001, t002, t003, t010, t011, t012, t013, t020, t021, t022, t023, t110, t111, t112, t113, t100, t101, t102, t103, t120, t121, t122, t123, t220, t221, t222, t223, t200, t201, t202, t203, t210, t211, t212, t213, hd_hd, hd_0, hd_1, not_true_eq_false] at * <;> (try simp only [lu, ls, mx3, hd] at *) <;> omega
end Go.Proofs.Ytldoimianllcdaa
