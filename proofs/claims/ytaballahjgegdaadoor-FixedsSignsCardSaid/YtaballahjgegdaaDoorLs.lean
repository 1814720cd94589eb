/- What is proved: the law FixedsSigns, over all its ways: it is true. The conditions are the numbers' own bounds. -/
import Derived.Test.YtaballahjgegdaaDoorCa
import Derived.Test.YtaballahjgegdaaDoorLs1
import Derived.Test.YtaballahjgegdaaDoorLs2
import Derived.Test.YtaballahjgegdaaDoorLs3
import Derived.Test.YtaballahjgegdaaDoorLs4
import Derived.Test.YtaballahjgegdaaDoorLs5
import Derived.Test.YtaballahjgegdaaDoorLs6
import Derived.Test.YtaballahjgegdaaDoorLs7
import Derived.Test.YtaballahjgegdaaDoorLs8
set_option linter.unusedSimpArgs false
set_option linter.unusedVariables false
namespace Go.Proofs.YtaballahjgegdaaDoor
open Go Go.RowKit Sx Wi
set_option maxRecDepth 100000 in
theorem fixedsSigns_any (x0 x1 x2 : Int) (b0 : (-2147483648) ≤ x0 ∧ x0 ≤ 2147483647) (b1 : (-2147483648) ≤ x1 ∧ x1 ≤ 2147483647) (b2 : 0 ≤ x2 ∧ x2 ≤ 65535) (w : World) (hw : WOk GB w) : Calls Tryd.prog 6 #[.int .i32 x0, .int .i32 x1, .int .u16 x2] w (fun e w' => e = .returned (.bool true) ∧ Below w.heap.size w w') := by
  refine (calls_eq (way_calls (ρ := rho [x0, x1, x2]) (run := fun fs => exFun Tryd.prog ⟨G, GI, [((-2147483648), 2147483647), ((-2147483648), 2147483647), (0, 65535)], fs⟩ GB ct_ftrunc 4000 6 [(.int .i32 (.var 0)), (.int .i32 (.var 1)), (.int .u16 (.var 2))]) (fun _ => rfl) (by kernel_rfl) (within_get ⟨b0, b1, b2, trivial⟩) gi_ok (fun fs hf => ct_ftrunc_ok (X := ⟨G, GI, _, fs⟩) ⟨within_get ⟨b0, b1, b2, trivial⟩, hf, gi_ok⟩ rfl) rfl gb_flat gb_apart ?_ w hw)).2
  refine way_need fixedsSigns_n0 (fun h0 => ?_) (fun h0 => ?_)
  · skip
    refine way_leaf fixedsSigns_n1 ?_
    simp only [E.den, EL.den, B.den, cop_lt, cop_le, cop_eq, cop_ne, iop_add, iop_sub, iop_mul, iop_max, iop_min, iop_quo, iop_rem, iop_fdiv, SV.den, SV.denL, SV.ubd, SV.ubdL, rho, List.getD_cons_zero, List.getD_cons_succ, decide_eq_true_eq, decide_eq_false_iff_not, Bool.not_eq_true', Bool.not_eq_false', Bool.and_eq_true, true_and, G, wG, xG3, xG4, xG5, xG6, xG7, xG8, xG9] at *; exfalso; have e1 := Fx.mul_comm x0 x1; have e2 := Fx.mul_one x0 b0; have e3 := Fx.mul_zero x0; (try simp only [and_low] at *); by_cases hb : x1 = 0; (subst hb; (try simp only [Int.mul_zero, Int.sub_self, not_true_eq_false] at *) <;> first | omega | (have e4 := Fx.mul_neg x0 0 (by omega); rw [← Int.zero_sub] at e4; omega)); (have e7 : (x2 + 1) * x1 ≠ 0 := (by intro q; rcases Int.mul_eq_zero.1 q with q | q <;> omega); have e5 := Fx.ratio_neg x0 x1 hb; rw [← Int.zero_sub, ← Int.zero_sub] at e5; have e6 := Fx.ratio_mul x0 x1 (x2 + 1) hb (by omega); first | omega | (have e4 := Fx.mul_neg x0 x1 (by omega); rw [← Int.zero_sub] at e4; omega))
  · skip
    refine way_need fixedsSigns_n2 (fun h1 => ?_) (fun h1 => ?_)
    · skip
      refine way_leaf fixedsSigns_n3 ?_
      simp only [E.den, EL.den, B.den, cop_lt, cop_le, cop_eq, cop_ne, iop_add, iop_sub, iop_mul, iop_max, iop_min, iop_quo, iop_rem, iop_fdiv, SV.den, SV.denL, SV.ubd, SV.ubdL, rho, List.getD_cons_zero, List.getD_cons_succ, decide_eq_true_eq, decide_eq_false_iff_not, Bool.not_eq_true', Bool.not_eq_false', Bool.and_eq_true, true_and, G, wG, xG3, xG4, xG5, xG6, xG7, xG8, xG9] at *; exfalso; have e1 := Fx.mul_comm x0 x1; have e2 := Fx.mul_one x0 b0; have e3 := Fx.mul_zero x0; (try simp only [and_low] at *); by_cases hb : x1 = 0; (subst hb; (try simp only [Int.mul_zero, Int.sub_self, not_true_eq_false] at *) <;> first | omega | (have e4 := Fx.mul_neg x0 0 (by omega); rw [← Int.zero_sub] at e4; omega)); (have e7 : (x2 + 1) * x1 ≠ 0 := (by intro q; rcases Int.mul_eq_zero.1 q with q | q <;> omega); have e5 := Fx.ratio_neg x0 x1 hb; rw [← Int.zero_sub, ← Int.zero_sub] at e5; have e6 := Fx.ratio_mul x0 x1 (x2 + 1) hb (by omega); first | omega | (have e4 := Fx.mul_neg x0 x1 (by omega); rw [← Int.zero_sub] at e4; omega))
    · skip
      refine way_need fixedsSigns_n4 (fun h2 => ?_) (fun h2 => ?_)
      · skip
        refine way_leaf fixedsSigns_n5 ?_
        simp only [E.den, EL.den, B.den, cop_lt, cop_le, cop_eq, cop_ne, iop_add, iop_sub, iop_mul, iop_max, iop_min, iop_quo, iop_rem, iop_fdiv, SV.den, SV.denL, SV.ubd, SV.ubdL, rho, List.getD_cons_zero, List.getD_cons_succ, decide_eq_true_eq, decide_eq_false_iff_not, Bool.not_eq_true', Bool.not_eq_false', Bool.and_eq_true, true_and, G, wG, xG3, xG4, xG5, xG6, xG7, xG8, xG9] at *; exfalso; have e1 := Fx.mul_comm x0 x1; have e2 := Fx.mul_one x0 b0; have e3 := Fx.mul_zero x0; (try simp only [and_low] at *); by_cases hb : x1 = 0; (subst hb; (try simp only [Int.mul_zero, Int.sub_self, not_true_eq_false] at *) <;> first | omega | (have e4 := Fx.mul_neg x0 0 (by omega); rw [← Int.zero_sub] at e4; omega)); (have e7 : (x2 + 1) * x1 ≠ 0 := (by intro q; rcases Int.mul_eq_zero.1 q with q | q <;> omega); have e5 := Fx.ratio_neg x0 x1 hb; rw [← Int.zero_sub, ← Int.zero_sub] at e5; have e6 := Fx.ratio_mul x0 x1 (x2 + 1) hb (by omega); first | omega | (have e4 := Fx.mul_neg x0 x1 (by omega); rw [← Int.zero_sub] at e4; omega))
      · skip
        refine way_need fixedsSigns_n6 (fun h3 => ?_) (fun h3 => ?_)
        · skip
          refine way_need fixedsSigns_n7 (fun h4 => ?_) (fun h4 => ?_)
          · skip
            refine way_leaf fixedsSigns_n8 ?_
            exact ⟨rfl, rfl⟩
          · skip
            refine way_need fixedsSigns_n9 (fun h5 => ?_) (fun h5 => ?_)
            · skip
              refine way_leaf fixedsSigns_n10 ?_
              exact ⟨rfl, rfl⟩
            · skip
              refine way_need fixedsSigns_n11 (fun h6 => ?_) (fun h6 => ?_)
              · skip
                refine way_leaf fixedsSigns_n12 ?_
                exact ⟨rfl, rfl⟩
              · skip
                refine way_need fixedsSigns_n13 (fun h7 => ?_) (fun h7 => ?_)
                · skip
                  refine way_need fixedsSigns_n14 (fun h8 => ?_) (fun h8 => ?_)
                  · skip
                    refine way_leaf fixedsSigns_n15 ?_
                    exact ⟨rfl, rfl⟩
                  · skip
                    refine way_need fixedsSigns_n16 (fun h9 => ?_) (fun h9 => ?_)
                    · skip
                      refine way_leaf fixedsSigns_n17 ?_
                      exact ⟨rfl, rfl⟩
                    · skip
                      refine way_need fixedsSigns_n18 (fun h10 => ?_) (fun h10 => ?_)
                      · skip
                        refine way_need fixedsSigns_n19 (fun h11 => ?_) (fun h11 => ?_)
                        · skip
                          refine way_leaf fixedsSigns_n20 ?_
                          exact ⟨rfl, rfl⟩
                        · skip
                          refine way_leaf fixedsSigns_n21 ?_
                          simp only [E.den, EL.den, B.den, cop_lt, cop_le, cop_eq, cop_ne, iop_add, iop_sub, iop_mul, iop_max, iop_min, iop_quo, iop_rem, iop_fdiv, SV.den, SV.denL, SV.ubd, SV.ubdL, rho, List.getD_cons_zero, List.getD_cons_succ, decide_eq_true_eq, decide_eq_false_iff_not, Bool.not_eq_true', Bool.not_eq_false', Bool.and_eq_true, true_and, G, wG, xG3, xG4, xG5, xG6, xG7, xG8, xG9] at *; exfalso; have e1 := Fx.mul_comm x0 x1; have e2 := Fx.mul_one x0 b0; have e3 := Fx.mul_zero x0; (try simp only [and_low] at *); by_cases hb : x1 = 0; (subst hb; (try simp only [Int.mul_zero, Int.sub_self, not_true_eq_false] at *) <;> first | omega | (have e4 := Fx.mul_neg x0 0 (by omega); rw [← Int.zero_sub] at e4; omega)); (have e7 : (x2 + 1) * x1 ≠ 0 := (by intro q; rcases Int.mul_eq_zero.1 q with q | q <;> omega); have e5 := Fx.ratio_neg x0 x1 hb; rw [← Int.zero_sub, ← Int.zero_sub] at e5; have e6 := Fx.ratio_mul x0 x1 (x2 + 1) hb (by omega); first | omega | (have e4 := Fx.mul_neg x0 x1 (by omega); rw [← Int.zero_sub] at e4; omega))
                      · skip
                        refine way_leaf fixedsSigns_n22 ?_
                        simp only [E.den, EL.den, B.den, cop_lt, cop_le, cop_eq, cop_ne, iop_add, iop_sub, iop_mul, iop_max, iop_min, iop_quo, iop_rem, iop_fdiv, SV.den, SV.denL, SV.ubd, SV.ubdL, rho, List.getD_cons_zero, List.getD_cons_succ, decide_eq_true_eq, decide_eq_false_iff_not, Bool.not_eq_true', Bool.not_eq_false', Bool.and_eq_true, true_and, G, wG, xG3, xG4, xG5, xG6, xG7, xG8, xG9] at *; exfalso; have e1 := Fx.mul_comm x0 x1; have e2 := Fx.mul_one x0 b0; have e3 := Fx.mul_zero x0; (try simp only [and_low] at *); by_cases hb : x1 = 0; (subst hb; (try simp only [Int.mul_zero, Int.sub_self, not_true_eq_false] at *) <;> first | omega | (have e4 := Fx.mul_neg x0 0 (by omega); rw [← Int.zero_sub] at e4; omega)); (have e7 : (x2 + 1) * x1 ≠ 0 := (by intro q; rcases Int.mul_eq_zero.1 q with q | q <;> omega); have e5 := Fx.ratio_neg x0 x1 hb; rw [← Int.zero_sub, ← Int.zero_sub] at e5; have e6 := Fx.ratio_mul x0 x1 (x2 + 1) hb (by omega); first | omega | (have e4 := Fx.mul_neg x0 x1 (by omega); rw [← Int.zero_sub] at e4; omega))
                · skip
                  refine way_need fixedsSigns_n23 (fun h8 => ?_) (fun h8 => ?_)
                  · skip
                    refine way_need fixedsSigns_n24 (fun h9 => ?_) (fun h9 => ?_)
                    · skip
                      refine way_leaf fixedsSigns_n25 ?_
                      exact ⟨rfl, rfl⟩
                    · skip
                      refine way_need fixedsSigns_n26 (fun h10 => ?_) (fun h10 => ?_)
                      · skip
                        refine way_need fixedsSigns_n27 (fun h11 => ?_) (fun h11 => ?_)
                        · skip
                          refine way_leaf fixedsSigns_n28 ?_
                          exact ⟨rfl, rfl⟩
                        · skip
                          refine way_leaf fixedsSigns_n29 ?_
                          simp only [E.den, EL.den, B.den, cop_lt, cop_le, cop_eq, cop_ne, iop_add, iop_sub, iop_mul, iop_max, iop_min, iop_quo, iop_rem, iop_fdiv, SV.den, SV.denL, SV.ubd, SV.ubdL, rho, List.getD_cons_zero, List.getD_cons_succ, decide_eq_true_eq, decide_eq_false_iff_not, Bool.not_eq_true', Bool.not_eq_false', Bool.and_eq_true, true_and, G, wG, xG3, xG4, xG5, xG6, xG7, xG8, xG9] at *; exfalso; have e1 := Fx.mul_comm x0 x1; have e2 := Fx.mul_one x0 b0; have e3 := Fx.mul_zero x0; (try simp only [and_low] at *); by_cases hb : x1 = 0; (subst hb; (try simp only [Int.mul_zero, Int.sub_self, not_true_eq_false] at *) <;> first | omega | (have e4 := Fx.mul_neg x0 0 (by omega); rw [← Int.zero_sub] at e4; omega)); (have e7 : (x2 + 1) * x1 ≠ 0 := (by intro q; rcases Int.mul_eq_zero.1 q with q | q <;> omega); have e5 := Fx.ratio_neg x0 x1 hb; rw [← Int.zero_sub, ← Int.zero_sub] at e5; have e6 := Fx.ratio_mul x0 x1 (x2 + 1) hb (by omega); first | omega | (have e4 := Fx.mul_neg x0 x1 (by omega); rw [← Int.zero_sub] at e4; omega))
                      · skip
                        refine way_leaf fixedsSigns_n30 ?_
                        simp only [E.den, EL.den, B.den, cop_lt, cop_le, cop_eq, cop_ne, iop_add, iop_sub, iop_mul, iop_max, iop_min, iop_quo, iop_rem, iop_fdiv, SV.den, SV.denL, SV.ubd, SV.ubdL, rho, List.getD_cons_zero, List.getD_cons_succ, decide_eq_true_eq, decide_eq_false_iff_not, Bool.not_eq_true', Bool.not_eq_false', Bool.and_eq_true, true_and, G, wG, xG3, xG4, xG5, xG6, xG7, xG8, xG9] at *; exfalso; have e1 := Fx.mul_comm x0 x1; have e2 := Fx.mul_one x0 b0; have e3 := Fx.mul_zero x0; (try simp only [and_low] at *); by_cases hb : x1 = 0; (subst hb; (try simp only [Int.mul_zero, Int.sub_self, not_true_eq_false] at *) <;> first | omega | (have e4 := Fx.mul_neg x0 0 (by omega); rw [← Int.zero_sub] at e4; omega)); (have e7 : (x2 + 1) * x1 ≠ 0 := (by intro q; rcases Int.mul_eq_zero.1 q with q | q <;> omega); have e5 := Fx.ratio_neg x0 x1 hb; rw [← Int.zero_sub, ← Int.zero_sub] at e5; have e6 := Fx.ratio_mul x0 x1 (x2 + 1) hb (by omega); first | omega | (have e4 := Fx.mul_neg x0 x1 (by omega); rw [← Int.zero_sub] at e4; omega))
                  · skip
                    refine way_need fixedsSigns_n31 (fun h9 => ?_) (fun h9 => ?_)
                    · skip
                      refine way_need fixedsSigns_n32 (fun h10 => ?_) (fun h10 => ?_)
                      · skip
                        refine way_need fixedsSigns_n33 (fun h11 => ?_) (fun h11 => ?_)
                        · skip
                          refine way_leaf fixedsSigns_n34 ?_
                          exact ⟨rfl, rfl⟩
                        · skip
                          refine way_leaf fixedsSigns_n35 ?_
                          exact ⟨rfl, rfl⟩
                      · skip
                        refine way_leaf fixedsSigns_n36 ?_
                        simp only [E.den, EL.den, B.den, cop_lt, cop_le, cop_eq, cop_ne, iop_add, iop_sub, iop_mul, iop_max, iop_min, iop_quo, iop_rem, iop_fdiv, SV.den, SV.denL, SV.ubd, SV.ubdL, rho, List.getD_cons_zero, List.getD_cons_succ, decide_eq_true_eq, decide_eq_false_iff_not, Bool.not_eq_true', Bool.not_eq_false', Bool.and_eq_true, true_and, G, wG, xG3, xG4, xG5, xG6, xG7, xG8, xG9] at *; exfalso; have e1 := Fx.mul_comm x0 x1; have e2 := Fx.mul_one x0 b0; have e3 := Fx.mul_zero x0; (try simp only [and_low] at *); by_cases hb : x1 = 0; (subst hb; (try simp only [Int.mul_zero, Int.sub_self, not_true_eq_false] at *) <;> first | omega | (have e4 := Fx.mul_neg x0 0 (by omega); rw [← Int.zero_sub] at e4; omega)); (have e7 : (x2 + 1) * x1 ≠ 0 := (by intro q; rcases Int.mul_eq_zero.1 q with q | q <;> omega); have e5 := Fx.ratio_neg x0 x1 hb; rw [← Int.zero_sub, ← Int.zero_sub] at e5; have e6 := Fx.ratio_mul x0 x1 (x2 + 1) hb (by omega); first | omega | (have e4 := Fx.mul_neg x0 x1 (by omega); rw [← Int.zero_sub] at e4; omega))
                    · skip
                      refine way_leaf fixedsSigns_n37 ?_
                      simp only [E.den, EL.den, B.den, cop_lt, cop_le, cop_eq, cop_ne, iop_add, iop_sub, iop_mul, iop_max, iop_min, iop_quo, iop_rem, iop_fdiv, SV.den, SV.denL, SV.ubd, SV.ubdL, rho, List.getD_cons_zero, List.getD_cons_succ, decide_eq_true_eq, decide_eq_false_iff_not, Bool.not_eq_true', Bool.not_eq_false', Bool.and_eq_true, true_and, G, wG, xG3, xG4, xG5, xG6, xG7, xG8, xG9] at *; exfalso; have e1 := Fx.mul_comm x0 x1; have e2 := Fx.mul_one x0 b0; have e3 := Fx.mul_zero x0; (try simp only [and_low] at *); by_cases hb : x1 = 0; (subst hb; (try simp only [Int.mul_zero, Int.sub_self, not_true_eq_false] at *) <;> first | omega | (have e4 := Fx.mul_neg x0 0 (by omega); rw [← Int.zero_sub] at e4; omega)); (have e7 : (x2 + 1) * x1 ≠ 0 := (by intro q; rcases Int.mul_eq_zero.1 q with q | q <;> omega); have e5 := Fx.ratio_neg x0 x1 hb; rw [← Int.zero_sub, ← Int.zero_sub] at e5; have e6 := Fx.ratio_mul x0 x1 (x2 + 1) hb (by omega); first | omega | (have e4 := Fx.mul_neg x0 x1 (by omega); rw [← Int.zero_sub] at e4; omega))
        · skip
          refine way_need fixedsSigns_n38 (fun h4 => ?_) (fun h4 => ?_)
          · skip
            refine way_need fixedsSigns_n39 (fun h5 => ?_) (fun h5 => ?_)
            · skip
              refine way_need fixedsSigns_n40 (fun h6 => ?_) (fun h6 => ?_)
              · skip
                refine way_leaf fixedsSigns_n41 ?_
                simp only [E.den, EL.den, B.den, cop_lt, cop_le, cop_eq, cop_ne, iop_add, iop_sub, iop_mul, iop_max, iop_min, iop_quo, iop_rem, iop_fdiv, SV.den, SV.denL, SV.ubd, SV.ubdL, rho, List.getD_cons_zero, List.getD_cons_succ, decide_eq_true_eq, decide_eq_false_iff_not, Bool.not_eq_true', Bool.not_eq_false', Bool.and_eq_true, true_and, G, wG, xG3, xG4, xG5, xG6, xG7, xG8, xG9] at *; exfalso; have e1 := Fx.mul_comm x0 x1; have e2 := Fx.mul_one x0 b0; have e3 := Fx.mul_zero x0; (try simp only [and_low] at *); by_cases hb : x1 = 0; (subst hb; (try simp only [Int.mul_zero, Int.sub_self, not_true_eq_false] at *) <;> first | omega | (have e4 := Fx.mul_neg x0 0 (by omega); rw [← Int.zero_sub] at e4; omega)); (have e7 : (x2 + 1) * x1 ≠ 0 := (by intro q; rcases Int.mul_eq_zero.1 q with q | q <;> omega); have e5 := Fx.ratio_neg x0 x1 hb; rw [← Int.zero_sub, ← Int.zero_sub] at e5; have e6 := Fx.ratio_mul x0 x1 (x2 + 1) hb (by omega); first | omega | (have e4 := Fx.mul_neg x0 x1 (by omega); rw [← Int.zero_sub] at e4; omega))
              · skip
                refine way_leaf fixedsSigns_n42 ?_
                simp only [E.den, EL.den, B.den, cop_lt, cop_le, cop_eq, cop_ne, iop_add, iop_sub, iop_mul, iop_max, iop_min, iop_quo, iop_rem, iop_fdiv, SV.den, SV.denL, SV.ubd, SV.ubdL, rho, List.getD_cons_zero, List.getD_cons_succ, decide_eq_true_eq, decide_eq_false_iff_not, Bool.not_eq_true', Bool.not_eq_false', Bool.and_eq_true, true_and, G, wG, xG3, xG4, xG5, xG6, xG7, xG8, xG9] at *; exfalso; have e1 := Fx.mul_comm x0 x1; have e2 := Fx.mul_one x0 b0; have e3 := Fx.mul_zero x0; (try simp only [and_low] at *); by_cases hb : x1 = 0; (subst hb; (try simp only [Int.mul_zero, Int.sub_self, not_true_eq_false] at *) <;> first | omega | (have e4 := Fx.mul_neg x0 0 (by omega); rw [← Int.zero_sub] at e4; omega)); (have e7 : (x2 + 1) * x1 ≠ 0 := (by intro q; rcases Int.mul_eq_zero.1 q with q | q <;> omega); have e5 := Fx.ratio_neg x0 x1 hb; rw [← Int.zero_sub, ← Int.zero_sub] at e5; have e6 := Fx.ratio_mul x0 x1 (x2 + 1) hb (by omega); first | omega | (have e4 := Fx.mul_neg x0 x1 (by omega); rw [← Int.zero_sub] at e4; omega))
            · skip
              refine way_need fixedsSigns_n43 (fun h6 => ?_) (fun h6 => ?_)
              · skip
                refine way_leaf fixedsSigns_n44 ?_
                simp only [E.den, EL.den, B.den, cop_lt, cop_le, cop_eq, cop_ne, iop_add, iop_sub, iop_mul, iop_max, iop_min, iop_quo, iop_rem, iop_fdiv, SV.den, SV.denL, SV.ubd, SV.ubdL, rho, List.getD_cons_zero, List.getD_cons_succ, decide_eq_true_eq, decide_eq_false_iff_not, Bool.not_eq_true', Bool.not_eq_false', Bool.and_eq_true, true_and, G, wG, xG3, xG4, xG5, xG6, xG7, xG8, xG9] at *; exfalso; have e1 := Fx.mul_comm x0 x1; have e2 := Fx.mul_one x0 b0; have e3 := Fx.mul_zero x0; (try simp only [and_low] at *); by_cases hb : x1 = 0; (subst hb; (try simp only [Int.mul_zero, Int.sub_self, not_true_eq_false] at *) <;> first | omega | (have e4 := Fx.mul_neg x0 0 (by omega); rw [← Int.zero_sub] at e4; omega)); (have e7 : (x2 + 1) * x1 ≠ 0 := (by intro q; rcases Int.mul_eq_zero.1 q with q | q <;> omega); have e5 := Fx.ratio_neg x0 x1 hb; rw [← Int.zero_sub, ← Int.zero_sub] at e5; have e6 := Fx.ratio_mul x0 x1 (x2 + 1) hb (by omega); first | omega | (have e4 := Fx.mul_neg x0 x1 (by omega); rw [← Int.zero_sub] at e4; omega))
              · skip
                refine way_need fixedsSigns_n45 (fun h7 => ?_) (fun h7 => ?_)
                · skip
                  refine way_leaf fixedsSigns_n46 ?_
                  simp only [E.den, EL.den, B.den, cop_lt, cop_le, cop_eq, cop_ne, iop_add, iop_sub, iop_mul, iop_max, iop_min, iop_quo, iop_rem, iop_fdiv, SV.den, SV.denL, SV.ubd, SV.ubdL, rho, List.getD_cons_zero, List.getD_cons_succ, decide_eq_true_eq, decide_eq_false_iff_not, Bool.not_eq_true', Bool.not_eq_false', Bool.and_eq_true, true_and, G, wG, xG3, xG4, xG5, xG6, xG7, xG8, xG9] at *; exfalso; have e1 := Fx.mul_comm x0 x1; have e2 := Fx.mul_one x0 b0; have e3 := Fx.mul_zero x0; (try simp only [and_low] at *); by_cases hb : x1 = 0; (subst hb; (try simp only [Int.mul_zero, Int.sub_self, not_true_eq_false] at *) <;> first | omega | (have e4 := Fx.mul_neg x0 0 (by omega); rw [← Int.zero_sub] at e4; omega)); (have e7 : (x2 + 1) * x1 ≠ 0 := (by intro q; rcases Int.mul_eq_zero.1 q with q | q <;> omega); have e5 := Fx.ratio_neg x0 x1 hb; rw [← Int.zero_sub, ← Int.zero_sub] at e5; have e6 := Fx.ratio_mul x0 x1 (x2 + 1) hb (by omega); first | omega | (have e4 := Fx.mul_neg x0 x1 (by omega); rw [← Int.zero_sub] at e4; omega))
                · skip
                  refine way_leaf fixedsSigns_n47 ?_
                  simp only [E.den, EL.den, B.den, cop_lt, cop_le, cop_eq, cop_ne, iop_add, iop_sub, iop_mul, iop_max, iop_min, iop_quo, iop_rem, iop_fdiv, SV.den, SV.denL, SV.ubd, SV.ubdL, rho, List.getD_cons_zero, List.getD_cons_succ, decide_eq_true_eq, decide_eq_false_iff_not, Bool.not_eq_true', Bool.not_eq_false', Bool.and_eq_true, true_and, G, wG, xG3, xG4, xG5, xG6, xG7, xG8, xG9] at *; exfalso; have e1 := Fx.mul_comm x0 x1; have e2 := Fx.mul_one x0 b0; have e3 := Fx.mul_zero x0; (try simp only [and_low] at *); by_cases hb : x1 = 0; (subst hb; (try simp only [Int.mul_zero, Int.sub_self, not_true_eq_false] at *) <;> first | omega | (have e4 := Fx.mul_neg x0 0 (by omega); rw [← Int.zero_sub] at e4; omega)); (have e7 : (x2 + 1) * x1 ≠ 0 := (by intro q; rcases Int.mul_eq_zero.1 q with q | q <;> omega); have e5 := Fx.ratio_neg x0 x1 hb; rw [← Int.zero_sub, ← Int.zero_sub] at e5; have e6 := Fx.ratio_mul x0 x1 (x2 + 1) hb (by omega); first | omega | (have e4 := Fx.mul_neg x0 x1 (by omega); rw [← Int.zero_sub] at e4; omega))
          · skip
            refine way_need fixedsSigns_n48 (fun h5 => ?_) (fun h5 => ?_)
            · skip
              refine way_need fixedsSigns_n49 (fun h6 => ?_) (fun h6 => ?_)
              · skip
                refine way_leaf fixedsSigns_n50 ?_
                simp only [E.den, EL.den, B.den, cop_lt, cop_le, cop_eq, cop_ne, iop_add, iop_sub, iop_mul, iop_max, iop_min, iop_quo, iop_rem, iop_fdiv, SV.den, SV.denL, SV.ubd, SV.ubdL, rho, List.getD_cons_zero, List.getD_cons_succ, decide_eq_true_eq, decide_eq_false_iff_not, Bool.not_eq_true', Bool.not_eq_false', Bool.and_eq_true, true_and, G, wG, xG3, xG4, xG5, xG6, xG7, xG8, xG9] at *; exfalso; have e1 := Fx.mul_comm x0 x1; have e2 := Fx.mul_one x0 b0; have e3 := Fx.mul_zero x0; (try simp only [and_low] at *); by_cases hb : x1 = 0; (subst hb; (try simp only [Int.mul_zero, Int.sub_self, not_true_eq_false] at *) <;> first | omega | (have e4 := Fx.mul_neg x0 0 (by omega); rw [← Int.zero_sub] at e4; omega)); (have e7 : (x2 + 1) * x1 ≠ 0 := (by intro q; rcases Int.mul_eq_zero.1 q with q | q <;> omega); have e5 := Fx.ratio_neg x0 x1 hb; rw [← Int.zero_sub, ← Int.zero_sub] at e5; have e6 := Fx.ratio_mul x0 x1 (x2 + 1) hb (by omega); first | omega | (have e4 := Fx.mul_neg x0 x1 (by omega); rw [← Int.zero_sub] at e4; omega))
              · skip
                refine way_need fixedsSigns_n51 (fun h7 => ?_) (fun h7 => ?_)
                · skip
                  refine way_leaf fixedsSigns_n52 ?_
                  simp only [E.den, EL.den, B.den, cop_lt, cop_le, cop_eq, cop_ne, iop_add, iop_sub, iop_mul, iop_max, iop_min, iop_quo, iop_rem, iop_fdiv, SV.den, SV.denL, SV.ubd, SV.ubdL, rho, List.getD_cons_zero, List.getD_cons_succ, decide_eq_true_eq, decide_eq_false_iff_not, Bool.not_eq_true', Bool.not_eq_false', Bool.and_eq_true, true_and, G, wG, xG3, xG4, xG5, xG6, xG7, xG8, xG9] at *; exfalso; have e1 := Fx.mul_comm x0 x1; have e2 := Fx.mul_one x0 b0; have e3 := Fx.mul_zero x0; (try simp only [and_low] at *); by_cases hb : x1 = 0; (subst hb; (try simp only [Int.mul_zero, Int.sub_self, not_true_eq_false] at *) <;> first | omega | (have e4 := Fx.mul_neg x0 0 (by omega); rw [← Int.zero_sub] at e4; omega)); (have e7 : (x2 + 1) * x1 ≠ 0 := (by intro q; rcases Int.mul_eq_zero.1 q with q | q <;> omega); have e5 := Fx.ratio_neg x0 x1 hb; rw [← Int.zero_sub, ← Int.zero_sub] at e5; have e6 := Fx.ratio_mul x0 x1 (x2 + 1) hb (by omega); first | omega | (have e4 := Fx.mul_neg x0 x1 (by omega); rw [← Int.zero_sub] at e4; omega))
                · skip
                  refine way_leaf fixedsSigns_n53 ?_
                  simp only [E.den, EL.den, B.den, cop_lt, cop_le, cop_eq, cop_ne, iop_add, iop_sub, iop_mul, iop_max, iop_min, iop_quo, iop_rem, iop_fdiv, SV.den, SV.denL, SV.ubd, SV.ubdL, rho, List.getD_cons_zero, List.getD_cons_succ, decide_eq_true_eq, decide_eq_false_iff_not, Bool.not_eq_true', Bool.not_eq_false', Bool.and_eq_true, true_and, G, wG, xG3, xG4, xG5, xG6, xG7, xG8, xG9] at *; exfalso; have e1 := Fx.mul_comm x0 x1; have e2 := Fx.mul_one x0 b0; have e3 := Fx.mul_zero x0; (try simp only [and_low] at *); by_cases hb : x1 = 0; (subst hb; (try simp only [Int.mul_zero, Int.sub_self, not_true_eq_false] at *) <;> first | omega | (have e4 := Fx.mul_neg x0 0 (by omega); rw [← Int.zero_sub] at e4; omega)); (have e7 : (x2 + 1) * x1 ≠ 0 := (by intro q; rcases Int.mul_eq_zero.1 q with q | q <;> omega); have e5 := Fx.ratio_neg x0 x1 hb; rw [← Int.zero_sub, ← Int.zero_sub] at e5; have e6 := Fx.ratio_mul x0 x1 (x2 + 1) hb (by omega); first | omega | (have e4 := Fx.mul_neg x0 x1 (by omega); rw [← Int.zero_sub] at e4; omega))
            · skip
              refine way_need fixedsSigns_n54 (fun h6 => ?_) (fun h6 => ?_)
              · skip
                refine way_leaf fixedsSigns_n55 ?_
                simp only [E.den, EL.den, B.den, cop_lt, cop_le, cop_eq, cop_ne, iop_add, iop_sub, iop_mul, iop_max, iop_min, iop_quo, iop_rem, iop_fdiv, SV.den, SV.denL, SV.ubd, SV.ubdL, rho, List.getD_cons_zero, List.getD_cons_succ, decide_eq_true_eq, decide_eq_false_iff_not, Bool.not_eq_true', Bool.not_eq_false', Bool.and_eq_true, true_and, G, wG, xG3, xG4, xG5, xG6, xG7, xG8, xG9] at *; exfalso; have e1 := Fx.mul_comm x0 x1; have e2 := Fx.mul_one x0 b0; have e3 := Fx.mul_zero x0; (try simp only [and_low] at *); by_cases hb : x1 = 0; (subst hb; (try simp only [Int.mul_zero, Int.sub_self, not_true_eq_false] at *) <;> first | omega | (have e4 := Fx.mul_neg x0 0 (by omega); rw [← Int.zero_sub] at e4; omega)); (have e7 : (x2 + 1) * x1 ≠ 0 := (by intro q; rcases Int.mul_eq_zero.1 q with q | q <;> omega); have e5 := Fx.ratio_neg x0 x1 hb; rw [← Int.zero_sub, ← Int.zero_sub] at e5; have e6 := Fx.ratio_mul x0 x1 (x2 + 1) hb (by omega); first | omega | (have e4 := Fx.mul_neg x0 x1 (by omega); rw [← Int.zero_sub] at e4; omega))
              · skip
                refine way_need fixedsSigns_n56 (fun h7 => ?_) (fun h7 => ?_)
                · skip
                  refine way_leaf fixedsSigns_n57 ?_
                  simp only [E.den, EL.den, B.den, cop_lt, cop_le, cop_eq, cop_ne, iop_add, iop_sub, iop_mul, iop_max, iop_min, iop_quo, iop_rem, iop_fdiv, SV.den, SV.denL, SV.ubd, SV.ubdL, rho, List.getD_cons_zero, List.getD_cons_succ, decide_eq_true_eq, decide_eq_false_iff_not, Bool.not_eq_true', Bool.not_eq_false', Bool.and_eq_true, true_and, G, wG, xG3, xG4, xG5, xG6, xG7, xG8, xG9] at *; exfalso; have e1 := Fx.mul_comm x0 x1; have e2 := Fx.mul_one x0 b0; have e3 := Fx.mul_zero x0; (try simp only [and_low] at *); by_cases hb : x1 = 0; (subst hb; (try simp only [Int.mul_zero, Int.sub_self, not_true_eq_false] at *) <;> first | omega | (have e4 := Fx.mul_neg x0 0 (by omega); rw [← Int.zero_sub] at e4; omega)); (have e7 : (x2 + 1) * x1 ≠ 0 := (by intro q; rcases Int.mul_eq_zero.1 q with q | q <;> omega); have e5 := Fx.ratio_neg x0 x1 hb; rw [← Int.zero_sub, ← Int.zero_sub] at e5; have e6 := Fx.ratio_mul x0 x1 (x2 + 1) hb (by omega); first | omega | (have e4 := Fx.mul_neg x0 x1 (by omega); rw [← Int.zero_sub] at e4; omega))
                · skip
                  refine way_need fixedsSigns_n58 (fun h8 => ?_) (fun h8 => ?_)
                  · skip
                    refine way_leaf fixedsSigns_n59 ?_
                    exact ⟨rfl, rfl⟩
                  · skip
                    refine way_need fixedsSigns_n60 (fun h9 => ?_) (fun h9 => ?_)
                    · skip
                      refine way_leaf fixedsSigns_n61 ?_
                      exact ⟨rfl, rfl⟩
                    · skip
                      refine way_need fixedsSigns_n62 (fun h10 => ?_) (fun h10 => ?_)
                      · skip
                        refine way_leaf fixedsSigns_n63 ?_
                        exact ⟨rfl, rfl⟩
                      · skip
                        refine way_need fixedsSigns_n64 (fun h11 => ?_) (fun h11 => ?_)
                        · skip
                          refine way_need fixedsSigns_n65 (fun h12 => ?_) (fun h12 => ?_)
                          · skip
                            refine way_leaf fixedsSigns_n66 ?_
                            exact ⟨rfl, rfl⟩
                          · skip
                            refine way_need fixedsSigns_n67 (fun h13 => ?_) (fun h13 => ?_)
                            · skip
                              refine way_leaf fixedsSigns_n68 ?_
                              exact ⟨rfl, rfl⟩
                            · skip
                              refine way_need fixedsSigns_n69 (fun h14 => ?_) (fun h14 => ?_)
                              · skip
                                refine way_need fixedsSigns_n70 (fun h15 => ?_) (fun h15 => ?_)
                                · skip
                                  refine way_leaf fixedsSigns_n71 ?_
                                  exact ⟨rfl, rfl⟩
                                · skip
                                  refine way_leaf fixedsSigns_n72 ?_
                                  simp only [E.den, EL.den, B.den, cop_lt, cop_le, cop_eq, cop_ne, iop_add, iop_sub, iop_mul, iop_max, iop_min, iop_quo, iop_rem, iop_fdiv, SV.den, SV.denL, SV.ubd, SV.ubdL, rho, List.getD_cons_zero, List.getD_cons_succ, decide_eq_true_eq, decide_eq_false_iff_not, Bool.not_eq_true', Bool.not_eq_false', Bool.and_eq_true, true_and, G, wG, xG3, xG4, xG5, xG6, xG7, xG8, xG9] at *; exfalso; have e1 := Fx.mul_comm x0 x1; have e2 := Fx.mul_one x0 b0; have e3 := Fx.mul_zero x0; (try simp only [and_low] at *); by_cases hb : x1 = 0; (subst hb; (try simp only [Int.mul_zero, Int.sub_self, not_true_eq_false] at *) <;> first | omega | (have e4 := Fx.mul_neg x0 0 (by omega); rw [← Int.zero_sub] at e4; omega)); (have e7 : (x2 + 1) * x1 ≠ 0 := (by intro q; rcases Int.mul_eq_zero.1 q with q | q <;> omega); have e5 := Fx.ratio_neg x0 x1 hb; rw [← Int.zero_sub, ← Int.zero_sub] at e5; have e6 := Fx.ratio_mul x0 x1 (x2 + 1) hb (by omega); first | omega | (have e4 := Fx.mul_neg x0 x1 (by omega); rw [← Int.zero_sub] at e4; omega))
                              · skip
                                refine way_leaf fixedsSigns_n73 ?_
                                simp only [E.den, EL.den, B.den, cop_lt, cop_le, cop_eq, cop_ne, iop_add, iop_sub, iop_mul, iop_max, iop_min, iop_quo, iop_rem, iop_fdiv, SV.den, SV.denL, SV.ubd, SV.ubdL, rho, List.getD_cons_zero, List.getD_cons_succ, decide_eq_true_eq, decide_eq_false_iff_not, Bool.not_eq_true', Bool.not_eq_false', Bool.and_eq_true, true_and, G, wG, xG3, xG4, xG5, xG6, xG7, xG8, xG9] at *; exfalso; have e1 := Fx.mul_comm x0 x1; have e2 := Fx.mul_one x0 b0; have e3 := Fx.mul_zero x0; (try simp only [and_low] at *); by_cases hb : x1 = 0; (subst hb; (try simp only [Int.mul_zero, Int.sub_self, not_true_eq_false] at *) <;> first | omega | (have e4 := Fx.mul_neg x0 0 (by omega); rw [← Int.zero_sub] at e4; omega)); (have e7 : (x2 + 1) * x1 ≠ 0 := (by intro q; rcases Int.mul_eq_zero.1 q with q | q <;> omega); have e5 := Fx.ratio_neg x0 x1 hb; rw [← Int.zero_sub, ← Int.zero_sub] at e5; have e6 := Fx.ratio_mul x0 x1 (x2 + 1) hb (by omega); first | omega | (have e4 := Fx.mul_neg x0 x1 (by omega); rw [← Int.zero_sub] at e4; omega))
                        · skip
                          refine way_need fixedsSigns_n74 (fun h12 => ?_) (fun h12 => ?_)
                          · skip
                            refine way_need fixedsSigns_n75 (fun h13 => ?_) (fun h13 => ?_)
                            · skip
                              refine way_leaf fixedsSigns_n76 ?_
                              exact ⟨rfl, rfl⟩
                            · skip
                              refine way_need fixedsSigns_n77 (fun h14 => ?_) (fun h14 => ?_)
                              · skip
                                refine way_need fixedsSigns_n78 (fun h15 => ?_) (fun h15 => ?_)
                                · skip
                                  refine way_leaf fixedsSigns_n79 ?_
                                  exact ⟨rfl, rfl⟩
                                · skip
                                  refine way_leaf fixedsSigns_n80 ?_
                                  simp only [E.den, EL.den, B.den, cop_lt, cop_le, cop_eq, cop_ne, iop_add, iop_sub, iop_mul, iop_max, iop_min, iop_quo, iop_rem, iop_fdiv, SV.den, SV.denL, SV.ubd, SV.ubdL, rho, List.getD_cons_zero, List.getD_cons_succ, decide_eq_true_eq, decide_eq_false_iff_not, Bool.not_eq_true', Bool.not_eq_false', Bool.and_eq_true, true_and, G, wG, xG3, xG4, xG5, xG6, xG7, xG8, xG9] at *; exfalso; have e1 := Fx.mul_comm x0 x1; have e2 := Fx.mul_one x0 b0; have e3 := Fx.mul_zero x0; (try simp only [and_low] at *); by_cases hb : x1 = 0; (subst hb; (try simp only [Int.mul_zero, Int.sub_self, not_true_eq_false] at *) <;> first | omega | (have e4 := Fx.mul_neg x0 0 (by omega); rw [← Int.zero_sub] at e4; omega)); (have e7 : (x2 + 1) * x1 ≠ 0 := (by intro q; rcases Int.mul_eq_zero.1 q with q | q <;> omega); have e5 := Fx.ratio_neg x0 x1 hb; rw [← Int.zero_sub, ← Int.zero_sub] at e5; have e6 := Fx.ratio_mul x0 x1 (x2 + 1) hb (by omega); first | omega | (have e4 := Fx.mul_neg x0 x1 (by omega); rw [← Int.zero_sub] at e4; omega))
                              · skip
                                refine way_leaf fixedsSigns_n81 ?_
                                simp only [E.den, EL.den, B.den, cop_lt, cop_le, cop_eq, cop_ne, iop_add, iop_sub, iop_mul, iop_max, iop_min, iop_quo, iop_rem, iop_fdiv, SV.den, SV.denL, SV.ubd, SV.ubdL, rho, List.getD_cons_zero, List.getD_cons_succ, decide_eq_true_eq, decide_eq_false_iff_not, Bool.not_eq_true', Bool.not_eq_false', Bool.and_eq_true, true_and, G, wG, xG3, xG4, xG5, xG6, xG7, xG8, xG9] at *; exfalso; have e1 := Fx.mul_comm x0 x1; have e2 := Fx.mul_one x0 b0; have e3 := Fx.mul_zero x0; (try simp only [and_low] at *); by_cases hb : x1 = 0; (subst hb; (try simp only [Int.mul_zero, Int.sub_self, not_true_eq_false] at *) <;> first | omega | (have e4 := Fx.mul_neg x0 0 (by omega); rw [← Int.zero_sub] at e4; omega)); (have e7 : (x2 + 1) * x1 ≠ 0 := (by intro q; rcases Int.mul_eq_zero.1 q with q | q <;> omega); have e5 := Fx.ratio_neg x0 x1 hb; rw [← Int.zero_sub, ← Int.zero_sub] at e5; have e6 := Fx.ratio_mul x0 x1 (x2 + 1) hb (by omega); first | omega | (have e4 := Fx.mul_neg x0 x1 (by omega); rw [← Int.zero_sub] at e4; omega))
                          · skip
                            refine way_need fixedsSigns_n82 (fun h13 => ?_) (fun h13 => ?_)
                            · skip
                              refine way_need fixedsSigns_n83 (fun h14 => ?_) (fun h14 => ?_)
                              · skip
                                refine way_need fixedsSigns_n84 (fun h15 => ?_) (fun h15 => ?_)
                                · skip
                                  refine way_leaf fixedsSigns_n85 ?_
                                  exact ⟨rfl, rfl⟩
                                · skip
                                  refine way_leaf fixedsSigns_n86 ?_
                                  exact ⟨rfl, rfl⟩
                              · skip
                                refine way_leaf fixedsSigns_n87 ?_
                                simp only [E.den, EL.den, B.den, cop_lt, cop_le, cop_eq, cop_ne, iop_add, iop_sub, iop_mul, iop_max, iop_min, iop_quo, iop_rem, iop_fdiv, SV.den, SV.denL, SV.ubd, SV.ubdL, rho, List.getD_cons_zero, List.getD_cons_succ, decide_eq_true_eq, decide_eq_false_iff_not, Bool.not_eq_true', Bool.not_eq_false', Bool.and_eq_true, true_and, G, wG, xG3, xG4, xG5, xG6, xG7, xG8, xG9] at *; exfalso; have e1 := Fx.mul_comm x0 x1; have e2 := Fx.mul_one x0 b0; have e3 := Fx.mul_zero x0; (try simp only [and_low] at *); by_cases hb : x1 = 0; (subst hb; (try simp only [Int.mul_zero, Int.sub_self, not_true_eq_false] at *) <;> first | omega | (have e4 := Fx.mul_neg x0 0 (by omega); rw [← Int.zero_sub] at e4; omega)); (have e7 : (x2 + 1) * x1 ≠ 0 := (by intro q; rcases Int.mul_eq_zero.1 q with q | q <;> omega); have e5 := Fx.ratio_neg x0 x1 hb; rw [← Int.zero_sub, ← Int.zero_sub] at e5; have e6 := Fx.ratio_mul x0 x1 (x2 + 1) hb (by omega); first | omega | (have e4 := Fx.mul_neg x0 x1 (by omega); rw [← Int.zero_sub] at e4; omega))
                            · skip
                              refine way_leaf fixedsSigns_n88 ?_
                              simp only [E.den, EL.den, B.den, cop_lt, cop_le, cop_eq, cop_ne, iop_add, iop_sub, iop_mul, iop_max, iop_min, iop_quo, iop_rem, iop_fdiv, SV.den, SV.denL, SV.ubd, SV.ubdL, rho, List.getD_cons_zero, List.getD_cons_succ, decide_eq_true_eq, decide_eq_false_iff_not, Bool.not_eq_true', Bool.not_eq_false', Bool.and_eq_true, true_and, G, wG, xG3, xG4, xG5, xG6, xG7, xG8, xG9] at *; exfalso; have e1 := Fx.mul_comm x0 x1; have e2 := Fx.mul_one x0 b0; have e3 := Fx.mul_zero x0; (try simp only [and_low] at *); by_cases hb : x1 = 0; (subst hb; (try simp only [Int.mul_zero, Int.sub_self, not_true_eq_false] at *) <;> first | omega | (have e4 := Fx.mul_neg x0 0 (by omega); rw [← Int.zero_sub] at e4; omega)); (have e7 : (x2 + 1) * x1 ≠ 0 := (by intro q; rcases Int.mul_eq_zero.1 q with q | q <;> omega); have e5 := Fx.ratio_neg x0 x1 hb; rw [← Int.zero_sub, ← Int.zero_sub] at e5; have e6 := Fx.ratio_mul x0 x1 (x2 + 1) hb (by omega); first | omega | (have e4 := Fx.mul_neg x0 x1 (by omega); rw [← Int.zero_sub] at e4; omega))
end Go.Proofs.YtaballahjgegdaaDoor
