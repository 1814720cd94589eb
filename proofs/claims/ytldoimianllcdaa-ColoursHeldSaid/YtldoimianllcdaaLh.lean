/- What is proved: the law ColoursHeld, over all its ways: it is true. The conditions are the numbers' own bounds. -/
import Derived.Test.YtldoimianllcdaaCa
import Derived.Test.YtldoimianllcdaaTh
import Derived.Test.YtldoimianllcdaaLh1
import Derived.Test.YtldoimianllcdaaLh2
import Derived.Test.YtldoimianllcdaaLh3
set_option linter.unusedSimpArgs false
set_option linter.unusedVariables false
namespace Go.Proofs.Ytldoimianllcdaa
open Go Go.RowKit Sx Wi
set_option maxHeartbeats 8000000 in
set_option maxRecDepth 100000 in
theorem coloursHeld_any (x0 x1 x2 x3 x4 x5 : Int) (b0 : 0 ≤ x0 ∧ x0 ≤ 255) (b1 : 0 ≤ x1 ∧ x1 ≤ 255) (b2 : (-2147483648) ≤ x2 ∧ x2 ≤ 2147483647) (b3 : (-2147483648) ≤ x3 ∧ x3 ≤ 2147483647) (b4 : (-2147483648) ≤ x4 ∧ x4 ≤ 2147483647) (b5 : (-2147483648) ≤ x5 ∧ x5 ≤ 2147483647) (w : World) (hw : WOk GB w) : Calls Try.prog 5 #[(.agg #[.int .u8 x0, .int .u8 x1]), (.agg #[.int .i32 x2, .int .i32 x3, .int .i32 x4, .int .i32 x5])] w (fun e w' => e = .returned (.bool true) ∧ Below w.heap.size w w') := by
  refine (calls_eq (way_calls2 (ρ := rho [x0, x1, x2, x3, x4, x5]) (run := fun fs => exFun Try.prog (Ctx.more ⟨G, GI, [(0, 255), (0, 255), ((-2147483648), 2147483647), ((-2147483648), 2147483647), ((-2147483648), 2147483647), ((-2147483648), 2147483647)], fs⟩) GB ct_to 4000 5 [(.agg [(.int .u8 (.var 0)), (.int .u8 (.var 1))]), (.agg [(.int .i32 (.var 2)), (.int .i32 (.var 3)), (.int .i32 (.var 4)), (.int .i32 (.var 5))])]) (fun _ => rfl) (by kernel_rfl) (within_get ⟨b0, b1, b2, b3, b4, b5, trivial⟩) gi_ok (fun fs hf => ct_to_ok (X := ⟨G, GI, _, fs⟩) ⟨within_get ⟨b0, b1, b2, b3, b4, b5, trivial⟩, hf, gi_ok⟩ rfl) rfl rfl gbApart_nil ?_ w hw)).2
  refine way_need coloursHeld_n0 (fun h0 => ?_) (fun h0 => ?_)
  · skip
    refine way_need coloursHeld_n1 (fun h1 => ?_) (fun h1 => ?_)
    · skip
      refine way_leaf coloursHeld_n2 ?_
      simp only [E.den, EL.den, B.den, cop_lt, cop_le, cop_eq, cop_ne, iop_add, iop_sub, iop_mul, iop_max, iop_min, iop_quo, iop_rem, iop_fdiv, iop_shl, SV.den, SV.denL, SV.ubd, SV.ubdL, rho, List.getD_cons_zero, List.getD_cons_succ, decide_eq_true_eq, decide_eq_false_iff_not, Bool.not_eq_true', Bool.not_eq_false', Bool.and_eq_true, true_and, G, wG, xT] at *; exfalso; have B0 := toF_bd 0 x0 x1 x2 x3 x4 x5; have B1 := toF_bd 1 x0 x1 x2 x3 x4 x5; have B2 := toF_bd 2 x0 x1 x2 x3 x4 x5; have B3 := toF_bd 3 x0 x1 x2 x3 x4 x5; have Z := toF_z x0 x1 x2 x3 x4 x5; (try simp only [toF_held, toF_same 0 (by decide), toF_same 1 (by decide), toF_same 2 (by decide), toF_same 3 (by decide), not_true_eq_false] at *) <;> omega
    · skip
      refine way_need coloursHeld_n3 (fun h2 => ?_) (fun h2 => ?_)
      · skip
        refine way_leaf coloursHeld_n4 ?_
        simp only [E.den, EL.den, B.den, cop_lt, cop_le, cop_eq, cop_ne, iop_add, iop_sub, iop_mul, iop_max, iop_min, iop_quo, iop_rem, iop_fdiv, iop_shl, SV.den, SV.denL, SV.ubd, SV.ubdL, rho, List.getD_cons_zero, List.getD_cons_succ, decide_eq_true_eq, decide_eq_false_iff_not, Bool.not_eq_true', Bool.not_eq_false', Bool.and_eq_true, true_and, G, wG, xT] at *; exfalso; have B0 := toF_bd 0 x0 x1 x2 x3 x4 x5; have B1 := toF_bd 1 x0 x1 x2 x3 x4 x5; have B2 := toF_bd 2 x0 x1 x2 x3 x4 x5; have B3 := toF_bd 3 x0 x1 x2 x3 x4 x5; have Z := toF_z x0 x1 x2 x3 x4 x5; (try simp only [toF_held, toF_same 0 (by decide), toF_same 1 (by decide), toF_same 2 (by decide), toF_same 3 (by decide), not_true_eq_false] at *) <;> omega
      · skip
        refine way_need coloursHeld_n5 (fun h3 => ?_) (fun h3 => ?_)
        · skip
          refine way_leaf coloursHeld_n6 ?_
          simp only [E.den, EL.den, B.den, cop_lt, cop_le, cop_eq, cop_ne, iop_add, iop_sub, iop_mul, iop_max, iop_min, iop_quo, iop_rem, iop_fdiv, iop_shl, SV.den, SV.denL, SV.ubd, SV.ubdL, rho, List.getD_cons_zero, List.getD_cons_succ, decide_eq_true_eq, decide_eq_false_iff_not, Bool.not_eq_true', Bool.not_eq_false', Bool.and_eq_true, true_and, G, wG, xT] at *; exfalso; have B0 := toF_bd 0 x0 x1 x2 x3 x4 x5; have B1 := toF_bd 1 x0 x1 x2 x3 x4 x5; have B2 := toF_bd 2 x0 x1 x2 x3 x4 x5; have B3 := toF_bd 3 x0 x1 x2 x3 x4 x5; have Z := toF_z x0 x1 x2 x3 x4 x5; (try simp only [toF_held, toF_same 0 (by decide), toF_same 1 (by decide), toF_same 2 (by decide), toF_same 3 (by decide), not_true_eq_false] at *) <;> omega
        · skip
          refine way_need coloursHeld_n7 (fun h4 => ?_) (fun h4 => ?_)
          · skip
            refine way_need coloursHeld_n8 (fun h5 => ?_) (fun h5 => ?_)
            · skip
              refine way_need coloursHeld_n9 (fun h6 => ?_) (fun h6 => ?_)
              · skip
                refine way_need coloursHeld_n10 (fun h7 => ?_) (fun h7 => ?_)
                · skip
                  refine way_need coloursHeld_n11 (fun h8 => ?_) (fun h8 => ?_)
                  · skip
                    refine way_need coloursHeld_n12 (fun h9 => ?_) (fun h9 => ?_)
                    · skip
                      refine way_need coloursHeld_n13 (fun h10 => ?_) (fun h10 => ?_)
                      · skip
                        refine way_need coloursHeld_n14 (fun h11 => ?_) (fun h11 => ?_)
                        · skip
                          refine way_leaf coloursHeld_n15 ?_
                          exact ⟨rfl, rfl⟩
                        · skip
                          refine way_leaf coloursHeld_n16 ?_
                          simp only [E.den, EL.den, B.den, cop_lt, cop_le, cop_eq, cop_ne, iop_add, iop_sub, iop_mul, iop_max, iop_min, iop_quo, iop_rem, iop_fdiv, iop_shl, SV.den, SV.denL, SV.ubd, SV.ubdL, rho, List.getD_cons_zero, List.getD_cons_succ, decide_eq_true_eq, decide_eq_false_iff_not, Bool.not_eq_true', Bool.not_eq_false', Bool.and_eq_true, true_and, G, wG, xT] at *; exfalso; have B0 := toF_bd 0 x0 x1 x2 x3 x4 x5; have B1 := toF_bd 1 x0 x1 x2 x3 x4 x5; have B2 := toF_bd 2 x0 x1 x2 x3 x4 x5; have B3 := toF_bd 3 x0 x1 x2 x3 x4 x5; have Z := toF_z x0 x1 x2 x3 x4 x5; (try simp only [toF_held, toF_same 0 (by decide), toF_same 1 (by decide), toF_same 2 (by decide), toF_same 3 (by decide), not_true_eq_false] at *) <;> omega
                      · skip
                        refine way_leaf coloursHeld_n17 ?_
                        simp only [E.den, EL.den, B.den, cop_lt, cop_le, cop_eq, cop_ne, iop_add, iop_sub, iop_mul, iop_max, iop_min, iop_quo, iop_rem, iop_fdiv, iop_shl, SV.den, SV.denL, SV.ubd, SV.ubdL, rho, List.getD_cons_zero, List.getD_cons_succ, decide_eq_true_eq, decide_eq_false_iff_not, Bool.not_eq_true', Bool.not_eq_false', Bool.and_eq_true, true_and, G, wG, xT] at *; exfalso; have B0 := toF_bd 0 x0 x1 x2 x3 x4 x5; have B1 := toF_bd 1 x0 x1 x2 x3 x4 x5; have B2 := toF_bd 2 x0 x1 x2 x3 x4 x5; have B3 := toF_bd 3 x0 x1 x2 x3 x4 x5; have Z := toF_z x0 x1 x2 x3 x4 x5; (try simp only [toF_held, toF_same 0 (by decide), toF_same 1 (by decide), toF_same 2 (by decide), toF_same 3 (by decide), not_true_eq_false] at *) <;> omega
                    · skip
                      refine way_leaf coloursHeld_n18 ?_
                      simp only [E.den, EL.den, B.den, cop_lt, cop_le, cop_eq, cop_ne, iop_add, iop_sub, iop_mul, iop_max, iop_min, iop_quo, iop_rem, iop_fdiv, iop_shl, SV.den, SV.denL, SV.ubd, SV.ubdL, rho, List.getD_cons_zero, List.getD_cons_succ, decide_eq_true_eq, decide_eq_false_iff_not, Bool.not_eq_true', Bool.not_eq_false', Bool.and_eq_true, true_and, G, wG, xT] at *; exfalso; have B0 := toF_bd 0 x0 x1 x2 x3 x4 x5; have B1 := toF_bd 1 x0 x1 x2 x3 x4 x5; have B2 := toF_bd 2 x0 x1 x2 x3 x4 x5; have B3 := toF_bd 3 x0 x1 x2 x3 x4 x5; have Z := toF_z x0 x1 x2 x3 x4 x5; (try simp only [toF_held, toF_same 0 (by decide), toF_same 1 (by decide), toF_same 2 (by decide), toF_same 3 (by decide), not_true_eq_false] at *) <;> omega
                  · skip
                    refine way_leaf coloursHeld_n19 ?_
                    simp only [E.den, EL.den, B.den, cop_lt, cop_le, cop_eq, cop_ne, iop_add, iop_sub, iop_mul, iop_max, iop_min, iop_quo, iop_rem, iop_fdiv, iop_shl, SV.den, SV.denL, SV.ubd, SV.ubdL, rho, List.getD_cons_zero, List.getD_cons_succ, decide_eq_true_eq, decide_eq_false_iff_not, Bool.not_eq_true', Bool.not_eq_false', Bool.and_eq_true, true_and, G, wG, xT] at *; exfalso; have B0 := toF_bd 0 x0 x1 x2 x3 x4 x5; have B1 := toF_bd 1 x0 x1 x2 x3 x4 x5; have B2 := toF_bd 2 x0 x1 x2 x3 x4 x5; have B3 := toF_bd 3 x0 x1 x2 x3 x4 x5; have Z := toF_z x0 x1 x2 x3 x4 x5; (try simp only [toF_held, toF_same 0 (by decide), toF_same 1 (by decide), toF_same 2 (by decide), toF_same 3 (by decide), not_true_eq_false] at *) <;> omega
                · skip
                  refine way_leaf coloursHeld_n20 ?_
                  simp only [E.den, EL.den, B.den, cop_lt, cop_le, cop_eq, cop_ne, iop_add, iop_sub, iop_mul, iop_max, iop_min, iop_quo, iop_rem, iop_fdiv, iop_shl, SV.den, SV.denL, SV.ubd, SV.ubdL, rho, List.getD_cons_zero, List.getD_cons_succ, decide_eq_true_eq, decide_eq_false_iff_not, Bool.not_eq_true', Bool.not_eq_false', Bool.and_eq_true, true_and, G, wG, xT] at *; exfalso; have B0 := toF_bd 0 x0 x1 x2 x3 x4 x5; have B1 := toF_bd 1 x0 x1 x2 x3 x4 x5; have B2 := toF_bd 2 x0 x1 x2 x3 x4 x5; have B3 := toF_bd 3 x0 x1 x2 x3 x4 x5; have Z := toF_z x0 x1 x2 x3 x4 x5; (try simp only [toF_held, toF_same 0 (by decide), toF_same 1 (by decide), toF_same 2 (by decide), toF_same 3 (by decide), not_true_eq_false] at *) <;> omega
              · skip
                refine way_leaf coloursHeld_n21 ?_
                simp only [E.den, EL.den, B.den, cop_lt, cop_le, cop_eq, cop_ne, iop_add, iop_sub, iop_mul, iop_max, iop_min, iop_quo, iop_rem, iop_fdiv, iop_shl, SV.den, SV.denL, SV.ubd, SV.ubdL, rho, List.getD_cons_zero, List.getD_cons_succ, decide_eq_true_eq, decide_eq_false_iff_not, Bool.not_eq_true', Bool.not_eq_false', Bool.and_eq_true, true_and, G, wG, xT] at *; exfalso; have B0 := toF_bd 0 x0 x1 x2 x3 x4 x5; have B1 := toF_bd 1 x0 x1 x2 x3 x4 x5; have B2 := toF_bd 2 x0 x1 x2 x3 x4 x5; have B3 := toF_bd 3 x0 x1 x2 x3 x4 x5; have Z := toF_z x0 x1 x2 x3 x4 x5; (try simp only [toF_held, toF_same 0 (by decide), toF_same 1 (by decide), toF_same 2 (by decide), toF_same 3 (by decide), not_true_eq_false] at *) <;> omega
            · skip
              refine way_leaf coloursHeld_n22 ?_
              simp only [E.den, EL.den, B.den, cop_lt, cop_le, cop_eq, cop_ne, iop_add, iop_sub, iop_mul, iop_max, iop_min, iop_quo, iop_rem, iop_fdiv, iop_shl, SV.den, SV.denL, SV.ubd, SV.ubdL, rho, List.getD_cons_zero, List.getD_cons_succ, decide_eq_true_eq, decide_eq_false_iff_not, Bool.not_eq_true', Bool.not_eq_false', Bool.and_eq_true, true_and, G, wG, xT] at *; exfalso; have B0 := toF_bd 0 x0 x1 x2 x3 x4 x5; have B1 := toF_bd 1 x0 x1 x2 x3 x4 x5; have B2 := toF_bd 2 x0 x1 x2 x3 x4 x5; have B3 := toF_bd 3 x0 x1 x2 x3 x4 x5; have Z := toF_z x0 x1 x2 x3 x4 x5; (try simp only [toF_held, toF_same 0 (by decide), toF_same 1 (by decide), toF_same 2 (by decide), toF_same 3 (by decide), not_true_eq_false] at *) <;> omega
          · skip
            refine way_leaf coloursHeld_n23 ?_
            simp only [E.den, EL.den, B.den, cop_lt, cop_le, cop_eq, cop_ne, iop_add, iop_sub, iop_mul, iop_max, iop_min, iop_quo, iop_rem, iop_fdiv, iop_shl, SV.den, SV.denL, SV.ubd, SV.ubdL, rho, List.getD_cons_zero, List.getD_cons_succ, decide_eq_true_eq, decide_eq_false_iff_not, Bool.not_eq_true', Bool.not_eq_false', Bool.and_eq_true, true_and, G, wG, xT] at *; exfalso; have B0 := toF_bd 0 x0 x1 x2 x3 x4 x5; have B1 := toF_bd 1 x0 x1 x2 x3 x4 x5; have B2 := toF_bd 2 x0 x1 x2 x3 x4 x5; have B3 := toF_bd 3 x0 x1 x2 x3 x4 x5; have Z := toF_z x0 x1 x2 x3 x4 x5; (try simp only [toF_held, toF_same 0 (by decide), toF_same 1 (by decide), toF_same 2 (by decide), toF_same 3 (by decide), not_true_eq_false] at *) <;> omega
  · skip
    refine way_need coloursHeld_n24 (fun h1 => ?_) (fun h1 => ?_)
    · skip
      refine way_need coloursHeld_n25 (fun h2 => ?_) (fun h2 => ?_)
      · skip
        refine way_leaf coloursHeld_n26 ?_
        simp only [E.den, EL.den, B.den, cop_lt, cop_le, cop_eq, cop_ne, iop_add, iop_sub, iop_mul, iop_max, iop_min, iop_quo, iop_rem, iop_fdiv, iop_shl, SV.den, SV.denL, SV.ubd, SV.ubdL, rho, List.getD_cons_zero, List.getD_cons_succ, decide_eq_true_eq, decide_eq_false_iff_not, Bool.not_eq_true', Bool.not_eq_false', Bool.and_eq_true, true_and, G, wG, xT] at *; exfalso; have B0 := toF_bd 0 x0 x1 x2 x3 x4 x5; have B1 := toF_bd 1 x0 x1 x2 x3 x4 x5; have B2 := toF_bd 2 x0 x1 x2 x3 x4 x5; have B3 := toF_bd 3 x0 x1 x2 x3 x4 x5; have Z := toF_z x0 x1 x2 x3 x4 x5; (try simp only [toF_held, toF_same 0 (by decide), toF_same 1 (by decide), toF_same 2 (by decide), toF_same 3 (by decide), not_true_eq_false] at *) <;> omega
      · skip
        refine way_need coloursHeld_n27 (fun h3 => ?_) (fun h3 => ?_)
        · skip
          refine way_need coloursHeld_n28 (fun h4 => ?_) (fun h4 => ?_)
          · skip
            refine way_need coloursHeld_n29 (fun h5 => ?_) (fun h5 => ?_)
            · skip
              refine way_need coloursHeld_n30 (fun h6 => ?_) (fun h6 => ?_)
              · skip
                refine way_need coloursHeld_n31 (fun h7 => ?_) (fun h7 => ?_)
                · skip
                  refine way_need coloursHeld_n32 (fun h8 => ?_) (fun h8 => ?_)
                  · skip
                    refine way_need coloursHeld_n33 (fun h9 => ?_) (fun h9 => ?_)
                    · skip
                      refine way_need coloursHeld_n34 (fun h10 => ?_) (fun h10 => ?_)
                      · skip
                        refine way_leaf coloursHeld_n35 ?_
                        exact ⟨rfl, rfl⟩
                      · skip
                        refine way_leaf coloursHeld_n36 ?_
                        simp only [E.den, EL.den, B.den, cop_lt, cop_le, cop_eq, cop_ne, iop_add, iop_sub, iop_mul, iop_max, iop_min, iop_quo, iop_rem, iop_fdiv, iop_shl, SV.den, SV.denL, SV.ubd, SV.ubdL, rho, List.getD_cons_zero, List.getD_cons_succ, decide_eq_true_eq, decide_eq_false_iff_not, Bool.not_eq_true', Bool.not_eq_false', Bool.and_eq_true, true_and, G, wG, xT] at *; exfalso; have B0 := toF_bd 0 x0 x1 x2 x3 x4 x5; have B1 := toF_bd 1 x0 x1 x2 x3 x4 x5; have B2 := toF_bd 2 x0 x1 x2 x3 x4 x5; have B3 := toF_bd 3 x0 x1 x2 x3 x4 x5; have Z := toF_z x0 x1 x2 x3 x4 x5; (try simp only [toF_held, toF_same 0 (by decide), toF_same 1 (by decide), toF_same 2 (by decide), toF_same 3 (by decide), not_true_eq_false] at *) <;> omega
                    · skip
                      refine way_leaf coloursHeld_n37 ?_
                      simp only [E.den, EL.den, B.den, cop_lt, cop_le, cop_eq, cop_ne, iop_add, iop_sub, iop_mul, iop_max, iop_min, iop_quo, iop_rem, iop_fdiv, iop_shl, SV.den, SV.denL, SV.ubd, SV.ubdL, rho, List.getD_cons_zero, List.getD_cons_succ, decide_eq_true_eq, decide_eq_false_iff_not, Bool.not_eq_true', Bool.not_eq_false', Bool.and_eq_true, true_and, G, wG, xT] at *; exfalso; have B0 := toF_bd 0 x0 x1 x2 x3 x4 x5; have B1 := toF_bd 1 x0 x1 x2 x3 x4 x5; have B2 := toF_bd 2 x0 x1 x2 x3 x4 x5; have B3 := toF_bd 3 x0 x1 x2 x3 x4 x5; have Z := toF_z x0 x1 x2 x3 x4 x5; (try simp only [toF_held, toF_same 0 (by decide), toF_same 1 (by decide), toF_same 2 (by decide), toF_same 3 (by decide), not_true_eq_false] at *) <;> omega
                  · skip
                    refine way_leaf coloursHeld_n38 ?_
                    simp only [E.den, EL.den, B.den, cop_lt, cop_le, cop_eq, cop_ne, iop_add, iop_sub, iop_mul, iop_max, iop_min, iop_quo, iop_rem, iop_fdiv, iop_shl, SV.den, SV.denL, SV.ubd, SV.ubdL, rho, List.getD_cons_zero, List.getD_cons_succ, decide_eq_true_eq, decide_eq_false_iff_not, Bool.not_eq_true', Bool.not_eq_false', Bool.and_eq_true, true_and, G, wG, xT] at *; exfalso; have B0 := toF_bd 0 x0 x1 x2 x3 x4 x5; have B1 := toF_bd 1 x0 x1 x2 x3 x4 x5; have B2 := toF_bd 2 x0 x1 x2 x3 x4 x5; have B3 := toF_bd 3 x0 x1 x2 x3 x4 x5; have Z := toF_z x0 x1 x2 x3 x4 x5; (try simp only [toF_held, toF_same 0 (by decide), toF_same 1 (by decide), toF_same 2 (by decide), toF_same 3 (by decide), not_true_eq_false] at *) <;> omega
                · skip
                  refine way_leaf coloursHeld_n39 ?_
                  simp only [E.den, EL.den, B.den, cop_lt, cop_le, cop_eq, cop_ne, iop_add, iop_sub, iop_mul, iop_max, iop_min, iop_quo, iop_rem, iop_fdiv, iop_shl, SV.den, SV.denL, SV.ubd, SV.ubdL, rho, List.getD_cons_zero, List.getD_cons_succ, decide_eq_true_eq, decide_eq_false_iff_not, Bool.not_eq_true', Bool.not_eq_false', Bool.and_eq_true, true_and, G, wG, xT] at *; exfalso; have B0 := toF_bd 0 x0 x1 x2 x3 x4 x5; have B1 := toF_bd 1 x0 x1 x2 x3 x4 x5; have B2 := toF_bd 2 x0 x1 x2 x3 x4 x5; have B3 := toF_bd 3 x0 x1 x2 x3 x4 x5; have Z := toF_z x0 x1 x2 x3 x4 x5; (try simp only [toF_held, toF_same 0 (by decide), toF_same 1 (by decide), toF_same 2 (by decide), toF_same 3 (by decide), not_true_eq_false] at *) <;> omega
              · skip
                refine way_leaf coloursHeld_n40 ?_
                simp only [E.den, EL.den, B.den, cop_lt, cop_le, cop_eq, cop_ne, iop_add, iop_sub, iop_mul, iop_max, iop_min, iop_quo, iop_rem, iop_fdiv, iop_shl, SV.den, SV.denL, SV.ubd, SV.ubdL, rho, List.getD_cons_zero, List.getD_cons_succ, decide_eq_true_eq, decide_eq_false_iff_not, Bool.not_eq_true', Bool.not_eq_false', Bool.and_eq_true, true_and, G, wG, xT] at *; exfalso; have B0 := toF_bd 0 x0 x1 x2 x3 x4 x5; have B1 := toF_bd 1 x0 x1 x2 x3 x4 x5; have B2 := toF_bd 2 x0 x1 x2 x3 x4 x5; have B3 := toF_bd 3 x0 x1 x2 x3 x4 x5; have Z := toF_z x0 x1 x2 x3 x4 x5; (try simp only [toF_held, toF_same 0 (by decide), toF_same 1 (by decide), toF_same 2 (by decide), toF_same 3 (by decide), not_true_eq_false] at *) <;> omega
            · skip
              refine way_leaf coloursHeld_n41 ?_
              simp only [E.den, EL.den, B.den, cop_lt, cop_le, cop_eq, cop_ne, iop_add, iop_sub, iop_mul, iop_max, iop_min, iop_quo, iop_rem, iop_fdiv, iop_shl, SV.den, SV.denL, SV.ubd, SV.ubdL, rho, List.getD_cons_zero, List.getD_cons_succ, decide_eq_true_eq, decide_eq_false_iff_not, Bool.not_eq_true', Bool.not_eq_false', Bool.and_eq_true, true_and, G, wG, xT] at *; exfalso; have B0 := toF_bd 0 x0 x1 x2 x3 x4 x5; have B1 := toF_bd 1 x0 x1 x2 x3 x4 x5; have B2 := toF_bd 2 x0 x1 x2 x3 x4 x5; have B3 := toF_bd 3 x0 x1 x2 x3 x4 x5; have Z := toF_z x0 x1 x2 x3 x4 x5; (try simp only [toF_held, toF_same 0 (by decide), toF_same 1 (by decide), toF_same 2 (by decide), toF_same 3 (by decide), not_true_eq_false] at *) <;> omega
          · skip
            refine way_leaf coloursHeld_n42 ?_
            simp only [E.den, EL.den, B.den, cop_lt, cop_le, cop_eq, cop_ne, iop_add, iop_sub, iop_mul, iop_max, iop_min, iop_quo, iop_rem, iop_fdiv, iop_shl, SV.den, SV.denL, SV.ubd, SV.ubdL, rho, List.getD_cons_zero, List.getD_cons_succ, decide_eq_true_eq, decide_eq_false_iff_not, Bool.not_eq_true', Bool.not_eq_false', Bool.and_eq_true, true_and, G, wG, xT] at *; exfalso; have B0 := toF_bd 0 x0 x1 x2 x3 x4 x5; have B1 := toF_bd 1 x0 x1 x2 x3 x4 x5; have B2 := toF_bd 2 x0 x1 x2 x3 x4 x5; have B3 := toF_bd 3 x0 x1 x2 x3 x4 x5; have Z := toF_z x0 x1 x2 x3 x4 x5; (try simp only [toF_held, toF_same 0 (by decide), toF_same 1 (by decide), toF_same 2 (by decide), toF_same 3 (by decide), not_true_eq_false] at *) <;> omega
        · skip
          refine way_leaf coloursHeld_n43 ?_
          simp only [E.den, EL.den, B.den, cop_lt, cop_le, cop_eq, cop_ne, iop_add, iop_sub, iop_mul, iop_max, iop_min, iop_quo, iop_rem, iop_fdiv, iop_shl, SV.den, SV.denL, SV.ubd, SV.ubdL, rho, List.getD_cons_zero, List.getD_cons_succ, decide_eq_true_eq, decide_eq_false_iff_not, Bool.not_eq_true', Bool.not_eq_false', Bool.and_eq_true, true_and, G, wG, xT] at *; exfalso; have B0 := toF_bd 0 x0 x1 x2 x3 x4 x5; have B1 := toF_bd 1 x0 x1 x2 x3 x4 x5; have B2 := toF_bd 2 x0 x1 x2 x3 x4 x5; have B3 := toF_bd 3 x0 x1 x2 x3 x4 x5; have Z := toF_z x0 x1 x2 x3 x4 x5; (try simp only [toF_held, toF_same 0 (by decide), toF_same 1 (by decide), toF_same 2 (by decide), toF_same 3 (by decide), not_true_eq_false] at *) <;> omega
    · skip
      refine way_need coloursHeld_n44 (fun h2 => ?_) (fun h2 => ?_)
      · skip
        refine way_need coloursHeld_n45 (fun h3 => ?_) (fun h3 => ?_)
        · skip
          refine way_need coloursHeld_n46 (fun h4 => ?_) (fun h4 => ?_)
          · skip
            refine way_need coloursHeld_n47 (fun h5 => ?_) (fun h5 => ?_)
            · skip
              refine way_need coloursHeld_n48 (fun h6 => ?_) (fun h6 => ?_)
              · skip
                refine way_need coloursHeld_n49 (fun h7 => ?_) (fun h7 => ?_)
                · skip
                  refine way_need coloursHeld_n50 (fun h8 => ?_) (fun h8 => ?_)
                  · skip
                    refine way_need coloursHeld_n51 (fun h9 => ?_) (fun h9 => ?_)
                    · skip
                      refine way_need coloursHeld_n52 (fun h10 => ?_) (fun h10 => ?_)
                      · skip
                        refine way_leaf coloursHeld_n53 ?_
                        exact ⟨rfl, rfl⟩
                      · skip
                        refine way_leaf coloursHeld_n54 ?_
                        simp only [E.den, EL.den, B.den, cop_lt, cop_le, cop_eq, cop_ne, iop_add, iop_sub, iop_mul, iop_max, iop_min, iop_quo, iop_rem, iop_fdiv, iop_shl, SV.den, SV.denL, SV.ubd, SV.ubdL, rho, List.getD_cons_zero, List.getD_cons_succ, decide_eq_true_eq, decide_eq_false_iff_not, Bool.not_eq_true', Bool.not_eq_false', Bool.and_eq_true, true_and, G, wG, xT] at *; exfalso; have B0 := toF_bd 0 x0 x1 x2 x3 x4 x5; have B1 := toF_bd 1 x0 x1 x2 x3 x4 x5; have B2 := toF_bd 2 x0 x1 x2 x3 x4 x5; have B3 := toF_bd 3 x0 x1 x2 x3 x4 x5; have Z := toF_z x0 x1 x2 x3 x4 x5; (try simp only [toF_held, toF_same 0 (by decide), toF_same 1 (by decide), toF_same 2 (by decide), toF_same 3 (by decide), not_true_eq_false] at *) <;> omega
                    · skip
                      refine way_leaf coloursHeld_n55 ?_
                      simp only [E.den, EL.den, B.den, cop_lt, cop_le, cop_eq, cop_ne, iop_add, iop_sub, iop_mul, iop_max, iop_min, iop_quo, iop_rem, iop_fdiv, iop_shl, SV.den, SV.denL, SV.ubd, SV.ubdL, rho, List.getD_cons_zero, List.getD_cons_succ, decide_eq_true_eq, decide_eq_false_iff_not, Bool.not_eq_true', Bool.not_eq_false', Bool.and_eq_true, true_and, G, wG, xT] at *; exfalso; have B0 := toF_bd 0 x0 x1 x2 x3 x4 x5; have B1 := toF_bd 1 x0 x1 x2 x3 x4 x5; have B2 := toF_bd 2 x0 x1 x2 x3 x4 x5; have B3 := toF_bd 3 x0 x1 x2 x3 x4 x5; have Z := toF_z x0 x1 x2 x3 x4 x5; (try simp only [toF_held, toF_same 0 (by decide), toF_same 1 (by decide), toF_same 2 (by decide), toF_same 3 (by decide), not_true_eq_false] at *) <;> omega
                  · skip
                    refine way_leaf coloursHeld_n56 ?_
                    simp only [E.den, EL.den, B.den, cop_lt, cop_le, cop_eq, cop_ne, iop_add, iop_sub, iop_mul, iop_max, iop_min, iop_quo, iop_rem, iop_fdiv, iop_shl, SV.den, SV.denL, SV.ubd, SV.ubdL, rho, List.getD_cons_zero, List.getD_cons_succ, decide_eq_true_eq, decide_eq_false_iff_not, Bool.not_eq_true', Bool.not_eq_false', Bool.and_eq_true, true_and, G, wG, xT] at *; exfalso; have B0 := toF_bd 0 x0 x1 x2 x3 x4 x5; have B1 := toF_bd 1 x0 x1 x2 x3 x4 x5; have B2 := toF_bd 2 x0 x1 x2 x3 x4 x5; have B3 := toF_bd 3 x0 x1 x2 x3 x4 x5; have Z := toF_z x0 x1 x2 x3 x4 x5; (try simp only [toF_held, toF_same 0 (by decide), toF_same 1 (by decide), toF_same 2 (by decide), toF_same 3 (by decide), not_true_eq_false] at *) <;> omega
                · skip
                  refine way_leaf coloursHeld_n57 ?_
                  simp only [E.den, EL.den, B.den, cop_lt, cop_le, cop_eq, cop_ne, iop_add, iop_sub, iop_mul, iop_max, iop_min, iop_quo, iop_rem, iop_fdiv, iop_shl, SV.den, SV.denL, SV.ubd, SV.ubdL, rho, List.getD_cons_zero, List.getD_cons_succ, decide_eq_true_eq, decide_eq_false_iff_not, Bool.not_eq_true', Bool.not_eq_false', Bool.and_eq_true, true_and, G, wG, xT] at *; exfalso; have B0 := toF_bd 0 x0 x1 x2 x3 x4 x5; have B1 := toF_bd 1 x0 x1 x2 x3 x4 x5; have B2 := toF_bd 2 x0 x1 x2 x3 x4 x5; have B3 := toF_bd 3 x0 x1 x2 x3 x4 x5; have Z := toF_z x0 x1 x2 x3 x4 x5; (try simp only [toF_held, toF_same 0 (by decide), toF_same 1 (by decide), toF_same 2 (by decide), toF_same 3 (by decide), not_true_eq_false] at *) <;> omega
              · skip
                refine way_leaf coloursHeld_n58 ?_
                simp only [E.den, EL.den, B.den, cop_lt, cop_le, cop_eq, cop_ne, iop_add, iop_sub, iop_mul, iop_max, iop_min, iop_quo, iop_rem, iop_fdiv, iop_shl, SV.den, SV.denL, SV.ubd, SV.ubdL, rho, List.getD_cons_zero, List.getD_cons_succ, decide_eq_true_eq, decide_eq_false_iff_not, Bool.not_eq_true', Bool.not_eq_false', Bool.and_eq_true, true_and, G, wG, xT] at *; exfalso; have B0 := toF_bd 0 x0 x1 x2 x3 x4 x5; have B1 := toF_bd 1 x0 x1 x2 x3 x4 x5; have B2 := toF_bd 2 x0 x1 x2 x3 x4 x5; have B3 := toF_bd 3 x0 x1 x2 x3 x4 x5; have Z := toF_z x0 x1 x2 x3 x4 x5; (try simp only [toF_held, toF_same 0 (by decide), toF_same 1 (by decide), toF_same 2 (by decide), toF_same 3 (by decide), not_true_eq_false] at *) <;> omega
            · skip
              refine way_leaf coloursHeld_n59 ?_
              simp only [E.den, EL.den, B.den, cop_lt, cop_le, cop_eq, cop_ne, iop_add, iop_sub, iop_mul, iop_max, iop_min, iop_quo, iop_rem, iop_fdiv, iop_shl, SV.den, SV.denL, SV.ubd, SV.ubdL, rho, List.getD_cons_zero, List.getD_cons_succ, decide_eq_true_eq, decide_eq_false_iff_not, Bool.not_eq_true', Bool.not_eq_false', Bool.and_eq_true, true_and, G, wG, xT] at *; exfalso; have B0 := toF_bd 0 x0 x1 x2 x3 x4 x5; have B1 := toF_bd 1 x0 x1 x2 x3 x4 x5; have B2 := toF_bd 2 x0 x1 x2 x3 x4 x5; have B3 := toF_bd 3 x0 x1 x2 x3 x4 x5; have Z := toF_z x0 x1 x2 x3 x4 x5; (try simp only [toF_held, toF_same 0 (by decide), toF_same 1 (by decide), toF_same 2 (by decide), toF_same 3 (by decide), not_true_eq_false] at *) <;> omega
          · skip
            refine way_leaf coloursHeld_n60 ?_
            simp only [E.den, EL.den, B.den, cop_lt, cop_le, cop_eq, cop_ne, iop_add, iop_sub, iop_mul, iop_max, iop_min, iop_quo, iop_rem, iop_fdiv, iop_shl, SV.den, SV.denL, SV.ubd, SV.ubdL, rho, List.getD_cons_zero, List.getD_cons_succ, decide_eq_true_eq, decide_eq_false_iff_not, Bool.not_eq_true', Bool.not_eq_false', Bool.and_eq_true, true_and, G, wG, xT] at *; exfalso; have B0 := toF_bd 0 x0 x1 x2 x3 x4 x5; have B1 := toF_bd 1 x0 x1 x2 x3 x4 x5; have B2 := toF_bd 2 x0 x1 x2 x3 x4 x5; have B3 := toF_bd 3 x0 x1 x2 x3 x4 x5; have Z := toF_z x0 x1 x2 x3 x4 x5; (try simp only [toF_held, toF_same 0 (by decide), toF_same 1 (by decide), toF_same 2 (by decide), toF_same 3 (by decide), not_true_eq_false] at *) <;> omega
        · skip
          refine way_leaf coloursHeld_n61 ?_
          simp only [E.den, EL.den, B.den, cop_lt, cop_le, cop_eq, cop_ne, iop_add, iop_sub, iop_mul, iop_max, iop_min, iop_quo, iop_rem, iop_fdiv, iop_shl, SV.den, SV.denL, SV.ubd, SV.ubdL, rho, List.getD_cons_zero, List.getD_cons_succ, decide_eq_true_eq, decide_eq_false_iff_not, Bool.not_eq_true', Bool.not_eq_false', Bool.and_eq_true, true_and, G, wG, xT] at *; exfalso; have B0 := toF_bd 0 x0 x1 x2 x3 x4 x5; have B1 := toF_bd 1 x0 x1 x2 x3 x4 x5; have B2 := toF_bd 2 x0 x1 x2 x3 x4 x5; have B3 := toF_bd 3 x0 x1 x2 x3 x4 x5; have Z := toF_z x0 x1 x2 x3 x4 x5; (try simp only [toF_held, toF_same 0 (by decide), toF_same 1 (by decide), toF_same 2 (by decide), toF_same 3 (by decide), not_true_eq_false] at *) <;> omega
      · skip
        refine way_need coloursHeld_n62 (fun h3 => ?_) (fun h3 => ?_)
        · skip
          refine way_leaf coloursHeld_n63 ?_
          simp only [E.den, EL.den, B.den, cop_lt, cop_le, cop_eq, cop_ne, iop_add, iop_sub, iop_mul, iop_max, iop_min, iop_quo, iop_rem, iop_fdiv, iop_shl, SV.den, SV.denL, SV.ubd, SV.ubdL, rho, List.getD_cons_zero, List.getD_cons_succ, decide_eq_true_eq, decide_eq_false_iff_not, Bool.not_eq_true', Bool.not_eq_false', Bool.and_eq_true, true_and, G, wG, xT] at *; exfalso; have B0 := toF_bd 0 x0 x1 x2 x3 x4 x5; have B1 := toF_bd 1 x0 x1 x2 x3 x4 x5; have B2 := toF_bd 2 x0 x1 x2 x3 x4 x5; have B3 := toF_bd 3 x0 x1 x2 x3 x4 x5; have Z := toF_z x0 x1 x2 x3 x4 x5; (try simp only [toF_held, toF_same 0 (by decide), toF_same 1 (by decide), toF_same 2 (by decide), toF_same 3 (by decide), not_true_eq_false] at *) <;> omega
        · skip
          refine way_need coloursHeld_n64 (fun h4 => ?_) (fun h4 => ?_)
          · skip
            refine way_leaf coloursHeld_n65 ?_
            simp only [E.den, EL.den, B.den, cop_lt, cop_le, cop_eq, cop_ne, iop_add, iop_sub, iop_mul, iop_max, iop_min, iop_quo, iop_rem, iop_fdiv, iop_shl, SV.den, SV.denL, SV.ubd, SV.ubdL, rho, List.getD_cons_zero, List.getD_cons_succ, decide_eq_true_eq, decide_eq_false_iff_not, Bool.not_eq_true', Bool.not_eq_false', Bool.and_eq_true, true_and, G, wG, xT] at *; exfalso; have B0 := toF_bd 0 x0 x1 x2 x3 x4 x5; have B1 := toF_bd 1 x0 x1 x2 x3 x4 x5; have B2 := toF_bd 2 x0 x1 x2 x3 x4 x5; have B3 := toF_bd 3 x0 x1 x2 x3 x4 x5; have Z := toF_z x0 x1 x2 x3 x4 x5; (try simp only [toF_held, toF_same 0 (by decide), toF_same 1 (by decide), toF_same 2 (by decide), toF_same 3 (by decide), not_true_eq_false] at *) <;> omega
          · skip
            refine way_need coloursHeld_n66 (fun h5 => ?_) (fun h5 => ?_)
            · skip
              refine way_leaf coloursHeld_n67 ?_
              simp only [E.den, EL.den, B.den, cop_lt, cop_le, cop_eq, cop_ne, iop_add, iop_sub, iop_mul, iop_max, iop_min, iop_quo, iop_rem, iop_fdiv, iop_shl, SV.den, SV.denL, SV.ubd, SV.ubdL, rho, List.getD_cons_zero, List.getD_cons_succ, decide_eq_true_eq, decide_eq_false_iff_not, Bool.not_eq_true', Bool.not_eq_false', Bool.and_eq_true, true_and, G, wG, xT] at *; exfalso; have B0 := toF_bd 0 x0 x1 x2 x3 x4 x5; have B1 := toF_bd 1 x0 x1 x2 x3 x4 x5; have B2 := toF_bd 2 x0 x1 x2 x3 x4 x5; have B3 := toF_bd 3 x0 x1 x2 x3 x4 x5; have Z := toF_z x0 x1 x2 x3 x4 x5; (try simp only [toF_held, toF_same 0 (by decide), toF_same 1 (by decide), toF_same 2 (by decide), toF_same 3 (by decide), not_true_eq_false] at *) <;> omega
            · skip
              refine way_need coloursHeld_n68 (fun h6 => ?_) (fun h6 => ?_)
              · skip
                refine way_leaf coloursHeld_n69 ?_
                simp only [E.den, EL.den, B.den, cop_lt, cop_le, cop_eq, cop_ne, iop_add, iop_sub, iop_mul, iop_max, iop_min, iop_quo, iop_rem, iop_fdiv, iop_shl, SV.den, SV.denL, SV.ubd, SV.ubdL, rho, List.getD_cons_zero, List.getD_cons_succ, decide_eq_true_eq, decide_eq_false_iff_not, Bool.not_eq_true', Bool.not_eq_false', Bool.and_eq_true, true_and, G, wG, xT] at *; exfalso; have B0 := toF_bd 0 x0 x1 x2 x3 x4 x5; have B1 := toF_bd 1 x0 x1 x2 x3 x4 x5; have B2 := toF_bd 2 x0 x1 x2 x3 x4 x5; have B3 := toF_bd 3 x0 x1 x2 x3 x4 x5; have Z := toF_z x0 x1 x2 x3 x4 x5; (try simp only [toF_held, toF_same 0 (by decide), toF_same 1 (by decide), toF_same 2 (by decide), toF_same 3 (by decide), not_true_eq_false] at *) <;> omega
              · skip
                refine way_need coloursHeld_n70 (fun h7 => ?_) (fun h7 => ?_)
                · skip
                  refine way_need coloursHeld_n71 (fun h8 => ?_) (fun h8 => ?_)
                  · skip
                    refine way_need coloursHeld_n72 (fun h9 => ?_) (fun h9 => ?_)
                    · skip
                      refine way_need coloursHeld_n73 (fun h10 => ?_) (fun h10 => ?_)
                      · skip
                        refine way_need coloursHeld_n74 (fun h11 => ?_) (fun h11 => ?_)
                        · skip
                          refine way_need coloursHeld_n75 (fun h12 => ?_) (fun h12 => ?_)
                          · skip
                            refine way_need coloursHeld_n76 (fun h13 => ?_) (fun h13 => ?_)
                            · skip
                              refine way_need coloursHeld_n77 (fun h14 => ?_) (fun h14 => ?_)
                              · skip
                                refine way_leaf coloursHeld_n78 ?_
                                exact ⟨rfl, rfl⟩
                              · skip
                                refine way_leaf coloursHeld_n79 ?_
                                simp only [E.den, EL.den, B.den, cop_lt, cop_le, cop_eq, cop_ne, iop_add, iop_sub, iop_mul, iop_max, iop_min, iop_quo, iop_rem, iop_fdiv, iop_shl, SV.den, SV.denL, SV.ubd, SV.ubdL, rho, List.getD_cons_zero, List.getD_cons_succ, decide_eq_true_eq, decide_eq_false_iff_not, Bool.not_eq_true', Bool.not_eq_false', Bool.and_eq_true, true_and, G, wG, xT] at *; exfalso; have B0 := toF_bd 0 x0 x1 x2 x3 x4 x5; have B1 := toF_bd 1 x0 x1 x2 x3 x4 x5; have B2 := toF_bd 2 x0 x1 x2 x3 x4 x5; have B3 := toF_bd 3 x0 x1 x2 x3 x4 x5; have Z := toF_z x0 x1 x2 x3 x4 x5; (try simp only [toF_held, toF_same 0 (by decide), toF_same 1 (by decide), toF_same 2 (by decide), toF_same 3 (by decide), not_true_eq_false] at *) <;> omega
                            · skip
                              refine way_leaf coloursHeld_n80 ?_
                              simp only [E.den, EL.den, B.den, cop_lt, cop_le, cop_eq, cop_ne, iop_add, iop_sub, iop_mul, iop_max, iop_min, iop_quo, iop_rem, iop_fdiv, iop_shl, SV.den, SV.denL, SV.ubd, SV.ubdL, rho, List.getD_cons_zero, List.getD_cons_succ, decide_eq_true_eq, decide_eq_false_iff_not, Bool.not_eq_true', Bool.not_eq_false', Bool.and_eq_true, true_and, G, wG, xT] at *; exfalso; have B0 := toF_bd 0 x0 x1 x2 x3 x4 x5; have B1 := toF_bd 1 x0 x1 x2 x3 x4 x5; have B2 := toF_bd 2 x0 x1 x2 x3 x4 x5; have B3 := toF_bd 3 x0 x1 x2 x3 x4 x5; have Z := toF_z x0 x1 x2 x3 x4 x5; (try simp only [toF_held, toF_same 0 (by decide), toF_same 1 (by decide), toF_same 2 (by decide), toF_same 3 (by decide), not_true_eq_false] at *) <;> omega
                          · skip
                            refine way_leaf coloursHeld_n81 ?_
                            simp only [E.den, EL.den, B.den, cop_lt, cop_le, cop_eq, cop_ne, iop_add, iop_sub, iop_mul, iop_max, iop_min, iop_quo, iop_rem, iop_fdiv, iop_shl, SV.den, SV.denL, SV.ubd, SV.ubdL, rho, List.getD_cons_zero, List.getD_cons_succ, decide_eq_true_eq, decide_eq_false_iff_not, Bool.not_eq_true', Bool.not_eq_false', Bool.and_eq_true, true_and, G, wG, xT] at *; exfalso; have B0 := toF_bd 0 x0 x1 x2 x3 x4 x5; have B1 := toF_bd 1 x0 x1 x2 x3 x4 x5; have B2 := toF_bd 2 x0 x1 x2 x3 x4 x5; have B3 := toF_bd 3 x0 x1 x2 x3 x4 x5; have Z := toF_z x0 x1 x2 x3 x4 x5; (try simp only [toF_held, toF_same 0 (by decide), toF_same 1 (by decide), toF_same 2 (by decide), toF_same 3 (by decide), not_true_eq_false] at *) <;> omega
                        · skip
                          refine way_leaf coloursHeld_n82 ?_
                          simp only [E.den, EL.den, B.den, cop_lt, cop_le, cop_eq, cop_ne, iop_add, iop_sub, iop_mul, iop_max, iop_min, iop_quo, iop_rem, iop_fdiv, iop_shl, SV.den, SV.denL, SV.ubd, SV.ubdL, rho, List.getD_cons_zero, List.getD_cons_succ, decide_eq_true_eq, decide_eq_false_iff_not, Bool.not_eq_true', Bool.not_eq_false', Bool.and_eq_true, true_and, G, wG, xT] at *; exfalso; have B0 := toF_bd 0 x0 x1 x2 x3 x4 x5; have B1 := toF_bd 1 x0 x1 x2 x3 x4 x5; have B2 := toF_bd 2 x0 x1 x2 x3 x4 x5; have B3 := toF_bd 3 x0 x1 x2 x3 x4 x5; have Z := toF_z x0 x1 x2 x3 x4 x5; (try simp only [toF_held, toF_same 0 (by decide), toF_same 1 (by decide), toF_same 2 (by decide), toF_same 3 (by decide), not_true_eq_false] at *) <;> omega
                      · skip
                        refine way_leaf coloursHeld_n83 ?_
                        simp only [E.den, EL.den, B.den, cop_lt, cop_le, cop_eq, cop_ne, iop_add, iop_sub, iop_mul, iop_max, iop_min, iop_quo, iop_rem, iop_fdiv, iop_shl, SV.den, SV.denL, SV.ubd, SV.ubdL, rho, List.getD_cons_zero, List.getD_cons_succ, decide_eq_true_eq, decide_eq_false_iff_not, Bool.not_eq_true', Bool.not_eq_false', Bool.and_eq_true, true_and, G, wG, xT] at *; exfalso; have B0 := toF_bd 0 x0 x1 x2 x3 x4 x5; have B1 := toF_bd 1 x0 x1 x2 x3 x4 x5; have B2 := toF_bd 2 x0 x1 x2 x3 x4 x5; have B3 := toF_bd 3 x0 x1 x2 x3 x4 x5; have Z := toF_z x0 x1 x2 x3 x4 x5; (try simp only [toF_held, toF_same 0 (by decide), toF_same 1 (by decide), toF_same 2 (by decide), toF_same 3 (by decide), not_true_eq_false] at *) <;> omega
                    · skip
                      refine way_leaf coloursHeld_n84 ?_
                      simp only [E.den, EL.den, B.den, cop_lt, cop_le, cop_eq, cop_ne, iop_add, iop_sub, iop_mul, iop_max, iop_min, iop_quo, iop_rem, iop_fdiv, iop_shl, SV.den, SV.denL, SV.ubd, SV.ubdL, rho, List.getD_cons_zero, List.getD_cons_succ, decide_eq_true_eq, decide_eq_false_iff_not, Bool.not_eq_true', Bool.not_eq_false', Bool.and_eq_true, true_and, G, wG, xT] at *; exfalso; have B0 := toF_bd 0 x0 x1 x2 x3 x4 x5; have B1 := toF_bd 1 x0 x1 x2 x3 x4 x5; have B2 := toF_bd 2 x0 x1 x2 x3 x4 x5; have B3 := toF_bd 3 x0 x1 x2 x3 x4 x5; have Z := toF_z x0 x1 x2 x3 x4 x5; (try simp only [toF_held, toF_same 0 (by decide), toF_same 1 (by decide), toF_same 2 (by decide), toF_same 3 (by decide), not_true_eq_false] at *) <;> omega
                  · skip
                    refine way_leaf coloursHeld_n85 ?_
                    simp only [E.den, EL.den, B.den, cop_lt, cop_le, cop_eq, cop_ne, iop_add, iop_sub, iop_mul, iop_max, iop_min, iop_quo, iop_rem, iop_fdiv, iop_shl, SV.den, SV.denL, SV.ubd, SV.ubdL, rho, List.getD_cons_zero, List.getD_cons_succ, decide_eq_true_eq, decide_eq_false_iff_not, Bool.not_eq_true', Bool.not_eq_false', Bool.and_eq_true, true_and, G, wG, xT] at *; exfalso; have B0 := toF_bd 0 x0 x1 x2 x3 x4 x5; have B1 := toF_bd 1 x0 x1 x2 x3 x4 x5; have B2 := toF_bd 2 x0 x1 x2 x3 x4 x5; have B3 := toF_bd 3 x0 x1 x2 x3 x4 x5; have Z := toF_z x0 x1 x2 x3 x4 x5; (try simp only [toF_held, toF_same 0 (by decide), toF_same 1 (by decide), toF_same 2 (by decide), toF_same 3 (by decide), not_true_eq_false] at *) <;> omega
                · skip
                  refine way_leaf coloursHeld_n86 ?_
                  simp only [E.den, EL.den, B.den, cop_lt, cop_le, cop_eq, cop_ne, iop_add, iop_sub, iop_mul, iop_max, iop_min, iop_quo, iop_rem, iop_fdiv, iop_shl, SV.den, SV.denL, SV.ubd, SV.ubdL, rho, List.getD_cons_zero, List.getD_cons_succ, decide_eq_true_eq, decide_eq_false_iff_not, Bool.not_eq_true', Bool.not_eq_false', Bool.and_eq_true, true_and, G, wG, xT] at *; exfalso; have B0 := toF_bd 0 x0 x1 x2 x3 x4 x5; have B1 := toF_bd 1 x0 x1 x2 x3 x4 x5; have B2 := toF_bd 2 x0 x1 x2 x3 x4 x5; have B3 := toF_bd 3 x0 x1 x2 x3 x4 x5; have Z := toF_z x0 x1 x2 x3 x4 x5; (try simp only [toF_held, toF_same 0 (by decide), toF_same 1 (by decide), toF_same 2 (by decide), toF_same 3 (by decide), not_true_eq_false] at *) <;> omega
end Go.Proofs.Ytldoimianllcdaa
