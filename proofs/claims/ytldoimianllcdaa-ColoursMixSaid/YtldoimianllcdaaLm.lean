/- What is proved: the law ColoursMix, over all its ways: it is true. The conditions are the numbers' own bounds. -/
import Derived.Test.YtldoimianllcdaaCa
import Derived.Test.YtldoimianllcdaaTl
import Derived.Test.YtldoimianllcdaaLm1
set_option linter.unusedSimpArgs false
set_option linter.unusedVariables false
namespace Go.Proofs.Ytldoimianllcdaa
open Go Go.RowKit Sx Wi
set_option maxHeartbeats 8000000 in
set_option maxRecDepth 100000 in
theorem coloursMix_any (x0 x1 x2 x3 : Int) (b0 : 0 ≤ x0 ∧ x0 ≤ 255) (b1 : 0 ≤ x1 ∧ x1 ≤ 255) (b2 : (-9223372036854775808) ≤ x2 ∧ x2 ≤ 9223372036854775807) (b3 : 0 ≤ x3 ∧ x3 ≤ 255) (w : World) (hw : WOk GB w) : Calls Try.prog 8 #[(.agg #[.int .u8 x0, .int .u8 x1, .int .i64 x2]), .int .u8 x3] w (fun e w' => e = .returned (.bool true) ∧ Below w.heap.size w w') := by
  refine (calls_eq (way_calls2 (ρ := rho [x0, x1, x2, x3]) (run := fun fs => exFun Try.prog (Ctx.more ⟨G, GI, [(0, 255), (0, 255), ((-9223372036854775808), 9223372036854775807), (0, 255)], fs⟩) GB ct_to 4000 8 [(.agg [(.int .u8 (.var 0)), (.int .u8 (.var 1)), (.int .i64 (.var 2))]), (.int .u8 (.var 3))]) (fun _ => rfl) (by kernel_rfl) (within_get ⟨b0, b1, b2, b3, trivial⟩) gi_ok (fun fs hf => ct_to_ok (X := ⟨G, GI, _, fs⟩) ⟨within_get ⟨b0, b1, b2, b3, trivial⟩, hf, gi_ok⟩ rfl) rfl rfl gbApart_nil ?_ w hw)).2
  refine way_need coloursMix_n0 (fun h0 => ?_) (fun h0 => ?_)
  · skip
    refine way_need coloursMix_n1 (fun h1 => ?_) (fun h1 => ?_)
    · skip
      refine way_need coloursMix_n2 (fun h2 => ?_) (fun h2 => ?_)
      · skip
        refine way_need coloursMix_n3 (fun h3 => ?_) (fun h3 => ?_)
        · skip
          refine way_leaf coloursMix_n4 ?_
          exact ⟨rfl, rfl⟩
        · skip
          refine way_leaf coloursMix_n5 ?_
          simp only [E.den, EL.den, B.den, cop_lt, cop_le, cop_eq, cop_ne, iop_add, iop_sub, iop_mul, iop_max, iop_min, iop_quo, iop_rem, iop_fdiv, iop_shl, SV.den, SV.denL, SV.ubd, SV.ubdL, rho, List.getD_cons_zero, List.getD_cons_succ, decide_eq_true_eq, decide_eq_false_iff_not, Bool.not_eq_true', Bool.not_eq_false', Bool.and_eq_true, true_and, G, wG, xT] at *; (try simp only [fd16, IntKind.wrap_u8] at *); have r0 : 0 ≤ x3.tmod 17 := Int.tmod_nonneg _ (by omega); generalize x3.tmod 17 = r at *; have m1 := mixq (x1 - x0) (min (max x2 0) 16) (by omega) (by omega); have m2 := mixq (x1 - x0) (min (max (max 0 (min 16 x2) + r) 0) 16) (by omega) (by omega); have m3 := mixm (x1 - x0) (min (max x2 0) 16) (min (max (max 0 (min 16 x2) + r) 0) 16) (by omega); generalize (x1 - x0) * (min (max x2 0) 16) = P at *; generalize (x1 - x0) * (min (max (max 0 (min 16 x2) + r) 0) 16) = Q at *; exfalso; omega
      · skip
        refine way_leaf coloursMix_n6 ?_
        simp only [E.den, EL.den, B.den, cop_lt, cop_le, cop_eq, cop_ne, iop_add, iop_sub, iop_mul, iop_max, iop_min, iop_quo, iop_rem, iop_fdiv, iop_shl, SV.den, SV.denL, SV.ubd, SV.ubdL, rho, List.getD_cons_zero, List.getD_cons_succ, decide_eq_true_eq, decide_eq_false_iff_not, Bool.not_eq_true', Bool.not_eq_false', Bool.and_eq_true, true_and, G, wG, xT] at *; (try simp only [fd16, IntKind.wrap_u8] at *); have r0 : 0 ≤ x3.tmod 17 := Int.tmod_nonneg _ (by omega); generalize x3.tmod 17 = r at *; have m1 := mixq (x1 - x0) (min (max x2 0) 16) (by omega) (by omega); have m2 := mixq (x1 - x0) (min (max (max 0 (min 16 x2) + r) 0) 16) (by omega) (by omega); have m3 := mixm (x1 - x0) (min (max x2 0) 16) (min (max (max 0 (min 16 x2) + r) 0) 16) (by omega); generalize (x1 - x0) * (min (max x2 0) 16) = P at *; generalize (x1 - x0) * (min (max (max 0 (min 16 x2) + r) 0) 16) = Q at *; exfalso; omega
    · skip
      refine way_leaf coloursMix_n7 ?_
      simp only [E.den, EL.den, B.den, cop_lt, cop_le, cop_eq, cop_ne, iop_add, iop_sub, iop_mul, iop_max, iop_min, iop_quo, iop_rem, iop_fdiv, iop_shl, SV.den, SV.denL, SV.ubd, SV.ubdL, rho, List.getD_cons_zero, List.getD_cons_succ, decide_eq_true_eq, decide_eq_false_iff_not, Bool.not_eq_true', Bool.not_eq_false', Bool.and_eq_true, true_and, G, wG, xT] at *; (try simp only [fd16, IntKind.wrap_u8] at *); have r0 : 0 ≤ x3.tmod 17 := Int.tmod_nonneg _ (by omega); generalize x3.tmod 17 = r at *; have m1 := mixq (x1 - x0) (min (max x2 0) 16) (by omega) (by omega); have m2 := mixq (x1 - x0) (min (max (max 0 (min 16 x2) + r) 0) 16) (by omega) (by omega); have m3 := mixm (x1 - x0) (min (max x2 0) 16) (min (max (max 0 (min 16 x2) + r) 0) 16) (by omega); generalize (x1 - x0) * (min (max x2 0) 16) = P at *; generalize (x1 - x0) * (min (max (max 0 (min 16 x2) + r) 0) 16) = Q at *; exfalso; omega
  · skip
    refine way_leaf coloursMix_n8 ?_
    simp only [E.den, EL.den, B.den, cop_lt, cop_le, cop_eq, cop_ne, iop_add, iop_sub, iop_mul, iop_max, iop_min, iop_quo, iop_rem, iop_fdiv, iop_shl, SV.den, SV.denL, SV.ubd, SV.ubdL, rho, List.getD_cons_zero, List.getD_cons_succ, decide_eq_true_eq, decide_eq_false_iff_not, Bool.not_eq_true', Bool.not_eq_false', Bool.and_eq_true, true_and, G, wG, xT] at *; (try simp only [fd16, IntKind.wrap_u8] at *); have r0 : 0 ≤ x3.tmod 17 := Int.tmod_nonneg _ (by omega); generalize x3.tmod 17 = r at *; have m1 := mixq (x1 - x0) (min (max x2 0) 16) (by omega) (by omega); have m2 := mixq (x1 - x0) (min (max (max 0 (min 16 x2) + r) 0) 16) (by omega) (by omega); have m3 := mixm (x1 - x0) (min (max x2 0) 16) (min (max (max 0 (min 16 x2) + r) 0) 16) (by omega); generalize (x1 - x0) * (min (max x2 0) 16) = P at *; generalize (x1 - x0) * (min (max (max 0 (min 16 x2) + r) 0) 16) = Q at *; exfalso; omega
end Go.Proofs.Ytldoimianllcdaa
