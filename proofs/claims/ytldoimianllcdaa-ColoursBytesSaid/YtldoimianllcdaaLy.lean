/- What is proved: the law ColoursBytes, over all its ways: it is true. The conditions are the numbers' own bounds. -/
import Derived.Test.YtldoimianllcdaaCa
import Derived.Test.YtldoimianllcdaaTl
import Derived.Test.YtldoimianllcdaaLy1
set_option linter.unusedSimpArgs false
set_option linter.unusedVariables false
namespace Go.Proofs.Ytldoimianllcdaa
open Go Go.RowKit Sx Wi
set_option maxHeartbeats 8000000 in
set_option maxRecDepth 100000 in
theorem coloursBytes_any (x0 x1 x2 : Int) (b0 : (-2147483648) ≤ x0 ∧ x0 ≤ 2147483647) (b1 : (-2147483648) ≤ x1 ∧ x1 ≤ 2147483647) (b2 : 0 ≤ x2 ∧ x2 ≤ 255) (w : World) (hw : WOk GB w) : Calls Try.prog 7 #[.int .i32 x0, .int .i32 x1, .int .u8 x2] w (fun e w' => e = .returned (.bool true) ∧ Below w.heap.size w w') := by
  refine (calls_eq (way_calls2 (ρ := rho [x0, x1, x2]) (run := fun fs => exFun Try.prog (Ctx.more ⟨G, GI, [((-2147483648), 2147483647), ((-2147483648), 2147483647), (0, 255)], fs⟩) GB ct_to 4000 7 [(.int .i32 (.var 0)), (.int .i32 (.var 1)), (.int .u8 (.var 2))]) (fun _ => rfl) (by kernel_rfl) (within_get ⟨b0, b1, b2, trivial⟩) gi_ok (fun fs hf => ct_to_ok (X := ⟨G, GI, _, fs⟩) ⟨within_get ⟨b0, b1, b2, trivial⟩, hf, gi_ok⟩ rfl) rfl rfl gbApart_nil ?_ w hw)).2
  refine way_need coloursBytes_n0 (fun h0 => ?_) (fun h0 => ?_)
  · skip
    refine way_need coloursBytes_n1 (fun h1 => ?_) (fun h1 => ?_)
    · skip
      refine way_need coloursBytes_n2 (fun h2 => ?_) (fun h2 => ?_)
      · skip
        refine way_leaf coloursBytes_n3 ?_
        exact ⟨rfl, rfl⟩
      · skip
        refine way_leaf coloursBytes_n4 ?_
        simp only [E.den, EL.den, B.den, cop_lt, cop_le, cop_eq, cop_ne, iop_add, iop_sub, iop_mul, iop_max, iop_min, iop_quo, iop_rem, iop_fdiv, iop_shl, SV.den, SV.denL, SV.ubd, SV.ubdL, rho, List.getD_cons_zero, List.getD_cons_succ, decide_eq_true_eq, decide_eq_false_iff_not, Bool.not_eq_true', Bool.not_eq_false', Bool.and_eq_true, true_and, G, wG, xT] at *; have q : (x2 * 65536 + 127).tdiv 255 = (x2 * 65536 + 127) / 255 := Int.tdiv_eq_ediv_of_nonneg (by omega); (try simp only [q, fd65536] at *); exfalso; omega
    · skip
      refine way_leaf coloursBytes_n5 ?_
      simp only [E.den, EL.den, B.den, cop_lt, cop_le, cop_eq, cop_ne, iop_add, iop_sub, iop_mul, iop_max, iop_min, iop_quo, iop_rem, iop_fdiv, iop_shl, SV.den, SV.denL, SV.ubd, SV.ubdL, rho, List.getD_cons_zero, List.getD_cons_succ, decide_eq_true_eq, decide_eq_false_iff_not, Bool.not_eq_true', Bool.not_eq_false', Bool.and_eq_true, true_and, G, wG, xT] at *; have q : (x2 * 65536 + 127).tdiv 255 = (x2 * 65536 + 127) / 255 := Int.tdiv_eq_ediv_of_nonneg (by omega); (try simp only [q, fd65536] at *); exfalso; omega
  · skip
    refine way_need coloursBytes_n6 (fun h1 => ?_) (fun h1 => ?_)
    · skip
      refine way_need coloursBytes_n7 (fun h2 => ?_) (fun h2 => ?_)
      · skip
        refine way_leaf coloursBytes_n8 ?_
        exact ⟨rfl, rfl⟩
      · skip
        refine way_leaf coloursBytes_n9 ?_
        simp only [E.den, EL.den, B.den, cop_lt, cop_le, cop_eq, cop_ne, iop_add, iop_sub, iop_mul, iop_max, iop_min, iop_quo, iop_rem, iop_fdiv, iop_shl, SV.den, SV.denL, SV.ubd, SV.ubdL, rho, List.getD_cons_zero, List.getD_cons_succ, decide_eq_true_eq, decide_eq_false_iff_not, Bool.not_eq_true', Bool.not_eq_false', Bool.and_eq_true, true_and, G, wG, xT] at *; have q : (x2 * 65536 + 127).tdiv 255 = (x2 * 65536 + 127) / 255 := Int.tdiv_eq_ediv_of_nonneg (by omega); (try simp only [q, fd65536] at *); exfalso; omega
    · skip
      refine way_leaf coloursBytes_n10 ?_
      simp only [E.den, EL.den, B.den, cop_lt, cop_le, cop_eq, cop_ne, iop_add, iop_sub, iop_mul, iop_max, iop_min, iop_quo, iop_rem, iop_fdiv, iop_shl, SV.den, SV.denL, SV.ubd, SV.ubdL, rho, List.getD_cons_zero, List.getD_cons_succ, decide_eq_true_eq, decide_eq_false_iff_not, Bool.not_eq_true', Bool.not_eq_false', Bool.and_eq_true, true_and, G, wG, xT] at *; have q : (x2 * 65536 + 127).tdiv 255 = (x2 * 65536 + 127) / 255 := Int.tdiv_eq_ediv_of_nonneg (by omega); (try simp only [q, fd65536] at *); exfalso; omega
end Go.Proofs.Ytldoimianllcdaa
