/- What is proved: the law BeziersBack, over all its ways: it is true. The conditions are the numbers' own bounds. -/
import Derived.Test.YtnhhphdhkgjbhaaCa
import Derived.Test.YtnhhphdhkgjbhaaBl
import Derived.Test.YtnhhphdhkgjbhaaLb1
set_option linter.unusedSimpArgs false
set_option linter.unusedVariables false
namespace Go.Proofs.Ytnhhphdhkgjbhaa
open Go Go.RowKit Sx Wi
set_option maxHeartbeats 8000000 in
set_option maxRecDepth 100000 in
theorem beziersBack_any (x0 x1 x2 x3 x4 x5 x6 x7 x8 x9 x10 : Int) (b0 : (-9223372036854775808) ≤ x0 ∧ x0 ≤ 9223372036854775807) (b1 : (-9223372036854775808) ≤ x1 ∧ x1 ≤ 9223372036854775807) (b2 : (-9223372036854775808) ≤ x2 ∧ x2 ≤ 9223372036854775807) (b3 : (-9223372036854775808) ≤ x3 ∧ x3 ≤ 9223372036854775807) (b4 : (-9223372036854775808) ≤ x4 ∧ x4 ≤ 9223372036854775807) (b5 : (-9223372036854775808) ≤ x5 ∧ x5 ≤ 9223372036854775807) (b6 : (-9223372036854775808) ≤ x6 ∧ x6 ≤ 9223372036854775807) (b7 : (-9223372036854775808) ≤ x7 ∧ x7 ≤ 9223372036854775807) (b8 : (-9223372036854775808) ≤ x8 ∧ x8 ≤ 9223372036854775807) (b9 : (-9223372036854775808) ≤ x9 ∧ x9 ≤ 9223372036854775807) (b10 : (-9223372036854775808) ≤ x10 ∧ x10 ≤ 9223372036854775807) (w : World) (hw : WOk GB w) : Calls Try.prog 5 #[(.agg #[.int .i64 x0, .int .i64 x1, .int .i64 x2, .int .i64 x3, .int .i64 x4, .int .i64 x5, .int .i64 x6, .int .i64 x7]), (.agg #[.int .i64 x8, .int .i64 x9, .int .i64 x10])] w (fun e w' => e = .returned (.bool true) ∧ Below w.heap.size w w') := by
  refine (calls_eq (way_calls2 (ρ := rho [x0, x1, x2, x3, x4, x5, x6, x7, x8, x9, x10]) (run := fun fs => exFun Try.prog (Ctx.more ⟨G, GI, [((-9223372036854775808), 9223372036854775807), ((-9223372036854775808), 9223372036854775807), ((-9223372036854775808), 9223372036854775807), ((-9223372036854775808), 9223372036854775807), ((-9223372036854775808), 9223372036854775807), ((-9223372036854775808), 9223372036854775807), ((-9223372036854775808), 9223372036854775807), ((-9223372036854775808), 9223372036854775807), ((-9223372036854775808), 9223372036854775807), ((-9223372036854775808), 9223372036854775807), ((-9223372036854775808), 9223372036854775807)], fs⟩) GB ct_edge 4000 5 [(.agg [(.int .i64 (.var 0)), (.int .i64 (.var 1)), (.int .i64 (.var 2)), (.int .i64 (.var 3)), (.int .i64 (.var 4)), (.int .i64 (.var 5)), (.int .i64 (.var 6)), (.int .i64 (.var 7))]), (.agg [(.int .i64 (.var 8)), (.int .i64 (.var 9)), (.int .i64 (.var 10))])]) (fun _ => rfl) (by kernel_rfl) (within_get ⟨b0, b1, b2, b3, b4, b5, b6, b7, b8, b9, b10, trivial⟩) gi_ok (fun fs hf => ct_edge_ok (X := ⟨G, GI, _, fs⟩) ⟨within_get ⟨b0, b1, b2, b3, b4, b5, b6, b7, b8, b9, b10, trivial⟩, hf, gi_ok⟩ rfl) rfl rfl gbApart_nil ?_ w hw)).2
  refine way_need beziersBack_n0 (fun h0 => ?_) (fun h0 => ?_)
  · skip
    refine way_leaf beziersBack_n1 ?_
    exact ⟨rfl, rfl⟩
  · skip
    refine way_need beziersBack_n2 (fun h1 => ?_) (fun h1 => ?_)
    · skip
      refine way_leaf beziersBack_n3 ?_
      exact ⟨rfl, rfl⟩
    · skip
      refine way_need beziersBack_n4 (fun h2 => ?_) (fun h2 => ?_)
      · skip
        refine way_leaf beziersBack_n5 ?_
        exact ⟨rfl, rfl⟩
      · skip
        refine way_need beziersBack_n6 (fun h3 => ?_) (fun h3 => ?_)
        · skip
          refine way_leaf beziersBack_n7 ?_
          exact ⟨rfl, rfl⟩
        · skip
          refine way_need beziersBack_n8 (fun h4 => ?_) (fun h4 => ?_)
          · skip
            refine way_need beziersBack_n9 (fun h5 => ?_) (fun h5 => ?_)
            · skip
              refine way_need beziersBack_n10 (fun h6 => ?_) (fun h6 => ?_)
              · skip
                refine way_need beziersBack_n11 (fun h7 => ?_) (fun h7 => ?_)
                · skip
                  refine way_leaf beziersBack_n12 ?_
                  exact ⟨rfl, rfl⟩
                · skip
                  refine way_leaf beziersBack_n13 ?_
                  (try simp only [← Bool.not_eq_true, edge_iff] at *); simp only [E.den, EL.den, B.den, cop_lt, cop_le, cop_eq, cop_ne, iop_add, iop_sub, iop_mul, iop_max, iop_min, iop_quo, iop_rem, iop_fdiv, iop_shl, SV.den, SV.denL, SV.ubd, SV.ubdL, rho, List.getD_cons_zero, List.getD_cons_succ, decide_eq_true_eq, decide_eq_false_iff_not, Bool.not_eq_true', Bool.not_eq_false', Bool.and_eq_true, true_and, G, wG, xG10, xG11] at *; (try simp only [show ∀ k : Int, 1 * 2 ^ k.toNat = p2 k from fun _ => rfl] at *); (try simp only [fdiv_256] at *); exfalso; have EB := eOk2_back x0 x1 x2 x3 x4 x5 x6 x7 x8 x10; have E1 := eX_back x0 x2 x4 x6 x8 x10; have E2 := eX_back x1 x3 x5 x7 x8 x10; simp_all
              · skip
                refine way_leaf beziersBack_n14 ?_
                (try simp only [← Bool.not_eq_true, edge_iff] at *); simp only [E.den, EL.den, B.den, cop_lt, cop_le, cop_eq, cop_ne, iop_add, iop_sub, iop_mul, iop_max, iop_min, iop_quo, iop_rem, iop_fdiv, iop_shl, SV.den, SV.denL, SV.ubd, SV.ubdL, rho, List.getD_cons_zero, List.getD_cons_succ, decide_eq_true_eq, decide_eq_false_iff_not, Bool.not_eq_true', Bool.not_eq_false', Bool.and_eq_true, true_and, G, wG, xG10, xG11] at *; (try simp only [show ∀ k : Int, 1 * 2 ^ k.toNat = p2 k from fun _ => rfl] at *); (try simp only [fdiv_256] at *); exfalso; have EB := eOk2_back x0 x1 x2 x3 x4 x5 x6 x7 x8 x10; have E1 := eX_back x0 x2 x4 x6 x8 x10; have E2 := eX_back x1 x3 x5 x7 x8 x10; simp_all
            · skip
              refine way_need beziersBack_n15 (fun h6 => ?_) (fun h6 => ?_)
              · skip
                refine way_need beziersBack_n16 (fun h7 => ?_) (fun h7 => ?_)
                · skip
                  refine way_leaf beziersBack_n17 ?_
                  (try simp only [← Bool.not_eq_true, edge_iff] at *); simp only [E.den, EL.den, B.den, cop_lt, cop_le, cop_eq, cop_ne, iop_add, iop_sub, iop_mul, iop_max, iop_min, iop_quo, iop_rem, iop_fdiv, iop_shl, SV.den, SV.denL, SV.ubd, SV.ubdL, rho, List.getD_cons_zero, List.getD_cons_succ, decide_eq_true_eq, decide_eq_false_iff_not, Bool.not_eq_true', Bool.not_eq_false', Bool.and_eq_true, true_and, G, wG, xG10, xG11] at *; (try simp only [show ∀ k : Int, 1 * 2 ^ k.toNat = p2 k from fun _ => rfl] at *); (try simp only [fdiv_256] at *); exfalso; have EB := eOk2_back x0 x1 x2 x3 x4 x5 x6 x7 x8 x10; have E1 := eX_back x0 x2 x4 x6 x8 x10; have E2 := eX_back x1 x3 x5 x7 x8 x10; simp_all
                · skip
                  refine way_leaf beziersBack_n18 ?_
                  (try simp only [← Bool.not_eq_true, edge_iff] at *); simp only [E.den, EL.den, B.den, cop_lt, cop_le, cop_eq, cop_ne, iop_add, iop_sub, iop_mul, iop_max, iop_min, iop_quo, iop_rem, iop_fdiv, iop_shl, SV.den, SV.denL, SV.ubd, SV.ubdL, rho, List.getD_cons_zero, List.getD_cons_succ, decide_eq_true_eq, decide_eq_false_iff_not, Bool.not_eq_true', Bool.not_eq_false', Bool.and_eq_true, true_and, G, wG, xG10, xG11] at *; (try simp only [show ∀ k : Int, 1 * 2 ^ k.toNat = p2 k from fun _ => rfl] at *); (try simp only [fdiv_256] at *); exfalso; have EB := eOk2_back x0 x1 x2 x3 x4 x5 x6 x7 x8 x10; have E1 := eX_back x0 x2 x4 x6 x8 x10; have E2 := eX_back x1 x3 x5 x7 x8 x10; simp_all
              · skip
                refine way_leaf beziersBack_n19 ?_
                (try simp only [← Bool.not_eq_true, edge_iff] at *); simp only [E.den, EL.den, B.den, cop_lt, cop_le, cop_eq, cop_ne, iop_add, iop_sub, iop_mul, iop_max, iop_min, iop_quo, iop_rem, iop_fdiv, iop_shl, SV.den, SV.denL, SV.ubd, SV.ubdL, rho, List.getD_cons_zero, List.getD_cons_succ, decide_eq_true_eq, decide_eq_false_iff_not, Bool.not_eq_true', Bool.not_eq_false', Bool.and_eq_true, true_and, G, wG, xG10, xG11] at *; (try simp only [show ∀ k : Int, 1 * 2 ^ k.toNat = p2 k from fun _ => rfl] at *); (try simp only [fdiv_256] at *); exfalso; have EB := eOk2_back x0 x1 x2 x3 x4 x5 x6 x7 x8 x10; have E1 := eX_back x0 x2 x4 x6 x8 x10; have E2 := eX_back x1 x3 x5 x7 x8 x10; simp_all
          · skip
            refine way_need beziersBack_n20 (fun h5 => ?_) (fun h5 => ?_)
            · skip
              refine way_need beziersBack_n21 (fun h6 => ?_) (fun h6 => ?_)
              · skip
                refine way_need beziersBack_n22 (fun h7 => ?_) (fun h7 => ?_)
                · skip
                  refine way_leaf beziersBack_n23 ?_
                  exact ⟨rfl, rfl⟩
                · skip
                  refine way_leaf beziersBack_n24 ?_
                  (try simp only [← Bool.not_eq_true, edge_iff] at *); simp only [E.den, EL.den, B.den, cop_lt, cop_le, cop_eq, cop_ne, iop_add, iop_sub, iop_mul, iop_max, iop_min, iop_quo, iop_rem, iop_fdiv, iop_shl, SV.den, SV.denL, SV.ubd, SV.ubdL, rho, List.getD_cons_zero, List.getD_cons_succ, decide_eq_true_eq, decide_eq_false_iff_not, Bool.not_eq_true', Bool.not_eq_false', Bool.and_eq_true, true_and, G, wG, xG10, xG11] at *; (try simp only [show ∀ k : Int, 1 * 2 ^ k.toNat = p2 k from fun _ => rfl] at *); (try simp only [fdiv_256] at *); exfalso; have EB := eOk2_back x0 x1 x2 x3 x4 x5 x6 x7 x8 x10; have E1 := eX_back x0 x2 x4 x6 x8 x10; have E2 := eX_back x1 x3 x5 x7 x8 x10; simp_all
              · skip
                refine way_leaf beziersBack_n25 ?_
                (try simp only [← Bool.not_eq_true, edge_iff] at *); simp only [E.den, EL.den, B.den, cop_lt, cop_le, cop_eq, cop_ne, iop_add, iop_sub, iop_mul, iop_max, iop_min, iop_quo, iop_rem, iop_fdiv, iop_shl, SV.den, SV.denL, SV.ubd, SV.ubdL, rho, List.getD_cons_zero, List.getD_cons_succ, decide_eq_true_eq, decide_eq_false_iff_not, Bool.not_eq_true', Bool.not_eq_false', Bool.and_eq_true, true_and, G, wG, xG10, xG11] at *; (try simp only [show ∀ k : Int, 1 * 2 ^ k.toNat = p2 k from fun _ => rfl] at *); (try simp only [fdiv_256] at *); exfalso; have EB := eOk2_back x0 x1 x2 x3 x4 x5 x6 x7 x8 x10; have E1 := eX_back x0 x2 x4 x6 x8 x10; have E2 := eX_back x1 x3 x5 x7 x8 x10; simp_all
            · skip
              refine way_leaf beziersBack_n26 ?_
              exact ⟨rfl, rfl⟩
end Go.Proofs.Ytnhhphdhkgjbhaa
