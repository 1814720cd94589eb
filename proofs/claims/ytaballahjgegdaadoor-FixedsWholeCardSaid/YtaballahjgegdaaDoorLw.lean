/- What is proved: the law FixedsWhole, over all its ways: it is true. The conditions are the numbers' own bounds. -/
import Derived.Test.YtaballahjgegdaaDoorCa
import Derived.Test.YtaballahjgegdaaDoorLw1
import Derived.Test.YtaballahjgegdaaDoorLw2
import Derived.Test.YtaballahjgegdaaDoorLw3
import Derived.Test.YtaballahjgegdaaDoorLw4
import Derived.Test.YtaballahjgegdaaDoorLw5
import Derived.Test.YtaballahjgegdaaDoorLw6
set_option linter.unusedSimpArgs false
set_option linter.unusedVariables false
namespace Go.Proofs.YtaballahjgegdaaDoor
open Go Go.RowKit Sx Wi
set_option maxRecDepth 100000 in
theorem fixedsWhole_any (x0 : Int) (b0 : (-2147483648) ≤ x0 ∧ x0 ≤ 2147483647) (w : World) (hw : WOk GB w) : Calls Tryd.prog 4 #[.int .i32 x0] w (fun e w' => e = .returned (.bool true) ∧ Below w.heap.size w w') := by
  refine (calls_eq (way_calls (ρ := rho [x0]) (run := fun fs => exFun Tryd.prog ⟨G, GI, [((-2147483648), 2147483647)], fs⟩ GB ct_ftrunc 4000 4 [(.int .i32 (.var 0))]) (fun _ => rfl) (by kernel_rfl) (within_get ⟨b0, trivial⟩) gi_ok (fun fs hf => ct_ftrunc_ok (X := ⟨G, GI, _, fs⟩) ⟨within_get ⟨b0, trivial⟩, hf, gi_ok⟩ rfl) rfl gb_flat gb_apart ?_ w hw)).2
  refine way_need fixedsWhole_n0 (fun h0 => ?_) (fun h0 => ?_)
  · skip
    refine way_leaf fixedsWhole_n1 ?_
    exact ⟨rfl, rfl⟩
  · skip
    refine way_need fixedsWhole_n2 (fun h1 => ?_) (fun h1 => ?_)
    · skip
      refine way_leaf fixedsWhole_n3 ?_
      exact ⟨rfl, rfl⟩
    · skip
      refine way_need fixedsWhole_n4 (fun h2 => ?_) (fun h2 => ?_)
      · skip
        refine way_leaf fixedsWhole_n5 ?_
        simp only [E.den, EL.den, B.den, cop_lt, cop_le, cop_eq, cop_ne, iop_add, iop_sub, iop_mul, iop_max, iop_min, iop_quo, iop_rem, iop_fdiv, SV.den, SV.denL, SV.ubd, SV.ubdL, rho, List.getD_cons_zero, List.getD_cons_succ, decide_eq_true_eq, decide_eq_false_iff_not, Bool.not_eq_true', Bool.not_eq_false', Bool.and_eq_true, true_and, G, wG, xG3, xG4, xG5, xG6, xG7, xG8, xG9] at *; exfalso; first | omega | (have hr : -2147418112 ≤ x0 ∧ x0 ≤ 2147418111 := (by omega); have ef := Fx.floor_at hr.1 hr.2; have ec := Fx.ceil_at hr.1 hr.2; have er := Fx.round_at hr.1 hr.2; have et := Fx.trunc_at hr.1 hr.2; simp only [ef, ec, er, not_true_eq_false, Int.mul_tmod_left, IntKind.wrap_i32, wrap32] at * <;> omega)
      · skip
        refine way_need fixedsWhole_n6 (fun h3 => ?_) (fun h3 => ?_)
        · skip
          refine way_leaf fixedsWhole_n7 ?_
          simp only [E.den, EL.den, B.den, cop_lt, cop_le, cop_eq, cop_ne, iop_add, iop_sub, iop_mul, iop_max, iop_min, iop_quo, iop_rem, iop_fdiv, SV.den, SV.denL, SV.ubd, SV.ubdL, rho, List.getD_cons_zero, List.getD_cons_succ, decide_eq_true_eq, decide_eq_false_iff_not, Bool.not_eq_true', Bool.not_eq_false', Bool.and_eq_true, true_and, G, wG, xG3, xG4, xG5, xG6, xG7, xG8, xG9] at *; exfalso; first | omega | (have hr : -2147418112 ≤ x0 ∧ x0 ≤ 2147418111 := (by omega); have ef := Fx.floor_at hr.1 hr.2; have ec := Fx.ceil_at hr.1 hr.2; have er := Fx.round_at hr.1 hr.2; have et := Fx.trunc_at hr.1 hr.2; simp only [ef, ec, er, not_true_eq_false, Int.mul_tmod_left, IntKind.wrap_i32, wrap32] at * <;> omega)
        · skip
          refine way_need fixedsWhole_n8 (fun h4 => ?_) (fun h4 => ?_)
          · skip
            refine way_leaf fixedsWhole_n9 ?_
            simp only [E.den, EL.den, B.den, cop_lt, cop_le, cop_eq, cop_ne, iop_add, iop_sub, iop_mul, iop_max, iop_min, iop_quo, iop_rem, iop_fdiv, SV.den, SV.denL, SV.ubd, SV.ubdL, rho, List.getD_cons_zero, List.getD_cons_succ, decide_eq_true_eq, decide_eq_false_iff_not, Bool.not_eq_true', Bool.not_eq_false', Bool.and_eq_true, true_and, G, wG, xG3, xG4, xG5, xG6, xG7, xG8, xG9] at *; exfalso; first | omega | (have hr : -2147418112 ≤ x0 ∧ x0 ≤ 2147418111 := (by omega); have ef := Fx.floor_at hr.1 hr.2; have ec := Fx.ceil_at hr.1 hr.2; have er := Fx.round_at hr.1 hr.2; have et := Fx.trunc_at hr.1 hr.2; simp only [ef, ec, er, not_true_eq_false, Int.mul_tmod_left, IntKind.wrap_i32, wrap32] at * <;> omega)
          · skip
            refine way_need fixedsWhole_n10 (fun h5 => ?_) (fun h5 => ?_)
            · skip
              refine way_leaf fixedsWhole_n11 ?_
              simp only [E.den, EL.den, B.den, cop_lt, cop_le, cop_eq, cop_ne, iop_add, iop_sub, iop_mul, iop_max, iop_min, iop_quo, iop_rem, iop_fdiv, SV.den, SV.denL, SV.ubd, SV.ubdL, rho, List.getD_cons_zero, List.getD_cons_succ, decide_eq_true_eq, decide_eq_false_iff_not, Bool.not_eq_true', Bool.not_eq_false', Bool.and_eq_true, true_and, G, wG, xG3, xG4, xG5, xG6, xG7, xG8, xG9] at *; exfalso; first | omega | (have hr : -2147418112 ≤ x0 ∧ x0 ≤ 2147418111 := (by omega); have ef := Fx.floor_at hr.1 hr.2; have ec := Fx.ceil_at hr.1 hr.2; have er := Fx.round_at hr.1 hr.2; have et := Fx.trunc_at hr.1 hr.2; simp only [ef, ec, er, not_true_eq_false, Int.mul_tmod_left, IntKind.wrap_i32, wrap32] at * <;> omega)
            · skip
              refine way_need fixedsWhole_n12 (fun h6 => ?_) (fun h6 => ?_)
              · skip
                refine way_need fixedsWhole_n13 (fun h7 => ?_) (fun h7 => ?_)
                · skip
                  refine way_leaf fixedsWhole_n14 ?_
                  simp only [E.den, EL.den, B.den, cop_lt, cop_le, cop_eq, cop_ne, iop_add, iop_sub, iop_mul, iop_max, iop_min, iop_quo, iop_rem, iop_fdiv, SV.den, SV.denL, SV.ubd, SV.ubdL, rho, List.getD_cons_zero, List.getD_cons_succ, decide_eq_true_eq, decide_eq_false_iff_not, Bool.not_eq_true', Bool.not_eq_false', Bool.and_eq_true, true_and, G, wG, xG3, xG4, xG5, xG6, xG7, xG8, xG9] at *; exfalso; first | omega | (have hr : -2147418112 ≤ x0 ∧ x0 ≤ 2147418111 := (by omega); have ef := Fx.floor_at hr.1 hr.2; have ec := Fx.ceil_at hr.1 hr.2; have er := Fx.round_at hr.1 hr.2; have et := Fx.trunc_at hr.1 hr.2; simp only [ef, ec, er, not_true_eq_false, Int.mul_tmod_left, IntKind.wrap_i32, wrap32] at * <;> omega)
                · skip
                  refine way_need fixedsWhole_n15 (fun h8 => ?_) (fun h8 => ?_)
                  · skip
                    refine way_need fixedsWhole_n16 (fun h9 => ?_) (fun h9 => ?_)
                    · skip
                      refine way_need fixedsWhole_n17 (fun h10 => ?_) (fun h10 => ?_)
                      · skip
                        refine way_leaf fixedsWhole_n18 ?_
                        simp only [E.den, EL.den, B.den, cop_lt, cop_le, cop_eq, cop_ne, iop_add, iop_sub, iop_mul, iop_max, iop_min, iop_quo, iop_rem, iop_fdiv, SV.den, SV.denL, SV.ubd, SV.ubdL, rho, List.getD_cons_zero, List.getD_cons_succ, decide_eq_true_eq, decide_eq_false_iff_not, Bool.not_eq_true', Bool.not_eq_false', Bool.and_eq_true, true_and, G, wG, xG3, xG4, xG5, xG6, xG7, xG8, xG9] at *; exfalso; first | omega | (have hr : -2147418112 ≤ x0 ∧ x0 ≤ 2147418111 := (by omega); have ef := Fx.floor_at hr.1 hr.2; have ec := Fx.ceil_at hr.1 hr.2; have er := Fx.round_at hr.1 hr.2; have et := Fx.trunc_at hr.1 hr.2; simp only [ef, ec, er, not_true_eq_false, Int.mul_tmod_left, IntKind.wrap_i32, wrap32] at * <;> omega)
                      · skip
                        refine way_need fixedsWhole_n19 (fun h11 => ?_) (fun h11 => ?_)
                        · skip
                          refine way_need fixedsWhole_n20 (fun h12 => ?_) (fun h12 => ?_)
                          · skip
                            refine way_leaf fixedsWhole_n21 ?_
                            simp only [E.den, EL.den, B.den, cop_lt, cop_le, cop_eq, cop_ne, iop_add, iop_sub, iop_mul, iop_max, iop_min, iop_quo, iop_rem, iop_fdiv, SV.den, SV.denL, SV.ubd, SV.ubdL, rho, List.getD_cons_zero, List.getD_cons_succ, decide_eq_true_eq, decide_eq_false_iff_not, Bool.not_eq_true', Bool.not_eq_false', Bool.and_eq_true, true_and, G, wG, xG3, xG4, xG5, xG6, xG7, xG8, xG9] at *; exfalso; first | omega | (have hr : -2147418112 ≤ x0 ∧ x0 ≤ 2147418111 := (by omega); have ef := Fx.floor_at hr.1 hr.2; have ec := Fx.ceil_at hr.1 hr.2; have er := Fx.round_at hr.1 hr.2; have et := Fx.trunc_at hr.1 hr.2; simp only [ef, ec, er, not_true_eq_false, Int.mul_tmod_left, IntKind.wrap_i32, wrap32] at * <;> omega)
                          · skip
                            refine way_need fixedsWhole_n22 (fun h13 => ?_) (fun h13 => ?_)
                            · skip
                              refine way_need fixedsWhole_n23 (fun h14 => ?_) (fun h14 => ?_)
                              · skip
                                refine way_leaf fixedsWhole_n24 ?_
                                simp only [E.den, EL.den, B.den, cop_lt, cop_le, cop_eq, cop_ne, iop_add, iop_sub, iop_mul, iop_max, iop_min, iop_quo, iop_rem, iop_fdiv, SV.den, SV.denL, SV.ubd, SV.ubdL, rho, List.getD_cons_zero, List.getD_cons_succ, decide_eq_true_eq, decide_eq_false_iff_not, Bool.not_eq_true', Bool.not_eq_false', Bool.and_eq_true, true_and, G, wG, xG3, xG4, xG5, xG6, xG7, xG8, xG9] at *; exfalso; first | omega | (have hr : -2147418112 ≤ x0 ∧ x0 ≤ 2147418111 := (by omega); have ef := Fx.floor_at hr.1 hr.2; have ec := Fx.ceil_at hr.1 hr.2; have er := Fx.round_at hr.1 hr.2; have et := Fx.trunc_at hr.1 hr.2; simp only [ef, ec, er, not_true_eq_false, Int.mul_tmod_left, IntKind.wrap_i32, wrap32] at * <;> omega)
                              · skip
                                refine way_leaf fixedsWhole_n25 ?_
                                exact ⟨rfl, rfl⟩
                            · skip
                              refine way_leaf fixedsWhole_n26 ?_
                              simp only [E.den, EL.den, B.den, cop_lt, cop_le, cop_eq, cop_ne, iop_add, iop_sub, iop_mul, iop_max, iop_min, iop_quo, iop_rem, iop_fdiv, SV.den, SV.denL, SV.ubd, SV.ubdL, rho, List.getD_cons_zero, List.getD_cons_succ, decide_eq_true_eq, decide_eq_false_iff_not, Bool.not_eq_true', Bool.not_eq_false', Bool.and_eq_true, true_and, G, wG, xG3, xG4, xG5, xG6, xG7, xG8, xG9] at *; exfalso; first | omega | (have hr : -2147418112 ≤ x0 ∧ x0 ≤ 2147418111 := (by omega); have ef := Fx.floor_at hr.1 hr.2; have ec := Fx.ceil_at hr.1 hr.2; have er := Fx.round_at hr.1 hr.2; have et := Fx.trunc_at hr.1 hr.2; simp only [ef, ec, er, not_true_eq_false, Int.mul_tmod_left, IntKind.wrap_i32, wrap32] at * <;> omega)
                        · skip
                          refine way_need fixedsWhole_n27 (fun h12 => ?_) (fun h12 => ?_)
                          · skip
                            refine way_need fixedsWhole_n28 (fun h13 => ?_) (fun h13 => ?_)
                            · skip
                              refine way_leaf fixedsWhole_n29 ?_
                              exact ⟨rfl, rfl⟩
                            · skip
                              refine way_leaf fixedsWhole_n30 ?_
                              simp only [E.den, EL.den, B.den, cop_lt, cop_le, cop_eq, cop_ne, iop_add, iop_sub, iop_mul, iop_max, iop_min, iop_quo, iop_rem, iop_fdiv, SV.den, SV.denL, SV.ubd, SV.ubdL, rho, List.getD_cons_zero, List.getD_cons_succ, decide_eq_true_eq, decide_eq_false_iff_not, Bool.not_eq_true', Bool.not_eq_false', Bool.and_eq_true, true_and, G, wG, xG3, xG4, xG5, xG6, xG7, xG8, xG9] at *; exfalso; first | omega | (have hr : -2147418112 ≤ x0 ∧ x0 ≤ 2147418111 := (by omega); have ef := Fx.floor_at hr.1 hr.2; have ec := Fx.ceil_at hr.1 hr.2; have er := Fx.round_at hr.1 hr.2; have et := Fx.trunc_at hr.1 hr.2; simp only [ef, ec, er, not_true_eq_false, Int.mul_tmod_left, IntKind.wrap_i32, wrap32] at * <;> omega)
                          · skip
                            refine way_leaf fixedsWhole_n31 ?_
                            simp only [E.den, EL.den, B.den, cop_lt, cop_le, cop_eq, cop_ne, iop_add, iop_sub, iop_mul, iop_max, iop_min, iop_quo, iop_rem, iop_fdiv, SV.den, SV.denL, SV.ubd, SV.ubdL, rho, List.getD_cons_zero, List.getD_cons_succ, decide_eq_true_eq, decide_eq_false_iff_not, Bool.not_eq_true', Bool.not_eq_false', Bool.and_eq_true, true_and, G, wG, xG3, xG4, xG5, xG6, xG7, xG8, xG9] at *; exfalso; first | omega | (have hr : -2147418112 ≤ x0 ∧ x0 ≤ 2147418111 := (by omega); have ef := Fx.floor_at hr.1 hr.2; have ec := Fx.ceil_at hr.1 hr.2; have er := Fx.round_at hr.1 hr.2; have et := Fx.trunc_at hr.1 hr.2; simp only [ef, ec, er, not_true_eq_false, Int.mul_tmod_left, IntKind.wrap_i32, wrap32] at * <;> omega)
                    · skip
                      refine way_need fixedsWhole_n32 (fun h10 => ?_) (fun h10 => ?_)
                      · skip
                        refine way_need fixedsWhole_n33 (fun h11 => ?_) (fun h11 => ?_)
                        · skip
                          refine way_leaf fixedsWhole_n34 ?_
                          simp only [E.den, EL.den, B.den, cop_lt, cop_le, cop_eq, cop_ne, iop_add, iop_sub, iop_mul, iop_max, iop_min, iop_quo, iop_rem, iop_fdiv, SV.den, SV.denL, SV.ubd, SV.ubdL, rho, List.getD_cons_zero, List.getD_cons_succ, decide_eq_true_eq, decide_eq_false_iff_not, Bool.not_eq_true', Bool.not_eq_false', Bool.and_eq_true, true_and, G, wG, xG3, xG4, xG5, xG6, xG7, xG8, xG9] at *; exfalso; first | omega | (have hr : -2147418112 ≤ x0 ∧ x0 ≤ 2147418111 := (by omega); have ef := Fx.floor_at hr.1 hr.2; have ec := Fx.ceil_at hr.1 hr.2; have er := Fx.round_at hr.1 hr.2; have et := Fx.trunc_at hr.1 hr.2; simp only [ef, ec, er, not_true_eq_false, Int.mul_tmod_left, IntKind.wrap_i32, wrap32] at * <;> omega)
                        · skip
                          refine way_need fixedsWhole_n35 (fun h12 => ?_) (fun h12 => ?_)
                          · skip
                            refine way_need fixedsWhole_n36 (fun h13 => ?_) (fun h13 => ?_)
                            · skip
                              refine way_leaf fixedsWhole_n37 ?_
                              simp only [E.den, EL.den, B.den, cop_lt, cop_le, cop_eq, cop_ne, iop_add, iop_sub, iop_mul, iop_max, iop_min, iop_quo, iop_rem, iop_fdiv, SV.den, SV.denL, SV.ubd, SV.ubdL, rho, List.getD_cons_zero, List.getD_cons_succ, decide_eq_true_eq, decide_eq_false_iff_not, Bool.not_eq_true', Bool.not_eq_false', Bool.and_eq_true, true_and, G, wG, xG3, xG4, xG5, xG6, xG7, xG8, xG9] at *; exfalso; first | omega | (have hr : -2147418112 ≤ x0 ∧ x0 ≤ 2147418111 := (by omega); have ef := Fx.floor_at hr.1 hr.2; have ec := Fx.ceil_at hr.1 hr.2; have er := Fx.round_at hr.1 hr.2; have et := Fx.trunc_at hr.1 hr.2; simp only [ef, ec, er, not_true_eq_false, Int.mul_tmod_left, IntKind.wrap_i32, wrap32] at * <;> omega)
                            · skip
                              refine way_need fixedsWhole_n38 (fun h14 => ?_) (fun h14 => ?_)
                              · skip
                                refine way_leaf fixedsWhole_n39 ?_
                                simp only [E.den, EL.den, B.den, cop_lt, cop_le, cop_eq, cop_ne, iop_add, iop_sub, iop_mul, iop_max, iop_min, iop_quo, iop_rem, iop_fdiv, SV.den, SV.denL, SV.ubd, SV.ubdL, rho, List.getD_cons_zero, List.getD_cons_succ, decide_eq_true_eq, decide_eq_false_iff_not, Bool.not_eq_true', Bool.not_eq_false', Bool.and_eq_true, true_and, G, wG, xG3, xG4, xG5, xG6, xG7, xG8, xG9] at *; exfalso; first | omega | (have hr : -2147418112 ≤ x0 ∧ x0 ≤ 2147418111 := (by omega); have ef := Fx.floor_at hr.1 hr.2; have ec := Fx.ceil_at hr.1 hr.2; have er := Fx.round_at hr.1 hr.2; have et := Fx.trunc_at hr.1 hr.2; simp only [ef, ec, er, not_true_eq_false, Int.mul_tmod_left, IntKind.wrap_i32, wrap32] at * <;> omega)
                              · skip
                                refine way_leaf fixedsWhole_n40 ?_
                                exact ⟨rfl, rfl⟩
                          · skip
                            refine way_need fixedsWhole_n41 (fun h13 => ?_) (fun h13 => ?_)
                            · skip
                              refine way_leaf fixedsWhole_n42 ?_
                              simp only [E.den, EL.den, B.den, cop_lt, cop_le, cop_eq, cop_ne, iop_add, iop_sub, iop_mul, iop_max, iop_min, iop_quo, iop_rem, iop_fdiv, SV.den, SV.denL, SV.ubd, SV.ubdL, rho, List.getD_cons_zero, List.getD_cons_succ, decide_eq_true_eq, decide_eq_false_iff_not, Bool.not_eq_true', Bool.not_eq_false', Bool.and_eq_true, true_and, G, wG, xG3, xG4, xG5, xG6, xG7, xG8, xG9] at *; exfalso; first | omega | (have hr : -2147418112 ≤ x0 ∧ x0 ≤ 2147418111 := (by omega); have ef := Fx.floor_at hr.1 hr.2; have ec := Fx.ceil_at hr.1 hr.2; have er := Fx.round_at hr.1 hr.2; have et := Fx.trunc_at hr.1 hr.2; simp only [ef, ec, er, not_true_eq_false, Int.mul_tmod_left, IntKind.wrap_i32, wrap32] at * <;> omega)
                            · skip
                              refine way_need fixedsWhole_n43 (fun h14 => ?_) (fun h14 => ?_)
                              · skip
                                refine way_leaf fixedsWhole_n44 ?_
                                simp only [E.den, EL.den, B.den, cop_lt, cop_le, cop_eq, cop_ne, iop_add, iop_sub, iop_mul, iop_max, iop_min, iop_quo, iop_rem, iop_fdiv, SV.den, SV.denL, SV.ubd, SV.ubdL, rho, List.getD_cons_zero, List.getD_cons_succ, decide_eq_true_eq, decide_eq_false_iff_not, Bool.not_eq_true', Bool.not_eq_false', Bool.and_eq_true, true_and, G, wG, xG3, xG4, xG5, xG6, xG7, xG8, xG9] at *; exfalso; first | omega | (have hr : -2147418112 ≤ x0 ∧ x0 ≤ 2147418111 := (by omega); have ef := Fx.floor_at hr.1 hr.2; have ec := Fx.ceil_at hr.1 hr.2; have er := Fx.round_at hr.1 hr.2; have et := Fx.trunc_at hr.1 hr.2; simp only [ef, ec, er, not_true_eq_false, Int.mul_tmod_left, IntKind.wrap_i32, wrap32] at * <;> omega)
                              · skip
                                refine way_leaf fixedsWhole_n45 ?_
                                exact ⟨rfl, rfl⟩
                      · skip
                        refine way_need fixedsWhole_n46 (fun h11 => ?_) (fun h11 => ?_)
                        · skip
                          refine way_need fixedsWhole_n47 (fun h12 => ?_) (fun h12 => ?_)
                          · skip
                            refine way_leaf fixedsWhole_n48 ?_
                            simp only [E.den, EL.den, B.den, cop_lt, cop_le, cop_eq, cop_ne, iop_add, iop_sub, iop_mul, iop_max, iop_min, iop_quo, iop_rem, iop_fdiv, SV.den, SV.denL, SV.ubd, SV.ubdL, rho, List.getD_cons_zero, List.getD_cons_succ, decide_eq_true_eq, decide_eq_false_iff_not, Bool.not_eq_true', Bool.not_eq_false', Bool.and_eq_true, true_and, G, wG, xG3, xG4, xG5, xG6, xG7, xG8, xG9] at *; exfalso; first | omega | (have hr : -2147418112 ≤ x0 ∧ x0 ≤ 2147418111 := (by omega); have ef := Fx.floor_at hr.1 hr.2; have ec := Fx.ceil_at hr.1 hr.2; have er := Fx.round_at hr.1 hr.2; have et := Fx.trunc_at hr.1 hr.2; simp only [ef, ec, er, not_true_eq_false, Int.mul_tmod_left, IntKind.wrap_i32, wrap32] at * <;> omega)
                          · skip
                            refine way_need fixedsWhole_n49 (fun h13 => ?_) (fun h13 => ?_)
                            · skip
                              refine way_leaf fixedsWhole_n50 ?_
                              exact ⟨rfl, rfl⟩
                            · skip
                              refine way_leaf fixedsWhole_n51 ?_
                              simp only [E.den, EL.den, B.den, cop_lt, cop_le, cop_eq, cop_ne, iop_add, iop_sub, iop_mul, iop_max, iop_min, iop_quo, iop_rem, iop_fdiv, SV.den, SV.denL, SV.ubd, SV.ubdL, rho, List.getD_cons_zero, List.getD_cons_succ, decide_eq_true_eq, decide_eq_false_iff_not, Bool.not_eq_true', Bool.not_eq_false', Bool.and_eq_true, true_and, G, wG, xG3, xG4, xG5, xG6, xG7, xG8, xG9] at *; exfalso; first | omega | (have hr : -2147418112 ≤ x0 ∧ x0 ≤ 2147418111 := (by omega); have ef := Fx.floor_at hr.1 hr.2; have ec := Fx.ceil_at hr.1 hr.2; have er := Fx.round_at hr.1 hr.2; have et := Fx.trunc_at hr.1 hr.2; simp only [ef, ec, er, not_true_eq_false, Int.mul_tmod_left, IntKind.wrap_i32, wrap32] at * <;> omega)
                        · skip
                          refine way_need fixedsWhole_n52 (fun h12 => ?_) (fun h12 => ?_)
                          · skip
                            refine way_leaf fixedsWhole_n53 ?_
                            simp only [E.den, EL.den, B.den, cop_lt, cop_le, cop_eq, cop_ne, iop_add, iop_sub, iop_mul, iop_max, iop_min, iop_quo, iop_rem, iop_fdiv, SV.den, SV.denL, SV.ubd, SV.ubdL, rho, List.getD_cons_zero, List.getD_cons_succ, decide_eq_true_eq, decide_eq_false_iff_not, Bool.not_eq_true', Bool.not_eq_false', Bool.and_eq_true, true_and, G, wG, xG3, xG4, xG5, xG6, xG7, xG8, xG9] at *; exfalso; first | omega | (have hr : -2147418112 ≤ x0 ∧ x0 ≤ 2147418111 := (by omega); have ef := Fx.floor_at hr.1 hr.2; have ec := Fx.ceil_at hr.1 hr.2; have er := Fx.round_at hr.1 hr.2; have et := Fx.trunc_at hr.1 hr.2; simp only [ef, ec, er, not_true_eq_false, Int.mul_tmod_left, IntKind.wrap_i32, wrap32] at * <;> omega)
                          · skip
                            refine way_need fixedsWhole_n54 (fun h13 => ?_) (fun h13 => ?_)
                            · skip
                              refine way_leaf fixedsWhole_n55 ?_
                              exact ⟨rfl, rfl⟩
                            · skip
                              refine way_leaf fixedsWhole_n56 ?_
                              simp only [E.den, EL.den, B.den, cop_lt, cop_le, cop_eq, cop_ne, iop_add, iop_sub, iop_mul, iop_max, iop_min, iop_quo, iop_rem, iop_fdiv, SV.den, SV.denL, SV.ubd, SV.ubdL, rho, List.getD_cons_zero, List.getD_cons_succ, decide_eq_true_eq, decide_eq_false_iff_not, Bool.not_eq_true', Bool.not_eq_false', Bool.and_eq_true, true_and, G, wG, xG3, xG4, xG5, xG6, xG7, xG8, xG9] at *; exfalso; first | omega | (have hr : -2147418112 ≤ x0 ∧ x0 ≤ 2147418111 := (by omega); have ef := Fx.floor_at hr.1 hr.2; have ec := Fx.ceil_at hr.1 hr.2; have er := Fx.round_at hr.1 hr.2; have et := Fx.trunc_at hr.1 hr.2; simp only [ef, ec, er, not_true_eq_false, Int.mul_tmod_left, IntKind.wrap_i32, wrap32] at * <;> omega)
                  · skip
                    refine way_need fixedsWhole_n57 (fun h9 => ?_) (fun h9 => ?_)
                    · skip
                      refine way_need fixedsWhole_n58 (fun h10 => ?_) (fun h10 => ?_)
                      · skip
                        refine way_leaf fixedsWhole_n59 ?_
                        simp only [E.den, EL.den, B.den, cop_lt, cop_le, cop_eq, cop_ne, iop_add, iop_sub, iop_mul, iop_max, iop_min, iop_quo, iop_rem, iop_fdiv, SV.den, SV.denL, SV.ubd, SV.ubdL, rho, List.getD_cons_zero, List.getD_cons_succ, decide_eq_true_eq, decide_eq_false_iff_not, Bool.not_eq_true', Bool.not_eq_false', Bool.and_eq_true, true_and, G, wG, xG3, xG4, xG5, xG6, xG7, xG8, xG9] at *; exfalso; first | omega | (have hr : -2147418112 ≤ x0 ∧ x0 ≤ 2147418111 := (by omega); have ef := Fx.floor_at hr.1 hr.2; have ec := Fx.ceil_at hr.1 hr.2; have er := Fx.round_at hr.1 hr.2; have et := Fx.trunc_at hr.1 hr.2; simp only [ef, ec, er, not_true_eq_false, Int.mul_tmod_left, IntKind.wrap_i32, wrap32] at * <;> omega)
                      · skip
                        refine way_need fixedsWhole_n60 (fun h11 => ?_) (fun h11 => ?_)
                        · skip
                          refine way_need fixedsWhole_n61 (fun h12 => ?_) (fun h12 => ?_)
                          · skip
                            refine way_leaf fixedsWhole_n62 ?_
                            simp only [E.den, EL.den, B.den, cop_lt, cop_le, cop_eq, cop_ne, iop_add, iop_sub, iop_mul, iop_max, iop_min, iop_quo, iop_rem, iop_fdiv, SV.den, SV.denL, SV.ubd, SV.ubdL, rho, List.getD_cons_zero, List.getD_cons_succ, decide_eq_true_eq, decide_eq_false_iff_not, Bool.not_eq_true', Bool.not_eq_false', Bool.and_eq_true, true_and, G, wG, xG3, xG4, xG5, xG6, xG7, xG8, xG9] at *; exfalso; first | omega | (have hr : -2147418112 ≤ x0 ∧ x0 ≤ 2147418111 := (by omega); have ef := Fx.floor_at hr.1 hr.2; have ec := Fx.ceil_at hr.1 hr.2; have er := Fx.round_at hr.1 hr.2; have et := Fx.trunc_at hr.1 hr.2; simp only [ef, ec, er, not_true_eq_false, Int.mul_tmod_left, IntKind.wrap_i32, wrap32] at * <;> omega)
                          · skip
                            refine way_need fixedsWhole_n63 (fun h13 => ?_) (fun h13 => ?_)
                            · skip
                              refine way_need fixedsWhole_n64 (fun h14 => ?_) (fun h14 => ?_)
                              · skip
                                refine way_leaf fixedsWhole_n65 ?_
                                simp only [E.den, EL.den, B.den, cop_lt, cop_le, cop_eq, cop_ne, iop_add, iop_sub, iop_mul, iop_max, iop_min, iop_quo, iop_rem, iop_fdiv, SV.den, SV.denL, SV.ubd, SV.ubdL, rho, List.getD_cons_zero, List.getD_cons_succ, decide_eq_true_eq, decide_eq_false_iff_not, Bool.not_eq_true', Bool.not_eq_false', Bool.and_eq_true, true_and, G, wG, xG3, xG4, xG5, xG6, xG7, xG8, xG9] at *; exfalso; first | omega | (have hr : -2147418112 ≤ x0 ∧ x0 ≤ 2147418111 := (by omega); have ef := Fx.floor_at hr.1 hr.2; have ec := Fx.ceil_at hr.1 hr.2; have er := Fx.round_at hr.1 hr.2; have et := Fx.trunc_at hr.1 hr.2; simp only [ef, ec, er, not_true_eq_false, Int.mul_tmod_left, IntKind.wrap_i32, wrap32] at * <;> omega)
                              · skip
                                refine way_leaf fixedsWhole_n66 ?_
                                simp only [E.den, EL.den, B.den, cop_lt, cop_le, cop_eq, cop_ne, iop_add, iop_sub, iop_mul, iop_max, iop_min, iop_quo, iop_rem, iop_fdiv, SV.den, SV.denL, SV.ubd, SV.ubdL, rho, List.getD_cons_zero, List.getD_cons_succ, decide_eq_true_eq, decide_eq_false_iff_not, Bool.not_eq_true', Bool.not_eq_false', Bool.and_eq_true, true_and, G, wG, xG3, xG4, xG5, xG6, xG7, xG8, xG9] at *; exfalso; first | omega | (have hr : -2147418112 ≤ x0 ∧ x0 ≤ 2147418111 := (by omega); have ef := Fx.floor_at hr.1 hr.2; have ec := Fx.ceil_at hr.1 hr.2; have er := Fx.round_at hr.1 hr.2; have et := Fx.trunc_at hr.1 hr.2; simp only [ef, ec, er, not_true_eq_false, Int.mul_tmod_left, IntKind.wrap_i32, wrap32] at * <;> omega)
                            · skip
                              refine way_need fixedsWhole_n67 (fun h14 => ?_) (fun h14 => ?_)
                              · skip
                                refine way_leaf fixedsWhole_n68 ?_
                                simp only [E.den, EL.den, B.den, cop_lt, cop_le, cop_eq, cop_ne, iop_add, iop_sub, iop_mul, iop_max, iop_min, iop_quo, iop_rem, iop_fdiv, SV.den, SV.denL, SV.ubd, SV.ubdL, rho, List.getD_cons_zero, List.getD_cons_succ, decide_eq_true_eq, decide_eq_false_iff_not, Bool.not_eq_true', Bool.not_eq_false', Bool.and_eq_true, true_and, G, wG, xG3, xG4, xG5, xG6, xG7, xG8, xG9] at *; exfalso; first | omega | (have hr : -2147418112 ≤ x0 ∧ x0 ≤ 2147418111 := (by omega); have ef := Fx.floor_at hr.1 hr.2; have ec := Fx.ceil_at hr.1 hr.2; have er := Fx.round_at hr.1 hr.2; have et := Fx.trunc_at hr.1 hr.2; simp only [ef, ec, er, not_true_eq_false, Int.mul_tmod_left, IntKind.wrap_i32, wrap32] at * <;> omega)
                              · skip
                                refine way_leaf fixedsWhole_n69 ?_
                                simp only [E.den, EL.den, B.den, cop_lt, cop_le, cop_eq, cop_ne, iop_add, iop_sub, iop_mul, iop_max, iop_min, iop_quo, iop_rem, iop_fdiv, SV.den, SV.denL, SV.ubd, SV.ubdL, rho, List.getD_cons_zero, List.getD_cons_succ, decide_eq_true_eq, decide_eq_false_iff_not, Bool.not_eq_true', Bool.not_eq_false', Bool.and_eq_true, true_and, G, wG, xG3, xG4, xG5, xG6, xG7, xG8, xG9] at *; exfalso; first | omega | (have hr : -2147418112 ≤ x0 ∧ x0 ≤ 2147418111 := (by omega); have ef := Fx.floor_at hr.1 hr.2; have ec := Fx.ceil_at hr.1 hr.2; have er := Fx.round_at hr.1 hr.2; have et := Fx.trunc_at hr.1 hr.2; simp only [ef, ec, er, not_true_eq_false, Int.mul_tmod_left, IntKind.wrap_i32, wrap32] at * <;> omega)
                        · skip
                          refine way_need fixedsWhole_n70 (fun h12 => ?_) (fun h12 => ?_)
                          · skip
                            refine way_need fixedsWhole_n71 (fun h13 => ?_) (fun h13 => ?_)
                            · skip
                              refine way_leaf fixedsWhole_n72 ?_
                              exact ⟨rfl, rfl⟩
                            · skip
                              refine way_leaf fixedsWhole_n73 ?_
                              exact ⟨rfl, rfl⟩
                          · skip
                            refine way_need fixedsWhole_n74 (fun h13 => ?_) (fun h13 => ?_)
                            · skip
                              refine way_leaf fixedsWhole_n75 ?_
                              exact ⟨rfl, rfl⟩
                            · skip
                              refine way_leaf fixedsWhole_n76 ?_
                              exact ⟨rfl, rfl⟩
                    · skip
                      refine way_need fixedsWhole_n77 (fun h10 => ?_) (fun h10 => ?_)
                      · skip
                        refine way_need fixedsWhole_n78 (fun h11 => ?_) (fun h11 => ?_)
                        · skip
                          refine way_leaf fixedsWhole_n79 ?_
                          simp only [E.den, EL.den, B.den, cop_lt, cop_le, cop_eq, cop_ne, iop_add, iop_sub, iop_mul, iop_max, iop_min, iop_quo, iop_rem, iop_fdiv, SV.den, SV.denL, SV.ubd, SV.ubdL, rho, List.getD_cons_zero, List.getD_cons_succ, decide_eq_true_eq, decide_eq_false_iff_not, Bool.not_eq_true', Bool.not_eq_false', Bool.and_eq_true, true_and, G, wG, xG3, xG4, xG5, xG6, xG7, xG8, xG9] at *; exfalso; first | omega | (have hr : -2147418112 ≤ x0 ∧ x0 ≤ 2147418111 := (by omega); have ef := Fx.floor_at hr.1 hr.2; have ec := Fx.ceil_at hr.1 hr.2; have er := Fx.round_at hr.1 hr.2; have et := Fx.trunc_at hr.1 hr.2; simp only [ef, ec, er, not_true_eq_false, Int.mul_tmod_left, IntKind.wrap_i32, wrap32] at * <;> omega)
                        · skip
                          refine way_need fixedsWhole_n80 (fun h12 => ?_) (fun h12 => ?_)
                          · skip
                            refine way_need fixedsWhole_n81 (fun h13 => ?_) (fun h13 => ?_)
                            · skip
                              refine way_leaf fixedsWhole_n82 ?_
                              simp only [E.den, EL.den, B.den, cop_lt, cop_le, cop_eq, cop_ne, iop_add, iop_sub, iop_mul, iop_max, iop_min, iop_quo, iop_rem, iop_fdiv, SV.den, SV.denL, SV.ubd, SV.ubdL, rho, List.getD_cons_zero, List.getD_cons_succ, decide_eq_true_eq, decide_eq_false_iff_not, Bool.not_eq_true', Bool.not_eq_false', Bool.and_eq_true, true_and, G, wG, xG3, xG4, xG5, xG6, xG7, xG8, xG9] at *; exfalso; first | omega | (have hr : -2147418112 ≤ x0 ∧ x0 ≤ 2147418111 := (by omega); have ef := Fx.floor_at hr.1 hr.2; have ec := Fx.ceil_at hr.1 hr.2; have er := Fx.round_at hr.1 hr.2; have et := Fx.trunc_at hr.1 hr.2; simp only [ef, ec, er, not_true_eq_false, Int.mul_tmod_left, IntKind.wrap_i32, wrap32] at * <;> omega)
                            · skip
                              refine way_need fixedsWhole_n83 (fun h14 => ?_) (fun h14 => ?_)
                              · skip
                                refine way_leaf fixedsWhole_n84 ?_
                                simp only [E.den, EL.den, B.den, cop_lt, cop_le, cop_eq, cop_ne, iop_add, iop_sub, iop_mul, iop_max, iop_min, iop_quo, iop_rem, iop_fdiv, SV.den, SV.denL, SV.ubd, SV.ubdL, rho, List.getD_cons_zero, List.getD_cons_succ, decide_eq_true_eq, decide_eq_false_iff_not, Bool.not_eq_true', Bool.not_eq_false', Bool.and_eq_true, true_and, G, wG, xG3, xG4, xG5, xG6, xG7, xG8, xG9] at *; exfalso; first | omega | (have hr : -2147418112 ≤ x0 ∧ x0 ≤ 2147418111 := (by omega); have ef := Fx.floor_at hr.1 hr.2; have ec := Fx.ceil_at hr.1 hr.2; have er := Fx.round_at hr.1 hr.2; have et := Fx.trunc_at hr.1 hr.2; simp only [ef, ec, er, not_true_eq_false, Int.mul_tmod_left, IntKind.wrap_i32, wrap32] at * <;> omega)
                              · skip
                                refine way_leaf fixedsWhole_n85 ?_
                                simp only [E.den, EL.den, B.den, cop_lt, cop_le, cop_eq, cop_ne, iop_add, iop_sub, iop_mul, iop_max, iop_min, iop_quo, iop_rem, iop_fdiv, SV.den, SV.denL, SV.ubd, SV.ubdL, rho, List.getD_cons_zero, List.getD_cons_succ, decide_eq_true_eq, decide_eq_false_iff_not, Bool.not_eq_true', Bool.not_eq_false', Bool.and_eq_true, true_and, G, wG, xG3, xG4, xG5, xG6, xG7, xG8, xG9] at *; exfalso; first | omega | (have hr : -2147418112 ≤ x0 ∧ x0 ≤ 2147418111 := (by omega); have ef := Fx.floor_at hr.1 hr.2; have ec := Fx.ceil_at hr.1 hr.2; have er := Fx.round_at hr.1 hr.2; have et := Fx.trunc_at hr.1 hr.2; simp only [ef, ec, er, not_true_eq_false, Int.mul_tmod_left, IntKind.wrap_i32, wrap32] at * <;> omega)
                          · skip
                            refine way_need fixedsWhole_n86 (fun h13 => ?_) (fun h13 => ?_)
                            · skip
                              refine way_leaf fixedsWhole_n87 ?_
                              simp only [E.den, EL.den, B.den, cop_lt, cop_le, cop_eq, cop_ne, iop_add, iop_sub, iop_mul, iop_max, iop_min, iop_quo, iop_rem, iop_fdiv, SV.den, SV.denL, SV.ubd, SV.ubdL, rho, List.getD_cons_zero, List.getD_cons_succ, decide_eq_true_eq, decide_eq_false_iff_not, Bool.not_eq_true', Bool.not_eq_false', Bool.and_eq_true, true_and, G, wG, xG3, xG4, xG5, xG6, xG7, xG8, xG9] at *; exfalso; first | omega | (have hr : -2147418112 ≤ x0 ∧ x0 ≤ 2147418111 := (by omega); have ef := Fx.floor_at hr.1 hr.2; have ec := Fx.ceil_at hr.1 hr.2; have er := Fx.round_at hr.1 hr.2; have et := Fx.trunc_at hr.1 hr.2; simp only [ef, ec, er, not_true_eq_false, Int.mul_tmod_left, IntKind.wrap_i32, wrap32] at * <;> omega)
                            · skip
                              refine way_need fixedsWhole_n88 (fun h14 => ?_) (fun h14 => ?_)
                              · skip
                                refine way_leaf fixedsWhole_n89 ?_
                                simp only [E.den, EL.den, B.den, cop_lt, cop_le, cop_eq, cop_ne, iop_add, iop_sub, iop_mul, iop_max, iop_min, iop_quo, iop_rem, iop_fdiv, SV.den, SV.denL, SV.ubd, SV.ubdL, rho, List.getD_cons_zero, List.getD_cons_succ, decide_eq_true_eq, decide_eq_false_iff_not, Bool.not_eq_true', Bool.not_eq_false', Bool.and_eq_true, true_and, G, wG, xG3, xG4, xG5, xG6, xG7, xG8, xG9] at *; exfalso; first | omega | (have hr : -2147418112 ≤ x0 ∧ x0 ≤ 2147418111 := (by omega); have ef := Fx.floor_at hr.1 hr.2; have ec := Fx.ceil_at hr.1 hr.2; have er := Fx.round_at hr.1 hr.2; have et := Fx.trunc_at hr.1 hr.2; simp only [ef, ec, er, not_true_eq_false, Int.mul_tmod_left, IntKind.wrap_i32, wrap32] at * <;> omega)
                              · skip
                                refine way_leaf fixedsWhole_n90 ?_
                                simp only [E.den, EL.den, B.den, cop_lt, cop_le, cop_eq, cop_ne, iop_add, iop_sub, iop_mul, iop_max, iop_min, iop_quo, iop_rem, iop_fdiv, SV.den, SV.denL, SV.ubd, SV.ubdL, rho, List.getD_cons_zero, List.getD_cons_succ, decide_eq_true_eq, decide_eq_false_iff_not, Bool.not_eq_true', Bool.not_eq_false', Bool.and_eq_true, true_and, G, wG, xG3, xG4, xG5, xG6, xG7, xG8, xG9] at *; exfalso; first | omega | (have hr : -2147418112 ≤ x0 ∧ x0 ≤ 2147418111 := (by omega); have ef := Fx.floor_at hr.1 hr.2; have ec := Fx.ceil_at hr.1 hr.2; have er := Fx.round_at hr.1 hr.2; have et := Fx.trunc_at hr.1 hr.2; simp only [ef, ec, er, not_true_eq_false, Int.mul_tmod_left, IntKind.wrap_i32, wrap32] at * <;> omega)
                      · skip
                        refine way_need fixedsWhole_n91 (fun h11 => ?_) (fun h11 => ?_)
                        · skip
                          refine way_need fixedsWhole_n92 (fun h12 => ?_) (fun h12 => ?_)
                          · skip
                            refine way_leaf fixedsWhole_n93 ?_
                            simp only [E.den, EL.den, B.den, cop_lt, cop_le, cop_eq, cop_ne, iop_add, iop_sub, iop_mul, iop_max, iop_min, iop_quo, iop_rem, iop_fdiv, SV.den, SV.denL, SV.ubd, SV.ubdL, rho, List.getD_cons_zero, List.getD_cons_succ, decide_eq_true_eq, decide_eq_false_iff_not, Bool.not_eq_true', Bool.not_eq_false', Bool.and_eq_true, true_and, G, wG, xG3, xG4, xG5, xG6, xG7, xG8, xG9] at *; exfalso; first | omega | (have hr : -2147418112 ≤ x0 ∧ x0 ≤ 2147418111 := (by omega); have ef := Fx.floor_at hr.1 hr.2; have ec := Fx.ceil_at hr.1 hr.2; have er := Fx.round_at hr.1 hr.2; have et := Fx.trunc_at hr.1 hr.2; simp only [ef, ec, er, not_true_eq_false, Int.mul_tmod_left, IntKind.wrap_i32, wrap32] at * <;> omega)
                          · skip
                            refine way_need fixedsWhole_n94 (fun h13 => ?_) (fun h13 => ?_)
                            · skip
                              refine way_leaf fixedsWhole_n95 ?_
                              exact ⟨rfl, rfl⟩
                            · skip
                              refine way_leaf fixedsWhole_n96 ?_
                              exact ⟨rfl, rfl⟩
                        · skip
                          refine way_need fixedsWhole_n97 (fun h12 => ?_) (fun h12 => ?_)
                          · skip
                            refine way_leaf fixedsWhole_n98 ?_
                            simp only [E.den, EL.den, B.den, cop_lt, cop_le, cop_eq, cop_ne, iop_add, iop_sub, iop_mul, iop_max, iop_min, iop_quo, iop_rem, iop_fdiv, SV.den, SV.denL, SV.ubd, SV.ubdL, rho, List.getD_cons_zero, List.getD_cons_succ, decide_eq_true_eq, decide_eq_false_iff_not, Bool.not_eq_true', Bool.not_eq_false', Bool.and_eq_true, true_and, G, wG, xG3, xG4, xG5, xG6, xG7, xG8, xG9] at *; exfalso; first | omega | (have hr : -2147418112 ≤ x0 ∧ x0 ≤ 2147418111 := (by omega); have ef := Fx.floor_at hr.1 hr.2; have ec := Fx.ceil_at hr.1 hr.2; have er := Fx.round_at hr.1 hr.2; have et := Fx.trunc_at hr.1 hr.2; simp only [ef, ec, er, not_true_eq_false, Int.mul_tmod_left, IntKind.wrap_i32, wrap32] at * <;> omega)
                          · skip
                            refine way_need fixedsWhole_n99 (fun h13 => ?_) (fun h13 => ?_)
                            · skip
                              refine way_leaf fixedsWhole_n100 ?_
                              exact ⟨rfl, rfl⟩
                            · skip
                              refine way_leaf fixedsWhole_n101 ?_
                              exact ⟨rfl, rfl⟩
              · skip
                refine way_need fixedsWhole_n102 (fun h7 => ?_) (fun h7 => ?_)
                · skip
                  refine way_leaf fixedsWhole_n103 ?_
                  simp only [E.den, EL.den, B.den, cop_lt, cop_le, cop_eq, cop_ne, iop_add, iop_sub, iop_mul, iop_max, iop_min, iop_quo, iop_rem, iop_fdiv, SV.den, SV.denL, SV.ubd, SV.ubdL, rho, List.getD_cons_zero, List.getD_cons_succ, decide_eq_true_eq, decide_eq_false_iff_not, Bool.not_eq_true', Bool.not_eq_false', Bool.and_eq_true, true_and, G, wG, xG3, xG4, xG5, xG6, xG7, xG8, xG9] at *; exfalso; first | omega | (have hr : -2147418112 ≤ x0 ∧ x0 ≤ 2147418111 := (by omega); have ef := Fx.floor_at hr.1 hr.2; have ec := Fx.ceil_at hr.1 hr.2; have er := Fx.round_at hr.1 hr.2; have et := Fx.trunc_at hr.1 hr.2; simp only [ef, ec, er, not_true_eq_false, Int.mul_tmod_left, IntKind.wrap_i32, wrap32] at * <;> omega)
                · skip
                  refine way_need fixedsWhole_n104 (fun h8 => ?_) (fun h8 => ?_)
                  · skip
                    refine way_leaf fixedsWhole_n105 ?_
                    simp only [E.den, EL.den, B.den, cop_lt, cop_le, cop_eq, cop_ne, iop_add, iop_sub, iop_mul, iop_max, iop_min, iop_quo, iop_rem, iop_fdiv, SV.den, SV.denL, SV.ubd, SV.ubdL, rho, List.getD_cons_zero, List.getD_cons_succ, decide_eq_true_eq, decide_eq_false_iff_not, Bool.not_eq_true', Bool.not_eq_false', Bool.and_eq_true, true_and, G, wG, xG3, xG4, xG5, xG6, xG7, xG8, xG9] at *; exfalso; first | omega | (have hr : -2147418112 ≤ x0 ∧ x0 ≤ 2147418111 := (by omega); have ef := Fx.floor_at hr.1 hr.2; have ec := Fx.ceil_at hr.1 hr.2; have er := Fx.round_at hr.1 hr.2; have et := Fx.trunc_at hr.1 hr.2; simp only [ef, ec, er, not_true_eq_false, Int.mul_tmod_left, IntKind.wrap_i32, wrap32] at * <;> omega)
                  · skip
                    refine way_need fixedsWhole_n106 (fun h9 => ?_) (fun h9 => ?_)
                    · skip
                      refine way_need fixedsWhole_n107 (fun h10 => ?_) (fun h10 => ?_)
                      · skip
                        refine way_leaf fixedsWhole_n108 ?_
                        simp only [E.den, EL.den, B.den, cop_lt, cop_le, cop_eq, cop_ne, iop_add, iop_sub, iop_mul, iop_max, iop_min, iop_quo, iop_rem, iop_fdiv, SV.den, SV.denL, SV.ubd, SV.ubdL, rho, List.getD_cons_zero, List.getD_cons_succ, decide_eq_true_eq, decide_eq_false_iff_not, Bool.not_eq_true', Bool.not_eq_false', Bool.and_eq_true, true_and, G, wG, xG3, xG4, xG5, xG6, xG7, xG8, xG9] at *; exfalso; first | omega | (have hr : -2147418112 ≤ x0 ∧ x0 ≤ 2147418111 := (by omega); have ef := Fx.floor_at hr.1 hr.2; have ec := Fx.ceil_at hr.1 hr.2; have er := Fx.round_at hr.1 hr.2; have et := Fx.trunc_at hr.1 hr.2; simp only [ef, ec, er, not_true_eq_false, Int.mul_tmod_left, IntKind.wrap_i32, wrap32] at * <;> omega)
                      · skip
                        refine way_need fixedsWhole_n109 (fun h11 => ?_) (fun h11 => ?_)
                        · skip
                          refine way_need fixedsWhole_n110 (fun h12 => ?_) (fun h12 => ?_)
                          · skip
                            refine way_leaf fixedsWhole_n111 ?_
                            simp only [E.den, EL.den, B.den, cop_lt, cop_le, cop_eq, cop_ne, iop_add, iop_sub, iop_mul, iop_max, iop_min, iop_quo, iop_rem, iop_fdiv, SV.den, SV.denL, SV.ubd, SV.ubdL, rho, List.getD_cons_zero, List.getD_cons_succ, decide_eq_true_eq, decide_eq_false_iff_not, Bool.not_eq_true', Bool.not_eq_false', Bool.and_eq_true, true_and, G, wG, xG3, xG4, xG5, xG6, xG7, xG8, xG9] at *; exfalso; first | omega | (have hr : -2147418112 ≤ x0 ∧ x0 ≤ 2147418111 := (by omega); have ef := Fx.floor_at hr.1 hr.2; have ec := Fx.ceil_at hr.1 hr.2; have er := Fx.round_at hr.1 hr.2; have et := Fx.trunc_at hr.1 hr.2; simp only [ef, ec, er, not_true_eq_false, Int.mul_tmod_left, IntKind.wrap_i32, wrap32] at * <;> omega)
                          · skip
                            refine way_need fixedsWhole_n112 (fun h13 => ?_) (fun h13 => ?_)
                            · skip
                              refine way_need fixedsWhole_n113 (fun h14 => ?_) (fun h14 => ?_)
                              · skip
                                refine way_leaf fixedsWhole_n114 ?_
                                simp only [E.den, EL.den, B.den, cop_lt, cop_le, cop_eq, cop_ne, iop_add, iop_sub, iop_mul, iop_max, iop_min, iop_quo, iop_rem, iop_fdiv, SV.den, SV.denL, SV.ubd, SV.ubdL, rho, List.getD_cons_zero, List.getD_cons_succ, decide_eq_true_eq, decide_eq_false_iff_not, Bool.not_eq_true', Bool.not_eq_false', Bool.and_eq_true, true_and, G, wG, xG3, xG4, xG5, xG6, xG7, xG8, xG9] at *; exfalso; first | omega | (have hr : -2147418112 ≤ x0 ∧ x0 ≤ 2147418111 := (by omega); have ef := Fx.floor_at hr.1 hr.2; have ec := Fx.ceil_at hr.1 hr.2; have er := Fx.round_at hr.1 hr.2; have et := Fx.trunc_at hr.1 hr.2; simp only [ef, ec, er, not_true_eq_false, Int.mul_tmod_left, IntKind.wrap_i32, wrap32] at * <;> omega)
                              · skip
                                refine way_leaf fixedsWhole_n115 ?_
                                simp only [E.den, EL.den, B.den, cop_lt, cop_le, cop_eq, cop_ne, iop_add, iop_sub, iop_mul, iop_max, iop_min, iop_quo, iop_rem, iop_fdiv, SV.den, SV.denL, SV.ubd, SV.ubdL, rho, List.getD_cons_zero, List.getD_cons_succ, decide_eq_true_eq, decide_eq_false_iff_not, Bool.not_eq_true', Bool.not_eq_false', Bool.and_eq_true, true_and, G, wG, xG3, xG4, xG5, xG6, xG7, xG8, xG9] at *; exfalso; first | omega | (have hr : -2147418112 ≤ x0 ∧ x0 ≤ 2147418111 := (by omega); have ef := Fx.floor_at hr.1 hr.2; have ec := Fx.ceil_at hr.1 hr.2; have er := Fx.round_at hr.1 hr.2; have et := Fx.trunc_at hr.1 hr.2; simp only [ef, ec, er, not_true_eq_false, Int.mul_tmod_left, IntKind.wrap_i32, wrap32] at * <;> omega)
                            · skip
                              refine way_need fixedsWhole_n116 (fun h14 => ?_) (fun h14 => ?_)
                              · skip
                                refine way_leaf fixedsWhole_n117 ?_
                                simp only [E.den, EL.den, B.den, cop_lt, cop_le, cop_eq, cop_ne, iop_add, iop_sub, iop_mul, iop_max, iop_min, iop_quo, iop_rem, iop_fdiv, SV.den, SV.denL, SV.ubd, SV.ubdL, rho, List.getD_cons_zero, List.getD_cons_succ, decide_eq_true_eq, decide_eq_false_iff_not, Bool.not_eq_true', Bool.not_eq_false', Bool.and_eq_true, true_and, G, wG, xG3, xG4, xG5, xG6, xG7, xG8, xG9] at *; exfalso; first | omega | (have hr : -2147418112 ≤ x0 ∧ x0 ≤ 2147418111 := (by omega); have ef := Fx.floor_at hr.1 hr.2; have ec := Fx.ceil_at hr.1 hr.2; have er := Fx.round_at hr.1 hr.2; have et := Fx.trunc_at hr.1 hr.2; simp only [ef, ec, er, not_true_eq_false, Int.mul_tmod_left, IntKind.wrap_i32, wrap32] at * <;> omega)
                              · skip
                                refine way_leaf fixedsWhole_n118 ?_
                                simp only [E.den, EL.den, B.den, cop_lt, cop_le, cop_eq, cop_ne, iop_add, iop_sub, iop_mul, iop_max, iop_min, iop_quo, iop_rem, iop_fdiv, SV.den, SV.denL, SV.ubd, SV.ubdL, rho, List.getD_cons_zero, List.getD_cons_succ, decide_eq_true_eq, decide_eq_false_iff_not, Bool.not_eq_true', Bool.not_eq_false', Bool.and_eq_true, true_and, G, wG, xG3, xG4, xG5, xG6, xG7, xG8, xG9] at *; exfalso; first | omega | (have hr : -2147418112 ≤ x0 ∧ x0 ≤ 2147418111 := (by omega); have ef := Fx.floor_at hr.1 hr.2; have ec := Fx.ceil_at hr.1 hr.2; have er := Fx.round_at hr.1 hr.2; have et := Fx.trunc_at hr.1 hr.2; simp only [ef, ec, er, not_true_eq_false, Int.mul_tmod_left, IntKind.wrap_i32, wrap32] at * <;> omega)
                        · skip
                          refine way_need fixedsWhole_n119 (fun h12 => ?_) (fun h12 => ?_)
                          · skip
                            refine way_need fixedsWhole_n120 (fun h13 => ?_) (fun h13 => ?_)
                            · skip
                              refine way_leaf fixedsWhole_n121 ?_
                              exact ⟨rfl, rfl⟩
                            · skip
                              refine way_leaf fixedsWhole_n122 ?_
                              exact ⟨rfl, rfl⟩
                          · skip
                            refine way_need fixedsWhole_n123 (fun h13 => ?_) (fun h13 => ?_)
                            · skip
                              refine way_leaf fixedsWhole_n124 ?_
                              exact ⟨rfl, rfl⟩
                            · skip
                              refine way_leaf fixedsWhole_n125 ?_
                              exact ⟨rfl, rfl⟩
                    · skip
                      refine way_need fixedsWhole_n126 (fun h10 => ?_) (fun h10 => ?_)
                      · skip
                        refine way_need fixedsWhole_n127 (fun h11 => ?_) (fun h11 => ?_)
                        · skip
                          refine way_leaf fixedsWhole_n128 ?_
                          simp only [E.den, EL.den, B.den, cop_lt, cop_le, cop_eq, cop_ne, iop_add, iop_sub, iop_mul, iop_max, iop_min, iop_quo, iop_rem, iop_fdiv, SV.den, SV.denL, SV.ubd, SV.ubdL, rho, List.getD_cons_zero, List.getD_cons_succ, decide_eq_true_eq, decide_eq_false_iff_not, Bool.not_eq_true', Bool.not_eq_false', Bool.and_eq_true, true_and, G, wG, xG3, xG4, xG5, xG6, xG7, xG8, xG9] at *; exfalso; first | omega | (have hr : -2147418112 ≤ x0 ∧ x0 ≤ 2147418111 := (by omega); have ef := Fx.floor_at hr.1 hr.2; have ec := Fx.ceil_at hr.1 hr.2; have er := Fx.round_at hr.1 hr.2; have et := Fx.trunc_at hr.1 hr.2; simp only [ef, ec, er, not_true_eq_false, Int.mul_tmod_left, IntKind.wrap_i32, wrap32] at * <;> omega)
                        · skip
                          refine way_need fixedsWhole_n129 (fun h12 => ?_) (fun h12 => ?_)
                          · skip
                            refine way_need fixedsWhole_n130 (fun h13 => ?_) (fun h13 => ?_)
                            · skip
                              refine way_leaf fixedsWhole_n131 ?_
                              simp only [E.den, EL.den, B.den, cop_lt, cop_le, cop_eq, cop_ne, iop_add, iop_sub, iop_mul, iop_max, iop_min, iop_quo, iop_rem, iop_fdiv, SV.den, SV.denL, SV.ubd, SV.ubdL, rho, List.getD_cons_zero, List.getD_cons_succ, decide_eq_true_eq, decide_eq_false_iff_not, Bool.not_eq_true', Bool.not_eq_false', Bool.and_eq_true, true_and, G, wG, xG3, xG4, xG5, xG6, xG7, xG8, xG9] at *; exfalso; first | omega | (have hr : -2147418112 ≤ x0 ∧ x0 ≤ 2147418111 := (by omega); have ef := Fx.floor_at hr.1 hr.2; have ec := Fx.ceil_at hr.1 hr.2; have er := Fx.round_at hr.1 hr.2; have et := Fx.trunc_at hr.1 hr.2; simp only [ef, ec, er, not_true_eq_false, Int.mul_tmod_left, IntKind.wrap_i32, wrap32] at * <;> omega)
                            · skip
                              refine way_need fixedsWhole_n132 (fun h14 => ?_) (fun h14 => ?_)
                              · skip
                                refine way_leaf fixedsWhole_n133 ?_
                                simp only [E.den, EL.den, B.den, cop_lt, cop_le, cop_eq, cop_ne, iop_add, iop_sub, iop_mul, iop_max, iop_min, iop_quo, iop_rem, iop_fdiv, SV.den, SV.denL, SV.ubd, SV.ubdL, rho, List.getD_cons_zero, List.getD_cons_succ, decide_eq_true_eq, decide_eq_false_iff_not, Bool.not_eq_true', Bool.not_eq_false', Bool.and_eq_true, true_and, G, wG, xG3, xG4, xG5, xG6, xG7, xG8, xG9] at *; exfalso; first | omega | (have hr : -2147418112 ≤ x0 ∧ x0 ≤ 2147418111 := (by omega); have ef := Fx.floor_at hr.1 hr.2; have ec := Fx.ceil_at hr.1 hr.2; have er := Fx.round_at hr.1 hr.2; have et := Fx.trunc_at hr.1 hr.2; simp only [ef, ec, er, not_true_eq_false, Int.mul_tmod_left, IntKind.wrap_i32, wrap32] at * <;> omega)
                              · skip
                                refine way_leaf fixedsWhole_n134 ?_
                                simp only [E.den, EL.den, B.den, cop_lt, cop_le, cop_eq, cop_ne, iop_add, iop_sub, iop_mul, iop_max, iop_min, iop_quo, iop_rem, iop_fdiv, SV.den, SV.denL, SV.ubd, SV.ubdL, rho, List.getD_cons_zero, List.getD_cons_succ, decide_eq_true_eq, decide_eq_false_iff_not, Bool.not_eq_true', Bool.not_eq_false', Bool.and_eq_true, true_and, G, wG, xG3, xG4, xG5, xG6, xG7, xG8, xG9] at *; exfalso; first | omega | (have hr : -2147418112 ≤ x0 ∧ x0 ≤ 2147418111 := (by omega); have ef := Fx.floor_at hr.1 hr.2; have ec := Fx.ceil_at hr.1 hr.2; have er := Fx.round_at hr.1 hr.2; have et := Fx.trunc_at hr.1 hr.2; simp only [ef, ec, er, not_true_eq_false, Int.mul_tmod_left, IntKind.wrap_i32, wrap32] at * <;> omega)
                          · skip
                            refine way_need fixedsWhole_n135 (fun h13 => ?_) (fun h13 => ?_)
                            · skip
                              refine way_leaf fixedsWhole_n136 ?_
                              simp only [E.den, EL.den, B.den, cop_lt, cop_le, cop_eq, cop_ne, iop_add, iop_sub, iop_mul, iop_max, iop_min, iop_quo, iop_rem, iop_fdiv, SV.den, SV.denL, SV.ubd, SV.ubdL, rho, List.getD_cons_zero, List.getD_cons_succ, decide_eq_true_eq, decide_eq_false_iff_not, Bool.not_eq_true', Bool.not_eq_false', Bool.and_eq_true, true_and, G, wG, xG3, xG4, xG5, xG6, xG7, xG8, xG9] at *; exfalso; first | omega | (have hr : -2147418112 ≤ x0 ∧ x0 ≤ 2147418111 := (by omega); have ef := Fx.floor_at hr.1 hr.2; have ec := Fx.ceil_at hr.1 hr.2; have er := Fx.round_at hr.1 hr.2; have et := Fx.trunc_at hr.1 hr.2; simp only [ef, ec, er, not_true_eq_false, Int.mul_tmod_left, IntKind.wrap_i32, wrap32] at * <;> omega)
                            · skip
                              refine way_need fixedsWhole_n137 (fun h14 => ?_) (fun h14 => ?_)
                              · skip
                                refine way_leaf fixedsWhole_n138 ?_
                                simp only [E.den, EL.den, B.den, cop_lt, cop_le, cop_eq, cop_ne, iop_add, iop_sub, iop_mul, iop_max, iop_min, iop_quo, iop_rem, iop_fdiv, SV.den, SV.denL, SV.ubd, SV.ubdL, rho, List.getD_cons_zero, List.getD_cons_succ, decide_eq_true_eq, decide_eq_false_iff_not, Bool.not_eq_true', Bool.not_eq_false', Bool.and_eq_true, true_and, G, wG, xG3, xG4, xG5, xG6, xG7, xG8, xG9] at *; exfalso; first | omega | (have hr : -2147418112 ≤ x0 ∧ x0 ≤ 2147418111 := (by omega); have ef := Fx.floor_at hr.1 hr.2; have ec := Fx.ceil_at hr.1 hr.2; have er := Fx.round_at hr.1 hr.2; have et := Fx.trunc_at hr.1 hr.2; simp only [ef, ec, er, not_true_eq_false, Int.mul_tmod_left, IntKind.wrap_i32, wrap32] at * <;> omega)
                              · skip
                                refine way_leaf fixedsWhole_n139 ?_
                                simp only [E.den, EL.den, B.den, cop_lt, cop_le, cop_eq, cop_ne, iop_add, iop_sub, iop_mul, iop_max, iop_min, iop_quo, iop_rem, iop_fdiv, SV.den, SV.denL, SV.ubd, SV.ubdL, rho, List.getD_cons_zero, List.getD_cons_succ, decide_eq_true_eq, decide_eq_false_iff_not, Bool.not_eq_true', Bool.not_eq_false', Bool.and_eq_true, true_and, G, wG, xG3, xG4, xG5, xG6, xG7, xG8, xG9] at *; exfalso; first | omega | (have hr : -2147418112 ≤ x0 ∧ x0 ≤ 2147418111 := (by omega); have ef := Fx.floor_at hr.1 hr.2; have ec := Fx.ceil_at hr.1 hr.2; have er := Fx.round_at hr.1 hr.2; have et := Fx.trunc_at hr.1 hr.2; simp only [ef, ec, er, not_true_eq_false, Int.mul_tmod_left, IntKind.wrap_i32, wrap32] at * <;> omega)
                      · skip
                        refine way_need fixedsWhole_n140 (fun h11 => ?_) (fun h11 => ?_)
                        · skip
                          refine way_need fixedsWhole_n141 (fun h12 => ?_) (fun h12 => ?_)
                          · skip
                            refine way_leaf fixedsWhole_n142 ?_
                            simp only [E.den, EL.den, B.den, cop_lt, cop_le, cop_eq, cop_ne, iop_add, iop_sub, iop_mul, iop_max, iop_min, iop_quo, iop_rem, iop_fdiv, SV.den, SV.denL, SV.ubd, SV.ubdL, rho, List.getD_cons_zero, List.getD_cons_succ, decide_eq_true_eq, decide_eq_false_iff_not, Bool.not_eq_true', Bool.not_eq_false', Bool.and_eq_true, true_and, G, wG, xG3, xG4, xG5, xG6, xG7, xG8, xG9] at *; exfalso; first | omega | (have hr : -2147418112 ≤ x0 ∧ x0 ≤ 2147418111 := (by omega); have ef := Fx.floor_at hr.1 hr.2; have ec := Fx.ceil_at hr.1 hr.2; have er := Fx.round_at hr.1 hr.2; have et := Fx.trunc_at hr.1 hr.2; simp only [ef, ec, er, not_true_eq_false, Int.mul_tmod_left, IntKind.wrap_i32, wrap32] at * <;> omega)
                          · skip
                            refine way_need fixedsWhole_n143 (fun h13 => ?_) (fun h13 => ?_)
                            · skip
                              refine way_leaf fixedsWhole_n144 ?_
                              exact ⟨rfl, rfl⟩
                            · skip
                              refine way_leaf fixedsWhole_n145 ?_
                              exact ⟨rfl, rfl⟩
                        · skip
                          refine way_need fixedsWhole_n146 (fun h12 => ?_) (fun h12 => ?_)
                          · skip
                            refine way_leaf fixedsWhole_n147 ?_
                            simp only [E.den, EL.den, B.den, cop_lt, cop_le, cop_eq, cop_ne, iop_add, iop_sub, iop_mul, iop_max, iop_min, iop_quo, iop_rem, iop_fdiv, SV.den, SV.denL, SV.ubd, SV.ubdL, rho, List.getD_cons_zero, List.getD_cons_succ, decide_eq_true_eq, decide_eq_false_iff_not, Bool.not_eq_true', Bool.not_eq_false', Bool.and_eq_true, true_and, G, wG, xG3, xG4, xG5, xG6, xG7, xG8, xG9] at *; exfalso; first | omega | (have hr : -2147418112 ≤ x0 ∧ x0 ≤ 2147418111 := (by omega); have ef := Fx.floor_at hr.1 hr.2; have ec := Fx.ceil_at hr.1 hr.2; have er := Fx.round_at hr.1 hr.2; have et := Fx.trunc_at hr.1 hr.2; simp only [ef, ec, er, not_true_eq_false, Int.mul_tmod_left, IntKind.wrap_i32, wrap32] at * <;> omega)
                          · skip
                            refine way_need fixedsWhole_n148 (fun h13 => ?_) (fun h13 => ?_)
                            · skip
                              refine way_leaf fixedsWhole_n149 ?_
                              exact ⟨rfl, rfl⟩
                            · skip
                              refine way_leaf fixedsWhole_n150 ?_
                              exact ⟨rfl, rfl⟩
end Go.Proofs.YtaballahjgegdaaDoor
