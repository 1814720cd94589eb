/- What is proved: what functions of this program return: each over all its ways. The conditions are the numbers' own bounds. -/
import Derived.Test.YtldoimianllcdaaNx
import Derived.Test.YtldoimianllcdaaTo
import Derived.Test.YtldoimianllcdaaProg
import Derived.Test.YtldoimianllcdaaNlives0
import Derived.Test.YtldoimianllcdaaNto0
set_option linter.unusedSimpArgs false
set_option linter.unusedVariables false
namespace Go.Proofs.Ytldoimianllcdaa
open Go Go.RowKit Sx Wi
set_option maxRecDepth 100000 in
theorem lives_any   (w : World) (hw : WOk GB w) : Known Try.prog 17 ∧ Calls Try.prog 17 #[] w (fun e w' => e = .returned (.bool true) ∧ Below w.heap.size w w') := by
  refine calls_eq (way_calls2 (ρ := rho []) (run := fun fs => exFun Try.prog (Ctx.more ⟨G, GI, [], fs⟩) GB ct_w 4000 17 []) (fun _ => rfl) (by kernel_rfl) (within_get trivial) gi_ok (fun fs hf => ct_w_ok (X := ⟨G, GI, _, fs⟩) ⟨within_get trivial, hf, gi_ok⟩ rfl) rfl rfl gbApart_nil ?_ w hw)
  refine way_leaf lives_n0 ?_
  exact ⟨rfl, rfl⟩
def lives_entry : Entry := fun _ args =>
  match args with
  | [] => .ok (.bool (.lit true))
  | _ => .fail 201
theorem lives_ok {X : Ctx} {ρ : Nat → Int} (hX : X.Ok ρ) (hG : X.G = G) : EntryOk Try.prog X ρ GB 17 lives_entry := by
  obtain ⟨XG, XI, XV, XF⟩ := X
  simp only at hG
  subst hG
  intro args s h α w vals hv hw
  unfold lives_entry at h
  split at h
  · cases h
    exact entry_calls hv rfl rfl (lives_any w hw)
  · cases h
set_option maxHeartbeats 20000000 in
set_option maxRecDepth 100000 in
theorem to_any (x0 x1 x2 x3 x4 x5 : Int) (b0 : 0 ≤ x0 ∧ x0 ≤ 255) (b1 : 0 ≤ x1 ∧ x1 ≤ 255) (b2 : (-2147483648) ≤ x2 ∧ x2 ≤ 2147483647) (b3 : (-2147483648) ≤ x3 ∧ x3 ≤ 2147483647) (b4 : (-2147483648) ≤ x4 ∧ x4 ≤ 2147483647) (b5 : (-2147483648) ≤ x5 ∧ x5 ≤ 2147483647) (w : World) (hw : WOk GB w) : Known Try.prog 9 ∧ Calls Try.prog 9 #[.int .u8 x0, .int .u8 x1, (.agg #[.int .i32 x2, .int .i32 x3, .int .i32 x4, .int .i32 x5])] w (fun e w' => e = .returned (.agg #[.int .i32 (toF 0 x0 x1 x2 x3 x4 x5), .int .i32 (toF 1 x0 x1 x2 x3 x4 x5), .int .i32 (toF 2 x0 x1 x2 x3 x4 x5), .int .i32 (toF 3 x0 x1 x2 x3 x4 x5)]) ∧ Below w.heap.size w w') := by
  refine calls_eq (way_calls2 (ρ := rho [x0, x1, x2, x3, x4, x5]) (run := fun fs => exFun Try.prog (Ctx.more ⟨G, GI, [(0, 255), (0, 255), ((-2147483648), 2147483647), ((-2147483648), 2147483647), ((-2147483648), 2147483647), ((-2147483648), 2147483647)], fs⟩) GB ct_w 4000 9 [(.int .u8 (.var 0)), (.int .u8 (.var 1)), (.agg [(.int .i32 (.var 2)), (.int .i32 (.var 3)), (.int .i32 (.var 4)), (.int .i32 (.var 5))])]) (fun _ => rfl) (by kernel_rfl) (within_get ⟨b0, b1, b2, b3, b4, b5, trivial⟩) gi_ok (fun fs hf => ct_w_ok (X := ⟨G, GI, _, fs⟩) ⟨within_get ⟨b0, b1, b2, b3, b4, b5, trivial⟩, hf, gi_ok⟩ rfl) rfl rfl gbApart_nil ?_ w hw)
  refine way_need to_n0 (fun h0 => ?_) (fun h0 => ?_)
  · skip
    refine way_need to_n1 (fun h1 => ?_) (fun h1 => ?_)
    · skip
      refine way_leaf to_n2 ?_
      refine ⟨rfl, ?_⟩; simp only [E.den, EL.den, B.den, cop_lt, cop_le, cop_eq, cop_ne, iop_add, iop_sub, iop_mul, iop_max, iop_min, iop_quo, iop_rem, iop_fdiv, iop_shl, SV.den, SV.denL, SV.ubd, SV.ubdL, rho, List.getD_cons_zero, List.getD_cons_succ, decide_eq_true_eq, decide_eq_false_iff_not, Bool.not_eq_true', Bool.not_eq_false', Bool.and_eq_true, true_and, G, wG, xT] at *; (try simp only [near_lu]); subst_vars; exact to_00 _ _ _ _
    · skip
      refine way_need to_n3 (fun h2 => ?_) (fun h2 => ?_)
      · skip
        refine way_leaf to_n4 ?_
        refine ⟨rfl, ?_⟩; simp only [E.den, EL.den, B.den, cop_lt, cop_le, cop_eq, cop_ne, iop_add, iop_sub, iop_mul, iop_max, iop_min, iop_quo, iop_rem, iop_fdiv, iop_shl, SV.den, SV.denL, SV.ubd, SV.ubdL, rho, List.getD_cons_zero, List.getD_cons_succ, decide_eq_true_eq, decide_eq_false_iff_not, Bool.not_eq_true', Bool.not_eq_false', Bool.and_eq_true, true_and, G, wG, xT] at *; (try simp only [near_lu]); subst_vars; exact to_10 _ _ _ _
      · skip
        refine way_need to_n5 (fun h3 => ?_) (fun h3 => ?_)
        · skip
          refine way_leaf to_n6 ?_
          refine ⟨rfl, ?_⟩; simp only [E.den, EL.den, B.den, cop_lt, cop_le, cop_eq, cop_ne, iop_add, iop_sub, iop_mul, iop_max, iop_min, iop_quo, iop_rem, iop_fdiv, iop_shl, SV.den, SV.denL, SV.ubd, SV.ubdL, rho, List.getD_cons_zero, List.getD_cons_succ, decide_eq_true_eq, decide_eq_false_iff_not, Bool.not_eq_true', Bool.not_eq_false', Bool.and_eq_true, true_and, G, wG, xT] at *; (try simp only [near_lu]); subst_vars; exact to_20 _ _ _ _
        · skip
          refine way_leaf to_n7 ?_
          refine ⟨rfl, ?_⟩; simp only [E.den, EL.den, B.den, cop_lt, cop_le, cop_eq, cop_ne, iop_add, iop_sub, iop_mul, iop_max, iop_min, iop_quo, iop_rem, iop_fdiv, iop_shl, SV.den, SV.denL, SV.ubd, SV.ubdL, rho, List.getD_cons_zero, List.getD_cons_succ, decide_eq_true_eq, decide_eq_false_iff_not, Bool.not_eq_true', Bool.not_eq_false', Bool.and_eq_true, true_and, G, wG, xT] at *; exact to_no x0 x1 x2 x3 x4 x5 (by omega)
  · skip
    refine way_need to_n8 (fun h1 => ?_) (fun h1 => ?_)
    · skip
      refine way_need to_n9 (fun h2 => ?_) (fun h2 => ?_)
      · skip
        refine way_leaf to_n10 ?_
        refine ⟨rfl, ?_⟩; simp only [E.den, EL.den, B.den, cop_lt, cop_le, cop_eq, cop_ne, iop_add, iop_sub, iop_mul, iop_max, iop_min, iop_quo, iop_rem, iop_fdiv, iop_shl, SV.den, SV.denL, SV.ubd, SV.ubdL, rho, List.getD_cons_zero, List.getD_cons_succ, decide_eq_true_eq, decide_eq_false_iff_not, Bool.not_eq_true', Bool.not_eq_false', Bool.and_eq_true, true_and, G, wG, xT] at *; (try simp only [near_lu]); subst_vars; exact to_01 _ _ _ _
      · skip
        refine way_need to_n11 (fun h3 => ?_) (fun h3 => ?_)
        · skip
          refine way_leaf to_n12 ?_
          refine ⟨rfl, ?_⟩; simp only [E.den, EL.den, B.den, cop_lt, cop_le, cop_eq, cop_ne, iop_add, iop_sub, iop_mul, iop_max, iop_min, iop_quo, iop_rem, iop_fdiv, iop_shl, SV.den, SV.denL, SV.ubd, SV.ubdL, rho, List.getD_cons_zero, List.getD_cons_succ, decide_eq_true_eq, decide_eq_false_iff_not, Bool.not_eq_true', Bool.not_eq_false', Bool.and_eq_true, true_and, G, wG, xT] at *; (try simp only [near_lu]); subst_vars; exact to_11 _ _ _ _
        · skip
          refine way_need to_n13 (fun h4 => ?_) (fun h4 => ?_)
          · skip
            refine way_leaf to_n14 ?_
            refine ⟨rfl, ?_⟩; simp only [E.den, EL.den, B.den, cop_lt, cop_le, cop_eq, cop_ne, iop_add, iop_sub, iop_mul, iop_max, iop_min, iop_quo, iop_rem, iop_fdiv, iop_shl, SV.den, SV.denL, SV.ubd, SV.ubdL, rho, List.getD_cons_zero, List.getD_cons_succ, decide_eq_true_eq, decide_eq_false_iff_not, Bool.not_eq_true', Bool.not_eq_false', Bool.and_eq_true, true_and, G, wG, xT] at *; (try simp only [near_lu]); subst_vars; exact to_21 _ _ _ _
          · skip
            refine way_leaf to_n15 ?_
            refine ⟨rfl, ?_⟩; simp only [E.den, EL.den, B.den, cop_lt, cop_le, cop_eq, cop_ne, iop_add, iop_sub, iop_mul, iop_max, iop_min, iop_quo, iop_rem, iop_fdiv, iop_shl, SV.den, SV.denL, SV.ubd, SV.ubdL, rho, List.getD_cons_zero, List.getD_cons_succ, decide_eq_true_eq, decide_eq_false_iff_not, Bool.not_eq_true', Bool.not_eq_false', Bool.and_eq_true, true_and, G, wG, xT] at *; exact to_no x0 x1 x2 x3 x4 x5 (by omega)
    · skip
      refine way_need to_n16 (fun h2 => ?_) (fun h2 => ?_)
      · skip
        refine way_need to_n17 (fun h3 => ?_) (fun h3 => ?_)
        · skip
          refine way_leaf to_n18 ?_
          refine ⟨rfl, ?_⟩; simp only [E.den, EL.den, B.den, cop_lt, cop_le, cop_eq, cop_ne, iop_add, iop_sub, iop_mul, iop_max, iop_min, iop_quo, iop_rem, iop_fdiv, iop_shl, SV.den, SV.denL, SV.ubd, SV.ubdL, rho, List.getD_cons_zero, List.getD_cons_succ, decide_eq_true_eq, decide_eq_false_iff_not, Bool.not_eq_true', Bool.not_eq_false', Bool.and_eq_true, true_and, G, wG, xT] at *; (try simp only [near_lu]); subst_vars; exact to_02 _ _ _ _
        · skip
          refine way_need to_n19 (fun h4 => ?_) (fun h4 => ?_)
          · skip
            refine way_leaf to_n20 ?_
            refine ⟨rfl, ?_⟩; simp only [E.den, EL.den, B.den, cop_lt, cop_le, cop_eq, cop_ne, iop_add, iop_sub, iop_mul, iop_max, iop_min, iop_quo, iop_rem, iop_fdiv, iop_shl, SV.den, SV.denL, SV.ubd, SV.ubdL, rho, List.getD_cons_zero, List.getD_cons_succ, decide_eq_true_eq, decide_eq_false_iff_not, Bool.not_eq_true', Bool.not_eq_false', Bool.and_eq_true, true_and, G, wG, xT] at *; (try simp only [near_lu]); subst_vars; exact to_12 _ _ _ _
          · skip
            refine way_need to_n21 (fun h5 => ?_) (fun h5 => ?_)
            · skip
              refine way_leaf to_n22 ?_
              refine ⟨rfl, ?_⟩; simp only [E.den, EL.den, B.den, cop_lt, cop_le, cop_eq, cop_ne, iop_add, iop_sub, iop_mul, iop_max, iop_min, iop_quo, iop_rem, iop_fdiv, iop_shl, SV.den, SV.denL, SV.ubd, SV.ubdL, rho, List.getD_cons_zero, List.getD_cons_succ, decide_eq_true_eq, decide_eq_false_iff_not, Bool.not_eq_true', Bool.not_eq_false', Bool.and_eq_true, true_and, G, wG, xT] at *; (try simp only [near_lu]); subst_vars; exact to_22 _ _ _ _
            · skip
              refine way_leaf to_n23 ?_
              refine ⟨rfl, ?_⟩; simp only [E.den, EL.den, B.den, cop_lt, cop_le, cop_eq, cop_ne, iop_add, iop_sub, iop_mul, iop_max, iop_min, iop_quo, iop_rem, iop_fdiv, iop_shl, SV.den, SV.denL, SV.ubd, SV.ubdL, rho, List.getD_cons_zero, List.getD_cons_succ, decide_eq_true_eq, decide_eq_false_iff_not, Bool.not_eq_true', Bool.not_eq_false', Bool.and_eq_true, true_and, G, wG, xT] at *; exact to_no x0 x1 x2 x3 x4 x5 (by omega)
      · skip
        refine way_leaf to_n24 ?_
        refine ⟨rfl, ?_⟩; simp only [E.den, EL.den, B.den, cop_lt, cop_le, cop_eq, cop_ne, iop_add, iop_sub, iop_mul, iop_max, iop_min, iop_quo, iop_rem, iop_fdiv, iop_shl, SV.den, SV.denL, SV.ubd, SV.ubdL, rho, List.getD_cons_zero, List.getD_cons_succ, decide_eq_true_eq, decide_eq_false_iff_not, Bool.not_eq_true', Bool.not_eq_false', Bool.and_eq_true, true_and, G, wG, xT] at *; exact to_no x0 x1 x2 x3 x4 x5 (by omega)
def to_entry : Entry := fun X args =>
  match args with
  | [.int .u8 a0, .int .u8 a1, (.agg [.int .i32 a2, .int .i32 a3, .int .i32 a4, .int .i32 a5])] => if a0.fits X .u8 && a1.fits X .u8 && a2.fits X .i32 && a3.fits X .i32 && a4.fits X .i32 && a5.fits X .i32 then .ok (.agg [.int .i32 (.app 20 (.cons a0 (.cons a1 (.cons a2 (.cons a3 (.cons a4 (.cons a5 .nil))))))), .int .i32 (.app 21 (.cons a0 (.cons a1 (.cons a2 (.cons a3 (.cons a4 (.cons a5 .nil))))))), .int .i32 (.app 22 (.cons a0 (.cons a1 (.cons a2 (.cons a3 (.cons a4 (.cons a5 .nil))))))), .int .i32 (.app 23 (.cons a0 (.cons a1 (.cons a2 (.cons a3 (.cons a4 (.cons a5 .nil)))))))]) else .fail 200
  | _ => .fail 201
theorem to_ok {X : Ctx} {ρ : Nat → Int} (hX : X.Ok ρ) (hG : X.G = G) : EntryOk Try.prog X ρ GB 9 to_entry := by
  obtain ⟨XG, XI, XV, XF⟩ := X
  simp only at hG
  subst hG
  intro args s h α w vals hv hw
  unfold to_entry at h
  split at h
  · split at h
    · rename_i hg
      try simp only [Bool.and_eq_true] at hg
      obtain ⟨⟨⟨⟨⟨g0, g1⟩, g2⟩, g3⟩, g4⟩, g5⟩ := hg
      cases h
      exact entry_calls hv rfl rfl (to_any _ _ _ _ _ _ (E.fits_in hX g0) (E.fits_in hX g1) (E.fits_in hX g2) (E.fits_in hX g3) (E.fits_in hX g4) (E.fits_in hX g5) w hw)
    · cases h
  · cases h
def ct_lives : Contracts := ctCons 17 lives_entry ct_w
theorem ct_lives_ok {X : Ctx} {ρ : Nat → Int} (hX : X.Ok ρ) (hG : X.G = G) : CtOk Try.prog X ρ GB ct_lives := ctCons_ok (lives_ok hX hG) (ct_w_ok hX hG)
def ct_to : Contracts := ctCons 9 to_entry ct_lives
theorem ct_to_ok {X : Ctx} {ρ : Nat → Int} (hX : X.Ok ρ) (hG : X.G = G) : CtOk Try.prog X ρ GB ct_to := ctCons_ok (to_ok hX hG) (ct_lives_ok hX hG)
end Go.Proofs.Ytldoimianllcdaa
