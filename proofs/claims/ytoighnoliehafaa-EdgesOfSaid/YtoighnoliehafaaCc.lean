/- What is proved: what functions of this program return: each over all its ways. The conditions are the numbers' own bounds. -/
import Derived.Test.YtoighnoliehafaaCb
set_option linter.unusedSimpArgs false
set_option linter.unusedVariables false
namespace Go.Proofs.Ytoighnoliehafaa
open Go Go.RowKit Sx Ed
set_option maxRecDepth 100000 in
theorem claim_tree : explore (fun fs => exFun Try.prog ⟨G, GI, [((-9223372036854775808), 9223372036854775807), ((-9223372036854775808), 9223372036854775807), ((-9223372036854775808), 9223372036854775807), ((-9223372036854775808), 9223372036854775807), ((-9223372036854775808), 9223372036854775807), ((-9223372036854775808), 9223372036854775807), ((-9223372036854775808), 9223372036854775807), ((-9223372036854775808), 9223372036854775807)], fs⟩ ct_sd 2000 8 [(.agg [(.int .i64 (.var 0)), (.int .i64 (.var 1)), (.int .i64 (.var 2)), (.int .i64 (.var 3)), (.int .i64 (.var 4)), (.int .i64 (.var 5))]), (.agg [(.int .i64 (.var 6)), (.int .i64 (.var 7))])]) 60 [] =
 (.br (.cmp .lt (.lit 671088640) (.op .max (.var 0) (.var 1)))
 (.leaf (.int .i64 (.lit 0)))
 (.br (.cmp .lt (.op .min (.var 0) (.var 1)) (.lit (-671088640)))
 (.leaf (.int .i64 (.lit 0)))
 (.br (.cmp .lt (.lit 671088640) (.op .max (.var 2) (.var 3)))
 (.leaf (.int .i64 (.lit 0)))
 (.br (.cmp .lt (.op .min (.var 2) (.var 3)) (.lit (-671088640)))
 (.leaf (.int .i64 (.lit 0)))
 (.br (.cmp .lt (.lit 671088640) (.op .max (.var 4) (.var 5)))
 (.leaf (.int .i64 (.lit 0)))
 (.br (.cmp .lt (.op .min (.var 4) (.var 5)) (.lit (-671088640)))
 (.leaf (.int .i64 (.lit 0)))
 (.br (.cmp .eq (.app 0 (.cons (.op .sub (.op .mul (.op .sub (.var 2) (.var 0)) (.op .sub (.var 5) (.var 1))) (.op .mul (.op .sub (.var 3) (.var 1)) (.op .sub (.var 4) (.var 0)))) .nil)) (.lit 0))
 (.leaf (.int .i64 (.lit 0)))
 (.br (.cmp .lt (.lit 671088640) (.op .max (.var 6) (.var 7)))
 (.leaf (.int .i64 (.lit 0)))
 (.br (.cmp .lt (.op .min (.var 6) (.var 7)) (.lit (-671088640)))
 (.leaf (.int .i64 (.lit 0)))
 (.br (.cmp .ne (.app 2 (.cons (.var 2) (.cons (.var 3) (.cons (.op .sub (.var 4) (.var 2)) (.cons (.op .sub (.var 5) (.var 3)) (.cons (.var 6) (.cons (.var 7) .nil))))))) (.app 0 (.cons (.op .sub (.op .mul (.op .sub (.var 2) (.var 0)) (.op .sub (.var 5) (.var 1))) (.op .mul (.op .sub (.var 3) (.var 1)) (.op .sub (.var 4) (.var 0)))) .nil)))
 (.leaf (.int .i64 (.lit 0)))
 (.br (.cmp .ne (.app 2 (.cons (.var 4) (.cons (.var 5) (.cons (.op .sub (.var 0) (.var 4)) (.cons (.op .sub (.var 1) (.var 5)) (.cons (.var 6) (.cons (.var 7) .nil))))))) (.app 0 (.cons (.op .sub (.op .mul (.op .sub (.var 2) (.var 0)) (.op .sub (.var 5) (.var 1))) (.op .mul (.op .sub (.var 3) (.var 1)) (.op .sub (.var 4) (.var 0)))) .nil)))
 (.leaf (.int .i64 (.lit 0)))
 (.br (.cmp .ne (.app 2 (.cons (.var 0) (.cons (.var 1) (.cons (.op .sub (.var 2) (.var 0)) (.cons (.op .sub (.var 3) (.var 1)) (.cons (.var 6) (.cons (.var 7) .nil))))))) (.app 0 (.cons (.op .sub (.op .mul (.op .sub (.var 2) (.var 0)) (.op .sub (.var 5) (.var 1))) (.op .mul (.op .sub (.var 3) (.var 1)) (.op .sub (.var 4) (.var 0)))) .nil)))
 (.leaf (.int .i64 (.lit 0)))
 (.leaf (.int .i64 (.app 0 (.cons (.op .sub (.op .mul (.op .sub (.var 2) (.var 0)) (.op .sub (.var 5) (.var 1))) (.op .mul (.op .sub (.var 3) (.var 1)) (.op .sub (.var 4) (.var 0)))) .nil)))))))))))))))) := by kernel_rfl
set_option maxHeartbeats 1000000 in
set_option maxRecDepth 100000 in
theorem claim_any (x0 x1 x2 x3 x4 x5 x6 x7 : Int) (b0 : (-9223372036854775808) ≤ x0 ∧ x0 ≤ 9223372036854775807) (b1 : (-9223372036854775808) ≤ x1 ∧ x1 ≤ 9223372036854775807) (b2 : (-9223372036854775808) ≤ x2 ∧ x2 ≤ 9223372036854775807) (b3 : (-9223372036854775808) ≤ x3 ∧ x3 ≤ 9223372036854775807) (b4 : (-9223372036854775808) ≤ x4 ∧ x4 ≤ 9223372036854775807) (b5 : (-9223372036854775808) ≤ x5 ∧ x5 ≤ 9223372036854775807) (b6 : (-9223372036854775808) ≤ x6 ∧ x6 ≤ 9223372036854775807) (b7 : (-9223372036854775808) ≤ x7 ∧ x7 ≤ 9223372036854775807) (w : World) : Known Try.prog 8 ∧ Calls Try.prog 8 #[(.agg #[.int .i64 x0, .int .i64 x1, .int .i64 x2, .int .i64 x3, .int .i64 x4, .int .i64 x5]), (.agg #[.int .i64 x6, .int .i64 x7])] w (fun e w' => e = .returned (.int .i64 (claim ⟨x0, x1⟩ ⟨x2, x3⟩ ⟨x4, x5⟩ ⟨x6, x7⟩)) ∧ Below w.heap.size w w') := by
  refine calls_eq (tree_calls (ρ := rho [x0, x1, x2, x3, x4, x5, x6, x7]) claim_tree (by kernel_rfl) (within_get ⟨b0, b1, b2, b3, b4, b5, b6, b7, trivial⟩) gi_ok (fun fs hf => ct_sd_ok (X := ⟨G, GI, _, fs⟩) ⟨within_get ⟨b0, b1, b2, b3, b4, b5, b6, b7, trivial⟩, hf, gi_ok⟩ rfl) rfl ?_ w)
  refine ⟨fun h0 => ?_, fun h0 => ?_⟩
  · skip
    refine ⟨rfl, ?_⟩; simp only [E.den, EL.den, B.den, cop_lt, cop_le, cop_eq, cop_ne, iop_add, iop_sub, iop_mul, iop_max, iop_min, iop_quo, iop_rem, iop_fdiv, SV.den, SV.denL, SV.ubd, SV.ubdL, rho, List.getD_cons_zero, List.getD_cons_succ, decide_eq_true_eq, decide_eq_false_iff_not, Bool.not_eq_true', Bool.not_eq_false', Bool.and_eq_true, true_and, G] at *; congr 1; rw [claim_alt]; unfold ok cross; dsimp only; (repeat' split) <;> first | rfl | (exfalso; omega) | contradiction | (simp_all; done)
  · skip
    refine ⟨fun h1 => ?_, fun h1 => ?_⟩
    · skip
      refine ⟨rfl, ?_⟩; simp only [E.den, EL.den, B.den, cop_lt, cop_le, cop_eq, cop_ne, iop_add, iop_sub, iop_mul, iop_max, iop_min, iop_quo, iop_rem, iop_fdiv, SV.den, SV.denL, SV.ubd, SV.ubdL, rho, List.getD_cons_zero, List.getD_cons_succ, decide_eq_true_eq, decide_eq_false_iff_not, Bool.not_eq_true', Bool.not_eq_false', Bool.and_eq_true, true_and, G] at *; congr 1; rw [claim_alt]; unfold ok cross; dsimp only; (repeat' split) <;> first | rfl | (exfalso; omega) | contradiction | (simp_all; done)
    · skip
      refine ⟨fun h2 => ?_, fun h2 => ?_⟩
      · skip
        refine ⟨rfl, ?_⟩; simp only [E.den, EL.den, B.den, cop_lt, cop_le, cop_eq, cop_ne, iop_add, iop_sub, iop_mul, iop_max, iop_min, iop_quo, iop_rem, iop_fdiv, SV.den, SV.denL, SV.ubd, SV.ubdL, rho, List.getD_cons_zero, List.getD_cons_succ, decide_eq_true_eq, decide_eq_false_iff_not, Bool.not_eq_true', Bool.not_eq_false', Bool.and_eq_true, true_and, G] at *; congr 1; rw [claim_alt]; unfold ok cross; dsimp only; (repeat' split) <;> first | rfl | (exfalso; omega) | contradiction | (simp_all; done)
      · skip
        refine ⟨fun h3 => ?_, fun h3 => ?_⟩
        · skip
          refine ⟨rfl, ?_⟩; simp only [E.den, EL.den, B.den, cop_lt, cop_le, cop_eq, cop_ne, iop_add, iop_sub, iop_mul, iop_max, iop_min, iop_quo, iop_rem, iop_fdiv, SV.den, SV.denL, SV.ubd, SV.ubdL, rho, List.getD_cons_zero, List.getD_cons_succ, decide_eq_true_eq, decide_eq_false_iff_not, Bool.not_eq_true', Bool.not_eq_false', Bool.and_eq_true, true_and, G] at *; congr 1; rw [claim_alt]; unfold ok cross; dsimp only; (repeat' split) <;> first | rfl | (exfalso; omega) | contradiction | (simp_all; done)
        · skip
          refine ⟨fun h4 => ?_, fun h4 => ?_⟩
          · skip
            refine ⟨rfl, ?_⟩; simp only [E.den, EL.den, B.den, cop_lt, cop_le, cop_eq, cop_ne, iop_add, iop_sub, iop_mul, iop_max, iop_min, iop_quo, iop_rem, iop_fdiv, SV.den, SV.denL, SV.ubd, SV.ubdL, rho, List.getD_cons_zero, List.getD_cons_succ, decide_eq_true_eq, decide_eq_false_iff_not, Bool.not_eq_true', Bool.not_eq_false', Bool.and_eq_true, true_and, G] at *; congr 1; rw [claim_alt]; unfold ok cross; dsimp only; (repeat' split) <;> first | rfl | (exfalso; omega) | contradiction | (simp_all; done)
          · skip
            refine ⟨fun h5 => ?_, fun h5 => ?_⟩
            · skip
              refine ⟨rfl, ?_⟩; simp only [E.den, EL.den, B.den, cop_lt, cop_le, cop_eq, cop_ne, iop_add, iop_sub, iop_mul, iop_max, iop_min, iop_quo, iop_rem, iop_fdiv, SV.den, SV.denL, SV.ubd, SV.ubdL, rho, List.getD_cons_zero, List.getD_cons_succ, decide_eq_true_eq, decide_eq_false_iff_not, Bool.not_eq_true', Bool.not_eq_false', Bool.and_eq_true, true_and, G] at *; congr 1; rw [claim_alt]; unfold ok cross; dsimp only; (repeat' split) <;> first | rfl | (exfalso; omega) | contradiction | (simp_all; done)
            · skip
              refine ⟨fun h6 => ?_, fun h6 => ?_⟩
              · skip
                refine ⟨rfl, ?_⟩; simp only [E.den, EL.den, B.den, cop_lt, cop_le, cop_eq, cop_ne, iop_add, iop_sub, iop_mul, iop_max, iop_min, iop_quo, iop_rem, iop_fdiv, SV.den, SV.denL, SV.ubd, SV.ubdL, rho, List.getD_cons_zero, List.getD_cons_succ, decide_eq_true_eq, decide_eq_false_iff_not, Bool.not_eq_true', Bool.not_eq_false', Bool.and_eq_true, true_and, G] at *; congr 1; rw [claim_alt]; unfold ok cross; dsimp only; (repeat' split) <;> first | rfl | (exfalso; omega) | contradiction | (simp_all; done)
              · skip
                refine ⟨fun h7 => ?_, fun h7 => ?_⟩
                · skip
                  refine ⟨rfl, ?_⟩; simp only [E.den, EL.den, B.den, cop_lt, cop_le, cop_eq, cop_ne, iop_add, iop_sub, iop_mul, iop_max, iop_min, iop_quo, iop_rem, iop_fdiv, SV.den, SV.denL, SV.ubd, SV.ubdL, rho, List.getD_cons_zero, List.getD_cons_succ, decide_eq_true_eq, decide_eq_false_iff_not, Bool.not_eq_true', Bool.not_eq_false', Bool.and_eq_true, true_and, G] at *; congr 1; rw [claim_alt]; unfold ok cross; dsimp only; (repeat' split) <;> first | rfl | (exfalso; omega) | contradiction | (simp_all; done)
                · skip
                  refine ⟨fun h8 => ?_, fun h8 => ?_⟩
                  · skip
                    refine ⟨rfl, ?_⟩; simp only [E.den, EL.den, B.den, cop_lt, cop_le, cop_eq, cop_ne, iop_add, iop_sub, iop_mul, iop_max, iop_min, iop_quo, iop_rem, iop_fdiv, SV.den, SV.denL, SV.ubd, SV.ubdL, rho, List.getD_cons_zero, List.getD_cons_succ, decide_eq_true_eq, decide_eq_false_iff_not, Bool.not_eq_true', Bool.not_eq_false', Bool.and_eq_true, true_and, G] at *; congr 1; rw [claim_alt]; unfold ok cross; dsimp only; (repeat' split) <;> first | rfl | (exfalso; omega) | contradiction | (simp_all; done)
                  · skip
                    refine ⟨fun h9 => ?_, fun h9 => ?_⟩
                    · skip
                      refine ⟨rfl, ?_⟩; simp only [E.den, EL.den, B.den, cop_lt, cop_le, cop_eq, cop_ne, iop_add, iop_sub, iop_mul, iop_max, iop_min, iop_quo, iop_rem, iop_fdiv, SV.den, SV.denL, SV.ubd, SV.ubdL, rho, List.getD_cons_zero, List.getD_cons_succ, decide_eq_true_eq, decide_eq_false_iff_not, Bool.not_eq_true', Bool.not_eq_false', Bool.and_eq_true, true_and, G] at *; congr 1; rw [claim_alt]; unfold ok cross; dsimp only; (repeat' split) <;> first | rfl | (exfalso; omega) | contradiction | (simp_all; done)
                    · skip
                      refine ⟨fun h10 => ?_, fun h10 => ?_⟩
                      · skip
                        refine ⟨rfl, ?_⟩; simp only [E.den, EL.den, B.den, cop_lt, cop_le, cop_eq, cop_ne, iop_add, iop_sub, iop_mul, iop_max, iop_min, iop_quo, iop_rem, iop_fdiv, SV.den, SV.denL, SV.ubd, SV.ubdL, rho, List.getD_cons_zero, List.getD_cons_succ, decide_eq_true_eq, decide_eq_false_iff_not, Bool.not_eq_true', Bool.not_eq_false', Bool.and_eq_true, true_and, G] at *; congr 1; rw [claim_alt]; unfold ok cross; dsimp only; (repeat' split) <;> first | rfl | (exfalso; omega) | contradiction | (simp_all; done)
                      · skip
                        refine ⟨fun h11 => ?_, fun h11 => ?_⟩
                        · skip
                          refine ⟨rfl, ?_⟩; simp only [E.den, EL.den, B.den, cop_lt, cop_le, cop_eq, cop_ne, iop_add, iop_sub, iop_mul, iop_max, iop_min, iop_quo, iop_rem, iop_fdiv, SV.den, SV.denL, SV.ubd, SV.ubdL, rho, List.getD_cons_zero, List.getD_cons_succ, decide_eq_true_eq, decide_eq_false_iff_not, Bool.not_eq_true', Bool.not_eq_false', Bool.and_eq_true, true_and, G] at *; congr 1; rw [claim_alt]; unfold ok cross; dsimp only; (repeat' split) <;> first | rfl | (exfalso; omega) | contradiction | (simp_all; done)
                        · skip
                          refine ⟨rfl, ?_⟩; simp only [E.den, EL.den, B.den, cop_lt, cop_le, cop_eq, cop_ne, iop_add, iop_sub, iop_mul, iop_max, iop_min, iop_quo, iop_rem, iop_fdiv, SV.den, SV.denL, SV.ubd, SV.ubdL, rho, List.getD_cons_zero, List.getD_cons_succ, decide_eq_true_eq, decide_eq_false_iff_not, Bool.not_eq_true', Bool.not_eq_false', Bool.and_eq_true, true_and, G] at *; congr 1; rw [claim_alt]; unfold ok cross; dsimp only; (repeat' split) <;> first | rfl | (exfalso; omega) | contradiction | (simp_all; done)
def claim_entry : Entry := fun X args =>
  match args with
  | [(.agg [.int .i64 a0, .int .i64 a1, .int .i64 a2, .int .i64 a3, .int .i64 a4, .int .i64 a5]), (.agg [.int .i64 a6, .int .i64 a7])] => if a0.fits X .i64 && a1.fits X .i64 && a2.fits X .i64 && a3.fits X .i64 && a4.fits X .i64 && a5.fits X .i64 && a6.fits X .i64 && a7.fits X .i64 then .ok (.int .i64 (.app 3 (.cons a0 (.cons a1 (.cons a2 (.cons a3 (.cons a4 (.cons a5 (.cons a6 (.cons a7 .nil)))))))))) else .fail 200
  | _ => .fail 201
theorem claim_ok {X : Ctx} {ρ : Nat → Int} (hX : X.Ok ρ) (hG : X.G = G) : EntryOk Try.prog X ρ 8 claim_entry := by
  obtain ⟨XG, XI, XV, XF⟩ := X
  simp only at hG
  subst hG
  intro args s h α w vals hv
  unfold claim_entry at h
  split at h
  · split at h
    · rename_i hg
      try simp only [Bool.and_eq_true] at hg
      obtain ⟨⟨⟨⟨⟨⟨⟨g0, g1⟩, g2⟩, g3⟩, g4⟩, g5⟩, g6⟩, g7⟩ := hg
      cases h
      exact entry_calls hv rfl rfl (claim_any _ _ _ _ _ _ _ _ (E.fits_in hX g0) (E.fits_in hX g1) (E.fits_in hX g2) (E.fits_in hX g3) (E.fits_in hX g4) (E.fits_in hX g5) (E.fits_in hX g6) (E.fits_in hX g7) w)
    · cases h
  · cases h
set_option maxRecDepth 100000 in
theorem area_tree : explore (fun fs => exFun Try.prog ⟨G, GI, [((-9223372036854775808), 9223372036854775807), ((-9223372036854775808), 9223372036854775807), ((-9223372036854775808), 9223372036854775807), ((-9223372036854775808), 9223372036854775807), ((-9223372036854775808), 9223372036854775807), ((-9223372036854775808), 9223372036854775807)], fs⟩ ct_sd 2000 9 [(.agg [(.int .i64 (.var 0)), (.int .i64 (.var 1)), (.int .i64 (.var 2)), (.int .i64 (.var 3)), (.int .i64 (.var 4)), (.int .i64 (.var 5))])]) 60 [] =
 (.br (.cmp .lt (.lit 671088640) (.op .max (.var 0) (.var 1)))
 (.leaf (.int .i64 (.lit 0)))
 (.br (.cmp .lt (.op .min (.var 0) (.var 1)) (.lit (-671088640)))
 (.leaf (.int .i64 (.lit 0)))
 (.br (.cmp .lt (.lit 671088640) (.op .max (.var 2) (.var 3)))
 (.leaf (.int .i64 (.lit 0)))
 (.br (.cmp .lt (.op .min (.var 2) (.var 3)) (.lit (-671088640)))
 (.leaf (.int .i64 (.lit 0)))
 (.br (.cmp .lt (.lit 671088640) (.op .max (.var 4) (.var 5)))
 (.leaf (.int .i64 (.lit 0)))
 (.br (.cmp .lt (.op .min (.var 4) (.var 5)) (.lit (-671088640)))
 (.leaf (.int .i64 (.lit 0)))
 (.leaf (.int .i64 (.op .sub (.op .mul (.op .sub (.var 2) (.var 0)) (.op .sub (.var 5) (.var 1))) (.op .mul (.op .sub (.var 3) (.var 1)) (.op .sub (.var 4) (.var 0)))))))))))) := by kernel_rfl
set_option maxRecDepth 100000 in
theorem area_any (x0 x1 x2 x3 x4 x5 : Int) (b0 : (-9223372036854775808) ≤ x0 ∧ x0 ≤ 9223372036854775807) (b1 : (-9223372036854775808) ≤ x1 ∧ x1 ≤ 9223372036854775807) (b2 : (-9223372036854775808) ≤ x2 ∧ x2 ≤ 9223372036854775807) (b3 : (-9223372036854775808) ≤ x3 ∧ x3 ≤ 9223372036854775807) (b4 : (-9223372036854775808) ≤ x4 ∧ x4 ≤ 9223372036854775807) (b5 : (-9223372036854775808) ≤ x5 ∧ x5 ≤ 9223372036854775807) (w : World) : Known Try.prog 9 ∧ Calls Try.prog 9 #[(.agg #[.int .i64 x0, .int .i64 x1, .int .i64 x2, .int .i64 x3, .int .i64 x4, .int .i64 x5])] w (fun e w' => e = .returned (.int .i64 (area ⟨x0, x1⟩ ⟨x2, x3⟩ ⟨x4, x5⟩)) ∧ Below w.heap.size w w') := by
  refine calls_eq (tree_calls (ρ := rho [x0, x1, x2, x3, x4, x5]) area_tree (by kernel_rfl) (within_get ⟨b0, b1, b2, b3, b4, b5, trivial⟩) gi_ok (fun fs hf => ct_sd_ok (X := ⟨G, GI, _, fs⟩) ⟨within_get ⟨b0, b1, b2, b3, b4, b5, trivial⟩, hf, gi_ok⟩ rfl) rfl ?_ w)
  refine ⟨fun h0 => ?_, fun h0 => ?_⟩
  · skip
    refine ⟨rfl, ?_⟩; simp only [E.den, EL.den, B.den, cop_lt, cop_le, cop_eq, cop_ne, iop_add, iop_sub, iop_mul, iop_max, iop_min, iop_quo, iop_rem, iop_fdiv, SV.den, SV.denL, SV.ubd, SV.ubdL, rho, List.getD_cons_zero, List.getD_cons_succ, decide_eq_true_eq, decide_eq_false_iff_not, Bool.not_eq_true', Bool.not_eq_false', Bool.and_eq_true, true_and, G] at *; congr 1; unfold area ok cross; dsimp only; split <;> first | rfl | (exfalso; omega)
  · skip
    refine ⟨fun h1 => ?_, fun h1 => ?_⟩
    · skip
      refine ⟨rfl, ?_⟩; simp only [E.den, EL.den, B.den, cop_lt, cop_le, cop_eq, cop_ne, iop_add, iop_sub, iop_mul, iop_max, iop_min, iop_quo, iop_rem, iop_fdiv, SV.den, SV.denL, SV.ubd, SV.ubdL, rho, List.getD_cons_zero, List.getD_cons_succ, decide_eq_true_eq, decide_eq_false_iff_not, Bool.not_eq_true', Bool.not_eq_false', Bool.and_eq_true, true_and, G] at *; congr 1; unfold area ok cross; dsimp only; split <;> first | rfl | (exfalso; omega)
    · skip
      refine ⟨fun h2 => ?_, fun h2 => ?_⟩
      · skip
        refine ⟨rfl, ?_⟩; simp only [E.den, EL.den, B.den, cop_lt, cop_le, cop_eq, cop_ne, iop_add, iop_sub, iop_mul, iop_max, iop_min, iop_quo, iop_rem, iop_fdiv, SV.den, SV.denL, SV.ubd, SV.ubdL, rho, List.getD_cons_zero, List.getD_cons_succ, decide_eq_true_eq, decide_eq_false_iff_not, Bool.not_eq_true', Bool.not_eq_false', Bool.and_eq_true, true_and, G] at *; congr 1; unfold area ok cross; dsimp only; split <;> first | rfl | (exfalso; omega)
      · skip
        refine ⟨fun h3 => ?_, fun h3 => ?_⟩
        · skip
          refine ⟨rfl, ?_⟩; simp only [E.den, EL.den, B.den, cop_lt, cop_le, cop_eq, cop_ne, iop_add, iop_sub, iop_mul, iop_max, iop_min, iop_quo, iop_rem, iop_fdiv, SV.den, SV.denL, SV.ubd, SV.ubdL, rho, List.getD_cons_zero, List.getD_cons_succ, decide_eq_true_eq, decide_eq_false_iff_not, Bool.not_eq_true', Bool.not_eq_false', Bool.and_eq_true, true_and, G] at *; congr 1; unfold area ok cross; dsimp only; split <;> first | rfl | (exfalso; omega)
        · skip
          refine ⟨fun h4 => ?_, fun h4 => ?_⟩
          · skip
            refine ⟨rfl, ?_⟩; simp only [E.den, EL.den, B.den, cop_lt, cop_le, cop_eq, cop_ne, iop_add, iop_sub, iop_mul, iop_max, iop_min, iop_quo, iop_rem, iop_fdiv, SV.den, SV.denL, SV.ubd, SV.ubdL, rho, List.getD_cons_zero, List.getD_cons_succ, decide_eq_true_eq, decide_eq_false_iff_not, Bool.not_eq_true', Bool.not_eq_false', Bool.and_eq_true, true_and, G] at *; congr 1; unfold area ok cross; dsimp only; split <;> first | rfl | (exfalso; omega)
          · skip
            refine ⟨fun h5 => ?_, fun h5 => ?_⟩
            · skip
              refine ⟨rfl, ?_⟩; simp only [E.den, EL.den, B.den, cop_lt, cop_le, cop_eq, cop_ne, iop_add, iop_sub, iop_mul, iop_max, iop_min, iop_quo, iop_rem, iop_fdiv, SV.den, SV.denL, SV.ubd, SV.ubdL, rho, List.getD_cons_zero, List.getD_cons_succ, decide_eq_true_eq, decide_eq_false_iff_not, Bool.not_eq_true', Bool.not_eq_false', Bool.and_eq_true, true_and, G] at *; congr 1; unfold area ok cross; dsimp only; split <;> first | rfl | (exfalso; omega)
            · skip
              refine ⟨rfl, ?_⟩; simp only [E.den, EL.den, B.den, cop_lt, cop_le, cop_eq, cop_ne, iop_add, iop_sub, iop_mul, iop_max, iop_min, iop_quo, iop_rem, iop_fdiv, SV.den, SV.denL, SV.ubd, SV.ubdL, rho, List.getD_cons_zero, List.getD_cons_succ, decide_eq_true_eq, decide_eq_false_iff_not, Bool.not_eq_true', Bool.not_eq_false', Bool.and_eq_true, true_and, G] at *; congr 1; unfold area ok cross; dsimp only; split <;> first | rfl | (exfalso; omega)
def area_entry : Entry := fun X args =>
  match args with
  | [(.agg [.int .i64 a0, .int .i64 a1, .int .i64 a2, .int .i64 a3, .int .i64 a4, .int .i64 a5])] => if a0.fits X .i64 && a1.fits X .i64 && a2.fits X .i64 && a3.fits X .i64 && a4.fits X .i64 && a5.fits X .i64 then .ok (.int .i64 (.app 1 (.cons a0 (.cons a1 (.cons a2 (.cons a3 (.cons a4 (.cons a5 .nil)))))))) else .fail 200
  | _ => .fail 201
theorem area_ok {X : Ctx} {ρ : Nat → Int} (hX : X.Ok ρ) (hG : X.G = G) : EntryOk Try.prog X ρ 9 area_entry := by
  obtain ⟨XG, XI, XV, XF⟩ := X
  simp only at hG
  subst hG
  intro args s h α w vals hv
  unfold area_entry at h
  split at h
  · split at h
    · rename_i hg
      try simp only [Bool.and_eq_true] at hg
      obtain ⟨⟨⟨⟨⟨g0, g1⟩, g2⟩, g3⟩, g4⟩, g5⟩ := hg
      cases h
      exact entry_calls hv rfl rfl (area_any _ _ _ _ _ _ (E.fits_in hX g0) (E.fits_in hX g1) (E.fits_in hX g2) (E.fits_in hX g3) (E.fits_in hX g4) (E.fits_in hX g5) w)
    · cases h
  · cases h
set_option maxRecDepth 100000 in
theorem wt_tree : explore (fun fs => exFun Try.prog ⟨G, GI, [((-9223372036854775808), 9223372036854775807), ((-9223372036854775808), 9223372036854775807), ((-9223372036854775808), 9223372036854775807), ((-9223372036854775808), 9223372036854775807), ((-9223372036854775808), 9223372036854775807), ((-9223372036854775808), 9223372036854775807), ((-9223372036854775808), 9223372036854775807), ((-9223372036854775808), 9223372036854775807)], fs⟩ ct_sd 2000 14 [(.agg [(.int .i64 (.var 0)), (.int .i64 (.var 1)), (.int .i64 (.var 2)), (.int .i64 (.var 3)), (.int .i64 (.var 4)), (.int .i64 (.var 5))]), (.agg [(.int .i64 (.var 6)), (.int .i64 (.var 7))])]) 60 [] =
 (.br (.cmp .lt (.lit 671088640) (.op .max (.var 0) (.var 1)))
 (.leaf (.agg [(.int .i64 (.lit 0)), (.int .i64 (.lit 0)), (.int .i64 (.lit 0))]))
 (.br (.cmp .lt (.op .min (.var 0) (.var 1)) (.lit (-671088640)))
 (.leaf (.agg [(.int .i64 (.lit 0)), (.int .i64 (.lit 0)), (.int .i64 (.lit 0))]))
 (.br (.cmp .lt (.lit 671088640) (.op .max (.var 2) (.var 3)))
 (.leaf (.agg [(.int .i64 (.lit 0)), (.int .i64 (.lit 0)), (.int .i64 (.lit 0))]))
 (.br (.cmp .lt (.op .min (.var 2) (.var 3)) (.lit (-671088640)))
 (.leaf (.agg [(.int .i64 (.lit 0)), (.int .i64 (.lit 0)), (.int .i64 (.lit 0))]))
 (.br (.cmp .lt (.lit 671088640) (.op .max (.var 4) (.var 5)))
 (.leaf (.agg [(.int .i64 (.lit 0)), (.int .i64 (.lit 0)), (.int .i64 (.lit 0))]))
 (.br (.cmp .lt (.op .min (.var 4) (.var 5)) (.lit (-671088640)))
 (.leaf (.agg [(.int .i64 (.lit 0)), (.int .i64 (.lit 0)), (.int .i64 (.lit 0))]))
 (.br (.cmp .lt (.lit 671088640) (.op .max (.var 6) (.var 7)))
 (.leaf (.agg [(.int .i64 (.lit 0)), (.int .i64 (.lit 0)), (.int .i64 (.lit 0))]))
 (.br (.cmp .lt (.op .min (.var 6) (.var 7)) (.lit (-671088640)))
 (.leaf (.agg [(.int .i64 (.lit 0)), (.int .i64 (.lit 0)), (.int .i64 (.lit 0))]))
 (.leaf (.agg [(.int .i64 (.op .sub (.op .mul (.op .sub (.var 4) (.var 2)) (.op .sub (.var 7) (.var 3))) (.op .mul (.op .sub (.var 5) (.var 3)) (.op .sub (.var 6) (.var 2))))), (.int .i64 (.op .sub (.op .mul (.op .sub (.var 0) (.var 4)) (.op .sub (.var 7) (.var 5))) (.op .mul (.op .sub (.var 1) (.var 5)) (.op .sub (.var 6) (.var 4))))), (.int .i64 (.op .sub (.op .mul (.op .sub (.var 2) (.var 0)) (.op .sub (.var 7) (.var 1))) (.op .mul (.op .sub (.var 3) (.var 1)) (.op .sub (.var 6) (.var 0)))))])))))))))) := by kernel_rfl
set_option maxRecDepth 100000 in
theorem wt_any (x0 x1 x2 x3 x4 x5 x6 x7 : Int) (b0 : (-9223372036854775808) ≤ x0 ∧ x0 ≤ 9223372036854775807) (b1 : (-9223372036854775808) ≤ x1 ∧ x1 ≤ 9223372036854775807) (b2 : (-9223372036854775808) ≤ x2 ∧ x2 ≤ 9223372036854775807) (b3 : (-9223372036854775808) ≤ x3 ∧ x3 ≤ 9223372036854775807) (b4 : (-9223372036854775808) ≤ x4 ∧ x4 ≤ 9223372036854775807) (b5 : (-9223372036854775808) ≤ x5 ∧ x5 ≤ 9223372036854775807) (b6 : (-9223372036854775808) ≤ x6 ∧ x6 ≤ 9223372036854775807) (b7 : (-9223372036854775808) ≤ x7 ∧ x7 ≤ 9223372036854775807) (w : World) : Known Try.prog 14 ∧ Calls Try.prog 14 #[(.agg #[.int .i64 x0, .int .i64 x1, .int .i64 x2, .int .i64 x3, .int .i64 x4, .int .i64 x5]), (.agg #[.int .i64 x6, .int .i64 x7])] w (fun e w' => e = .returned (.agg #[.int .i64 (wt ⟨x0, x1⟩ ⟨x2, x3⟩ ⟨x4, x5⟩ ⟨x6, x7⟩ 0), .int .i64 (wt ⟨x0, x1⟩ ⟨x2, x3⟩ ⟨x4, x5⟩ ⟨x6, x7⟩ 1), .int .i64 (wt ⟨x0, x1⟩ ⟨x2, x3⟩ ⟨x4, x5⟩ ⟨x6, x7⟩ 2)]) ∧ Below w.heap.size w w') := by
  refine calls_eq (tree_calls (ρ := rho [x0, x1, x2, x3, x4, x5, x6, x7]) wt_tree (by kernel_rfl) (within_get ⟨b0, b1, b2, b3, b4, b5, b6, b7, trivial⟩) gi_ok (fun fs hf => ct_sd_ok (X := ⟨G, GI, _, fs⟩) ⟨within_get ⟨b0, b1, b2, b3, b4, b5, b6, b7, trivial⟩, hf, gi_ok⟩ rfl) rfl ?_ w)
  refine ⟨fun h0 => ?_, fun h0 => ?_⟩
  · skip
    refine ⟨rfl, ?_⟩; simp only [E.den, EL.den, B.den, cop_lt, cop_le, cop_eq, cop_ne, iop_add, iop_sub, iop_mul, iop_max, iop_min, iop_quo, iop_rem, iop_fdiv, SV.den, SV.denL, SV.ubd, SV.ubdL, rho, List.getD_cons_zero, List.getD_cons_succ, decide_eq_true_eq, decide_eq_false_iff_not, Bool.not_eq_true', Bool.not_eq_false', Bool.and_eq_true, true_and, G] at *; first | (have hk : ¬ okAt ⟨x0, x1⟩ ⟨x2, x3⟩ ⟨x4, x5⟩ ⟨x6, x7⟩ := (by unfold okAt ok; dsimp only; omega); simp only [wt, if_neg hk]) | (have hk : okAt ⟨x0, x1⟩ ⟨x2, x3⟩ ⟨x4, x5⟩ ⟨x6, x7⟩ := (by unfold okAt ok; dsimp only; omega); simp only [wt, if_pos hk, cross]; rfl)
  · skip
    refine ⟨fun h1 => ?_, fun h1 => ?_⟩
    · skip
      refine ⟨rfl, ?_⟩; simp only [E.den, EL.den, B.den, cop_lt, cop_le, cop_eq, cop_ne, iop_add, iop_sub, iop_mul, iop_max, iop_min, iop_quo, iop_rem, iop_fdiv, SV.den, SV.denL, SV.ubd, SV.ubdL, rho, List.getD_cons_zero, List.getD_cons_succ, decide_eq_true_eq, decide_eq_false_iff_not, Bool.not_eq_true', Bool.not_eq_false', Bool.and_eq_true, true_and, G] at *; first | (have hk : ¬ okAt ⟨x0, x1⟩ ⟨x2, x3⟩ ⟨x4, x5⟩ ⟨x6, x7⟩ := (by unfold okAt ok; dsimp only; omega); simp only [wt, if_neg hk]) | (have hk : okAt ⟨x0, x1⟩ ⟨x2, x3⟩ ⟨x4, x5⟩ ⟨x6, x7⟩ := (by unfold okAt ok; dsimp only; omega); simp only [wt, if_pos hk, cross]; rfl)
    · skip
      refine ⟨fun h2 => ?_, fun h2 => ?_⟩
      · skip
        refine ⟨rfl, ?_⟩; simp only [E.den, EL.den, B.den, cop_lt, cop_le, cop_eq, cop_ne, iop_add, iop_sub, iop_mul, iop_max, iop_min, iop_quo, iop_rem, iop_fdiv, SV.den, SV.denL, SV.ubd, SV.ubdL, rho, List.getD_cons_zero, List.getD_cons_succ, decide_eq_true_eq, decide_eq_false_iff_not, Bool.not_eq_true', Bool.not_eq_false', Bool.and_eq_true, true_and, G] at *; first | (have hk : ¬ okAt ⟨x0, x1⟩ ⟨x2, x3⟩ ⟨x4, x5⟩ ⟨x6, x7⟩ := (by unfold okAt ok; dsimp only; omega); simp only [wt, if_neg hk]) | (have hk : okAt ⟨x0, x1⟩ ⟨x2, x3⟩ ⟨x4, x5⟩ ⟨x6, x7⟩ := (by unfold okAt ok; dsimp only; omega); simp only [wt, if_pos hk, cross]; rfl)
      · skip
        refine ⟨fun h3 => ?_, fun h3 => ?_⟩
        · skip
          refine ⟨rfl, ?_⟩; simp only [E.den, EL.den, B.den, cop_lt, cop_le, cop_eq, cop_ne, iop_add, iop_sub, iop_mul, iop_max, iop_min, iop_quo, iop_rem, iop_fdiv, SV.den, SV.denL, SV.ubd, SV.ubdL, rho, List.getD_cons_zero, List.getD_cons_succ, decide_eq_true_eq, decide_eq_false_iff_not, Bool.not_eq_true', Bool.not_eq_false', Bool.and_eq_true, true_and, G] at *; first | (have hk : ¬ okAt ⟨x0, x1⟩ ⟨x2, x3⟩ ⟨x4, x5⟩ ⟨x6, x7⟩ := (by unfold okAt ok; dsimp only; omega); simp only [wt, if_neg hk]) | (have hk : okAt ⟨x0, x1⟩ ⟨x2, x3⟩ ⟨x4, x5⟩ ⟨x6, x7⟩ := (by unfold okAt ok; dsimp only; omega); simp only [wt, if_pos hk, cross]; rfl)
        · skip
          refine ⟨fun h4 => ?_, fun h4 => ?_⟩
          · skip
            refine ⟨rfl, ?_⟩; simp only [E.den, EL.den, B.den, cop_lt, cop_le, cop_eq, cop_ne, iop_add, iop_sub, iop_mul, iop_max, iop_min, iop_quo, iop_rem, iop_fdiv, SV.den, SV.denL, SV.ubd, SV.ubdL, rho, List.getD_cons_zero, List.getD_cons_succ, decide_eq_true_eq, decide_eq_false_iff_not, Bool.not_eq_true', Bool.not_eq_false', Bool.and_eq_true, true_and, G] at *; first | (have hk : ¬ okAt ⟨x0, x1⟩ ⟨x2, x3⟩ ⟨x4, x5⟩ ⟨x6, x7⟩ := (by unfold okAt ok; dsimp only; omega); simp only [wt, if_neg hk]) | (have hk : okAt ⟨x0, x1⟩ ⟨x2, x3⟩ ⟨x4, x5⟩ ⟨x6, x7⟩ := (by unfold okAt ok; dsimp only; omega); simp only [wt, if_pos hk, cross]; rfl)
          · skip
            refine ⟨fun h5 => ?_, fun h5 => ?_⟩
            · skip
              refine ⟨rfl, ?_⟩; simp only [E.den, EL.den, B.den, cop_lt, cop_le, cop_eq, cop_ne, iop_add, iop_sub, iop_mul, iop_max, iop_min, iop_quo, iop_rem, iop_fdiv, SV.den, SV.denL, SV.ubd, SV.ubdL, rho, List.getD_cons_zero, List.getD_cons_succ, decide_eq_true_eq, decide_eq_false_iff_not, Bool.not_eq_true', Bool.not_eq_false', Bool.and_eq_true, true_and, G] at *; first | (have hk : ¬ okAt ⟨x0, x1⟩ ⟨x2, x3⟩ ⟨x4, x5⟩ ⟨x6, x7⟩ := (by unfold okAt ok; dsimp only; omega); simp only [wt, if_neg hk]) | (have hk : okAt ⟨x0, x1⟩ ⟨x2, x3⟩ ⟨x4, x5⟩ ⟨x6, x7⟩ := (by unfold okAt ok; dsimp only; omega); simp only [wt, if_pos hk, cross]; rfl)
            · skip
              refine ⟨fun h6 => ?_, fun h6 => ?_⟩
              · skip
                refine ⟨rfl, ?_⟩; simp only [E.den, EL.den, B.den, cop_lt, cop_le, cop_eq, cop_ne, iop_add, iop_sub, iop_mul, iop_max, iop_min, iop_quo, iop_rem, iop_fdiv, SV.den, SV.denL, SV.ubd, SV.ubdL, rho, List.getD_cons_zero, List.getD_cons_succ, decide_eq_true_eq, decide_eq_false_iff_not, Bool.not_eq_true', Bool.not_eq_false', Bool.and_eq_true, true_and, G] at *; first | (have hk : ¬ okAt ⟨x0, x1⟩ ⟨x2, x3⟩ ⟨x4, x5⟩ ⟨x6, x7⟩ := (by unfold okAt ok; dsimp only; omega); simp only [wt, if_neg hk]) | (have hk : okAt ⟨x0, x1⟩ ⟨x2, x3⟩ ⟨x4, x5⟩ ⟨x6, x7⟩ := (by unfold okAt ok; dsimp only; omega); simp only [wt, if_pos hk, cross]; rfl)
              · skip
                refine ⟨fun h7 => ?_, fun h7 => ?_⟩
                · skip
                  refine ⟨rfl, ?_⟩; simp only [E.den, EL.den, B.den, cop_lt, cop_le, cop_eq, cop_ne, iop_add, iop_sub, iop_mul, iop_max, iop_min, iop_quo, iop_rem, iop_fdiv, SV.den, SV.denL, SV.ubd, SV.ubdL, rho, List.getD_cons_zero, List.getD_cons_succ, decide_eq_true_eq, decide_eq_false_iff_not, Bool.not_eq_true', Bool.not_eq_false', Bool.and_eq_true, true_and, G] at *; first | (have hk : ¬ okAt ⟨x0, x1⟩ ⟨x2, x3⟩ ⟨x4, x5⟩ ⟨x6, x7⟩ := (by unfold okAt ok; dsimp only; omega); simp only [wt, if_neg hk]) | (have hk : okAt ⟨x0, x1⟩ ⟨x2, x3⟩ ⟨x4, x5⟩ ⟨x6, x7⟩ := (by unfold okAt ok; dsimp only; omega); simp only [wt, if_pos hk, cross]; rfl)
                · skip
                  refine ⟨rfl, ?_⟩; simp only [E.den, EL.den, B.den, cop_lt, cop_le, cop_eq, cop_ne, iop_add, iop_sub, iop_mul, iop_max, iop_min, iop_quo, iop_rem, iop_fdiv, SV.den, SV.denL, SV.ubd, SV.ubdL, rho, List.getD_cons_zero, List.getD_cons_succ, decide_eq_true_eq, decide_eq_false_iff_not, Bool.not_eq_true', Bool.not_eq_false', Bool.and_eq_true, true_and, G] at *; first | (have hk : ¬ okAt ⟨x0, x1⟩ ⟨x2, x3⟩ ⟨x4, x5⟩ ⟨x6, x7⟩ := (by unfold okAt ok; dsimp only; omega); simp only [wt, if_neg hk]) | (have hk : okAt ⟨x0, x1⟩ ⟨x2, x3⟩ ⟨x4, x5⟩ ⟨x6, x7⟩ := (by unfold okAt ok; dsimp only; omega); simp only [wt, if_pos hk, cross]; rfl)
def wt_entry : Entry := fun X args =>
  match args with
  | [(.agg [.int .i64 a0, .int .i64 a1, .int .i64 a2, .int .i64 a3, .int .i64 a4, .int .i64 a5]), (.agg [.int .i64 a6, .int .i64 a7])] => if a0.fits X .i64 && a1.fits X .i64 && a2.fits X .i64 && a3.fits X .i64 && a4.fits X .i64 && a5.fits X .i64 && a6.fits X .i64 && a7.fits X .i64 then .ok (.agg [.int .i64 (.app 4 (.cons a0 (.cons a1 (.cons a2 (.cons a3 (.cons a4 (.cons a5 (.cons a6 (.cons a7 .nil))))))))), .int .i64 (.app 5 (.cons a0 (.cons a1 (.cons a2 (.cons a3 (.cons a4 (.cons a5 (.cons a6 (.cons a7 .nil))))))))), .int .i64 (.app 6 (.cons a0 (.cons a1 (.cons a2 (.cons a3 (.cons a4 (.cons a5 (.cons a6 (.cons a7 .nil)))))))))]) else .fail 200
  | _ => .fail 201
theorem wt_ok {X : Ctx} {ρ : Nat → Int} (hX : X.Ok ρ) (hG : X.G = G) : EntryOk Try.prog X ρ 14 wt_entry := by
  obtain ⟨XG, XI, XV, XF⟩ := X
  simp only at hG
  subst hG
  intro args s h α w vals hv
  unfold wt_entry at h
  split at h
  · split at h
    · rename_i hg
      try simp only [Bool.and_eq_true] at hg
      obtain ⟨⟨⟨⟨⟨⟨⟨g0, g1⟩, g2⟩, g3⟩, g4⟩, g5⟩, g6⟩, g7⟩ := hg
      cases h
      exact entry_calls hv rfl rfl (wt_any _ _ _ _ _ _ _ _ (E.fits_in hX g0) (E.fits_in hX g1) (E.fits_in hX g2) (E.fits_in hX g3) (E.fits_in hX g4) (E.fits_in hX g5) (E.fits_in hX g6) (E.fits_in hX g7) w)
    · cases h
  · cases h
def ct_claim : Contracts := ctCons 8 claim_entry ct_sd
theorem ct_claim_ok {X : Ctx} {ρ : Nat → Int} (hX : X.Ok ρ) (hG : X.G = G) : CtOk Try.prog X ρ ct_claim := ctCons_ok (claim_ok hX hG) (ct_sd_ok hX hG)
def ct_area : Contracts := ctCons 9 area_entry ct_claim
theorem ct_area_ok {X : Ctx} {ρ : Nat → Int} (hX : X.Ok ρ) (hG : X.G = G) : CtOk Try.prog X ρ ct_area := ctCons_ok (area_ok hX hG) (ct_claim_ok hX hG)
def ct_wt : Contracts := ctCons 14 wt_entry ct_area
theorem ct_wt_ok {X : Ctx} {ρ : Nat → Int} (hX : X.Ok ρ) (hG : X.G = G) : CtOk Try.prog X ρ ct_wt := ctCons_ok (wt_ok hX hG) (ct_area_ok hX hG)
end Go.Proofs.Ytoighnoliehafaa
