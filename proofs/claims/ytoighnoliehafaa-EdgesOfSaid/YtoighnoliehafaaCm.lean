/- What is proved: what functions of this program return: each over all its ways. The conditions are the numbers' own bounds. -/
import Derived.Test.YtoighnoliehafaaCl
set_option linter.unusedSimpArgs false
set_option linter.unusedVariables false
namespace Go.Proofs.Ytoighnoliehafaa
open Go Go.RowKit Sx Ed
set_option maxRecDepth 100000 in
theorem mvd_tree : explore (fun fs => exFun Try.prog ⟨G, GI, [((-671088640), 671088640), ((-671088640), 671088640), ((-671088640), 671088640), ((-671088640), 671088640), ((-671088640), 671088640), ((-671088640), 671088640)], fs⟩ ct_lives 2000 27 [(.agg [(.int .i64 (.var 0)), (.int .i64 (.var 1))]), (.agg [(.int .i64 (.var 2)), (.int .i64 (.var 3))]), (.agg [(.int .i64 (.var 4)), (.int .i64 (.var 5))])]) 60 [] =
 (.br (.cmp .lt (.lit 0) (.op .sub (.op .mul (.op .sub (.var 2) (.var 0)) (.op .sub (.var 5) (.var 1))) (.op .mul (.op .sub (.var 3) (.var 1)) (.op .sub (.var 4) (.var 0)))))
 (.leaf (.int .i64 (.lit 1)))
 (.br (.cmp .lt (.op .sub (.op .mul (.op .sub (.var 2) (.var 0)) (.op .sub (.var 5) (.var 1))) (.op .mul (.op .sub (.var 3) (.var 1)) (.op .sub (.var 4) (.var 0)))) (.lit 0))
 (.leaf (.int .i64 (.lit (-1))))
 (.br (.cmp .lt (.lit 0) (.op .sub (.var 1) (.var 3)))
 (.leaf (.int .i64 (.lit 1)))
 (.br (.cmp .lt (.op .sub (.var 1) (.var 3)) (.lit 0))
 (.leaf (.int .i64 (.lit (-1))))
 (.br (.cmp .lt (.lit 0) (.op .sub (.var 2) (.var 0)))
 (.leaf (.int .i64 (.lit 1)))
 (.br (.cmp .lt (.op .sub (.var 2) (.var 0)) (.lit 0))
 (.leaf (.int .i64 (.lit (-1))))
 (.leaf (.int .i64 (.lit 0))))))))) := by kernel_rfl
set_option maxHeartbeats 1000000 in
set_option maxRecDepth 100000 in
theorem mvd_any (x0 x1 x2 x3 x4 x5 : Int) (b0 : (-671088640) ≤ x0 ∧ x0 ≤ 671088640) (b1 : (-671088640) ≤ x1 ∧ x1 ≤ 671088640) (b2 : (-671088640) ≤ x2 ∧ x2 ≤ 671088640) (b3 : (-671088640) ≤ x3 ∧ x3 ≤ 671088640) (b4 : (-671088640) ≤ x4 ∧ x4 ≤ 671088640) (b5 : (-671088640) ≤ x5 ∧ x5 ≤ 671088640) (w : World) : Known Try.prog 27 ∧ Calls Try.prog 27 #[(.agg #[.int .i64 x0, .int .i64 x1]), (.agg #[.int .i64 x2, .int .i64 x3]), (.agg #[.int .i64 x4, .int .i64 x5])] w (fun e w' => e = .returned (.int .i64 (mvd ⟨x0, x1⟩ ⟨x2, x3⟩ ⟨x4, x5⟩)) ∧ Below w.heap.size w w') := by
  refine calls_eq (tree_calls (ρ := rho [x0, x1, x2, x3, x4, x5]) mvd_tree (by kernel_rfl) (within_get ⟨b0, b1, b2, b3, b4, b5, trivial⟩) gi_ok (fun fs hf => ct_lives_ok (X := ⟨G, GI, _, fs⟩) ⟨within_get ⟨b0, b1, b2, b3, b4, b5, trivial⟩, hf, gi_ok⟩ rfl) rfl ?_ w)
  refine ⟨fun h0 => ?_, fun h0 => ?_⟩
  · skip
    refine ⟨rfl, ?_⟩; simp only [E.den, EL.den, B.den, cop_lt, cop_le, cop_eq, cop_ne, iop_add, iop_sub, iop_mul, iop_max, iop_min, iop_quo, iop_rem, iop_fdiv, SV.den, SV.denL, SV.ubd, SV.ubdL, rho, List.getD_cons_zero, List.getD_cons_succ, decide_eq_true_eq, decide_eq_false_iff_not, Bool.not_eq_true', Bool.not_eq_false', Bool.and_eq_true, true_and, G] at *; congr 1; unfold mvd or3 sg cross; dsimp only; (repeat' split) <;> first | rfl | (exfalso; omega) | omega
  · skip
    refine ⟨fun h1 => ?_, fun h1 => ?_⟩
    · skip
      refine ⟨rfl, ?_⟩; simp only [E.den, EL.den, B.den, cop_lt, cop_le, cop_eq, cop_ne, iop_add, iop_sub, iop_mul, iop_max, iop_min, iop_quo, iop_rem, iop_fdiv, SV.den, SV.denL, SV.ubd, SV.ubdL, rho, List.getD_cons_zero, List.getD_cons_succ, decide_eq_true_eq, decide_eq_false_iff_not, Bool.not_eq_true', Bool.not_eq_false', Bool.and_eq_true, true_and, G] at *; congr 1; unfold mvd or3 sg cross; dsimp only; (repeat' split) <;> first | rfl | (exfalso; omega) | omega
    · skip
      refine ⟨fun h2 => ?_, fun h2 => ?_⟩
      · skip
        refine ⟨rfl, ?_⟩; simp only [E.den, EL.den, B.den, cop_lt, cop_le, cop_eq, cop_ne, iop_add, iop_sub, iop_mul, iop_max, iop_min, iop_quo, iop_rem, iop_fdiv, SV.den, SV.denL, SV.ubd, SV.ubdL, rho, List.getD_cons_zero, List.getD_cons_succ, decide_eq_true_eq, decide_eq_false_iff_not, Bool.not_eq_true', Bool.not_eq_false', Bool.and_eq_true, true_and, G] at *; congr 1; unfold mvd or3 sg cross; dsimp only; (repeat' split) <;> first | rfl | (exfalso; omega) | omega
      · skip
        refine ⟨fun h3 => ?_, fun h3 => ?_⟩
        · skip
          refine ⟨rfl, ?_⟩; simp only [E.den, EL.den, B.den, cop_lt, cop_le, cop_eq, cop_ne, iop_add, iop_sub, iop_mul, iop_max, iop_min, iop_quo, iop_rem, iop_fdiv, SV.den, SV.denL, SV.ubd, SV.ubdL, rho, List.getD_cons_zero, List.getD_cons_succ, decide_eq_true_eq, decide_eq_false_iff_not, Bool.not_eq_true', Bool.not_eq_false', Bool.and_eq_true, true_and, G] at *; congr 1; unfold mvd or3 sg cross; dsimp only; (repeat' split) <;> first | rfl | (exfalso; omega) | omega
        · skip
          refine ⟨fun h4 => ?_, fun h4 => ?_⟩
          · skip
            refine ⟨rfl, ?_⟩; simp only [E.den, EL.den, B.den, cop_lt, cop_le, cop_eq, cop_ne, iop_add, iop_sub, iop_mul, iop_max, iop_min, iop_quo, iop_rem, iop_fdiv, SV.den, SV.denL, SV.ubd, SV.ubdL, rho, List.getD_cons_zero, List.getD_cons_succ, decide_eq_true_eq, decide_eq_false_iff_not, Bool.not_eq_true', Bool.not_eq_false', Bool.and_eq_true, true_and, G] at *; congr 1; unfold mvd or3 sg cross; dsimp only; (repeat' split) <;> first | rfl | (exfalso; omega) | omega
          · skip
            refine ⟨fun h5 => ?_, fun h5 => ?_⟩
            · skip
              refine ⟨rfl, ?_⟩; simp only [E.den, EL.den, B.den, cop_lt, cop_le, cop_eq, cop_ne, iop_add, iop_sub, iop_mul, iop_max, iop_min, iop_quo, iop_rem, iop_fdiv, SV.den, SV.denL, SV.ubd, SV.ubdL, rho, List.getD_cons_zero, List.getD_cons_succ, decide_eq_true_eq, decide_eq_false_iff_not, Bool.not_eq_true', Bool.not_eq_false', Bool.and_eq_true, true_and, G] at *; congr 1; unfold mvd or3 sg cross; dsimp only; (repeat' split) <;> first | rfl | (exfalso; omega) | omega
            · skip
              refine ⟨rfl, ?_⟩; simp only [E.den, EL.den, B.den, cop_lt, cop_le, cop_eq, cop_ne, iop_add, iop_sub, iop_mul, iop_max, iop_min, iop_quo, iop_rem, iop_fdiv, SV.den, SV.denL, SV.ubd, SV.ubdL, rho, List.getD_cons_zero, List.getD_cons_succ, decide_eq_true_eq, decide_eq_false_iff_not, Bool.not_eq_true', Bool.not_eq_false', Bool.and_eq_true, true_and, G] at *; congr 1; unfold mvd or3 sg cross; dsimp only; (repeat' split) <;> first | rfl | (exfalso; omega) | omega
def mvd_entry : Entry := fun X args =>
  match args with
  | [(.agg [.int .i64 a0, .int .i64 a1]), (.agg [.int .i64 a2, .int .i64 a3]), (.agg [.int .i64 a4, .int .i64 a5])] => if a0.lies X (-671088640) 671088640 && a1.lies X (-671088640) 671088640 && a2.lies X (-671088640) 671088640 && a3.lies X (-671088640) 671088640 && a4.lies X (-671088640) 671088640 && a5.lies X (-671088640) 671088640 then .ok (.int .i64 (.app 7 (.cons a0 (.cons a1 (.cons a2 (.cons a3 (.cons a4 (.cons a5 .nil)))))))) else .fail 200
  | _ => .fail 201
theorem mvd_ok {X : Ctx} {ρ : Nat → Int} (hX : X.Ok ρ) (hG : X.G = G) : EntryOk Try.prog X ρ 27 mvd_entry := by
  obtain ⟨XG, XI, XV, XF⟩ := X
  simp only at hG
  subst hG
  intro args s h α w vals hv
  unfold mvd_entry at h
  split at h
  · split at h
    · rename_i hg
      try simp only [Bool.and_eq_true] at hg
      obtain ⟨⟨⟨⟨⟨g0, g1⟩, g2⟩, g3⟩, g4⟩, g5⟩ := hg
      cases h
      exact entry_calls hv rfl rfl (mvd_any _ _ _ _ _ _ (E.lies_in hX g0) (E.lies_in hX g1) (E.lies_in hX g2) (E.lies_in hX g3) (E.lies_in hX g4) (E.lies_in hX g5) w)
    · cases h
  · cases h
def ct_mvd : Contracts := ctCons 27 mvd_entry ct_lives
theorem ct_mvd_ok {X : Ctx} {ρ : Nat → Int} (hX : X.Ok ρ) (hG : X.G = G) : CtOk Try.prog X ρ ct_mvd := ctCons_ok (mvd_ok hX hG) (ct_lives_ok hX hG)
end Go.Proofs.Ytoighnoliehafaa
