/- What is proved: what functions of this program return: each over all its ways. The conditions are the numbers' own bounds. -/
import Derived.Test.YtoighnoliehafaaCa
set_option linter.unusedSimpArgs false
set_option linter.unusedVariables false
namespace Go.Proofs.Ytoighnoliehafaa
open Go Go.RowKit Sx Ed
set_option maxRecDepth 100000 in
theorem sd_tree : explore (fun fs => exFun Try.prog ⟨G, GI, [((-671088640), 671088640), ((-671088640), 671088640), ((-1342177280), 1342177280), ((-1342177280), 1342177280), ((-671088640), 671088640), ((-671088640), 671088640)], fs⟩ ct_sign 2000 21 [(.agg [(.int .i64 (.var 0)), (.int .i64 (.var 1)), (.int .i64 (.var 2)), (.int .i64 (.var 3))]), (.agg [(.int .i64 (.var 4)), (.int .i64 (.var 5))])]) 60 [] =
 (.br (.cmp .ne (.app 0 (.cons (.op .sub (.op .mul (.var 2) (.op .sub (.var 5) (.var 1))) (.op .mul (.var 3) (.op .sub (.var 4) (.var 0)))) .nil)) (.lit 0))
 (.leaf (.int .i64 (.app 0 (.cons (.op .sub (.op .mul (.var 2) (.op .sub (.var 5) (.var 1))) (.op .mul (.var 3) (.op .sub (.var 4) (.var 0)))) .nil))))
 (.br (.cmp .ne (.op .sub (.lit 0) (.app 0 (.cons (.var 3) .nil))) (.lit 0))
 (.leaf (.int .i64 (.op .sub (.lit 0) (.app 0 (.cons (.var 3) .nil)))))
 (.br (.cmp .ne (.app 0 (.cons (.var 2) .nil)) (.lit 0))
 (.leaf (.int .i64 (.app 0 (.cons (.var 2) .nil))))
 (.leaf (.int .i64 (.lit 0)))))) := by kernel_rfl
set_option maxRecDepth 100000 in
theorem sd_any (x0 x1 x2 x3 x4 x5 : Int) (b0 : (-671088640) ≤ x0 ∧ x0 ≤ 671088640) (b1 : (-671088640) ≤ x1 ∧ x1 ≤ 671088640) (b2 : (-1342177280) ≤ x2 ∧ x2 ≤ 1342177280) (b3 : (-1342177280) ≤ x3 ∧ x3 ≤ 1342177280) (b4 : (-671088640) ≤ x4 ∧ x4 ≤ 671088640) (b5 : (-671088640) ≤ x5 ∧ x5 ≤ 671088640) (w : World) : Known Try.prog 21 ∧ Calls Try.prog 21 #[(.agg #[.int .i64 x0, .int .i64 x1, .int .i64 x2, .int .i64 x3]), (.agg #[.int .i64 x4, .int .i64 x5])] w (fun e w' => e = .returned (.int .i64 (sd x0 x1 x2 x3 x4 x5)) ∧ Below w.heap.size w w') := by
  refine calls_eq (tree_calls (ρ := rho [x0, x1, x2, x3, x4, x5]) sd_tree (by kernel_rfl) (within_get ⟨b0, b1, b2, b3, b4, b5, trivial⟩) gi_ok (fun fs hf => ct_sign_ok (X := ⟨G, GI, _, fs⟩) ⟨within_get ⟨b0, b1, b2, b3, b4, b5, trivial⟩, hf, gi_ok⟩ rfl) rfl ?_ w)
  refine ⟨fun h0 => ?_, fun h0 => ?_⟩
  · skip
    refine ⟨rfl, ?_⟩; simp only [E.den, EL.den, B.den, cop_lt, cop_le, cop_eq, cop_ne, iop_add, iop_sub, iop_mul, iop_max, iop_min, iop_quo, iop_rem, iop_fdiv, SV.den, SV.denL, SV.ubd, SV.ubdL, rho, List.getD_cons_zero, List.getD_cons_succ, decide_eq_true_eq, decide_eq_false_iff_not, Bool.not_eq_true', Bool.not_eq_false', Bool.and_eq_true, true_and, G] at *; unfold sd or3; simp_all
  · skip
    refine ⟨fun h1 => ?_, fun h1 => ?_⟩
    · skip
      refine ⟨rfl, ?_⟩; simp only [E.den, EL.den, B.den, cop_lt, cop_le, cop_eq, cop_ne, iop_add, iop_sub, iop_mul, iop_max, iop_min, iop_quo, iop_rem, iop_fdiv, SV.den, SV.denL, SV.ubd, SV.ubdL, rho, List.getD_cons_zero, List.getD_cons_succ, decide_eq_true_eq, decide_eq_false_iff_not, Bool.not_eq_true', Bool.not_eq_false', Bool.and_eq_true, true_and, G] at *; unfold sd or3; simp_all
    · skip
      refine ⟨fun h2 => ?_, fun h2 => ?_⟩
      · skip
        refine ⟨rfl, ?_⟩; simp only [E.den, EL.den, B.den, cop_lt, cop_le, cop_eq, cop_ne, iop_add, iop_sub, iop_mul, iop_max, iop_min, iop_quo, iop_rem, iop_fdiv, SV.den, SV.denL, SV.ubd, SV.ubdL, rho, List.getD_cons_zero, List.getD_cons_succ, decide_eq_true_eq, decide_eq_false_iff_not, Bool.not_eq_true', Bool.not_eq_false', Bool.and_eq_true, true_and, G] at *; unfold sd or3; simp_all
      · skip
        refine ⟨rfl, ?_⟩; simp only [E.den, EL.den, B.den, cop_lt, cop_le, cop_eq, cop_ne, iop_add, iop_sub, iop_mul, iop_max, iop_min, iop_quo, iop_rem, iop_fdiv, SV.den, SV.denL, SV.ubd, SV.ubdL, rho, List.getD_cons_zero, List.getD_cons_succ, decide_eq_true_eq, decide_eq_false_iff_not, Bool.not_eq_true', Bool.not_eq_false', Bool.and_eq_true, true_and, G] at *; unfold sd or3; simp_all
def sd_entry : Entry := fun X args =>
  match args with
  | [(.agg [.int .i64 a0, .int .i64 a1, .int .i64 a2, .int .i64 a3]), (.agg [.int .i64 a4, .int .i64 a5])] => if a0.lies X (-671088640) 671088640 && a1.lies X (-671088640) 671088640 && a2.lies X (-1342177280) 1342177280 && a3.lies X (-1342177280) 1342177280 && a4.lies X (-671088640) 671088640 && a5.lies X (-671088640) 671088640 then .ok (.int .i64 (.app 2 (.cons a0 (.cons a1 (.cons a2 (.cons a3 (.cons a4 (.cons a5 .nil)))))))) else .fail 200
  | _ => .fail 201
theorem sd_ok {X : Ctx} {ρ : Nat → Int} (hX : X.Ok ρ) (hG : X.G = G) : EntryOk Try.prog X ρ 21 sd_entry := by
  obtain ⟨XG, XI, XV, XF⟩ := X
  simp only at hG
  subst hG
  intro args s h α w vals hv
  unfold sd_entry at h
  split at h
  · split at h
    · rename_i hg
      try simp only [Bool.and_eq_true] at hg
      obtain ⟨⟨⟨⟨⟨g0, g1⟩, g2⟩, g3⟩, g4⟩, g5⟩ := hg
      cases h
      exact entry_calls hv rfl rfl (sd_any _ _ _ _ _ _ (E.lies_in hX g0) (E.lies_in hX g1) (E.lies_in hX g2) (E.lies_in hX g3) (E.lies_in hX g4) (E.lies_in hX g5) w)
    · cases h
  · cases h
def ct_sd : Contracts := ctCons 21 sd_entry ct_sign
theorem ct_sd_ok {X : Ctx} {ρ : Nat → Int} (hX : X.Ok ρ) (hG : X.G = G) : CtOk Try.prog X ρ ct_sd := ctCons_ok (sd_ok hX hG) (ct_sign_ok hX hG)
end Go.Proofs.Ytoighnoliehafaa
