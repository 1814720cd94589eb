/- What is proved: what functions of this program return: each over all its ways. The conditions are the numbers' own bounds. -/
import Derived.Test.YtoighnoliehafaaGd
import Derived.Test.YtoighnoliehafaaProg
set_option linter.unusedSimpArgs false
set_option linter.unusedVariables false
namespace Go.Proofs.Ytoighnoliehafaa
open Go Go.RowKit Sx Ed
set_option maxRecDepth 100000 in
theorem sign_tree : explore (fun fs => exFun Try.prog ⟨G, GI, [((-9223372036854775808), 9223372036854775807)], fs⟩ ctNil 2000 18 [(.int .i64 (.var 0))]) 60 [] =
 (.br (.cmp .lt (.var 0) (.lit 0))
 (.leaf (.int .i64 (.lit (-1))))
 (.br (.cmp .lt (.lit 0) (.var 0))
 (.leaf (.int .i64 (.lit 1)))
 (.leaf (.int .i64 (.lit 0))))) := by kernel_rfl
set_option maxRecDepth 100000 in
theorem sign_any (x0 : Int) (b0 : (-9223372036854775808) ≤ x0 ∧ x0 ≤ 9223372036854775807) (w : World) : Known Try.prog 18 ∧ Calls Try.prog 18 #[.int .i64 x0] w (fun e w' => e = .returned (.int .i64 (sg x0)) ∧ Below w.heap.size w w') := by
  refine calls_eq (tree_calls (ρ := rho [x0]) sign_tree (by kernel_rfl) (within_get ⟨b0, trivial⟩) gi_ok (fun fs hf => ctNil_ok) rfl ?_ w)
  refine ⟨fun h0 => ?_, fun h0 => ?_⟩
  · skip
    refine ⟨rfl, ?_⟩; simp only [E.den, EL.den, B.den, cop_lt, cop_le, cop_eq, cop_ne, iop_add, iop_sub, iop_mul, iop_max, iop_min, iop_quo, iop_rem, iop_fdiv, SV.den, SV.denL, SV.ubd, SV.ubdL, rho, List.getD_cons_zero, List.getD_cons_succ, decide_eq_true_eq, decide_eq_false_iff_not, Bool.not_eq_true', Bool.not_eq_false', Bool.and_eq_true, true_and, G] at *; unfold sg; split <;> (try split) <;> first | rfl | (exfalso; omega)
  · skip
    refine ⟨fun h1 => ?_, fun h1 => ?_⟩
    · skip
      refine ⟨rfl, ?_⟩; simp only [E.den, EL.den, B.den, cop_lt, cop_le, cop_eq, cop_ne, iop_add, iop_sub, iop_mul, iop_max, iop_min, iop_quo, iop_rem, iop_fdiv, SV.den, SV.denL, SV.ubd, SV.ubdL, rho, List.getD_cons_zero, List.getD_cons_succ, decide_eq_true_eq, decide_eq_false_iff_not, Bool.not_eq_true', Bool.not_eq_false', Bool.and_eq_true, true_and, G] at *; unfold sg; split <;> (try split) <;> first | rfl | (exfalso; omega)
    · skip
      refine ⟨rfl, ?_⟩; simp only [E.den, EL.den, B.den, cop_lt, cop_le, cop_eq, cop_ne, iop_add, iop_sub, iop_mul, iop_max, iop_min, iop_quo, iop_rem, iop_fdiv, SV.den, SV.denL, SV.ubd, SV.ubdL, rho, List.getD_cons_zero, List.getD_cons_succ, decide_eq_true_eq, decide_eq_false_iff_not, Bool.not_eq_true', Bool.not_eq_false', Bool.and_eq_true, true_and, G] at *; unfold sg; split <;> (try split) <;> first | rfl | (exfalso; omega)
def sign_entry : Entry := fun X args =>
  match args with
  | [.int .i64 a0] => if a0.fits X .i64 then .ok (.int .i64 (.app 0 (.cons a0 .nil))) else .fail 200
  | _ => .fail 201
theorem sign_ok {X : Ctx} {ρ : Nat → Int} (hX : X.Ok ρ) (hG : X.G = G) : EntryOk Try.prog X ρ 18 sign_entry := by
  obtain ⟨XG, XI, XV, XF⟩ := X
  simp only at hG
  subst hG
  intro args s h α w vals hv
  unfold sign_entry at h
  split at h
  · split at h
    · rename_i hg
      try simp only [Bool.and_eq_true] at hg
      have g0 := hg
      cases h
      exact entry_calls hv rfl rfl (sign_any _ (E.fits_in hX g0) w)
    · cases h
  · cases h
def ct_sign : Contracts := ctCons 18 sign_entry ctNil
theorem ct_sign_ok {X : Ctx} {ρ : Nat → Int} (hX : X.Ok ρ) (hG : X.G = G) : CtOk Try.prog X ρ ct_sign := ctCons_ok (sign_ok hX hG) (ctNil_ok)
end Go.Proofs.Ytoighnoliehafaa
