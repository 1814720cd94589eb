/- What is proved: what functions of this program return: each over all its ways. The conditions are the numbers' own bounds. -/
import Derived.Test.YtoiecphddchknaaQg6
import Derived.Test.YtoiecphddchknaaQg3
import Derived.Test.YtoiecphddchknaaProg
import Derived.Test.YtoiecphddchknaaQNsign0
import Derived.Test.YtoiecphddchknaaQNwcmp0
set_option linter.unusedSimpArgs false
set_option linter.unusedVariables false
namespace Go.Proofs.Ytoiecphddchknaa
open Go Go.RowKit Sx Wi
set_option maxRecDepth 100000 in
theorem sign_any (x0 : Int) (b0 : (-9223372036854775808) ≤ x0 ∧ x0 ≤ 9223372036854775807) (w : World) (hw : WOk GB w) : Known Try.prog 38 ∧ Calls Try.prog 38 #[.int .i64 x0] w (fun e w' => e = .returned (.int .i64 (xG60 [x0])) ∧ Below w.heap.size w w') := by
  refine calls_eq (way_calls3 (ρ := rho [x0]) (run := fun fs => sign_R Try.prog fs) (fun _ => rfl) fits (within_get ⟨b0, trivial⟩) gi_ok (fun X hX hG => ct_w_ok hX hG) rfl rfl gbApart_nil ?_ w hw)
  refine way_need sign_n0 (fun h0 => ?_) (fun h0 => ?_)
  · skip
    refine way_leaf sign_n1 ?_
    refine ⟨rfl, ?_⟩; simp only [E.den, EL.den, B.den, cop_lt, cop_le, cop_eq, cop_ne, iop_add, iop_sub, iop_mul, iop_max, iop_min, iop_quo, iop_rem, iop_fdiv, iop_shl, SV.den, SV.denL, SV.ubd, SV.ubdL, rho, List.getD_cons_zero, List.getD_cons_succ, decide_eq_true_eq, decide_eq_false_iff_not, Bool.not_eq_true', Bool.not_eq_false', Bool.and_eq_true, true_and] at *; simp only [xG60]; unfold Ed.sg; split <;> (try split) <;> first | rfl | (exfalso; omega)
  refine way_need sign_n2 (fun h1 => ?_) (fun h1 => ?_)
  · skip
    refine way_leaf sign_n3 ?_
    refine ⟨rfl, ?_⟩; simp only [E.den, EL.den, B.den, cop_lt, cop_le, cop_eq, cop_ne, iop_add, iop_sub, iop_mul, iop_max, iop_min, iop_quo, iop_rem, iop_fdiv, iop_shl, SV.den, SV.denL, SV.ubd, SV.ubdL, rho, List.getD_cons_zero, List.getD_cons_succ, decide_eq_true_eq, decide_eq_false_iff_not, Bool.not_eq_true', Bool.not_eq_false', Bool.and_eq_true, true_and] at *; simp only [xG60]; unfold Ed.sg; split <;> (try split) <;> first | rfl | (exfalso; omega)
  refine way_leaf sign_n4 ?_
  refine ⟨rfl, ?_⟩; simp only [E.den, EL.den, B.den, cop_lt, cop_le, cop_eq, cop_ne, iop_add, iop_sub, iop_mul, iop_max, iop_min, iop_quo, iop_rem, iop_fdiv, iop_shl, SV.den, SV.denL, SV.ubd, SV.ubdL, rho, List.getD_cons_zero, List.getD_cons_succ, decide_eq_true_eq, decide_eq_false_iff_not, Bool.not_eq_true', Bool.not_eq_false', Bool.and_eq_true, true_and] at *; simp only [xG60]; unfold Ed.sg; split <;> (try split) <;> first | rfl | (exfalso; omega)
def sign_entry : Entry := fun X args =>
  match args with
  | [.int .i64 a0] => if a0.fits X .i64 then .ok (.int .i64 (.app 60 (.cons a0 .nil))) else .fail 200
  | _ => .fail 201
theorem sign_ok {X : Ctx} {ρ : Nat → Int} (hX : X.Ok ρ) (hG : X.G = G) : EntryOk Try.prog X ρ GB 38 sign_entry := by
  obtain ⟨XG, XI, XV, XF⟩ := X
  simp only at hG
  subst hG
  intro args s h α w vals hv hw
  unfold sign_entry at h
  split at h
  · split at h
    · rename_i hg
      try simp only [Bool.and_eq_true] at hg
      have g0 := hg
      cases h
      exact entry_calls hv rfl rfl (sign_any _ (E.fits_in hX g0) w hw)
    · cases h
  · cases h
set_option maxRecDepth 100000 in
theorem wcmp_any (x0 x1 x2 x3 : Int) (b0 : (-9223372036854775808) ≤ x0 ∧ x0 ≤ 9223372036854775807) (b1 : 0 ≤ x1 ∧ x1 ≤ 18446744073709551615) (b2 : (-9223372036854775808) ≤ x2 ∧ x2 ≤ 9223372036854775807) (b3 : 0 ≤ x3 ∧ x3 ≤ 18446744073709551615) (w : World) (hw : WOk GB w) : Known Try.prog 22 ∧ Calls Try.prog 22 #[(.agg #[.int .i64 x0, .int .u64 x1]), (.agg #[.int .i64 x2, .int .u64 x3])] w (fun e w' => e = .returned (.int .i64 (xG67 [x0, x1, x2, x3])) ∧ Below w.heap.size w w') := by
  refine calls_eq (way_calls3 (ρ := rho [x0, x1, x2, x3]) (run := fun fs => wcmp_R Try.prog fs) (fun _ => rfl) fits (within_get ⟨b0, b1, b2, b3, trivial⟩) gi_ok (fun X hX hG => ct_w_ok hX hG) rfl rfl gbApart_nil ?_ w hw)
  refine way_need wcmp_n0 (fun h0 => ?_) (fun h0 => ?_)
  · skip
    refine way_need wcmp_n1 (fun h1 => ?_) (fun h1 => ?_)
    · skip
      refine way_leaf wcmp_n2 ?_
      refine ⟨rfl, ?_⟩; simp only [E.den, EL.den, B.den, cop_lt, cop_le, cop_eq, cop_ne, iop_add, iop_sub, iop_mul, iop_max, iop_min, iop_quo, iop_rem, iop_fdiv, iop_shl, SV.den, SV.denL, SV.ubd, SV.ubdL, rho, List.getD_cons_zero, List.getD_cons_succ, decide_eq_true_eq, decide_eq_false_iff_not, Bool.not_eq_true', Bool.not_eq_false', Bool.and_eq_true, true_and] at *; simp only [xG67]; (repeat' split) <;> first | rfl | (exfalso; omega)
    refine way_need wcmp_n3 (fun h2 => ?_) (fun h2 => ?_)
    · skip
      refine way_leaf wcmp_n4 ?_
      refine ⟨rfl, ?_⟩; simp only [E.den, EL.den, B.den, cop_lt, cop_le, cop_eq, cop_ne, iop_add, iop_sub, iop_mul, iop_max, iop_min, iop_quo, iop_rem, iop_fdiv, iop_shl, SV.den, SV.denL, SV.ubd, SV.ubdL, rho, List.getD_cons_zero, List.getD_cons_succ, decide_eq_true_eq, decide_eq_false_iff_not, Bool.not_eq_true', Bool.not_eq_false', Bool.and_eq_true, true_and] at *; simp only [xG67]; (repeat' split) <;> first | rfl | (exfalso; omega)
    refine way_leaf wcmp_n5 ?_
    refine ⟨rfl, ?_⟩; simp only [E.den, EL.den, B.den, cop_lt, cop_le, cop_eq, cop_ne, iop_add, iop_sub, iop_mul, iop_max, iop_min, iop_quo, iop_rem, iop_fdiv, iop_shl, SV.den, SV.denL, SV.ubd, SV.ubdL, rho, List.getD_cons_zero, List.getD_cons_succ, decide_eq_true_eq, decide_eq_false_iff_not, Bool.not_eq_true', Bool.not_eq_false', Bool.and_eq_true, true_and] at *; simp only [xG67]; (repeat' split) <;> first | rfl | (exfalso; omega)
  refine way_need wcmp_n6 (fun h1 => ?_) (fun h1 => ?_)
  · skip
    refine way_need wcmp_n7 (fun h2 => ?_) (fun h2 => ?_)
    · skip
      refine way_leaf wcmp_n8 ?_
      refine ⟨rfl, ?_⟩; simp only [E.den, EL.den, B.den, cop_lt, cop_le, cop_eq, cop_ne, iop_add, iop_sub, iop_mul, iop_max, iop_min, iop_quo, iop_rem, iop_fdiv, iop_shl, SV.den, SV.denL, SV.ubd, SV.ubdL, rho, List.getD_cons_zero, List.getD_cons_succ, decide_eq_true_eq, decide_eq_false_iff_not, Bool.not_eq_true', Bool.not_eq_false', Bool.and_eq_true, true_and] at *; simp only [xG67]; (repeat' split) <;> first | rfl | (exfalso; omega)
    refine way_need wcmp_n9 (fun h3 => ?_) (fun h3 => ?_)
    · skip
      refine way_leaf wcmp_n10 ?_
      refine ⟨rfl, ?_⟩; simp only [E.den, EL.den, B.den, cop_lt, cop_le, cop_eq, cop_ne, iop_add, iop_sub, iop_mul, iop_max, iop_min, iop_quo, iop_rem, iop_fdiv, iop_shl, SV.den, SV.denL, SV.ubd, SV.ubdL, rho, List.getD_cons_zero, List.getD_cons_succ, decide_eq_true_eq, decide_eq_false_iff_not, Bool.not_eq_true', Bool.not_eq_false', Bool.and_eq_true, true_and] at *; simp only [xG67]; (repeat' split) <;> first | rfl | (exfalso; omega)
    refine way_leaf wcmp_n11 ?_
    refine ⟨rfl, ?_⟩; simp only [E.den, EL.den, B.den, cop_lt, cop_le, cop_eq, cop_ne, iop_add, iop_sub, iop_mul, iop_max, iop_min, iop_quo, iop_rem, iop_fdiv, iop_shl, SV.den, SV.denL, SV.ubd, SV.ubdL, rho, List.getD_cons_zero, List.getD_cons_succ, decide_eq_true_eq, decide_eq_false_iff_not, Bool.not_eq_true', Bool.not_eq_false', Bool.and_eq_true, true_and] at *; simp only [xG67]; (repeat' split) <;> first | rfl | (exfalso; omega)
  refine way_need wcmp_n12 (fun h2 => ?_) (fun h2 => ?_)
  · skip
    refine way_leaf wcmp_n13 ?_
    refine ⟨rfl, ?_⟩; simp only [E.den, EL.den, B.den, cop_lt, cop_le, cop_eq, cop_ne, iop_add, iop_sub, iop_mul, iop_max, iop_min, iop_quo, iop_rem, iop_fdiv, iop_shl, SV.den, SV.denL, SV.ubd, SV.ubdL, rho, List.getD_cons_zero, List.getD_cons_succ, decide_eq_true_eq, decide_eq_false_iff_not, Bool.not_eq_true', Bool.not_eq_false', Bool.and_eq_true, true_and] at *; simp only [xG67]; (repeat' split) <;> first | rfl | (exfalso; omega)
  refine way_need wcmp_n14 (fun h3 => ?_) (fun h3 => ?_)
  · skip
    refine way_leaf wcmp_n15 ?_
    refine ⟨rfl, ?_⟩; simp only [E.den, EL.den, B.den, cop_lt, cop_le, cop_eq, cop_ne, iop_add, iop_sub, iop_mul, iop_max, iop_min, iop_quo, iop_rem, iop_fdiv, iop_shl, SV.den, SV.denL, SV.ubd, SV.ubdL, rho, List.getD_cons_zero, List.getD_cons_succ, decide_eq_true_eq, decide_eq_false_iff_not, Bool.not_eq_true', Bool.not_eq_false', Bool.and_eq_true, true_and] at *; simp only [xG67]; (repeat' split) <;> first | rfl | (exfalso; omega)
  refine way_leaf wcmp_n16 ?_
  refine ⟨rfl, ?_⟩; simp only [E.den, EL.den, B.den, cop_lt, cop_le, cop_eq, cop_ne, iop_add, iop_sub, iop_mul, iop_max, iop_min, iop_quo, iop_rem, iop_fdiv, iop_shl, SV.den, SV.denL, SV.ubd, SV.ubdL, rho, List.getD_cons_zero, List.getD_cons_succ, decide_eq_true_eq, decide_eq_false_iff_not, Bool.not_eq_true', Bool.not_eq_false', Bool.and_eq_true, true_and] at *; simp only [xG67]; (repeat' split) <;> first | rfl | (exfalso; omega)
def wcmp_entry : Entry := fun X args =>
  match args with
  | [(.agg [.int .i64 a0, .int .u64 a1]), (.agg [.int .i64 a2, .int .u64 a3])] => if a0.fits X .i64 && a1.fits X .u64 && a2.fits X .i64 && a3.fits X .u64 then .ok (.int .i64 (.app 67 (.cons a0 (.cons a1 (.cons a2 (.cons a3 .nil)))))) else .fail 200
  | _ => .fail 201
theorem wcmp_ok {X : Ctx} {ρ : Nat → Int} (hX : X.Ok ρ) (hG : X.G = G) : EntryOk Try.prog X ρ GB 22 wcmp_entry := by
  obtain ⟨XG, XI, XV, XF⟩ := X
  simp only at hG
  subst hG
  intro args s h α w vals hv hw
  unfold wcmp_entry at h
  split at h
  · split at h
    · rename_i hg
      try simp only [Bool.and_eq_true] at hg
      obtain ⟨⟨⟨g0, g1⟩, g2⟩, g3⟩ := hg
      cases h
      exact entry_calls hv rfl rfl (wcmp_any _ _ _ _ (E.fits_in hX g0) (E.fits_in hX g1) (E.fits_in hX g2) (E.fits_in hX g3) w hw)
    · cases h
  · cases h
def ct_sign : Contracts := ctCons 38 sign_entry ct_w
theorem ct_sign_ok {X : Ctx} {ρ : Nat → Int} (hX : X.Ok ρ) (hG : X.G = G) : CtOk Try.prog X ρ GB ct_sign := ctCons_ok (sign_ok hX hG) (ct_w_ok hX hG)
def ct_wcmp : Contracts := ctCons 22 wcmp_entry ct_sign
theorem ct_wcmp_ok {X : Ctx} {ρ : Nat → Int} (hX : X.Ok ρ) (hG : X.G = G) : CtOk Try.prog X ρ GB ct_wcmp := ctCons_ok (wcmp_ok hX hG) (ct_sign_ok hX hG)
end Go.Proofs.Ytoiecphddchknaa
