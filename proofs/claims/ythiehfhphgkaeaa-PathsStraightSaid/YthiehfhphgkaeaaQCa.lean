/- What is proved: what functions of this program return: each over all its ways. The conditions are the numbers' own bounds. -/
import Derived.Test.YthiehfhphgkaeaaQg6
import Derived.Test.YthiehfhphgkaeaaQg3
import Derived.Test.YthiehfhphgkaeaaProg
import Derived.Test.YthiehfhphgkaeaaQNpnear0
import Derived.Test.YthiehfhphgkaeaaQNlevel0
set_option linter.unusedSimpArgs false
set_option linter.unusedVariables false
namespace Go.Proofs.Ythiehfhphgkaeaa
open Go Go.RowKit Sx Wi
set_option maxRecDepth 100000 in
theorem pnear_any (x0 x1 : Int) (b0 : (-4503599627370496) ≤ x0 ∧ x0 ≤ 4503599627370496) (b1 : 1 ≤ x1 ∧ x1 ≤ 262144) (w : World) (hw : WOk GB w) : Known Try.prog 29 ∧ Calls Try.prog 29 #[.int .i64 x0, .int .i64 x1] w (fun e w' => e = .returned (.int .i64 (Fx.near x0 (x1 * 256))) ∧ Below w.heap.size w w') := by
  refine calls_eq (way_calls3 (ρ := rho [x0, x1]) (run := fun fs => pnear_R Try.prog fs) (fun _ => rfl) fits (within_get ⟨b0, b1, trivial⟩) gi_ok (fun X hX hG => ct_w_ok hX hG) rfl rfl gbApart_nil ?_ w hw)
  refine way_leaf pnear_n0 ?_
  refine ⟨rfl, ?_⟩; simp only [E.den, EL.den, B.den, cop_lt, cop_le, cop_eq, cop_ne, iop_add, iop_sub, iop_mul, iop_max, iop_min, iop_quo, iop_rem, iop_fdiv, iop_shl, SV.den, SV.denL, SV.ubd, SV.ubdL, rho, List.getD_cons_zero, List.getD_cons_succ, decide_eq_true_eq, decide_eq_false_iff_not, Bool.not_eq_true', Bool.not_eq_false', Bool.and_eq_true, true_and] at *; first | rfl | (congr 1; done)
def pnear_entry : Entry := fun X args =>
  match args with
  | [.int .i64 a0, .int .i64 a1] => if a0.lies X (-4503599627370496) 4503599627370496 && a1.lies X 1 262144 then .ok (.int .i64 (.app 2 (.cons a0 (.cons (.op .mul a1 (.lit 256)) .nil)))) else .fail 200
  | _ => .fail 201
theorem pnear_ok {X : Ctx} {ρ : Nat → Int} (hX : X.Ok ρ) (hG : X.G = G) : EntryOk Try.prog X ρ GB 29 pnear_entry := by
  obtain ⟨XG, XI, XV, XF⟩ := X
  simp only at hG
  subst hG
  intro args s h α w vals hv hw
  unfold pnear_entry at h
  split at h
  · split at h
    · rename_i hg
      try simp only [Bool.and_eq_true] at hg
      obtain ⟨g0, g1⟩ := hg
      cases h
      exact entry_calls hv rfl rfl (pnear_any _ _ (E.lies_in hX g0) (E.lies_in hX g1) w hw)
    · cases h
  · cases h
set_option maxHeartbeats 4000000 in
set_option maxRecDepth 100000 in
theorem level_any (x0 x1 x2 x3 x4 x5 x6 x7 : Int) (b0 : (-2147483648) ≤ x0 ∧ x0 ≤ 2147483647) (b1 : (-2147483648) ≤ x1 ∧ x1 ≤ 2147483647) (b2 : (-2147483648) ≤ x2 ∧ x2 ≤ 2147483647) (b3 : (-2147483648) ≤ x3 ∧ x3 ≤ 2147483647) (b4 : (-2147483648) ≤ x4 ∧ x4 ≤ 2147483647) (b5 : (-2147483648) ≤ x5 ∧ x5 ≤ 2147483647) (b6 : (-2147483648) ≤ x6 ∧ x6 ≤ 2147483647) (b7 : (-2147483648) ≤ x7 ∧ x7 ≤ 2147483647) (w : World) (hw : WOk GB w) : Known Try.prog 24 ∧ Calls Try.prog 24 #[(.agg #[.int .i64 x0, .int .i64 x1, .int .i64 x2, .int .i64 x3, .int .i64 x4, .int .i64 x5, .int .i64 x6, .int .i64 x7])] w (fun e w' => e = .returned (.int .i64 (xG43 [x0, x1, x2, x3, x4, x5, x6, x7])) ∧ Below w.heap.size w w') := by
  refine calls_eq (way_calls3 (ρ := rho [x0, x1, x2, x3, x4, x5, x6, x7]) (run := fun fs => level_R Try.prog fs) (fun _ => rfl) fits (within_get ⟨b0, b1, b2, b3, b4, b5, b6, b7, trivial⟩) gi_ok (fun X hX hG => ct_w_ok hX hG) rfl rfl gbApart_nil ?_ w hw)
  refine way_need level_n0 (fun h0 => ?_) (fun h0 => ?_)
  rotate_left
  · skip
    refine way_leaf level_n12 ?_
    refine ⟨rfl, ?_⟩; simp only [E.den, EL.den, B.den, cop_lt, cop_le, cop_eq, cop_ne, iop_add, iop_sub, iop_mul, iop_max, iop_min, iop_quo, iop_rem, iop_fdiv, iop_shl, SV.den, SV.denL, SV.ubd, SV.ubdL, rho, List.getD_cons_zero, List.getD_cons_succ, decide_eq_true_eq, decide_eq_false_iff_not, Bool.not_eq_true', Bool.not_eq_false', Bool.and_eq_true, true_and] at *; (try simp only [G, xG43]); unfold levelP bendP; (repeat' split) <;> first | rfl | (exfalso; omega)
  refine way_need level_n1 (fun h1 => ?_) (fun h1 => ?_)
  rotate_left
  · skip
    refine way_leaf level_n11 ?_
    refine ⟨rfl, ?_⟩; simp only [E.den, EL.den, B.den, cop_lt, cop_le, cop_eq, cop_ne, iop_add, iop_sub, iop_mul, iop_max, iop_min, iop_quo, iop_rem, iop_fdiv, iop_shl, SV.den, SV.denL, SV.ubd, SV.ubdL, rho, List.getD_cons_zero, List.getD_cons_succ, decide_eq_true_eq, decide_eq_false_iff_not, Bool.not_eq_true', Bool.not_eq_false', Bool.and_eq_true, true_and] at *; (try simp only [G, xG43]); unfold levelP bendP; (repeat' split) <;> first | rfl | (exfalso; omega)
  refine way_need level_n2 (fun h2 => ?_) (fun h2 => ?_)
  rotate_left
  · skip
    refine way_leaf level_n10 ?_
    refine ⟨rfl, ?_⟩; simp only [E.den, EL.den, B.den, cop_lt, cop_le, cop_eq, cop_ne, iop_add, iop_sub, iop_mul, iop_max, iop_min, iop_quo, iop_rem, iop_fdiv, iop_shl, SV.den, SV.denL, SV.ubd, SV.ubdL, rho, List.getD_cons_zero, List.getD_cons_succ, decide_eq_true_eq, decide_eq_false_iff_not, Bool.not_eq_true', Bool.not_eq_false', Bool.and_eq_true, true_and] at *; (try simp only [G, xG43]); unfold levelP bendP; (repeat' split) <;> first | rfl | (exfalso; omega)
  refine way_need level_n3 (fun h3 => ?_) (fun h3 => ?_)
  rotate_left
  · skip
    refine way_leaf level_n9 ?_
    refine ⟨rfl, ?_⟩; simp only [E.den, EL.den, B.den, cop_lt, cop_le, cop_eq, cop_ne, iop_add, iop_sub, iop_mul, iop_max, iop_min, iop_quo, iop_rem, iop_fdiv, iop_shl, SV.den, SV.denL, SV.ubd, SV.ubdL, rho, List.getD_cons_zero, List.getD_cons_succ, decide_eq_true_eq, decide_eq_false_iff_not, Bool.not_eq_true', Bool.not_eq_false', Bool.and_eq_true, true_and] at *; (try simp only [G, xG43]); unfold levelP bendP; (repeat' split) <;> first | rfl | (exfalso; omega)
  refine way_need level_n4 (fun h4 => ?_) (fun h4 => ?_)
  rotate_left
  · skip
    refine way_leaf level_n8 ?_
    refine ⟨rfl, ?_⟩; simp only [E.den, EL.den, B.den, cop_lt, cop_le, cop_eq, cop_ne, iop_add, iop_sub, iop_mul, iop_max, iop_min, iop_quo, iop_rem, iop_fdiv, iop_shl, SV.den, SV.denL, SV.ubd, SV.ubdL, rho, List.getD_cons_zero, List.getD_cons_succ, decide_eq_true_eq, decide_eq_false_iff_not, Bool.not_eq_true', Bool.not_eq_false', Bool.and_eq_true, true_and] at *; (try simp only [G, xG43]); unfold levelP bendP; (repeat' split) <;> first | rfl | (exfalso; omega)
  refine way_need level_n5 (fun h5 => ?_) (fun h5 => ?_)
  · skip
    refine way_leaf level_n6 ?_
    refine ⟨rfl, ?_⟩; simp only [E.den, EL.den, B.den, cop_lt, cop_le, cop_eq, cop_ne, iop_add, iop_sub, iop_mul, iop_max, iop_min, iop_quo, iop_rem, iop_fdiv, iop_shl, SV.den, SV.denL, SV.ubd, SV.ubdL, rho, List.getD_cons_zero, List.getD_cons_succ, decide_eq_true_eq, decide_eq_false_iff_not, Bool.not_eq_true', Bool.not_eq_false', Bool.and_eq_true, true_and] at *; (try simp only [G, xG43]); unfold levelP bendP; (repeat' split) <;> first | rfl | (exfalso; omega)
  refine way_leaf level_n7 ?_
  refine ⟨rfl, ?_⟩; simp only [E.den, EL.den, B.den, cop_lt, cop_le, cop_eq, cop_ne, iop_add, iop_sub, iop_mul, iop_max, iop_min, iop_quo, iop_rem, iop_fdiv, iop_shl, SV.den, SV.denL, SV.ubd, SV.ubdL, rho, List.getD_cons_zero, List.getD_cons_succ, decide_eq_true_eq, decide_eq_false_iff_not, Bool.not_eq_true', Bool.not_eq_false', Bool.and_eq_true, true_and] at *; (try simp only [G, xG43]); unfold levelP bendP; (repeat' split) <;> first | rfl | (exfalso; omega)
def level_entry : Entry := fun X args =>
  match args with
  | [(.agg [.int .i64 a0, .int .i64 a1, .int .i64 a2, .int .i64 a3, .int .i64 a4, .int .i64 a5, .int .i64 a6, .int .i64 a7])] => if a0.lies X (-2147483648) 2147483647 && a1.lies X (-2147483648) 2147483647 && a2.lies X (-2147483648) 2147483647 && a3.lies X (-2147483648) 2147483647 && a4.lies X (-2147483648) 2147483647 && a5.lies X (-2147483648) 2147483647 && a6.lies X (-2147483648) 2147483647 && a7.lies X (-2147483648) 2147483647 then .ok (.int .i64 (.app 43 (.cons a0 (.cons a1 (.cons a2 (.cons a3 (.cons a4 (.cons a5 (.cons a6 (.cons a7 .nil)))))))))) else .fail 200
  | _ => .fail 201
theorem level_ok {X : Ctx} {ρ : Nat → Int} (hX : X.Ok ρ) (hG : X.G = G) : EntryOk Try.prog X ρ GB 24 level_entry := by
  obtain ⟨XG, XI, XV, XF⟩ := X
  simp only at hG
  subst hG
  intro args s h α w vals hv hw
  unfold level_entry at h
  split at h
  · split at h
    · rename_i hg
      try simp only [Bool.and_eq_true] at hg
      obtain ⟨⟨⟨⟨⟨⟨⟨g0, g1⟩, g2⟩, g3⟩, g4⟩, g5⟩, g6⟩, g7⟩ := hg
      cases h
      exact entry_calls hv rfl rfl (level_any _ _ _ _ _ _ _ _ (E.lies_in hX g0) (E.lies_in hX g1) (E.lies_in hX g2) (E.lies_in hX g3) (E.lies_in hX g4) (E.lies_in hX g5) (E.lies_in hX g6) (E.lies_in hX g7) w hw)
    · cases h
  · cases h
def ct_pnear : Contracts := ctCons 29 pnear_entry ct_w
theorem ct_pnear_ok {X : Ctx} {ρ : Nat → Int} (hX : X.Ok ρ) (hG : X.G = G) : CtOk Try.prog X ρ GB ct_pnear := ctCons_ok (pnear_ok hX hG) (ct_w_ok hX hG)
def ct_level : Contracts := ctCons 24 level_entry ct_pnear
theorem ct_level_ok {X : Ctx} {ρ : Nat → Int} (hX : X.Ok ρ) (hG : X.G = G) : CtOk Try.prog X ρ GB ct_level := ctCons_ok (level_ok hX hG) (ct_pnear_ok hX hG)
end Go.Proofs.Ythiehfhphgkaeaa
