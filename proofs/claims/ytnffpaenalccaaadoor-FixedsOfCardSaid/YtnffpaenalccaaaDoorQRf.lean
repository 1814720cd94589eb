/- What is proved: what functions of this program return: each over all its ways. The conditions are the numbers' own bounds. -/
import Derived.Test.YtnffpaenalccaaaDoorQg4
import Derived.Test.YtnffpaenalccaaaDoorQCa
import Derived.Test.YtnffpaenalccaaaDoorQPn
import Derived.Test.YtnffpaenalccaaaDoorQg2
import Derived.Test.YtnffpaenalccaaaDoorProg
import Derived.Test.YtnffpaenalccaaaDoorQNrsat0
import Derived.Test.YtnffpaenalccaaaDoorQNrof0
import Derived.Test.YtnffpaenalccaaaDoorQNrmul0
import Derived.Test.YtnffpaenalccaaaDoorQNrratio0
import Derived.Test.YtnffpaenalccaaaDoorQNrline1
import Derived.Test.YtnffpaenalccaaaDoorQNrline2
import Derived.Test.YtnffpaenalccaaaDoorQNrfloor0
import Derived.Test.YtnffpaenalccaaaDoorQNrceil0
import Derived.Test.YtnffpaenalccaaaDoorQNrround0
set_option linter.unusedSimpArgs false
set_option linter.unusedVariables false
namespace Go.Proofs.YtnffpaenalccaaaDoor
open Go Go.RowKit Sx Wi
set_option maxHeartbeats 8000000 in
set_option maxRecDepth 100000 in
theorem rsat_any (x0 : Int) (b0 : (-9223372036854775808) ≤ x0 ∧ x0 ≤ 9223372036854775807) (w : World) (hw : WOk GB w) : Known Tryd.prog 28 ∧ Calls Tryd.prog 28 #[.int .i64 x0] w (fun e w' => e = .returned (.int .i32 (IOp.den .max (-2147483648) (IOp.den .min 2147483647 (x0)))) ∧ Below w.heap.size w w') := by
  refine calls_eq (way_calls3 (ρ := rho [x0]) (run := fun fs => rsat_R Tryd.prog fs) (fun _ => rfl) (by kernel_rfl) (within_get ⟨b0, trivial⟩) gi_ok (fun X hX hG => ct_hold_ok hX hG) rfl gb_flat gb_apart ?_ w hw)
  refine way_cut (.cmp .lt (.var 0) (.lit 0)) (fun h0 => ?_) (fun h0 => ?_)
  · skip
    refine way_leaf rsat_n1 ?_
    refine ⟨rfl, ?_⟩; simp only [nm, digL, dgE, dgP, dgP1, List.cons_append, List.nil_append, List.append_nil] at *; ((try simp only [near_one]) <;> (try simp only [iop_max, iop_min]) <;> first | rfl | (congr 1; omega))
  refine way_leaf rsat_n2 ?_
  refine ⟨rfl, ?_⟩; simp only [nm, digL, dgE, dgP, dgP1, List.cons_append, List.nil_append, List.append_nil] at *; ((try simp only [near_one]) <;> (try simp only [iop_max, iop_min]) <;> first | rfl | (congr 1; omega))
def rsat_entry : Entry := fun X args =>
  match args with
  | [.int .i64 a0] => if a0.fits X .i64 then .ok (.int .i32 (.op .max (.lit (-2147483648)) (.op .min (.lit 2147483647) a0))) else .fail 200
  | _ => .fail 201
theorem rsat_ok {X : Ctx} {ρ : Nat → Int} (hX : X.Ok ρ) (hG : X.G = G) : EntryOk Tryd.prog X ρ GB 28 rsat_entry := by
  obtain ⟨XG, XI, XV, XF⟩ := X
  simp only at hG
  subst hG
  intro args s h α w vals hv hw
  unfold rsat_entry at h
  split at h
  · split at h
    · rename_i hg
      try simp only [Bool.and_eq_true] at hg
      have g0 := hg
      cases h
      exact entry_calls hv rfl rfl (rsat_any _ (E.fits_in hX g0) w hw)
    · cases h
  · cases h
set_option maxHeartbeats 8000000 in
set_option maxRecDepth 100000 in
theorem rof_any (x0 : Int) (b0 : (-9223372036854775808) ≤ x0 ∧ x0 ≤ 9223372036854775807) (w : World) (hw : WOk GB w) : Known Tryd.prog 30 ∧ Calls Tryd.prog 30 #[.int .i64 x0] w (fun e w' => e = .returned (.int .i32 (IOp.den .max (-2147483648) (IOp.den .min 2147483647 (x0 * 65536)))) ∧ Below w.heap.size w w') := by
  refine calls_eq (way_calls3 (ρ := rho [x0]) (run := fun fs => rof_R Tryd.prog fs) (fun _ => rfl) (by kernel_rfl) (within_get ⟨b0, trivial⟩) gi_ok (fun X hX hG => ct_hold_ok hX hG) rfl gb_flat gb_apart ?_ w hw)
  refine way_cut (.cmp .lt (.var 0) (.lit 0)) (fun h0 => ?_) (fun h0 => ?_)
  · skip
    refine way_leaf rof_n1 ?_
    refine ⟨rfl, ?_⟩; simp only [nm, digL, dgE, dgP, dgP1, List.cons_append, List.nil_append, List.append_nil] at *; ((try simp only [near_one]) <;> (try simp only [iop_max, iop_min]) <;> first | rfl | (congr 1; omega))
  refine way_leaf rof_n2 ?_
  refine ⟨rfl, ?_⟩; simp only [nm, digL, dgE, dgP, dgP1, List.cons_append, List.nil_append, List.append_nil] at *; ((try simp only [near_one]) <;> (try simp only [iop_max, iop_min]) <;> first | rfl | (congr 1; omega))
def rof_entry : Entry := fun X args =>
  match args with
  | [.int .i64 a0] => if a0.fits X .i64 then .ok (.int .i32 (.op .max (.lit (-2147483648)) (.op .min (.lit 2147483647) (.op .mul a0 (.lit 65536))))) else .fail 200
  | _ => .fail 201
theorem rof_ok {X : Ctx} {ρ : Nat → Int} (hX : X.Ok ρ) (hG : X.G = G) : EntryOk Tryd.prog X ρ GB 30 rof_entry := by
  obtain ⟨XG, XI, XV, XF⟩ := X
  simp only at hG
  subst hG
  intro args s h α w vals hv hw
  unfold rof_entry at h
  split at h
  · split at h
    · rename_i hg
      try simp only [Bool.and_eq_true] at hg
      have g0 := hg
      cases h
      exact entry_calls hv rfl rfl (rof_any _ (E.fits_in hX g0) w hw)
    · cases h
  · cases h
set_option maxHeartbeats 8000000 in
set_option maxRecDepth 100000 in
theorem rmul_any (x0 x1 : Int) (b0 : (-2147483648) ≤ x0 ∧ x0 ≤ 2147483647) (b1 : (-2147483648) ≤ x1 ∧ x1 ≤ 2147483647) (w : World) (hw : WOk GB w) : Known Tryd.prog 16 ∧ Calls Tryd.prog 16 #[.int .i32 x0, .int .i32 x1] w (fun e w' => e = .returned (.int .i32 (Fx.mul x0 x1)) ∧ Below w.heap.size w w') := by
  refine calls_eq (way_calls3 (ρ := rho [x0, x1]) (run := fun fs => rmul_R Tryd.prog fs) (fun _ => rfl) (by kernel_rfl) (within_get ⟨b0, b1, trivial⟩) gi_ok (fun X hX hG => ct_hold_ok hX hG) rfl gb_flat gb_apart ?_ w hw)
  refine way_cut (.cmp .lt (.var 0) (.lit 0)) (fun h0 => ?_) (fun h0 => ?_)
  · skip
    refine way_cut (.cmp .lt (.var 1) (.lit 0)) (fun h1 => ?_) (fun h1 => ?_)
    · skip
      refine way_leaf rmul_n2 ?_
      refine ⟨rfl, ?_⟩; simp only [nm, digL, dgE, dgP, dgP1, List.cons_append, List.nil_append, List.append_nil] at *; first | (have hA : ((0 - x0) * (0 - x1)) = x0 * x1 := (by grind); rw [hA]; rw [mul_m, ← sat_e])
    refine way_leaf rmul_n3 ?_
    refine ⟨rfl, ?_⟩; simp only [nm, digL, dgE, dgP, dgP1, List.cons_append, List.nil_append, List.append_nil] at *; first | (have hA : (0 - ((0 - x0) * x1)) = x0 * x1 := (by grind); rw [hA]; rw [mul_m, ← sat_e])
  refine way_cut (.cmp .lt (.var 1) (.lit 0)) (fun h1 => ?_) (fun h1 => ?_)
  · skip
    refine way_leaf rmul_n5 ?_
    refine ⟨rfl, ?_⟩; simp only [nm, digL, dgE, dgP, dgP1, List.cons_append, List.nil_append, List.append_nil] at *; first | (have hA : (0 - (x0 * (0 - x1))) = x0 * x1 := (by grind); rw [hA]; rw [mul_m, ← sat_e])
  refine way_leaf rmul_n6 ?_
  refine ⟨rfl, ?_⟩; simp only [nm, digL, dgE, dgP, dgP1, List.cons_append, List.nil_append, List.append_nil] at *; first | (have hA : (x0 * x1) = x0 * x1 := (by grind); rw [hA]; rw [mul_m, ← sat_e])
def rmul_entry : Entry := fun X args =>
  match args with
  | [.int .i32 a0, .int .i32 a1] => if a0.fits X .i32 && a1.fits X .i32 then .ok (.int .i32 (.app 5 (.cons a0 (.cons a1 .nil)))) else .fail 200
  | _ => .fail 201
theorem rmul_ok {X : Ctx} {ρ : Nat → Int} (hX : X.Ok ρ) (hG : X.G = G) : EntryOk Tryd.prog X ρ GB 16 rmul_entry := by
  obtain ⟨XG, XI, XV, XF⟩ := X
  simp only at hG
  subst hG
  intro args s h α w vals hv hw
  unfold rmul_entry at h
  split at h
  · split at h
    · rename_i hg
      try simp only [Bool.and_eq_true] at hg
      obtain ⟨g0, g1⟩ := hg
      cases h
      exact entry_calls hv rfl rfl (rmul_any _ _ (E.fits_in hX g0) (E.fits_in hX g1) w hw)
    · cases h
  · cases h
set_option maxHeartbeats 8000000 in
set_option maxRecDepth 100000 in
theorem rratio_any (x0 x1 : Int) (b0 : (-9223372036854775808) ≤ x0 ∧ x0 ≤ 9223372036854775807) (b1 : (-9223372036854775808) ≤ x1 ∧ x1 ≤ 9223372036854775807) (w : World) (hw : WOk GB w) : Known Tryd.prog 26 ∧ Calls Tryd.prog 26 #[.int .i64 x0, .int .i64 x1] w (fun e w' => e = .returned (if x1 = 0 then .tuple #[.int .i32 0, .int .i64 12] else .tuple #[.int .i32 (Fx.ratio x0 x1), .int .i64 0]) ∧ Below w.heap.size w w') := by
  refine calls_eq (way_calls3 (ρ := rho [x0, x1]) (run := fun fs => rratio_R Tryd.prog fs) (fun _ => rfl) (by kernel_rfl) (within_get ⟨b0, b1, trivial⟩) gi_ok (fun X hX hG => ct_hold_ok hX hG) rfl gb_flat gb_apart ?_ w hw)
  refine way_cut (.cmp .eq (.var 1) (.lit 0)) (fun h0 => ?_) (fun h0 => ?_)
  · skip
    refine way_leaf rratio_n1 ?_
    refine ⟨rfl, ?_⟩; simp only [nm, digL, dgE, dgP, dgP1, List.cons_append, List.nil_append, List.append_nil] at *; rw [if_pos (by omega)] <;> rfl
  refine way_cut (.cmp .lt (.var 0) (.lit 0)) (fun h1 => ?_) (fun h1 => ?_)
  · skip
    refine way_cut (.cmp .lt (.var 1) (.lit 0)) (fun h2 => ?_) (fun h2 => ?_)
    · skip
      refine way_leaf rratio_n4 ?_
      refine ⟨rfl, ?_⟩; simp only [nm, digL, dgE, dgP, dgP1, List.cons_append, List.nil_append, List.append_nil] at *; first | (have hA : ((0 - x0) * 65536) = x0 * 65536 := (by omega); rw [hA]; rw [if_neg (by omega), rat_p _ _ (by omega), ← sat_e]) | (have hA : ((0 - x0) * 65536) = x0 * -65536 := (by omega); rw [hA]; rw [if_neg (by omega), rat_m _ _ (by omega), ← sat_e])
    refine way_leaf rratio_n5 ?_
    refine ⟨rfl, ?_⟩; simp only [nm, digL, dgE, dgP, dgP1, List.cons_append, List.nil_append, List.append_nil] at *; first | (have hA : (0 - ((0 - x0) * 65536)) = x0 * 65536 := (by omega); rw [hA]; rw [if_neg (by omega), rat_p _ _ (by omega), ← sat_e]) | (have hA : (0 - ((0 - x0) * 65536)) = x0 * -65536 := (by omega); rw [hA]; rw [if_neg (by omega), rat_m _ _ (by omega), ← sat_e])
  refine way_cut (.cmp .lt (.var 1) (.lit 0)) (fun h2 => ?_) (fun h2 => ?_)
  · skip
    refine way_leaf rratio_n7 ?_
    refine ⟨rfl, ?_⟩; simp only [nm, digL, dgE, dgP, dgP1, List.cons_append, List.nil_append, List.append_nil] at *; first | (have hA : (0 - (x0 * 65536)) = x0 * 65536 := (by omega); rw [hA]; rw [if_neg (by omega), rat_p _ _ (by omega), ← sat_e]) | (have hA : (0 - (x0 * 65536)) = x0 * -65536 := (by omega); rw [hA]; rw [if_neg (by omega), rat_m _ _ (by omega), ← sat_e])
  refine way_leaf rratio_n8 ?_
  refine ⟨rfl, ?_⟩; simp only [nm, digL, dgE, dgP, dgP1, List.cons_append, List.nil_append, List.append_nil] at *; first | (have hA : (x0 * 65536) = x0 * 65536 := (by omega); rw [hA]; rw [if_neg (by omega), rat_p _ _ (by omega), ← sat_e]) | (have hA : (x0 * 65536) = x0 * -65536 := (by omega); rw [hA]; rw [if_neg (by omega), rat_m _ _ (by omega), ← sat_e])
def rratio_entry : Entry := fun X args =>
  match args with
  | [.int .i64 a0, .int .i64 a1] => if a0.fits X .i64 && a1.fits X .i64 then (Res.test X (.cmp .eq a1 (.lit 0))).bind fun t => if t then .ok (.tuple [.int .i32 (.lit 0), .int .i64 (.lit 12)]) else .ok (.tuple [.int .i32 (.app 3 (.cons a0 (.cons a1 .nil))), .int .i64 (.lit 0)]) else .fail 200
  | _ => .fail 201
theorem rratio_ok {X : Ctx} {ρ : Nat → Int} (hX : X.Ok ρ) (hG : X.G = G) : EntryOk Tryd.prog X ρ GB 26 rratio_entry := by
  obtain ⟨XG, XI, XV, XF⟩ := X
  simp only at hG
  subst hG
  intro args s h α w vals hv hw
  unfold rratio_entry at h
  split at h
  · split at h
    · rename_i hg
      try simp only [Bool.and_eq_true] at hg
      obtain ⟨g0, g1⟩ := hg
      obtain ⟨t, ht, h⟩ := Res.bind_ok h
      have ht := Res.test_ok hX ht
      have k := rratio_any _ _ (E.fits_in hX g0) (E.fits_in hX g1) w hw
      cases t with
      | true =>
        cases h
        simp only [B.den, cop_eq, E.den, iop_sub, decide_eq_true_eq] at ht
        rw [if_pos ht] at k
        exact entry_calls hv rfl rfl k
      | false =>
        cases h
        simp only [B.den, cop_eq, E.den, iop_sub, decide_eq_false_iff_not] at ht
        rw [if_neg ht] at k
        exact entry_calls hv rfl rfl k
    · cases h
  · cases h
set_option maxHeartbeats 8000000 in
set_option maxRecDepth 100000 in
theorem rline_any (x0 x1 x2 x3 x4 : Int) (b0 : (-2147483648) ≤ x0 ∧ x0 ≤ 2147483647) (b1 : (-2147483648) ≤ x1 ∧ x1 ≤ 2147483647) (b2 : (-2147483648) ≤ x2 ∧ x2 ≤ 2147483647) (b3 : (-2147483648) ≤ x3 ∧ x3 ≤ 2147483647) (b4 : (-2147483648) ≤ x4 ∧ x4 ≤ 2147483647) (w : World) (hw : WOk GB w) : Known Tryd.prog 7 ∧ Calls Tryd.prog 7 #[.int .i32 x0, (.agg #[.int .i32 x1, .int .i32 x2]), (.agg #[.int .i32 x3, .int .i32 x4])] w (fun e w' => e = .returned (if x2 - x1 = 0 then .tuple #[.int .i32 0, .int .i64 12] else .tuple #[.int .i32 (Fx.line x0 x1 x2 x3 x4), .int .i64 0]) ∧ Below w.heap.size w w') := by
  refine calls_eq (way_calls3 (ρ := rho [x0, x1, x2, x3, x4]) (run := fun fs => rline_R Tryd.prog fs) (fun _ => rfl) (by kernel_rfl) (within_get ⟨b0, b1, b2, b3, b4, trivial⟩) gi_ok (fun X hX hG => ct_hold_ok hX hG) rfl gb_flat gb_apart ?_ w hw)
  refine way_cut (.cmp .eq (.var 1) (.var 2)) (fun h0 => ?_) (fun h0 => ?_)
  · skip
    refine way_leaf rline_n1 ?_
    refine ⟨rfl, ?_⟩; simp only [nm, digL, dgE, dgP, dgP1, List.cons_append, List.nil_append, List.append_nil] at *; rw [if_pos (by omega)] <;> rfl
  refine way_cut (.cmp .lt (.var 3) (.lit 0)) (fun h1 => ?_) (fun h1 => ?_)
  · skip
    refine way_cut (.cmp .lt (.op .sub (.var 2) (.var 1)) (.lit 0)) (fun h2 => ?_) (fun h2 => ?_)
    · skip
      refine way_cut (.cmp .lt (.op .sub (.var 0) (.var 1)) (.lit 0)) (fun h3 => ?_) (fun h3 => ?_)
      · skip
        refine way_cut (.cmp .lt (.op .sub (.var 4) (.var 3)) (.lit 0)) (fun h4 => ?_) (fun h4 => ?_)
        · skip
          refine way_leaf rline_n6 ?_
          refine ⟨rfl, ?_⟩; simp only [nm, digL, dgE, dgP, dgP1, List.cons_append, List.nil_append, List.append_nil] at *; first | (have hA : (0 - (((0 - x3) * (0 - (x2 - x1))) + ((0 - (x0 - x1)) * (0 - (x4 - x3))))) = (x0 - x1) * (x4 - x3) + x3 * (x2 - x1) := (by grind); rw [hA]; rw [if_neg (by omega), line_p _ _ _ _ _ (by omega), ← sat_e]) | (have hA : (0 - (((0 - x3) * (0 - (x2 - x1))) + ((0 - (x0 - x1)) * (0 - (x4 - x3))))) = (0 - (x0 - x1)) * (x4 - x3) + x3 * (0 - (x2 - x1)) := (by grind); rw [hA]; rw [if_neg (by omega), line_m _ _ _ _ _ (by omega), ← sat_e])
        refine way_cut (.cmp .lt (.op .mul (.op .sub (.lit 0) (.var 3)) (.op .sub (.lit 0) (.op .sub (.var 2) (.var 1)))) (.op .mul (.op .sub (.lit 0) (.op .sub (.var 0) (.var 1))) (.op .sub (.var 4) (.var 3)))) (fun h5 => ?_) (fun h5 => ?_)
        · skip
          refine way_cut (.cmp .le (.lit 0) (.op .sub (.op .mul (.op .sub (.lit 0) (.op .sub (.var 0) (.var 1))) (.op .sub (.var 4) (.var 3))) (.op .mul (.op .sub (.lit 0) (.var 3)) (.op .sub (.lit 0) (.op .sub (.var 2) (.var 1)))))) (fun h6 => ?_) (fun h6 => ?_)
          · skip
            refine way_leaf rline_n9 ?_
            refine ⟨rfl, ?_⟩; simp only [nm, digL, dgE, dgP, dgP1, List.cons_append, List.nil_append, List.append_nil] at *; first | (have hA : (((0 - (x0 - x1)) * (x4 - x3)) - ((0 - x3) * (0 - (x2 - x1)))) = (x0 - x1) * (x4 - x3) + x3 * (x2 - x1) := (by grind); rw [hA]; rw [if_neg (by omega), line_p _ _ _ _ _ (by omega), ← sat_e]) | (have hA : (((0 - (x0 - x1)) * (x4 - x3)) - ((0 - x3) * (0 - (x2 - x1)))) = (0 - (x0 - x1)) * (x4 - x3) + x3 * (0 - (x2 - x1)) := (by grind); rw [hA]; rw [if_neg (by omega), line_m _ _ _ _ _ (by omega), ← sat_e])
          refine way_bad ?_
          simp only [nm, digL, dgE, dgP, dgP1, List.cons_append, List.nil_append, List.append_nil] at *; omega
        refine way_cut (.cmp .lt (.op .mul (.op .sub (.lit 0) (.op .sub (.var 0) (.var 1))) (.op .sub (.var 4) (.var 3))) (.op .mul (.op .sub (.lit 0) (.var 3)) (.op .sub (.lit 0) (.op .sub (.var 2) (.var 1))))) (fun h6 => ?_) (fun h6 => ?_)
        · skip
          refine way_cut (.cmp .le (.lit 0) (.op .sub (.op .mul (.op .sub (.lit 0) (.var 3)) (.op .sub (.lit 0) (.op .sub (.var 2) (.var 1)))) (.op .mul (.op .sub (.lit 0) (.op .sub (.var 0) (.var 1))) (.op .sub (.var 4) (.var 3))))) (fun h7 => ?_) (fun h7 => ?_)
          · skip
            refine way_leaf rline_n13 ?_
            refine ⟨rfl, ?_⟩; simp only [nm, digL, dgE, dgP, dgP1, List.cons_append, List.nil_append, List.append_nil] at *; first | (have hA : (0 - (((0 - x3) * (0 - (x2 - x1))) - ((0 - (x0 - x1)) * (x4 - x3)))) = (x0 - x1) * (x4 - x3) + x3 * (x2 - x1) := (by grind); rw [hA]; rw [if_neg (by omega), line_p _ _ _ _ _ (by omega), ← sat_e]) | (have hA : (0 - (((0 - x3) * (0 - (x2 - x1))) - ((0 - (x0 - x1)) * (x4 - x3)))) = (0 - (x0 - x1)) * (x4 - x3) + x3 * (0 - (x2 - x1)) := (by grind); rw [hA]; rw [if_neg (by omega), line_m _ _ _ _ _ (by omega), ← sat_e])
          refine way_bad ?_
          simp only [nm, digL, dgE, dgP, dgP1, List.cons_append, List.nil_append, List.append_nil] at *; omega
        refine way_cut (.cmp .le (.lit 0) (.op .sub (.op .mul (.op .sub (.lit 0) (.var 3)) (.op .sub (.lit 0) (.op .sub (.var 2) (.var 1)))) (.op .mul (.op .sub (.lit 0) (.op .sub (.var 0) (.var 1))) (.op .sub (.var 4) (.var 3))))) (fun h7 => ?_) (fun h7 => ?_)
        · skip
          refine way_leaf rline_n16 ?_
          refine ⟨rfl, ?_⟩; simp only [nm, digL, dgE, dgP, dgP1, List.cons_append, List.nil_append, List.append_nil] at *; first | (have hA : (0 - (((0 - x3) * (0 - (x2 - x1))) - ((0 - (x0 - x1)) * (x4 - x3)))) = (x0 - x1) * (x4 - x3) + x3 * (x2 - x1) := (by grind); rw [hA]; rw [if_neg (by omega), line_p _ _ _ _ _ (by omega), ← sat_e]) | (have hA : (0 - (((0 - x3) * (0 - (x2 - x1))) - ((0 - (x0 - x1)) * (x4 - x3)))) = (0 - (x0 - x1)) * (x4 - x3) + x3 * (0 - (x2 - x1)) := (by grind); rw [hA]; rw [if_neg (by omega), line_m _ _ _ _ _ (by omega), ← sat_e])
        refine way_bad ?_
        simp only [nm, digL, dgE, dgP, dgP1, List.cons_append, List.nil_append, List.append_nil] at *; omega
      refine way_cut (.cmp .lt (.op .sub (.var 4) (.var 3)) (.lit 0)) (fun h4 => ?_) (fun h4 => ?_)
      rotate_left
      · skip
        refine way_leaf rline_n30 ?_
        refine ⟨rfl, ?_⟩; simp only [nm, digL, dgE, dgP, dgP1, List.cons_append, List.nil_append, List.append_nil] at *; first | (have hA : (0 - (((0 - x3) * (0 - (x2 - x1))) + ((x0 - x1) * (x4 - x3)))) = (x0 - x1) * (x4 - x3) + x3 * (x2 - x1) := (by grind); rw [hA]; rw [if_neg (by omega), line_p _ _ _ _ _ (by omega), ← sat_e]) | (have hA : (0 - (((0 - x3) * (0 - (x2 - x1))) + ((x0 - x1) * (x4 - x3)))) = (0 - (x0 - x1)) * (x4 - x3) + x3 * (0 - (x2 - x1)) := (by grind); rw [hA]; rw [if_neg (by omega), line_m _ _ _ _ _ (by omega), ← sat_e])
      refine way_cut (.cmp .lt (.op .mul (.op .sub (.lit 0) (.var 3)) (.op .sub (.lit 0) (.op .sub (.var 2) (.var 1)))) (.op .mul (.op .sub (.var 0) (.var 1)) (.op .sub (.lit 0) (.op .sub (.var 4) (.var 3))))) (fun h5 => ?_) (fun h5 => ?_)
      · skip
        refine way_cut (.cmp .le (.lit 0) (.op .sub (.op .mul (.op .sub (.var 0) (.var 1)) (.op .sub (.lit 0) (.op .sub (.var 4) (.var 3)))) (.op .mul (.op .sub (.lit 0) (.var 3)) (.op .sub (.lit 0) (.op .sub (.var 2) (.var 1)))))) (fun h6 => ?_) (fun h6 => ?_)
        · skip
          refine way_leaf rline_n21 ?_
          refine ⟨rfl, ?_⟩; simp only [nm, digL, dgE, dgP, dgP1, List.cons_append, List.nil_append, List.append_nil] at *; first | (have hA : (((x0 - x1) * (0 - (x4 - x3))) - ((0 - x3) * (0 - (x2 - x1)))) = (x0 - x1) * (x4 - x3) + x3 * (x2 - x1) := (by grind); rw [hA]; rw [if_neg (by omega), line_p _ _ _ _ _ (by omega), ← sat_e]) | (have hA : (((x0 - x1) * (0 - (x4 - x3))) - ((0 - x3) * (0 - (x2 - x1)))) = (0 - (x0 - x1)) * (x4 - x3) + x3 * (0 - (x2 - x1)) := (by grind); rw [hA]; rw [if_neg (by omega), line_m _ _ _ _ _ (by omega), ← sat_e])
        refine way_bad ?_
        simp only [nm, digL, dgE, dgP, dgP1, List.cons_append, List.nil_append, List.append_nil] at *; omega
      refine way_cut (.cmp .lt (.op .mul (.op .sub (.var 0) (.var 1)) (.op .sub (.lit 0) (.op .sub (.var 4) (.var 3)))) (.op .mul (.op .sub (.lit 0) (.var 3)) (.op .sub (.lit 0) (.op .sub (.var 2) (.var 1))))) (fun h6 => ?_) (fun h6 => ?_)
      · skip
        refine way_cut (.cmp .le (.lit 0) (.op .sub (.op .mul (.op .sub (.lit 0) (.var 3)) (.op .sub (.lit 0) (.op .sub (.var 2) (.var 1)))) (.op .mul (.op .sub (.var 0) (.var 1)) (.op .sub (.lit 0) (.op .sub (.var 4) (.var 3)))))) (fun h7 => ?_) (fun h7 => ?_)
        · skip
          refine way_leaf rline_n25 ?_
          refine ⟨rfl, ?_⟩; simp only [nm, digL, dgE, dgP, dgP1, List.cons_append, List.nil_append, List.append_nil] at *; first | (have hA : (0 - (((0 - x3) * (0 - (x2 - x1))) - ((x0 - x1) * (0 - (x4 - x3))))) = (x0 - x1) * (x4 - x3) + x3 * (x2 - x1) := (by grind); rw [hA]; rw [if_neg (by omega), line_p _ _ _ _ _ (by omega), ← sat_e]) | (have hA : (0 - (((0 - x3) * (0 - (x2 - x1))) - ((x0 - x1) * (0 - (x4 - x3))))) = (0 - (x0 - x1)) * (x4 - x3) + x3 * (0 - (x2 - x1)) := (by grind); rw [hA]; rw [if_neg (by omega), line_m _ _ _ _ _ (by omega), ← sat_e])
        refine way_bad ?_
        simp only [nm, digL, dgE, dgP, dgP1, List.cons_append, List.nil_append, List.append_nil] at *; omega
      refine way_cut (.cmp .le (.lit 0) (.op .sub (.op .mul (.op .sub (.lit 0) (.var 3)) (.op .sub (.lit 0) (.op .sub (.var 2) (.var 1)))) (.op .mul (.op .sub (.var 0) (.var 1)) (.op .sub (.lit 0) (.op .sub (.var 4) (.var 3)))))) (fun h7 => ?_) (fun h7 => ?_)
      · skip
        refine way_leaf rline_n28 ?_
        refine ⟨rfl, ?_⟩; simp only [nm, digL, dgE, dgP, dgP1, List.cons_append, List.nil_append, List.append_nil] at *; first | (have hA : (0 - (((0 - x3) * (0 - (x2 - x1))) - ((x0 - x1) * (0 - (x4 - x3))))) = (x0 - x1) * (x4 - x3) + x3 * (x2 - x1) := (by grind); rw [hA]; rw [if_neg (by omega), line_p _ _ _ _ _ (by omega), ← sat_e]) | (have hA : (0 - (((0 - x3) * (0 - (x2 - x1))) - ((x0 - x1) * (0 - (x4 - x3))))) = (0 - (x0 - x1)) * (x4 - x3) + x3 * (0 - (x2 - x1)) := (by grind); rw [hA]; rw [if_neg (by omega), line_m _ _ _ _ _ (by omega), ← sat_e])
      refine way_bad ?_
      simp only [nm, digL, dgE, dgP, dgP1, List.cons_append, List.nil_append, List.append_nil] at *; omega
    refine way_cut (.cmp .lt (.op .sub (.var 0) (.var 1)) (.lit 0)) (fun h3 => ?_) (fun h3 => ?_)
    · skip
      refine way_cut (.cmp .lt (.op .sub (.var 4) (.var 3)) (.lit 0)) (fun h4 => ?_) (fun h4 => ?_)
      rotate_left
      · skip
        refine way_cut (.cmp .le (.lit 1) (.op .sub (.var 2) (.var 1))) (fun h5 => ?_) (fun h5 => ?_)
        · skip
          refine way_leaf rline_n57 ?_
          refine ⟨rfl, ?_⟩; simp only [nm, digL, dgE, dgP, dgP1, List.cons_append, List.nil_append, List.append_nil] at *; first | (have hA : (0 - (((0 - x3) * (x2 - x1)) + ((0 - (x0 - x1)) * (x4 - x3)))) = (x0 - x1) * (x4 - x3) + x3 * (x2 - x1) := (by grind); rw [hA]; rw [if_neg (by omega), line_p _ _ _ _ _ (by omega), ← sat_e]) | (have hA : (0 - (((0 - x3) * (x2 - x1)) + ((0 - (x0 - x1)) * (x4 - x3)))) = (0 - (x0 - x1)) * (x4 - x3) + x3 * (0 - (x2 - x1)) := (by grind); rw [hA]; rw [if_neg (by omega), line_m _ _ _ _ _ (by omega), ← sat_e])
        refine way_bad ?_
        simp only [nm, digL, dgE, dgP, dgP1, List.cons_append, List.nil_append, List.append_nil] at *; omega
      refine way_cut (.cmp .lt (.op .mul (.op .sub (.lit 0) (.var 3)) (.op .sub (.var 2) (.var 1))) (.op .mul (.op .sub (.lit 0) (.op .sub (.var 0) (.var 1))) (.op .sub (.lit 0) (.op .sub (.var 4) (.var 3))))) (fun h5 => ?_) (fun h5 => ?_)
      · skip
        refine way_cut (.cmp .le (.lit 0) (.op .sub (.op .mul (.op .sub (.lit 0) (.op .sub (.var 0) (.var 1))) (.op .sub (.lit 0) (.op .sub (.var 4) (.var 3)))) (.op .mul (.op .sub (.lit 0) (.var 3)) (.op .sub (.var 2) (.var 1))))) (fun h6 => ?_) (fun h6 => ?_)
        · skip
          refine way_cut (.cmp .le (.lit 1) (.op .sub (.var 2) (.var 1))) (fun h7 => ?_) (fun h7 => ?_)
          · skip
            refine way_leaf rline_n36 ?_
            refine ⟨rfl, ?_⟩; simp only [nm, digL, dgE, dgP, dgP1, List.cons_append, List.nil_append, List.append_nil] at *; first | (have hA : (((0 - (x0 - x1)) * (0 - (x4 - x3))) - ((0 - x3) * (x2 - x1))) = (x0 - x1) * (x4 - x3) + x3 * (x2 - x1) := (by grind); rw [hA]; rw [if_neg (by omega), line_p _ _ _ _ _ (by omega), ← sat_e]) | (have hA : (((0 - (x0 - x1)) * (0 - (x4 - x3))) - ((0 - x3) * (x2 - x1))) = (0 - (x0 - x1)) * (x4 - x3) + x3 * (0 - (x2 - x1)) := (by grind); rw [hA]; rw [if_neg (by omega), line_m _ _ _ _ _ (by omega), ← sat_e])
          refine way_bad ?_
          simp only [nm, digL, dgE, dgP, dgP1, List.cons_append, List.nil_append, List.append_nil] at *; omega
        refine way_cut (.cmp .le (.lit 1) (.op .sub (.var 2) (.var 1))) (fun h7 => ?_) (fun h7 => ?_)
        · skip
          refine way_bad ?_
          simp only [nm, digL, dgE, dgP, dgP1, List.cons_append, List.nil_append, List.append_nil] at *; omega
        refine way_bad ?_
        simp only [nm, digL, dgE, dgP, dgP1, List.cons_append, List.nil_append, List.append_nil] at *; omega
      refine way_cut (.cmp .lt (.op .mul (.op .sub (.lit 0) (.op .sub (.var 0) (.var 1))) (.op .sub (.lit 0) (.op .sub (.var 4) (.var 3)))) (.op .mul (.op .sub (.lit 0) (.var 3)) (.op .sub (.var 2) (.var 1)))) (fun h6 => ?_) (fun h6 => ?_)
      · skip
        refine way_cut (.cmp .le (.lit 0) (.op .sub (.op .mul (.op .sub (.lit 0) (.var 3)) (.op .sub (.var 2) (.var 1))) (.op .mul (.op .sub (.lit 0) (.op .sub (.var 0) (.var 1))) (.op .sub (.lit 0) (.op .sub (.var 4) (.var 3)))))) (fun h7 => ?_) (fun h7 => ?_)
        · skip
          refine way_cut (.cmp .le (.lit 1) (.op .sub (.var 2) (.var 1))) (fun h8 => ?_) (fun h8 => ?_)
          · skip
            refine way_leaf rline_n44 ?_
            refine ⟨rfl, ?_⟩; simp only [nm, digL, dgE, dgP, dgP1, List.cons_append, List.nil_append, List.append_nil] at *; first | (have hA : (0 - (((0 - x3) * (x2 - x1)) - ((0 - (x0 - x1)) * (0 - (x4 - x3))))) = (x0 - x1) * (x4 - x3) + x3 * (x2 - x1) := (by grind); rw [hA]; rw [if_neg (by omega), line_p _ _ _ _ _ (by omega), ← sat_e]) | (have hA : (0 - (((0 - x3) * (x2 - x1)) - ((0 - (x0 - x1)) * (0 - (x4 - x3))))) = (0 - (x0 - x1)) * (x4 - x3) + x3 * (0 - (x2 - x1)) := (by grind); rw [hA]; rw [if_neg (by omega), line_m _ _ _ _ _ (by omega), ← sat_e])
          refine way_bad ?_
          simp only [nm, digL, dgE, dgP, dgP1, List.cons_append, List.nil_append, List.append_nil] at *; omega
        refine way_cut (.cmp .le (.lit 1) (.op .sub (.var 2) (.var 1))) (fun h8 => ?_) (fun h8 => ?_)
        · skip
          refine way_bad ?_
          simp only [nm, digL, dgE, dgP, dgP1, List.cons_append, List.nil_append, List.append_nil] at *; omega
        refine way_bad ?_
        simp only [nm, digL, dgE, dgP, dgP1, List.cons_append, List.nil_append, List.append_nil] at *; omega
      refine way_cut (.cmp .le (.lit 0) (.op .sub (.op .mul (.op .sub (.lit 0) (.var 3)) (.op .sub (.var 2) (.var 1))) (.op .mul (.op .sub (.lit 0) (.op .sub (.var 0) (.var 1))) (.op .sub (.lit 0) (.op .sub (.var 4) (.var 3)))))) (fun h7 => ?_) (fun h7 => ?_)
      · skip
        refine way_cut (.cmp .le (.lit 1) (.op .sub (.var 2) (.var 1))) (fun h8 => ?_) (fun h8 => ?_)
        · skip
          refine way_leaf rline_n51 ?_
          refine ⟨rfl, ?_⟩; simp only [nm, digL, dgE, dgP, dgP1, List.cons_append, List.nil_append, List.append_nil] at *; first | (have hA : (0 - (((0 - x3) * (x2 - x1)) - ((0 - (x0 - x1)) * (0 - (x4 - x3))))) = (x0 - x1) * (x4 - x3) + x3 * (x2 - x1) := (by grind); rw [hA]; rw [if_neg (by omega), line_p _ _ _ _ _ (by omega), ← sat_e]) | (have hA : (0 - (((0 - x3) * (x2 - x1)) - ((0 - (x0 - x1)) * (0 - (x4 - x3))))) = (0 - (x0 - x1)) * (x4 - x3) + x3 * (0 - (x2 - x1)) := (by grind); rw [hA]; rw [if_neg (by omega), line_m _ _ _ _ _ (by omega), ← sat_e])
        refine way_bad ?_
        simp only [nm, digL, dgE, dgP, dgP1, List.cons_append, List.nil_append, List.append_nil] at *; omega
      refine way_cut (.cmp .le (.lit 1) (.op .sub (.var 2) (.var 1))) (fun h8 => ?_) (fun h8 => ?_)
      · skip
        refine way_bad ?_
        simp only [nm, digL, dgE, dgP, dgP1, List.cons_append, List.nil_append, List.append_nil] at *; omega
      refine way_bad ?_
      simp only [nm, digL, dgE, dgP, dgP1, List.cons_append, List.nil_append, List.append_nil] at *; omega
    refine way_cut (.cmp .lt (.op .sub (.var 4) (.var 3)) (.lit 0)) (fun h4 => ?_) (fun h4 => ?_)
    · skip
      refine way_cut (.cmp .le (.lit 1) (.op .sub (.var 2) (.var 1))) (fun h5 => ?_) (fun h5 => ?_)
      · skip
        refine way_leaf rline_n61 ?_
        refine ⟨rfl, ?_⟩; simp only [nm, digL, dgE, dgP, dgP1, List.cons_append, List.nil_append, List.append_nil] at *; first | (have hA : (0 - (((0 - x3) * (x2 - x1)) + ((x0 - x1) * (0 - (x4 - x3))))) = (x0 - x1) * (x4 - x3) + x3 * (x2 - x1) := (by grind); rw [hA]; rw [if_neg (by omega), line_p _ _ _ _ _ (by omega), ← sat_e]) | (have hA : (0 - (((0 - x3) * (x2 - x1)) + ((x0 - x1) * (0 - (x4 - x3))))) = (0 - (x0 - x1)) * (x4 - x3) + x3 * (0 - (x2 - x1)) := (by grind); rw [hA]; rw [if_neg (by omega), line_m _ _ _ _ _ (by omega), ← sat_e])
      refine way_bad ?_
      simp only [nm, digL, dgE, dgP, dgP1, List.cons_append, List.nil_append, List.append_nil] at *; omega
    refine way_cut (.cmp .lt (.op .mul (.op .sub (.lit 0) (.var 3)) (.op .sub (.var 2) (.var 1))) (.op .mul (.op .sub (.var 0) (.var 1)) (.op .sub (.var 4) (.var 3)))) (fun h5 => ?_) (fun h5 => ?_)
    · skip
      refine way_cut (.cmp .le (.lit 0) (.op .sub (.op .mul (.op .sub (.var 0) (.var 1)) (.op .sub (.var 4) (.var 3))) (.op .mul (.op .sub (.lit 0) (.var 3)) (.op .sub (.var 2) (.var 1))))) (fun h6 => ?_) (fun h6 => ?_)
      · skip
        refine way_cut (.cmp .le (.lit 1) (.op .sub (.var 2) (.var 1))) (fun h7 => ?_) (fun h7 => ?_)
        · skip
          refine way_leaf rline_n66 ?_
          refine ⟨rfl, ?_⟩; simp only [nm, digL, dgE, dgP, dgP1, List.cons_append, List.nil_append, List.append_nil] at *; first | (have hA : (((x0 - x1) * (x4 - x3)) - ((0 - x3) * (x2 - x1))) = (x0 - x1) * (x4 - x3) + x3 * (x2 - x1) := (by grind); rw [hA]; rw [if_neg (by omega), line_p _ _ _ _ _ (by omega), ← sat_e]) | (have hA : (((x0 - x1) * (x4 - x3)) - ((0 - x3) * (x2 - x1))) = (0 - (x0 - x1)) * (x4 - x3) + x3 * (0 - (x2 - x1)) := (by grind); rw [hA]; rw [if_neg (by omega), line_m _ _ _ _ _ (by omega), ← sat_e])
        refine way_bad ?_
        simp only [nm, digL, dgE, dgP, dgP1, List.cons_append, List.nil_append, List.append_nil] at *; omega
      refine way_cut (.cmp .le (.lit 1) (.op .sub (.var 2) (.var 1))) (fun h7 => ?_) (fun h7 => ?_)
      · skip
        refine way_bad ?_
        simp only [nm, digL, dgE, dgP, dgP1, List.cons_append, List.nil_append, List.append_nil] at *; omega
      refine way_bad ?_
      simp only [nm, digL, dgE, dgP, dgP1, List.cons_append, List.nil_append, List.append_nil] at *; omega
    refine way_cut (.cmp .lt (.op .mul (.op .sub (.var 0) (.var 1)) (.op .sub (.var 4) (.var 3))) (.op .mul (.op .sub (.lit 0) (.var 3)) (.op .sub (.var 2) (.var 1)))) (fun h6 => ?_) (fun h6 => ?_)
    · skip
      refine way_cut (.cmp .le (.lit 0) (.op .sub (.op .mul (.op .sub (.lit 0) (.var 3)) (.op .sub (.var 2) (.var 1))) (.op .mul (.op .sub (.var 0) (.var 1)) (.op .sub (.var 4) (.var 3))))) (fun h7 => ?_) (fun h7 => ?_)
      · skip
        refine way_cut (.cmp .le (.lit 1) (.op .sub (.var 2) (.var 1))) (fun h8 => ?_) (fun h8 => ?_)
        · skip
          refine way_leaf rline_n74 ?_
          refine ⟨rfl, ?_⟩; simp only [nm, digL, dgE, dgP, dgP1, List.cons_append, List.nil_append, List.append_nil] at *; first | (have hA : (0 - (((0 - x3) * (x2 - x1)) - ((x0 - x1) * (x4 - x3)))) = (x0 - x1) * (x4 - x3) + x3 * (x2 - x1) := (by grind); rw [hA]; rw [if_neg (by omega), line_p _ _ _ _ _ (by omega), ← sat_e]) | (have hA : (0 - (((0 - x3) * (x2 - x1)) - ((x0 - x1) * (x4 - x3)))) = (0 - (x0 - x1)) * (x4 - x3) + x3 * (0 - (x2 - x1)) := (by grind); rw [hA]; rw [if_neg (by omega), line_m _ _ _ _ _ (by omega), ← sat_e])
        refine way_bad ?_
        simp only [nm, digL, dgE, dgP, dgP1, List.cons_append, List.nil_append, List.append_nil] at *; omega
      refine way_cut (.cmp .le (.lit 1) (.op .sub (.var 2) (.var 1))) (fun h8 => ?_) (fun h8 => ?_)
      · skip
        refine way_bad ?_
        simp only [nm, digL, dgE, dgP, dgP1, List.cons_append, List.nil_append, List.append_nil] at *; omega
      refine way_bad ?_
      simp only [nm, digL, dgE, dgP, dgP1, List.cons_append, List.nil_append, List.append_nil] at *; omega
    refine way_cut (.cmp .le (.lit 0) (.op .sub (.op .mul (.op .sub (.lit 0) (.var 3)) (.op .sub (.var 2) (.var 1))) (.op .mul (.op .sub (.var 0) (.var 1)) (.op .sub (.var 4) (.var 3))))) (fun h7 => ?_) (fun h7 => ?_)
    · skip
      refine way_cut (.cmp .le (.lit 1) (.op .sub (.var 2) (.var 1))) (fun h8 => ?_) (fun h8 => ?_)
      · skip
        refine way_leaf rline_n81 ?_
        refine ⟨rfl, ?_⟩; simp only [nm, digL, dgE, dgP, dgP1, List.cons_append, List.nil_append, List.append_nil] at *; first | (have hA : (0 - (((0 - x3) * (x2 - x1)) - ((x0 - x1) * (x4 - x3)))) = (x0 - x1) * (x4 - x3) + x3 * (x2 - x1) := (by grind); rw [hA]; rw [if_neg (by omega), line_p _ _ _ _ _ (by omega), ← sat_e]) | (have hA : (0 - (((0 - x3) * (x2 - x1)) - ((x0 - x1) * (x4 - x3)))) = (0 - (x0 - x1)) * (x4 - x3) + x3 * (0 - (x2 - x1)) := (by grind); rw [hA]; rw [if_neg (by omega), line_m _ _ _ _ _ (by omega), ← sat_e])
      refine way_bad ?_
      simp only [nm, digL, dgE, dgP, dgP1, List.cons_append, List.nil_append, List.append_nil] at *; omega
    refine way_cut (.cmp .le (.lit 1) (.op .sub (.var 2) (.var 1))) (fun h8 => ?_) (fun h8 => ?_)
    · skip
      refine way_bad ?_
      simp only [nm, digL, dgE, dgP, dgP1, List.cons_append, List.nil_append, List.append_nil] at *; omega
    refine way_bad ?_
    simp only [nm, digL, dgE, dgP, dgP1, List.cons_append, List.nil_append, List.append_nil] at *; omega
  refine way_cut (.cmp .lt (.op .sub (.var 2) (.var 1)) (.lit 0)) (fun h2 => ?_) (fun h2 => ?_)
  · skip
    refine way_cut (.cmp .lt (.op .sub (.var 0) (.var 1)) (.lit 0)) (fun h3 => ?_) (fun h3 => ?_)
    · skip
      refine way_cut (.cmp .lt (.op .sub (.var 4) (.var 3)) (.lit 0)) (fun h4 => ?_) (fun h4 => ?_)
      rotate_left
      · skip
        refine way_leaf rline_n100 ?_
        refine ⟨rfl, ?_⟩; simp only [nm, digL, dgE, dgP, dgP1, List.cons_append, List.nil_append, List.append_nil] at *; first | (have hA : ((x3 * (0 - (x2 - x1))) + ((0 - (x0 - x1)) * (x4 - x3))) = (x0 - x1) * (x4 - x3) + x3 * (x2 - x1) := (by grind); rw [hA]; rw [if_neg (by omega), line_p _ _ _ _ _ (by omega), ← sat_e]) | (have hA : ((x3 * (0 - (x2 - x1))) + ((0 - (x0 - x1)) * (x4 - x3))) = (0 - (x0 - x1)) * (x4 - x3) + x3 * (0 - (x2 - x1)) := (by grind); rw [hA]; rw [if_neg (by omega), line_m _ _ _ _ _ (by omega), ← sat_e])
      refine way_cut (.cmp .lt (.op .mul (.var 3) (.op .sub (.lit 0) (.op .sub (.var 2) (.var 1)))) (.op .mul (.op .sub (.lit 0) (.op .sub (.var 0) (.var 1))) (.op .sub (.lit 0) (.op .sub (.var 4) (.var 3))))) (fun h5 => ?_) (fun h5 => ?_)
      · skip
        refine way_cut (.cmp .le (.lit 0) (.op .sub (.op .mul (.op .sub (.lit 0) (.op .sub (.var 0) (.var 1))) (.op .sub (.lit 0) (.op .sub (.var 4) (.var 3)))) (.op .mul (.var 3) (.op .sub (.lit 0) (.op .sub (.var 2) (.var 1)))))) (fun h6 => ?_) (fun h6 => ?_)
        · skip
          refine way_leaf rline_n91 ?_
          refine ⟨rfl, ?_⟩; simp only [nm, digL, dgE, dgP, dgP1, List.cons_append, List.nil_append, List.append_nil] at *; first | (have hA : (0 - (((0 - (x0 - x1)) * (0 - (x4 - x3))) - (x3 * (0 - (x2 - x1))))) = (x0 - x1) * (x4 - x3) + x3 * (x2 - x1) := (by grind); rw [hA]; rw [if_neg (by omega), line_p _ _ _ _ _ (by omega), ← sat_e]) | (have hA : (0 - (((0 - (x0 - x1)) * (0 - (x4 - x3))) - (x3 * (0 - (x2 - x1))))) = (0 - (x0 - x1)) * (x4 - x3) + x3 * (0 - (x2 - x1)) := (by grind); rw [hA]; rw [if_neg (by omega), line_m _ _ _ _ _ (by omega), ← sat_e])
        refine way_bad ?_
        simp only [nm, digL, dgE, dgP, dgP1, List.cons_append, List.nil_append, List.append_nil] at *; omega
      refine way_cut (.cmp .lt (.op .mul (.op .sub (.lit 0) (.op .sub (.var 0) (.var 1))) (.op .sub (.lit 0) (.op .sub (.var 4) (.var 3)))) (.op .mul (.var 3) (.op .sub (.lit 0) (.op .sub (.var 2) (.var 1))))) (fun h6 => ?_) (fun h6 => ?_)
      · skip
        refine way_cut (.cmp .le (.lit 0) (.op .sub (.op .mul (.var 3) (.op .sub (.lit 0) (.op .sub (.var 2) (.var 1)))) (.op .mul (.op .sub (.lit 0) (.op .sub (.var 0) (.var 1))) (.op .sub (.lit 0) (.op .sub (.var 4) (.var 3)))))) (fun h7 => ?_) (fun h7 => ?_)
        · skip
          refine way_leaf rline_n95 ?_
          refine ⟨rfl, ?_⟩; simp only [nm, digL, dgE, dgP, dgP1, List.cons_append, List.nil_append, List.append_nil] at *; first | (have hA : ((x3 * (0 - (x2 - x1))) - ((0 - (x0 - x1)) * (0 - (x4 - x3)))) = (x0 - x1) * (x4 - x3) + x3 * (x2 - x1) := (by grind); rw [hA]; rw [if_neg (by omega), line_p _ _ _ _ _ (by omega), ← sat_e]) | (have hA : ((x3 * (0 - (x2 - x1))) - ((0 - (x0 - x1)) * (0 - (x4 - x3)))) = (0 - (x0 - x1)) * (x4 - x3) + x3 * (0 - (x2 - x1)) := (by grind); rw [hA]; rw [if_neg (by omega), line_m _ _ _ _ _ (by omega), ← sat_e])
        refine way_bad ?_
        simp only [nm, digL, dgE, dgP, dgP1, List.cons_append, List.nil_append, List.append_nil] at *; omega
      refine way_cut (.cmp .le (.lit 0) (.op .sub (.op .mul (.var 3) (.op .sub (.lit 0) (.op .sub (.var 2) (.var 1)))) (.op .mul (.op .sub (.lit 0) (.op .sub (.var 0) (.var 1))) (.op .sub (.lit 0) (.op .sub (.var 4) (.var 3)))))) (fun h7 => ?_) (fun h7 => ?_)
      · skip
        refine way_leaf rline_n98 ?_
        refine ⟨rfl, ?_⟩; simp only [nm, digL, dgE, dgP, dgP1, List.cons_append, List.nil_append, List.append_nil] at *; first | (have hA : ((x3 * (0 - (x2 - x1))) - ((0 - (x0 - x1)) * (0 - (x4 - x3)))) = (x0 - x1) * (x4 - x3) + x3 * (x2 - x1) := (by grind); rw [hA]; rw [if_neg (by omega), line_p _ _ _ _ _ (by omega), ← sat_e]) | (have hA : ((x3 * (0 - (x2 - x1))) - ((0 - (x0 - x1)) * (0 - (x4 - x3)))) = (0 - (x0 - x1)) * (x4 - x3) + x3 * (0 - (x2 - x1)) := (by grind); rw [hA]; rw [if_neg (by omega), line_m _ _ _ _ _ (by omega), ← sat_e])
      refine way_bad ?_
      simp only [nm, digL, dgE, dgP, dgP1, List.cons_append, List.nil_append, List.append_nil] at *; omega
    refine way_cut (.cmp .lt (.op .sub (.var 4) (.var 3)) (.lit 0)) (fun h4 => ?_) (fun h4 => ?_)
    · skip
      refine way_leaf rline_n102 ?_
      refine ⟨rfl, ?_⟩; simp only [nm, digL, dgE, dgP, dgP1, List.cons_append, List.nil_append, List.append_nil] at *; first | (have hA : ((x3 * (0 - (x2 - x1))) + ((x0 - x1) * (0 - (x4 - x3)))) = (x0 - x1) * (x4 - x3) + x3 * (x2 - x1) := (by grind); rw [hA]; rw [if_neg (by omega), line_p _ _ _ _ _ (by omega), ← sat_e]) | (have hA : ((x3 * (0 - (x2 - x1))) + ((x0 - x1) * (0 - (x4 - x3)))) = (0 - (x0 - x1)) * (x4 - x3) + x3 * (0 - (x2 - x1)) := (by grind); rw [hA]; rw [if_neg (by omega), line_m _ _ _ _ _ (by omega), ← sat_e])
    refine way_cut (.cmp .lt (.op .mul (.var 3) (.op .sub (.lit 0) (.op .sub (.var 2) (.var 1)))) (.op .mul (.op .sub (.var 0) (.var 1)) (.op .sub (.var 4) (.var 3)))) (fun h5 => ?_) (fun h5 => ?_)
    · skip
      refine way_cut (.cmp .le (.lit 0) (.op .sub (.op .mul (.op .sub (.var 0) (.var 1)) (.op .sub (.var 4) (.var 3))) (.op .mul (.var 3) (.op .sub (.lit 0) (.op .sub (.var 2) (.var 1)))))) (fun h6 => ?_) (fun h6 => ?_)
      · skip
        refine way_leaf rline_n105 ?_
        refine ⟨rfl, ?_⟩; simp only [nm, digL, dgE, dgP, dgP1, List.cons_append, List.nil_append, List.append_nil] at *; first | (have hA : (0 - (((x0 - x1) * (x4 - x3)) - (x3 * (0 - (x2 - x1))))) = (x0 - x1) * (x4 - x3) + x3 * (x2 - x1) := (by grind); rw [hA]; rw [if_neg (by omega), line_p _ _ _ _ _ (by omega), ← sat_e]) | (have hA : (0 - (((x0 - x1) * (x4 - x3)) - (x3 * (0 - (x2 - x1))))) = (0 - (x0 - x1)) * (x4 - x3) + x3 * (0 - (x2 - x1)) := (by grind); rw [hA]; rw [if_neg (by omega), line_m _ _ _ _ _ (by omega), ← sat_e])
      refine way_bad ?_
      simp only [nm, digL, dgE, dgP, dgP1, List.cons_append, List.nil_append, List.append_nil] at *; omega
    refine way_cut (.cmp .lt (.op .mul (.op .sub (.var 0) (.var 1)) (.op .sub (.var 4) (.var 3))) (.op .mul (.var 3) (.op .sub (.lit 0) (.op .sub (.var 2) (.var 1))))) (fun h6 => ?_) (fun h6 => ?_)
    · skip
      refine way_cut (.cmp .le (.lit 0) (.op .sub (.op .mul (.var 3) (.op .sub (.lit 0) (.op .sub (.var 2) (.var 1)))) (.op .mul (.op .sub (.var 0) (.var 1)) (.op .sub (.var 4) (.var 3))))) (fun h7 => ?_) (fun h7 => ?_)
      · skip
        refine way_leaf rline_n109 ?_
        refine ⟨rfl, ?_⟩; simp only [nm, digL, dgE, dgP, dgP1, List.cons_append, List.nil_append, List.append_nil] at *; first | (have hA : ((x3 * (0 - (x2 - x1))) - ((x0 - x1) * (x4 - x3))) = (x0 - x1) * (x4 - x3) + x3 * (x2 - x1) := (by grind); rw [hA]; rw [if_neg (by omega), line_p _ _ _ _ _ (by omega), ← sat_e]) | (have hA : ((x3 * (0 - (x2 - x1))) - ((x0 - x1) * (x4 - x3))) = (0 - (x0 - x1)) * (x4 - x3) + x3 * (0 - (x2 - x1)) := (by grind); rw [hA]; rw [if_neg (by omega), line_m _ _ _ _ _ (by omega), ← sat_e])
      refine way_bad ?_
      simp only [nm, digL, dgE, dgP, dgP1, List.cons_append, List.nil_append, List.append_nil] at *; omega
    refine way_cut (.cmp .le (.lit 0) (.op .sub (.op .mul (.var 3) (.op .sub (.lit 0) (.op .sub (.var 2) (.var 1)))) (.op .mul (.op .sub (.var 0) (.var 1)) (.op .sub (.var 4) (.var 3))))) (fun h7 => ?_) (fun h7 => ?_)
    · skip
      refine way_leaf rline_n112 ?_
      refine ⟨rfl, ?_⟩; simp only [nm, digL, dgE, dgP, dgP1, List.cons_append, List.nil_append, List.append_nil] at *; first | (have hA : ((x3 * (0 - (x2 - x1))) - ((x0 - x1) * (x4 - x3))) = (x0 - x1) * (x4 - x3) + x3 * (x2 - x1) := (by grind); rw [hA]; rw [if_neg (by omega), line_p _ _ _ _ _ (by omega), ← sat_e]) | (have hA : ((x3 * (0 - (x2 - x1))) - ((x0 - x1) * (x4 - x3))) = (0 - (x0 - x1)) * (x4 - x3) + x3 * (0 - (x2 - x1)) := (by grind); rw [hA]; rw [if_neg (by omega), line_m _ _ _ _ _ (by omega), ← sat_e])
    refine way_bad ?_
    simp only [nm, digL, dgE, dgP, dgP1, List.cons_append, List.nil_append, List.append_nil] at *; omega
  refine way_cut (.cmp .lt (.op .sub (.var 0) (.var 1)) (.lit 0)) (fun h3 => ?_) (fun h3 => ?_)
  · skip
    refine way_cut (.cmp .lt (.op .sub (.var 4) (.var 3)) (.lit 0)) (fun h4 => ?_) (fun h4 => ?_)
    · skip
      refine way_cut (.cmp .le (.lit 1) (.op .sub (.var 2) (.var 1))) (fun h5 => ?_) (fun h5 => ?_)
      · skip
        refine way_leaf rline_n117 ?_
        refine ⟨rfl, ?_⟩; simp only [nm, digL, dgE, dgP, dgP1, List.cons_append, List.nil_append, List.append_nil] at *; first | (have hA : ((x3 * (x2 - x1)) + ((0 - (x0 - x1)) * (0 - (x4 - x3)))) = (x0 - x1) * (x4 - x3) + x3 * (x2 - x1) := (by grind); rw [hA]; rw [if_neg (by omega), line_p _ _ _ _ _ (by omega), ← sat_e]) | (have hA : ((x3 * (x2 - x1)) + ((0 - (x0 - x1)) * (0 - (x4 - x3)))) = (0 - (x0 - x1)) * (x4 - x3) + x3 * (0 - (x2 - x1)) := (by grind); rw [hA]; rw [if_neg (by omega), line_m _ _ _ _ _ (by omega), ← sat_e])
      refine way_bad ?_
      simp only [nm, digL, dgE, dgP, dgP1, List.cons_append, List.nil_append, List.append_nil] at *; omega
    refine way_cut (.cmp .lt (.op .mul (.var 3) (.op .sub (.var 2) (.var 1))) (.op .mul (.op .sub (.lit 0) (.op .sub (.var 0) (.var 1))) (.op .sub (.var 4) (.var 3)))) (fun h5 => ?_) (fun h5 => ?_)
    · skip
      refine way_cut (.cmp .le (.lit 0) (.op .sub (.op .mul (.op .sub (.lit 0) (.op .sub (.var 0) (.var 1))) (.op .sub (.var 4) (.var 3))) (.op .mul (.var 3) (.op .sub (.var 2) (.var 1))))) (fun h6 => ?_) (fun h6 => ?_)
      · skip
        refine way_cut (.cmp .le (.lit 1) (.op .sub (.var 2) (.var 1))) (fun h7 => ?_) (fun h7 => ?_)
        · skip
          refine way_leaf rline_n122 ?_
          refine ⟨rfl, ?_⟩; simp only [nm, digL, dgE, dgP, dgP1, List.cons_append, List.nil_append, List.append_nil] at *; first | (have hA : (0 - (((0 - (x0 - x1)) * (x4 - x3)) - (x3 * (x2 - x1)))) = (x0 - x1) * (x4 - x3) + x3 * (x2 - x1) := (by grind); rw [hA]; rw [if_neg (by omega), line_p _ _ _ _ _ (by omega), ← sat_e]) | (have hA : (0 - (((0 - (x0 - x1)) * (x4 - x3)) - (x3 * (x2 - x1)))) = (0 - (x0 - x1)) * (x4 - x3) + x3 * (0 - (x2 - x1)) := (by grind); rw [hA]; rw [if_neg (by omega), line_m _ _ _ _ _ (by omega), ← sat_e])
        refine way_bad ?_
        simp only [nm, digL, dgE, dgP, dgP1, List.cons_append, List.nil_append, List.append_nil] at *; omega
      refine way_cut (.cmp .le (.lit 1) (.op .sub (.var 2) (.var 1))) (fun h7 => ?_) (fun h7 => ?_)
      · skip
        refine way_bad ?_
        simp only [nm, digL, dgE, dgP, dgP1, List.cons_append, List.nil_append, List.append_nil] at *; omega
      refine way_bad ?_
      simp only [nm, digL, dgE, dgP, dgP1, List.cons_append, List.nil_append, List.append_nil] at *; omega
    refine way_cut (.cmp .lt (.op .mul (.op .sub (.lit 0) (.op .sub (.var 0) (.var 1))) (.op .sub (.var 4) (.var 3))) (.op .mul (.var 3) (.op .sub (.var 2) (.var 1)))) (fun h6 => ?_) (fun h6 => ?_)
    · skip
      refine way_cut (.cmp .le (.lit 0) (.op .sub (.op .mul (.var 3) (.op .sub (.var 2) (.var 1))) (.op .mul (.op .sub (.lit 0) (.op .sub (.var 0) (.var 1))) (.op .sub (.var 4) (.var 3))))) (fun h7 => ?_) (fun h7 => ?_)
      · skip
        refine way_cut (.cmp .le (.lit 1) (.op .sub (.var 2) (.var 1))) (fun h8 => ?_) (fun h8 => ?_)
        · skip
          refine way_leaf rline_n130 ?_
          refine ⟨rfl, ?_⟩; simp only [nm, digL, dgE, dgP, dgP1, List.cons_append, List.nil_append, List.append_nil] at *; first | (have hA : ((x3 * (x2 - x1)) - ((0 - (x0 - x1)) * (x4 - x3))) = (x0 - x1) * (x4 - x3) + x3 * (x2 - x1) := (by grind); rw [hA]; rw [if_neg (by omega), line_p _ _ _ _ _ (by omega), ← sat_e]) | (have hA : ((x3 * (x2 - x1)) - ((0 - (x0 - x1)) * (x4 - x3))) = (0 - (x0 - x1)) * (x4 - x3) + x3 * (0 - (x2 - x1)) := (by grind); rw [hA]; rw [if_neg (by omega), line_m _ _ _ _ _ (by omega), ← sat_e])
        refine way_bad ?_
        simp only [nm, digL, dgE, dgP, dgP1, List.cons_append, List.nil_append, List.append_nil] at *; omega
      refine way_cut (.cmp .le (.lit 1) (.op .sub (.var 2) (.var 1))) (fun h8 => ?_) (fun h8 => ?_)
      · skip
        refine way_bad ?_
        simp only [nm, digL, dgE, dgP, dgP1, List.cons_append, List.nil_append, List.append_nil] at *; omega
      refine way_bad ?_
      simp only [nm, digL, dgE, dgP, dgP1, List.cons_append, List.nil_append, List.append_nil] at *; omega
    refine way_cut (.cmp .le (.lit 0) (.op .sub (.op .mul (.var 3) (.op .sub (.var 2) (.var 1))) (.op .mul (.op .sub (.lit 0) (.op .sub (.var 0) (.var 1))) (.op .sub (.var 4) (.var 3))))) (fun h7 => ?_) (fun h7 => ?_)
    · skip
      refine way_cut (.cmp .le (.lit 1) (.op .sub (.var 2) (.var 1))) (fun h8 => ?_) (fun h8 => ?_)
      · skip
        refine way_leaf rline_n137 ?_
        refine ⟨rfl, ?_⟩; simp only [nm, digL, dgE, dgP, dgP1, List.cons_append, List.nil_append, List.append_nil] at *; first | (have hA : ((x3 * (x2 - x1)) - ((0 - (x0 - x1)) * (x4 - x3))) = (x0 - x1) * (x4 - x3) + x3 * (x2 - x1) := (by grind); rw [hA]; rw [if_neg (by omega), line_p _ _ _ _ _ (by omega), ← sat_e]) | (have hA : ((x3 * (x2 - x1)) - ((0 - (x0 - x1)) * (x4 - x3))) = (0 - (x0 - x1)) * (x4 - x3) + x3 * (0 - (x2 - x1)) := (by grind); rw [hA]; rw [if_neg (by omega), line_m _ _ _ _ _ (by omega), ← sat_e])
      refine way_bad ?_
      simp only [nm, digL, dgE, dgP, dgP1, List.cons_append, List.nil_append, List.append_nil] at *; omega
    refine way_cut (.cmp .le (.lit 1) (.op .sub (.var 2) (.var 1))) (fun h8 => ?_) (fun h8 => ?_)
    · skip
      refine way_bad ?_
      simp only [nm, digL, dgE, dgP, dgP1, List.cons_append, List.nil_append, List.append_nil] at *; omega
    refine way_bad ?_
    simp only [nm, digL, dgE, dgP, dgP1, List.cons_append, List.nil_append, List.append_nil] at *; omega
  refine way_cut (.cmp .lt (.op .sub (.var 4) (.var 3)) (.lit 0)) (fun h4 => ?_) (fun h4 => ?_)
  rotate_left
  · skip
    refine way_cut (.cmp .le (.lit 1) (.op .sub (.var 2) (.var 1))) (fun h5 => ?_) (fun h5 => ?_)
    · skip
      refine way_leaf rline_n167 ?_
      refine ⟨rfl, ?_⟩; simp only [nm, digL, dgE, dgP, dgP1, List.cons_append, List.nil_append, List.append_nil] at *; first | (have hA : ((x3 * (x2 - x1)) + ((x0 - x1) * (x4 - x3))) = (x0 - x1) * (x4 - x3) + x3 * (x2 - x1) := (by grind); rw [hA]; rw [if_neg (by omega), line_p _ _ _ _ _ (by omega), ← sat_e]) | (have hA : ((x3 * (x2 - x1)) + ((x0 - x1) * (x4 - x3))) = (0 - (x0 - x1)) * (x4 - x3) + x3 * (0 - (x2 - x1)) := (by grind); rw [hA]; rw [if_neg (by omega), line_m _ _ _ _ _ (by omega), ← sat_e])
    refine way_bad ?_
    simp only [nm, digL, dgE, dgP, dgP1, List.cons_append, List.nil_append, List.append_nil] at *; omega
  refine way_cut (.cmp .lt (.op .mul (.var 3) (.op .sub (.var 2) (.var 1))) (.op .mul (.op .sub (.var 0) (.var 1)) (.op .sub (.lit 0) (.op .sub (.var 4) (.var 3))))) (fun h5 => ?_) (fun h5 => ?_)
  · skip
    refine way_cut (.cmp .le (.lit 0) (.op .sub (.op .mul (.op .sub (.var 0) (.var 1)) (.op .sub (.lit 0) (.op .sub (.var 4) (.var 3)))) (.op .mul (.var 3) (.op .sub (.var 2) (.var 1))))) (fun h6 => ?_) (fun h6 => ?_)
    · skip
      refine way_cut (.cmp .le (.lit 1) (.op .sub (.var 2) (.var 1))) (fun h7 => ?_) (fun h7 => ?_)
      · skip
        refine way_leaf rline_n146 ?_
        refine ⟨rfl, ?_⟩; simp only [nm, digL, dgE, dgP, dgP1, List.cons_append, List.nil_append, List.append_nil] at *; first | (have hA : (0 - (((x0 - x1) * (0 - (x4 - x3))) - (x3 * (x2 - x1)))) = (x0 - x1) * (x4 - x3) + x3 * (x2 - x1) := (by grind); rw [hA]; rw [if_neg (by omega), line_p _ _ _ _ _ (by omega), ← sat_e]) | (have hA : (0 - (((x0 - x1) * (0 - (x4 - x3))) - (x3 * (x2 - x1)))) = (0 - (x0 - x1)) * (x4 - x3) + x3 * (0 - (x2 - x1)) := (by grind); rw [hA]; rw [if_neg (by omega), line_m _ _ _ _ _ (by omega), ← sat_e])
      refine way_bad ?_
      simp only [nm, digL, dgE, dgP, dgP1, List.cons_append, List.nil_append, List.append_nil] at *; omega
    refine way_cut (.cmp .le (.lit 1) (.op .sub (.var 2) (.var 1))) (fun h7 => ?_) (fun h7 => ?_)
    · skip
      refine way_bad ?_
      simp only [nm, digL, dgE, dgP, dgP1, List.cons_append, List.nil_append, List.append_nil] at *; omega
    refine way_bad ?_
    simp only [nm, digL, dgE, dgP, dgP1, List.cons_append, List.nil_append, List.append_nil] at *; omega
  refine way_cut (.cmp .lt (.op .mul (.op .sub (.var 0) (.var 1)) (.op .sub (.lit 0) (.op .sub (.var 4) (.var 3)))) (.op .mul (.var 3) (.op .sub (.var 2) (.var 1)))) (fun h6 => ?_) (fun h6 => ?_)
  · skip
    refine way_cut (.cmp .le (.lit 0) (.op .sub (.op .mul (.var 3) (.op .sub (.var 2) (.var 1))) (.op .mul (.op .sub (.var 0) (.var 1)) (.op .sub (.lit 0) (.op .sub (.var 4) (.var 3)))))) (fun h7 => ?_) (fun h7 => ?_)
    · skip
      refine way_cut (.cmp .le (.lit 1) (.op .sub (.var 2) (.var 1))) (fun h8 => ?_) (fun h8 => ?_)
      · skip
        refine way_leaf rline_n154 ?_
        refine ⟨rfl, ?_⟩; simp only [nm, digL, dgE, dgP, dgP1, List.cons_append, List.nil_append, List.append_nil] at *; first | (have hA : ((x3 * (x2 - x1)) - ((x0 - x1) * (0 - (x4 - x3)))) = (x0 - x1) * (x4 - x3) + x3 * (x2 - x1) := (by grind); rw [hA]; rw [if_neg (by omega), line_p _ _ _ _ _ (by omega), ← sat_e]) | (have hA : ((x3 * (x2 - x1)) - ((x0 - x1) * (0 - (x4 - x3)))) = (0 - (x0 - x1)) * (x4 - x3) + x3 * (0 - (x2 - x1)) := (by grind); rw [hA]; rw [if_neg (by omega), line_m _ _ _ _ _ (by omega), ← sat_e])
      refine way_bad ?_
      simp only [nm, digL, dgE, dgP, dgP1, List.cons_append, List.nil_append, List.append_nil] at *; omega
    refine way_cut (.cmp .le (.lit 1) (.op .sub (.var 2) (.var 1))) (fun h8 => ?_) (fun h8 => ?_)
    · skip
      refine way_bad ?_
      simp only [nm, digL, dgE, dgP, dgP1, List.cons_append, List.nil_append, List.append_nil] at *; omega
    refine way_bad ?_
    simp only [nm, digL, dgE, dgP, dgP1, List.cons_append, List.nil_append, List.append_nil] at *; omega
  refine way_cut (.cmp .le (.lit 0) (.op .sub (.op .mul (.var 3) (.op .sub (.var 2) (.var 1))) (.op .mul (.op .sub (.var 0) (.var 1)) (.op .sub (.lit 0) (.op .sub (.var 4) (.var 3)))))) (fun h7 => ?_) (fun h7 => ?_)
  · skip
    refine way_cut (.cmp .le (.lit 1) (.op .sub (.var 2) (.var 1))) (fun h8 => ?_) (fun h8 => ?_)
    · skip
      refine way_leaf rline_n161 ?_
      refine ⟨rfl, ?_⟩; simp only [nm, digL, dgE, dgP, dgP1, List.cons_append, List.nil_append, List.append_nil] at *; first | (have hA : ((x3 * (x2 - x1)) - ((x0 - x1) * (0 - (x4 - x3)))) = (x0 - x1) * (x4 - x3) + x3 * (x2 - x1) := (by grind); rw [hA]; rw [if_neg (by omega), line_p _ _ _ _ _ (by omega), ← sat_e]) | (have hA : ((x3 * (x2 - x1)) - ((x0 - x1) * (0 - (x4 - x3)))) = (0 - (x0 - x1)) * (x4 - x3) + x3 * (0 - (x2 - x1)) := (by grind); rw [hA]; rw [if_neg (by omega), line_m _ _ _ _ _ (by omega), ← sat_e])
    refine way_bad ?_
    simp only [nm, digL, dgE, dgP, dgP1, List.cons_append, List.nil_append, List.append_nil] at *; omega
  refine way_cut (.cmp .le (.lit 1) (.op .sub (.var 2) (.var 1))) (fun h8 => ?_) (fun h8 => ?_)
  · skip
    refine way_bad ?_
    simp only [nm, digL, dgE, dgP, dgP1, List.cons_append, List.nil_append, List.append_nil] at *; omega
  refine way_bad ?_
  simp only [nm, digL, dgE, dgP, dgP1, List.cons_append, List.nil_append, List.append_nil] at *; omega
def rline_entry : Entry := fun X args =>
  match args with
  | [.int .i32 a0, (.agg [.int .i32 a1, .int .i32 a2]), (.agg [.int .i32 a3, .int .i32 a4])] => if a0.fits X .i32 && a1.fits X .i32 && a2.fits X .i32 && a3.fits X .i32 && a4.fits X .i32 then (Res.test X (.cmp .eq (.op .sub a2 a1) (.lit 0))).bind fun t => if t then .ok (.tuple [.int .i32 (.lit 0), .int .i64 (.lit 12)]) else .ok (.tuple [.int .i32 (.app 4 (.cons a0 (.cons a1 (.cons a2 (.cons a3 (.cons a4 .nil)))))), .int .i64 (.lit 0)]) else .fail 200
  | _ => .fail 201
theorem rline_ok {X : Ctx} {ρ : Nat → Int} (hX : X.Ok ρ) (hG : X.G = G) : EntryOk Tryd.prog X ρ GB 7 rline_entry := by
  obtain ⟨XG, XI, XV, XF⟩ := X
  simp only at hG
  subst hG
  intro args s h α w vals hv hw
  unfold rline_entry at h
  split at h
  · split at h
    · rename_i hg
      try simp only [Bool.and_eq_true] at hg
      obtain ⟨⟨⟨⟨g0, g1⟩, g2⟩, g3⟩, g4⟩ := hg
      obtain ⟨t, ht, h⟩ := Res.bind_ok h
      have ht := Res.test_ok hX ht
      have k := rline_any _ _ _ _ _ (E.fits_in hX g0) (E.fits_in hX g1) (E.fits_in hX g2) (E.fits_in hX g3) (E.fits_in hX g4) w hw
      cases t with
      | true =>
        cases h
        simp only [B.den, cop_eq, E.den, iop_sub, decide_eq_true_eq] at ht
        rw [if_pos ht] at k
        exact entry_calls hv rfl rfl k
      | false =>
        cases h
        simp only [B.den, cop_eq, E.den, iop_sub, decide_eq_false_iff_not] at ht
        rw [if_neg ht] at k
        exact entry_calls hv rfl rfl k
    · cases h
  · cases h
set_option maxHeartbeats 8000000 in
set_option maxRecDepth 100000 in
theorem rfloor_any (x0 : Int) (b0 : (-2147483648) ≤ x0 ∧ x0 ≤ 2147483647) (w : World) (hw : WOk GB w) : Known Tryd.prog 18 ∧ Calls Tryd.prog 18 #[.int .i32 x0] w (fun e w' => e = .returned (.int .i32 (Fx.floor x0)) ∧ Below w.heap.size w w') := by
  refine calls_eq (way_calls3 (ρ := rho [x0]) (run := fun fs => rfloor_R Tryd.prog fs) (fun _ => rfl) (by kernel_rfl) (within_get ⟨b0, trivial⟩) gi_ok (fun X hX hG => ct_hold_ok hX hG) rfl gb_flat gb_apart ?_ w hw)
  refine way_cut (.cmp .lt (.var 0) (.op .mul (.op .quo (.var 0) (.lit 65536)) (.lit 65536))) (fun h0 => ?_) (fun h0 => ?_)
  · skip
    refine way_cut (.cmp .lt (.op .sub (.op .mul (.op .quo (.var 0) (.lit 65536)) (.lit 65536)) (.lit 65536)) (.lit 0)) (fun h1 => ?_) (fun h1 => ?_)
    · skip
      refine way_leaf rfloor_n2 ?_
      refine ⟨rfl, ?_⟩; simp only [nm, digL, dgE, dgP, dgP1, List.cons_append, List.nil_append, List.append_nil] at *; have t0 := t_div (x0); generalize Int.tdiv (x0) 65536 = q0 at *; (try simp only [near_one]); unfold Fx.floor Fx.down; rw [← sat_e]; congr 1; omega
    refine way_leaf rfloor_n3 ?_
    refine ⟨rfl, ?_⟩; simp only [nm, digL, dgE, dgP, dgP1, List.cons_append, List.nil_append, List.append_nil] at *; have t0 := t_div (x0); generalize Int.tdiv (x0) 65536 = q0 at *; (try simp only [near_one]); unfold Fx.floor Fx.down; rw [← sat_e]; congr 1; omega
  refine way_cut (.cmp .lt (.op .mul (.op .quo (.var 0) (.lit 65536)) (.lit 65536)) (.lit 0)) (fun h1 => ?_) (fun h1 => ?_)
  · skip
    refine way_leaf rfloor_n5 ?_
    refine ⟨rfl, ?_⟩; simp only [nm, digL, dgE, dgP, dgP1, List.cons_append, List.nil_append, List.append_nil] at *; have t0 := t_div (x0); generalize Int.tdiv (x0) 65536 = q0 at *; (try simp only [near_one]); unfold Fx.floor Fx.down; rw [← sat_e]; congr 1; omega
  refine way_leaf rfloor_n6 ?_
  refine ⟨rfl, ?_⟩; simp only [nm, digL, dgE, dgP, dgP1, List.cons_append, List.nil_append, List.append_nil] at *; have t0 := t_div (x0); generalize Int.tdiv (x0) 65536 = q0 at *; (try simp only [near_one]); unfold Fx.floor Fx.down; rw [← sat_e]; congr 1; omega
def rfloor_entry : Entry := fun X args =>
  match args with
  | [.int .i32 a0] => if a0.fits X .i32 then .ok (.int .i32 (.app 6 (.cons a0 .nil))) else .fail 200
  | _ => .fail 201
theorem rfloor_ok {X : Ctx} {ρ : Nat → Int} (hX : X.Ok ρ) (hG : X.G = G) : EntryOk Tryd.prog X ρ GB 18 rfloor_entry := by
  obtain ⟨XG, XI, XV, XF⟩ := X
  simp only at hG
  subst hG
  intro args s h α w vals hv hw
  unfold rfloor_entry at h
  split at h
  · split at h
    · rename_i hg
      try simp only [Bool.and_eq_true] at hg
      have g0 := hg
      cases h
      exact entry_calls hv rfl rfl (rfloor_any _ (E.fits_in hX g0) w hw)
    · cases h
  · cases h
set_option maxHeartbeats 8000000 in
set_option maxRecDepth 100000 in
theorem rceil_any (x0 : Int) (b0 : (-2147483648) ≤ x0 ∧ x0 ≤ 2147483647) (w : World) (hw : WOk GB w) : Known Tryd.prog 20 ∧ Calls Tryd.prog 20 #[.int .i32 x0] w (fun e w' => e = .returned (.int .i32 (Fx.ceil x0)) ∧ Below w.heap.size w w') := by
  refine calls_eq (way_calls3 (ρ := rho [x0]) (run := fun fs => rceil_R Tryd.prog fs) (fun _ => rfl) (by kernel_rfl) (within_get ⟨b0, trivial⟩) gi_ok (fun X hX hG => ct_hold_ok hX hG) rfl gb_flat gb_apart ?_ w hw)
  refine way_cut (.cmp .lt (.op .sub (.lit 0) (.var 0)) (.op .mul (.op .quo (.op .sub (.lit 0) (.var 0)) (.lit 65536)) (.lit 65536))) (fun h0 => ?_) (fun h0 => ?_)
  · skip
    refine way_cut (.cmp .lt (.op .sub (.lit 0) (.op .sub (.op .mul (.op .quo (.op .sub (.lit 0) (.var 0)) (.lit 65536)) (.lit 65536)) (.lit 65536))) (.lit 0)) (fun h1 => ?_) (fun h1 => ?_)
    · skip
      refine way_leaf rceil_n2 ?_
      refine ⟨rfl, ?_⟩; simp only [nm, digL, dgE, dgP, dgP1, List.cons_append, List.nil_append, List.append_nil] at *; have t0 := t_div ((0 - x0)); generalize Int.tdiv ((0 - x0)) 65536 = q0 at *; (try simp only [near_one]); unfold Fx.ceil Fx.down; rw [← sat_e]; congr 1; omega
    refine way_leaf rceil_n3 ?_
    refine ⟨rfl, ?_⟩; simp only [nm, digL, dgE, dgP, dgP1, List.cons_append, List.nil_append, List.append_nil] at *; have t0 := t_div ((0 - x0)); generalize Int.tdiv ((0 - x0)) 65536 = q0 at *; (try simp only [near_one]); unfold Fx.ceil Fx.down; rw [← sat_e]; congr 1; omega
  refine way_cut (.cmp .lt (.op .sub (.lit 0) (.op .mul (.op .quo (.op .sub (.lit 0) (.var 0)) (.lit 65536)) (.lit 65536))) (.lit 0)) (fun h1 => ?_) (fun h1 => ?_)
  · skip
    refine way_leaf rceil_n5 ?_
    refine ⟨rfl, ?_⟩; simp only [nm, digL, dgE, dgP, dgP1, List.cons_append, List.nil_append, List.append_nil] at *; have t0 := t_div ((0 - x0)); generalize Int.tdiv ((0 - x0)) 65536 = q0 at *; (try simp only [near_one]); unfold Fx.ceil Fx.down; rw [← sat_e]; congr 1; omega
  refine way_leaf rceil_n6 ?_
  refine ⟨rfl, ?_⟩; simp only [nm, digL, dgE, dgP, dgP1, List.cons_append, List.nil_append, List.append_nil] at *; have t0 := t_div ((0 - x0)); generalize Int.tdiv ((0 - x0)) 65536 = q0 at *; (try simp only [near_one]); unfold Fx.ceil Fx.down; rw [← sat_e]; congr 1; omega
def rceil_entry : Entry := fun X args =>
  match args with
  | [.int .i32 a0] => if a0.fits X .i32 then .ok (.int .i32 (.app 7 (.cons a0 .nil))) else .fail 200
  | _ => .fail 201
theorem rceil_ok {X : Ctx} {ρ : Nat → Int} (hX : X.Ok ρ) (hG : X.G = G) : EntryOk Tryd.prog X ρ GB 20 rceil_entry := by
  obtain ⟨XG, XI, XV, XF⟩ := X
  simp only at hG
  subst hG
  intro args s h α w vals hv hw
  unfold rceil_entry at h
  split at h
  · split at h
    · rename_i hg
      try simp only [Bool.and_eq_true] at hg
      have g0 := hg
      cases h
      exact entry_calls hv rfl rfl (rceil_any _ (E.fits_in hX g0) w hw)
    · cases h
  · cases h
set_option maxHeartbeats 8000000 in
set_option maxRecDepth 100000 in
theorem rround_any (x0 : Int) (b0 : (-2147483648) ≤ x0 ∧ x0 ≤ 2147483647) (w : World) (hw : WOk GB w) : Known Tryd.prog 22 ∧ Calls Tryd.prog 22 #[.int .i32 x0] w (fun e w' => e = .returned (.int .i32 (Fx.round x0)) ∧ Below w.heap.size w w') := by
  refine calls_eq (way_calls3 (ρ := rho [x0]) (run := fun fs => rround_R Tryd.prog fs) (fun _ => rfl) (by kernel_rfl) (within_get ⟨b0, trivial⟩) gi_ok (fun X hX hG => ct_hold_ok hX hG) rfl gb_flat gb_apart ?_ w hw)
  refine way_cut (.cmp .lt (.op .add (.var 0) (.lit 32768)) (.op .mul (.op .quo (.op .add (.var 0) (.lit 32768)) (.lit 65536)) (.lit 65536))) (fun h0 => ?_) (fun h0 => ?_)
  · skip
    refine way_cut (.cmp .lt (.op .sub (.op .mul (.op .quo (.op .add (.var 0) (.lit 32768)) (.lit 65536)) (.lit 65536)) (.lit 65536)) (.lit 0)) (fun h1 => ?_) (fun h1 => ?_)
    · skip
      refine way_leaf rround_n2 ?_
      refine ⟨rfl, ?_⟩; simp only [nm, digL, dgE, dgP, dgP1, List.cons_append, List.nil_append, List.append_nil] at *; have t0 := t_div ((x0 + 32768)); generalize Int.tdiv ((x0 + 32768)) 65536 = q0 at *; (try simp only [near_one]); unfold Fx.round Fx.down; rw [← sat_e]; congr 1; omega
    refine way_leaf rround_n3 ?_
    refine ⟨rfl, ?_⟩; simp only [nm, digL, dgE, dgP, dgP1, List.cons_append, List.nil_append, List.append_nil] at *; have t0 := t_div ((x0 + 32768)); generalize Int.tdiv ((x0 + 32768)) 65536 = q0 at *; (try simp only [near_one]); unfold Fx.round Fx.down; rw [← sat_e]; congr 1; omega
  refine way_cut (.cmp .lt (.op .mul (.op .quo (.op .add (.var 0) (.lit 32768)) (.lit 65536)) (.lit 65536)) (.lit 0)) (fun h1 => ?_) (fun h1 => ?_)
  · skip
    refine way_leaf rround_n5 ?_
    refine ⟨rfl, ?_⟩; simp only [nm, digL, dgE, dgP, dgP1, List.cons_append, List.nil_append, List.append_nil] at *; have t0 := t_div ((x0 + 32768)); generalize Int.tdiv ((x0 + 32768)) 65536 = q0 at *; (try simp only [near_one]); unfold Fx.round Fx.down; rw [← sat_e]; congr 1; omega
  refine way_leaf rround_n6 ?_
  refine ⟨rfl, ?_⟩; simp only [nm, digL, dgE, dgP, dgP1, List.cons_append, List.nil_append, List.append_nil] at *; have t0 := t_div ((x0 + 32768)); generalize Int.tdiv ((x0 + 32768)) 65536 = q0 at *; (try simp only [near_one]); unfold Fx.round Fx.down; rw [← sat_e]; congr 1; omega
def rround_entry : Entry := fun X args =>
  match args with
  | [.int .i32 a0] => if a0.fits X .i32 then .ok (.int .i32 (.app 8 (.cons a0 .nil))) else .fail 200
  | _ => .fail 201
theorem rround_ok {X : Ctx} {ρ : Nat → Int} (hX : X.Ok ρ) (hG : X.G = G) : EntryOk Tryd.prog X ρ GB 22 rround_entry := by
  obtain ⟨XG, XI, XV, XF⟩ := X
  simp only at hG
  subst hG
  intro args s h α w vals hv hw
  unfold rround_entry at h
  split at h
  · split at h
    · rename_i hg
      try simp only [Bool.and_eq_true] at hg
      have g0 := hg
      cases h
      exact entry_calls hv rfl rfl (rround_any _ (E.fits_in hX g0) w hw)
    · cases h
  · cases h
def ct_rsat : Contracts := ctCons 28 rsat_entry ct_ftrunc
theorem ct_rsat_ok {X : Ctx} {ρ : Nat → Int} (hX : X.Ok ρ) (hG : X.G = G) : CtOk Tryd.prog X ρ GB ct_rsat := ctCons_ok (rsat_ok hX hG) (ct_ftrunc_ok hX hG)
def ct_rof : Contracts := ctCons 30 rof_entry ct_rsat
theorem ct_rof_ok {X : Ctx} {ρ : Nat → Int} (hX : X.Ok ρ) (hG : X.G = G) : CtOk Tryd.prog X ρ GB ct_rof := ctCons_ok (rof_ok hX hG) (ct_rsat_ok hX hG)
def ct_rmul : Contracts := ctCons 16 rmul_entry ct_rof
theorem ct_rmul_ok {X : Ctx} {ρ : Nat → Int} (hX : X.Ok ρ) (hG : X.G = G) : CtOk Tryd.prog X ρ GB ct_rmul := ctCons_ok (rmul_ok hX hG) (ct_rof_ok hX hG)
def ct_rratio : Contracts := ctCons 26 rratio_entry ct_rmul
theorem ct_rratio_ok {X : Ctx} {ρ : Nat → Int} (hX : X.Ok ρ) (hG : X.G = G) : CtOk Tryd.prog X ρ GB ct_rratio := ctCons_ok (rratio_ok hX hG) (ct_rmul_ok hX hG)
def ct_rline : Contracts := ctCons 7 rline_entry ct_rratio
theorem ct_rline_ok {X : Ctx} {ρ : Nat → Int} (hX : X.Ok ρ) (hG : X.G = G) : CtOk Tryd.prog X ρ GB ct_rline := ctCons_ok (rline_ok hX hG) (ct_rratio_ok hX hG)
def ct_rfloor : Contracts := ctCons 18 rfloor_entry ct_rline
theorem ct_rfloor_ok {X : Ctx} {ρ : Nat → Int} (hX : X.Ok ρ) (hG : X.G = G) : CtOk Tryd.prog X ρ GB ct_rfloor := ctCons_ok (rfloor_ok hX hG) (ct_rline_ok hX hG)
def ct_rceil : Contracts := ctCons 20 rceil_entry ct_rfloor
theorem ct_rceil_ok {X : Ctx} {ρ : Nat → Int} (hX : X.Ok ρ) (hG : X.G = G) : CtOk Tryd.prog X ρ GB ct_rceil := ctCons_ok (rceil_ok hX hG) (ct_rfloor_ok hX hG)
def ct_rround : Contracts := ctCons 22 rround_entry ct_rceil
theorem ct_rround_ok {X : Ctx} {ρ : Nat → Int} (hX : X.Ok ρ) (hG : X.G = G) : CtOk Tryd.prog X ρ GB ct_rround := ctCons_ok (rround_ok hX hG) (ct_rceil_ok hX hG)
end Go.Proofs.YtnffpaenalccaaaDoor
