/- What is proved: what functions of this program return: each over all its ways. The conditions are the numbers' own bounds. -/
import Derived.Test.YtnffpaenalccaaaDoorQg4
import Derived.Test.YtnffpaenalccaaaDoorQg2
import Derived.Test.YtnffpaenalccaaaDoorProg
import Derived.Test.YtnffpaenalccaaaDoorQNlives0
import Derived.Test.YtnffpaenalccaaaDoorQNrat0
import Derived.Test.YtnffpaenalccaaaDoorQNline0
import Derived.Test.YtnffpaenalccaaaDoorQNmulf0
import Derived.Test.YtnffpaenalccaaaDoorQNffloor0
import Derived.Test.YtnffpaenalccaaaDoorQNfceil0
import Derived.Test.YtnffpaenalccaaaDoorQNfround0
import Derived.Test.YtnffpaenalccaaaDoorQNftrunc0
set_option linter.unusedSimpArgs false
set_option linter.unusedVariables false
namespace Go.Proofs.YtnffpaenalccaaaDoor
open Go Go.RowKit Sx Wi
set_option maxRecDepth 100000 in
theorem lives_any   (w : World) (hw : WOk GB w) : Known Tryd.prog 8 ∧ Calls Tryd.prog 8 #[] w (fun e w' => e = .returned (.bool true) ∧ Below w.heap.size w w') := by
  refine calls_eq (way_calls3 (ρ := rho []) (run := fun fs => lives_R Tryd.prog fs) (fun _ => rfl) (by kernel_rfl) (within_get trivial) gi_ok (fun X hX hG => ct_w_ok hX hG) rfl gb_flat gb_apart ?_ w hw)
  refine way_leaf lives_n0 ?_
  exact ⟨rfl, rfl⟩
def lives_entry : Entry := fun _ args =>
  match args with
  | [] => .ok (.bool (.lit true))
  | _ => .fail 201
theorem lives_ok {X : Ctx} {ρ : Nat → Int} (hX : X.Ok ρ) (hG : X.G = G) : EntryOk Tryd.prog X ρ GB 8 lives_entry := by
  obtain ⟨XG, XI, XV, XF⟩ := X
  simp only at hG
  subst hG
  intro args s h α w vals hv hw
  unfold lives_entry at h
  split at h
  · cases h
    exact entry_calls hv rfl rfl (lives_any w hw)
  · cases h
set_option maxRecDepth 100000 in
theorem rat_any (x0 x1 : Int) (b0 : (-9223372036854775808) ≤ x0 ∧ x0 ≤ 9223372036854775807) (b1 : (-9223372036854775808) ≤ x1 ∧ x1 ≤ 9223372036854775807) (w : World) (hw : WOk GB w) : Known Tryd.prog 25 ∧ Calls Tryd.prog 25 #[.int .i64 x0, .int .i64 x1] w (fun e w' => e = .returned (if x1 = 0 then .tuple #[.int .i32 0, .int .i64 12] else .tuple #[.int .i32 (Fx.ratio x0 x1), .int .i64 0]) ∧ Below w.heap.size w w') := by
  refine calls_eq (way_calls3 (ρ := rho [x0, x1]) (run := fun fs => rat_R Tryd.prog fs) (fun _ => rfl) (by kernel_rfl) (within_get ⟨b0, b1, trivial⟩) gi_ok (fun X hX hG => ct_w_ok hX hG) rfl gb_flat gb_apart ?_ w hw)
  refine way_cut (.cmp .eq (.var 1) (.lit 0)) (fun h0 => ?_) (fun h0 => ?_)
  · skip
    refine way_leaf rat_n1 ?_
    refine ⟨rfl, ?_⟩; simp only [nm, G, wG, xG3, xG4, xG5, xG6, xG7, xG8, xG9] at *; first | (rw [if_pos (by omega)] <;> rfl) | (rw [if_neg (by omega), rat_e _ _ (by omega), ← sat_e] <;> rfl) | (rw [if_neg (by omega), rat_m _ _ (by omega)]; first | (rw [sat_hi (by omega)] <;> rfl) | (rw [sat_lo (by omega)] <;> rfl) | (rw [← sat_e] <;> rfl)) | (rw [if_neg (by omega), rat_p _ _ (by omega)]; first | (rw [sat_hi (by omega)] <;> rfl) | (rw [sat_lo (by omega)] <;> rfl) | (rw [← sat_e] <;> rfl))
  refine way_cut (.cmp .eq (.var 1) (.lit (-9223372036854775808))) (fun h1 => ?_) (fun h1 => ?_)
  · skip
    refine way_leaf rat_n3 ?_
    refine ⟨rfl, ?_⟩; simp only [nm, G, wG, xG3, xG4, xG5, xG6, xG7, xG8, xG9] at *; first | (rw [if_pos (by omega)] <;> rfl) | (rw [if_neg (by omega), rat_e _ _ (by omega), ← sat_e] <;> rfl) | (rw [if_neg (by omega), rat_m _ _ (by omega)]; first | (rw [sat_hi (by omega)] <;> rfl) | (rw [sat_lo (by omega)] <;> rfl) | (rw [← sat_e] <;> rfl)) | (rw [if_neg (by omega), rat_p _ _ (by omega)]; first | (rw [sat_hi (by omega)] <;> rfl) | (rw [sat_lo (by omega)] <;> rfl) | (rw [← sat_e] <;> rfl))
  refine way_cut (.cmp .lt (.var 1) (.lit 0)) (fun h2 => ?_) (fun h2 => ?_)
  · skip
    refine way_cut (.cmp .le (.lit (-9223372036854775808)) (.app 2 (.cons (.op .mul (.var 0) (.lit (-65536))) (.cons (.op .sub (.lit 0) (.var 1)) .nil)))) (fun h3 => ?_) (fun h3 => ?_)
    rotate_left
    · skip
      refine way_leaf rat_n9 ?_
      refine ⟨rfl, ?_⟩; simp only [nm, G, wG, xG3, xG4, xG5, xG6, xG7, xG8, xG9] at *; first | (rw [if_pos (by omega)] <;> rfl) | (rw [if_neg (by omega), rat_e _ _ (by omega), ← sat_e] <;> rfl) | (rw [if_neg (by omega), rat_m _ _ (by omega)]; first | (rw [sat_hi (by omega)] <;> rfl) | (rw [sat_lo (by omega)] <;> rfl) | (rw [← sat_e] <;> rfl)) | (rw [if_neg (by omega), rat_p _ _ (by omega)]; first | (rw [sat_hi (by omega)] <;> rfl) | (rw [sat_lo (by omega)] <;> rfl) | (rw [← sat_e] <;> rfl))
    refine way_cut (.cmp .le (.app 2 (.cons (.op .mul (.var 0) (.lit (-65536))) (.cons (.op .sub (.lit 0) (.var 1)) .nil))) (.lit 9223372036854775807)) (fun h4 => ?_) (fun h4 => ?_)
    · skip
      refine way_leaf rat_n7 ?_
      refine ⟨rfl, ?_⟩; simp only [nm, G, wG, xG3, xG4, xG5, xG6, xG7, xG8, xG9] at *; first | (rw [if_pos (by omega)] <;> rfl) | (rw [if_neg (by omega), rat_e _ _ (by omega), ← sat_e] <;> rfl) | (rw [if_neg (by omega), rat_m _ _ (by omega)]; first | (rw [sat_hi (by omega)] <;> rfl) | (rw [sat_lo (by omega)] <;> rfl) | (rw [← sat_e] <;> rfl)) | (rw [if_neg (by omega), rat_p _ _ (by omega)]; first | (rw [sat_hi (by omega)] <;> rfl) | (rw [sat_lo (by omega)] <;> rfl) | (rw [← sat_e] <;> rfl))
    refine way_leaf rat_n8 ?_
    refine ⟨rfl, ?_⟩; simp only [nm, G, wG, xG3, xG4, xG5, xG6, xG7, xG8, xG9] at *; first | (rw [if_pos (by omega)] <;> rfl) | (rw [if_neg (by omega), rat_e _ _ (by omega), ← sat_e] <;> rfl) | (rw [if_neg (by omega), rat_m _ _ (by omega)]; first | (rw [sat_hi (by omega)] <;> rfl) | (rw [sat_lo (by omega)] <;> rfl) | (rw [← sat_e] <;> rfl)) | (rw [if_neg (by omega), rat_p _ _ (by omega)]; first | (rw [sat_hi (by omega)] <;> rfl) | (rw [sat_lo (by omega)] <;> rfl) | (rw [← sat_e] <;> rfl))
  refine way_cut (.cmp .le (.lit (-9223372036854775808)) (.app 2 (.cons (.op .mul (.var 0) (.lit 65536)) (.cons (.var 1) .nil)))) (fun h3 => ?_) (fun h3 => ?_)
  rotate_left
  · skip
    refine way_leaf rat_n14 ?_
    refine ⟨rfl, ?_⟩; simp only [nm, G, wG, xG3, xG4, xG5, xG6, xG7, xG8, xG9] at *; first | (rw [if_pos (by omega)] <;> rfl) | (rw [if_neg (by omega), rat_e _ _ (by omega), ← sat_e] <;> rfl) | (rw [if_neg (by omega), rat_m _ _ (by omega)]; first | (rw [sat_hi (by omega)] <;> rfl) | (rw [sat_lo (by omega)] <;> rfl) | (rw [← sat_e] <;> rfl)) | (rw [if_neg (by omega), rat_p _ _ (by omega)]; first | (rw [sat_hi (by omega)] <;> rfl) | (rw [sat_lo (by omega)] <;> rfl) | (rw [← sat_e] <;> rfl))
  refine way_cut (.cmp .le (.app 2 (.cons (.op .mul (.var 0) (.lit 65536)) (.cons (.var 1) .nil))) (.lit 9223372036854775807)) (fun h4 => ?_) (fun h4 => ?_)
  · skip
    refine way_leaf rat_n12 ?_
    refine ⟨rfl, ?_⟩; simp only [nm, G, wG, xG3, xG4, xG5, xG6, xG7, xG8, xG9] at *; first | (rw [if_pos (by omega)] <;> rfl) | (rw [if_neg (by omega), rat_e _ _ (by omega), ← sat_e] <;> rfl) | (rw [if_neg (by omega), rat_m _ _ (by omega)]; first | (rw [sat_hi (by omega)] <;> rfl) | (rw [sat_lo (by omega)] <;> rfl) | (rw [← sat_e] <;> rfl)) | (rw [if_neg (by omega), rat_p _ _ (by omega)]; first | (rw [sat_hi (by omega)] <;> rfl) | (rw [sat_lo (by omega)] <;> rfl) | (rw [← sat_e] <;> rfl))
  refine way_leaf rat_n13 ?_
  refine ⟨rfl, ?_⟩; simp only [nm, G, wG, xG3, xG4, xG5, xG6, xG7, xG8, xG9] at *; first | (rw [if_pos (by omega)] <;> rfl) | (rw [if_neg (by omega), rat_e _ _ (by omega), ← sat_e] <;> rfl) | (rw [if_neg (by omega), rat_m _ _ (by omega)]; first | (rw [sat_hi (by omega)] <;> rfl) | (rw [sat_lo (by omega)] <;> rfl) | (rw [← sat_e] <;> rfl)) | (rw [if_neg (by omega), rat_p _ _ (by omega)]; first | (rw [sat_hi (by omega)] <;> rfl) | (rw [sat_lo (by omega)] <;> rfl) | (rw [← sat_e] <;> rfl))
def rat_entry : Entry := fun X args =>
  match args with
  | [.int .i64 a0, .int .i64 a1] => if a0.fits X .i64 && a1.fits X .i64 then (Res.test X (.cmp .eq a1 (.lit 0))).bind fun t => if t then .ok (.tuple [.int .i32 (.lit 0), .int .i64 (.lit 12)]) else .ok (.tuple [.int .i32 (.app 3 (.cons a0 (.cons a1 .nil))), .int .i64 (.lit 0)]) else .fail 200
  | _ => .fail 201
theorem rat_ok {X : Ctx} {ρ : Nat → Int} (hX : X.Ok ρ) (hG : X.G = G) : EntryOk Tryd.prog X ρ GB 25 rat_entry := by
  obtain ⟨XG, XI, XV, XF⟩ := X
  simp only at hG
  subst hG
  intro args s h α w vals hv hw
  unfold rat_entry at h
  split at h
  · split at h
    · rename_i hg
      try simp only [Bool.and_eq_true] at hg
      obtain ⟨g0, g1⟩ := hg
      obtain ⟨t, ht, h⟩ := Res.bind_ok h
      have ht := Res.test_ok hX ht
      have k := rat_any _ _ (E.fits_in hX g0) (E.fits_in hX g1) w hw
      cases t with
      | true =>
        cases h
        simp only [B.den, cop_eq, E.den, iop_sub, decide_eq_true_eq] at ht
        rw [if_pos ht] at k
        exact entry_calls hv rfl rfl k
      | false =>
        cases h
        simp only [B.den, cop_eq, E.den, iop_sub, decide_eq_false_iff_not] at ht
        rw [if_neg ht] at k
        exact entry_calls hv rfl rfl k
    · cases h
  · cases h
set_option maxRecDepth 100000 in
theorem line_any (x0 x1 x2 x3 x4 : Int) (b0 : (-2147483648) ≤ x0 ∧ x0 ≤ 2147483647) (b1 : (-2147483648) ≤ x1 ∧ x1 ≤ 2147483647) (b2 : (-2147483648) ≤ x2 ∧ x2 ≤ 2147483647) (b3 : (-2147483648) ≤ x3 ∧ x3 ≤ 2147483647) (b4 : (-2147483648) ≤ x4 ∧ x4 ≤ 2147483647) (w : World) (hw : WOk GB w) : Known Tryd.prog 6 ∧ Calls Tryd.prog 6 #[.int .i32 x0, (.agg #[.int .i32 x1, .int .i32 x2]), (.agg #[.int .i32 x3, .int .i32 x4])] w (fun e w' => e = .returned (if x2 - x1 = 0 then .tuple #[.int .i32 0, .int .i64 12] else .tuple #[.int .i32 (Fx.line x0 x1 x2 x3 x4), .int .i64 0]) ∧ Below w.heap.size w w') := by
  refine calls_eq (way_calls3 (ρ := rho [x0, x1, x2, x3, x4]) (run := fun fs => line_R Tryd.prog fs) (fun _ => rfl) (by kernel_rfl) (within_get ⟨b0, b1, b2, b3, b4, trivial⟩) gi_ok (fun X hX hG => ct_w_ok hX hG) rfl gb_flat gb_apart ?_ w hw)
  refine way_cut (.cmp .eq (.op .sub (.var 2) (.var 1)) (.lit 0)) (fun h0 => ?_) (fun h0 => ?_)
  · skip
    refine way_leaf line_n1 ?_
    refine ⟨rfl, ?_⟩; simp only [nm, G, wG, xG3, xG4, xG5, xG6, xG7, xG8, xG9] at *; first | (rw [if_pos (by omega)] <;> rfl) | (rw [if_neg (by omega), line_m _ _ _ _ _ (by omega)]; first | (rw [sat_hi (by omega)] <;> rfl) | (rw [sat_lo (by omega)] <;> rfl) | (rw [← sat_e] <;> rfl)) | (rw [if_neg (by omega), line_p _ _ _ _ _ (by omega)]; first | (rw [sat_hi (by omega)] <;> rfl) | (rw [sat_lo (by omega)] <;> rfl) | (rw [← sat_e] <;> rfl))
  refine way_cut (.cmp .lt (.op .sub (.var 2) (.var 1)) (.lit 0)) (fun h1 => ?_) (fun h1 => ?_)
  · skip
    refine way_cut (.cmp .le (.lit (-9223372036854775808)) (.app 2 (.cons (.op .add (.op .mul (.op .sub (.lit 0) (.op .sub (.var 0) (.var 1))) (.op .sub (.var 4) (.var 3))) (.op .mul (.var 3) (.op .sub (.lit 0) (.op .sub (.var 2) (.var 1))))) (.cons (.op .sub (.lit 0) (.op .sub (.var 2) (.var 1))) .nil)))) (fun h2 => ?_) (fun h2 => ?_)
    rotate_left
    · skip
      refine way_leaf line_n7 ?_
      refine ⟨rfl, ?_⟩; simp only [nm, G, wG, xG3, xG4, xG5, xG6, xG7, xG8, xG9] at *; first | (rw [if_pos (by omega)] <;> rfl) | (rw [if_neg (by omega), line_m _ _ _ _ _ (by omega)]; first | (rw [sat_hi (by omega)] <;> rfl) | (rw [sat_lo (by omega)] <;> rfl) | (rw [← sat_e] <;> rfl)) | (rw [if_neg (by omega), line_p _ _ _ _ _ (by omega)]; first | (rw [sat_hi (by omega)] <;> rfl) | (rw [sat_lo (by omega)] <;> rfl) | (rw [← sat_e] <;> rfl))
    refine way_cut (.cmp .le (.app 2 (.cons (.op .add (.op .mul (.op .sub (.lit 0) (.op .sub (.var 0) (.var 1))) (.op .sub (.var 4) (.var 3))) (.op .mul (.var 3) (.op .sub (.lit 0) (.op .sub (.var 2) (.var 1))))) (.cons (.op .sub (.lit 0) (.op .sub (.var 2) (.var 1))) .nil))) (.lit 9223372036854775807)) (fun h3 => ?_) (fun h3 => ?_)
    · skip
      refine way_leaf line_n5 ?_
      refine ⟨rfl, ?_⟩; simp only [nm, G, wG, xG3, xG4, xG5, xG6, xG7, xG8, xG9] at *; first | (rw [if_pos (by omega)] <;> rfl) | (rw [if_neg (by omega), line_m _ _ _ _ _ (by omega)]; first | (rw [sat_hi (by omega)] <;> rfl) | (rw [sat_lo (by omega)] <;> rfl) | (rw [← sat_e] <;> rfl)) | (rw [if_neg (by omega), line_p _ _ _ _ _ (by omega)]; first | (rw [sat_hi (by omega)] <;> rfl) | (rw [sat_lo (by omega)] <;> rfl) | (rw [← sat_e] <;> rfl))
    refine way_leaf line_n6 ?_
    refine ⟨rfl, ?_⟩; simp only [nm, G, wG, xG3, xG4, xG5, xG6, xG7, xG8, xG9] at *; first | (rw [if_pos (by omega)] <;> rfl) | (rw [if_neg (by omega), line_m _ _ _ _ _ (by omega)]; first | (rw [sat_hi (by omega)] <;> rfl) | (rw [sat_lo (by omega)] <;> rfl) | (rw [← sat_e] <;> rfl)) | (rw [if_neg (by omega), line_p _ _ _ _ _ (by omega)]; first | (rw [sat_hi (by omega)] <;> rfl) | (rw [sat_lo (by omega)] <;> rfl) | (rw [← sat_e] <;> rfl))
  refine way_cut (.cmp .le (.lit (-9223372036854775808)) (.app 2 (.cons (.op .add (.op .mul (.op .sub (.var 0) (.var 1)) (.op .sub (.var 4) (.var 3))) (.op .mul (.var 3) (.op .sub (.var 2) (.var 1)))) (.cons (.op .sub (.var 2) (.var 1)) .nil)))) (fun h2 => ?_) (fun h2 => ?_)
  rotate_left
  · skip
    refine way_leaf line_n12 ?_
    refine ⟨rfl, ?_⟩; simp only [nm, G, wG, xG3, xG4, xG5, xG6, xG7, xG8, xG9] at *; first | (rw [if_pos (by omega)] <;> rfl) | (rw [if_neg (by omega), line_m _ _ _ _ _ (by omega)]; first | (rw [sat_hi (by omega)] <;> rfl) | (rw [sat_lo (by omega)] <;> rfl) | (rw [← sat_e] <;> rfl)) | (rw [if_neg (by omega), line_p _ _ _ _ _ (by omega)]; first | (rw [sat_hi (by omega)] <;> rfl) | (rw [sat_lo (by omega)] <;> rfl) | (rw [← sat_e] <;> rfl))
  refine way_cut (.cmp .le (.app 2 (.cons (.op .add (.op .mul (.op .sub (.var 0) (.var 1)) (.op .sub (.var 4) (.var 3))) (.op .mul (.var 3) (.op .sub (.var 2) (.var 1)))) (.cons (.op .sub (.var 2) (.var 1)) .nil))) (.lit 9223372036854775807)) (fun h3 => ?_) (fun h3 => ?_)
  · skip
    refine way_leaf line_n10 ?_
    refine ⟨rfl, ?_⟩; simp only [nm, G, wG, xG3, xG4, xG5, xG6, xG7, xG8, xG9] at *; first | (rw [if_pos (by omega)] <;> rfl) | (rw [if_neg (by omega), line_m _ _ _ _ _ (by omega)]; first | (rw [sat_hi (by omega)] <;> rfl) | (rw [sat_lo (by omega)] <;> rfl) | (rw [← sat_e] <;> rfl)) | (rw [if_neg (by omega), line_p _ _ _ _ _ (by omega)]; first | (rw [sat_hi (by omega)] <;> rfl) | (rw [sat_lo (by omega)] <;> rfl) | (rw [← sat_e] <;> rfl))
  refine way_leaf line_n11 ?_
  refine ⟨rfl, ?_⟩; simp only [nm, G, wG, xG3, xG4, xG5, xG6, xG7, xG8, xG9] at *; first | (rw [if_pos (by omega)] <;> rfl) | (rw [if_neg (by omega), line_m _ _ _ _ _ (by omega)]; first | (rw [sat_hi (by omega)] <;> rfl) | (rw [sat_lo (by omega)] <;> rfl) | (rw [← sat_e] <;> rfl)) | (rw [if_neg (by omega), line_p _ _ _ _ _ (by omega)]; first | (rw [sat_hi (by omega)] <;> rfl) | (rw [sat_lo (by omega)] <;> rfl) | (rw [← sat_e] <;> rfl))
def line_entry : Entry := fun X args =>
  match args with
  | [.int .i32 a0, (.agg [.int .i32 a1, .int .i32 a2]), (.agg [.int .i32 a3, .int .i32 a4])] => if a0.fits X .i32 && a1.fits X .i32 && a2.fits X .i32 && a3.fits X .i32 && a4.fits X .i32 then (Res.test X (.cmp .eq (.op .sub a2 a1) (.lit 0))).bind fun t => if t then .ok (.tuple [.int .i32 (.lit 0), .int .i64 (.lit 12)]) else .ok (.tuple [.int .i32 (.app 4 (.cons a0 (.cons a1 (.cons a2 (.cons a3 (.cons a4 .nil)))))), .int .i64 (.lit 0)]) else .fail 200
  | _ => .fail 201
theorem line_ok {X : Ctx} {ρ : Nat → Int} (hX : X.Ok ρ) (hG : X.G = G) : EntryOk Tryd.prog X ρ GB 6 line_entry := by
  obtain ⟨XG, XI, XV, XF⟩ := X
  simp only at hG
  subst hG
  intro args s h α w vals hv hw
  unfold line_entry at h
  split at h
  · split at h
    · rename_i hg
      try simp only [Bool.and_eq_true] at hg
      obtain ⟨⟨⟨⟨g0, g1⟩, g2⟩, g3⟩, g4⟩ := hg
      obtain ⟨t, ht, h⟩ := Res.bind_ok h
      have ht := Res.test_ok hX ht
      have k := line_any _ _ _ _ _ (E.fits_in hX g0) (E.fits_in hX g1) (E.fits_in hX g2) (E.fits_in hX g3) (E.fits_in hX g4) w hw
      cases t with
      | true =>
        cases h
        simp only [B.den, cop_eq, E.den, iop_sub, decide_eq_true_eq] at ht
        rw [if_pos ht] at k
        exact entry_calls hv rfl rfl k
      | false =>
        cases h
        simp only [B.den, cop_eq, E.den, iop_sub, decide_eq_false_iff_not] at ht
        rw [if_neg ht] at k
        exact entry_calls hv rfl rfl k
    · cases h
  · cases h
set_option maxRecDepth 100000 in
theorem mulf_any (x0 x1 : Int) (b0 : (-2147483648) ≤ x0 ∧ x0 ≤ 2147483647) (b1 : (-2147483648) ≤ x1 ∧ x1 ≤ 2147483647) (w : World) (hw : WOk GB w) : Known Tryd.prog 15 ∧ Calls Tryd.prog 15 #[.int .i32 x0, .int .i32 x1] w (fun e w' => e = .returned (.int .i32 (Fx.mul x0 x1)) ∧ Below w.heap.size w w') := by
  refine calls_eq (way_calls3 (ρ := rho [x0, x1]) (run := fun fs => mulf_R Tryd.prog fs) (fun _ => rfl) (by kernel_rfl) (within_get ⟨b0, b1, trivial⟩) gi_ok (fun X hX hG => ct_w_ok hX hG) rfl gb_flat gb_apart ?_ w hw)
  refine way_leaf mulf_n0 ?_
  refine ⟨rfl, ?_⟩; simp only [nm, G, wG, xG3, xG4, xG5, xG6, xG7, xG8, xG9] at *; rw [mul_m]; first | (rw [sat_hi (by omega)] <;> rfl) | (rw [sat_lo (by omega)] <;> rfl) | (rw [← sat_e] <;> rfl)
def mulf_entry : Entry := fun X args =>
  match args with
  | [.int .i32 a0, .int .i32 a1] => if a0.fits X .i32 && a1.fits X .i32 then .ok (.int .i32 (.app 5 (.cons a0 (.cons a1 .nil)))) else .fail 200
  | _ => .fail 201
theorem mulf_ok {X : Ctx} {ρ : Nat → Int} (hX : X.Ok ρ) (hG : X.G = G) : EntryOk Tryd.prog X ρ GB 15 mulf_entry := by
  obtain ⟨XG, XI, XV, XF⟩ := X
  simp only at hG
  subst hG
  intro args s h α w vals hv hw
  unfold mulf_entry at h
  split at h
  · split at h
    · rename_i hg
      try simp only [Bool.and_eq_true] at hg
      obtain ⟨g0, g1⟩ := hg
      cases h
      exact entry_calls hv rfl rfl (mulf_any _ _ (E.fits_in hX g0) (E.fits_in hX g1) w hw)
    · cases h
  · cases h
set_option maxRecDepth 100000 in
theorem ffloor_any (x0 : Int) (b0 : (-2147483648) ≤ x0 ∧ x0 ≤ 2147483647) (w : World) (hw : WOk GB w) : Known Tryd.prog 17 ∧ Calls Tryd.prog 17 #[.int .i32 x0] w (fun e w' => e = .returned (.int .i32 (Fx.floor x0)) ∧ Below w.heap.size w w') := by
  refine calls_eq (way_calls3 (ρ := rho [x0]) (run := fun fs => ffloor_R Tryd.prog fs) (fun _ => rfl) (by kernel_rfl) (within_get ⟨b0, trivial⟩) gi_ok (fun X hX hG => ct_w_ok hX hG) rfl gb_flat gb_apart ?_ w hw)
  refine way_leaf ffloor_n0 ?_
  refine ⟨rfl, ?_⟩; simp only [nm, G, wG, xG3, xG4, xG5, xG6, xG7, xG8, xG9] at *; rw [down_e _ (by omega) (by omega), sat_e]; rfl
def ffloor_entry : Entry := fun X args =>
  match args with
  | [.int .i32 a0] => if a0.fits X .i32 then .ok (.int .i32 (.app 6 (.cons a0 .nil))) else .fail 200
  | _ => .fail 201
theorem ffloor_ok {X : Ctx} {ρ : Nat → Int} (hX : X.Ok ρ) (hG : X.G = G) : EntryOk Tryd.prog X ρ GB 17 ffloor_entry := by
  obtain ⟨XG, XI, XV, XF⟩ := X
  simp only at hG
  subst hG
  intro args s h α w vals hv hw
  unfold ffloor_entry at h
  split at h
  · split at h
    · rename_i hg
      try simp only [Bool.and_eq_true] at hg
      have g0 := hg
      cases h
      exact entry_calls hv rfl rfl (ffloor_any _ (E.fits_in hX g0) w hw)
    · cases h
  · cases h
set_option maxRecDepth 100000 in
theorem fceil_any (x0 : Int) (b0 : (-2147483648) ≤ x0 ∧ x0 ≤ 2147483647) (w : World) (hw : WOk GB w) : Known Tryd.prog 19 ∧ Calls Tryd.prog 19 #[.int .i32 x0] w (fun e w' => e = .returned (.int .i32 (Fx.ceil x0)) ∧ Below w.heap.size w w') := by
  refine calls_eq (way_calls3 (ρ := rho [x0]) (run := fun fs => fceil_R Tryd.prog fs) (fun _ => rfl) (by kernel_rfl) (within_get ⟨b0, trivial⟩) gi_ok (fun X hX hG => ct_w_ok hX hG) rfl gb_flat gb_apart ?_ w hw)
  refine way_leaf fceil_n0 ?_
  refine ⟨rfl, ?_⟩; simp only [nm, G, wG, xG3, xG4, xG5, xG6, xG7, xG8, xG9] at *; rw [down_e _ (by omega) (by omega), sat_e]; rfl
def fceil_entry : Entry := fun X args =>
  match args with
  | [.int .i32 a0] => if a0.fits X .i32 then .ok (.int .i32 (.app 7 (.cons a0 .nil))) else .fail 200
  | _ => .fail 201
theorem fceil_ok {X : Ctx} {ρ : Nat → Int} (hX : X.Ok ρ) (hG : X.G = G) : EntryOk Tryd.prog X ρ GB 19 fceil_entry := by
  obtain ⟨XG, XI, XV, XF⟩ := X
  simp only at hG
  subst hG
  intro args s h α w vals hv hw
  unfold fceil_entry at h
  split at h
  · split at h
    · rename_i hg
      try simp only [Bool.and_eq_true] at hg
      have g0 := hg
      cases h
      exact entry_calls hv rfl rfl (fceil_any _ (E.fits_in hX g0) w hw)
    · cases h
  · cases h
set_option maxRecDepth 100000 in
theorem fround_any (x0 : Int) (b0 : (-2147483648) ≤ x0 ∧ x0 ≤ 2147483647) (w : World) (hw : WOk GB w) : Known Tryd.prog 21 ∧ Calls Tryd.prog 21 #[.int .i32 x0] w (fun e w' => e = .returned (.int .i32 (Fx.round x0)) ∧ Below w.heap.size w w') := by
  refine calls_eq (way_calls3 (ρ := rho [x0]) (run := fun fs => fround_R Tryd.prog fs) (fun _ => rfl) (by kernel_rfl) (within_get ⟨b0, trivial⟩) gi_ok (fun X hX hG => ct_w_ok hX hG) rfl gb_flat gb_apart ?_ w hw)
  refine way_leaf fround_n0 ?_
  refine ⟨rfl, ?_⟩; simp only [nm, G, wG, xG3, xG4, xG5, xG6, xG7, xG8, xG9] at *; rw [down_e _ (by omega) (by omega), sat_e]; rfl
def fround_entry : Entry := fun X args =>
  match args with
  | [.int .i32 a0] => if a0.fits X .i32 then .ok (.int .i32 (.app 8 (.cons a0 .nil))) else .fail 200
  | _ => .fail 201
theorem fround_ok {X : Ctx} {ρ : Nat → Int} (hX : X.Ok ρ) (hG : X.G = G) : EntryOk Tryd.prog X ρ GB 21 fround_entry := by
  obtain ⟨XG, XI, XV, XF⟩ := X
  simp only at hG
  subst hG
  intro args s h α w vals hv hw
  unfold fround_entry at h
  split at h
  · split at h
    · rename_i hg
      try simp only [Bool.and_eq_true] at hg
      have g0 := hg
      cases h
      exact entry_calls hv rfl rfl (fround_any _ (E.fits_in hX g0) w hw)
    · cases h
  · cases h
set_option maxRecDepth 100000 in
theorem ftrunc_any (x0 : Int) (b0 : (-2147483648) ≤ x0 ∧ x0 ≤ 2147483647) (w : World) (hw : WOk GB w) : Known Tryd.prog 23 ∧ Calls Tryd.prog 23 #[.int .i32 x0] w (fun e w' => e = .returned (.int .i32 (Fx.trunc x0)) ∧ Below w.heap.size w w') := by
  refine calls_eq (way_calls3 (ρ := rho [x0]) (run := fun fs => ftrunc_R Tryd.prog fs) (fun _ => rfl) (by kernel_rfl) (within_get ⟨b0, trivial⟩) gi_ok (fun X hX hG => ct_w_ok hX hG) rfl gb_flat gb_apart ?_ w hw)
  refine way_cut (.cmp .lt (.var 0) (.lit 0)) (fun h0 => ?_) (fun h0 => ?_)
  · skip
    refine way_leaf ftrunc_n1 ?_
    refine ⟨rfl, ?_⟩; simp only [nm, G, wG, xG3, xG4, xG5, xG6, xG7, xG8, xG9] at *; rw [down_e _ (by omega) (by omega), sat_e]; unfold Fx.trunc; first | (rw [if_pos (by omega)]; rfl) | (rw [if_neg (by omega)]; rfl)
  refine way_leaf ftrunc_n2 ?_
  refine ⟨rfl, ?_⟩; simp only [nm, G, wG, xG3, xG4, xG5, xG6, xG7, xG8, xG9] at *; rw [down_e _ (by omega) (by omega), sat_e]; unfold Fx.trunc; first | (rw [if_pos (by omega)]; rfl) | (rw [if_neg (by omega)]; rfl)
def ftrunc_entry : Entry := fun X args =>
  match args with
  | [.int .i32 a0] => if a0.fits X .i32 then .ok (.int .i32 (.app 9 (.cons a0 .nil))) else .fail 200
  | _ => .fail 201
theorem ftrunc_ok {X : Ctx} {ρ : Nat → Int} (hX : X.Ok ρ) (hG : X.G = G) : EntryOk Tryd.prog X ρ GB 23 ftrunc_entry := by
  obtain ⟨XG, XI, XV, XF⟩ := X
  simp only at hG
  subst hG
  intro args s h α w vals hv hw
  unfold ftrunc_entry at h
  split at h
  · split at h
    · rename_i hg
      try simp only [Bool.and_eq_true] at hg
      have g0 := hg
      cases h
      exact entry_calls hv rfl rfl (ftrunc_any _ (E.fits_in hX g0) w hw)
    · cases h
  · cases h
def ct_lives : Contracts := ctCons 8 lives_entry ct_w
theorem ct_lives_ok {X : Ctx} {ρ : Nat → Int} (hX : X.Ok ρ) (hG : X.G = G) : CtOk Tryd.prog X ρ GB ct_lives := ctCons_ok (lives_ok hX hG) (ct_w_ok hX hG)
def ct_rat : Contracts := ctCons 25 rat_entry ct_lives
theorem ct_rat_ok {X : Ctx} {ρ : Nat → Int} (hX : X.Ok ρ) (hG : X.G = G) : CtOk Tryd.prog X ρ GB ct_rat := ctCons_ok (rat_ok hX hG) (ct_lives_ok hX hG)
def ct_line : Contracts := ctCons 6 line_entry ct_rat
theorem ct_line_ok {X : Ctx} {ρ : Nat → Int} (hX : X.Ok ρ) (hG : X.G = G) : CtOk Tryd.prog X ρ GB ct_line := ctCons_ok (line_ok hX hG) (ct_rat_ok hX hG)
def ct_mulf : Contracts := ctCons 15 mulf_entry ct_line
theorem ct_mulf_ok {X : Ctx} {ρ : Nat → Int} (hX : X.Ok ρ) (hG : X.G = G) : CtOk Tryd.prog X ρ GB ct_mulf := ctCons_ok (mulf_ok hX hG) (ct_line_ok hX hG)
def ct_ffloor : Contracts := ctCons 17 ffloor_entry ct_mulf
theorem ct_ffloor_ok {X : Ctx} {ρ : Nat → Int} (hX : X.Ok ρ) (hG : X.G = G) : CtOk Tryd.prog X ρ GB ct_ffloor := ctCons_ok (ffloor_ok hX hG) (ct_mulf_ok hX hG)
def ct_fceil : Contracts := ctCons 19 fceil_entry ct_ffloor
theorem ct_fceil_ok {X : Ctx} {ρ : Nat → Int} (hX : X.Ok ρ) (hG : X.G = G) : CtOk Tryd.prog X ρ GB ct_fceil := ctCons_ok (fceil_ok hX hG) (ct_ffloor_ok hX hG)
def ct_fround : Contracts := ctCons 21 fround_entry ct_fceil
theorem ct_fround_ok {X : Ctx} {ρ : Nat → Int} (hX : X.Ok ρ) (hG : X.G = G) : CtOk Tryd.prog X ρ GB ct_fround := ctCons_ok (fround_ok hX hG) (ct_fceil_ok hX hG)
def ct_ftrunc : Contracts := ctCons 23 ftrunc_entry ct_fround
theorem ct_ftrunc_ok {X : Ctx} {ρ : Nat → Int} (hX : X.Ok ρ) (hG : X.G = G) : CtOk Tryd.prog X ρ GB ct_ftrunc := ctCons_ok (ftrunc_ok hX hG) (ct_fround_ok hX hG)
end Go.Proofs.YtnffpaenalccaaaDoor
