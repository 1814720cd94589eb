/- What is proved: what functions of this program return: each over all its ways. The conditions are the numbers' own bounds. -/
import Derived.Test.YtoiecphddchknaaQCb
import Derived.Test.YtoiecphddchknaaQNclaim0
import Derived.Test.YtoiecphddchknaaQNwt0
set_option linter.unusedSimpArgs false
set_option linter.unusedVariables false
namespace Go.Proofs.Ytoiecphddchknaa
open Go Go.RowKit Sx Wi
set_option maxHeartbeats 1000000 in
set_option maxRecDepth 100000 in
theorem claim_any (x0 x1 x2 x3 x4 x5 x6 x7 : Int) (b0 : (-9223372036854775808) ≤ x0 ∧ x0 ≤ 9223372036854775807) (b1 : (-9223372036854775808) ≤ x1 ∧ x1 ≤ 9223372036854775807) (b2 : (-9223372036854775808) ≤ x2 ∧ x2 ≤ 9223372036854775807) (b3 : (-9223372036854775808) ≤ x3 ∧ x3 ≤ 9223372036854775807) (b4 : (-9223372036854775808) ≤ x4 ∧ x4 ≤ 9223372036854775807) (b5 : (-9223372036854775808) ≤ x5 ∧ x5 ≤ 9223372036854775807) (b6 : (-9223372036854775808) ≤ x6 ∧ x6 ≤ 9223372036854775807) (b7 : (-9223372036854775808) ≤ x7 ∧ x7 ≤ 9223372036854775807) (w : World) (hw : WOk GB w) : Known Try.prog 13 ∧ Calls Try.prog 13 #[(.agg #[.int .i64 x0, .int .i64 x1, .int .i64 x2, .int .i64 x3, .int .i64 x4, .int .i64 x5]), (.agg #[.int .i64 x6, .int .i64 x7])] w (fun e w' => e = .returned (.int .i64 (xG63 [x0, x1, x2, x3, x4, x5, x6, x7])) ∧ Below w.heap.size w w') := by
  refine calls_eq (way_calls3 (ρ := rho [x0, x1, x2, x3, x4, x5, x6, x7]) (run := fun fs => claim_R Try.prog fs) (fun _ => rfl) fits (within_get ⟨b0, b1, b2, b3, b4, b5, b6, b7, trivial⟩) gi_ok (fun X hX hG => ct_sd_ok hX hG) rfl rfl gbApart_nil ?_ w hw)
  refine way_need claim_n0 (fun h0 => ?_) (fun h0 => ?_)
  · skip
    refine way_leaf claim_n1 ?_
    refine ⟨rfl, ?_⟩; simp only [E.den, EL.den, B.den, cop_lt, cop_le, cop_eq, cop_ne, iop_add, iop_sub, iop_mul, iop_max, iop_min, iop_quo, iop_rem, iop_fdiv, iop_shl, SV.den, SV.denL, SV.ubd, SV.ubdL, rho, List.getD_cons_zero, List.getD_cons_succ, decide_eq_true_eq, decide_eq_false_iff_not, Bool.not_eq_true', Bool.not_eq_false', Bool.and_eq_true, true_and] at *; (try simp only [G, xG60, xG62, xG63, xG64, xG67] at *); congr 1; rw [claim_alt]; unfold Ed.ok Ed.cross; dsimp only; (repeat' split) <;> first | rfl | (exfalso; omega) | contradiction | (simp_all; done)
  refine way_need claim_n2 (fun h1 => ?_) (fun h1 => ?_)
  · skip
    refine way_leaf claim_n3 ?_
    refine ⟨rfl, ?_⟩; simp only [E.den, EL.den, B.den, cop_lt, cop_le, cop_eq, cop_ne, iop_add, iop_sub, iop_mul, iop_max, iop_min, iop_quo, iop_rem, iop_fdiv, iop_shl, SV.den, SV.denL, SV.ubd, SV.ubdL, rho, List.getD_cons_zero, List.getD_cons_succ, decide_eq_true_eq, decide_eq_false_iff_not, Bool.not_eq_true', Bool.not_eq_false', Bool.and_eq_true, true_and] at *; (try simp only [G, xG60, xG62, xG63, xG64, xG67] at *); congr 1; rw [claim_alt]; unfold Ed.ok Ed.cross; dsimp only; (repeat' split) <;> first | rfl | (exfalso; omega) | contradiction | (simp_all; done)
  refine way_need claim_n4 (fun h2 => ?_) (fun h2 => ?_)
  · skip
    refine way_leaf claim_n5 ?_
    refine ⟨rfl, ?_⟩; simp only [E.den, EL.den, B.den, cop_lt, cop_le, cop_eq, cop_ne, iop_add, iop_sub, iop_mul, iop_max, iop_min, iop_quo, iop_rem, iop_fdiv, iop_shl, SV.den, SV.denL, SV.ubd, SV.ubdL, rho, List.getD_cons_zero, List.getD_cons_succ, decide_eq_true_eq, decide_eq_false_iff_not, Bool.not_eq_true', Bool.not_eq_false', Bool.and_eq_true, true_and] at *; (try simp only [G, xG60, xG62, xG63, xG64, xG67] at *); congr 1; rw [claim_alt]; unfold Ed.ok Ed.cross; dsimp only; (repeat' split) <;> first | rfl | (exfalso; omega) | contradiction | (simp_all; done)
  refine way_need claim_n6 (fun h3 => ?_) (fun h3 => ?_)
  · skip
    refine way_leaf claim_n7 ?_
    refine ⟨rfl, ?_⟩; simp only [E.den, EL.den, B.den, cop_lt, cop_le, cop_eq, cop_ne, iop_add, iop_sub, iop_mul, iop_max, iop_min, iop_quo, iop_rem, iop_fdiv, iop_shl, SV.den, SV.denL, SV.ubd, SV.ubdL, rho, List.getD_cons_zero, List.getD_cons_succ, decide_eq_true_eq, decide_eq_false_iff_not, Bool.not_eq_true', Bool.not_eq_false', Bool.and_eq_true, true_and] at *; (try simp only [G, xG60, xG62, xG63, xG64, xG67] at *); congr 1; rw [claim_alt]; unfold Ed.ok Ed.cross; dsimp only; (repeat' split) <;> first | rfl | (exfalso; omega) | contradiction | (simp_all; done)
  refine way_need claim_n8 (fun h4 => ?_) (fun h4 => ?_)
  · skip
    refine way_leaf claim_n9 ?_
    refine ⟨rfl, ?_⟩; simp only [E.den, EL.den, B.den, cop_lt, cop_le, cop_eq, cop_ne, iop_add, iop_sub, iop_mul, iop_max, iop_min, iop_quo, iop_rem, iop_fdiv, iop_shl, SV.den, SV.denL, SV.ubd, SV.ubdL, rho, List.getD_cons_zero, List.getD_cons_succ, decide_eq_true_eq, decide_eq_false_iff_not, Bool.not_eq_true', Bool.not_eq_false', Bool.and_eq_true, true_and] at *; (try simp only [G, xG60, xG62, xG63, xG64, xG67] at *); congr 1; rw [claim_alt]; unfold Ed.ok Ed.cross; dsimp only; (repeat' split) <;> first | rfl | (exfalso; omega) | contradiction | (simp_all; done)
  refine way_need claim_n10 (fun h5 => ?_) (fun h5 => ?_)
  · skip
    refine way_leaf claim_n11 ?_
    refine ⟨rfl, ?_⟩; simp only [E.den, EL.den, B.den, cop_lt, cop_le, cop_eq, cop_ne, iop_add, iop_sub, iop_mul, iop_max, iop_min, iop_quo, iop_rem, iop_fdiv, iop_shl, SV.den, SV.denL, SV.ubd, SV.ubdL, rho, List.getD_cons_zero, List.getD_cons_succ, decide_eq_true_eq, decide_eq_false_iff_not, Bool.not_eq_true', Bool.not_eq_false', Bool.and_eq_true, true_and] at *; (try simp only [G, xG60, xG62, xG63, xG64, xG67] at *); congr 1; rw [claim_alt]; unfold Ed.ok Ed.cross; dsimp only; (repeat' split) <;> first | rfl | (exfalso; omega) | contradiction | (simp_all; done)
  refine way_need claim_n12 (fun h6 => ?_) (fun h6 => ?_)
  · skip
    refine way_leaf claim_n13 ?_
    refine ⟨rfl, ?_⟩; simp only [E.den, EL.den, B.den, cop_lt, cop_le, cop_eq, cop_ne, iop_add, iop_sub, iop_mul, iop_max, iop_min, iop_quo, iop_rem, iop_fdiv, iop_shl, SV.den, SV.denL, SV.ubd, SV.ubdL, rho, List.getD_cons_zero, List.getD_cons_succ, decide_eq_true_eq, decide_eq_false_iff_not, Bool.not_eq_true', Bool.not_eq_false', Bool.and_eq_true, true_and] at *; (try simp only [G, xG60, xG62, xG63, xG64, xG67] at *); congr 1; rw [claim_alt]; unfold Ed.ok Ed.cross; dsimp only; (repeat' split) <;> first | rfl | (exfalso; omega) | contradiction | (simp_all; done)
  refine way_need claim_n14 (fun h7 => ?_) (fun h7 => ?_)
  · skip
    refine way_leaf claim_n15 ?_
    refine ⟨rfl, ?_⟩; simp only [E.den, EL.den, B.den, cop_lt, cop_le, cop_eq, cop_ne, iop_add, iop_sub, iop_mul, iop_max, iop_min, iop_quo, iop_rem, iop_fdiv, iop_shl, SV.den, SV.denL, SV.ubd, SV.ubdL, rho, List.getD_cons_zero, List.getD_cons_succ, decide_eq_true_eq, decide_eq_false_iff_not, Bool.not_eq_true', Bool.not_eq_false', Bool.and_eq_true, true_and] at *; (try simp only [G, xG60, xG62, xG63, xG64, xG67] at *); congr 1; rw [claim_alt]; unfold Ed.ok Ed.cross; dsimp only; (repeat' split) <;> first | rfl | (exfalso; omega) | contradiction | (simp_all; done)
  refine way_need claim_n16 (fun h8 => ?_) (fun h8 => ?_)
  · skip
    refine way_leaf claim_n17 ?_
    refine ⟨rfl, ?_⟩; simp only [E.den, EL.den, B.den, cop_lt, cop_le, cop_eq, cop_ne, iop_add, iop_sub, iop_mul, iop_max, iop_min, iop_quo, iop_rem, iop_fdiv, iop_shl, SV.den, SV.denL, SV.ubd, SV.ubdL, rho, List.getD_cons_zero, List.getD_cons_succ, decide_eq_true_eq, decide_eq_false_iff_not, Bool.not_eq_true', Bool.not_eq_false', Bool.and_eq_true, true_and] at *; (try simp only [G, xG60, xG62, xG63, xG64, xG67] at *); congr 1; rw [claim_alt]; unfold Ed.ok Ed.cross; dsimp only; (repeat' split) <;> first | rfl | (exfalso; omega) | contradiction | (simp_all; done)
  refine way_need claim_n18 (fun h9 => ?_) (fun h9 => ?_)
  · skip
    refine way_leaf claim_n19 ?_
    refine ⟨rfl, ?_⟩; simp only [E.den, EL.den, B.den, cop_lt, cop_le, cop_eq, cop_ne, iop_add, iop_sub, iop_mul, iop_max, iop_min, iop_quo, iop_rem, iop_fdiv, iop_shl, SV.den, SV.denL, SV.ubd, SV.ubdL, rho, List.getD_cons_zero, List.getD_cons_succ, decide_eq_true_eq, decide_eq_false_iff_not, Bool.not_eq_true', Bool.not_eq_false', Bool.and_eq_true, true_and] at *; (try simp only [G, xG60, xG62, xG63, xG64, xG67] at *); congr 1; rw [claim_alt]; unfold Ed.ok Ed.cross; dsimp only; (repeat' split) <;> first | rfl | (exfalso; omega) | contradiction | (simp_all; done)
  refine way_need claim_n20 (fun h10 => ?_) (fun h10 => ?_)
  · skip
    refine way_leaf claim_n21 ?_
    refine ⟨rfl, ?_⟩; simp only [E.den, EL.den, B.den, cop_lt, cop_le, cop_eq, cop_ne, iop_add, iop_sub, iop_mul, iop_max, iop_min, iop_quo, iop_rem, iop_fdiv, iop_shl, SV.den, SV.denL, SV.ubd, SV.ubdL, rho, List.getD_cons_zero, List.getD_cons_succ, decide_eq_true_eq, decide_eq_false_iff_not, Bool.not_eq_true', Bool.not_eq_false', Bool.and_eq_true, true_and] at *; (try simp only [G, xG60, xG62, xG63, xG64, xG67] at *); congr 1; rw [claim_alt]; unfold Ed.ok Ed.cross; dsimp only; (repeat' split) <;> first | rfl | (exfalso; omega) | contradiction | (simp_all; done)
  refine way_need claim_n22 (fun h11 => ?_) (fun h11 => ?_)
  · skip
    refine way_leaf claim_n23 ?_
    refine ⟨rfl, ?_⟩; simp only [E.den, EL.den, B.den, cop_lt, cop_le, cop_eq, cop_ne, iop_add, iop_sub, iop_mul, iop_max, iop_min, iop_quo, iop_rem, iop_fdiv, iop_shl, SV.den, SV.denL, SV.ubd, SV.ubdL, rho, List.getD_cons_zero, List.getD_cons_succ, decide_eq_true_eq, decide_eq_false_iff_not, Bool.not_eq_true', Bool.not_eq_false', Bool.and_eq_true, true_and] at *; (try simp only [G, xG60, xG62, xG63, xG64, xG67] at *); congr 1; rw [claim_alt]; unfold Ed.ok Ed.cross; dsimp only; (repeat' split) <;> first | rfl | (exfalso; omega) | contradiction | (simp_all; done)
  refine way_leaf claim_n24 ?_
  refine ⟨rfl, ?_⟩; simp only [E.den, EL.den, B.den, cop_lt, cop_le, cop_eq, cop_ne, iop_add, iop_sub, iop_mul, iop_max, iop_min, iop_quo, iop_rem, iop_fdiv, iop_shl, SV.den, SV.denL, SV.ubd, SV.ubdL, rho, List.getD_cons_zero, List.getD_cons_succ, decide_eq_true_eq, decide_eq_false_iff_not, Bool.not_eq_true', Bool.not_eq_false', Bool.and_eq_true, true_and] at *; (try simp only [G, xG60, xG62, xG63, xG64, xG67] at *); congr 1; rw [claim_alt]; unfold Ed.ok Ed.cross; dsimp only; (repeat' split) <;> first | rfl | (exfalso; omega) | contradiction | (simp_all; done)
def claim_entry : Entry := fun X args =>
  match args with
  | [(.agg [.int .i64 a0, .int .i64 a1, .int .i64 a2, .int .i64 a3, .int .i64 a4, .int .i64 a5]), (.agg [.int .i64 a6, .int .i64 a7])] => if a0.fits X .i64 && a1.fits X .i64 && a2.fits X .i64 && a3.fits X .i64 && a4.fits X .i64 && a5.fits X .i64 && a6.fits X .i64 && a7.fits X .i64 then .ok (.int .i64 (.app 63 (.cons a0 (.cons a1 (.cons a2 (.cons a3 (.cons a4 (.cons a5 (.cons a6 (.cons a7 .nil)))))))))) else .fail 200
  | _ => .fail 201
theorem claim_ok {X : Ctx} {ρ : Nat → Int} (hX : X.Ok ρ) (hG : X.G = G) : EntryOk Try.prog X ρ GB 13 claim_entry := by
  obtain ⟨XG, XI, XV, XF⟩ := X
  simp only at hG
  subst hG
  intro args s h α w vals hv hw
  unfold claim_entry at h
  split at h
  · split at h
    · rename_i hg
      try simp only [Bool.and_eq_true] at hg
      obtain ⟨⟨⟨⟨⟨⟨⟨g0, g1⟩, g2⟩, g3⟩, g4⟩, g5⟩, g6⟩, g7⟩ := hg
      cases h
      exact entry_calls hv rfl rfl (claim_any _ _ _ _ _ _ _ _ (E.fits_in hX g0) (E.fits_in hX g1) (E.fits_in hX g2) (E.fits_in hX g3) (E.fits_in hX g4) (E.fits_in hX g5) (E.fits_in hX g6) (E.fits_in hX g7) w hw)
    · cases h
  · cases h
set_option maxRecDepth 100000 in
theorem wt_any (x0 x1 x2 x3 x4 x5 x6 x7 : Int) (b0 : (-9223372036854775808) ≤ x0 ∧ x0 ≤ 9223372036854775807) (b1 : (-9223372036854775808) ≤ x1 ∧ x1 ≤ 9223372036854775807) (b2 : (-9223372036854775808) ≤ x2 ∧ x2 ≤ 9223372036854775807) (b3 : (-9223372036854775808) ≤ x3 ∧ x3 ≤ 9223372036854775807) (b4 : (-9223372036854775808) ≤ x4 ∧ x4 ≤ 9223372036854775807) (b5 : (-9223372036854775808) ≤ x5 ∧ x5 ≤ 9223372036854775807) (b6 : (-9223372036854775808) ≤ x6 ∧ x6 ≤ 9223372036854775807) (b7 : (-9223372036854775808) ≤ x7 ∧ x7 ≤ 9223372036854775807) (w : World) (hw : WOk GB w) : Known Try.prog 16 ∧ Calls Try.prog 16 #[(.agg #[.int .i64 x0, .int .i64 x1, .int .i64 x2, .int .i64 x3, .int .i64 x4, .int .i64 x5]), (.agg #[.int .i64 x6, .int .i64 x7])] w (fun e w' => e = .returned (.agg #[.int .i64 (xG64 0 [x0, x1, x2, x3, x4, x5, x6, x7]), .int .i64 (xG64 1 [x0, x1, x2, x3, x4, x5, x6, x7]), .int .i64 (xG64 2 [x0, x1, x2, x3, x4, x5, x6, x7])]) ∧ Below w.heap.size w w') := by
  refine calls_eq (way_calls3 (ρ := rho [x0, x1, x2, x3, x4, x5, x6, x7]) (run := fun fs => wt_R Try.prog fs) (fun _ => rfl) fits (within_get ⟨b0, b1, b2, b3, b4, b5, b6, b7, trivial⟩) gi_ok (fun X hX hG => ct_sd_ok hX hG) rfl rfl gbApart_nil ?_ w hw)
  refine way_need wt_n0 (fun h0 => ?_) (fun h0 => ?_)
  · skip
    refine way_leaf wt_n1 ?_
    refine ⟨rfl, ?_⟩; simp only [E.den, EL.den, B.den, cop_lt, cop_le, cop_eq, cop_ne, iop_add, iop_sub, iop_mul, iop_max, iop_min, iop_quo, iop_rem, iop_fdiv, iop_shl, SV.den, SV.denL, SV.ubd, SV.ubdL, rho, List.getD_cons_zero, List.getD_cons_succ, decide_eq_true_eq, decide_eq_false_iff_not, Bool.not_eq_true', Bool.not_eq_false', Bool.and_eq_true, true_and] at *; (try simp only [G, xG60, xG62, xG63, xG64, xG67] at *); first | (have hk : ¬ okAt ⟨x0, x1⟩ ⟨x2, x3⟩ ⟨x4, x5⟩ ⟨x6, x7⟩ := (by unfold okAt Ed.ok; dsimp only; omega); simp only [wt, if_neg hk]) | (have hk : okAt ⟨x0, x1⟩ ⟨x2, x3⟩ ⟨x4, x5⟩ ⟨x6, x7⟩ := (by unfold okAt Ed.ok; dsimp only; omega); simp only [wt, if_pos hk, Ed.cross]; rfl)
  refine way_need wt_n2 (fun h1 => ?_) (fun h1 => ?_)
  · skip
    refine way_leaf wt_n3 ?_
    refine ⟨rfl, ?_⟩; simp only [E.den, EL.den, B.den, cop_lt, cop_le, cop_eq, cop_ne, iop_add, iop_sub, iop_mul, iop_max, iop_min, iop_quo, iop_rem, iop_fdiv, iop_shl, SV.den, SV.denL, SV.ubd, SV.ubdL, rho, List.getD_cons_zero, List.getD_cons_succ, decide_eq_true_eq, decide_eq_false_iff_not, Bool.not_eq_true', Bool.not_eq_false', Bool.and_eq_true, true_and] at *; (try simp only [G, xG60, xG62, xG63, xG64, xG67] at *); first | (have hk : ¬ okAt ⟨x0, x1⟩ ⟨x2, x3⟩ ⟨x4, x5⟩ ⟨x6, x7⟩ := (by unfold okAt Ed.ok; dsimp only; omega); simp only [wt, if_neg hk]) | (have hk : okAt ⟨x0, x1⟩ ⟨x2, x3⟩ ⟨x4, x5⟩ ⟨x6, x7⟩ := (by unfold okAt Ed.ok; dsimp only; omega); simp only [wt, if_pos hk, Ed.cross]; rfl)
  refine way_need wt_n4 (fun h2 => ?_) (fun h2 => ?_)
  · skip
    refine way_leaf wt_n5 ?_
    refine ⟨rfl, ?_⟩; simp only [E.den, EL.den, B.den, cop_lt, cop_le, cop_eq, cop_ne, iop_add, iop_sub, iop_mul, iop_max, iop_min, iop_quo, iop_rem, iop_fdiv, iop_shl, SV.den, SV.denL, SV.ubd, SV.ubdL, rho, List.getD_cons_zero, List.getD_cons_succ, decide_eq_true_eq, decide_eq_false_iff_not, Bool.not_eq_true', Bool.not_eq_false', Bool.and_eq_true, true_and] at *; (try simp only [G, xG60, xG62, xG63, xG64, xG67] at *); first | (have hk : ¬ okAt ⟨x0, x1⟩ ⟨x2, x3⟩ ⟨x4, x5⟩ ⟨x6, x7⟩ := (by unfold okAt Ed.ok; dsimp only; omega); simp only [wt, if_neg hk]) | (have hk : okAt ⟨x0, x1⟩ ⟨x2, x3⟩ ⟨x4, x5⟩ ⟨x6, x7⟩ := (by unfold okAt Ed.ok; dsimp only; omega); simp only [wt, if_pos hk, Ed.cross]; rfl)
  refine way_need wt_n6 (fun h3 => ?_) (fun h3 => ?_)
  · skip
    refine way_leaf wt_n7 ?_
    refine ⟨rfl, ?_⟩; simp only [E.den, EL.den, B.den, cop_lt, cop_le, cop_eq, cop_ne, iop_add, iop_sub, iop_mul, iop_max, iop_min, iop_quo, iop_rem, iop_fdiv, iop_shl, SV.den, SV.denL, SV.ubd, SV.ubdL, rho, List.getD_cons_zero, List.getD_cons_succ, decide_eq_true_eq, decide_eq_false_iff_not, Bool.not_eq_true', Bool.not_eq_false', Bool.and_eq_true, true_and] at *; (try simp only [G, xG60, xG62, xG63, xG64, xG67] at *); first | (have hk : ¬ okAt ⟨x0, x1⟩ ⟨x2, x3⟩ ⟨x4, x5⟩ ⟨x6, x7⟩ := (by unfold okAt Ed.ok; dsimp only; omega); simp only [wt, if_neg hk]) | (have hk : okAt ⟨x0, x1⟩ ⟨x2, x3⟩ ⟨x4, x5⟩ ⟨x6, x7⟩ := (by unfold okAt Ed.ok; dsimp only; omega); simp only [wt, if_pos hk, Ed.cross]; rfl)
  refine way_need wt_n8 (fun h4 => ?_) (fun h4 => ?_)
  · skip
    refine way_leaf wt_n9 ?_
    refine ⟨rfl, ?_⟩; simp only [E.den, EL.den, B.den, cop_lt, cop_le, cop_eq, cop_ne, iop_add, iop_sub, iop_mul, iop_max, iop_min, iop_quo, iop_rem, iop_fdiv, iop_shl, SV.den, SV.denL, SV.ubd, SV.ubdL, rho, List.getD_cons_zero, List.getD_cons_succ, decide_eq_true_eq, decide_eq_false_iff_not, Bool.not_eq_true', Bool.not_eq_false', Bool.and_eq_true, true_and] at *; (try simp only [G, xG60, xG62, xG63, xG64, xG67] at *); first | (have hk : ¬ okAt ⟨x0, x1⟩ ⟨x2, x3⟩ ⟨x4, x5⟩ ⟨x6, x7⟩ := (by unfold okAt Ed.ok; dsimp only; omega); simp only [wt, if_neg hk]) | (have hk : okAt ⟨x0, x1⟩ ⟨x2, x3⟩ ⟨x4, x5⟩ ⟨x6, x7⟩ := (by unfold okAt Ed.ok; dsimp only; omega); simp only [wt, if_pos hk, Ed.cross]; rfl)
  refine way_need wt_n10 (fun h5 => ?_) (fun h5 => ?_)
  · skip
    refine way_leaf wt_n11 ?_
    refine ⟨rfl, ?_⟩; simp only [E.den, EL.den, B.den, cop_lt, cop_le, cop_eq, cop_ne, iop_add, iop_sub, iop_mul, iop_max, iop_min, iop_quo, iop_rem, iop_fdiv, iop_shl, SV.den, SV.denL, SV.ubd, SV.ubdL, rho, List.getD_cons_zero, List.getD_cons_succ, decide_eq_true_eq, decide_eq_false_iff_not, Bool.not_eq_true', Bool.not_eq_false', Bool.and_eq_true, true_and] at *; (try simp only [G, xG60, xG62, xG63, xG64, xG67] at *); first | (have hk : ¬ okAt ⟨x0, x1⟩ ⟨x2, x3⟩ ⟨x4, x5⟩ ⟨x6, x7⟩ := (by unfold okAt Ed.ok; dsimp only; omega); simp only [wt, if_neg hk]) | (have hk : okAt ⟨x0, x1⟩ ⟨x2, x3⟩ ⟨x4, x5⟩ ⟨x6, x7⟩ := (by unfold okAt Ed.ok; dsimp only; omega); simp only [wt, if_pos hk, Ed.cross]; rfl)
  refine way_need wt_n12 (fun h6 => ?_) (fun h6 => ?_)
  · skip
    refine way_leaf wt_n13 ?_
    refine ⟨rfl, ?_⟩; simp only [E.den, EL.den, B.den, cop_lt, cop_le, cop_eq, cop_ne, iop_add, iop_sub, iop_mul, iop_max, iop_min, iop_quo, iop_rem, iop_fdiv, iop_shl, SV.den, SV.denL, SV.ubd, SV.ubdL, rho, List.getD_cons_zero, List.getD_cons_succ, decide_eq_true_eq, decide_eq_false_iff_not, Bool.not_eq_true', Bool.not_eq_false', Bool.and_eq_true, true_and] at *; (try simp only [G, xG60, xG62, xG63, xG64, xG67] at *); first | (have hk : ¬ okAt ⟨x0, x1⟩ ⟨x2, x3⟩ ⟨x4, x5⟩ ⟨x6, x7⟩ := (by unfold okAt Ed.ok; dsimp only; omega); simp only [wt, if_neg hk]) | (have hk : okAt ⟨x0, x1⟩ ⟨x2, x3⟩ ⟨x4, x5⟩ ⟨x6, x7⟩ := (by unfold okAt Ed.ok; dsimp only; omega); simp only [wt, if_pos hk, Ed.cross]; rfl)
  refine way_need wt_n14 (fun h7 => ?_) (fun h7 => ?_)
  · skip
    refine way_leaf wt_n15 ?_
    refine ⟨rfl, ?_⟩; simp only [E.den, EL.den, B.den, cop_lt, cop_le, cop_eq, cop_ne, iop_add, iop_sub, iop_mul, iop_max, iop_min, iop_quo, iop_rem, iop_fdiv, iop_shl, SV.den, SV.denL, SV.ubd, SV.ubdL, rho, List.getD_cons_zero, List.getD_cons_succ, decide_eq_true_eq, decide_eq_false_iff_not, Bool.not_eq_true', Bool.not_eq_false', Bool.and_eq_true, true_and] at *; (try simp only [G, xG60, xG62, xG63, xG64, xG67] at *); first | (have hk : ¬ okAt ⟨x0, x1⟩ ⟨x2, x3⟩ ⟨x4, x5⟩ ⟨x6, x7⟩ := (by unfold okAt Ed.ok; dsimp only; omega); simp only [wt, if_neg hk]) | (have hk : okAt ⟨x0, x1⟩ ⟨x2, x3⟩ ⟨x4, x5⟩ ⟨x6, x7⟩ := (by unfold okAt Ed.ok; dsimp only; omega); simp only [wt, if_pos hk, Ed.cross]; rfl)
  refine way_leaf wt_n16 ?_
  refine ⟨rfl, ?_⟩; simp only [E.den, EL.den, B.den, cop_lt, cop_le, cop_eq, cop_ne, iop_add, iop_sub, iop_mul, iop_max, iop_min, iop_quo, iop_rem, iop_fdiv, iop_shl, SV.den, SV.denL, SV.ubd, SV.ubdL, rho, List.getD_cons_zero, List.getD_cons_succ, decide_eq_true_eq, decide_eq_false_iff_not, Bool.not_eq_true', Bool.not_eq_false', Bool.and_eq_true, true_and] at *; (try simp only [G, xG60, xG62, xG63, xG64, xG67] at *); first | (have hk : ¬ okAt ⟨x0, x1⟩ ⟨x2, x3⟩ ⟨x4, x5⟩ ⟨x6, x7⟩ := (by unfold okAt Ed.ok; dsimp only; omega); simp only [wt, if_neg hk]) | (have hk : okAt ⟨x0, x1⟩ ⟨x2, x3⟩ ⟨x4, x5⟩ ⟨x6, x7⟩ := (by unfold okAt Ed.ok; dsimp only; omega); simp only [wt, if_pos hk, Ed.cross]; rfl)
def wt_entry : Entry := fun X args =>
  match args with
  | [(.agg [.int .i64 a0, .int .i64 a1, .int .i64 a2, .int .i64 a3, .int .i64 a4, .int .i64 a5]), (.agg [.int .i64 a6, .int .i64 a7])] => if a0.fits X .i64 && a1.fits X .i64 && a2.fits X .i64 && a3.fits X .i64 && a4.fits X .i64 && a5.fits X .i64 && a6.fits X .i64 && a7.fits X .i64 then .ok (.agg [.int .i64 (.app 64 (.cons a0 (.cons a1 (.cons a2 (.cons a3 (.cons a4 (.cons a5 (.cons a6 (.cons a7 .nil))))))))), .int .i64 (.app 65 (.cons a0 (.cons a1 (.cons a2 (.cons a3 (.cons a4 (.cons a5 (.cons a6 (.cons a7 .nil))))))))), .int .i64 (.app 66 (.cons a0 (.cons a1 (.cons a2 (.cons a3 (.cons a4 (.cons a5 (.cons a6 (.cons a7 .nil)))))))))]) else .fail 200
  | _ => .fail 201
theorem wt_ok {X : Ctx} {ρ : Nat → Int} (hX : X.Ok ρ) (hG : X.G = G) : EntryOk Try.prog X ρ GB 16 wt_entry := by
  obtain ⟨XG, XI, XV, XF⟩ := X
  simp only at hG
  subst hG
  intro args s h α w vals hv hw
  unfold wt_entry at h
  split at h
  · split at h
    · rename_i hg
      try simp only [Bool.and_eq_true] at hg
      obtain ⟨⟨⟨⟨⟨⟨⟨g0, g1⟩, g2⟩, g3⟩, g4⟩, g5⟩, g6⟩, g7⟩ := hg
      cases h
      exact entry_calls hv rfl rfl (wt_any _ _ _ _ _ _ _ _ (E.fits_in hX g0) (E.fits_in hX g1) (E.fits_in hX g2) (E.fits_in hX g3) (E.fits_in hX g4) (E.fits_in hX g5) (E.fits_in hX g6) (E.fits_in hX g7) w hw)
    · cases h
  · cases h
def ct_claim : Contracts := ctCons 13 claim_entry ct_sd
theorem ct_claim_ok {X : Ctx} {ρ : Nat → Int} (hX : X.Ok ρ) (hG : X.G = G) : CtOk Try.prog X ρ GB ct_claim := ctCons_ok (claim_ok hX hG) (ct_sd_ok hX hG)
def ct_wt : Contracts := ctCons 16 wt_entry ct_claim
theorem ct_wt_ok {X : Ctx} {ρ : Nat → Int} (hX : X.Ok ρ) (hG : X.G = G) : CtOk Try.prog X ρ GB ct_wt := ctCons_ok (wt_ok hX hG) (ct_claim_ok hX hG)
end Go.Proofs.Ytoiecphddchknaa
