/- What is proved: what functions of this program return: each over all its ways. The conditions are the numbers' own bounds. -/
import Derived.Test.YtnhhphdhkgjbhaaQg4
import Derived.Test.YtnhhphdhkgjbhaaQg10
import Derived.Test.YtnhhphdhkgjbhaaQCa
import Derived.Test.YtnhhphdhkgjbhaaQBr
import Derived.Test.YtnhhphdhkgjbhaaQg2
import Derived.Test.YtnhhphdhkgjbhaaProg
import Derived.Test.YtnhhphdhkgjbhaaQNredge0
set_option linter.unusedSimpArgs false
set_option linter.unusedVariables false
namespace Go.Proofs.Ytnhhphdhkgjbhaa
open Go Go.RowKit Sx Wi
set_option maxHeartbeats 40000000 in
set_option maxRecDepth 100000 in
theorem redge_any (x0 x1 x2 x3 x4 x5 x6 x7 x8 x9 : Int) (b0 : (-9223372036854775808) ≤ x0 ∧ x0 ≤ 9223372036854775807) (b1 : (-9223372036854775808) ≤ x1 ∧ x1 ≤ 9223372036854775807) (b2 : (-9223372036854775808) ≤ x2 ∧ x2 ≤ 9223372036854775807) (b3 : (-9223372036854775808) ≤ x3 ∧ x3 ≤ 9223372036854775807) (b4 : (-9223372036854775808) ≤ x4 ∧ x4 ≤ 9223372036854775807) (b5 : (-9223372036854775808) ≤ x5 ∧ x5 ≤ 9223372036854775807) (b6 : (-9223372036854775808) ≤ x6 ∧ x6 ≤ 9223372036854775807) (b7 : (-9223372036854775808) ≤ x7 ∧ x7 ≤ 9223372036854775807) (b8 : (-9223372036854775808) ≤ x8 ∧ x8 ≤ 9223372036854775807) (b9 : (-9223372036854775808) ≤ x9 ∧ x9 ≤ 9223372036854775807) (w : World) (hw : WOk GB w) : Known Try.prog 11 ∧ Calls Try.prog 11 #[(.agg #[.int .i64 x0, .int .i64 x1, .int .i64 x2, .int .i64 x3, .int .i64 x4, .int .i64 x5, .int .i64 x6, .int .i64 x7]), .int .i64 x8, .int .i64 x9] w (fun e w' => e = .returned (if eOk2 x0 x1 x2 x3 x4 x5 x6 x7 x8 x9 then .tuple #[.agg #[.int .i64 (eX x0 x2 x4 x6 x8 x9), .int .i64 (eX x1 x3 x5 x7 x8 x9)], .int .i64 0] else .tuple #[.agg #[.int .i64 0, .int .i64 0], .int .i64 1]) ∧ Below w.heap.size w w') := by
  refine calls_eq (way_calls3 (ρ := rho [x0, x1, x2, x3, x4, x5, x6, x7, x8, x9]) (run := fun fs => withCtx G GI [((-9223372036854775808), 9223372036854775807), ((-9223372036854775808), 9223372036854775807), ((-9223372036854775808), 9223372036854775807), ((-9223372036854775808), 9223372036854775807), ((-9223372036854775808), 9223372036854775807), ((-9223372036854775808), 9223372036854775807), ((-9223372036854775808), 9223372036854775807), ((-9223372036854775808), 9223372036854775807), ((-9223372036854775808), 9223372036854775807), ((-9223372036854775808), 9223372036854775807)] fs (fun X => exFun Try.prog X GB ct_mulc 6000 11 [(.agg [(.int .i64 (.var 0)), (.int .i64 (.var 1)), (.int .i64 (.var 2)), (.int .i64 (.var 3)), (.int .i64 (.var 4)), (.int .i64 (.var 5)), (.int .i64 (.var 6)), (.int .i64 (.var 7))]), (.int .i64 (.var 8)), (.int .i64 (.var 9))])) (fun _ => rfl) (by kernel_rfl) (within_get ⟨b0, b1, b2, b3, b4, b5, b6, b7, b8, b9, trivial⟩) gi_ok (fun X hX hG => ct_mulc_ok hX hG) rfl rfl gbApart_nil ?_ w hw)
  refine way_cut (.cmp .le (.lit 0) (.var 9)) (fun h0 => ?_) (fun h0 => ?_)
  · skip
    refine way_cut (.cmp .le (.var 9) (.lit 6)) (fun h1 => ?_) (fun h1 => ?_)
    · skip
      refine way_cut (.cmp .le (.lit 0) (.var 8)) (fun h2 => ?_) (fun h2 => ?_)
      · skip
        refine way_cut (.cmp .lt (.op .shl (.lit 1) (.var 9)) (.var 8)) (fun h3 => ?_) (fun h3 => ?_)
        · skip
          refine way_leaf redge_n4 ?_
          refine ⟨rfl, ?_⟩; simp only [nm, xG10, xG11] at *; (try simp only [show ∀ k : Int, 1 * 2 ^ k.toNat = p2 k from fun _ => rfl] at *); (try simp only [Int.not_lt, Int.not_le, Int.max_le, Int.le_min] at *); rw [if_neg (by unfold eOk2 far; (try simp only [IntKind.wrap_i64] at *); omega)] <;> rfl
        · skip
          refine way_cut (.cmp .le (.var 0) (.lit 1099511627776)) (fun h4 => ?_) (fun h4 => ?_)
          · skip
            refine way_cut (.cmp .le (.lit (-1099511627776)) (.var 0)) (fun h5 => ?_) (fun h5 => ?_)
            · skip
              refine way_cut (.cmp .le (.var 1) (.lit 1099511627776)) (fun h6 => ?_) (fun h6 => ?_)
              · skip
                refine way_cut (.cmp .lt (.var 1) (.lit (-1099511627776))) (fun h7 => ?_) (fun h7 => ?_)
                · skip
                  refine way_leaf redge_n9 ?_
                  refine ⟨rfl, ?_⟩; simp only [nm, xG10, xG11] at *; (try simp only [show ∀ k : Int, 1 * 2 ^ k.toNat = p2 k from fun _ => rfl] at *); (try simp only [Int.not_lt, Int.not_le, Int.max_le, Int.le_min] at *); rw [if_neg (by unfold eOk2 far; (try simp only [IntKind.wrap_i64] at *); omega)] <;> rfl
                · skip
                  refine way_cut (.cmp .le (.var 2) (.lit 1099511627776)) (fun h8 => ?_) (fun h8 => ?_)
                  · skip
                    refine way_cut (.cmp .le (.lit (-1099511627776)) (.var 2)) (fun h9 => ?_) (fun h9 => ?_)
                    · skip
                      refine way_cut (.cmp .le (.var 3) (.lit 1099511627776)) (fun h10 => ?_) (fun h10 => ?_)
                      · skip
                        refine way_cut (.cmp .lt (.var 3) (.lit (-1099511627776))) (fun h11 => ?_) (fun h11 => ?_)
                        · skip
                          refine way_leaf redge_n14 ?_
                          refine ⟨rfl, ?_⟩; simp only [nm, xG10, xG11] at *; (try simp only [show ∀ k : Int, 1 * 2 ^ k.toNat = p2 k from fun _ => rfl] at *); (try simp only [Int.not_lt, Int.not_le, Int.max_le, Int.le_min] at *); rw [if_neg (by unfold eOk2 far; (try simp only [IntKind.wrap_i64] at *); omega)] <;> rfl
                        · skip
                          refine way_cut (.cmp .le (.var 4) (.lit 1099511627776)) (fun h12 => ?_) (fun h12 => ?_)
                          · skip
                            refine way_cut (.cmp .le (.lit (-1099511627776)) (.var 4)) (fun h13 => ?_) (fun h13 => ?_)
                            · skip
                              refine way_cut (.cmp .le (.var 5) (.lit 1099511627776)) (fun h14 => ?_) (fun h14 => ?_)
                              · skip
                                refine way_cut (.cmp .lt (.var 5) (.lit (-1099511627776))) (fun h15 => ?_) (fun h15 => ?_)
                                · skip
                                  refine way_leaf redge_n19 ?_
                                  refine ⟨rfl, ?_⟩; simp only [nm, xG10, xG11] at *; (try simp only [show ∀ k : Int, 1 * 2 ^ k.toNat = p2 k from fun _ => rfl] at *); (try simp only [Int.not_lt, Int.not_le, Int.max_le, Int.le_min] at *); rw [if_neg (by unfold eOk2 far; (try simp only [IntKind.wrap_i64] at *); omega)] <;> rfl
                                · skip
                                  refine way_cut (.cmp .le (.var 6) (.lit 1099511627776)) (fun h16 => ?_) (fun h16 => ?_)
                                  · skip
                                    refine way_cut (.cmp .le (.lit (-1099511627776)) (.var 6)) (fun h17 => ?_) (fun h17 => ?_)
                                    · skip
                                      refine way_cut (.cmp .le (.var 7) (.lit 1099511627776)) (fun h18 => ?_) (fun h18 => ?_)
                                      · skip
                                        refine way_cut (.cmp .lt (.var 7) (.lit (-1099511627776))) (fun h19 => ?_) (fun h19 => ?_)
                                        · skip
                                          refine way_leaf redge_n24 ?_
                                          refine ⟨rfl, ?_⟩; simp only [nm, xG10, xG11] at *; (try simp only [show ∀ k : Int, 1 * 2 ^ k.toNat = p2 k from fun _ => rfl] at *); (try simp only [Int.not_lt, Int.not_le, Int.max_le, Int.le_min] at *); rw [if_neg (by unfold eOk2 far; (try simp only [IntKind.wrap_i64] at *); omega)] <;> rfl
                                        · skip
                                          refine way_leaf redge_n25 ?_
                                          refine ⟨rfl, ?_⟩; simp only [nm, xG10, xG11] at *; (try simp only [show ∀ k : Int, 1 * 2 ^ k.toNat = p2 k from fun _ => rfl] at *); (try simp only [Int.not_lt, Int.not_le, Int.max_le, Int.le_min] at *); have hk : eOk2 x0 x1 x2 x3 x4 x5 x6 x7 x8 x9 := (by unfold eOk2 far; refine ⟨⟨?_, ?_⟩, ⟨?_, ?_⟩, ⟨?_, ?_⟩, ⟨?_, ?_⟩, ⟨?_, ?_⟩, ⟨?_, ?_⟩, ⟨?_, ?_⟩, ⟨?_, ?_⟩, ⟨?_, ?_⟩, ⟨?_, ?_⟩⟩ <;> omega); rw [if_pos hk, eX_any (eOk2_x hk) (by (unfold Bz.sum Bz.w0 Bz.w1 Bz.w2 Bz.w3; grind)) rfl, eX_any (eOk2_y hk) (by (unfold Bz.sum Bz.w0 Bz.w1 Bz.w2 Bz.w3; grind)) rfl]
                                      · skip
                                        refine way_leaf redge_n26 ?_
                                        refine ⟨rfl, ?_⟩; simp only [nm, xG10, xG11] at *; (try simp only [show ∀ k : Int, 1 * 2 ^ k.toNat = p2 k from fun _ => rfl] at *); (try simp only [Int.not_lt, Int.not_le, Int.max_le, Int.le_min] at *); rw [if_neg (by unfold eOk2 far; (try simp only [IntKind.wrap_i64] at *); omega)] <;> rfl
                                    · skip
                                      refine way_leaf redge_n27 ?_
                                      refine ⟨rfl, ?_⟩; simp only [nm, xG10, xG11] at *; (try simp only [show ∀ k : Int, 1 * 2 ^ k.toNat = p2 k from fun _ => rfl] at *); (try simp only [Int.not_lt, Int.not_le, Int.max_le, Int.le_min] at *); rw [if_neg (by unfold eOk2 far; (try simp only [IntKind.wrap_i64] at *); omega)] <;> rfl
                                  · skip
                                    refine way_leaf redge_n28 ?_
                                    refine ⟨rfl, ?_⟩; simp only [nm, xG10, xG11] at *; (try simp only [show ∀ k : Int, 1 * 2 ^ k.toNat = p2 k from fun _ => rfl] at *); (try simp only [Int.not_lt, Int.not_le, Int.max_le, Int.le_min] at *); rw [if_neg (by unfold eOk2 far; (try simp only [IntKind.wrap_i64] at *); omega)] <;> rfl
                              · skip
                                refine way_leaf redge_n29 ?_
                                refine ⟨rfl, ?_⟩; simp only [nm, xG10, xG11] at *; (try simp only [show ∀ k : Int, 1 * 2 ^ k.toNat = p2 k from fun _ => rfl] at *); (try simp only [Int.not_lt, Int.not_le, Int.max_le, Int.le_min] at *); rw [if_neg (by unfold eOk2 far; (try simp only [IntKind.wrap_i64] at *); omega)] <;> rfl
                            · skip
                              refine way_leaf redge_n30 ?_
                              refine ⟨rfl, ?_⟩; simp only [nm, xG10, xG11] at *; (try simp only [show ∀ k : Int, 1 * 2 ^ k.toNat = p2 k from fun _ => rfl] at *); (try simp only [Int.not_lt, Int.not_le, Int.max_le, Int.le_min] at *); rw [if_neg (by unfold eOk2 far; (try simp only [IntKind.wrap_i64] at *); omega)] <;> rfl
                          · skip
                            refine way_leaf redge_n31 ?_
                            refine ⟨rfl, ?_⟩; simp only [nm, xG10, xG11] at *; (try simp only [show ∀ k : Int, 1 * 2 ^ k.toNat = p2 k from fun _ => rfl] at *); (try simp only [Int.not_lt, Int.not_le, Int.max_le, Int.le_min] at *); rw [if_neg (by unfold eOk2 far; (try simp only [IntKind.wrap_i64] at *); omega)] <;> rfl
                      · skip
                        refine way_leaf redge_n32 ?_
                        refine ⟨rfl, ?_⟩; simp only [nm, xG10, xG11] at *; (try simp only [show ∀ k : Int, 1 * 2 ^ k.toNat = p2 k from fun _ => rfl] at *); (try simp only [Int.not_lt, Int.not_le, Int.max_le, Int.le_min] at *); rw [if_neg (by unfold eOk2 far; (try simp only [IntKind.wrap_i64] at *); omega)] <;> rfl
                    · skip
                      refine way_leaf redge_n33 ?_
                      refine ⟨rfl, ?_⟩; simp only [nm, xG10, xG11] at *; (try simp only [show ∀ k : Int, 1 * 2 ^ k.toNat = p2 k from fun _ => rfl] at *); (try simp only [Int.not_lt, Int.not_le, Int.max_le, Int.le_min] at *); rw [if_neg (by unfold eOk2 far; (try simp only [IntKind.wrap_i64] at *); omega)] <;> rfl
                  · skip
                    refine way_leaf redge_n34 ?_
                    refine ⟨rfl, ?_⟩; simp only [nm, xG10, xG11] at *; (try simp only [show ∀ k : Int, 1 * 2 ^ k.toNat = p2 k from fun _ => rfl] at *); (try simp only [Int.not_lt, Int.not_le, Int.max_le, Int.le_min] at *); rw [if_neg (by unfold eOk2 far; (try simp only [IntKind.wrap_i64] at *); omega)] <;> rfl
              · skip
                refine way_leaf redge_n35 ?_
                refine ⟨rfl, ?_⟩; simp only [nm, xG10, xG11] at *; (try simp only [show ∀ k : Int, 1 * 2 ^ k.toNat = p2 k from fun _ => rfl] at *); (try simp only [Int.not_lt, Int.not_le, Int.max_le, Int.le_min] at *); rw [if_neg (by unfold eOk2 far; (try simp only [IntKind.wrap_i64] at *); omega)] <;> rfl
            · skip
              refine way_leaf redge_n36 ?_
              refine ⟨rfl, ?_⟩; simp only [nm, xG10, xG11] at *; (try simp only [show ∀ k : Int, 1 * 2 ^ k.toNat = p2 k from fun _ => rfl] at *); (try simp only [Int.not_lt, Int.not_le, Int.max_le, Int.le_min] at *); rw [if_neg (by unfold eOk2 far; (try simp only [IntKind.wrap_i64] at *); omega)] <;> rfl
          · skip
            refine way_leaf redge_n37 ?_
            refine ⟨rfl, ?_⟩; simp only [nm, xG10, xG11] at *; (try simp only [show ∀ k : Int, 1 * 2 ^ k.toNat = p2 k from fun _ => rfl] at *); (try simp only [Int.not_lt, Int.not_le, Int.max_le, Int.le_min] at *); rw [if_neg (by unfold eOk2 far; (try simp only [IntKind.wrap_i64] at *); omega)] <;> rfl
      · skip
        refine way_leaf redge_n38 ?_
        refine ⟨rfl, ?_⟩; simp only [nm, xG10, xG11] at *; (try simp only [show ∀ k : Int, 1 * 2 ^ k.toNat = p2 k from fun _ => rfl] at *); (try simp only [Int.not_lt, Int.not_le, Int.max_le, Int.le_min] at *); rw [if_neg (by unfold eOk2 far; (try simp only [IntKind.wrap_i64] at *); omega)] <;> rfl
    · skip
      refine way_leaf redge_n39 ?_
      refine ⟨rfl, ?_⟩; simp only [nm, xG10, xG11] at *; (try simp only [show ∀ k : Int, 1 * 2 ^ k.toNat = p2 k from fun _ => rfl] at *); (try simp only [Int.not_lt, Int.not_le, Int.max_le, Int.le_min] at *); rw [if_neg (by unfold eOk2 far; (try simp only [IntKind.wrap_i64] at *); omega)] <;> rfl
  · skip
    refine way_leaf redge_n40 ?_
    refine ⟨rfl, ?_⟩; simp only [nm, xG10, xG11] at *; (try simp only [show ∀ k : Int, 1 * 2 ^ k.toNat = p2 k from fun _ => rfl] at *); (try simp only [Int.not_lt, Int.not_le, Int.max_le, Int.le_min] at *); rw [if_neg (by unfold eOk2 far; (try simp only [IntKind.wrap_i64] at *); omega)] <;> rfl
theorem redge_iff {ρ : Nat → Int} {a0 a1 a2 a3 a4 a5 a6 a7 a8 a9 : E} : B.den G ρ ((.and (.cmp .le (.lit 0) a9) (.and (.cmp .le a9 (.lit 6)) (.and (.cmp .le (.lit 0) a8) (.and (.cmp .le a8 (.op .shl (.lit 1) a9)) (.and (.cmp .le (.lit (-1099511627776)) a0) (.and (.cmp .le a0 (.lit 1099511627776)) (.and (.cmp .le (.lit (-1099511627776)) a1) (.and (.cmp .le a1 (.lit 1099511627776)) (.and (.cmp .le (.lit (-1099511627776)) a2) (.and (.cmp .le a2 (.lit 1099511627776)) (.and (.cmp .le (.lit (-1099511627776)) a3) (.and (.cmp .le a3 (.lit 1099511627776)) (.and (.cmp .le (.lit (-1099511627776)) a4) (.and (.cmp .le a4 (.lit 1099511627776)) (.and (.cmp .le (.lit (-1099511627776)) a5) (.and (.cmp .le a5 (.lit 1099511627776)) (.and (.cmp .le (.lit (-1099511627776)) a6) (.and (.cmp .le a6 (.lit 1099511627776)) (.and (.cmp .le (.lit (-1099511627776)) a7) (.cmp .le a7 (.lit 1099511627776)))))))))))))))))))))) = true ↔ eOk2 (E.den G ρ a0) (E.den G ρ a1) (E.den G ρ a2) (E.den G ρ a3) (E.den G ρ a4) (E.den G ρ a5) (E.den G ρ a6) (E.den G ρ a7) (E.den G ρ a8) (E.den G ρ a9) := by
  simp only [B.den, cop_le, E.den, EL.den, iop_shl, Bool.and_eq_true, decide_eq_true_eq]; simp only [show ∀ k : Int, 1 * 2 ^ k.toNat = p2 k from fun _ => rfl]; unfold eOk2 far; simp only [and_assoc]
def redge_entry : Entry := fun X args =>
  match args with
  | [(.agg [.int .i64 a0, .int .i64 a1, .int .i64 a2, .int .i64 a3, .int .i64 a4, .int .i64 a5, .int .i64 a6, .int .i64 a7]), .int .i64 a8, .int .i64 a9] => if a0.fits X .i64 && a1.fits X .i64 && a2.fits X .i64 && a3.fits X .i64 && a4.fits X .i64 && a5.fits X .i64 && a6.fits X .i64 && a7.fits X .i64 && a8.fits X .i64 && a9.fits X .i64 then (Res.testW X ((.and (.cmp .le (.lit 0) a9) (.and (.cmp .le a9 (.lit 6)) (.and (.cmp .le (.lit 0) a8) (.and (.cmp .le a8 (.op .shl (.lit 1) a9)) (.and (.cmp .le (.lit (-1099511627776)) a0) (.and (.cmp .le a0 (.lit 1099511627776)) (.and (.cmp .le (.lit (-1099511627776)) a1) (.and (.cmp .le a1 (.lit 1099511627776)) (.and (.cmp .le (.lit (-1099511627776)) a2) (.and (.cmp .le a2 (.lit 1099511627776)) (.and (.cmp .le (.lit (-1099511627776)) a3) (.and (.cmp .le a3 (.lit 1099511627776)) (.and (.cmp .le (.lit (-1099511627776)) a4) (.and (.cmp .le a4 (.lit 1099511627776)) (.and (.cmp .le (.lit (-1099511627776)) a5) (.and (.cmp .le a5 (.lit 1099511627776)) (.and (.cmp .le (.lit (-1099511627776)) a6) (.and (.cmp .le a6 (.lit 1099511627776)) (.and (.cmp .le (.lit (-1099511627776)) a7) (.cmp .le a7 (.lit 1099511627776))))))))))))))))))))))).bind fun t => if t then .ok (.tuple [.agg [.int .i64 (.app 10 (.cons a0 (.cons a2 (.cons a4 (.cons a6 (.cons a8 (.cons a9 .nil))))))), .int .i64 (.app 10 (.cons a1 (.cons a3 (.cons a5 (.cons a7 (.cons a8 (.cons a9 .nil)))))))], .int .i64 (.lit 0)]) else .ok (.tuple [.agg [.int .i64 (.lit 0), .int .i64 (.lit 0)], .int .i64 (.lit 1)]) else .fail 200
  | _ => .fail 201
theorem redge_ok {X : Ctx} {ρ : Nat → Int} (hX : X.Ok ρ) (hG : X.G = G) : EntryOk Try.prog X ρ GB 11 redge_entry := by
  obtain ⟨XG, XI, XV, XF⟩ := X
  simp only at hG
  subst hG
  intro args s h α w vals hv hw
  unfold redge_entry at h
  split at h
  · split at h
    · rename_i hg
      try simp only [Bool.and_eq_true] at hg
      obtain ⟨⟨⟨⟨⟨⟨⟨⟨⟨g0, g1⟩, g2⟩, g3⟩, g4⟩, g5⟩, g6⟩, g7⟩, g8⟩, g9⟩ := hg
      obtain ⟨t, ht, h⟩ := Res.bind_ok h
      have ht := Res.testW_ok hX ht
      have k := redge_any _ _ _ _ _ _ _ _ _ _ (E.fits_in hX g0) (E.fits_in hX g1) (E.fits_in hX g2) (E.fits_in hX g3) (E.fits_in hX g4) (E.fits_in hX g5) (E.fits_in hX g6) (E.fits_in hX g7) (E.fits_in hX g8) (E.fits_in hX g9) w hw
      cases t with
      | true =>
        cases h
        rw [if_pos (redge_iff.1 ht)] at k
        exact entry_calls hv rfl rfl k
      | false =>
        cases h
        rw [if_neg (fun q => by have := redge_iff.2 q; rw [ht] at this; cases this)] at k
        exact entry_calls hv rfl rfl k
    · cases h
  · cases h
def ct_redge : Contracts := ctCons 11 redge_entry ct_edge
theorem ct_redge_ok {X : Ctx} {ρ : Nat → Int} (hX : X.Ok ρ) (hG : X.G = G) : CtOk Try.prog X ρ GB ct_redge := ctCons_ok (redge_ok hX hG) (ct_edge_ok hX hG)
end Go.Proofs.Ytnhhphdhkgjbhaa
