/- What is proved: what functions of this program return: each over all its ways. The conditions are the numbers' own bounds. -/
import Derived.Test.YtkpdiehbaiepaaaQNm
import Derived.Test.YtkpdiehbaiepaaaQg6
import Derived.Test.YtkpdiehbaiepaaaQg3
import Derived.Test.YtkpdiehbaiepaaaProg
import Derived.Test.YtkpdiehbaiepaaaQNlives0
import Derived.Test.YtkpdiehbaiepaaaQNedge0
set_option linter.unusedSimpArgs false
set_option linter.unusedVariables false
namespace Go.Proofs.Ytkpdiehbaiepaaa
open Go Go.RowKit Sx Wi
set_option maxRecDepth 100000 in
theorem lives_any   (w : World) (hw : WOk GB w) : Known Try.prog 14 ∧ Calls Try.prog 14 #[] w (fun e w' => e = .returned (.bool true) ∧ Below w.heap.size w w') := by
  refine calls_eq (way_calls3 (ρ := rho []) (run := fun fs => lives_R Try.prog fs) (fun _ => rfl) (by kernel_rfl) (within_get trivial) gi_ok (fun X hX hG => ct_w_ok hX hG) rfl rfl gbApart_nil ?_ w hw)
  refine way_leaf lives_n0 ?_
  exact ⟨rfl, rfl⟩
def lives_entry : Entry := fun _ args =>
  match args with
  | [] => .ok (.bool (.lit true))
  | _ => .fail 201
theorem lives_ok {X : Ctx} {ρ : Nat → Int} (hX : X.Ok ρ) (hG : X.G = G) : EntryOk Try.prog X ρ GB 14 lives_entry := by
  obtain ⟨XG, XI, XV, XF⟩ := X
  simp only at hG
  subst hG
  intro args s h α w vals hv hw
  unfold lives_entry at h
  split at h
  · cases h
    exact entry_calls hv rfl rfl (lives_any w hw)
  · cases h
set_option maxHeartbeats 8000000 in
set_option maxRecDepth 100000 in
theorem edge_any (x0 x1 x2 x3 x4 x5 x6 x7 x8 x9 : Int) (b0 : (-9223372036854775808) ≤ x0 ∧ x0 ≤ 9223372036854775807) (b1 : (-9223372036854775808) ≤ x1 ∧ x1 ≤ 9223372036854775807) (b2 : (-9223372036854775808) ≤ x2 ∧ x2 ≤ 9223372036854775807) (b3 : (-9223372036854775808) ≤ x3 ∧ x3 ≤ 9223372036854775807) (b4 : (-9223372036854775808) ≤ x4 ∧ x4 ≤ 9223372036854775807) (b5 : (-9223372036854775808) ≤ x5 ∧ x5 ≤ 9223372036854775807) (b6 : (-9223372036854775808) ≤ x6 ∧ x6 ≤ 9223372036854775807) (b7 : (-9223372036854775808) ≤ x7 ∧ x7 ≤ 9223372036854775807) (b8 : (-9223372036854775808) ≤ x8 ∧ x8 ≤ 9223372036854775807) (b9 : (-9223372036854775808) ≤ x9 ∧ x9 ≤ 9223372036854775807) (w : World) (hw : WOk GB w) : Known Try.prog 95 ∧ Calls Try.prog 95 #[(.agg #[.int .i64 x0, .int .i64 x1, .int .i64 x2, .int .i64 x3, .int .i64 x4, .int .i64 x5, .int .i64 x6, .int .i64 x7]), .int .i64 x8, .int .i64 x9] w (fun e w' => e = .returned (if eOk2 x0 x1 x2 x3 x4 x5 x6 x7 x8 x9 then .tuple #[.agg #[.int .i64 (eX x0 x2 x4 x6 x8 x9), .int .i64 (eX x1 x3 x5 x7 x8 x9)], .int .i64 0] else .tuple #[.agg #[.int .i64 0, .int .i64 0], .int .i64 1]) ∧ Below w.heap.size w w') := by
  refine calls_eq (way_calls3 (ρ := rho [x0, x1, x2, x3, x4, x5, x6, x7, x8, x9]) (run := fun fs => edge_R Try.prog fs) (fun _ => rfl) (by kernel_rfl) (within_get ⟨b0, b1, b2, b3, b4, b5, b6, b7, b8, b9, trivial⟩) gi_ok (fun X hX hG => ct_w_ok hX hG) rfl rfl gbApart_nil ?_ w hw)
  refine way_cut (.cmp .le (.lit 0) (.var 9)) (fun h0 => ?_) (fun h0 => ?_)
  rotate_left
  · skip
    refine way_leaf edge_n24 ?_
    refine ⟨rfl, ?_⟩; simp only [nm, G, wG, xG10, xG11] at *; (try simp only [show ∀ k : Int, 1 * 2 ^ k.toNat = p2 k from fun _ => rfl] at *); (try simp only [Int.not_lt, Int.not_le, Int.max_le, Int.le_min] at *); rw [if_neg (by unfold eOk2 far; (try simp only [IntKind.wrap_i64] at *); omega)] <;> rfl
  refine way_cut (.cmp .le (.var 9) (.lit 6)) (fun h1 => ?_) (fun h1 => ?_)
  rotate_left
  · skip
    refine way_leaf edge_n23 ?_
    refine ⟨rfl, ?_⟩; simp only [nm, G, wG, xG10, xG11] at *; (try simp only [show ∀ k : Int, 1 * 2 ^ k.toNat = p2 k from fun _ => rfl] at *); (try simp only [Int.not_lt, Int.not_le, Int.max_le, Int.le_min] at *); rw [if_neg (by unfold eOk2 far; (try simp only [IntKind.wrap_i64] at *); omega)] <;> rfl
  refine way_cut (.cmp .le (.lit 0) (.var 8)) (fun h2 => ?_) (fun h2 => ?_)
  rotate_left
  · skip
    refine way_leaf edge_n22 ?_
    refine ⟨rfl, ?_⟩; simp only [nm, G, wG, xG10, xG11] at *; (try simp only [show ∀ k : Int, 1 * 2 ^ k.toNat = p2 k from fun _ => rfl] at *); (try simp only [Int.not_lt, Int.not_le, Int.max_le, Int.le_min] at *); rw [if_neg (by unfold eOk2 far; (try simp only [IntKind.wrap_i64] at *); omega)] <;> rfl
  refine way_cut (.cmp .lt (.op .shl (.lit 1) (.var 9)) (.var 8)) (fun h3 => ?_) (fun h3 => ?_)
  · skip
    refine way_leaf edge_n4 ?_
    refine ⟨rfl, ?_⟩; simp only [nm, G, wG, xG10, xG11] at *; (try simp only [show ∀ k : Int, 1 * 2 ^ k.toNat = p2 k from fun _ => rfl] at *); (try simp only [Int.not_lt, Int.not_le, Int.max_le, Int.le_min] at *); rw [if_neg (by unfold eOk2 far; (try simp only [IntKind.wrap_i64] at *); omega)] <;> rfl
  refine way_cut (.cmp .lt (.lit 1099511627776) (.op .max (.op .max (.op .max (.var 0) (.wrap .i64 (.op .sub (.lit 0) (.var 0)))) (.var 1)) (.wrap .i64 (.op .sub (.lit 0) (.var 1))))) (fun h4 => ?_) (fun h4 => ?_)
  · skip
    refine way_leaf edge_n6 ?_
    refine ⟨rfl, ?_⟩; simp only [nm, G, wG, xG10, xG11] at *; (try simp only [show ∀ k : Int, 1 * 2 ^ k.toNat = p2 k from fun _ => rfl] at *); (try simp only [Int.not_lt, Int.not_le, Int.max_le, Int.le_min] at *); rw [if_neg (by unfold eOk2 far; (try simp only [IntKind.wrap_i64] at *); omega)] <;> rfl
  refine way_cut (.cmp .lt (.op .min (.var 0) (.var 1)) (.lit (-1099511627776))) (fun h5 => ?_) (fun h5 => ?_)
  · skip
    refine way_leaf edge_n8 ?_
    refine ⟨rfl, ?_⟩; simp only [nm, G, wG, xG10, xG11] at *; (try simp only [show ∀ k : Int, 1 * 2 ^ k.toNat = p2 k from fun _ => rfl] at *); (try simp only [Int.not_lt, Int.not_le, Int.max_le, Int.le_min] at *); rw [if_neg (by unfold eOk2 far; (try simp only [IntKind.wrap_i64] at *); omega)] <;> rfl
  refine way_cut (.cmp .lt (.lit 1099511627776) (.op .max (.op .max (.op .max (.var 2) (.wrap .i64 (.op .sub (.lit 0) (.var 2)))) (.var 3)) (.wrap .i64 (.op .sub (.lit 0) (.var 3))))) (fun h6 => ?_) (fun h6 => ?_)
  · skip
    refine way_leaf edge_n10 ?_
    refine ⟨rfl, ?_⟩; simp only [nm, G, wG, xG10, xG11] at *; (try simp only [show ∀ k : Int, 1 * 2 ^ k.toNat = p2 k from fun _ => rfl] at *); (try simp only [Int.not_lt, Int.not_le, Int.max_le, Int.le_min] at *); rw [if_neg (by unfold eOk2 far; (try simp only [IntKind.wrap_i64] at *); omega)] <;> rfl
  refine way_cut (.cmp .lt (.op .min (.var 2) (.var 3)) (.lit (-1099511627776))) (fun h7 => ?_) (fun h7 => ?_)
  · skip
    refine way_leaf edge_n12 ?_
    refine ⟨rfl, ?_⟩; simp only [nm, G, wG, xG10, xG11] at *; (try simp only [show ∀ k : Int, 1 * 2 ^ k.toNat = p2 k from fun _ => rfl] at *); (try simp only [Int.not_lt, Int.not_le, Int.max_le, Int.le_min] at *); rw [if_neg (by unfold eOk2 far; (try simp only [IntKind.wrap_i64] at *); omega)] <;> rfl
  refine way_cut (.cmp .lt (.lit 1099511627776) (.op .max (.op .max (.op .max (.var 4) (.wrap .i64 (.op .sub (.lit 0) (.var 4)))) (.var 5)) (.wrap .i64 (.op .sub (.lit 0) (.var 5))))) (fun h8 => ?_) (fun h8 => ?_)
  · skip
    refine way_leaf edge_n14 ?_
    refine ⟨rfl, ?_⟩; simp only [nm, G, wG, xG10, xG11] at *; (try simp only [show ∀ k : Int, 1 * 2 ^ k.toNat = p2 k from fun _ => rfl] at *); (try simp only [Int.not_lt, Int.not_le, Int.max_le, Int.le_min] at *); rw [if_neg (by unfold eOk2 far; (try simp only [IntKind.wrap_i64] at *); omega)] <;> rfl
  refine way_cut (.cmp .lt (.op .min (.var 4) (.var 5)) (.lit (-1099511627776))) (fun h9 => ?_) (fun h9 => ?_)
  · skip
    refine way_leaf edge_n16 ?_
    refine ⟨rfl, ?_⟩; simp only [nm, G, wG, xG10, xG11] at *; (try simp only [show ∀ k : Int, 1 * 2 ^ k.toNat = p2 k from fun _ => rfl] at *); (try simp only [Int.not_lt, Int.not_le, Int.max_le, Int.le_min] at *); rw [if_neg (by unfold eOk2 far; (try simp only [IntKind.wrap_i64] at *); omega)] <;> rfl
  refine way_cut (.cmp .lt (.lit 1099511627776) (.op .max (.op .max (.op .max (.var 6) (.wrap .i64 (.op .sub (.lit 0) (.var 6)))) (.var 7)) (.wrap .i64 (.op .sub (.lit 0) (.var 7))))) (fun h10 => ?_) (fun h10 => ?_)
  · skip
    refine way_leaf edge_n18 ?_
    refine ⟨rfl, ?_⟩; simp only [nm, G, wG, xG10, xG11] at *; (try simp only [show ∀ k : Int, 1 * 2 ^ k.toNat = p2 k from fun _ => rfl] at *); (try simp only [Int.not_lt, Int.not_le, Int.max_le, Int.le_min] at *); rw [if_neg (by unfold eOk2 far; (try simp only [IntKind.wrap_i64] at *); omega)] <;> rfl
  refine way_cut (.cmp .lt (.op .min (.var 6) (.var 7)) (.lit (-1099511627776))) (fun h11 => ?_) (fun h11 => ?_)
  · skip
    refine way_leaf edge_n20 ?_
    refine ⟨rfl, ?_⟩; simp only [nm, G, wG, xG10, xG11] at *; (try simp only [show ∀ k : Int, 1 * 2 ^ k.toNat = p2 k from fun _ => rfl] at *); (try simp only [Int.not_lt, Int.not_le, Int.max_le, Int.le_min] at *); rw [if_neg (by unfold eOk2 far; (try simp only [IntKind.wrap_i64] at *); omega)] <;> rfl
  refine way_leaf edge_n21 ?_
  refine ⟨rfl, ?_⟩; simp only [nm, G, wG, xG10, xG11] at *; (try simp only [show ∀ k : Int, 1 * 2 ^ k.toNat = p2 k from fun _ => rfl] at *); (try simp only [Int.not_lt, Int.not_le, Int.max_le, Int.le_min] at *); have hk : eOk2 x0 x1 x2 x3 x4 x5 x6 x7 x8 x9 := (by unfold eOk2 far; refine ⟨⟨?_, ?_⟩, ⟨?_, ?_⟩, ⟨?_, ?_⟩, ⟨?_, ?_⟩, ⟨?_, ?_⟩, ⟨?_, ?_⟩, ⟨?_, ?_⟩, ⟨?_, ?_⟩, ⟨?_, ?_⟩, ⟨?_, ?_⟩⟩ <;> omega); rw [if_pos hk, ← eX_near (eOk2_x hk) rfl (p2_3 x9 (by omega) (by omega)), ← eX_near (eOk2_y hk) rfl (p2_3 x9 (by omega) (by omega))]
theorem edge_iff {ρ : Nat → Int} {a0 a1 a2 a3 a4 a5 a6 a7 a8 a9 : E} : B.den G ρ ((.and (.cmp .le (.lit 0) a9) (.and (.cmp .le a9 (.lit 6)) (.and (.cmp .le (.lit 0) a8) (.and (.cmp .le a8 (.op .shl (.lit 1) a9)) (.and (.cmp .le (.lit (-1099511627776)) a0) (.and (.cmp .le a0 (.lit 1099511627776)) (.and (.cmp .le (.lit (-1099511627776)) a1) (.and (.cmp .le a1 (.lit 1099511627776)) (.and (.cmp .le (.lit (-1099511627776)) a2) (.and (.cmp .le a2 (.lit 1099511627776)) (.and (.cmp .le (.lit (-1099511627776)) a3) (.and (.cmp .le a3 (.lit 1099511627776)) (.and (.cmp .le (.lit (-1099511627776)) a4) (.and (.cmp .le a4 (.lit 1099511627776)) (.and (.cmp .le (.lit (-1099511627776)) a5) (.and (.cmp .le a5 (.lit 1099511627776)) (.and (.cmp .le (.lit (-1099511627776)) a6) (.and (.cmp .le a6 (.lit 1099511627776)) (.and (.cmp .le (.lit (-1099511627776)) a7) (.cmp .le a7 (.lit 1099511627776)))))))))))))))))))))) = true ↔ eOk2 (E.den G ρ a0) (E.den G ρ a1) (E.den G ρ a2) (E.den G ρ a3) (E.den G ρ a4) (E.den G ρ a5) (E.den G ρ a6) (E.den G ρ a7) (E.den G ρ a8) (E.den G ρ a9) := by
  simp only [B.den, cop_le, E.den, EL.den, iop_shl, Bool.and_eq_true, decide_eq_true_eq]; simp only [show ∀ k : Int, 1 * 2 ^ k.toNat = p2 k from fun _ => rfl]; unfold eOk2 far; simp only [and_assoc]
def edge_entry : Entry := fun X args =>
  match args with
  | [(.agg [.int .i64 a0, .int .i64 a1, .int .i64 a2, .int .i64 a3, .int .i64 a4, .int .i64 a5, .int .i64 a6, .int .i64 a7]), .int .i64 a8, .int .i64 a9] => if a0.fits X .i64 && a1.fits X .i64 && a2.fits X .i64 && a3.fits X .i64 && a4.fits X .i64 && a5.fits X .i64 && a6.fits X .i64 && a7.fits X .i64 && a8.fits X .i64 && a9.fits X .i64 then (Res.testW X ((.and (.cmp .le (.lit 0) a9) (.and (.cmp .le a9 (.lit 6)) (.and (.cmp .le (.lit 0) a8) (.and (.cmp .le a8 (.op .shl (.lit 1) a9)) (.and (.cmp .le (.lit (-1099511627776)) a0) (.and (.cmp .le a0 (.lit 1099511627776)) (.and (.cmp .le (.lit (-1099511627776)) a1) (.and (.cmp .le a1 (.lit 1099511627776)) (.and (.cmp .le (.lit (-1099511627776)) a2) (.and (.cmp .le a2 (.lit 1099511627776)) (.and (.cmp .le (.lit (-1099511627776)) a3) (.and (.cmp .le a3 (.lit 1099511627776)) (.and (.cmp .le (.lit (-1099511627776)) a4) (.and (.cmp .le a4 (.lit 1099511627776)) (.and (.cmp .le (.lit (-1099511627776)) a5) (.and (.cmp .le a5 (.lit 1099511627776)) (.and (.cmp .le (.lit (-1099511627776)) a6) (.and (.cmp .le a6 (.lit 1099511627776)) (.and (.cmp .le (.lit (-1099511627776)) a7) (.cmp .le a7 (.lit 1099511627776))))))))))))))))))))))).bind fun t => if t then .ok (.tuple [.agg [.int .i64 (.app 10 (.cons a0 (.cons a2 (.cons a4 (.cons a6 (.cons a8 (.cons a9 .nil))))))), .int .i64 (.app 10 (.cons a1 (.cons a3 (.cons a5 (.cons a7 (.cons a8 (.cons a9 .nil)))))))], .int .i64 (.lit 0)]) else .ok (.tuple [.agg [.int .i64 (.lit 0), .int .i64 (.lit 0)], .int .i64 (.lit 1)]) else .fail 200
  | _ => .fail 201
theorem edge_ok {X : Ctx} {ρ : Nat → Int} (hX : X.Ok ρ) (hG : X.G = G) : EntryOk Try.prog X ρ GB 95 edge_entry := by
  obtain ⟨XG, XI, XV, XF⟩ := X
  simp only at hG
  subst hG
  intro args s h α w vals hv hw
  unfold edge_entry at h
  split at h
  · split at h
    · rename_i hg
      try simp only [Bool.and_eq_true] at hg
      obtain ⟨⟨⟨⟨⟨⟨⟨⟨⟨g0, g1⟩, g2⟩, g3⟩, g4⟩, g5⟩, g6⟩, g7⟩, g8⟩, g9⟩ := hg
      obtain ⟨t, ht, h⟩ := Res.bind_ok h
      have ht := Res.testW_ok hX ht
      have k := edge_any _ _ _ _ _ _ _ _ _ _ (E.fits_in hX g0) (E.fits_in hX g1) (E.fits_in hX g2) (E.fits_in hX g3) (E.fits_in hX g4) (E.fits_in hX g5) (E.fits_in hX g6) (E.fits_in hX g7) (E.fits_in hX g8) (E.fits_in hX g9) w hw
      cases t with
      | true =>
        cases h
        rw [if_pos (edge_iff.1 ht)] at k
        exact entry_calls hv rfl rfl k
      | false =>
        cases h
        rw [if_neg (fun q => by have := edge_iff.2 q; rw [ht] at this; cases this)] at k
        exact entry_calls hv rfl rfl k
    · cases h
  · cases h
def ct_lives : Contracts := ctCons 14 lives_entry ct_w
theorem ct_lives_ok {X : Ctx} {ρ : Nat → Int} (hX : X.Ok ρ) (hG : X.G = G) : CtOk Try.prog X ρ GB ct_lives := ctCons_ok (lives_ok hX hG) (ct_w_ok hX hG)
def ct_edge : Contracts := ctCons 95 edge_entry ct_lives
theorem ct_edge_ok {X : Ctx} {ρ : Nat → Int} (hX : X.Ok ρ) (hG : X.G = G) : CtOk Try.prog X ρ GB ct_edge := ctCons_ok (edge_ok hX hG) (ct_lives_ok hX hG)
end Go.Proofs.Ytkpdiehbaiepaaa
