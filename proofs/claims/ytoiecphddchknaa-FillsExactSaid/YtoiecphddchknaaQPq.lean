/- What is proved: a painted board, read pixel by pixel, and a painted number against the corners' numbers, in plain Lean. No condition but those that are stated. -/
import Derived.Test.YtoiecphddchknaaQPp
import Derived.Test.YtoiecphddchknaaQg4
set_option linter.unusedSimpArgs false
set_option linter.unusedVariables false
namespace Go.Proofs.Ytoiecphddchknaa
open Go Go.RowKit Sx Wi
def zrow8 : List Int := [0, 0, 0, 0, 0, 0, 0, 0]
def colP (xs : List Int) (y x : Int) : Int :=
  let w := fun j => xG64 j (xs.take 6 ++ [x * 256 + 128, y * 256 + 128])
  xG70 [xs.getD 6 0, xs.getD 7 0, xs.getD 8 0, xs.getD 9 0, w 0, w 1, w 2]
def isC (xs : List Int) (y x : Int) : Prop := xG63 (xs.take 6 ++ [x * 256 + 128, y * 256 + 128]) ≠ 0
def Fine (xs : List Int) (L : List (List Int)) : Prop :=
  L.length = 144 ∧ ∀ k, k < 144 → L.getD k [] = zrow8 ∨ (isC xs ((k / 12 : Nat) : Int) ((k % 12 : Nat) : Int) ∧ L.getD k [] = [1, xs.getD 10 0, 0, 0, colP xs ((k / 12 : Nat) : Int) ((k % 12 : Nat) : Int), 0, 0, 0])
theorem fine_start (xs : List Int) : Fine xs (Lc.dec (wG 96 [144, 0, 0, 0, 0, 0, 0, 0, 0])) := by
  have e : wG 96 [144, 0, 0, 0, 0, 0, 0, 0, 0] = Lc.enc (List.replicate 144 zrow8) := wlists 96 _ (by decide) (by decide)
  rw [e, Lc.dec_enc]
  refine ⟨by simp, fun k hk => .inl ?_⟩
  rw [List.getD_eq_getElem?_getD, List.getElem?_replicate, if_pos hk]
  rfl
theorem fine_step {xs : List Int} {C : Int} (h : Fine xs (Lc.dec C)) {y x : Int} (hy : 0 ≤ y ∧ y ≤ 11) (hx : 0 ≤ x ∧ x ≤ 11) : Fine xs (Lc.dec (stepC xs C y x)) := by
  by_cases hc : xG63 (xs.take 6 ++ [x * 256 + 128, y * 256 + 128]) = 0
  · have e : stepC xs C y x = C := if_pos hc
    rw [e]; exact h
  · have e : stepC xs C y x = wG 92 [C, y * 12 + x, 1, xs.getD 10 0, 0, 0, colP xs y x, 0, 0, 0] := if_neg hc
    have e2 : wG 92 [C, y * 12 + x, 1, xs.getD 10 0, 0, 0, colP xs y x, 0, 0, 0] = Lc.enc ((Lc.dec C).set (y * 12 + x).toNat [1, xs.getD 10 0, 0, 0, colP xs y x, 0, 0, 0]) := wlists 92 _ (by decide) (by decide)
    rw [e, e2, Lc.dec_enc]
    obtain ⟨h1, h2⟩ := h
    refine ⟨by rw [List.length_set]; exact h1, fun k hk => ?_⟩
    by_cases hk2 : (y * 12 + x).toNat = k
    · refine .inr ?_
      have q1 : ((k / 12 : Nat) : Int) = y := by omega
      have q2 : ((k % 12 : Nat) : Int) = x := by omega
      rw [q1, q2]
      refine ⟨hc, ?_⟩
      rw [hk2, List.getD_eq_getElem?_getD, List.getElem?_set_self (by omega)]
      rfl
    · have e3 : ((Lc.dec C).set (y * 12 + x).toNat [1, xs.getD 10 0, 0, 0, colP xs y x, 0, 0, 0]).getD k [] = (Lc.dec C).getD k [] := by
        rw [List.getD_eq_getElem?_getD, List.getElem?_set_ne hk2, ← List.getD_eq_getElem?_getD]
      rw [e3]; exact h2 k hk
theorem lefts_nn (xs : List Int) : 0 ≤ lefts xs := by unfold lefts leftP; omega
theorem tops_nn (xs : List Int) : 0 ≤ tops xs := by unfold tops leftP; omega
theorem rights_le (xs : List Int) : rights xs ≤ 12 := by unfold rights rightP; omega
theorem ends_le (xs : List Int) : ends xs ≤ 12 := by unfold ends rightP; omega
theorem fine_row {xs : List Int} {C : Int} (h : Fine xs (Lc.dec C)) {y : Int} (hy : 0 ≤ y ∧ y ≤ 11) : ∀ j : Nat, j ≤ (rights xs - lefts xs).toNat → Fine xs (Lc.dec (rowC xs C y j))
  | 0, _ => h
  | j + 1, hj => by
    have := lefts_nn xs; have := rights_le xs
    exact fine_step (fine_row h hy j (by omega)) hy ⟨by omega, by omega⟩
theorem fine_board (xs : List Int) : ∀ i : Nat, i ≤ (ends xs - tops xs).toNat → Fine xs (Lc.dec (boardC xs i))
  | 0, _ => fine_start xs
  | i + 1, hi => by
    have := tops_nn xs; have := ends_le xs
    exact fine_row (fine_board xs i (by omega)) ⟨by omega, by omega⟩ _ (Nat.le_refl _)
theorem q_near {s a d : Int} (ha : 1 ≤ a) (hd : 1 ≤ d) : -(a * d) ≤ (s - a * d * fq (fq (s * 2 + a * d) d) (2 * a)) * 2 ∧ (s - a * d * fq (fq (s * 2 + a * d) d) (2 * a)) * 2 < a * d := by
  have e1 : fq (s * 2 + a * d) d = (s * 2 + a * d) / d := by unfold fq; rw [if_pos hd, Int.fdiv_eq_ediv_of_nonneg _ (by omega)]
  have e2 : fq (fq (s * 2 + a * d) d) (2 * a) = (s * 2 + a * d) / d / (2 * a) := by
    rw [e1]; unfold fq; rw [if_pos (by omega), Int.fdiv_eq_ediv_of_nonneg _ (by omega)]
  rw [e2, Int.ediv_ediv_of_nonneg (by omega)]
  have hp : 0 < d * (2 * a) := Int.mul_pos (by omega) (by omega)
  have h1 := Int.emod_add_mul_ediv (s * 2 + a * d) (d * (2 * a))
  have h2 := Int.emod_nonneg (s * 2 + a * d) (show d * (2 * a) ≠ 0 by omega)
  have h3 := Int.emod_lt_of_pos (s * 2 + a * d) hp
  generalize (s * 2 + a * d) / (d * (2 * a)) = q at *
  have e3 : d * (2 * a) * q = 2 * (a * d * q) := by grind
  have e4 : d * (2 * a) = 2 * (a * d) := by grind
  rw [e3, e4] at h1
  rw [e4] at h2 h3
  generalize a * d * q = u at *
  omega
theorem tog_near {s a d t : Int} (ha : 1 ≤ a) (hd : 1 ≤ d) (ht : t = togP s a d) :
    (-(a * d) ≤ (s - a * d * t) * 2 ∨ t = -2147483648) ∧ ((s - a * d * t) * 2 < a * d ∨ t = 2147483647) := by
  obtain ⟨h1, h2⟩ := q_near (s := s) ha hd
  have hp : 0 < a * d := Int.mul_pos (by omega) (by omega)
  unfold togP at ht
  generalize fq (fq (s * 2 + a * d) d) (2 * a) = q at *
  by_cases c1 : q < -2147483648
  · have e : t = -2147483648 := by omega
    have := Int.mul_le_mul_of_nonneg_left (show q ≤ t by omega) (show 0 ≤ a * d by omega)
    exact ⟨.inr e, .inl (by omega)⟩
  · by_cases c2 : 2147483647 < q
    · have e : t = 2147483647 := by omega
      have := Int.mul_le_mul_of_nonneg_left (show t ≤ q by omega) (show 0 ≤ a * d by omega)
      exact ⟨.inl (by omega), .inr e⟩
    · have e : t = q := by omega
      rw [e]
      exact ⟨.inl (by omega), .inl (by omega)⟩
end Go.Proofs.Ytoiecphddchknaa
