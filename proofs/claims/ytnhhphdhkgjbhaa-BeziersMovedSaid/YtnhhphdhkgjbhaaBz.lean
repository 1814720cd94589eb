set_option linter.unusedSimpArgs false
set_option linter.unusedVariables false
namespace Bz
def near (n d : Int) : Int := (2 * n + d) / (2 * d)
/-- the weights of i of m -/
def w0 (i m : Int) : Int := (m - i) * (m - i) * (m - i)
def w1 (i m : Int) : Int := 3 * (m - i) * (m - i) * i
def w2 (i m : Int) : Int := 3 * (m - i) * i * i
def w3 (i : Int) : Int := i * i * i
/-- a curve's number, of four numbers -/
def sum (p0 p1 p2 p3 i m : Int) : Int := p0 * w0 i m + p1 * w1 i m + p2 * w2 i m + p3 * w3 i
def edge (p0 p1 p2 p3 i m : Int) : Int := near (sum p0 p1 p2 p3 i m) (256 * (m * m * m))
/-- a patch's number, of sixteen -/
def sum2 (n : Nat → Int) (i j m : Int) : Int :=
  sum (sum (n 0) (n 1) (n 2) (n 3) j m) (sum (n 4) (n 5) (n 6) (n 7) j m) (sum (n 8) (n 9) (n 10) (n 11) j m) (sum (n 12) (n 13) (n 14) (n 15) j m) i m
def at_ (n : Nat → Int) (i j m : Int) : Int := near (sum2 n i j m) (256 * (m * m * m * (m * m * m)))

theorem near_mul (n d k : Int) (hk : 0 < k) : near (n * k) (d * k) = near n d := by
  unfold near
  have e1 : 2 * (n * k) + d * k = (2 * n + d) * k := by grind
  have e2 : 2 * (d * k) = 2 * d * k := by grind
  rw [e1, e2, Int.mul_ediv_mul_of_pos_left _ _ hk]
theorem near_mono {m n d : Int} (hd : 0 < d) (h : m ≤ n) : near m d ≤ near n d := by
  unfold near; exact Int.ediv_le_ediv (by omega) (by omega)
theorem near_add (n d k : Int) (hd : 0 < d) : near (n + k * d) d = near n d + k := by
  unfold near
  have e : 2 * (n + k * d) + d = (2 * n + d) + k * (2 * d) := by grind
  rw [e, Int.add_mul_ediv_right _ _ (by omega)]
theorem w_sum (i m : Int) : w0 i m + w1 i m + w2 i m + w3 i = m * m * m := by unfold w0 w1 w2 w3; grind
theorem sum_back (p0 p1 p2 p3 i m : Int) : sum p3 p2 p1 p0 (m - i) m = sum p0 p1 p2 p3 i m := by unfold sum w0 w1 w2 w3; grind
theorem sum_finer (p0 p1 p2 p3 i m : Int) : sum p0 p1 p2 p3 (2 * i) (2 * m) = sum p0 p1 p2 p3 i m * 8 := by unfold sum w0 w1 w2 w3; grind
theorem sum_lin (p0 p1 p2 p3 i m k : Int) : sum (p0 * k) (p1 * k) (p2 * k) (p3 * k) i m = sum p0 p1 p2 p3 i m * k := by unfold sum; grind
theorem sum_moved (p0 p1 p2 p3 i m c : Int) : sum (p0 + c) (p1 + c) (p2 + c) (p3 + c) i m = sum p0 p1 p2 p3 i m + c * (m * m * m) := by
  rw [← w_sum i m]; unfold sum; grind
/-- BeziersBack -/
theorem edge_back (p0 p1 p2 p3 i m : Int) : edge p3 p2 p1 p0 (m - i) m = edge p0 p1 p2 p3 i m := by unfold edge; rw [sum_back]
/-- BeziersFiner -/
theorem edge_finer (p0 p1 p2 p3 i m : Int) : edge p0 p1 p2 p3 (2 * i) (2 * m) = edge p0 p1 p2 p3 i m := by
  unfold edge; rw [sum_finer, show 256 * (2 * m * (2 * m) * (2 * m)) = 256 * (m * m * m) * 8 by grind, near_mul _ _ _ (by decide)]
theorem at_finer (n : Nat → Int) (i j m : Int) : at_ n (2 * i) (2 * j) (2 * m) = at_ n i j m := by
  unfold at_ sum2
  rw [sum_finer, sum_finer, sum_finer, sum_finer, sum_finer, sum_lin, Int.mul_assoc, show 256 * (2 * m * (2 * m) * (2 * m) * (2 * m * (2 * m) * (2 * m))) = 256 * (m * m * m * (m * m * m)) * (8 * 8) by grind, near_mul _ _ _ (by decide)]
/-- BeziersMoved -/
theorem at_moved (n : Nat → Int) (i j m c : Int) (hm : 0 < m) : at_ (fun k => n k + 256 * c) i j m = at_ n i j m + c := by
  unfold at_ sum2
  have hp : 0 < m * m * m := Int.mul_pos (Int.mul_pos hm hm) hm
  rw [sum_moved, sum_moved, sum_moved, sum_moved, sum_moved, ← near_add _ _ c (by have := Int.mul_pos hp hp; omega)]
  congr 1; generalize m * m * m = q; grind
/-- at the ends -/
theorem edge_0 (p0 p1 p2 p3 m : Int) (hm : 0 < m) : edge p0 p1 p2 p3 0 m = near p0 256 := by
  unfold edge; rw [show sum p0 p1 p2 p3 0 m = p0 * (m * m * m) by unfold sum w0 w1 w2 w3; grind, near_mul _ _ _ (Int.mul_pos (Int.mul_pos hm hm) hm)]
theorem edge_1 (p0 p1 p2 p3 m : Int) (hm : 0 < m) : edge p0 p1 p2 p3 m m = near p3 256 := by
  unfold edge; rw [show sum p0 p1 p2 p3 m m = p3 * (m * m * m) by unfold sum w0 w1 w2 w3; grind, near_mul _ _ _ (Int.mul_pos (Int.mul_pos hm hm) hm)]
theorem near_256 (n : Int) : near n 256 = (n + 128) / 256 := by unfold near; omega
theorem w_nonneg (i m : Int) (h0 : 0 ≤ i) (h : i ≤ m) : 0 ≤ w0 i m ∧ 0 ≤ w1 i m ∧ 0 ≤ w2 i m ∧ 0 ≤ w3 i := by
  have a : 0 ≤ m - i := by omega
  have b : 0 ≤ 3 * (m - i) := by omega
  exact ⟨Int.mul_nonneg (Int.mul_nonneg a a) a, Int.mul_nonneg (Int.mul_nonneg b a) h0, Int.mul_nonneg (Int.mul_nonneg b h0) h0, Int.mul_nonneg (Int.mul_nonneg h0 h0) h0⟩
theorem sum_le (p0 p1 p2 p3 i m c : Int) (h0 : 0 ≤ i) (h : i ≤ m) (a0 : p0 ≤ c) (a1 : p1 ≤ c) (a2 : p2 ≤ c) (a3 : p3 ≤ c) : sum p0 p1 p2 p3 i m ≤ c * (m * m * m) := by
  obtain ⟨k0, k1, k2, k3⟩ := w_nonneg i m h0 h
  rw [← w_sum i m]
  have b0 := Int.mul_le_mul_of_nonneg_right a0 k0; have b1 := Int.mul_le_mul_of_nonneg_right a1 k1; have b2 := Int.mul_le_mul_of_nonneg_right a2 k2; have b3 := Int.mul_le_mul_of_nonneg_right a3 k3
  have e : c * (w0 i m + w1 i m + w2 i m + w3 i) = c * w0 i m + c * w1 i m + c * w2 i m + c * w3 i := by grind
  unfold sum; omega
theorem sum_ge (p0 p1 p2 p3 i m c : Int) (h0 : 0 ≤ i) (h : i ≤ m) (a0 : c ≤ p0) (a1 : c ≤ p1) (a2 : c ≤ p2) (a3 : c ≤ p3) : c * (m * m * m) ≤ sum p0 p1 p2 p3 i m := by
  obtain ⟨k0, k1, k2, k3⟩ := w_nonneg i m h0 h
  rw [← w_sum i m]
  have b0 := Int.mul_le_mul_of_nonneg_right a0 k0; have b1 := Int.mul_le_mul_of_nonneg_right a1 k1; have b2 := Int.mul_le_mul_of_nonneg_right a2 k2; have b3 := Int.mul_le_mul_of_nonneg_right a3 k3
  have e : c * (w0 i m + w1 i m + w2 i m + w3 i) = c * w0 i m + c * w1 i m + c * w2 i m + c * w3 i := by grind
  unfold sum; omega
/-- BeziersWithin -/
theorem edge_le (p0 p1 p2 p3 i m c : Int) (h0 : 0 ≤ i) (h : i ≤ m) (hm : 0 < m) (a0 : p0 ≤ c) (a1 : p1 ≤ c) (a2 : p2 ≤ c) (a3 : p3 ≤ c) : edge p0 p1 p2 p3 i m ≤ (c + 128) / 256 := by
  have hp : 0 < m * m * m := Int.mul_pos (Int.mul_pos hm hm) hm
  rw [← near_256, ← near_mul c 256 (m * m * m) hp]
  exact near_mono (by omega) (sum_le _ _ _ _ _ _ _ h0 h a0 a1 a2 a3)
theorem edge_ge (p0 p1 p2 p3 i m c : Int) (h0 : 0 ≤ i) (h : i ≤ m) (hm : 0 < m) (a0 : c ≤ p0) (a1 : c ≤ p1) (a2 : c ≤ p2) (a3 : c ≤ p3) : (c + 128) / 256 ≤ edge p0 p1 p2 p3 i m := by
  have hp : 0 < m * m * m := Int.mul_pos (Int.mul_pos hm hm) hm
  rw [← near_256, ← near_mul c 256 (m * m * m) hp]
  exact near_mono (by omega) (sum_ge _ _ _ _ _ _ _ h0 h a0 a1 a2 a3)
/-- BeziersSides -/
theorem at_side0 (n : Nat → Int) (i m : Int) (hm : 0 < m) : at_ n i 0 m = edge (n 0) (n 4) (n 8) (n 12) i m := by
  have hp : 0 < m * m * m := Int.mul_pos (Int.mul_pos hm hm) hm
  unfold at_ sum2 edge
  have e : ∀ a b c d : Int, sum a b c d 0 m = a * (m * m * m) := fun a b c d => by unfold sum w0 w1 w2 w3; grind
  rw [e, e, e, e, sum_lin, ← Int.mul_assoc 256 (m * m * m) (m * m * m), near_mul _ _ _ hp]
theorem at_side1 (n : Nat → Int) (j m : Int) (hm : 0 < m) : at_ n m j m = edge (n 12) (n 13) (n 14) (n 15) j m := by
  have hp : 0 < m * m * m := Int.mul_pos (Int.mul_pos hm hm) hm
  unfold at_ sum2 edge
  have e : ∀ a b c d : Int, sum a b c d m m = d * (m * m * m) := fun a b c d => by unfold sum w0 w1 w2 w3; grind
  rw [e, ← Int.mul_assoc 256 (m * m * m) (m * m * m), near_mul _ _ _ hp]
theorem at_side2 (n : Nat → Int) (i m : Int) (hm : 0 < m) : at_ n (m - i) m m = edge (n 15) (n 11) (n 7) (n 3) i m := by
  have hp : 0 < m * m * m := Int.mul_pos (Int.mul_pos hm hm) hm
  unfold at_ sum2 edge
  have e : ∀ a b c d : Int, sum a b c d m m = d * (m * m * m) := fun a b c d => by unfold sum w0 w1 w2 w3; grind
  rw [e, e, e, e, sum_lin, sum_back, ← Int.mul_assoc 256 (m * m * m) (m * m * m), near_mul _ _ _ hp]
theorem at_side3 (n : Nat → Int) (j m : Int) (hm : 0 < m) : at_ n 0 (m - j) m = edge (n 3) (n 2) (n 1) (n 0) j m := by
  have hp : 0 < m * m * m := Int.mul_pos (Int.mul_pos hm hm) hm
  unfold at_ sum2 edge
  have e : ∀ a b c d : Int, sum a b c d 0 m = a * (m * m * m) := fun a b c d => by unfold sum w0 w1 w2 w3; grind
  rw [e, sum_back, ← Int.mul_assoc 256 (m * m * m) (m * m * m), near_mul _ _ _ hp]
end Bz
