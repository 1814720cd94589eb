/- What is proved: a claimed place's weights, and the number that they give, in plain Lean. No condition but those that are stated. -/
import Derived.Test.YtoiecphddchknaaQg6
import Derived.Test.YtoiecphddchknaaQNn
import Derived.Test.YtoiecphddchknaaQPiw0
import Derived.Test.YtoiecphddchknaaQa3
set_option linter.unusedSimpArgs false
set_option linter.unusedVariables false
namespace Go.Proofs.Ytoiecphddchknaa
open Go Go.RowKit Sx Wi
theorem side_pos {a b p : Ed.D} (h : Ed.side a b p = 1) : 0 ≤ Ed.cross a b p := by
  unfold Ed.side Ed.or3 at h
  rcases Ed.sg_cases (Ed.cross a b p) with ⟨e, q⟩ | ⟨e, q⟩ | ⟨e, q⟩
  · rw [e, if_pos (by omega)] at h; omega
  · omega
  · omega
theorem side_neg {a b p : Ed.D} (h : Ed.side a b p = -1) : Ed.cross a b p ≤ 0 := by
  unfold Ed.side Ed.or3 at h
  rcases Ed.sg_cases (Ed.cross a b p) with ⟨e, q⟩ | ⟨e, q⟩ | ⟨e, q⟩
  · omega
  · omega
  · rw [e, if_pos (by omega)] at h; omega
theorem claim_w {a b c d e f x y : Int} (h : xG63 [a, b, c, d, e, f, x, y] ≠ 0) :
    (-3602879701896396800 ≤ xG64 0 [a, b, c, d, e, f, x, y] + xG64 1 [a, b, c, d, e, f, x, y] + xG64 2 [a, b, c, d, e, f, x, y] ∧ xG64 0 [a, b, c, d, e, f, x, y] + xG64 1 [a, b, c, d, e, f, x, y] + xG64 2 [a, b, c, d, e, f, x, y] ≤ 3602879701896396800) ∧
    ((0 ≤ xG64 0 [a, b, c, d, e, f, x, y] ∧ 0 ≤ xG64 1 [a, b, c, d, e, f, x, y] ∧ 0 ≤ xG64 2 [a, b, c, d, e, f, x, y] ∧ 1 ≤ xG64 0 [a, b, c, d, e, f, x, y] + xG64 1 [a, b, c, d, e, f, x, y] + xG64 2 [a, b, c, d, e, f, x, y]) ∨
     (xG64 0 [a, b, c, d, e, f, x, y] ≤ 0 ∧ xG64 1 [a, b, c, d, e, f, x, y] ≤ 0 ∧ xG64 2 [a, b, c, d, e, f, x, y] ≤ 0 ∧ xG64 0 [a, b, c, d, e, f, x, y] + xG64 1 [a, b, c, d, e, f, x, y] + xG64 2 [a, b, c, d, e, f, x, y] ≤ -1)) := by
  replace h : Ed.claim ⟨a, b⟩ ⟨c, d⟩ ⟨e, f⟩ ⟨x, y⟩ ≠ 0 := h
  show (_ ≤ wt ⟨a, b⟩ ⟨c, d⟩ ⟨e, f⟩ ⟨x, y⟩ 0 + wt ⟨a, b⟩ ⟨c, d⟩ ⟨e, f⟩ ⟨x, y⟩ 1 + wt ⟨a, b⟩ ⟨c, d⟩ ⟨e, f⟩ ⟨x, y⟩ 2 ∧ wt ⟨a, b⟩ ⟨c, d⟩ ⟨e, f⟩ ⟨x, y⟩ 0 + wt ⟨a, b⟩ ⟨c, d⟩ ⟨e, f⟩ ⟨x, y⟩ 1 + wt ⟨a, b⟩ ⟨c, d⟩ ⟨e, f⟩ ⟨x, y⟩ 2 ≤ _) ∧ ((0 ≤ wt ⟨a, b⟩ ⟨c, d⟩ ⟨e, f⟩ ⟨x, y⟩ 0 ∧ 0 ≤ wt ⟨a, b⟩ ⟨c, d⟩ ⟨e, f⟩ ⟨x, y⟩ 1 ∧ 0 ≤ wt ⟨a, b⟩ ⟨c, d⟩ ⟨e, f⟩ ⟨x, y⟩ 2 ∧ 1 ≤ wt ⟨a, b⟩ ⟨c, d⟩ ⟨e, f⟩ ⟨x, y⟩ 0 + wt ⟨a, b⟩ ⟨c, d⟩ ⟨e, f⟩ ⟨x, y⟩ 1 + wt ⟨a, b⟩ ⟨c, d⟩ ⟨e, f⟩ ⟨x, y⟩ 2) ∨ (wt ⟨a, b⟩ ⟨c, d⟩ ⟨e, f⟩ ⟨x, y⟩ 0 ≤ 0 ∧ wt ⟨a, b⟩ ⟨c, d⟩ ⟨e, f⟩ ⟨x, y⟩ 1 ≤ 0 ∧ wt ⟨a, b⟩ ⟨c, d⟩ ⟨e, f⟩ ⟨x, y⟩ 2 ≤ 0 ∧ wt ⟨a, b⟩ ⟨c, d⟩ ⟨e, f⟩ ⟨x, y⟩ 0 + wt ⟨a, b⟩ ⟨c, d⟩ ⟨e, f⟩ ⟨x, y⟩ 1 + wt ⟨a, b⟩ ⟨c, d⟩ ⟨e, f⟩ ⟨x, y⟩ 2 ≤ -1))
  generalize (⟨a, b⟩ : Ed.D) = A at *
  generalize (⟨c, d⟩ : Ed.D) = B at *
  generalize (⟨e, f⟩ : Ed.D) = C at *
  generalize (⟨x, y⟩ : Ed.D) = p at *
  unfold Ed.claim at h
  split at h
  · exact absurd rfl h
  rename_i h0
  have hp : Ed.ok p := by
    by_cases q : Ed.ok p
    · exact q
    · exact absurd (Or.inr q) h0
  have ha0 : Ed.sg (Ed.area A B C) ≠ 0 := fun q => h0 (Or.inl q)
  have hok : Ed.ok A ∧ Ed.ok B ∧ Ed.ok C := by
    by_cases q : Ed.ok A ∧ Ed.ok B ∧ Ed.ok C
    · exact q
    · exact absurd (by unfold Ed.area; rw [if_neg q]; rfl) ha0
  have har : Ed.area A B C = Ed.cross A B C := by unfold Ed.area; rw [if_pos hok]
  have hbd := area_bd A B C
  rw [har] at h ha0 hbd
  split at h
  case isFalse => exact absurd rfl h
  rename_i hs
  obtain ⟨s0, s1, s2⟩ := hs
  have hk : okAt A B C p := ⟨hok, hp⟩
  have w0 : wt A B C p 0 = Ed.cross B C p := by unfold wt; rw [if_pos hk]; rfl
  have w1 : wt A B C p 1 = Ed.cross C A p := by unfold wt; rw [if_pos hk]; rfl
  have w2 : wt A B C p 2 = Ed.cross A B p := by unfold wt; rw [if_pos hk]; rfl
  have hsum := Ed.cross_sum A B C p
  rw [w0, w1, w2]
  rcases Ed.sg_cases (Ed.cross A B C) with ⟨q, r⟩ | ⟨q, r⟩ | ⟨q, r⟩
  · rw [q] at s0 s1 s2
    have t0 := side_neg s0; have t1 := side_neg s1; have t2 := side_neg s2
    exact ⟨by omega, .inr ⟨t0, t1, t2, by omega⟩⟩
  · exact absurd q ha0
  · rw [q] at s0 s1 s2
    have t0 := side_pos s0; have t1 := side_pos s1; have t2 := side_pos s2
    exact ⟨by omega, .inl ⟨t0, t1, t2, by omega⟩⟩
theorem fq_le {n d k : Int} (hd : 1 ≤ d) (h : n ≤ k * d) : fq n d ≤ k := by
  unfold fq; rw [if_pos hd, Int.fdiv_eq_ediv_of_nonneg _ (by omega)]
  exact Int.le_of_lt_add_one (Int.ediv_lt_of_lt_mul (by omega) (by rw [Int.add_mul]; omega))
theorem fq_ge {n d k : Int} (hd : 1 ≤ d) (h : k * d ≤ n) : k ≤ fq n d := by
  unfold fq; rw [if_pos hd, Int.fdiv_eq_ediv_of_nonneg _ (by omega)]
  exact Int.le_ediv_of_mul_le (by omega) h
theorem q_bd {s a d : Int} (ha : 1 ≤ a) (hd : 1 ≤ d ∧ d ≤ 65535) (hs : -1125899906842624 * a ≤ s ∧ s ≤ 1125899906842624 * a) : -9223372036854775808 ≤ fq (fq (s * 2 + a * d) d) (2 * a) ∧ fq (fq (s * 2 + a * d) d) (2 * a) ≤ 9223372036854775807 := by
  have had1 : a * d ≤ a * 65535 := Int.mul_le_mul_of_nonneg_left hd.2 (by omega)
  have had0 : 0 ≤ a * d := Int.mul_nonneg (by omega) (by omega)
  have hb := fq_bd (s * 2 + a * d) d
  have h1 : fq (s * 2 + a * d) d ≤ 4503599627370496 * (2 * a) := by omega
  have h2 : -4503599627370496 * (2 * a) ≤ fq (s * 2 + a * d) d := by omega
  have g1 := fq_le (d := 2 * a) (by omega) h1
  have g2 := fq_ge (d := 2 * a) (by omega) h2
  omega
theorem mulw {n w : Int} (hn : -1125899906842624 ≤ n ∧ n ≤ 1125899906842624) (hw : 0 ≤ w) : -1125899906842624 * w ≤ n * w ∧ n * w ≤ 1125899906842624 * w :=
  ⟨Int.mul_le_mul_of_nonneg_right hn.1 hw, Int.mul_le_mul_of_nonneg_right hn.2 hw⟩
theorem togS_bd {n0 n1 n2 w0 w1 w2 : Int} (h0 : -1125899906842624 ≤ n0 ∧ n0 ≤ 1125899906842624) (h1 : -1125899906842624 ≤ n1 ∧ n1 ≤ 1125899906842624) (h2 : -1125899906842624 ≤ n2 ∧ n2 ≤ 1125899906842624) (g0 : 0 ≤ w0) (g1 : 0 ≤ w1) (g2 : 0 ≤ w2) :
    -1125899906842624 * (w0 + w1 + w2) ≤ 0 + n0 * w0 + n1 * w1 + n2 * w2 ∧ 0 + n0 * w0 + n1 * w1 + n2 * w2 ≤ 1125899906842624 * (w0 + w1 + w2) := by
  have a0 := mulw h0 g0; have a1 := mulw h1 g1; have a2 := mulw h2 g2
  omega
theorem togS_bd' {n0 n1 n2 w0 w1 w2 : Int} (h0 : -1125899906842624 ≤ n0 ∧ n0 ≤ 1125899906842624) (h1 : -1125899906842624 ≤ n1 ∧ n1 ≤ 1125899906842624) (h2 : -1125899906842624 ≤ n2 ∧ n2 ≤ 1125899906842624) (g0 : w0 ≤ 0) (g1 : w1 ≤ 0) (g2 : w2 ≤ 0) :
    -1125899906842624 * (0 - (w0 + w1 + w2)) ≤ 0 - (0 + n0 * w0 + n1 * w1 + n2 * w2) ∧ 0 - (0 + n0 * w0 + n1 * w1 + n2 * w2) ≤ 1125899906842624 * (0 - (w0 + w1 + w2)) := by
  have a0 := mulw h0 (show 0 ≤ -w0 by omega); have a1 := mulw h1 (show 0 ≤ -w1 by omega); have a2 := mulw h2 (show 0 ≤ -w2 by omega)
  rw [Int.mul_neg, Int.mul_neg, Int.mul_neg] at a0 a1 a2
  omega
theorem step_no (x0 x1 x2 x3 x4 x5 x6 x7 x8 x9 x10 C y x : Int) (h : G 63 [x0, x1, x2, x3, x4, x5, x * 256 + 128, y * 256 + 128] = 0) : stepC [x0, x1, x2, x3, x4, x5, x6, x7, x8, x9, x10] C y x = C := if_pos h
theorem step_pos (x0 x1 x2 x3 x4 x5 x6 x7 x8 x9 x10 C y x : Int) (h : ¬ G 63 [x0, x1, x2, x3, x4, x5, x * 256 + 128, y * 256 + 128] = 0) (hs : ¬ (G 64 [x0, x1, x2, x3, x4, x5, x * 256 + 128, y * 256 + 128] + G 65 [x0, x1, x2, x3, x4, x5, x * 256 + 128, y * 256 + 128] + G 66 [x0, x1, x2, x3, x4, x5, x * 256 + 128, y * 256 + 128]) < 0) : stepC [x0, x1, x2, x3, x4, x5, x6, x7, x8, x9, x10] C y x = G 92 [C, y * 12 + x, 1, x10, 0, 0, max (-2147483648) (min 2147483647 (G 71 [G 71 [(0 + x6 * G 64 [x0, x1, x2, x3, x4, x5, x * 256 + 128, y * 256 + 128] + x7 * G 65 [x0, x1, x2, x3, x4, x5, x * 256 + 128, y * 256 + 128] + x8 * G 66 [x0, x1, x2, x3, x4, x5, x * 256 + 128, y * 256 + 128]) * 2 + (G 64 [x0, x1, x2, x3, x4, x5, x * 256 + 128, y * 256 + 128] + G 65 [x0, x1, x2, x3, x4, x5, x * 256 + 128, y * 256 + 128] + G 66 [x0, x1, x2, x3, x4, x5, x * 256 + 128, y * 256 + 128]) * x9, x9], 2 * (G 64 [x0, x1, x2, x3, x4, x5, x * 256 + 128, y * 256 + 128] + G 65 [x0, x1, x2, x3, x4, x5, x * 256 + 128, y * 256 + 128] + G 66 [x0, x1, x2, x3, x4, x5, x * 256 + 128, y * 256 + 128])])), 0, 0, 0] := by
  show (if G 63 [x0, x1, x2, x3, x4, x5, x * 256 + 128, y * 256 + 128] = 0 then C else wG 92 [C, y * 12 + x, 1, x10, 0, 0, xG70 [x6, x7, x8, x9, G 64 [x0, x1, x2, x3, x4, x5, x * 256 + 128, y * 256 + 128], G 65 [x0, x1, x2, x3, x4, x5, x * 256 + 128, y * 256 + 128], G 66 [x0, x1, x2, x3, x4, x5, x * 256 + 128, y * 256 + 128]], 0, 0, 0]) = _
  rw [if_neg h]
  have e : xG70 [x6, x7, x8, x9, G 64 [x0, x1, x2, x3, x4, x5, x * 256 + 128, y * 256 + 128], G 65 [x0, x1, x2, x3, x4, x5, x * 256 + 128, y * 256 + 128], G 66 [x0, x1, x2, x3, x4, x5, x * 256 + 128, y * 256 + 128]] = max (-2147483648) (min 2147483647 (G 71 [G 71 [(0 + x6 * G 64 [x0, x1, x2, x3, x4, x5, x * 256 + 128, y * 256 + 128] + x7 * G 65 [x0, x1, x2, x3, x4, x5, x * 256 + 128, y * 256 + 128] + x8 * G 66 [x0, x1, x2, x3, x4, x5, x * 256 + 128, y * 256 + 128]) * 2 + (G 64 [x0, x1, x2, x3, x4, x5, x * 256 + 128, y * 256 + 128] + G 65 [x0, x1, x2, x3, x4, x5, x * 256 + 128, y * 256 + 128] + G 66 [x0, x1, x2, x3, x4, x5, x * 256 + 128, y * 256 + 128]) * x9, x9], 2 * (G 64 [x0, x1, x2, x3, x4, x5, x * 256 + 128, y * 256 + 128] + G 65 [x0, x1, x2, x3, x4, x5, x * 256 + 128, y * 256 + 128] + G 66 [x0, x1, x2, x3, x4, x5, x * 256 + 128, y * 256 + 128])])) := if_neg hs
  rw [e]
  rfl
theorem step_neg (x0 x1 x2 x3 x4 x5 x6 x7 x8 x9 x10 C y x : Int) (h : ¬ G 63 [x0, x1, x2, x3, x4, x5, x * 256 + 128, y * 256 + 128] = 0) (hs : (G 64 [x0, x1, x2, x3, x4, x5, x * 256 + 128, y * 256 + 128] + G 65 [x0, x1, x2, x3, x4, x5, x * 256 + 128, y * 256 + 128] + G 66 [x0, x1, x2, x3, x4, x5, x * 256 + 128, y * 256 + 128]) < 0) : stepC [x0, x1, x2, x3, x4, x5, x6, x7, x8, x9, x10] C y x = G 92 [C, y * 12 + x, 1, x10, 0, 0, max (-2147483648) (min 2147483647 (G 71 [G 71 [(0 - (0 + x6 * G 64 [x0, x1, x2, x3, x4, x5, x * 256 + 128, y * 256 + 128] + x7 * G 65 [x0, x1, x2, x3, x4, x5, x * 256 + 128, y * 256 + 128] + x8 * G 66 [x0, x1, x2, x3, x4, x5, x * 256 + 128, y * 256 + 128])) * 2 + (0 - (G 64 [x0, x1, x2, x3, x4, x5, x * 256 + 128, y * 256 + 128] + G 65 [x0, x1, x2, x3, x4, x5, x * 256 + 128, y * 256 + 128] + G 66 [x0, x1, x2, x3, x4, x5, x * 256 + 128, y * 256 + 128])) * x9, x9], 2 * (0 - (G 64 [x0, x1, x2, x3, x4, x5, x * 256 + 128, y * 256 + 128] + G 65 [x0, x1, x2, x3, x4, x5, x * 256 + 128, y * 256 + 128] + G 66 [x0, x1, x2, x3, x4, x5, x * 256 + 128, y * 256 + 128]))])), 0, 0, 0] := by
  show (if G 63 [x0, x1, x2, x3, x4, x5, x * 256 + 128, y * 256 + 128] = 0 then C else wG 92 [C, y * 12 + x, 1, x10, 0, 0, xG70 [x6, x7, x8, x9, G 64 [x0, x1, x2, x3, x4, x5, x * 256 + 128, y * 256 + 128], G 65 [x0, x1, x2, x3, x4, x5, x * 256 + 128, y * 256 + 128], G 66 [x0, x1, x2, x3, x4, x5, x * 256 + 128, y * 256 + 128]], 0, 0, 0]) = _
  rw [if_neg h]
  have e : xG70 [x6, x7, x8, x9, G 64 [x0, x1, x2, x3, x4, x5, x * 256 + 128, y * 256 + 128], G 65 [x0, x1, x2, x3, x4, x5, x * 256 + 128, y * 256 + 128], G 66 [x0, x1, x2, x3, x4, x5, x * 256 + 128, y * 256 + 128]] = max (-2147483648) (min 2147483647 (G 71 [G 71 [(0 - (0 + x6 * G 64 [x0, x1, x2, x3, x4, x5, x * 256 + 128, y * 256 + 128] + x7 * G 65 [x0, x1, x2, x3, x4, x5, x * 256 + 128, y * 256 + 128] + x8 * G 66 [x0, x1, x2, x3, x4, x5, x * 256 + 128, y * 256 + 128])) * 2 + (0 - (G 64 [x0, x1, x2, x3, x4, x5, x * 256 + 128, y * 256 + 128] + G 65 [x0, x1, x2, x3, x4, x5, x * 256 + 128, y * 256 + 128] + G 66 [x0, x1, x2, x3, x4, x5, x * 256 + 128, y * 256 + 128])) * x9, x9], 2 * (0 - (G 64 [x0, x1, x2, x3, x4, x5, x * 256 + 128, y * 256 + 128] + G 65 [x0, x1, x2, x3, x4, x5, x * 256 + 128, y * 256 + 128] + G 66 [x0, x1, x2, x3, x4, x5, x * 256 + 128, y * 256 + 128]))])) := if_pos hs
  rw [e]
  rfl
theorem board_next (x0 x1 x2 x3 x4 x5 x6 x7 x8 x9 x10 y : Int) (hy : tops [x0, x1, x2, x3, x4, x5, x6, x7, x8, x9, x10] ≤ y) : G 73 [x0, x1, x2, x3, x4, x5, x6, x7, x8, x9, x10, y + 1] = rowC [x0, x1, x2, x3, x4, x5, x6, x7, x8, x9, x10] (boardC [x0, x1, x2, x3, x4, x5, x6, x7, x8, x9, x10] (y - tops [x0, x1, x2, x3, x4, x5, x6, x7, x8, x9, x10]).toNat) y (rights [x0, x1, x2, x3, x4, x5, x6, x7, x8, x9, x10] - lefts [x0, x1, x2, x3, x4, x5, x6, x7, x8, x9, x10]).toNat := by
  show boardC [x0, x1, x2, x3, x4, x5, x6, x7, x8, x9, x10] (y + 1 - tops [x0, x1, x2, x3, x4, x5, x6, x7, x8, x9, x10]).toNat = _
  have e : (y + 1 - tops [x0, x1, x2, x3, x4, x5, x6, x7, x8, x9, x10]).toNat = (y - tops [x0, x1, x2, x3, x4, x5, x6, x7, x8, x9, x10]).toNat + 1 := by omega
  rw [e]
  show rowC [x0, x1, x2, x3, x4, x5, x6, x7, x8, x9, x10] (boardC [x0, x1, x2, x3, x4, x5, x6, x7, x8, x9, x10] (y - tops [x0, x1, x2, x3, x4, x5, x6, x7, x8, x9, x10]).toNat) (tops [x0, x1, x2, x3, x4, x5, x6, x7, x8, x9, x10] + ((y - tops [x0, x1, x2, x3, x4, x5, x6, x7, x8, x9, x10]).toNat : Int)) _ = _
  have e2 : tops [x0, x1, x2, x3, x4, x5, x6, x7, x8, x9, x10] + ((y - tops [x0, x1, x2, x3, x4, x5, x6, x7, x8, x9, x10]).toNat : Int) = y := by omega
  rw [e2]
theorem board_at (x0 x1 x2 x3 x4 x5 x6 x7 x8 x9 x10 y : Int) : G 73 [x0, x1, x2, x3, x4, x5, x6, x7, x8, x9, x10, y] = boardC [x0, x1, x2, x3, x4, x5, x6, x7, x8, x9, x10] (y - tops [x0, x1, x2, x3, x4, x5, x6, x7, x8, x9, x10]).toNat := rfl
theorem left_bd (a b c : Int) (h : (-671088640 ≤ a ∧ a ≤ 671088640) ∧ (-671088640 ≤ b ∧ b ≤ 671088640) ∧ (-671088640 ≤ c ∧ c ≤ 671088640)) : 0 ≤ leftP a b c ∧ leftP a b c ≤ 2700000 := by
  unfold leftP
  rw [Int.fdiv_eq_ediv_of_nonneg _ (by decide)]
  omega
theorem right_bd (a b c : Int) : rightP a b c ≤ 12 := by unfold rightP; omega
theorem fine_pos {x0 x1 x2 x3 x4 x5 x6 x7 x8 x9 u v : Int} (b6 : -1125899906842624 ≤ x6 ∧ x6 ≤ 1125899906842624) (b7 : -1125899906842624 ≤ x7 ∧ x7 ≤ 1125899906842624) (b8 : -1125899906842624 ≤ x8 ∧ x8 ≤ 1125899906842624) (b9 : 1 ≤ x9 ∧ x9 ≤ 65535) (h : ¬ G 63 [x0, x1, x2, x3, x4, x5, u, v] = 0) (hs : ¬ (G 64 [x0, x1, x2, x3, x4, x5, u, v] + G 65 [x0, x1, x2, x3, x4, x5, u, v] + G 66 [x0, x1, x2, x3, x4, x5, u, v]) < 0) : 2 * (G 64 [x0, x1, x2, x3, x4, x5, u, v] + G 65 [x0, x1, x2, x3, x4, x5, u, v] + G 66 [x0, x1, x2, x3, x4, x5, u, v]) ≤ 9223372036854775807 ∧ 1 ≤ 2 * (G 64 [x0, x1, x2, x3, x4, x5, u, v] + G 65 [x0, x1, x2, x3, x4, x5, u, v] + G 66 [x0, x1, x2, x3, x4, x5, u, v]) ∧ -9223372036854775808 ≤ G 71 [G 71 [(0 + x6 * G 64 [x0, x1, x2, x3, x4, x5, u, v] + x7 * G 65 [x0, x1, x2, x3, x4, x5, u, v] + x8 * G 66 [x0, x1, x2, x3, x4, x5, u, v]) * 2 + (G 64 [x0, x1, x2, x3, x4, x5, u, v] + G 65 [x0, x1, x2, x3, x4, x5, u, v] + G 66 [x0, x1, x2, x3, x4, x5, u, v]) * x9, x9], 2 * (G 64 [x0, x1, x2, x3, x4, x5, u, v] + G 65 [x0, x1, x2, x3, x4, x5, u, v] + G 66 [x0, x1, x2, x3, x4, x5, u, v])] ∧ G 71 [G 71 [(0 + x6 * G 64 [x0, x1, x2, x3, x4, x5, u, v] + x7 * G 65 [x0, x1, x2, x3, x4, x5, u, v] + x8 * G 66 [x0, x1, x2, x3, x4, x5, u, v]) * 2 + (G 64 [x0, x1, x2, x3, x4, x5, u, v] + G 65 [x0, x1, x2, x3, x4, x5, u, v] + G 66 [x0, x1, x2, x3, x4, x5, u, v]) * x9, x9], 2 * (G 64 [x0, x1, x2, x3, x4, x5, u, v] + G 65 [x0, x1, x2, x3, x4, x5, u, v] + G 66 [x0, x1, x2, x3, x4, x5, u, v])] ≤ 9223372036854775807 := by
  obtain ⟨hA, hw⟩ := claim_w h
  have hA' : -3602879701896396800 ≤ (G 64 [x0, x1, x2, x3, x4, x5, u, v] + G 65 [x0, x1, x2, x3, x4, x5, u, v] + G 66 [x0, x1, x2, x3, x4, x5, u, v]) ∧ (G 64 [x0, x1, x2, x3, x4, x5, u, v] + G 65 [x0, x1, x2, x3, x4, x5, u, v] + G 66 [x0, x1, x2, x3, x4, x5, u, v]) ≤ 3602879701896396800 := hA
  rcases hw with ⟨p0, p1, p2, p3⟩ | ⟨p0, p1, p2, p3⟩
  · have p3' : 1 ≤ (G 64 [x0, x1, x2, x3, x4, x5, u, v] + G 65 [x0, x1, x2, x3, x4, x5, u, v] + G 66 [x0, x1, x2, x3, x4, x5, u, v]) := p3
    have hS := togS_bd b6 b7 b8 p0 p1 p2
    have hq := q_bd (s := (0 + x6 * G 64 [x0, x1, x2, x3, x4, x5, u, v] + x7 * G 65 [x0, x1, x2, x3, x4, x5, u, v] + x8 * G 66 [x0, x1, x2, x3, x4, x5, u, v])) (a := (G 64 [x0, x1, x2, x3, x4, x5, u, v] + G 65 [x0, x1, x2, x3, x4, x5, u, v] + G 66 [x0, x1, x2, x3, x4, x5, u, v])) (d := x9) p3' b9 hS
    exact ⟨by omega, by omega, hq.1, hq.2⟩
  · exact absurd (show (G 64 [x0, x1, x2, x3, x4, x5, u, v] + G 65 [x0, x1, x2, x3, x4, x5, u, v] + G 66 [x0, x1, x2, x3, x4, x5, u, v]) < 0 from Int.lt_of_le_of_lt p3 (by decide)) hs
theorem fine_neg {x0 x1 x2 x3 x4 x5 x6 x7 x8 x9 u v : Int} (b6 : -1125899906842624 ≤ x6 ∧ x6 ≤ 1125899906842624) (b7 : -1125899906842624 ≤ x7 ∧ x7 ≤ 1125899906842624) (b8 : -1125899906842624 ≤ x8 ∧ x8 ≤ 1125899906842624) (b9 : 1 ≤ x9 ∧ x9 ≤ 65535) (h : ¬ G 63 [x0, x1, x2, x3, x4, x5, u, v] = 0) (hs : (G 64 [x0, x1, x2, x3, x4, x5, u, v] + G 65 [x0, x1, x2, x3, x4, x5, u, v] + G 66 [x0, x1, x2, x3, x4, x5, u, v]) < 0) : 2 * (0 - (G 64 [x0, x1, x2, x3, x4, x5, u, v] + G 65 [x0, x1, x2, x3, x4, x5, u, v] + G 66 [x0, x1, x2, x3, x4, x5, u, v])) ≤ 9223372036854775807 ∧ -9223372036854775808 ≤ G 71 [G 71 [(0 - (0 + x6 * G 64 [x0, x1, x2, x3, x4, x5, u, v] + x7 * G 65 [x0, x1, x2, x3, x4, x5, u, v] + x8 * G 66 [x0, x1, x2, x3, x4, x5, u, v])) * 2 + (0 - (G 64 [x0, x1, x2, x3, x4, x5, u, v] + G 65 [x0, x1, x2, x3, x4, x5, u, v] + G 66 [x0, x1, x2, x3, x4, x5, u, v])) * x9, x9], 2 * (0 - (G 64 [x0, x1, x2, x3, x4, x5, u, v] + G 65 [x0, x1, x2, x3, x4, x5, u, v] + G 66 [x0, x1, x2, x3, x4, x5, u, v]))] ∧ G 71 [G 71 [(0 - (0 + x6 * G 64 [x0, x1, x2, x3, x4, x5, u, v] + x7 * G 65 [x0, x1, x2, x3, x4, x5, u, v] + x8 * G 66 [x0, x1, x2, x3, x4, x5, u, v])) * 2 + (0 - (G 64 [x0, x1, x2, x3, x4, x5, u, v] + G 65 [x0, x1, x2, x3, x4, x5, u, v] + G 66 [x0, x1, x2, x3, x4, x5, u, v])) * x9, x9], 2 * (0 - (G 64 [x0, x1, x2, x3, x4, x5, u, v] + G 65 [x0, x1, x2, x3, x4, x5, u, v] + G 66 [x0, x1, x2, x3, x4, x5, u, v]))] ≤ 9223372036854775807 := by
  obtain ⟨hA, hw⟩ := claim_w h
  have hA' : -3602879701896396800 ≤ (G 64 [x0, x1, x2, x3, x4, x5, u, v] + G 65 [x0, x1, x2, x3, x4, x5, u, v] + G 66 [x0, x1, x2, x3, x4, x5, u, v]) ∧ (G 64 [x0, x1, x2, x3, x4, x5, u, v] + G 65 [x0, x1, x2, x3, x4, x5, u, v] + G 66 [x0, x1, x2, x3, x4, x5, u, v]) ≤ 3602879701896396800 := hA
  rcases hw with ⟨p0, p1, p2, p3⟩ | ⟨p0, p1, p2, p3⟩
  · have p3' : 1 ≤ (G 64 [x0, x1, x2, x3, x4, x5, u, v] + G 65 [x0, x1, x2, x3, x4, x5, u, v] + G 66 [x0, x1, x2, x3, x4, x5, u, v]) := p3
    omega
  · have p3' : (G 64 [x0, x1, x2, x3, x4, x5, u, v] + G 65 [x0, x1, x2, x3, x4, x5, u, v] + G 66 [x0, x1, x2, x3, x4, x5, u, v]) ≤ -1 := p3
    have hS := togS_bd' b6 b7 b8 p0 p1 p2
    have hq := q_bd (s := 0 - (0 + x6 * G 64 [x0, x1, x2, x3, x4, x5, u, v] + x7 * G 65 [x0, x1, x2, x3, x4, x5, u, v] + x8 * G 66 [x0, x1, x2, x3, x4, x5, u, v])) (a := 0 - (G 64 [x0, x1, x2, x3, x4, x5, u, v] + G 65 [x0, x1, x2, x3, x4, x5, u, v] + G 66 [x0, x1, x2, x3, x4, x5, u, v])) (d := x9) (by omega) b9 hS
    exact ⟨by omega, hq.1, hq.2⟩
theorem lefts_eq (x0 x1 x2 x3 x4 x5 x6 x7 x8 x9 x10 : Int) : lefts [x0, x1, x2, x3, x4, x5, x6, x7, x8, x9, x10] = max 0 (Int.fdiv (min (min x0 x2) x4 - 128 + 256 - 1) 256) := rfl
theorem rights_eq (x0 x1 x2 x3 x4 x5 x6 x7 x8 x9 x10 : Int) : rights [x0, x1, x2, x3, x4, x5, x6, x7, x8, x9, x10] = min 12 (Int.fdiv (max (max x0 x2) x4 - 128) 256 + 1) := rfl
def pin_rho (x0 x1 x2 x3 x4 x5 x6 x7 x8 x9 x10 y : Int) (j : Nat) : Nat → Int := rho (([x0, x1, x2, x3, x4, x5, x6, x7, x8, x9, x10, y] : List Int) ++ [lefts [x0, x1, x2, x3, x4, x5, x6, x7, x8, x9, x10] + (j : Int), rowC [x0, x1, x2, x3, x4, x5, x6, x7, x8, x9, x10] (boardC [x0, x1, x2, x3, x4, x5, x6, x7, x8, x9, x10] (y - tops [x0, x1, x2, x3, x4, x5, x6, x7, x8, x9, x10]).toNat) y j])
theorem pin_vars (x0 x1 x2 x3 x4 x5 x6 x7 x8 x9 x10 y : Int) (b0 : (-671088640) ≤ x0 ∧ x0 ≤ 671088640) (b1 : (-671088640) ≤ x1 ∧ x1 ≤ 671088640) (b2 : (-671088640) ≤ x2 ∧ x2 ≤ 671088640) (b3 : (-671088640) ≤ x3 ∧ x3 ≤ 671088640) (b4 : (-671088640) ≤ x4 ∧ x4 ≤ 671088640) (b5 : (-671088640) ≤ x5 ∧ x5 ≤ 671088640) (b6 : (-1125899906842624) ≤ x6 ∧ x6 ≤ 1125899906842624) (b7 : (-1125899906842624) ≤ x7 ∧ x7 ≤ 1125899906842624) (b8 : (-1125899906842624) ≤ x8 ∧ x8 ≤ 1125899906842624) (b9 : 1 ≤ x9 ∧ x9 ≤ 65535) (b10 : (-9223372036854775808) ≤ x10 ∧ x10 ≤ 9223372036854775807) (by_ : 0 ≤ y ∧ y ≤ 11) (j : Nat) (hj : j ≤ (rights [x0, x1, x2, x3, x4, x5, x6, x7, x8, x9, x10] - lefts [x0, x1, x2, x3, x4, x5, x6, x7, x8, x9, x10]).toNat) : ∀ i q, pin_vt[i]? = some q → q.1 ≤ pin_rho x0 x1 x2 x3 x4 x5 x6 x7 x8 x9 x10 y j i ∧ pin_rho x0 x1 x2 x3 x4 x5 x6 x7 x8 x9 x10 y j i ≤ q.2 := by
  have hl : 0 ≤ lefts [x0, x1, x2, x3, x4, x5, x6, x7, x8, x9, x10] ∧ lefts [x0, x1, x2, x3, x4, x5, x6, x7, x8, x9, x10] ≤ 2700000 := left_bd x0 x2 x4 ⟨b0, b2, b4⟩
  have hr : rights [x0, x1, x2, x3, x4, x5, x6, x7, x8, x9, x10] ≤ 12 := right_bd x0 x2 x4
  unfold pin_rho pin_vt
  have e : ([x0, x1, x2, x3, x4, x5, x6, x7, x8, x9, x10, y] : List Int) ++ [lefts [x0, x1, x2, x3, x4, x5, x6, x7, x8, x9, x10] + (j : Int), rowC [x0, x1, x2, x3, x4, x5, x6, x7, x8, x9, x10] (boardC [x0, x1, x2, x3, x4, x5, x6, x7, x8, x9, x10] (y - tops [x0, x1, x2, x3, x4, x5, x6, x7, x8, x9, x10]).toNat) y j] = [x0, x1, x2, x3, x4, x5, x6, x7, x8, x9, x10, y, lefts [x0, x1, x2, x3, x4, x5, x6, x7, x8, x9, x10] + (j : Int)] ++ [rowC [x0, x1, x2, x3, x4, x5, x6, x7, x8, x9, x10] (boardC [x0, x1, x2, x3, x4, x5, x6, x7, x8, x9, x10] (y - tops [x0, x1, x2, x3, x4, x5, x6, x7, x8, x9, x10]).toNat) y j] := rfl
  rw [e]
  exact within_app (by exact ⟨b0, b1, b2, b3, b4, b5, b6, b7, b8, b9, b10, by_, by omega, trivial⟩)
set_option maxHeartbeats 2000000 in
set_option maxRecDepth 100000 in
theorem pin_way (x0 x1 x2 x3 x4 x5 x6 x7 x8 x9 x10 y z : Int) (b0 : (-671088640) ≤ x0 ∧ x0 ≤ 671088640) (b1 : (-671088640) ≤ x1 ∧ x1 ≤ 671088640) (b2 : (-671088640) ≤ x2 ∧ x2 ≤ 671088640) (b3 : (-671088640) ≤ x3 ∧ x3 ≤ 671088640) (b4 : (-671088640) ≤ x4 ∧ x4 ≤ 671088640) (b5 : (-671088640) ≤ x5 ∧ x5 ≤ 671088640) (b6 : (-1125899906842624) ≤ x6 ∧ x6 ≤ 1125899906842624) (b7 : (-1125899906842624) ≤ x7 ∧ x7 ≤ 1125899906842624) (b8 : (-1125899906842624) ≤ x8 ∧ x8 ≤ 1125899906842624) (b9 : 1 ≤ x9 ∧ x9 ≤ 65535) (b10 : (-9223372036854775808) ≤ x10 ∧ x10 ≤ 9223372036854775807) (by_ : 0 ≤ y ∧ y ≤ 11) (hy : tops [x0, x1, x2, x3, x4, x5, x6, x7, x8, x9, x10] ≤ y) (j : Nat) (hj : j ≤ (rights [x0, x1, x2, x3, x4, x5, x6, x7, x8, x9, x10] - lefts [x0, x1, x2, x3, x4, x5, x6, x7, x8, x9, x10]).toNat) : Sx.Way (pin_round Try.prog) G (pin_rho x0 x1 x2 x3 x4 x5 x6 x7 x8 x9 x10 y j) (RoundP G (pin_rho x0 x1 x2 x3 x4 x5 x6 x7 x8 x9 x10 y) (rho (([x0, x1, x2, x3, x4, x5, x6, x7, x8, x9, x10, y] : List Int) ++ [z])) 12 (.lit true) (fun j => j ≤ (rights [x0, x1, x2, x3, x4, x5, x6, x7, x8, x9, x10] - lefts [x0, x1, x2, x3, x4, x5, x6, x7, x8, x9, x10]).toNat) (fun j => (rights [x0, x1, x2, x3, x4, x5, x6, x7, x8, x9, x10] - lefts [x0, x1, x2, x3, x4, x5, x6, x7, x8, x9, x10]).toNat - j) j) [] := by
  refine way_cut pinw_b0 (fun h0 => ?_) (fun h0 => ?_)
  rotate_left
  · skip
    refine way_leaf pinw_n24 ?_
    unfold pinw_b0 at h0; unfold pinw_L2; have hl : 0 ≤ lefts [x0, x1, x2, x3, x4, x5, x6, x7, x8, x9, x10] ∧ lefts [x0, x1, x2, x3, x4, x5, x6, x7, x8, x9, x10] ≤ 2700000 := left_bd x0 x2 x4 ⟨b0, b2, b4⟩; have hr : rights [x0, x1, x2, x3, x4, x5, x6, x7, x8, x9, x10] ≤ 12 := right_bd x0 x2 x4; have el := lefts_eq x0 x1 x2 x3 x4 x5 x6 x7 x8 x9 x10; have er := rights_eq x0 x1 x2 x3 x4 x5 x6 x7 x8 x9 x10; simp only [nn, pin_rho, List.cons_append, List.nil_append, lenE, ne_eq] at h0; rw [← er] at h0; have hn : j = (rights [x0, x1, x2, x3, x4, x5, x6, x7, x8, x9, x10] - lefts [x0, x1, x2, x3, x4, x5, x6, x7, x8, x9, x10]).toNat := (by omega); have ec : rowC [x0, x1, x2, x3, x4, x5, x6, x7, x8, x9, x10] (boardC [x0, x1, x2, x3, x4, x5, x6, x7, x8, x9, x10] (y - tops [x0, x1, x2, x3, x4, x5, x6, x7, x8, x9, x10]).toNat) y j = G 73 [x0, x1, x2, x3, x4, x5, x6, x7, x8, x9, x10, y + 1] := (by rw [hn, board_next x0 x1 x2 x3 x4 x5 x6 x7 x8 x9 x10 y hy]); clear h0 el er; simp only [RoundP]; refine ⟨rfl, low_app (by simp), ?_⟩; simp only [AgreeSV]; simp only [nn, pin_rho, List.cons_append, List.nil_append, lenE, ne_eq] at ec ⊢; (repeat' refine And.intro ?_ ?_) <;> first | with_reducible exact ec | with_reducible trivial
  refine way_cut pinw_b1 (fun h1 => ?_) (fun h1 => ?_)
  rotate_left
  · skip
    refine way_leaf pinw_n23 ?_
    unfold pinw_b0 at h0; unfold pinw_b1 at h1; have hl : 0 ≤ lefts [x0, x1, x2, x3, x4, x5, x6, x7, x8, x9, x10] ∧ lefts [x0, x1, x2, x3, x4, x5, x6, x7, x8, x9, x10] ≤ 2700000 := left_bd x0 x2 x4 ⟨b0, b2, b4⟩; have hr : rights [x0, x1, x2, x3, x4, x5, x6, x7, x8, x9, x10] ≤ 12 := right_bd x0 x2 x4; have el := lefts_eq x0 x1 x2 x3 x4 x5 x6 x7 x8 x9 x10; have er := rights_eq x0 x1 x2 x3 x4 x5 x6 x7 x8 x9 x10; have hlt : lefts [x0, x1, x2, x3, x4, x5, x6, x7, x8, x9, x10] + (j : Int) < rights [x0, x1, x2, x3, x4, x5, x6, x7, x8, x9, x10] := (by clear h1; simp only [nn, pin_rho, List.cons_append, List.nil_append, lenE, ne_eq] at h0; rw [er]; exact h0); have ec : rowC [x0, x1, x2, x3, x4, x5, x6, x7, x8, x9, x10] (boardC [x0, x1, x2, x3, x4, x5, x6, x7, x8, x9, x10] (y - tops [x0, x1, x2, x3, x4, x5, x6, x7, x8, x9, x10]).toNat) y (j + 1) = _ := step_no x0 x1 x2 x3 x4 x5 x6 x7 x8 x9 x10 (rowC [x0, x1, x2, x3, x4, x5, x6, x7, x8, x9, x10] (boardC [x0, x1, x2, x3, x4, x5, x6, x7, x8, x9, x10] (y - tops [x0, x1, x2, x3, x4, x5, x6, x7, x8, x9, x10]).toNat) y j) y (lefts [x0, x1, x2, x3, x4, x5, x6, x7, x8, x9, x10] + (j : Int)) (by have h1' := h1; simp only [nn, pin_rho, List.cons_append, List.nil_append, lenE, ne_eq] at h1'; first | exact h1' | exact Classical.not_not.1 h1'); clear el er h0 h1; have hm : (rights [x0, x1, x2, x3, x4, x5, x6, x7, x8, x9, x10] - lefts [x0, x1, x2, x3, x4, x5, x6, x7, x8, x9, x10]).toNat - (j + 1) < (rights [x0, x1, x2, x3, x4, x5, x6, x7, x8, x9, x10] - lefts [x0, x1, x2, x3, x4, x5, x6, x7, x8, x9, x10]).toNat - j := (by omega); have hg : j + 1 ≤ (rights [x0, x1, x2, x3, x4, x5, x6, x7, x8, x9, x10] - lefts [x0, x1, x2, x3, x4, x5, x6, x7, x8, x9, x10]).toNat := (by omega); simp only [RoundP]; refine ⟨j + 1, hg, hm, low_app (by simp), ?_⟩; simp only [AgreeSV]; clear hm hg hlt hl hr; simp only [nn, pin_rho, List.cons_append, List.nil_append, lenE, ne_eq]; (repeat' refine And.intro ?_ ?_) <;> first | with_reducible exact ec.symm | omega | with_reducible trivial
  refine way_cut pinw_b2 (fun h2 => ?_) (fun h2 => ?_)
  · skip
    refine way_cut pinw_b3 (fun h3 => ?_) (fun h3 => ?_)
    rotate_left
    · skip
      refine way_bad ?_
      unfold pinw_b0 at h0; unfold pinw_b1 at h1; unfold pinw_b2 at h2; unfold pinw_b3 at h3; have hl : 0 ≤ lefts [x0, x1, x2, x3, x4, x5, x6, x7, x8, x9, x10] ∧ lefts [x0, x1, x2, x3, x4, x5, x6, x7, x8, x9, x10] ≤ 2700000 := left_bd x0 x2 x4 ⟨b0, b2, b4⟩; have hr : rights [x0, x1, x2, x3, x4, x5, x6, x7, x8, x9, x10] ≤ 12 := right_bd x0 x2 x4; have el := lefts_eq x0 x1 x2 x3 x4 x5 x6 x7 x8 x9 x10; have er := rights_eq x0 x1 x2 x3 x4 x5 x6 x7 x8 x9 x10; have hlt : lefts [x0, x1, x2, x3, x4, x5, x6, x7, x8, x9, x10] + (j : Int) < rights [x0, x1, x2, x3, x4, x5, x6, x7, x8, x9, x10] := (by clear h1 h2 h3; simp only [nn, pin_rho, List.cons_append, List.nil_append, lenE, ne_eq] at h0; rw [er]; exact h0); clear h0 el er; simp only [nn, pin_rho, List.cons_append, List.nil_append, lenE, ne_eq] at h1 h2 h3; first | with_reducible exact absurd (fine_neg b6 b7 b8 b9 h1 h2).1 h3 | with_reducible exact absurd (fine_neg b6 b7 b8 b9 h1 h2).2.1 h3 | with_reducible exact absurd (fine_neg b6 b7 b8 b9 h1 h2).2.2 h3 | with_reducible exact absurd (fine_pos b6 b7 b8 b9 h1 h2).1 h3 | with_reducible exact absurd (fine_pos b6 b7 b8 b9 h1 h2).2.1 h3 | with_reducible exact absurd (fine_pos b6 b7 b8 b9 h1 h2).2.2.1 h3 | with_reducible exact absurd (fine_pos b6 b7 b8 b9 h1 h2).2.2.2 h3 | omega
    refine way_cut pinw_b4 (fun h4 => ?_) (fun h4 => ?_)
    rotate_left
    · skip
      refine way_bad ?_
      unfold pinw_b0 at h0; unfold pinw_b1 at h1; unfold pinw_b2 at h2; unfold pinw_b3 at h3; unfold pinw_b4 at h4; have hl : 0 ≤ lefts [x0, x1, x2, x3, x4, x5, x6, x7, x8, x9, x10] ∧ lefts [x0, x1, x2, x3, x4, x5, x6, x7, x8, x9, x10] ≤ 2700000 := left_bd x0 x2 x4 ⟨b0, b2, b4⟩; have hr : rights [x0, x1, x2, x3, x4, x5, x6, x7, x8, x9, x10] ≤ 12 := right_bd x0 x2 x4; have el := lefts_eq x0 x1 x2 x3 x4 x5 x6 x7 x8 x9 x10; have er := rights_eq x0 x1 x2 x3 x4 x5 x6 x7 x8 x9 x10; have hlt : lefts [x0, x1, x2, x3, x4, x5, x6, x7, x8, x9, x10] + (j : Int) < rights [x0, x1, x2, x3, x4, x5, x6, x7, x8, x9, x10] := (by clear h1 h2 h3 h4; simp only [nn, pin_rho, List.cons_append, List.nil_append, lenE, ne_eq] at h0; rw [er]; exact h0); clear h0 h3 el er; simp only [nn, pin_rho, List.cons_append, List.nil_append, lenE, ne_eq] at h1 h2 h4; first | with_reducible exact absurd (fine_neg b6 b7 b8 b9 h1 h2).1 h4 | with_reducible exact absurd (fine_neg b6 b7 b8 b9 h1 h2).2.1 h4 | with_reducible exact absurd (fine_neg b6 b7 b8 b9 h1 h2).2.2 h4 | with_reducible exact absurd (fine_pos b6 b7 b8 b9 h1 h2).1 h4 | with_reducible exact absurd (fine_pos b6 b7 b8 b9 h1 h2).2.1 h4 | with_reducible exact absurd (fine_pos b6 b7 b8 b9 h1 h2).2.2.1 h4 | with_reducible exact absurd (fine_pos b6 b7 b8 b9 h1 h2).2.2.2 h4 | omega
    refine way_cut pinw_b5 (fun h5 => ?_) (fun h5 => ?_)
    rotate_left
    · skip
      refine way_bad ?_
      unfold pinw_b0 at h0; unfold pinw_b1 at h1; unfold pinw_b2 at h2; unfold pinw_b3 at h3; unfold pinw_b4 at h4; unfold pinw_b5 at h5; have hl : 0 ≤ lefts [x0, x1, x2, x3, x4, x5, x6, x7, x8, x9, x10] ∧ lefts [x0, x1, x2, x3, x4, x5, x6, x7, x8, x9, x10] ≤ 2700000 := left_bd x0 x2 x4 ⟨b0, b2, b4⟩; have hr : rights [x0, x1, x2, x3, x4, x5, x6, x7, x8, x9, x10] ≤ 12 := right_bd x0 x2 x4; have el := lefts_eq x0 x1 x2 x3 x4 x5 x6 x7 x8 x9 x10; have er := rights_eq x0 x1 x2 x3 x4 x5 x6 x7 x8 x9 x10; have hlt : lefts [x0, x1, x2, x3, x4, x5, x6, x7, x8, x9, x10] + (j : Int) < rights [x0, x1, x2, x3, x4, x5, x6, x7, x8, x9, x10] := (by clear h1 h2 h3 h4 h5; simp only [nn, pin_rho, List.cons_append, List.nil_append, lenE, ne_eq] at h0; rw [er]; exact h0); clear h0 h3 h4 el er; simp only [nn, pin_rho, List.cons_append, List.nil_append, lenE, ne_eq] at h1 h2 h5; first | with_reducible exact absurd (fine_neg b6 b7 b8 b9 h1 h2).1 h5 | with_reducible exact absurd (fine_neg b6 b7 b8 b9 h1 h2).2.1 h5 | with_reducible exact absurd (fine_neg b6 b7 b8 b9 h1 h2).2.2 h5 | with_reducible exact absurd (fine_pos b6 b7 b8 b9 h1 h2).1 h5 | with_reducible exact absurd (fine_pos b6 b7 b8 b9 h1 h2).2.1 h5 | with_reducible exact absurd (fine_pos b6 b7 b8 b9 h1 h2).2.2.1 h5 | with_reducible exact absurd (fine_pos b6 b7 b8 b9 h1 h2).2.2.2 h5 | omega
    refine way_cut pinw_b6 (fun h6 => ?_) (fun h6 => ?_)
    · skip
      refine way_leaf pinw_n7 ?_
      unfold pinw_b0 at h0; unfold pinw_b1 at h1; unfold pinw_b2 at h2; unfold pinw_b3 at h3; unfold pinw_b4 at h4; unfold pinw_b5 at h5; unfold pinw_b6 at h6; unfold pinw_L0; have hl : 0 ≤ lefts [x0, x1, x2, x3, x4, x5, x6, x7, x8, x9, x10] ∧ lefts [x0, x1, x2, x3, x4, x5, x6, x7, x8, x9, x10] ≤ 2700000 := left_bd x0 x2 x4 ⟨b0, b2, b4⟩; have hr : rights [x0, x1, x2, x3, x4, x5, x6, x7, x8, x9, x10] ≤ 12 := right_bd x0 x2 x4; have el := lefts_eq x0 x1 x2 x3 x4 x5 x6 x7 x8 x9 x10; have er := rights_eq x0 x1 x2 x3 x4 x5 x6 x7 x8 x9 x10; have hlt : lefts [x0, x1, x2, x3, x4, x5, x6, x7, x8, x9, x10] + (j : Int) < rights [x0, x1, x2, x3, x4, x5, x6, x7, x8, x9, x10] := (by clear h1 h2 h3 h4 h5 h6; simp only [nn, pin_rho, List.cons_append, List.nil_append, lenE, ne_eq] at h0; rw [er]; exact h0); have ec : rowC [x0, x1, x2, x3, x4, x5, x6, x7, x8, x9, x10] (boardC [x0, x1, x2, x3, x4, x5, x6, x7, x8, x9, x10] (y - tops [x0, x1, x2, x3, x4, x5, x6, x7, x8, x9, x10]).toNat) y (j + 1) = _ := step_neg x0 x1 x2 x3 x4 x5 x6 x7 x8 x9 x10 (rowC [x0, x1, x2, x3, x4, x5, x6, x7, x8, x9, x10] (boardC [x0, x1, x2, x3, x4, x5, x6, x7, x8, x9, x10] (y - tops [x0, x1, x2, x3, x4, x5, x6, x7, x8, x9, x10]).toNat) y j) y (lefts [x0, x1, x2, x3, x4, x5, x6, x7, x8, x9, x10] + (j : Int)) (by have h1' := h1; simp only [nn, pin_rho, List.cons_append, List.nil_append, lenE, ne_eq] at h1'; exact h1') (by have h2' := h2; simp only [nn, pin_rho, List.cons_append, List.nil_append, lenE, ne_eq] at h2'; exact h2'); clear el er h0 h1 h2 h3 h4 h5 h6; have hm : (rights [x0, x1, x2, x3, x4, x5, x6, x7, x8, x9, x10] - lefts [x0, x1, x2, x3, x4, x5, x6, x7, x8, x9, x10]).toNat - (j + 1) < (rights [x0, x1, x2, x3, x4, x5, x6, x7, x8, x9, x10] - lefts [x0, x1, x2, x3, x4, x5, x6, x7, x8, x9, x10]).toNat - j := (by omega); have hg : j + 1 ≤ (rights [x0, x1, x2, x3, x4, x5, x6, x7, x8, x9, x10] - lefts [x0, x1, x2, x3, x4, x5, x6, x7, x8, x9, x10]).toNat := (by omega); simp only [RoundP]; refine ⟨j + 1, hg, hm, low_app (by simp), ?_⟩; simp only [AgreeSV]; clear hm hg hlt hl hr; simp only [nn, pin_rho, List.cons_append, List.nil_append, lenE, ne_eq]; (repeat' refine And.intro ?_ ?_) <;> first | with_reducible exact ec.symm | omega | with_reducible trivial
    refine way_bad ?_
    unfold pinw_b0 at h0; unfold pinw_b1 at h1; unfold pinw_b2 at h2; unfold pinw_b3 at h3; unfold pinw_b4 at h4; unfold pinw_b5 at h5; unfold pinw_b6 at h6; have hl : 0 ≤ lefts [x0, x1, x2, x3, x4, x5, x6, x7, x8, x9, x10] ∧ lefts [x0, x1, x2, x3, x4, x5, x6, x7, x8, x9, x10] ≤ 2700000 := left_bd x0 x2 x4 ⟨b0, b2, b4⟩; have hr : rights [x0, x1, x2, x3, x4, x5, x6, x7, x8, x9, x10] ≤ 12 := right_bd x0 x2 x4; have el := lefts_eq x0 x1 x2 x3 x4 x5 x6 x7 x8 x9 x10; have er := rights_eq x0 x1 x2 x3 x4 x5 x6 x7 x8 x9 x10; have hlt : lefts [x0, x1, x2, x3, x4, x5, x6, x7, x8, x9, x10] + (j : Int) < rights [x0, x1, x2, x3, x4, x5, x6, x7, x8, x9, x10] := (by clear h1 h2 h3 h4 h5 h6; simp only [nn, pin_rho, List.cons_append, List.nil_append, lenE, ne_eq] at h0; rw [er]; exact h0); clear h0 h3 h4 h5 el er; simp only [nn, pin_rho, List.cons_append, List.nil_append, lenE, ne_eq] at h1 h2 h6; first | with_reducible exact absurd (fine_neg b6 b7 b8 b9 h1 h2).1 h6 | with_reducible exact absurd (fine_neg b6 b7 b8 b9 h1 h2).2.1 h6 | with_reducible exact absurd (fine_neg b6 b7 b8 b9 h1 h2).2.2 h6 | with_reducible exact absurd (fine_pos b6 b7 b8 b9 h1 h2).1 h6 | with_reducible exact absurd (fine_pos b6 b7 b8 b9 h1 h2).2.1 h6 | with_reducible exact absurd (fine_pos b6 b7 b8 b9 h1 h2).2.2.1 h6 | with_reducible exact absurd (fine_pos b6 b7 b8 b9 h1 h2).2.2.2 h6 | omega
  refine way_cut pinw_b7 (fun h3 => ?_) (fun h3 => ?_)
  rotate_left
  · skip
    refine way_bad ?_
    unfold pinw_b0 at h0; unfold pinw_b1 at h1; unfold pinw_b2 at h2; unfold pinw_b7 at h3; have hl : 0 ≤ lefts [x0, x1, x2, x3, x4, x5, x6, x7, x8, x9, x10] ∧ lefts [x0, x1, x2, x3, x4, x5, x6, x7, x8, x9, x10] ≤ 2700000 := left_bd x0 x2 x4 ⟨b0, b2, b4⟩; have hr : rights [x0, x1, x2, x3, x4, x5, x6, x7, x8, x9, x10] ≤ 12 := right_bd x0 x2 x4; have el := lefts_eq x0 x1 x2 x3 x4 x5 x6 x7 x8 x9 x10; have er := rights_eq x0 x1 x2 x3 x4 x5 x6 x7 x8 x9 x10; have hlt : lefts [x0, x1, x2, x3, x4, x5, x6, x7, x8, x9, x10] + (j : Int) < rights [x0, x1, x2, x3, x4, x5, x6, x7, x8, x9, x10] := (by clear h1 h2 h3; simp only [nn, pin_rho, List.cons_append, List.nil_append, lenE, ne_eq] at h0; rw [er]; exact h0); clear h0 el er; simp only [nn, pin_rho, List.cons_append, List.nil_append, lenE, ne_eq] at h1 h2 h3; first | with_reducible exact absurd (fine_neg b6 b7 b8 b9 h1 h2).1 h3 | with_reducible exact absurd (fine_neg b6 b7 b8 b9 h1 h2).2.1 h3 | with_reducible exact absurd (fine_neg b6 b7 b8 b9 h1 h2).2.2 h3 | with_reducible exact absurd (fine_pos b6 b7 b8 b9 h1 h2).1 h3 | with_reducible exact absurd (fine_pos b6 b7 b8 b9 h1 h2).2.1 h3 | with_reducible exact absurd (fine_pos b6 b7 b8 b9 h1 h2).2.2.1 h3 | with_reducible exact absurd (fine_pos b6 b7 b8 b9 h1 h2).2.2.2 h3 | omega
  refine way_cut pinw_b8 (fun h4 => ?_) (fun h4 => ?_)
  rotate_left
  · skip
    refine way_bad ?_
    unfold pinw_b0 at h0; unfold pinw_b1 at h1; unfold pinw_b2 at h2; unfold pinw_b7 at h3; unfold pinw_b8 at h4; have hl : 0 ≤ lefts [x0, x1, x2, x3, x4, x5, x6, x7, x8, x9, x10] ∧ lefts [x0, x1, x2, x3, x4, x5, x6, x7, x8, x9, x10] ≤ 2700000 := left_bd x0 x2 x4 ⟨b0, b2, b4⟩; have hr : rights [x0, x1, x2, x3, x4, x5, x6, x7, x8, x9, x10] ≤ 12 := right_bd x0 x2 x4; have el := lefts_eq x0 x1 x2 x3 x4 x5 x6 x7 x8 x9 x10; have er := rights_eq x0 x1 x2 x3 x4 x5 x6 x7 x8 x9 x10; have hlt : lefts [x0, x1, x2, x3, x4, x5, x6, x7, x8, x9, x10] + (j : Int) < rights [x0, x1, x2, x3, x4, x5, x6, x7, x8, x9, x10] := (by clear h1 h2 h3 h4; simp only [nn, pin_rho, List.cons_append, List.nil_append, lenE, ne_eq] at h0; rw [er]; exact h0); clear h0 h3 el er; simp only [nn, pin_rho, List.cons_append, List.nil_append, lenE, ne_eq] at h1 h2 h4; first | with_reducible exact absurd (fine_neg b6 b7 b8 b9 h1 h2).1 h4 | with_reducible exact absurd (fine_neg b6 b7 b8 b9 h1 h2).2.1 h4 | with_reducible exact absurd (fine_neg b6 b7 b8 b9 h1 h2).2.2 h4 | with_reducible exact absurd (fine_pos b6 b7 b8 b9 h1 h2).1 h4 | with_reducible exact absurd (fine_pos b6 b7 b8 b9 h1 h2).2.1 h4 | with_reducible exact absurd (fine_pos b6 b7 b8 b9 h1 h2).2.2.1 h4 | with_reducible exact absurd (fine_pos b6 b7 b8 b9 h1 h2).2.2.2 h4 | omega
  refine way_cut pinw_b9 (fun h5 => ?_) (fun h5 => ?_)
  rotate_left
  · skip
    refine way_bad ?_
    unfold pinw_b0 at h0; unfold pinw_b1 at h1; unfold pinw_b2 at h2; unfold pinw_b7 at h3; unfold pinw_b8 at h4; unfold pinw_b9 at h5; have hl : 0 ≤ lefts [x0, x1, x2, x3, x4, x5, x6, x7, x8, x9, x10] ∧ lefts [x0, x1, x2, x3, x4, x5, x6, x7, x8, x9, x10] ≤ 2700000 := left_bd x0 x2 x4 ⟨b0, b2, b4⟩; have hr : rights [x0, x1, x2, x3, x4, x5, x6, x7, x8, x9, x10] ≤ 12 := right_bd x0 x2 x4; have el := lefts_eq x0 x1 x2 x3 x4 x5 x6 x7 x8 x9 x10; have er := rights_eq x0 x1 x2 x3 x4 x5 x6 x7 x8 x9 x10; have hlt : lefts [x0, x1, x2, x3, x4, x5, x6, x7, x8, x9, x10] + (j : Int) < rights [x0, x1, x2, x3, x4, x5, x6, x7, x8, x9, x10] := (by clear h1 h2 h3 h4 h5; simp only [nn, pin_rho, List.cons_append, List.nil_append, lenE, ne_eq] at h0; rw [er]; exact h0); clear h0 h3 h4 el er; simp only [nn, pin_rho, List.cons_append, List.nil_append, lenE, ne_eq] at h1 h2 h5; first | with_reducible exact absurd (fine_neg b6 b7 b8 b9 h1 h2).1 h5 | with_reducible exact absurd (fine_neg b6 b7 b8 b9 h1 h2).2.1 h5 | with_reducible exact absurd (fine_neg b6 b7 b8 b9 h1 h2).2.2 h5 | with_reducible exact absurd (fine_pos b6 b7 b8 b9 h1 h2).1 h5 | with_reducible exact absurd (fine_pos b6 b7 b8 b9 h1 h2).2.1 h5 | with_reducible exact absurd (fine_pos b6 b7 b8 b9 h1 h2).2.2.1 h5 | with_reducible exact absurd (fine_pos b6 b7 b8 b9 h1 h2).2.2.2 h5 | omega
  refine way_cut pinw_b10 (fun h6 => ?_) (fun h6 => ?_)
  rotate_left
  · skip
    refine way_bad ?_
    unfold pinw_b0 at h0; unfold pinw_b1 at h1; unfold pinw_b2 at h2; unfold pinw_b7 at h3; unfold pinw_b8 at h4; unfold pinw_b9 at h5; unfold pinw_b10 at h6; have hl : 0 ≤ lefts [x0, x1, x2, x3, x4, x5, x6, x7, x8, x9, x10] ∧ lefts [x0, x1, x2, x3, x4, x5, x6, x7, x8, x9, x10] ≤ 2700000 := left_bd x0 x2 x4 ⟨b0, b2, b4⟩; have hr : rights [x0, x1, x2, x3, x4, x5, x6, x7, x8, x9, x10] ≤ 12 := right_bd x0 x2 x4; have el := lefts_eq x0 x1 x2 x3 x4 x5 x6 x7 x8 x9 x10; have er := rights_eq x0 x1 x2 x3 x4 x5 x6 x7 x8 x9 x10; have hlt : lefts [x0, x1, x2, x3, x4, x5, x6, x7, x8, x9, x10] + (j : Int) < rights [x0, x1, x2, x3, x4, x5, x6, x7, x8, x9, x10] := (by clear h1 h2 h3 h4 h5 h6; simp only [nn, pin_rho, List.cons_append, List.nil_append, lenE, ne_eq] at h0; rw [er]; exact h0); clear h0 h3 h4 h5 el er; simp only [nn, pin_rho, List.cons_append, List.nil_append, lenE, ne_eq] at h1 h2 h6; first | with_reducible exact absurd (fine_neg b6 b7 b8 b9 h1 h2).1 h6 | with_reducible exact absurd (fine_neg b6 b7 b8 b9 h1 h2).2.1 h6 | with_reducible exact absurd (fine_neg b6 b7 b8 b9 h1 h2).2.2 h6 | with_reducible exact absurd (fine_pos b6 b7 b8 b9 h1 h2).1 h6 | with_reducible exact absurd (fine_pos b6 b7 b8 b9 h1 h2).2.1 h6 | with_reducible exact absurd (fine_pos b6 b7 b8 b9 h1 h2).2.2.1 h6 | with_reducible exact absurd (fine_pos b6 b7 b8 b9 h1 h2).2.2.2 h6 | omega
  refine way_cut pinw_b6 (fun h7 => ?_) (fun h7 => ?_)
  · skip
    refine way_leaf pinw_n17 ?_
    unfold pinw_b0 at h0; unfold pinw_b1 at h1; unfold pinw_b2 at h2; unfold pinw_b7 at h3; unfold pinw_b8 at h4; unfold pinw_b9 at h5; unfold pinw_b10 at h6; unfold pinw_b6 at h7; unfold pinw_L1; have hl : 0 ≤ lefts [x0, x1, x2, x3, x4, x5, x6, x7, x8, x9, x10] ∧ lefts [x0, x1, x2, x3, x4, x5, x6, x7, x8, x9, x10] ≤ 2700000 := left_bd x0 x2 x4 ⟨b0, b2, b4⟩; have hr : rights [x0, x1, x2, x3, x4, x5, x6, x7, x8, x9, x10] ≤ 12 := right_bd x0 x2 x4; have el := lefts_eq x0 x1 x2 x3 x4 x5 x6 x7 x8 x9 x10; have er := rights_eq x0 x1 x2 x3 x4 x5 x6 x7 x8 x9 x10; have hlt : lefts [x0, x1, x2, x3, x4, x5, x6, x7, x8, x9, x10] + (j : Int) < rights [x0, x1, x2, x3, x4, x5, x6, x7, x8, x9, x10] := (by clear h1 h2 h3 h4 h5 h6 h7; simp only [nn, pin_rho, List.cons_append, List.nil_append, lenE, ne_eq] at h0; rw [er]; exact h0); have ec : rowC [x0, x1, x2, x3, x4, x5, x6, x7, x8, x9, x10] (boardC [x0, x1, x2, x3, x4, x5, x6, x7, x8, x9, x10] (y - tops [x0, x1, x2, x3, x4, x5, x6, x7, x8, x9, x10]).toNat) y (j + 1) = _ := step_pos x0 x1 x2 x3 x4 x5 x6 x7 x8 x9 x10 (rowC [x0, x1, x2, x3, x4, x5, x6, x7, x8, x9, x10] (boardC [x0, x1, x2, x3, x4, x5, x6, x7, x8, x9, x10] (y - tops [x0, x1, x2, x3, x4, x5, x6, x7, x8, x9, x10]).toNat) y j) y (lefts [x0, x1, x2, x3, x4, x5, x6, x7, x8, x9, x10] + (j : Int)) (by have h1' := h1; simp only [nn, pin_rho, List.cons_append, List.nil_append, lenE, ne_eq] at h1'; exact h1') (by have h2' := h2; simp only [nn, pin_rho, List.cons_append, List.nil_append, lenE, ne_eq] at h2'; exact h2'); clear el er h0 h1 h2 h3 h4 h5 h6 h7; have hm : (rights [x0, x1, x2, x3, x4, x5, x6, x7, x8, x9, x10] - lefts [x0, x1, x2, x3, x4, x5, x6, x7, x8, x9, x10]).toNat - (j + 1) < (rights [x0, x1, x2, x3, x4, x5, x6, x7, x8, x9, x10] - lefts [x0, x1, x2, x3, x4, x5, x6, x7, x8, x9, x10]).toNat - j := (by omega); have hg : j + 1 ≤ (rights [x0, x1, x2, x3, x4, x5, x6, x7, x8, x9, x10] - lefts [x0, x1, x2, x3, x4, x5, x6, x7, x8, x9, x10]).toNat := (by omega); simp only [RoundP]; refine ⟨j + 1, hg, hm, low_app (by simp), ?_⟩; simp only [AgreeSV]; clear hm hg hlt hl hr; simp only [nn, pin_rho, List.cons_append, List.nil_append, lenE, ne_eq]; (repeat' refine And.intro ?_ ?_) <;> first | with_reducible exact ec.symm | omega | with_reducible trivial
  refine way_bad ?_
  unfold pinw_b0 at h0; unfold pinw_b1 at h1; unfold pinw_b2 at h2; unfold pinw_b7 at h3; unfold pinw_b8 at h4; unfold pinw_b9 at h5; unfold pinw_b10 at h6; unfold pinw_b6 at h7; have hl : 0 ≤ lefts [x0, x1, x2, x3, x4, x5, x6, x7, x8, x9, x10] ∧ lefts [x0, x1, x2, x3, x4, x5, x6, x7, x8, x9, x10] ≤ 2700000 := left_bd x0 x2 x4 ⟨b0, b2, b4⟩; have hr : rights [x0, x1, x2, x3, x4, x5, x6, x7, x8, x9, x10] ≤ 12 := right_bd x0 x2 x4; have el := lefts_eq x0 x1 x2 x3 x4 x5 x6 x7 x8 x9 x10; have er := rights_eq x0 x1 x2 x3 x4 x5 x6 x7 x8 x9 x10; have hlt : lefts [x0, x1, x2, x3, x4, x5, x6, x7, x8, x9, x10] + (j : Int) < rights [x0, x1, x2, x3, x4, x5, x6, x7, x8, x9, x10] := (by clear h1 h2 h3 h4 h5 h6 h7; simp only [nn, pin_rho, List.cons_append, List.nil_append, lenE, ne_eq] at h0; rw [er]; exact h0); clear h0 h3 h4 h5 h6 el er; simp only [nn, pin_rho, List.cons_append, List.nil_append, lenE, ne_eq] at h1 h2 h7; first | with_reducible exact absurd (fine_neg b6 b7 b8 b9 h1 h2).1 h7 | with_reducible exact absurd (fine_neg b6 b7 b8 b9 h1 h2).2.1 h7 | with_reducible exact absurd (fine_neg b6 b7 b8 b9 h1 h2).2.2 h7 | with_reducible exact absurd (fine_pos b6 b7 b8 b9 h1 h2).1 h7 | with_reducible exact absurd (fine_pos b6 b7 b8 b9 h1 h2).2.1 h7 | with_reducible exact absurd (fine_pos b6 b7 b8 b9 h1 h2).2.2.1 h7 | with_reducible exact absurd (fine_pos b6 b7 b8 b9 h1 h2).2.2.2 h7 | omega
theorem tops_eq (x0 x1 x2 x3 x4 x5 x6 x7 x8 x9 x10 : Int) : tops [x0, x1, x2, x3, x4, x5, x6, x7, x8, x9, x10] = max 0 (Int.fdiv (min (min x1 x3) x5 - 128 + 256 - 1) 256) := rfl
theorem ends_eq (x0 x1 x2 x3 x4 x5 x6 x7 x8 x9 x10 : Int) : ends [x0, x1, x2, x3, x4, x5, x6, x7, x8, x9, x10] = min 12 (Int.fdiv (max (max x1 x3) x5 - 128) 256 + 1) := rfl
def pou_rho (x0 x1 x2 x3 x4 x5 x6 x7 x8 x9 x10 : Int) (i : Nat) : Nat → Int := rho (([x0, x1, x2, x3, x4, x5, x6, x7, x8, x9, x10] : List Int) ++ [tops [x0, x1, x2, x3, x4, x5, x6, x7, x8, x9, x10] + (i : Int), boardC [x0, x1, x2, x3, x4, x5, x6, x7, x8, x9, x10] i])
theorem pou_vars (x0 x1 x2 x3 x4 x5 x6 x7 x8 x9 x10 : Int) (b0 : (-671088640) ≤ x0 ∧ x0 ≤ 671088640) (b1 : (-671088640) ≤ x1 ∧ x1 ≤ 671088640) (b2 : (-671088640) ≤ x2 ∧ x2 ≤ 671088640) (b3 : (-671088640) ≤ x3 ∧ x3 ≤ 671088640) (b4 : (-671088640) ≤ x4 ∧ x4 ≤ 671088640) (b5 : (-671088640) ≤ x5 ∧ x5 ≤ 671088640) (b6 : (-1125899906842624) ≤ x6 ∧ x6 ≤ 1125899906842624) (b7 : (-1125899906842624) ≤ x7 ∧ x7 ≤ 1125899906842624) (b8 : (-1125899906842624) ≤ x8 ∧ x8 ≤ 1125899906842624) (b9 : 1 ≤ x9 ∧ x9 ≤ 65535) (b10 : (-9223372036854775808) ≤ x10 ∧ x10 ≤ 9223372036854775807) (i : Nat) (hi : i ≤ (ends [x0, x1, x2, x3, x4, x5, x6, x7, x8, x9, x10] - tops [x0, x1, x2, x3, x4, x5, x6, x7, x8, x9, x10]).toNat) : ∀ k q, pou_vt[k]? = some q → q.1 ≤ pou_rho x0 x1 x2 x3 x4 x5 x6 x7 x8 x9 x10 i k ∧ pou_rho x0 x1 x2 x3 x4 x5 x6 x7 x8 x9 x10 i k ≤ q.2 := by
  have hl : 0 ≤ tops [x0, x1, x2, x3, x4, x5, x6, x7, x8, x9, x10] ∧ tops [x0, x1, x2, x3, x4, x5, x6, x7, x8, x9, x10] ≤ 2700000 := left_bd x1 x3 x5 ⟨b1, b3, b5⟩
  have hr : ends [x0, x1, x2, x3, x4, x5, x6, x7, x8, x9, x10] ≤ 12 := right_bd x1 x3 x5
  unfold pou_rho pou_vt
  have e : ([x0, x1, x2, x3, x4, x5, x6, x7, x8, x9, x10] : List Int) ++ [tops [x0, x1, x2, x3, x4, x5, x6, x7, x8, x9, x10] + (i : Int), boardC [x0, x1, x2, x3, x4, x5, x6, x7, x8, x9, x10] i] = [x0, x1, x2, x3, x4, x5, x6, x7, x8, x9, x10, tops [x0, x1, x2, x3, x4, x5, x6, x7, x8, x9, x10] + (i : Int)] ++ [boardC [x0, x1, x2, x3, x4, x5, x6, x7, x8, x9, x10] i] := rfl
  rw [e]
  exact within_app (by exact ⟨b0, b1, b2, b3, b4, b5, b6, b7, b8, b9, b10, by omega, trivial⟩)
set_option maxRecDepth 100000 in
theorem pin_uok (x0 x1 x2 x3 x4 x5 x6 x7 x8 x9 x10 : Int) (b0 : (-671088640) ≤ x0 ∧ x0 ≤ 671088640) (b1 : (-671088640) ≤ x1 ∧ x1 ≤ 671088640) (b2 : (-671088640) ≤ x2 ∧ x2 ≤ 671088640) (b3 : (-671088640) ≤ x3 ∧ x3 ≤ 671088640) (b4 : (-671088640) ≤ x4 ∧ x4 ≤ 671088640) (b5 : (-671088640) ≤ x5 ∧ x5 ≤ 671088640) (b6 : (-1125899906842624) ≤ x6 ∧ x6 ≤ 1125899906842624) (b7 : (-1125899906842624) ≤ x7 ∧ x7 ≤ 1125899906842624) (b8 : (-1125899906842624) ≤ x8 ∧ x8 ≤ 1125899906842624) (b9 : 1 ≤ x9 ∧ x9 ≤ 65535) (b10 : (-9223372036854775808) ≤ x10 ∧ x10 ≤ 9223372036854775807) (i : Nat) : LoopUOK Try.prog G (glOf GB) (loopNo (bodyOf Try.prog 78) 1) pin_v (pou_rho x0 x1 x2 x3 x4 x5 x6 x7 x8 x9 x10 i) := by
  intro _ hp
  have hp' : tops [x0, x1, x2, x3, x4, x5, x6, x7, x8, x9, x10] + (i : Int) < ends [x0, x1, x2, x3, x4, x5, x6, x7, x8, x9, x10] := by
    unfold pin_v at hp
    simp only [nn, pou_rho, List.cons_append, List.nil_append, lenE, ne_eq] at hp
    rw [ends_eq]; exact hp
  have hl : 0 ≤ tops [x0, x1, x2, x3, x4, x5, x6, x7, x8, x9, x10] ∧ tops [x0, x1, x2, x3, x4, x5, x6, x7, x8, x9, x10] ≤ 2700000 := left_bd x1 x3 x5 ⟨b1, b3, b5⟩
  have hr : ends [x0, x1, x2, x3, x4, x5, x6, x7, x8, x9, x10] ≤ 12 := right_bd x1 x3 x5
  have et : (tops [x0, x1, x2, x3, x4, x5, x6, x7, x8, x9, x10] + (i : Int) - tops [x0, x1, x2, x3, x4, x5, x6, x7, x8, x9, x10]).toNat = i := by omega
  have e : envOf G (pou_rho x0 x1 x2 x3 x4 x5 x6 x7 x8 x9 x10 i) pin_v.es = pin_rho x0 x1 x2 x3 x4 x5 x6 x7 x8 x9 x10 (tops [x0, x1, x2, x3, x4, x5, x6, x7, x8, x9, x10] + (i : Int)) 0 := by
    unfold pou_rho
    rw [envOf_rho]
    unfold pin_rho
    rw [et]
    congr 1
    unfold pin_v
    simp only [List.map_cons, List.map_nil]
    simp only [nn, List.cons_append, List.nil_append, lenE, ne_eq]
    rw [lefts_eq, Int.natCast_zero, Int.add_zero]
    rfl
  rw [e]
  exact ⟨(rights [x0, x1, x2, x3, x4, x5, x6, x7, x8, x9, x10] - lefts [x0, x1, x2, x3, x4, x5, x6, x7, x8, x9, x10]).toNat + 1, loop_rounds (ι := Nat) (ρ := pin_rho x0 x1 x2 x3 x4 x5 x6 x7 x8 x9 x10 (tops [x0, x1, x2, x3, x4, x5, x6, x7, x8, x9, x10] + (i : Int))) (ρT := pou_rho x0 x1 x2 x3 x4 x5 x6 x7 x8 x9 x10 i) (m := fun j => (rights [x0, x1, x2, x3, x4, x5, x6, x7, x8, x9, x10] - lefts [x0, x1, x2, x3, x4, x5, x6, x7, x8, x9, x10]).toNat - j) (Good := fun j => j ≤ (rights [x0, x1, x2, x3, x4, x5, x6, x7, x8, x9, x10] - lefts [x0, x1, x2, x3, x4, x5, x6, x7, x8, x9, x10]).toNat) (run := pin_round Try.prog) (fun _ => rfl) fits rfl gi_ok (fun j hj => pin_vars x0 x1 x2 x3 x4 x5 x6 x7 x8 x9 x10 _ b0 b1 b2 b3 b4 b5 b6 b7 b8 b9 b10 (by omega) j hj) (fun _ _ X hX hG => ct_cw_ok hX hG) (fun _ _ X hX hG => lpOk_lpNil) (fun j hj => pin_way x0 x1 x2 x3 x4 x5 x6 x7 x8 x9 x10 _ _ b0 b1 b2 b3 b4 b5 b6 b7 b8 b9 b10 (by omega) (by omega) j hj) (by decide) ((rights [x0, x1, x2, x3, x4, x5, x6, x7, x8, x9, x10] - lefts [x0, x1, x2, x3, x4, x5, x6, x7, x8, x9, x10]).toNat + 1) 0 (Nat.zero_le _) (by show (rights [x0, x1, x2, x3, x4, x5, x6, x7, x8, x9, x10] - lefts [x0, x1, x2, x3, x4, x5, x6, x7, x8, x9, x10]).toNat - 0 < (rights [x0, x1, x2, x3, x4, x5, x6, x7, x8, x9, x10] - lefts [x0, x1, x2, x3, x4, x5, x6, x7, x8, x9, x10]).toNat + 1; omega)⟩
set_option maxHeartbeats 2000000 in
set_option maxRecDepth 100000 in
theorem pou_way (x0 x1 x2 x3 x4 x5 x6 x7 x8 x9 x10 : Int) (b0 : (-671088640) ≤ x0 ∧ x0 ≤ 671088640) (b1 : (-671088640) ≤ x1 ∧ x1 ≤ 671088640) (b2 : (-671088640) ≤ x2 ∧ x2 ≤ 671088640) (b3 : (-671088640) ≤ x3 ∧ x3 ≤ 671088640) (b4 : (-671088640) ≤ x4 ∧ x4 ≤ 671088640) (b5 : (-671088640) ≤ x5 ∧ x5 ≤ 671088640) (b6 : (-1125899906842624) ≤ x6 ∧ x6 ≤ 1125899906842624) (b7 : (-1125899906842624) ≤ x7 ∧ x7 ≤ 1125899906842624) (b8 : (-1125899906842624) ≤ x8 ∧ x8 ≤ 1125899906842624) (b9 : 1 ≤ x9 ∧ x9 ≤ 65535) (b10 : (-9223372036854775808) ≤ x10 ∧ x10 ≤ 9223372036854775807) (i : Nat) (hi : i ≤ (ends [x0, x1, x2, x3, x4, x5, x6, x7, x8, x9, x10] - tops [x0, x1, x2, x3, x4, x5, x6, x7, x8, x9, x10]).toNat) : Sx.Way (pou_round Try.prog) G (pou_rho x0 x1 x2 x3 x4 x5 x6 x7 x8 x9 x10 i) (RoundP G (pou_rho x0 x1 x2 x3 x4 x5 x6 x7 x8 x9 x10) (rho ([x0, x1, x2, x3, x4, x5, x6, x7, x8, x9, x10] : List Int)) 11 (.lit true) (fun i => i ≤ (ends [x0, x1, x2, x3, x4, x5, x6, x7, x8, x9, x10] - tops [x0, x1, x2, x3, x4, x5, x6, x7, x8, x9, x10]).toNat) (fun i => (ends [x0, x1, x2, x3, x4, x5, x6, x7, x8, x9, x10] - tops [x0, x1, x2, x3, x4, x5, x6, x7, x8, x9, x10]).toNat - i) i) [] := by
  refine way_cut pouw_b0 (fun h0 => ?_) (fun h0 => ?_)
  · skip
    refine way_leaf pouw_n1 ?_
    unfold pouw_b0 at h0; unfold pouw_L0; have et := tops_eq x0 x1 x2 x3 x4 x5 x6 x7 x8 x9 x10; have ee := ends_eq x0 x1 x2 x3 x4 x5 x6 x7 x8 x9 x10; simp only [nn, pou_rho, List.cons_append, List.nil_append, lenE, ne_eq] at h0; rw [← ee] at h0; have hq : (tops [x0, x1, x2, x3, x4, x5, x6, x7, x8, x9, x10] + (i : Int) + 1 - tops [x0, x1, x2, x3, x4, x5, x6, x7, x8, x9, x10]).toNat = i + 1 := (by omega); have ec : G 73 [x0, x1, x2, x3, x4, x5, x6, x7, x8, x9, x10, tops [x0, x1, x2, x3, x4, x5, x6, x7, x8, x9, x10] + (i : Int) + 1] = boardC [x0, x1, x2, x3, x4, x5, x6, x7, x8, x9, x10] (i + 1) := (by rw [board_at, hq]); have hm : (ends [x0, x1, x2, x3, x4, x5, x6, x7, x8, x9, x10] - tops [x0, x1, x2, x3, x4, x5, x6, x7, x8, x9, x10]).toNat - (i + 1) < (ends [x0, x1, x2, x3, x4, x5, x6, x7, x8, x9, x10] - tops [x0, x1, x2, x3, x4, x5, x6, x7, x8, x9, x10]).toNat - i := (by omega); have hg : i + 1 ≤ (ends [x0, x1, x2, x3, x4, x5, x6, x7, x8, x9, x10] - tops [x0, x1, x2, x3, x4, x5, x6, x7, x8, x9, x10]).toNat := (by omega); clear h0 et ee hq; simp only [RoundP]; refine ⟨i + 1, hg, hm, low_app (by simp), ?_⟩; simp only [AgreeSV]; clear hm hg; simp only [nn, pou_rho, List.cons_append, List.nil_append, lenE, ne_eq]; (repeat' refine And.intro ?_ ?_) <;> first | with_reducible exact ec | omega | with_reducible trivial
  refine way_leaf pouw_n2 ?_
  unfold pouw_b0 at h0; unfold pouw_L1; have et := tops_eq x0 x1 x2 x3 x4 x5 x6 x7 x8 x9 x10; have ee := ends_eq x0 x1 x2 x3 x4 x5 x6 x7 x8 x9 x10; simp only [nn, pou_rho, List.cons_append, List.nil_append, lenE, ne_eq] at h0; rw [← ee] at h0; have hq : (max (tops [x0, x1, x2, x3, x4, x5, x6, x7, x8, x9, x10]) (ends [x0, x1, x2, x3, x4, x5, x6, x7, x8, x9, x10]) - tops [x0, x1, x2, x3, x4, x5, x6, x7, x8, x9, x10]).toNat = i := (by omega); have ec : boardC [x0, x1, x2, x3, x4, x5, x6, x7, x8, x9, x10] i = G 73 [x0, x1, x2, x3, x4, x5, x6, x7, x8, x9, x10, max (max 0 (Int.fdiv (min (min x1 x3) x5 - 128 + 256 - 1) 256)) (min 12 (Int.fdiv (max (max x1 x3) x5 - 128) 256 + 1))] := (by rw [← et, ← ee, board_at, hq]); clear h0 et ee hq; simp only [RoundP]; refine ⟨rfl, low_end (by simp), ?_⟩; simp only [AgreeSV]; simp only [nn, pou_rho, List.cons_append, List.nil_append, lenE, ne_eq] at ec ⊢; (repeat' refine And.intro ?_ ?_) <;> first | with_reducible exact ec | with_reducible trivial
theorem pou_loops : codeLoops (bodyOf Try.prog 78) = [loopNo (bodyOf Try.prog 78) 0, loopNo (bodyOf Try.prog 78) 1] := by kernel_rfl
theorem pou_loops0 : codeLoops (loopNo (bodyOf Try.prog 78) 0) = [loopNo (bodyOf Try.prog 78) 1] := by kernel_rfl
set_option maxRecDepth 100000 in
theorem pou_uok (x0 x1 x2 x3 x4 x5 x6 x7 x8 x9 x10 : Int) (b0 : (-671088640) ≤ x0 ∧ x0 ≤ 671088640) (b1 : (-671088640) ≤ x1 ∧ x1 ≤ 671088640) (b2 : (-671088640) ≤ x2 ∧ x2 ≤ 671088640) (b3 : (-671088640) ≤ x3 ∧ x3 ≤ 671088640) (b4 : (-671088640) ≤ x4 ∧ x4 ≤ 671088640) (b5 : (-671088640) ≤ x5 ∧ x5 ≤ 671088640) (b6 : (-1125899906842624) ≤ x6 ∧ x6 ≤ 1125899906842624) (b7 : (-1125899906842624) ≤ x7 ∧ x7 ≤ 1125899906842624) (b8 : (-1125899906842624) ≤ x8 ∧ x8 ≤ 1125899906842624) (b9 : 1 ≤ x9 ∧ x9 ≤ 65535) (b10 : (-9223372036854775808) ≤ x10 ∧ x10 ≤ 9223372036854775807) : LoopUOK Try.prog G (glOf GB) (loopNo (bodyOf Try.prog 78) 0) pou_u (rho ([x0, x1, x2, x3, x4, x5, x6, x7, x8, x9, x10] : List Int)) := by
  intro _ _
  have hl : 0 ≤ tops [x0, x1, x2, x3, x4, x5, x6, x7, x8, x9, x10] ∧ tops [x0, x1, x2, x3, x4, x5, x6, x7, x8, x9, x10] ≤ 2700000 := left_bd x1 x3 x5 ⟨b1, b3, b5⟩
  have e : envOf G (rho ([x0, x1, x2, x3, x4, x5, x6, x7, x8, x9, x10] : List Int)) pou_u.es = pou_rho x0 x1 x2 x3 x4 x5 x6 x7 x8 x9 x10 0 := by
    rw [envOf_rho]
    unfold pou_rho
    congr 1
    unfold pou_u
    simp only [List.map_cons, List.map_nil]
    simp only [nn, List.cons_append, List.nil_append, lenE, ne_eq]
    rw [tops_eq, Int.natCast_zero, Int.add_zero]
    rfl
  rw [e]
  refine ⟨(ends [x0, x1, x2, x3, x4, x5, x6, x7, x8, x9, x10] - tops [x0, x1, x2, x3, x4, x5, x6, x7, x8, x9, x10]).toNat + 1, loop_rounds (ι := Nat) (ρ := pou_rho x0 x1 x2 x3 x4 x5 x6 x7 x8 x9 x10) (ρT := rho ([x0, x1, x2, x3, x4, x5, x6, x7, x8, x9, x10] : List Int)) (m := fun i => (ends [x0, x1, x2, x3, x4, x5, x6, x7, x8, x9, x10] - tops [x0, x1, x2, x3, x4, x5, x6, x7, x8, x9, x10]).toNat - i) (Good := fun i => i ≤ (ends [x0, x1, x2, x3, x4, x5, x6, x7, x8, x9, x10] - tops [x0, x1, x2, x3, x4, x5, x6, x7, x8, x9, x10]).toNat) (run := pou_round Try.prog) (fun _ => rfl) fits rfl gi_ok (fun i hi => pou_vars x0 x1 x2 x3 x4 x5 x6 x7 x8 x9 x10 b0 b1 b2 b3 b4 b5 b6 b7 b8 b9 b10 i hi) (fun _ _ X hX hG => ct_cw_ok hX hG) (fun i hi X hX hG => ?_) (fun i hi => pou_way x0 x1 x2 x3 x4 x5 x6 x7 x8 x9 x10 b0 b1 b2 b3 b4 b5 b6 b7 b8 b9 b10 i hi) (by decide) ((ends [x0, x1, x2, x3, x4, x5, x6, x7, x8, x9, x10] - tops [x0, x1, x2, x3, x4, x5, x6, x7, x8, x9, x10]).toNat + 1) 0 (Nat.zero_le _) (by show (ends [x0, x1, x2, x3, x4, x5, x6, x7, x8, x9, x10] - tops [x0, x1, x2, x3, x4, x5, x6, x7, x8, x9, x10]).toNat - 0 < (ends [x0, x1, x2, x3, x4, x5, x6, x7, x8, x9, x10] - tops [x0, x1, x2, x3, x4, x5, x6, x7, x8, x9, x10]).toNat + 1; omega)⟩
  refine lpOk_cons (bs := [loopNo (bodyOf Try.prog 78) 1]) pou_loops0 ?_
  intro b hb
  simp only [List.mem_cons, List.mem_nil_iff, or_false] at hb
  subst hb
  refine lpAt_any hX hG (by kernel_rfl) ?_
  intro p hp
  simp only [List.mem_cons, List.mem_nil_iff, or_false] at hp
  subst hp
  exact pin_uok x0 x1 x2 x3 x4 x5 x6 x7 x8 x9 x10 b0 b1 b2 b3 b4 b5 b6 b7 b8 b9 b10 i
set_option maxRecDepth 100000 in
theorem pix_mem (x0 x1 x2 x3 x4 x5 x6 x7 x8 x9 x10 : Int) (b0 : (-671088640) ≤ x0 ∧ x0 ≤ 671088640) (b1 : (-671088640) ≤ x1 ∧ x1 ≤ 671088640) (b2 : (-671088640) ≤ x2 ∧ x2 ≤ 671088640) (b3 : (-671088640) ≤ x3 ∧ x3 ≤ 671088640) (b4 : (-671088640) ≤ x4 ∧ x4 ≤ 671088640) (b5 : (-671088640) ≤ x5 ∧ x5 ≤ 671088640) (b6 : (-1125899906842624) ≤ x6 ∧ x6 ≤ 1125899906842624) (b7 : (-1125899906842624) ≤ x7 ∧ x7 ≤ 1125899906842624) (b8 : (-1125899906842624) ≤ x8 ∧ x8 ≤ 1125899906842624) (b9 : 1 ≤ x9 ∧ x9 ≤ 65535) (b10 : (-9223372036854775808) ≤ x10 ∧ x10 ≤ 9223372036854775807) : MemFun Try.prog G GB 78 pix_F (rho ([x0, x1, x2, x3, x4, x5, x6, x7, x8, x9, x10] : List Int)) := by
  refine memFun_way (lp := pou_lp) (run := pix_run Try.prog) (fun _ => rfl) fits (within_get ⟨b0, b1, b2, b3, b4, b5, b6, b7, b8, b9, b10, trivial⟩) gi_ok (fun X hX hG => ct_cw_ok hX hG) (fun X hX hG fn c hf hc => ?_) rfl ?_
  · refine lpOk_cons ((congrArg codeLoops (bodyOf_eq hf hc)).symm.trans pou_loops) ?_
    intro b hb
    simp only [List.mem_cons, List.mem_nil_iff, or_false] at hb
    rcases hb with rfl | rfl
    · refine lpAt_any hX hG (by kernel_rfl) ?_
      intro p hp
      simp only [List.mem_cons, List.mem_nil_iff, or_false] at hp
      subst hp
      exact pou_uok x0 x1 x2 x3 x4 x5 x6 x7 x8 x9 x10 b0 b1 b2 b3 b4 b5 b6 b7 b8 b9 b10
    · exact lpAt_skip (j := 6) (by kernel_rfl) (by decide) lpAt_nil
  · skip
    refine way_leaf pixf_n0 ?_
    exact ⟨rfl, trivial⟩
theorem in_cons {p : Int × Int} {l : List (Int × Int)} {xs : List Int} (h : within (p :: l) xs) : ∃ x ys, xs = x :: ys ∧ (p.1 ≤ x ∧ x ≤ p.2) ∧ within l ys := by
  cases xs with
  | nil => exact h.elim
  | cons x ys => exact ⟨x, ys, rfl, h.1, h.2⟩
theorem in_nil {xs : List Int} (h : within [] xs) : xs = [] := by
  cases xs with
  | nil => rfl
  | cons x ys => exact h.elim
def pix_entry : Ctx → List SV → Heap → Res (SV × Heap) := memEntry GB fn_vt 0 (.lit true) pix_F
theorem pix_ok {X : Ctx} {ρ : Nat → Int} (hX : X.Ok ρ) (hG : X.G = G) : MemOk Try.prog X ρ GB 78 pix_entry := by
  obtain ⟨XG, XI, XV, XF⟩ := X
  simp only at hG
  subst hG
  refine memEntry_ok hX ?_
  intro xs ls hw hl _
  have hl' : ls = [] := List.length_eq_zero_iff.1 hl
  subst hl'
  rw [List.append_nil]
  unfold fn_vt at hw
  obtain ⟨x0, y0, e0, b0, h0⟩ := in_cons hw
  obtain ⟨x1, y1, e1, b1, h1⟩ := in_cons h0
  obtain ⟨x2, y2, e2, b2, h2⟩ := in_cons h1
  obtain ⟨x3, y3, e3, b3, h3⟩ := in_cons h2
  obtain ⟨x4, y4, e4, b4, h4⟩ := in_cons h3
  obtain ⟨x5, y5, e5, b5, h5⟩ := in_cons h4
  obtain ⟨x6, y6, e6, b6, h6⟩ := in_cons h5
  obtain ⟨x7, y7, e7, b7, h7⟩ := in_cons h6
  obtain ⟨x8, y8, e8, b8, h8⟩ := in_cons h7
  obtain ⟨x9, y9, e9, b9, h9⟩ := in_cons h8
  obtain ⟨x10, y10, e10, b10, h10⟩ := in_cons h9
  have e11 := in_nil h10
  subst e11 e10 e9 e8 e7 e6 e5 e4 e3 e2 e1 e0
  exact pix_mem x0 x1 x2 x3 x4 x5 x6 x7 x8 x9 x10 b0 b1 b2 b3 b4 b5 b6 b7 b8 b9 b10
def ct_pix : Contracts := ctConsM 78 pix_entry ct_cw
theorem ct_pix_ok {X : Ctx} {ρ : Nat → Int} (hX : X.Ok ρ) (hG : X.G = G) : CtOk Try.prog X ρ GB ct_pix := ctConsM_ok (pix_ok hX hG) (ct_cw_ok hX hG)
def face_vt : List (Int × Int) := [((-9223372036854775808), 9223372036854775807), ((-9223372036854775808), 9223372036854775807), ((-9223372036854775808), 9223372036854775807), ((-9223372036854775808), 9223372036854775807), ((-9223372036854775808), 9223372036854775807), ((-9223372036854775808), 9223372036854775807), ((-170141183460469231731687303715884105728), 170141183460469231731687303715884105727), ((-170141183460469231731687303715884105728), 170141183460469231731687303715884105727), ((-170141183460469231731687303715884105728), 170141183460469231731687303715884105727), ((-9223372036854775808), 9223372036854775807), ((-9223372036854775808), 9223372036854775807), ((-9223372036854775808), 9223372036854775807), ((-9223372036854775808), 9223372036854775807), ((-9223372036854775808), 9223372036854775807), (0, 18446744073709551615), ((-9223372036854775808), 9223372036854775807), ((-9223372036854775808), 9223372036854775807), (0, 18446744073709551615), ((-9223372036854775808), 9223372036854775807), ((-9223372036854775808), 9223372036854775807), (0, 18446744073709551615), ((-9223372036854775808), 9223372036854775807), ((-9223372036854775808), 9223372036854775807), (0, 18446744073709551615), ((-9223372036854775808), 9223372036854775807), ((-9223372036854775808), 9223372036854775807), (0, 18446744073709551615), ((-9223372036854775808), 9223372036854775807), ((-9223372036854775808), 9223372036854775807), (0, 18446744073709551615), ((-9223372036854775808), 9223372036854775807), ((-9223372036854775808), 9223372036854775807), (0, 18446744073709551615), ((-9223372036854775808), 9223372036854775807), ((-9223372036854775808), 9223372036854775807), (0, 18446744073709551615), ((-9223372036854775808), 9223372036854775807), ((-9223372036854775808), 9223372036854775807), (0, 18446744073709551615), ((-9223372036854775808), 9223372036854775807)]
def face_b : B := (.and (.cmp .le (.lit (-671088640)) (.var 0)) (.and (.cmp .le (.var 0) (.lit 671088640)) (.and (.cmp .le (.lit (-671088640)) (.var 1)) (.and (.cmp .le (.var 1) (.lit 671088640)) (.and (.cmp .le (.lit (-671088640)) (.var 2)) (.and (.cmp .le (.var 2) (.lit 671088640)) (.and (.cmp .le (.lit (-671088640)) (.var 3)) (.and (.cmp .le (.var 3) (.lit 671088640)) (.and (.cmp .le (.lit (-671088640)) (.var 4)) (.and (.cmp .le (.var 4) (.lit 671088640)) (.and (.cmp .le (.lit (-671088640)) (.var 5)) (.and (.cmp .le (.var 5) (.lit 671088640)) (.and (.cmp .le (.lit 1) (.var 9)) (.and (.cmp .le (.var 9) (.lit 65535)) (.and (.cmp .eq (.var 11) (.var 9)) (.and (.cmp .eq (.var 12) (.var 9)) (.and (.cmp .le (.lit (-1125899906842624)) (.var 6)) (.and (.cmp .le (.var 6) (.lit 1125899906842624)) (.and (.cmp .le (.lit (-1125899906842624)) (.var 7)) (.and (.cmp .le (.var 7) (.lit 1125899906842624)) (.and (.cmp .le (.lit (-1125899906842624)) (.var 8)) (.cmp .le (.var 8) (.lit 1125899906842624)))))))))))))))))))))))
def face_F : FunS := ⟨[(.ptr 1 0), (.agg [(.int .i64 (.var 0)), (.int .i64 (.var 1)), (.int .i64 (.var 2)), (.int .i64 (.var 3)), (.int .i64 (.var 4)), (.int .i64 (.var 5))]), (.agg [(.int .i64 (.app 0 (.cons (.var 6) .nil))), (.int .u64 (.app 1 (.cons (.var 6) .nil))), (.int .i64 (.var 9)), (.int .i64 (.var 13)), (.int .u64 (.var 14)), (.int .i64 (.var 15)), (.int .i64 (.var 16)), (.int .u64 (.var 17)), (.int .i64 (.var 18)), (.int .i64 (.var 19)), (.int .u64 (.var 20)), (.int .i64 (.var 21)), (.int .i64 (.app 0 (.cons (.var 7) .nil))), (.int .u64 (.app 1 (.cons (.var 7) .nil))), (.int .i64 (.var 11)), (.int .i64 (.var 22)), (.int .u64 (.var 23)), (.int .i64 (.var 24)), (.int .i64 (.var 25)), (.int .u64 (.var 26)), (.int .i64 (.var 27)), (.int .i64 (.var 28)), (.int .u64 (.var 29)), (.int .i64 (.var 30)), (.int .i64 (.app 0 (.cons (.var 8) .nil))), (.int .u64 (.app 1 (.cons (.var 8) .nil))), (.int .i64 (.var 12)), (.int .i64 (.var 31)), (.int .u64 (.var 32)), (.int .i64 (.var 33)), (.int .i64 (.var 34)), (.int .u64 (.var 35)), (.int .i64 (.var 36)), (.int .i64 (.var 37)), (.int .u64 (.var 38)), (.int .i64 (.var 39))]), (.int .i64 (.lit 1)), (.int .i64 (.var 10))], [some ([.vec [.bool, .int .i64, .int .i32, .int .i32, .int .i32, .int .i32, .int .i32, .int .i32] (repE (.lit 144) [.bool, .int .i64, .int .i32, .int .i32, .int .i32, .int .i32, .int .i32, .int .i32]) (.lit 144) true], vecTag + 46), some ([(.int .i64 (.lit 12)), (.int .i64 (.lit 12)), (.own 0 (.lit 144) (some (.lit 144)))], 78)], face_b, (.int .i64 (.lit 0)), [some ([.vec [.bool, .int .i64, .int .i32, .int .i32, .int .i32, .int .i32, .int .i32, .int .i32] (.app 73 (.cons (.var 0) (.cons (.var 1) (.cons (.var 2) (.cons (.var 3) (.cons (.var 4) (.cons (.var 5) (.cons (.var 6) (.cons (.var 7) (.cons (.var 8) (.cons (.var 9) (.cons (.var 10) (.cons (.op .max (.op .max (.lit 0) (.op .fdiv (.op .sub (.op .add (.op .sub (.op .min (.op .min (.var 1) (.var 3)) (.var 5)) (.lit 128)) (.lit 256)) (.lit 1)) (.lit 256))) (.op .min (.lit 12) (.op .add (.op .fdiv (.op .sub (.op .max (.op .max (.var 1) (.var 3)) (.var 5)) (.lit 128)) (.lit 256)) (.lit 1)))) .nil))))))))))))) (.lit 144) true], vecTag + 46), some ([(.int .i64 (.lit 12)), (.int .i64 (.lit 12)), (.own 0 (.lit 144) (some (.lit 144)))], 78)], (.int .i64 (.lit 1)), [some ([.vec [.bool, .int .i64, .int .i32, .int .i32, .int .i32, .int .i32, .int .i32, .int .i32] (repE (.lit 144) [.bool, .int .i64, .int .i32, .int .i32, .int .i32, .int .i32, .int .i32, .int .i32]) (.lit 144) true], vecTag + 46), some ([(.int .i64 (.lit 12)), (.int .i64 (.lit 12)), (.own 0 (.lit 144) (some (.lit 144)))], 78)]⟩
def face_run (P : Program) (fs : List B) : Res SV := withCtx G GI face_vt fs fun X => exFunM P X GB ct_pix lpNil 4000 12 face_F
end Go.Proofs.Ytoiecphddchknaa
