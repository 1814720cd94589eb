/- What is proved: a claimed place's weights, and the number that they give, in plain Lean. No condition but those that are stated. -/
import Derived.Test.YtoiecphddchknaaQg6
set_option linter.unusedSimpArgs false
set_option linter.unusedVariables false
namespace Go.Proofs.Ytoiecphddchknaa
open Go Go.RowKit Sx Wi
theorem side_pos {a b p : Ed.D} (h : Ed.side a b p = 1) : 0 ≤ Ed.cross a b p := by
  unfold Ed.side Ed.or3 at h
  rcases Ed.sg_cases (Ed.cross a b p) with ⟨e, q⟩ | ⟨e, q⟩ | ⟨e, q⟩
  · rw [e, if_pos (by omega)] at h; omega
  · omega
  · omega
theorem side_neg {a b p : Ed.D} (h : Ed.side a b p = -1) : Ed.cross a b p ≤ 0 := by
  unfold Ed.side Ed.or3 at h
  rcases Ed.sg_cases (Ed.cross a b p) with ⟨e, q⟩ | ⟨e, q⟩ | ⟨e, q⟩
  · omega
  · omega
  · rw [e, if_pos (by omega)] at h; omega
theorem claim_w {a b c d e f x y : Int} (h : xG63 [a, b, c, d, e, f, x, y] ≠ 0) :
    (-3602879701896396800 ≤ xG64 0 [a, b, c, d, e, f, x, y] + xG64 1 [a, b, c, d, e, f, x, y] + xG64 2 [a, b, c, d, e, f, x, y] ∧ xG64 0 [a, b, c, d, e, f, x, y] + xG64 1 [a, b, c, d, e, f, x, y] + xG64 2 [a, b, c, d, e, f, x, y] ≤ 3602879701896396800) ∧
    ((0 ≤ xG64 0 [a, b, c, d, e, f, x, y] ∧ 0 ≤ xG64 1 [a, b, c, d, e, f, x, y] ∧ 0 ≤ xG64 2 [a, b, c, d, e, f, x, y] ∧ 1 ≤ xG64 0 [a, b, c, d, e, f, x, y] + xG64 1 [a, b, c, d, e, f, x, y] + xG64 2 [a, b, c, d, e, f, x, y]) ∨
     (xG64 0 [a, b, c, d, e, f, x, y] ≤ 0 ∧ xG64 1 [a, b, c, d, e, f, x, y] ≤ 0 ∧ xG64 2 [a, b, c, d, e, f, x, y] ≤ 0 ∧ xG64 0 [a, b, c, d, e, f, x, y] + xG64 1 [a, b, c, d, e, f, x, y] + xG64 2 [a, b, c, d, e, f, x, y] ≤ -1)) := by
  replace h : Ed.claim ⟨a, b⟩ ⟨c, d⟩ ⟨e, f⟩ ⟨x, y⟩ ≠ 0 := h
  show (_ ≤ wt ⟨a, b⟩ ⟨c, d⟩ ⟨e, f⟩ ⟨x, y⟩ 0 + wt ⟨a, b⟩ ⟨c, d⟩ ⟨e, f⟩ ⟨x, y⟩ 1 + wt ⟨a, b⟩ ⟨c, d⟩ ⟨e, f⟩ ⟨x, y⟩ 2 ∧ wt ⟨a, b⟩ ⟨c, d⟩ ⟨e, f⟩ ⟨x, y⟩ 0 + wt ⟨a, b⟩ ⟨c, d⟩ ⟨e, f⟩ ⟨x, y⟩ 1 + wt ⟨a, b⟩ ⟨c, d⟩ ⟨e, f⟩ ⟨x, y⟩ 2 ≤ _) ∧ ((0 ≤ wt ⟨a, b⟩ ⟨c, d⟩ ⟨e, f⟩ ⟨x, y⟩ 0 ∧ 0 ≤ wt ⟨a, b⟩ ⟨c, d⟩ ⟨e, f⟩ ⟨x, y⟩ 1 ∧ 0 ≤ wt ⟨a, b⟩ ⟨c, d⟩ ⟨e, f⟩ ⟨x, y⟩ 2 ∧ 1 ≤ wt ⟨a, b⟩ ⟨c, d⟩ ⟨e, f⟩ ⟨x, y⟩ 0 + wt ⟨a, b⟩ ⟨c, d⟩ ⟨e, f⟩ ⟨x, y⟩ 1 + wt ⟨a, b⟩ ⟨c, d⟩ ⟨e, f⟩ ⟨x, y⟩ 2) ∨ (wt ⟨a, b⟩ ⟨c, d⟩ ⟨e, f⟩ ⟨x, y⟩ 0 ≤ 0 ∧ wt ⟨a, b⟩ ⟨c, d⟩ ⟨e, f⟩ ⟨x, y⟩ 1 ≤ 0 ∧ wt ⟨a, b⟩ ⟨c, d⟩ ⟨e, f⟩ ⟨x, y⟩ 2 ≤ 0 ∧ wt ⟨a, b⟩ ⟨c, d⟩ ⟨e, f⟩ ⟨x, y⟩ 0 + wt ⟨a, b⟩ ⟨c, d⟩ ⟨e, f⟩ ⟨x, y⟩ 1 + wt ⟨a, b⟩ ⟨c, d⟩ ⟨e, f⟩ ⟨x, y⟩ 2 ≤ -1))
  generalize (⟨a, b⟩ : Ed.D) = A at *
  generalize (⟨c, d⟩ : Ed.D) = B at *
  generalize (⟨e, f⟩ : Ed.D) = C at *
  generalize (⟨x, y⟩ : Ed.D) = p at *
  unfold Ed.claim at h
  split at h
  · exact absurd rfl h
  rename_i h0
  have hp : Ed.ok p := by
    by_cases q : Ed.ok p
    · exact q
    · exact absurd (Or.inr q) h0
  have ha0 : Ed.sg (Ed.area A B C) ≠ 0 := fun q => h0 (Or.inl q)
  have hok : Ed.ok A ∧ Ed.ok B ∧ Ed.ok C := by
    by_cases q : Ed.ok A ∧ Ed.ok B ∧ Ed.ok C
    · exact q
    · exact absurd (by unfold Ed.area; rw [if_neg q]; rfl) ha0
  have har : Ed.area A B C = Ed.cross A B C := by unfold Ed.area; rw [if_pos hok]
  have hbd := area_bd A B C
  rw [har] at h ha0 hbd
  split at h
  case isFalse => exact absurd rfl h
  rename_i hs
  obtain ⟨s0, s1, s2⟩ := hs
  have hk : okAt A B C p := ⟨hok, hp⟩
  have w0 : wt A B C p 0 = Ed.cross B C p := by unfold wt; rw [if_pos hk]; rfl
  have w1 : wt A B C p 1 = Ed.cross C A p := by unfold wt; rw [if_pos hk]; rfl
  have w2 : wt A B C p 2 = Ed.cross A B p := by unfold wt; rw [if_pos hk]; rfl
  have hsum := Ed.cross_sum A B C p
  rw [w0, w1, w2]
  rcases Ed.sg_cases (Ed.cross A B C) with ⟨q, r⟩ | ⟨q, r⟩ | ⟨q, r⟩
  · rw [q] at s0 s1 s2
    have t0 := side_neg s0; have t1 := side_neg s1; have t2 := side_neg s2
    exact ⟨by omega, .inr ⟨t0, t1, t2, by omega⟩⟩
  · exact absurd q ha0
  · rw [q] at s0 s1 s2
    have t0 := side_pos s0; have t1 := side_pos s1; have t2 := side_pos s2
    exact ⟨by omega, .inl ⟨t0, t1, t2, by omega⟩⟩
theorem fq_le {n d k : Int} (hd : 1 ≤ d) (h : n ≤ k * d) : fq n d ≤ k := by
  unfold fq; rw [if_pos hd, Int.fdiv_eq_ediv_of_nonneg _ (by omega)]
  exact Int.le_of_lt_add_one (Int.ediv_lt_of_lt_mul (by omega) (by rw [Int.add_mul]; omega))
theorem fq_ge {n d k : Int} (hd : 1 ≤ d) (h : k * d ≤ n) : k ≤ fq n d := by
  unfold fq; rw [if_pos hd, Int.fdiv_eq_ediv_of_nonneg _ (by omega)]
  exact Int.le_ediv_of_mul_le (by omega) h
theorem q_bd {s a d : Int} (ha : 1 ≤ a) (hd : 1 ≤ d ∧ d ≤ 65535) (hs : -1125899906842624 * a ≤ s ∧ s ≤ 1125899906842624 * a) : -9223372036854775808 ≤ fq (fq (s * 2 + a * d) d) (2 * a) ∧ fq (fq (s * 2 + a * d) d) (2 * a) ≤ 9223372036854775807 := by
  have had1 : a * d ≤ a * 65535 := Int.mul_le_mul_of_nonneg_left hd.2 (by omega)
  have had0 : 0 ≤ a * d := Int.mul_nonneg (by omega) (by omega)
  have hb := fq_bd (s * 2 + a * d) d
  have h1 : fq (s * 2 + a * d) d ≤ 4503599627370496 * (2 * a) := by omega
  have h2 : -4503599627370496 * (2 * a) ≤ fq (s * 2 + a * d) d := by omega
  have g1 := fq_le (d := 2 * a) (by omega) h1
  have g2 := fq_ge (d := 2 * a) (by omega) h2
  omega
theorem mulw {n w : Int} (hn : -1125899906842624 ≤ n ∧ n ≤ 1125899906842624) (hw : 0 ≤ w) : -1125899906842624 * w ≤ n * w ∧ n * w ≤ 1125899906842624 * w :=
  ⟨Int.mul_le_mul_of_nonneg_right hn.1 hw, Int.mul_le_mul_of_nonneg_right hn.2 hw⟩
theorem togS_bd {n0 n1 n2 w0 w1 w2 : Int} (h0 : -1125899906842624 ≤ n0 ∧ n0 ≤ 1125899906842624) (h1 : -1125899906842624 ≤ n1 ∧ n1 ≤ 1125899906842624) (h2 : -1125899906842624 ≤ n2 ∧ n2 ≤ 1125899906842624) (g0 : 0 ≤ w0) (g1 : 0 ≤ w1) (g2 : 0 ≤ w2) :
    -1125899906842624 * (w0 + w1 + w2) ≤ 0 + n0 * w0 + n1 * w1 + n2 * w2 ∧ 0 + n0 * w0 + n1 * w1 + n2 * w2 ≤ 1125899906842624 * (w0 + w1 + w2) := by
  have a0 := mulw h0 g0; have a1 := mulw h1 g1; have a2 := mulw h2 g2
  omega
theorem togS_bd' {n0 n1 n2 w0 w1 w2 : Int} (h0 : -1125899906842624 ≤ n0 ∧ n0 ≤ 1125899906842624) (h1 : -1125899906842624 ≤ n1 ∧ n1 ≤ 1125899906842624) (h2 : -1125899906842624 ≤ n2 ∧ n2 ≤ 1125899906842624) (g0 : w0 ≤ 0) (g1 : w1 ≤ 0) (g2 : w2 ≤ 0) :
    -1125899906842624 * (0 - (w0 + w1 + w2)) ≤ 0 - (0 + n0 * w0 + n1 * w1 + n2 * w2) ∧ 0 - (0 + n0 * w0 + n1 * w1 + n2 * w2) ≤ 1125899906842624 * (0 - (w0 + w1 + w2)) := by
  have a0 := mulw h0 (show 0 ≤ -w0 by omega); have a1 := mulw h1 (show 0 ≤ -w1 by omega); have a2 := mulw h2 (show 0 ≤ -w2 by omega)
  rw [Int.mul_neg, Int.mul_neg, Int.mul_neg] at a0 a1 a2
  omega
theorem step_no (x0 x1 x2 x3 x4 x5 x6 x7 x8 x9 x10 C y x : Int) (h : G 63 [x0, x1, x2, x3, x4, x5, x * 256 + 128, y * 256 + 128] = 0) : stepC [x0, x1, x2, x3, x4, x5, x6, x7, x8, x9, x10] C y x = C := if_pos h
theorem step_pos (x0 x1 x2 x3 x4 x5 x6 x7 x8 x9 x10 C y x : Int) (h : ¬ G 63 [x0, x1, x2, x3, x4, x5, x * 256 + 128, y * 256 + 128] = 0) (hs : ¬ (G 64 [x0, x1, x2, x3, x4, x5, x * 256 + 128, y * 256 + 128] + G 65 [x0, x1, x2, x3, x4, x5, x * 256 + 128, y * 256 + 128] + G 66 [x0, x1, x2, x3, x4, x5, x * 256 + 128, y * 256 + 128]) < 0) : stepC [x0, x1, x2, x3, x4, x5, x6, x7, x8, x9, x10] C y x = G 92 [C, y * 12 + x, 1, x10, 0, 0, max (-2147483648) (min 2147483647 (G 71 [G 71 [(0 + x6 * G 64 [x0, x1, x2, x3, x4, x5, x * 256 + 128, y * 256 + 128] + x7 * G 65 [x0, x1, x2, x3, x4, x5, x * 256 + 128, y * 256 + 128] + x8 * G 66 [x0, x1, x2, x3, x4, x5, x * 256 + 128, y * 256 + 128]) * 2 + (G 64 [x0, x1, x2, x3, x4, x5, x * 256 + 128, y * 256 + 128] + G 65 [x0, x1, x2, x3, x4, x5, x * 256 + 128, y * 256 + 128] + G 66 [x0, x1, x2, x3, x4, x5, x * 256 + 128, y * 256 + 128]) * x9, x9], 2 * (G 64 [x0, x1, x2, x3, x4, x5, x * 256 + 128, y * 256 + 128] + G 65 [x0, x1, x2, x3, x4, x5, x * 256 + 128, y * 256 + 128] + G 66 [x0, x1, x2, x3, x4, x5, x * 256 + 128, y * 256 + 128])])), 0, 0, 0] := by
  show (if G 63 [x0, x1, x2, x3, x4, x5, x * 256 + 128, y * 256 + 128] = 0 then C else wG 92 [C, y * 12 + x, 1, x10, 0, 0, xG70 [x6, x7, x8, x9, G 64 [x0, x1, x2, x3, x4, x5, x * 256 + 128, y * 256 + 128], G 65 [x0, x1, x2, x3, x4, x5, x * 256 + 128, y * 256 + 128], G 66 [x0, x1, x2, x3, x4, x5, x * 256 + 128, y * 256 + 128]], 0, 0, 0]) = _
  rw [if_neg h]
  have e : xG70 [x6, x7, x8, x9, G 64 [x0, x1, x2, x3, x4, x5, x * 256 + 128, y * 256 + 128], G 65 [x0, x1, x2, x3, x4, x5, x * 256 + 128, y * 256 + 128], G 66 [x0, x1, x2, x3, x4, x5, x * 256 + 128, y * 256 + 128]] = max (-2147483648) (min 2147483647 (G 71 [G 71 [(0 + x6 * G 64 [x0, x1, x2, x3, x4, x5, x * 256 + 128, y * 256 + 128] + x7 * G 65 [x0, x1, x2, x3, x4, x5, x * 256 + 128, y * 256 + 128] + x8 * G 66 [x0, x1, x2, x3, x4, x5, x * 256 + 128, y * 256 + 128]) * 2 + (G 64 [x0, x1, x2, x3, x4, x5, x * 256 + 128, y * 256 + 128] + G 65 [x0, x1, x2, x3, x4, x5, x * 256 + 128, y * 256 + 128] + G 66 [x0, x1, x2, x3, x4, x5, x * 256 + 128, y * 256 + 128]) * x9, x9], 2 * (G 64 [x0, x1, x2, x3, x4, x5, x * 256 + 128, y * 256 + 128] + G 65 [x0, x1, x2, x3, x4, x5, x * 256 + 128, y * 256 + 128] + G 66 [x0, x1, x2, x3, x4, x5, x * 256 + 128, y * 256 + 128])])) := if_neg hs
  rw [e]
  rfl
theorem step_neg (x0 x1 x2 x3 x4 x5 x6 x7 x8 x9 x10 C y x : Int) (h : ¬ G 63 [x0, x1, x2, x3, x4, x5, x * 256 + 128, y * 256 + 128] = 0) (hs : (G 64 [x0, x1, x2, x3, x4, x5, x * 256 + 128, y * 256 + 128] + G 65 [x0, x1, x2, x3, x4, x5, x * 256 + 128, y * 256 + 128] + G 66 [x0, x1, x2, x3, x4, x5, x * 256 + 128, y * 256 + 128]) < 0) : stepC [x0, x1, x2, x3, x4, x5, x6, x7, x8, x9, x10] C y x = G 92 [C, y * 12 + x, 1, x10, 0, 0, max (-2147483648) (min 2147483647 (G 71 [G 71 [(0 - (0 + x6 * G 64 [x0, x1, x2, x3, x4, x5, x * 256 + 128, y * 256 + 128] + x7 * G 65 [x0, x1, x2, x3, x4, x5, x * 256 + 128, y * 256 + 128] + x8 * G 66 [x0, x1, x2, x3, x4, x5, x * 256 + 128, y * 256 + 128])) * 2 + (0 - (G 64 [x0, x1, x2, x3, x4, x5, x * 256 + 128, y * 256 + 128] + G 65 [x0, x1, x2, x3, x4, x5, x * 256 + 128, y * 256 + 128] + G 66 [x0, x1, x2, x3, x4, x5, x * 256 + 128, y * 256 + 128])) * x9, x9], 2 * (0 - (G 64 [x0, x1, x2, x3, x4, x5, x * 256 + 128, y * 256 + 128] + G 65 [x0, x1, x2, x3, x4, x5, x * 256 + 128, y * 256 + 128] + G 66 [x0, x1, x2, x3, x4, x5, x * 256 + 128, y * 256 + 128]))])), 0, 0, 0] := by
  show (if G 63 [x0, x1, x2, x3, x4, x5, x * 256 + 128, y * 256 + 128] = 0 then C else wG 92 [C, y * 12 + x, 1, x10, 0, 0, xG70 [x6, x7, x8, x9, G 64 [x0, x1, x2, x3, x4, x5, x * 256 + 128, y * 256 + 128], G 65 [x0, x1, x2, x3, x4, x5, x * 256 + 128, y * 256 + 128], G 66 [x0, x1, x2, x3, x4, x5, x * 256 + 128, y * 256 + 128]], 0, 0, 0]) = _
  rw [if_neg h]
  have e : xG70 [x6, x7, x8, x9, G 64 [x0, x1, x2, x3, x4, x5, x * 256 + 128, y * 256 + 128], G 65 [x0, x1, x2, x3, x4, x5, x * 256 + 128, y * 256 + 128], G 66 [x0, x1, x2, x3, x4, x5, x * 256 + 128, y * 256 + 128]] = max (-2147483648) (min 2147483647 (G 71 [G 71 [(0 - (0 + x6 * G 64 [x0, x1, x2, x3, x4, x5, x * 256 + 128, y * 256 + 128] + x7 * G 65 [x0, x1, x2, x3, x4, x5, x * 256 + 128, y * 256 + 128] + x8 * G 66 [x0, x1, x2, x3, x4, x5, x * 256 + 128, y * 256 + 128])) * 2 + (0 - (G 64 [x0, x1, x2, x3, x4, x5, x * 256 + 128, y * 256 + 128] + G 65 [x0, x1, x2, x3, x4, x5, x * 256 + 128, y * 256 + 128] + G 66 [x0, x1, x2, x3, x4, x5, x * 256 + 128, y * 256 + 128])) * x9, x9], 2 * (0 - (G 64 [x0, x1, x2, x3, x4, x5, x * 256 + 128, y * 256 + 128] + G 65 [x0, x1, x2, x3, x4, x5, x * 256 + 128, y * 256 + 128] + G 66 [x0, x1, x2, x3, x4, x5, x * 256 + 128, y * 256 + 128]))])) := if_pos hs
  rw [e]
  rfl
theorem board_next (x0 x1 x2 x3 x4 x5 x6 x7 x8 x9 x10 y : Int) (hy : tops [x0, x1, x2, x3, x4, x5, x6, x7, x8, x9, x10] ≤ y) : G 73 [x0, x1, x2, x3, x4, x5, x6, x7, x8, x9, x10, y + 1] = rowC [x0, x1, x2, x3, x4, x5, x6, x7, x8, x9, x10] (boardC [x0, x1, x2, x3, x4, x5, x6, x7, x8, x9, x10] (y - tops [x0, x1, x2, x3, x4, x5, x6, x7, x8, x9, x10]).toNat) y (rights [x0, x1, x2, x3, x4, x5, x6, x7, x8, x9, x10] - lefts [x0, x1, x2, x3, x4, x5, x6, x7, x8, x9, x10]).toNat := by
  show boardC [x0, x1, x2, x3, x4, x5, x6, x7, x8, x9, x10] (y + 1 - tops [x0, x1, x2, x3, x4, x5, x6, x7, x8, x9, x10]).toNat = _
  have e : (y + 1 - tops [x0, x1, x2, x3, x4, x5, x6, x7, x8, x9, x10]).toNat = (y - tops [x0, x1, x2, x3, x4, x5, x6, x7, x8, x9, x10]).toNat + 1 := by omega
  rw [e]
  show rowC [x0, x1, x2, x3, x4, x5, x6, x7, x8, x9, x10] (boardC [x0, x1, x2, x3, x4, x5, x6, x7, x8, x9, x10] (y - tops [x0, x1, x2, x3, x4, x5, x6, x7, x8, x9, x10]).toNat) (tops [x0, x1, x2, x3, x4, x5, x6, x7, x8, x9, x10] + ((y - tops [x0, x1, x2, x3, x4, x5, x6, x7, x8, x9, x10]).toNat : Int)) _ = _
  have e2 : tops [x0, x1, x2, x3, x4, x5, x6, x7, x8, x9, x10] + ((y - tops [x0, x1, x2, x3, x4, x5, x6, x7, x8, x9, x10]).toNat : Int) = y := by omega
  rw [e2]
theorem board_at (x0 x1 x2 x3 x4 x5 x6 x7 x8 x9 x10 y : Int) : G 73 [x0, x1, x2, x3, x4, x5, x6, x7, x8, x9, x10, y] = boardC [x0, x1, x2, x3, x4, x5, x6, x7, x8, x9, x10] (y - tops [x0, x1, x2, x3, x4, x5, x6, x7, x8, x9, x10]).toNat := rfl
theorem left_bd (a b c : Int) (h : (-671088640 ≤ a ∧ a ≤ 671088640) ∧ (-671088640 ≤ b ∧ b ≤ 671088640) ∧ (-671088640 ≤ c ∧ c ≤ 671088640)) : 0 ≤ leftP a b c ∧ leftP a b c ≤ 2700000 := by
  unfold leftP
  rw [Int.fdiv_eq_ediv_of_nonneg _ (by decide)]
  omega
theorem right_bd (a b c : Int) : rightP a b c ≤ 12 := by unfold rightP; omega
theorem fine_pos {x0 x1 x2 x3 x4 x5 x6 x7 x8 x9 u v : Int} (b6 : -1125899906842624 ≤ x6 ∧ x6 ≤ 1125899906842624) (b7 : -1125899906842624 ≤ x7 ∧ x7 ≤ 1125899906842624) (b8 : -1125899906842624 ≤ x8 ∧ x8 ≤ 1125899906842624) (b9 : 1 ≤ x9 ∧ x9 ≤ 65535) (h : ¬ G 63 [x0, x1, x2, x3, x4, x5, u, v] = 0) (hs : ¬ (G 64 [x0, x1, x2, x3, x4, x5, u, v] + G 65 [x0, x1, x2, x3, x4, x5, u, v] + G 66 [x0, x1, x2, x3, x4, x5, u, v]) < 0) : 2 * (G 64 [x0, x1, x2, x3, x4, x5, u, v] + G 65 [x0, x1, x2, x3, x4, x5, u, v] + G 66 [x0, x1, x2, x3, x4, x5, u, v]) ≤ 9223372036854775807 ∧ 1 ≤ 2 * (G 64 [x0, x1, x2, x3, x4, x5, u, v] + G 65 [x0, x1, x2, x3, x4, x5, u, v] + G 66 [x0, x1, x2, x3, x4, x5, u, v]) ∧ -9223372036854775808 ≤ G 71 [G 71 [(0 + x6 * G 64 [x0, x1, x2, x3, x4, x5, u, v] + x7 * G 65 [x0, x1, x2, x3, x4, x5, u, v] + x8 * G 66 [x0, x1, x2, x3, x4, x5, u, v]) * 2 + (G 64 [x0, x1, x2, x3, x4, x5, u, v] + G 65 [x0, x1, x2, x3, x4, x5, u, v] + G 66 [x0, x1, x2, x3, x4, x5, u, v]) * x9, x9], 2 * (G 64 [x0, x1, x2, x3, x4, x5, u, v] + G 65 [x0, x1, x2, x3, x4, x5, u, v] + G 66 [x0, x1, x2, x3, x4, x5, u, v])] ∧ G 71 [G 71 [(0 + x6 * G 64 [x0, x1, x2, x3, x4, x5, u, v] + x7 * G 65 [x0, x1, x2, x3, x4, x5, u, v] + x8 * G 66 [x0, x1, x2, x3, x4, x5, u, v]) * 2 + (G 64 [x0, x1, x2, x3, x4, x5, u, v] + G 65 [x0, x1, x2, x3, x4, x5, u, v] + G 66 [x0, x1, x2, x3, x4, x5, u, v]) * x9, x9], 2 * (G 64 [x0, x1, x2, x3, x4, x5, u, v] + G 65 [x0, x1, x2, x3, x4, x5, u, v] + G 66 [x0, x1, x2, x3, x4, x5, u, v])] ≤ 9223372036854775807 := by
  obtain ⟨hA, hw⟩ := claim_w h
  have hA' : -3602879701896396800 ≤ (G 64 [x0, x1, x2, x3, x4, x5, u, v] + G 65 [x0, x1, x2, x3, x4, x5, u, v] + G 66 [x0, x1, x2, x3, x4, x5, u, v]) ∧ (G 64 [x0, x1, x2, x3, x4, x5, u, v] + G 65 [x0, x1, x2, x3, x4, x5, u, v] + G 66 [x0, x1, x2, x3, x4, x5, u, v]) ≤ 3602879701896396800 := hA
  rcases hw with ⟨p0, p1, p2, p3⟩ | ⟨p0, p1, p2, p3⟩
  · have p3' : 1 ≤ (G 64 [x0, x1, x2, x3, x4, x5, u, v] + G 65 [x0, x1, x2, x3, x4, x5, u, v] + G 66 [x0, x1, x2, x3, x4, x5, u, v]) := p3
    have hS := togS_bd b6 b7 b8 p0 p1 p2
    have hq := q_bd (s := (0 + x6 * G 64 [x0, x1, x2, x3, x4, x5, u, v] + x7 * G 65 [x0, x1, x2, x3, x4, x5, u, v] + x8 * G 66 [x0, x1, x2, x3, x4, x5, u, v])) (a := (G 64 [x0, x1, x2, x3, x4, x5, u, v] + G 65 [x0, x1, x2, x3, x4, x5, u, v] + G 66 [x0, x1, x2, x3, x4, x5, u, v])) (d := x9) p3' b9 hS
    exact ⟨by omega, by omega, hq.1, hq.2⟩
  · exact absurd (show (G 64 [x0, x1, x2, x3, x4, x5, u, v] + G 65 [x0, x1, x2, x3, x4, x5, u, v] + G 66 [x0, x1, x2, x3, x4, x5, u, v]) < 0 from Int.lt_of_le_of_lt p3 (by decide)) hs
theorem fine_neg {x0 x1 x2 x3 x4 x5 x6 x7 x8 x9 u v : Int} (b6 : -1125899906842624 ≤ x6 ∧ x6 ≤ 1125899906842624) (b7 : -1125899906842624 ≤ x7 ∧ x7 ≤ 1125899906842624) (b8 : -1125899906842624 ≤ x8 ∧ x8 ≤ 1125899906842624) (b9 : 1 ≤ x9 ∧ x9 ≤ 65535) (h : ¬ G 63 [x0, x1, x2, x3, x4, x5, u, v] = 0) (hs : (G 64 [x0, x1, x2, x3, x4, x5, u, v] + G 65 [x0, x1, x2, x3, x4, x5, u, v] + G 66 [x0, x1, x2, x3, x4, x5, u, v]) < 0) : 2 * (0 - (G 64 [x0, x1, x2, x3, x4, x5, u, v] + G 65 [x0, x1, x2, x3, x4, x5, u, v] + G 66 [x0, x1, x2, x3, x4, x5, u, v])) ≤ 9223372036854775807 ∧ -9223372036854775808 ≤ G 71 [G 71 [(0 - (0 + x6 * G 64 [x0, x1, x2, x3, x4, x5, u, v] + x7 * G 65 [x0, x1, x2, x3, x4, x5, u, v] + x8 * G 66 [x0, x1, x2, x3, x4, x5, u, v])) * 2 + (0 - (G 64 [x0, x1, x2, x3, x4, x5, u, v] + G 65 [x0, x1, x2, x3, x4, x5, u, v] + G 66 [x0, x1, x2, x3, x4, x5, u, v])) * x9, x9], 2 * (0 - (G 64 [x0, x1, x2, x3, x4, x5, u, v] + G 65 [x0, x1, x2, x3, x4, x5, u, v] + G 66 [x0, x1, x2, x3, x4, x5, u, v]))] ∧ G 71 [G 71 [(0 - (0 + x6 * G 64 [x0, x1, x2, x3, x4, x5, u, v] + x7 * G 65 [x0, x1, x2, x3, x4, x5, u, v] + x8 * G 66 [x0, x1, x2, x3, x4, x5, u, v])) * 2 + (0 - (G 64 [x0, x1, x2, x3, x4, x5, u, v] + G 65 [x0, x1, x2, x3, x4, x5, u, v] + G 66 [x0, x1, x2, x3, x4, x5, u, v])) * x9, x9], 2 * (0 - (G 64 [x0, x1, x2, x3, x4, x5, u, v] + G 65 [x0, x1, x2, x3, x4, x5, u, v] + G 66 [x0, x1, x2, x3, x4, x5, u, v]))] ≤ 9223372036854775807 := by
  obtain ⟨hA, hw⟩ := claim_w h
  have hA' : -3602879701896396800 ≤ (G 64 [x0, x1, x2, x3, x4, x5, u, v] + G 65 [x0, x1, x2, x3, x4, x5, u, v] + G 66 [x0, x1, x2, x3, x4, x5, u, v]) ∧ (G 64 [x0, x1, x2, x3, x4, x5, u, v] + G 65 [x0, x1, x2, x3, x4, x5, u, v] + G 66 [x0, x1, x2, x3, x4, x5, u, v]) ≤ 3602879701896396800 := hA
  rcases hw with ⟨p0, p1, p2, p3⟩ | ⟨p0, p1, p2, p3⟩
  · have p3' : 1 ≤ (G 64 [x0, x1, x2, x3, x4, x5, u, v] + G 65 [x0, x1, x2, x3, x4, x5, u, v] + G 66 [x0, x1, x2, x3, x4, x5, u, v]) := p3
    omega
  · have p3' : (G 64 [x0, x1, x2, x3, x4, x5, u, v] + G 65 [x0, x1, x2, x3, x4, x5, u, v] + G 66 [x0, x1, x2, x3, x4, x5, u, v]) ≤ -1 := p3
    have hS := togS_bd' b6 b7 b8 p0 p1 p2
    have hq := q_bd (s := 0 - (0 + x6 * G 64 [x0, x1, x2, x3, x4, x5, u, v] + x7 * G 65 [x0, x1, x2, x3, x4, x5, u, v] + x8 * G 66 [x0, x1, x2, x3, x4, x5, u, v])) (a := 0 - (G 64 [x0, x1, x2, x3, x4, x5, u, v] + G 65 [x0, x1, x2, x3, x4, x5, u, v] + G 66 [x0, x1, x2, x3, x4, x5, u, v])) (d := x9) (by omega) b9 hS
    exact ⟨by omega, hq.1, hq.2⟩
end Go.Proofs.Ytoiecphddchknaa
