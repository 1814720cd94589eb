/- What is proved: what the laws of this seat say of places of curves and patches, in plain whole numbers. No condition but those that are named. -/
import Derived.Test.YtnhhphdhkgjbhaaGd
set_option linter.unusedSimpArgs false
set_option linter.unusedVariables false
namespace Go.Proofs.Ytnhhphdhkgjbhaa
open Go Go.RowKit Sx Wi
theorem fdiv_256 (x : Int) : x.fdiv 256 = x / 256 := Int.fdiv_eq_ediv_of_nonneg x (by decide)
theorem eOk_back (a b c d i k : Int) : eOk d c b a (p2 k - i) k ↔ eOk a b c d i k := by
  unfold eOk
  constructor
  · rintro ⟨h1, h2, h3, h4, h5, h6⟩; exact ⟨h1, by omega, h6, h5, h4, h3⟩
  · rintro ⟨h1, h2, h3, h4, h5, h6⟩; exact ⟨h1, by omega, h6, h5, h4, h3⟩
theorem eX_back (a b c d i k : Int) : eX d c b a (p2 k - i) k = eX a b c d i k := by
  unfold eX
  by_cases h : eOk a b c d i k
  · rw [if_pos h, if_pos ((eOk_back a b c d i k).2 h), Bz.edge_back]
  · rw [if_neg h, if_neg (fun q => h ((eOk_back a b c d i k).1 q))]
theorem eOk2_back (x0 x1 x2 x3 x4 x5 x6 x7 i k : Int) : eOk2 x6 x7 x4 x5 x2 x3 x0 x1 (p2 k - i) k ↔ eOk2 x0 x1 x2 x3 x4 x5 x6 x7 i k := by
  unfold eOk2
  constructor
  · rintro ⟨h1, h2, a0, a1, a2, a3, a4, a5, a6, a7⟩; exact ⟨h1, by omega, a6, a7, a4, a5, a2, a3, a0, a1⟩
  · rintro ⟨h1, h2, a0, a1, a2, a3, a4, a5, a6, a7⟩; exact ⟨h1, by omega, a6, a7, a4, a5, a2, a3, a0, a1⟩
theorem eX_0 {a b c d i k : Int} (h : eOk a b c d i k) : eX a b c d 0 k = (a + 128) / 256 := by
  obtain ⟨h1, h2, h3⟩ := h
  have hp := p2_pos k h1.1 h1.2
  unfold eX; rw [if_pos ⟨h1, ⟨by omega, by omega⟩, h3⟩, Bz.edge_0 _ _ _ _ _ hp, Bz.near_256]
theorem eX_1 {a b c d i k : Int} (h : eOk a b c d i k) : eX a b c d (p2 k) k = (d + 128) / 256 := by
  obtain ⟨h1, h2, h3⟩ := h
  have hp := p2_pos k h1.1 h1.2
  unfold eX; rw [if_pos ⟨h1, ⟨by omega, by omega⟩, h3⟩, Bz.edge_1 _ _ _ _ _ hp, Bz.near_256]
theorem eX_le {a b c d i k m : Int} (h : eOk a b c d i k) (a0 : a ≤ m) (a1 : b ≤ m) (a2 : c ≤ m) (a3 : d ≤ m) : eX a b c d i k ≤ (m + 128) / 256 := by
  unfold eX; rw [if_pos h]
  exact Bz.edge_le _ _ _ _ _ _ _ h.2.1.1 h.2.1.2 (p2_pos k h.1.1 h.1.2) a0 a1 a2 a3
theorem eX_ge {a b c d i k m : Int} (h : eOk a b c d i k) (a0 : m ≤ a) (a1 : m ≤ b) (a2 : m ≤ c) (a3 : m ≤ d) : (m + 128) / 256 ≤ eX a b c d i k := by
  unfold eX; rw [if_pos h]
  exact Bz.edge_ge _ _ _ _ _ _ _ h.2.1.1 h.2.1.2 (p2_pos k h.1.1 h.1.2) a0 a1 a2 a3
theorem eX_finer {a b c d i k : Int} (h : 0 ≤ k) (h' : k ≤ 5) : eX a b c d (2 * i) (k + 1) = eX a b c d i k := by
  have e := p2_dbl k h
  unfold eX
  by_cases q : eOk a b c d i k
  · have q' : eOk a b c d (2 * i) (k + 1) := by obtain ⟨h1, h2, h3⟩ := q; exact ⟨by omega, by omega, h3⟩
    rw [if_pos q, if_pos q', e, Bz.edge_finer]
  · have q' : ¬ eOk a b c d (2 * i) (k + 1) := fun z => q (by obtain ⟨h1, h2, h3⟩ := z; exact ⟨by omega, by omega, h3⟩)
    rw [if_neg q, if_neg q']
theorem eOk2_finer {x0 x1 x2 x3 x4 x5 x6 x7 i k : Int} (h : 0 ≤ k) (h' : k ≤ 5) : eOk2 x0 x1 x2 x3 x4 x5 x6 x7 (2 * i) (k + 1) ↔ eOk2 x0 x1 x2 x3 x4 x5 x6 x7 i k := by
  have e := p2_dbl k h
  unfold eOk2
  constructor
  · rintro ⟨h1, h2, h3⟩; exact ⟨by omega, by omega, h3⟩
  · rintro ⟨h1, h2, h3⟩; exact ⟨by omega, by omega, h3⟩
theorem aX_finer {n : Nat → Int} {i j k : Int} (h : 0 ≤ k) (h' : k ≤ 5) : aX n (2 * i) (2 * j) (k + 1) = aX n i j k := by
  have e := p2_dbl k h
  unfold aX
  by_cases q : aOk n i j k
  · have q' : aOk n (2 * i) (2 * j) (k + 1) := by obtain ⟨h1, h2, h3, h4⟩ := q; exact ⟨by omega, by omega, by omega, h4⟩
    rw [if_pos q, if_pos q', e, Bz.at_finer]
  · have q' : ¬ aOk n (2 * i) (2 * j) (k + 1) := fun z => q (by obtain ⟨h1, h2, h3, h4⟩ := z; exact ⟨by omega, by omega, by omega, h4⟩)
    rw [if_neg q, if_neg q']
theorem aOk2_finer (a0 a1 a2 a3 a4 a5 a6 a7 a8 a9 a10 a11 a12 a13 a14 a15 b0 b1 b2 b3 b4 b5 b6 b7 b8 b9 b10 b11 b12 b13 b14 b15 : Int) {i j k : Int} (h : 0 ≤ k) (h' : k ≤ 5) : aOk2 a0 a1 a2 a3 a4 a5 a6 a7 a8 a9 a10 a11 a12 a13 a14 a15 b0 b1 b2 b3 b4 b5 b6 b7 b8 b9 b10 b11 b12 b13 b14 b15 (2 * i) (2 * j) (k + 1) ↔ aOk2 a0 a1 a2 a3 a4 a5 a6 a7 a8 a9 a10 a11 a12 a13 a14 a15 b0 b1 b2 b3 b4 b5 b6 b7 b8 b9 b10 b11 b12 b13 b14 b15 i j k := by
  have e := p2_dbl k h
  unfold aOk2
  constructor
  · rintro ⟨h1, h2, h3, h4⟩; exact ⟨by omega, by omega, by omega, h4⟩
  · rintro ⟨h1, h2, h3, h4⟩; exact ⟨by omega, by omega, by omega, h4⟩
end Go.Proofs.Ytnhhphdhkgjbhaa
