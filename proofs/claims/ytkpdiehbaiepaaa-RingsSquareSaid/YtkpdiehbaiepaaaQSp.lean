/- What is proved: on the patch the triangles of a patch turn one way, cover it all, and none is greater than a cell, in plain Lean. No condition but those that are stated. -/
import Derived.Test.YtkpdiehbaiepaaaQRo
set_option linter.unusedSimpArgs false
set_option linter.unusedVariables false
namespace Go.Proofs.Ytkpdiehbaiepaaa
open Go Go.RowKit Sx Wi
def areaR (r : List Int) : Int := (r.getD 7 0 - r.getD 6 0) * (r.getD 11 0 - r.getD 9 0) - (r.getD 10 0 - r.getD 9 0) * (r.getD 8 0 - r.getD 6 0)
def in16 (x : Int) : Bool := decide (0 ≤ x) && decide (x ≤ 65536)
def apart3 (c x y z : Int) : Bool := decide (x - y ≤ c) && decide (y - x ≤ c) && decide (x - z ≤ c) && decide (z - x ≤ c) && decide (y - z ≤ c) && decide (z - y ≤ c)
def rowOk (c : Int) (r : List Int) : Bool :=
  in16 (r.getD 6 0) && in16 (r.getD 7 0) && in16 (r.getD 8 0) && in16 (r.getD 9 0) && in16 (r.getD 10 0) && in16 (r.getD 11 0) && decide (0 < areaR r) &&
  apart3 c (r.getD 6 0) (r.getD 7 0) (r.getD 8 0) && apart3 c (r.getD 9 0) (r.getD 10 0) (r.getD 11 0)
def sumA : List (List Int) → Int
  | [] => 0
  | r :: l => areaR r + sumA l
def chk (c : Int) : List (List Int) → Int → Bool
  | [], s => decide (s = 8589934592)
  | r :: l, s => rowOk c r && chk c l (s + areaR r)
theorem chk11 (xs : List Int) : chk (stepO 1) (ringsL xs 1 1 4) 0 = true := by kernel_rfl
theorem chk12 (xs : List Int) : chk (stepO 1) (ringsL xs 1 2 4) 0 = true := by kernel_rfl
theorem chk13 (xs : List Int) : chk (stepO 1) (ringsL xs 1 3 4) 0 = true := by kernel_rfl
theorem chk14 (xs : List Int) : chk (stepO 1) (ringsL xs 1 4 4) 0 = true := by kernel_rfl
theorem chk22 (xs : List Int) : chk (stepO 2) (ringsL xs 2 2 4) 0 = true := by kernel_rfl
theorem chk23 (xs : List Int) : chk (stepO 2) (ringsL xs 2 3 4) 0 = true := by kernel_rfl
theorem chk24 (xs : List Int) : chk (stepO 2) (ringsL xs 2 4 4) 0 = true := by kernel_rfl
theorem chk33 (xs : List Int) : chk (stepO 3) (ringsL xs 3 3 4) 0 = true := by kernel_rfl
theorem chk34 (xs : List Int) : chk (stepO 3) (ringsL xs 3 4 4) 0 = true := by kernel_rfl
theorem chk44 (xs : List Int) : chk (stepO 4) (ringsL xs 4 4 4) 0 = true := by kernel_rfl
theorem few_cases {k e : Int} (h : 1 ≤ k ∧ k ≤ e ∧ e ≤ 4) : (k = 1 ∧ e = 1) ∨ (k = 1 ∧ e = 2) ∨ (k = 1 ∧ e = 3) ∨ (k = 1 ∧ e = 4) ∨ (k = 2 ∧ e = 2) ∨ (k = 2 ∧ e = 3) ∨ (k = 2 ∧ e = 4) ∨ (k = 3 ∧ e = 3) ∨ (k = 3 ∧ e = 4) ∨ (k = 4 ∧ e = 4) := by omega
theorem chk_all (xs : List Int) {k e : Int} (h : 1 ≤ k ∧ k ≤ e ∧ e ≤ 4) : chk (stepO k) (ringsL xs k e 4) 0 = true := by
  rcases few_cases h with ⟨rfl, rfl⟩ | ⟨rfl, rfl⟩ | ⟨rfl, rfl⟩ | ⟨rfl, rfl⟩ | ⟨rfl, rfl⟩ | ⟨rfl, rfl⟩ | ⟨rfl, rfl⟩ | ⟨rfl, rfl⟩ | ⟨rfl, rfl⟩ | ⟨rfl, rfl⟩
  · exact chk11 xs
  · exact chk12 xs
  · exact chk13 xs
  · exact chk14 xs
  · exact chk22 xs
  · exact chk23 xs
  · exact chk24 xs
  · exact chk33 xs
  · exact chk34 xs
  · exact chk44 xs
theorem chk_sum {c : Int} : ∀ {l : List (List Int)} {s : Int}, chk c l s = true → s + sumA l = 8589934592
  | [], s, h => by simp only [chk, decide_eq_true_eq] at h; simp only [sumA]; omega
  | r :: l, s, h => by
    simp only [chk, Bool.and_eq_true] at h
    have := chk_sum h.2
    simp only [sumA]; omega
theorem chk_row {c : Int} : ∀ {l : List (List Int)} {s : Int}, chk c l s = true → ∀ i, i < l.length → rowOk c (l.getD i []) = true
  | [], s, h, i, hi => by simp at hi
  | r :: l, s, h, i, hi => by
    simp only [chk, Bool.and_eq_true] at h
    cases i with
    | zero => exact h.1
    | succ i => exact chk_row h.2 i (by simpa using hi)
theorem rowOk_area {c : Int} {r : List Int} (h : rowOk c r = true) : 0 < areaR r := by
  simp only [rowOk, Bool.and_eq_true, decide_eq_true_eq] at h
  exact h.1.1.2
theorem sumA_take : ∀ (l : List (List Int)) (i : Nat), i < l.length → sumA (l.take (i + 1)) = sumA (l.take i) + areaR (l.getD i [])
  | [], i, h => by simp at h
  | r :: l, 0, h => by simp [sumA]
  | r :: l, i + 1, h => by
    have := sumA_take l i (by simpa using h)
    simp only [List.take_succ_cons, sumA, this, List.getD_cons_succ]; omega
theorem sumA_le {c : Int} : ∀ {l : List (List Int)} {s : Int}, chk c l s = true → ∀ i, 0 ≤ sumA (l.take i) ∧ sumA (l.take i) ≤ sumA l
  | [], s, h, i => by simp [sumA]
  | r :: l, s, h, 0 => by
    have h0 := sumA_le (c := c) (show chk c l (s + areaR r) = true from by simp only [chk, Bool.and_eq_true] at h; exact h.2) 0
    have ha := rowOk_area (chk_row h 0 (by simp))
    simp only [List.take_zero, sumA] at h0 ⊢
    have : 0 < areaR r := ha
    omega
  | r :: l, s, h, i + 1 => by
    have h0 := sumA_le (c := c) (show chk c l (s + areaR r) = true from by simp only [chk, Bool.and_eq_true] at h; exact h.2) i
    have ha : 0 < areaR r := rowOk_area (chk_row h 0 (by simp))
    simp only [List.take_succ_cons, sumA]
    omega
theorem wrp32 {n : Int} (h1 : -2147483648 ≤ n) (h2 : n ≤ 2147483647) : IntKind.i32.wrap n = n := by
  simp only [IntKind.wrap, IntKind.bits, IntKind.signed, Bool.true_and, decide_eq_true_eq, show (2 : Int) ^ 32 = 4294967296 from rfl, show (2 : Int) ^ (32 - 1) = 2147483648 from rfl]
  omega
theorem rd32 (L : List (List Int)) (i : Nat) (j : Nat) : G 82 [Lc.enc L, (i : Int), (j : Int)] = IntKind.i32.wrap ((L.getD i []).getD j 0) := by
  rw [gl_ok 82 _ (by decide) (by decide)]
  show IntKind.i32.wrap (Lc.rd (Lc.enc L) i j) = _
  unfold Lc.rd Lc.row
  rw [Lc.dec_enc, Int.toNat_natCast, Int.toNat_natCast]
theorem sq_row (x0 x1 x2 x3 x4 x5 x6 x7 x8 x9 x10 x11 x12 x13 x14 x15 x16 x17 x18 x19 x20 x21 x22 x23 x24 x25 x26 x27 x28 x29 x30 x31 k e : Int) (h : 1 ≤ k ∧ k ≤ e ∧ e ≤ 4) (i : Nat) (hi : i < (ringsL [x0, x1, x2, x3, x4, x5, x6, x7, x8, x9, x10, x11, x12, x13, x14, x15, x16, x17, x18, x19, x20, x21, x22, x23, x24, x25, x26, x27, x28, x29, x30, x31] k e 4).length) : ∃ u0 u1 u2 v0 v1 v2 : Int, G 82 [G 42 [x0, x1, x2, x3, x4, x5, x6, x7, x8, x9, x10, x11, x12, x13, x14, x15, x16, x17, x18, x19, x20, x21, x22, x23, x24, x25, x26, x27, x28, x29, x30, x31, k, e, 4], (i : Int), 6] = u0 ∧ G 82 [G 42 [x0, x1, x2, x3, x4, x5, x6, x7, x8, x9, x10, x11, x12, x13, x14, x15, x16, x17, x18, x19, x20, x21, x22, x23, x24, x25, x26, x27, x28, x29, x30, x31, k, e, 4], (i : Int), 7] = u1 ∧ G 82 [G 42 [x0, x1, x2, x3, x4, x5, x6, x7, x8, x9, x10, x11, x12, x13, x14, x15, x16, x17, x18, x19, x20, x21, x22, x23, x24, x25, x26, x27, x28, x29, x30, x31, k, e, 4], (i : Int), 8] = u2 ∧ G 82 [G 42 [x0, x1, x2, x3, x4, x5, x6, x7, x8, x9, x10, x11, x12, x13, x14, x15, x16, x17, x18, x19, x20, x21, x22, x23, x24, x25, x26, x27, x28, x29, x30, x31, k, e, 4], (i : Int), 9] = v0 ∧ G 82 [G 42 [x0, x1, x2, x3, x4, x5, x6, x7, x8, x9, x10, x11, x12, x13, x14, x15, x16, x17, x18, x19, x20, x21, x22, x23, x24, x25, x26, x27, x28, x29, x30, x31, k, e, 4], (i : Int), 10] = v1 ∧ G 82 [G 42 [x0, x1, x2, x3, x4, x5, x6, x7, x8, x9, x10, x11, x12, x13, x14, x15, x16, x17, x18, x19, x20, x21, x22, x23, x24, x25, x26, x27, x28, x29, x30, x31, k, e, 4], (i : Int), 11] = v2 ∧ (0 ≤ u0 ∧ u0 ≤ 65536 ∧ 0 ≤ u1 ∧ u1 ≤ 65536 ∧ 0 ≤ u2 ∧ u2 ≤ 65536 ∧ 0 ≤ v0 ∧ v0 ≤ 65536 ∧ 0 ≤ v1 ∧ v1 ≤ 65536 ∧ 0 ≤ v2 ∧ v2 ≤ 65536) ∧ 0 < (u1 - u0) * (v2 - v0) - (v1 - v0) * (u2 - u0) ∧ (u0 - u1 ≤ Int.fdiv 65536 (1 * 2 ^ k.toNat) ∧ u1 - u0 ≤ Int.fdiv 65536 (1 * 2 ^ k.toNat) ∧ u0 - u2 ≤ Int.fdiv 65536 (1 * 2 ^ k.toNat) ∧ u2 - u0 ≤ Int.fdiv 65536 (1 * 2 ^ k.toNat) ∧ u1 - u2 ≤ Int.fdiv 65536 (1 * 2 ^ k.toNat) ∧ u2 - u1 ≤ Int.fdiv 65536 (1 * 2 ^ k.toNat) ∧ v0 - v1 ≤ Int.fdiv 65536 (1 * 2 ^ k.toNat) ∧ v1 - v0 ≤ Int.fdiv 65536 (1 * 2 ^ k.toNat) ∧ v0 - v2 ≤ Int.fdiv 65536 (1 * 2 ^ k.toNat) ∧ v2 - v0 ≤ Int.fdiv 65536 (1 * 2 ^ k.toNat) ∧ v1 - v2 ≤ Int.fdiv 65536 (1 * 2 ^ k.toNat) ∧ v2 - v1 ≤ Int.fdiv 65536 (1 * 2 ^ k.toNat)) ∧ sumA ((ringsL [x0, x1, x2, x3, x4, x5, x6, x7, x8, x9, x10, x11, x12, x13, x14, x15, x16, x17, x18, x19, x20, x21, x22, x23, x24, x25, x26, x27, x28, x29, x30, x31] k e 4).take (i + 1)) = sumA ((ringsL [x0, x1, x2, x3, x4, x5, x6, x7, x8, x9, x10, x11, x12, x13, x14, x15, x16, x17, x18, x19, x20, x21, x22, x23, x24, x25, x26, x27, x28, x29, x30, x31] k e 4).take i) + ((u1 - u0) * (v2 - v0) - (v1 - v0) * (u2 - u0)) := by
  have hc := chk_all [x0, x1, x2, x3, x4, x5, x6, x7, x8, x9, x10, x11, x12, x13, x14, x15, x16, x17, x18, x19, x20, x21, x22, x23, x24, x25, x26, x27, x28, x29, x30, x31] h
  have hr := chk_row hc i hi
  have ht := sumA_take _ i hi
  generalize hL : (ringsL [x0, x1, x2, x3, x4, x5, x6, x7, x8, x9, x10, x11, x12, x13, x14, x15, x16, x17, x18, x19, x20, x21, x22, x23, x24, x25, x26, x27, x28, x29, x30, x31] k e 4).getD i [] = r at hr ht
  have g : ∀ j : Nat, 0 ≤ r.getD j 0 ∧ r.getD j 0 ≤ 65536 → G 82 [G 42 [x0, x1, x2, x3, x4, x5, x6, x7, x8, x9, x10, x11, x12, x13, x14, x15, x16, x17, x18, x19, x20, x21, x22, x23, x24, x25, x26, x27, x28, x29, x30, x31, k, e, 4], (i : Int), (j : Int)] = r.getD j 0 := fun j hj => by
    have e1 : G 42 [x0, x1, x2, x3, x4, x5, x6, x7, x8, x9, x10, x11, x12, x13, x14, x15, x16, x17, x18, x19, x20, x21, x22, x23, x24, x25, x26, x27, x28, x29, x30, x31, k, e, 4] = Lc.enc (ringsL [x0, x1, x2, x3, x4, x5, x6, x7, x8, x9, x10, x11, x12, x13, x14, x15, x16, x17, x18, x19, x20, x21, x22, x23, x24, x25, x26, x27, x28, x29, x30, x31] k e 4) := rfl
    rw [e1, rd32, hL, wrp32 (by omega) (by omega)]
  simp only [rowOk, in16, apart3, Bool.and_eq_true, decide_eq_true_eq] at hr
  obtain ⟨⟨⟨⟨⟨⟨⟨⟨h6, h7⟩, h8⟩, h9⟩, h10⟩, h11⟩, ha⟩, ⟨⟨⟨⟨⟨p1, p2⟩, p3⟩, p4⟩, p5⟩, p6⟩⟩, ⟨⟨⟨⟨⟨q1, q2⟩, q3⟩, q4⟩, q5⟩, q6⟩⟩ := hr
  exact ⟨_, _, _, _, _, _, ⟨g 6 h6, g 7 h7, g 8 h8, g 9 h9, g 10 h10, g 11 h11, ⟨h6.1, h6.2, h7.1, h7.2, h8.1, h8.2, h9.1, h9.2, h10.1, h10.2, h11.1, h11.2⟩, ha, ⟨p1, p2, p3, p4, p5, p6, q1, q2, q3, q4, q5, q6⟩, ht⟩⟩
end Go.Proofs.Ytkpdiehbaiepaaa
