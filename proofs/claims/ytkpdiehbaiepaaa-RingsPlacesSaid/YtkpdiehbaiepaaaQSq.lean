/- What is proved: each corner of a patch's triangles is a node of the patch, in plain Lean. No condition but those that are stated. -/
import Derived.Test.YtkpdiehbaiepaaaQSr
set_option linter.unusedSimpArgs false
set_option linter.unusedVariables false
namespace Go.Proofs.Ytkpdiehbaiepaaa
open Go Go.RowKit Sx Wi
section
variable {xs : List Int} {k e : Int}
theorem step_up (h : 1 ≤ k ∧ k ≤ e ∧ e ≤ 4) : stepO k = stepO e * 2 ^ (e - k).toNat ∧ p2 e = 2 ^ (e - k).toNat * p2 k := by
  rcases few_cases' h with ⟨rfl, rfl⟩ | ⟨rfl, rfl⟩ | ⟨rfl, rfl⟩ | ⟨rfl, rfl⟩ | ⟨rfl, rfl⟩ | ⟨rfl, rfl⟩ | ⟨rfl, rfl⟩ | ⟨rfl, rfl⟩ | ⟨rfl, rfl⟩ | ⟨rfl, rfl⟩ <;> decide
theorem step_p2 (h : 1 ≤ e ∧ e ≤ 4) : stepO e * p2 e = 65536 ∧ 0 < stepO e := by
  have : e = 1 ∨ e = 2 ∨ e = 3 ∨ e = 4 := by omega
  rcases this with rfl | rfl | rfl | rfl <;> decide
def isN (xs : List Int) (e : Int) (n : List Int) : Prop := ∃ i j : Int, (0 ≤ i ∧ i ≤ p2 e) ∧ (0 ≤ j ∧ j ≤ p2 e) ∧ n = nodeI xs e i j
def rowN (xs : List Int) (e : Int) (r : List Int) : Prop := ∃ a b c, isN xs e a ∧ isN xs e b ∧ isN xs e c ∧ r = facR a b c
theorem isN_I (h : 1 ≤ k ∧ k ≤ e ∧ e ≤ 4) {i j : Int} (hi : 0 ≤ i ∧ i ≤ p2 k) (hj : 0 ≤ j ∧ j ≤ p2 k) : isN xs e (nodeI xs k i j) := by
  obtain ⟨h1, h2⟩ := step_up h
  have hd : 0 ≤ (2 : Int) ^ (e - k).toNat := Int.pow_nonneg (by decide)
  have u : ∀ i : Int, 0 ≤ i ∧ i ≤ p2 k → 0 ≤ 2 ^ (e - k).toNat * i ∧ 2 ^ (e - k).toNat * i ≤ p2 e := fun i hi => ⟨Int.mul_nonneg hd hi.1, by rw [h2]; exact Int.mul_le_mul_of_nonneg_left hi.2 hd⟩
  have a : ∀ n, aX n i j k = aX n (2 ^ (e - k).toNat * i) (2 ^ (e - k).toNat * j) e := fun n => by
    have := aX_finers (n := n) (i := i) (j := j) (k := k) (by omega) (e - k).toNat (by omega)
    rw [show k + ((e - k).toNat : Int) = e by omega] at this
    exact this.symm
  refine ⟨_, _, u i hi, u j hj, ?_⟩
  unfold nodeI
  rw [a, a, h1, Int.mul_assoc, Int.mul_assoc]
theorem isN_B (h : 1 ≤ e ∧ e ≤ 4) (h0 : farN (l16 (xs16 xs 0))) (h1 : farN (l16 (xs16 xs 1))) (s : Nat) (hs : s < 4) {a : Int} (ha : 0 ≤ a ∧ a ≤ p2 e) : isN xs e (nodeB xs e s a) := by
  have hp := p2_cases e (by omega) (by omega)
  obtain ⟨hs1, hs2⟩ := step_p2 h
  have o0 : aOk (l16 (xs16 xs 0)) a 0 e := ⟨by omega, ha, by omega, h0⟩
  have o1 : aOk (l16 (xs16 xs 1)) a 0 e := ⟨by omega, ha, by omega, h1⟩
  have hs' : s = 0 ∨ s = 1 ∨ s = 2 ∨ s = 3 := by omega
  rcases hs' with rfl | rfl | rfl | rfl
  · refine ⟨a, 0, ha, by omega, ?_⟩
    have l0 := side0 o0
    have l1 := side0 o1
    unfold nodeI
    rw [← l0, ← l1, Int.mul_zero]
    rfl
  · refine ⟨p2 e, a, by omega, ha, ?_⟩
    have l0 := side1 o0
    have l1 := side1 o1
    unfold nodeI
    rw [← l0, ← l1, hs1]
    rfl
  · refine ⟨p2 e - a, p2 e, by omega, by omega, ?_⟩
    have l0 := side2 o0
    have l1 := side2 o1
    unfold nodeI
    rw [← l0, ← l1, Int.mul_sub, hs1]
    rfl
  · refine ⟨0, p2 e - a, by omega, by omega, ?_⟩
    have l0 := side3 o0
    have l1 := side3 o1
    unfold nodeI
    rw [← l0, ← l1, Int.mul_sub, hs1, Int.mul_zero]
    rfl
theorem isN_S (h : 1 ≤ k ∧ k ≤ e ∧ e ≤ 4) (s : Nat) (hs : s < 4) {b : Int} (hb : 1 ≤ b ∧ b ≤ p2 k - 1) : isN xs e (nodeS xs k s b) := by
  have hs' : s = 0 ∨ s = 1 ∨ s = 2 ∨ s = 3 := by omega
  rcases hs' with rfl | rfl | rfl | rfl
  · exact isN_I h ⟨by omega, by omega⟩ ⟨by omega, by omega⟩
  · exact isN_I h ⟨by omega, by omega⟩ ⟨by omega, by omega⟩
  · exact isN_I h ⟨by omega, by omega⟩ ⟨by omega, by omega⟩
  · exact isN_I h ⟨by omega, by omega⟩ ⟨by omega, by omega⟩
theorem rowN_J (h : 1 ≤ k ∧ k ≤ e ∧ e ≤ 4) {i : Int} (hi : 1 ≤ i ∧ i + 1 ≤ p2 k) : ∀ c : Nat, (c : Int) ≤ p2 k - 2 → ∀ r, r ∈ ofJ xs k i c → rowN xs e r
  | 0, _, r, hr => by simp [ofJ] at hr
  | c + 1, hc, r, hr => by
    have hc' : (c : Int) + 1 ≤ p2 k - 2 := by omega
    simp only [ofJ, List.mem_append] at hr
    rcases hr with hr | hr
    · exact rowN_J h hi c (by omega) r hr
    · simp only [sqR, List.mem_cons, List.mem_nil_iff, or_false] at hr
      rcases hr with rfl | rfl
      · exact ⟨_, _, _, isN_I h (by omega) (by omega), isN_I h (by omega) (by omega), isN_I h (by omega) (by omega), rfl⟩
      · exact ⟨_, _, _, isN_I h (by omega) (by omega), isN_I h (by omega) (by omega), isN_I h (by omega) (by omega), rfl⟩
theorem rowN_I (h : 1 ≤ k ∧ k ≤ e ∧ e ≤ 4) : ∀ c : Nat, (c : Int) ≤ p2 k - 2 → ∀ r, r ∈ ofI xs k c → rowN xs e r
  | 0, _, r, hr => by simp [ofI] at hr
  | c + 1, hc, r, hr => by
    have hc' : (c : Int) + 1 ≤ p2 k - 2 := by omega
    simp only [ofI, List.mem_append] at hr
    rcases hr with hr | hr
    · exact rowN_I h c (by omega) r hr
    · exact rowN_J h (by omega) _ (by omega) r hr
theorem rowN_R (h : 1 ≤ k ∧ k ≤ e ∧ e ≤ 4) (h0 : farN (l16 (xs16 xs 0))) (h1 : farN (l16 (xs16 xs 1))) (s : Nat) (hs : s < 4) : ∀ (f : Nat) (a b : Int), 0 ≤ a ∧ a ≤ p2 e → 1 ≤ b ∧ b ≤ p2 k - 1 → ∀ r, r ∈ ringR xs k e s f a b → rowN xs e r
  | 0, a, b, ha, hb, r, hr => by simp [ringR] at hr
  | f + 1, a, b, ha, hb, r, hr => by
    by_cases g : a < p2 e ∧ (b = p2 k - 1 ∨ (2 * a + 1) * p2 k ≤ (2 * b + 1) * p2 e)
    · rw [ringR_out f g.1 g.2] at hr
      rcases List.mem_cons.1 hr with rfl | hr
      · exact ⟨_, _, _, isN_B (by omega) h0 h1 s hs ha, isN_B (by omega) h0 h1 s hs (by omega), isN_S h s hs hb, rfl⟩
      · exact rowN_R h h0 h1 s hs f (a + 1) b (by omega) hb r hr
    · by_cases g2 : b < p2 k - 1
      · rw [ringR_in f g2 g] at hr
        rcases List.mem_cons.1 hr with rfl | hr
        · exact ⟨_, _, _, isN_B (by omega) h0 h1 s hs ha, isN_S h s hs (by omega), isN_S h s hs hb, rfl⟩
        · exact rowN_R h h0 h1 s hs f a (b + 1) ha (by omega) r hr
      · have g3 : ¬ a < p2 e := fun g3 => g ⟨g3, .inl (by omega)⟩
        rw [ringR_end g3 g2] at hr
        cases hr
theorem rowN_L (h : 1 ≤ k ∧ k ≤ e ∧ e ≤ 4) (h0 : farN (l16 (xs16 xs 0))) (h1 : farN (l16 (xs16 xs 1))) : ∀ s : Nat, s ≤ 4 → ∀ r, r ∈ ringsL xs k e s → rowN xs e r
  | 0, _, r, hr => by
    have hp := p2_cases k (by omega) (by omega)
    exact rowN_I h _ (by omega) r hr
  | s + 1, hs, r, hr => by
    have hp := p2_cases k (by omega) (by omega)
    have hq := p2_cases e (by omega) (by omega)
    simp only [ringsL, List.mem_append] at hr
    rcases hr with hr | hr
    · exact rowN_L h h0 h1 s (by omega) r hr
    · exact rowN_R h h0 h1 s (by omega) _ 0 1 (by omega) (by omega) r hr
end
theorem wrp64 {n : Int} (h1 : -9223372036854775808 ≤ n) (h2 : n ≤ 9223372036854775807) : IntKind.i64.wrap n = n := by
  simp only [IntKind.wrap, IntKind.bits, IntKind.signed, Bool.true_and, decide_eq_true_eq, show (2 : Int) ^ 64 = 18446744073709551616 from rfl, show (2 : Int) ^ (64 - 1) = 9223372036854775808 from rfl]
  omega
theorem rd64 (L : List (List Int)) (i : Nat) (j : Nat) : G 83 [Lc.enc L, (i : Int), (j : Int)] = IntKind.i64.wrap ((L.getD i []).getD j 0) := by
  rw [gl_ok 83 _ (by decide) (by decide)]
  show IntKind.i64.wrap (Lc.rd (Lc.enc L) i j) = _
  unfold Lc.rd Lc.row
  rw [Lc.dec_enc, Int.toNat_natCast, Int.toNat_natCast]
def cornerP (x0 x1 x2 x3 x4 x5 x6 x7 x8 x9 x10 x11 x12 x13 x14 x15 x16 x17 x18 x19 x20 x21 x22 x23 x24 x25 x26 x27 x28 x29 x30 x31 k e : Int) (i : Nat) (pu pv px py : Int) (i0 j0 : Int) : Prop := (0 ≤ i0 ∧ i0 ≤ 1 * 2 ^ e.toNat) ∧ (0 ≤ j0 ∧ j0 ≤ 1 * 2 ^ e.toNat) ∧ Int.tdiv (G 82 [G 42 [x0, x1, x2, x3, x4, x5, x6, x7, x8, x9, x10, x11, x12, x13, x14, x15, x16, x17, x18, x19, x20, x21, x22, x23, x24, x25, x26, x27, x28, x29, x30, x31, k, e, 4], (i : Int), pu]) (Int.fdiv 65536 (1 * 2 ^ e.toNat)) = i0 ∧ Int.tdiv (G 82 [G 42 [x0, x1, x2, x3, x4, x5, x6, x7, x8, x9, x10, x11, x12, x13, x14, x15, x16, x17, x18, x19, x20, x21, x22, x23, x24, x25, x26, x27, x28, x29, x30, x31, k, e, 4], (i : Int), pv]) (Int.fdiv 65536 (1 * 2 ^ e.toNat)) = j0 ∧ Int.tmod (G 82 [G 42 [x0, x1, x2, x3, x4, x5, x6, x7, x8, x9, x10, x11, x12, x13, x14, x15, x16, x17, x18, x19, x20, x21, x22, x23, x24, x25, x26, x27, x28, x29, x30, x31, k, e, 4], (i : Int), pu]) (Int.fdiv 65536 (1 * 2 ^ e.toNat)) = 0 ∧ Int.tmod (G 82 [G 42 [x0, x1, x2, x3, x4, x5, x6, x7, x8, x9, x10, x11, x12, x13, x14, x15, x16, x17, x18, x19, x20, x21, x22, x23, x24, x25, x26, x27, x28, x29, x30, x31, k, e, 4], (i : Int), pv]) (Int.fdiv 65536 (1 * 2 ^ e.toNat)) = 0 ∧ G 83 [G 42 [x0, x1, x2, x3, x4, x5, x6, x7, x8, x9, x10, x11, x12, x13, x14, x15, x16, x17, x18, x19, x20, x21, x22, x23, x24, x25, x26, x27, x28, x29, x30, x31, k, e, 4], (i : Int), px] = G 11 [x0, x2, x4, x6, x8, x10, x12, x14, x16, x18, x20, x22, x24, x26, x28, x30, i0, j0, e] ∧ G 83 [G 42 [x0, x1, x2, x3, x4, x5, x6, x7, x8, x9, x10, x11, x12, x13, x14, x15, x16, x17, x18, x19, x20, x21, x22, x23, x24, x25, x26, x27, x28, x29, x30, x31, k, e, 4], (i : Int), py] = G 11 [x1, x3, x5, x7, x9, x11, x13, x15, x17, x19, x21, x23, x25, x27, x29, x31, i0, j0, e]
theorem pl_row (x0 x1 x2 x3 x4 x5 x6 x7 x8 x9 x10 x11 x12 x13 x14 x15 x16 x17 x18 x19 x20 x21 x22 x23 x24 x25 x26 x27 x28 x29 x30 x31 k e : Int) (h : 1 ≤ k ∧ k ≤ e ∧ e ≤ 4) (f0 : far x0) (f1 : far x1) (f2 : far x2) (f3 : far x3) (f4 : far x4) (f5 : far x5) (f6 : far x6) (f7 : far x7) (f8 : far x8) (f9 : far x9) (f10 : far x10) (f11 : far x11) (f12 : far x12) (f13 : far x13) (f14 : far x14) (f15 : far x15) (f16 : far x16) (f17 : far x17) (f18 : far x18) (f19 : far x19) (f20 : far x20) (f21 : far x21) (f22 : far x22) (f23 : far x23) (f24 : far x24) (f25 : far x25) (f26 : far x26) (f27 : far x27) (f28 : far x28) (f29 : far x29) (f30 : far x30) (f31 : far x31) (i : Nat) (hi : i < (ringsL [x0, x1, x2, x3, x4, x5, x6, x7, x8, x9, x10, x11, x12, x13, x14, x15, x16, x17, x18, x19, x20, x21, x22, x23, x24, x25, x26, x27, x28, x29, x30, x31] k e 4).length) : 0 < Int.fdiv 65536 (1 * 2 ^ e.toNat) ∧ ∃ i0 j0 i1 j1 i2 j2 : Int, cornerP x0 x1 x2 x3 x4 x5 x6 x7 x8 x9 x10 x11 x12 x13 x14 x15 x16 x17 x18 x19 x20 x21 x22 x23 x24 x25 x26 x27 x28 x29 x30 x31 k e i 6 9 0 1 i0 j0 ∧ cornerP x0 x1 x2 x3 x4 x5 x6 x7 x8 x9 x10 x11 x12 x13 x14 x15 x16 x17 x18 x19 x20 x21 x22 x23 x24 x25 x26 x27 x28 x29 x30 x31 k e i 7 10 2 3 i1 j1 ∧ cornerP x0 x1 x2 x3 x4 x5 x6 x7 x8 x9 x10 x11 x12 x13 x14 x15 x16 x17 x18 x19 x20 x21 x22 x23 x24 x25 x26 x27 x28 x29 x30 x31 k e i 8 11 4 5 i2 j2 := by
  have h0 : farN (l16 (xs16 [x0, x1, x2, x3, x4, x5, x6, x7, x8, x9, x10, x11, x12, x13, x14, x15, x16, x17, x18, x19, x20, x21, x22, x23, x24, x25, x26, x27, x28, x29, x30, x31] 0)) := farN_16 ⟨f0, f2, f4, f6, f8, f10, f12, f14, f16, f18, f20, f22, f24, f26, f28, f30⟩
  have h1 : farN (l16 (xs16 [x0, x1, x2, x3, x4, x5, x6, x7, x8, x9, x10, x11, x12, x13, x14, x15, x16, x17, x18, x19, x20, x21, x22, x23, x24, x25, x26, x27, x28, x29, x30, x31] 1)) := farN_16 ⟨f1, f3, f5, f7, f9, f11, f13, f15, f17, f19, f21, f23, f25, f27, f29, f31⟩
  have hr := rowN_L h h0 h1 4 (Nat.le_refl 4) ((ringsL [x0, x1, x2, x3, x4, x5, x6, x7, x8, x9, x10, x11, x12, x13, x14, x15, x16, x17, x18, x19, x20, x21, x22, x23, x24, x25, x26, x27, x28, x29, x30, x31] k e 4).getD i []) (by rw [List.getD_eq_getElem?_getD, List.getElem?_eq_getElem hi]; exact List.getElem_mem hi)
  obtain ⟨hs1, hs2⟩ := step_p2 (e := e) (by omega)
  have e1 : G 42 [x0, x1, x2, x3, x4, x5, x6, x7, x8, x9, x10, x11, x12, x13, x14, x15, x16, x17, x18, x19, x20, x21, x22, x23, x24, x25, x26, x27, x28, x29, x30, x31, k, e, 4] = Lc.enc (ringsL [x0, x1, x2, x3, x4, x5, x6, x7, x8, x9, x10, x11, x12, x13, x14, x15, x16, x17, x18, x19, x20, x21, x22, x23, x24, x25, x26, x27, x28, x29, x30, x31] k e 4) := rfl
  have g2 : ∀ (j : Nat) (x : Int), ((ringsL [x0, x1, x2, x3, x4, x5, x6, x7, x8, x9, x10, x11, x12, x13, x14, x15, x16, x17, x18, x19, x20, x21, x22, x23, x24, x25, x26, x27, x28, x29, x30, x31] k e 4).getD i []).getD j 0 = x → -2147483648 ≤ x → x ≤ 2147483647 → G 82 [G 42 [x0, x1, x2, x3, x4, x5, x6, x7, x8, x9, x10, x11, x12, x13, x14, x15, x16, x17, x18, x19, x20, x21, x22, x23, x24, x25, x26, x27, x28, x29, x30, x31, k, e, 4], (i : Int), (j : Int)] = x := fun j x hx b1 b2 => by rw [e1, rd32', hx, wrp32' b1 b2]
  have g3 : ∀ (j : Nat) (x : Int), ((ringsL [x0, x1, x2, x3, x4, x5, x6, x7, x8, x9, x10, x11, x12, x13, x14, x15, x16, x17, x18, x19, x20, x21, x22, x23, x24, x25, x26, x27, x28, x29, x30, x31] k e 4).getD i []).getD j 0 = x → -4294967296 ≤ x ∧ x ≤ 4294967296 → G 83 [G 42 [x0, x1, x2, x3, x4, x5, x6, x7, x8, x9, x10, x11, x12, x13, x14, x15, x16, x17, x18, x19, x20, x21, x22, x23, x24, x25, x26, x27, x28, x29, x30, x31, k, e, 4], (i : Int), (j : Int)] = x := fun j x hx b => by rw [e1, rd64, hx, wrp64 (by omega) (by omega)]
  generalize (ringsL [x0, x1, x2, x3, x4, x5, x6, x7, x8, x9, x10, x11, x12, x13, x14, x15, x16, x17, x18, x19, x20, x21, x22, x23, x24, x25, x26, x27, x28, x29, x30, x31] k e 4).getD i [] = r at hr g2 g3
  obtain ⟨a, b, c, ⟨i0, j0, a1, a2, rfl⟩, ⟨i1, j1, b1, b2, rfl⟩, ⟨i2, j2, c1, c2, rfl⟩, rfl⟩ := hr
  have bd : ∀ q : Int, 0 ≤ q ∧ q ≤ p2 e → 0 ≤ stepO e * q ∧ stepO e * q ≤ 65536 := fun q hq => ⟨Int.mul_nonneg (by omega) hq.1, by rw [← hs1]; exact Int.mul_le_mul_of_nonneg_left hq.2 (by omega)⟩
  have key : ∀ (pu pv px py : Nat) (q w : Int), (0 ≤ q ∧ q ≤ p2 e) → (0 ≤ w ∧ w ≤ p2 e) → G 82 [G 42 [x0, x1, x2, x3, x4, x5, x6, x7, x8, x9, x10, x11, x12, x13, x14, x15, x16, x17, x18, x19, x20, x21, x22, x23, x24, x25, x26, x27, x28, x29, x30, x31, k, e, 4], (i : Int), (pu : Int)] = stepO e * q → G 82 [G 42 [x0, x1, x2, x3, x4, x5, x6, x7, x8, x9, x10, x11, x12, x13, x14, x15, x16, x17, x18, x19, x20, x21, x22, x23, x24, x25, x26, x27, x28, x29, x30, x31, k, e, 4], (i : Int), (pv : Int)] = stepO e * w → G 83 [G 42 [x0, x1, x2, x3, x4, x5, x6, x7, x8, x9, x10, x11, x12, x13, x14, x15, x16, x17, x18, x19, x20, x21, x22, x23, x24, x25, x26, x27, x28, x29, x30, x31, k, e, 4], (i : Int), (px : Int)] = aX (l16 (xs16 [x0, x1, x2, x3, x4, x5, x6, x7, x8, x9, x10, x11, x12, x13, x14, x15, x16, x17, x18, x19, x20, x21, x22, x23, x24, x25, x26, x27, x28, x29, x30, x31] 0)) q w e → G 83 [G 42 [x0, x1, x2, x3, x4, x5, x6, x7, x8, x9, x10, x11, x12, x13, x14, x15, x16, x17, x18, x19, x20, x21, x22, x23, x24, x25, x26, x27, x28, x29, x30, x31, k, e, 4], (i : Int), (py : Int)] = aX (l16 (xs16 [x0, x1, x2, x3, x4, x5, x6, x7, x8, x9, x10, x11, x12, x13, x14, x15, x16, x17, x18, x19, x20, x21, x22, x23, x24, x25, x26, x27, x28, x29, x30, x31] 1)) q w e → cornerP x0 x1 x2 x3 x4 x5 x6 x7 x8 x9 x10 x11 x12 x13 x14 x15 x16 x17 x18 x19 x20 x21 x22 x23 x24 x25 x26 x27 x28 x29 x30 x31 k e i pu pv px py q w := by
    intro pu pv px py q w hq hw r1 r2 r3 r4
    refine ⟨hq, hw, ?_, ?_, ?_, ?_, r3, r4⟩
    · rw [r1]; exact Int.mul_tdiv_cancel_left _ (by show stepO e ≠ 0; omega)
    · rw [r2]; exact Int.mul_tdiv_cancel_left _ (by show stepO e ≠ 0; omega)
    · rw [r1]; exact Int.mul_tmod_right _ _
    · rw [r2]; exact Int.mul_tmod_right _ _
  refine ⟨hs2, i0, j0, i1, j1, i2, j2, key 6 9 0 1 i0 j0 a1 a2 ?_ ?_ ?_ ?_, key 7 10 2 3 i1 j1 b1 b2 ?_ ?_ ?_ ?_, key 8 11 4 5 i2 j2 c1 c2 ?_ ?_ ?_ ?_⟩
  · exact g2 6 _ rfl (by have := bd _ a1; omega) (by have := bd _ a1; omega)
  · exact g2 9 _ rfl (by have := bd _ a2; omega) (by have := bd _ a2; omega)
  · exact g3 0 _ rfl (aX_bd _ _ _ _)
  · exact g3 1 _ rfl (aX_bd _ _ _ _)
  · exact g2 7 _ rfl (by have := bd _ b1; omega) (by have := bd _ b1; omega)
  · exact g2 10 _ rfl (by have := bd _ b2; omega) (by have := bd _ b2; omega)
  · exact g3 2 _ rfl (aX_bd _ _ _ _)
  · exact g3 3 _ rfl (aX_bd _ _ _ _)
  · exact g2 8 _ rfl (by have := bd _ c1; omega) (by have := bd _ c1; omega)
  · exact g2 11 _ rfl (by have := bd _ c2; omega) (by have := bd _ c2; omega)
  · exact g3 4 _ rfl (aX_bd _ _ _ _)
  · exact g3 5 _ rfl (aX_bd _ _ _ _)
end Go.Proofs.Ytkpdiehbaiepaaa
