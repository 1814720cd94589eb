/- What is proved: the nodes of a patch's triangles are the patch's places, in plain Lean. No condition but those that are stated. -/
import Derived.Test.YtkpdiehbaiepaaaQg6
set_option linter.unusedSimpArgs false
set_option linter.unusedVariables false
namespace Go.Proofs.Ytkpdiehbaiepaaa
open Go Go.RowKit Sx Wi
theorem aX_finer {n : Nat → Int} {i j k : Int} (h0 : 0 ≤ k) (h1 : k + 1 ≤ 6) : aX n (2 * i) (2 * j) (k + 1) = aX n i j k := by
  have hd := p2_dbl k h0
  unfold aX
  by_cases g : aOk n i j k
  · obtain ⟨g1, g2, g3, g4⟩ := g
    rw [if_pos (show aOk n i j k from ⟨g1, g2, g3, g4⟩), if_pos (show aOk n (2 * i) (2 * j) (k + 1) from ⟨by omega, by omega, by omega, g4⟩), hd, Bz.at_finer]
  · rw [if_neg g, if_neg]
    rintro ⟨g1, g2, g3, g4⟩
    exact g ⟨by omega, by omega, by omega, g4⟩
theorem aX_finers {n : Nat → Int} {i j k : Int} (h0 : 0 ≤ k) : ∀ d : Nat, k + d ≤ 6 → aX n (2 ^ d * i) (2 ^ d * j) (k + d) = aX n i j k
  | 0, h => by simp
  | d + 1, h => by
    have ih := aX_finers (n := n) (i := i) (j := j) h0 d (by omega)
    rw [← ih, ← aX_finer (n := n) (i := 2 ^ d * i) (j := 2 ^ d * j) (k := k + d) (by omega) (by omega)]
    congr 1
    · rw [Int.pow_succ]; grind
    · rw [Int.pow_succ]; grind
    · omega
section
variable {n : Nat → Int} {a k : Int}
theorem eX_of (h : aOk n a 0 k) (p0 p1 p2' p3 : Nat) (h0 : p0 < 16) (h1 : p1 < 16) (h2 : p2' < 16) (h3 : p3 < 16) : eX (n p0) (n p1) (n p2') (n p3) a k = Bz.edge (n p0) (n p1) (n p2') (n p3) a (p2 k) := by
  obtain ⟨g1, g2, g3, g4⟩ := h
  unfold eX
  rw [if_pos ⟨g1, g2, g4 _ h0, g4 _ h1, g4 _ h2, g4 _ h3⟩]
theorem side0 (h : aOk n a 0 k) : eX (n 0) (n 4) (n 8) (n 12) a k = aX n a 0 k := by
  have hp := p2_pos k h.1.1 h.1.2
  rw [eX_of h 0 4 8 12 (by decide) (by decide) (by decide) (by decide)]
  unfold aX
  rw [if_pos h, Bz.at_side0 _ _ _ hp]
theorem side1 (h : aOk n a 0 k) : eX (n 12) (n 13) (n 14) (n 15) a k = aX n (p2 k) a k := by
  have hp := p2_pos k h.1.1 h.1.2
  rw [eX_of h 12 13 14 15 (by decide) (by decide) (by decide) (by decide)]
  obtain ⟨g1, g2, g3, g4⟩ := h
  unfold aX
  rw [if_pos (show aOk n (p2 k) a k from ⟨g1, by omega, by omega, g4⟩), Bz.at_side1 _ _ _ hp]
theorem side2 (h : aOk n a 0 k) : eX (n 15) (n 11) (n 7) (n 3) a k = aX n (p2 k - a) (p2 k) k := by
  have hp := p2_pos k h.1.1 h.1.2
  rw [eX_of h 15 11 7 3 (by decide) (by decide) (by decide) (by decide)]
  obtain ⟨g1, g2, g3, g4⟩ := h
  unfold aX
  rw [if_pos (show aOk n (p2 k - a) (p2 k) k from ⟨g1, by omega, by omega, g4⟩), Bz.at_side2 _ _ _ hp]
theorem side3 (h : aOk n a 0 k) : eX (n 3) (n 2) (n 1) (n 0) a k = aX n 0 (p2 k - a) k := by
  have hp := p2_pos k h.1.1 h.1.2
  rw [eX_of h 3 2 1 0 (by decide) (by decide) (by decide) (by decide)]
  obtain ⟨g1, g2, g3, g4⟩ := h
  unfold aX
  rw [if_pos (show aOk n 0 (p2 k - a) k from ⟨g1, by omega, by omega, g4⟩), Bz.at_side3 _ _ _ hp]
end
theorem ofJ_length (xs : List Int) (k i : Int) : ∀ c, (ofJ xs k i c).length = 2 * c
  | 0 => rfl
  | c + 1 => by simp only [ofJ, List.length_append, ofJ_length xs k i c, sqR, List.length_cons, List.length_nil]; omega
theorem ofI_length (xs : List Int) (k : Int) : ∀ c, (ofI xs k c).length = c * (2 * (p2 k - 2).toNat)
  | 0 => by simp [ofI]
  | c + 1 => by simp only [ofI, List.length_append, ofI_length xs k c, ofJ_length, Nat.succ_mul]
def of_L (xs : List Int) (k i : Int) (a : Nat) : List (List Int) := ofI xs k (i - 1).toNat ++ ofJ xs k i a
theorem of_L_succ (xs : List Int) (k i : Int) (a : Nat) : of_L xs k i (a + 1) = of_L xs k i a ++ sqR xs k i ((a : Int) + 1) := by
  unfold of_L; rw [List.append_assoc]; rfl
theorem of_L_zero (xs : List Int) (k i : Int) : of_L xs k i 0 = ofI xs k (i - 1).toNat := by simp [of_L, ofJ]
theorem of_L_end (xs : List Int) (k i : Int) (h : 1 ≤ i) : of_L xs k i (p2 k - 2).toNat = ofI xs k i.toNat := by
  have e : i.toNat = (i - 1).toNat + 1 := by omega
  have e2 : (((i - 1).toNat : Nat) : Int) + 1 = i := by omega
  rw [e]
  show ofI xs k (i - 1).toNat ++ ofJ xs k i _ = ofI xs k (i - 1).toNat ++ ofJ xs k ((((i - 1).toNat : Nat) : Int) + 1) _
  rw [e2]
theorem of_L_length (xs : List Int) (k i : Int) (a : Nat) : (of_L xs k i a).length = (i - 1).toNat * (2 * (p2 k - 2).toNat) + 2 * a := by
  unfold of_L; rw [List.length_append, ofI_length, ofJ_length]
theorem of_L_le (xs : List Int) (k i : Int) (a : Nat) (hk : 1 ≤ k ∧ k ≤ 6) (hi : 1 ≤ i ∧ i ≤ 63) (ha : (a : Int) ≤ p2 k - 2) : (of_L xs k i a).length ≤ 10000 := by
  rw [of_L_length]
  have hp := p2_cases k (by omega) hk.2
  have h1 : (i - 1).toNat * (2 * (p2 k - 2).toNat) ≤ 62 * 124 := Nat.mul_le_mul (by omega) (by omega)
  omega
section
variable {xs : List Int} {k edge : Int} {s : Nat}
theorem ringR_out {a b : Int} (f : Nat) (h1 : a < p2 edge) (h2 : b = p2 k - 1 ∨ (2 * a + 1) * p2 k ≤ (2 * b + 1) * p2 edge) :
    ringR xs k edge s (f + 1) a b = facR (nodeB xs edge s a) (nodeB xs edge s (a + 1)) (nodeS xs k s b) :: ringR xs k edge s f (a + 1) b := by
  rw [ringR, if_pos (Or.inl h1), if_pos ⟨h1, h2⟩]
theorem ringR_in {a b : Int} (f : Nat) (h1 : b < p2 k - 1) (h2 : ¬ (a < p2 edge ∧ (b = p2 k - 1 ∨ (2 * a + 1) * p2 k ≤ (2 * b + 1) * p2 edge))) :
    ringR xs k edge s (f + 1) a b = facR (nodeB xs edge s a) (nodeS xs k s (b + 1)) (nodeS xs k s b) :: ringR xs k edge s f a (b + 1) := by
  rw [ringR, if_pos (Or.inr h1), if_neg h2]
theorem ringR_end {a b : Int} (h1 : ¬ a < p2 edge) (h2 : ¬ b < p2 k - 1) : ∀ f, ringR xs k edge s f a b = []
  | 0 => rfl
  | f + 1 => by rw [ringR, if_neg (by omega)]
theorem ringR_length : ∀ (f : Nat) (a b : Int), a ≤ p2 edge → b ≤ p2 k - 1 → p2 edge - a + (p2 k - 1 - b) ≤ f → ((ringR xs k edge s f a b).length : Int) = p2 edge - a + (p2 k - 1 - b)
  | 0, a, b, ha, hb, h => by show ((0 : Nat) : Int) = _; omega
  | f + 1, a, b, ha, hb, h => by
    by_cases h1 : a < p2 edge ∧ (b = p2 k - 1 ∨ (2 * a + 1) * p2 k ≤ (2 * b + 1) * p2 edge)
    · rw [ringR_out f h1.1 h1.2, List.length_cons, Int.natCast_add, ringR_length f (a + 1) b (by omega) hb (by omega)]; omega
    · by_cases h2 : b < p2 k - 1
      · rw [ringR_in f h2 h1, List.length_cons, Int.natCast_add, ringR_length f a (b + 1) ha (by omega) (by omega)]; omega
      · have h3 : ¬ a < p2 edge := fun h3 => h1 ⟨h3, .inl (by omega)⟩
        rw [ringR_end h3 h2]
        show ((0 : Nat) : Int) = _
        omega
theorem ringL_length (hk : 1 ≤ k ∧ k ≤ 6) (he : 1 ≤ edge ∧ edge ≤ 6) : ((ringL xs k edge s).length : Int) = p2 edge + p2 k - 2 := by
  have hp := p2_cases k (by omega) hk.2
  have hq := p2_cases edge (by omega) he.2
  unfold ringL
  rw [ringR_length _ 0 1 (by omega) (by omega) (by omega)]; omega
theorem ringsL_length (hk : 1 ≤ k ∧ k ≤ 6) (he : 1 ≤ edge ∧ edge ≤ 6) : ∀ s, ((ringsL xs k edge s).length : Int) = 2 * (p2 k - 2) * (p2 k - 2) + (s : Int) * (p2 edge + p2 k - 2)
  | 0 => by
    have hp := p2_cases k (by omega) hk.2
    show ((ofI xs k (p2 k - 2).toNat).length : Int) = _
    rw [ofI_length, Int.natCast_mul, Int.natCast_mul, Int.toNat_of_nonneg (by omega)]; push_cast; grind
  | s + 1 => by
    show ((ringsL xs k edge s ++ ringL xs k edge s).length : Int) = _
    rw [List.length_append, Int.natCast_add, ringsL_length hk he s, ringL_length hk he]; push_cast; grind
def ring_L (xs : List Int) (k edge : Int) (s : Nat) (acc : List (List Int)) : List (List Int) := ringsL xs k edge s ++ acc
def ringOk (xs : List Int) (k edge : Int) (s : Nat) (p : Nat × Nat × List (List Int)) : Prop :=
  (p.1 : Int) ≤ p2 edge ∧ 1 ≤ (p.2.1 : Int) ∧ (p.2.1 : Int) ≤ p2 k - 1 ∧ p.2.2.length + 1 = p.1 + p.2.1 ∧ ∃ f : Nat, p2 edge + p2 k ≤ f + p.1 + p.2.1 + 1 ∧ p.2.2 ++ ringR xs k edge s f p.1 p.2.1 = ringL xs k edge s
theorem ringOk_start (hk : 1 ≤ k ∧ k ≤ 6) (he : 1 ≤ edge ∧ edge ≤ 6) : ringOk xs k edge s (0, 1, []) := by
  have hp := p2_cases k (by omega) hk.2
  have hq := p2_cases edge (by omega) he.2
  exact ⟨by show ((0 : Nat) : Int) ≤ _; omega, by show (1 : Int) ≤ ((1 : Nat) : Int); omega, by show ((1 : Nat) : Int) ≤ _; omega, rfl, (p2 edge + p2 k).toNat, by show _ ≤ _ + ((0 : Nat) : Int) + ((1 : Nat) : Int) + 1; omega, rfl⟩
theorem ringOk_out {a b : Nat} {acc : List (List Int)} (h : ringOk xs k edge s (a, b, acc)) (h1 : (a : Int) < p2 edge) (h2 : (b : Int) = p2 k - 1 ∨ (2 * (a : Int) + 1) * p2 k ≤ (2 * (b : Int) + 1) * p2 edge) :
    ringOk xs k edge s (a + 1, b, acc ++ [facR (nodeB xs edge s a) (nodeB xs edge s ((a : Int) + 1)) (nodeS xs k s b)]) := by
  obtain ⟨g1, g2, g3, g4, f, g5, g6⟩ := h
  simp only at g1 g2 g3 g4 g5 g6
  cases f with
  | zero => simp only [Int.natCast_zero] at g5; omega
  | succ f =>
    rw [ringR_out f h1 h2] at g6
    refine ⟨by simp only [Int.natCast_add]; omega, g2, g3, by simp only [List.length_append, List.length_cons, List.length_nil]; omega, f, by simp only [Int.natCast_add] at g5 ⊢; omega, ?_⟩
    simp only [List.append_assoc, List.cons_append, List.nil_append, Int.natCast_add]
    exact g6
theorem ringOk_in {a b : Nat} {acc : List (List Int)} (h : ringOk xs k edge s (a, b, acc)) (h1 : (b : Int) < p2 k - 1) (h2 : ¬ ((a : Int) < p2 edge ∧ ((b : Int) = p2 k - 1 ∨ (2 * (a : Int) + 1) * p2 k ≤ (2 * (b : Int) + 1) * p2 edge))) :
    ringOk xs k edge s (a, b + 1, acc ++ [facR (nodeB xs edge s a) (nodeS xs k s ((b : Int) + 1)) (nodeS xs k s b)]) := by
  obtain ⟨g1, g2, g3, g4, f, g5, g6⟩ := h
  simp only at g1 g2 g3 g4 g5 g6
  cases f with
  | zero => simp only [Int.natCast_zero] at g5; omega
  | succ f =>
    rw [ringR_in f h1 h2] at g6
    refine ⟨g1, by simp only [Int.natCast_add]; omega, by simp only [Int.natCast_add]; omega, by simp only [List.length_append, List.length_cons, List.length_nil]; omega, f, by simp only [Int.natCast_add] at g5 ⊢; omega, ?_⟩
    simp only [List.append_assoc, List.cons_append, List.nil_append, Int.natCast_add]
    exact g6
theorem ringOk_end {a b : Nat} {acc : List (List Int)} (h : ringOk xs k edge s (a, b, acc)) (h1 : ¬ (a : Int) < p2 edge) (h2 : ¬ (b : Int) < p2 k - 1) : ring_L xs k edge s acc = ringsL xs k edge (s + 1) := by
  obtain ⟨g1, g2, g3, g4, f, g5, g6⟩ := h
  simp only at g1 g2 g3 g4 g5 g6
  rw [ringR_end h1 h2, List.append_nil] at g6
  show ringsL xs k edge s ++ acc = ringsL xs k edge s ++ ringL xs k edge s
  rw [g6]
theorem ring_L_length {a b : Nat} {acc : List (List Int)} (hk : 1 ≤ k ∧ k ≤ 6) (he : 1 ≤ edge ∧ edge ≤ 6) (h : ringOk xs k edge s (a, b, acc)) : ((ring_L xs k edge s acc).length : Int) = 2 * (p2 k - 2) * (p2 k - 2) + (s : Int) * (p2 edge + p2 k - 2) + (a + b - 1) := by
  obtain ⟨g1, g2, g3, g4, f, g5, g6⟩ := h
  simp only at g4
  unfold ring_L
  rw [List.length_append, Int.natCast_add, ringsL_length hk he]; omega
theorem ring_L_snoc (acc : List (List Int)) (r : List Int) : ring_L xs k edge s acc ++ [r] = ring_L xs k edge s (acc ++ [r]) := by
  unfold ring_L; rw [List.append_assoc]
theorem ring_bd (hk : 1 ≤ k ∧ k ≤ 6) (he : 1 ≤ edge ∧ edge ≤ 6) (hs : s ≤ 4) : 0 ≤ 2 * (p2 k - 2) * (p2 k - 2) + (s : Int) * (p2 edge + p2 k - 2) ∧ 2 * (p2 k - 2) * (p2 k - 2) + (s : Int) * (p2 edge + p2 k - 2) ≤ 8200 := by
  have hp := p2_cases k (by omega) hk.2
  have hq := p2_cases edge (by omega) he.2
  have hs' : s = 0 ∨ s = 1 ∨ s = 2 ∨ s = 3 ∨ s = 4 := by omega
  rcases hp with ⟨_, hp⟩ | ⟨_, hp⟩ | ⟨_, hp⟩ | ⟨_, hp⟩ | ⟨_, hp⟩ | ⟨_, hp⟩ | ⟨_, hp⟩ <;> rw [hp] <;> rcases hs' with rfl | rfl | rfl | rfl | rfl <;> omega
end
end Go.Proofs.Ytkpdiehbaiepaaa
