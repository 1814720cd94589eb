/- What is proved: the functions that stand in the contracts of this seat, and their bounds. No condition. -/
import Derived.Test.YtnhhphdhkgjbhaaNg
import Derived.Test.YtnhhphdhkgjbhaaBz
import Derived.Test.YtnhhphdhkgjbhaaProg
set_option linter.unusedSimpArgs false
set_option linter.unusedVariables false
namespace Go.Proofs.Ytnhhphdhkgjbhaa
open Go Go.RowKit Sx Wi
def p2 (k : Int) : Int := 1 * 2 ^ k.toNat
def far (x : Int) : Prop := -1099511627776 ≤ x ∧ x ≤ 1099511627776
def eOk (a b c d i k : Int) : Prop := (0 ≤ k ∧ k ≤ 6) ∧ (0 ≤ i ∧ i ≤ p2 k) ∧ far a ∧ far b ∧ far c ∧ far d
instance (x : Int) : Decidable (far x) := by unfold far; infer_instance
instance (a b c d i k : Int) : Decidable (eOk a b c d i k) := by unfold eOk; infer_instance
def eX (a b c d i k : Int) : Int := if eOk a b c d i k then Bz.edge a b c d i (p2 k) else 0
def farN (n : Nat → Int) : Prop := ∀ j, j < 16 → far (n j)
def aOk (n : Nat → Int) (i j k : Int) : Prop := (0 ≤ k ∧ k ≤ 6) ∧ (0 ≤ i ∧ i ≤ p2 k) ∧ (0 ≤ j ∧ j ≤ p2 k) ∧ farN n
instance (n : Nat → Int) : Decidable (farN n) := by unfold farN; infer_instance
instance (n : Nat → Int) (i j k : Int) : Decidable (aOk n i j k) := by unfold aOk; infer_instance
def aX (n : Nat → Int) (i j k : Int) : Int := if aOk n i j k then Bz.at_ n i j (p2 k) else 0
def l16 (l : List Int) : Nat → Int := fun j => l.getD j 0
theorem p2_cases (k : Int) (h : 0 ≤ k) (h' : k ≤ 6) : (k = 0 ∧ p2 k = 1) ∨ (k = 1 ∧ p2 k = 2) ∨ (k = 2 ∧ p2 k = 4) ∨ (k = 3 ∧ p2 k = 8) ∨ (k = 4 ∧ p2 k = 16) ∨ (k = 5 ∧ p2 k = 32) ∨ (k = 6 ∧ p2 k = 64) := by
  have : k = 0 ∨ k = 1 ∨ k = 2 ∨ k = 3 ∨ k = 4 ∨ k = 5 ∨ k = 6 := by omega
  rcases this with rfl | rfl | rfl | rfl | rfl | rfl | rfl <;> simp [p2]
theorem p2_pos (k : Int) (h : 0 ≤ k) (h' : k ≤ 6) : 0 < p2 k := by have := p2_cases k h h'; omega
theorem edge_bd (a b c d i m : Int) (h0 : 0 ≤ i) (h : i ≤ m) (hm : 0 < m) (ha : far a) (hb : far b) (hc : far c) (hd : far d) : -4294967296 ≤ Bz.edge a b c d i m ∧ Bz.edge a b c d i m ≤ 4294967296 := by
  unfold far at *
  have := Bz.edge_le a b c d i m 1099511627776 h0 h hm ha.2 hb.2 hc.2 hd.2
  have := Bz.edge_ge a b c d i m (-1099511627776) h0 h hm ha.1 hb.1 hc.1 hd.1
  omega
theorem eX_bd (a b c d i k : Int) : -4294967296 ≤ eX a b c d i k ∧ eX a b c d i k ≤ 4294967296 := by
  unfold eX; split
  · rename_i h
    exact edge_bd a b c d i _ h.2.1.1 h.2.1.2 (p2_pos k h.1.1 h.1.2) h.2.2.1 h.2.2.2.1 h.2.2.2.2.1 h.2.2.2.2.2
  · omega
theorem at_bd (n : Nat → Int) (i j m : Int) (h0 : 0 ≤ i) (h : i ≤ m) (g0 : 0 ≤ j) (g : j ≤ m) (hm : 0 < m) (hn : farN n) : -4294967296 ≤ Bz.at_ n i j m ∧ Bz.at_ n i j m ≤ 4294967296 := by
  have hp : 0 < m * m * m := Int.mul_pos (Int.mul_pos hm hm) hm
  have hb : ∀ k, k < 16 → -1099511627776 ≤ n k ∧ n k ≤ 1099511627776 := hn
  have s : ∀ a b c d, a < 16 → b < 16 → c < 16 → d < 16 → -1099511627776 * (m * m * m) ≤ Bz.sum (n a) (n b) (n c) (n d) j m ∧ Bz.sum (n a) (n b) (n c) (n d) j m ≤ 1099511627776 * (m * m * m) := fun a b c d ha hb' hc hd =>
    ⟨Bz.sum_ge _ _ _ _ _ _ _ g0 g (hb a ha).1 (hb b hb').1 (hb c hc).1 (hb d hd).1, Bz.sum_le _ _ _ _ _ _ _ g0 g (hb a ha).2 (hb b hb').2 (hb c hc).2 (hb d hd).2⟩
  have s0 := s 0 1 2 3 (by omega) (by omega) (by omega) (by omega)
  have s1 := s 4 5 6 7 (by omega) (by omega) (by omega) (by omega)
  have s2 := s 8 9 10 11 (by omega) (by omega) (by omega) (by omega)
  have s3 := s 12 13 14 15 (by omega) (by omega) (by omega) (by omega)
  have u := Bz.sum_le _ _ _ _ i m _ h0 h s0.2 s1.2 s2.2 s3.2
  have l := Bz.sum_ge _ _ _ _ i m _ h0 h s0.1 s1.1 s2.1 s3.1
  unfold Bz.at_ Bz.sum2
  generalize Bz.sum _ _ _ _ i m = S at *
  rw [show 1099511627776 * (m * m * m) * (m * m * m) = 4294967296 * (256 * (m * m * m * (m * m * m))) by grind] at u
  rw [show -1099511627776 * (m * m * m) * (m * m * m) = -4294967296 * (256 * (m * m * m * (m * m * m))) by grind] at l
  have hq : 0 < 256 * (m * m * m * (m * m * m)) := by have := Int.mul_pos hp hp; omega
  generalize 256 * (m * m * m * (m * m * m)) = q at *
  have k1 : Bz.near (-4294967296 * q) q = -4294967296 := Fx.near_whole (-4294967296) q hq
  have k2 : Bz.near (4294967296 * q) q = 4294967296 := Fx.near_whole 4294967296 q hq
  have := Bz.near_mono hq u
  have := Bz.near_mono hq l
  omega
theorem aX_bd (n : Nat → Int) (i j k : Int) : -4294967296 ≤ aX n i j k ∧ aX n i j k ≤ 4294967296 := by
  unfold aX; split
  · rename_i h
    exact at_bd n i j _ h.2.1.1 h.2.1.2 h.2.2.1.1 h.2.2.1.2 (p2_pos k h.1.1 h.1.2) h.2.2.2
  · omega
def xG10 : List Int → Int
  | [a, b, c, d, i, k] => eX a b c d i k
  | _ => 0
def xG11 : List Int → Int
  | [a0, a1, a2, a3, a4, a5, a6, a7, a8, a9, a10, a11, a12, a13, a14, a15, i, j, k] => aX (l16 [a0, a1, a2, a3, a4, a5, a6, a7, a8, a9, a10, a11, a12, a13, a14, a15]) i j k
  | _ => 0
def G (g : Nat) (xs : List Int) : Int :=
  match g with
  | 10 => xG10 xs
  | 11 => xG11 xs
  | g => wG g xs
def GI (g : Nat) (l : List Itv) : Itv :=
  match g with
  | 10 => some (-4294967296, 4294967296)
  | 11 => some (-4294967296, 4294967296)
  | g => wGI g l
theorem gi_ok : ∀ g is xs, itvsHave is xs → (GI g is).has (G g xs) := by
  intro g is xs h
  unfold G GI
  split
  · unfold xG10; split
    · exact eX_bd _ _ _ _ _ _
    · exact ⟨by decide, by decide⟩
  · unfold xG11; split
    · exact aX_bd _ _ _ _
    · exact ⟨by decide, by decide⟩
  · exact wgi_ok _ is xs h
def GB : Globs := []
theorem near_bz (n d : Int) : Fx.near n d = Bz.near n d := rfl
theorem eX_near {a b c d i k m q : Int} (h : eOk a b c d i k) (hm : p2 k = m) (hq : 256 * (m * m * m) = q) :
    Fx.near (0 + a * ((m - i) * (m - i) * (m - i)) + b * (3 * (m - i) * (m - i) * i) + c * (3 * (m - i) * i * i) + d * (i * i * i)) q = eX a b c d i k := by
  unfold eX; rw [if_pos h, hm, near_bz, Int.zero_add, ← hq]; rfl
theorem aX_near {n : Nat → Int} {i j k m q : Int} (h : aOk n i j k) (hm : p2 k = m) (hq : 256 * (m * m * m * (m * m * m)) = q) (A0 A1 A2 A3 B0 B1 B2 B3 : Int)
    (a0 : A0 = (m - i) * (m - i) * (m - i)) (a1 : A1 = 3 * (m - i) * (m - i) * i) (a2 : A2 = 3 * (m - i) * i * i) (a3 : A3 = i * i * i)
    (b0 : B0 = (m - j) * (m - j) * (m - j)) (b1 : B1 = 3 * (m - j) * (m - j) * j) (b2 : B2 = 3 * (m - j) * j * j) (b3 : B3 = j * j * j) :
    Fx.near (0 + n 0 * (A0 * B0) + n 1 * (A0 * B1) + n 2 * (A0 * B2) + n 3 * (A0 * B3) + n 4 * (A1 * B0) + n 5 * (A1 * B1) + n 6 * (A1 * B2) + n 7 * (A1 * B3)
      + n 8 * (A2 * B0) + n 9 * (A2 * B1) + n 10 * (A2 * B2) + n 11 * (A2 * B3) + n 12 * (A3 * B0) + n 13 * (A3 * B1) + n 14 * (A3 * B2) + n 15 * (A3 * B3)) q = aX n i j k := by
  unfold aX; rw [if_pos h, hm, near_bz, ← hq]
  unfold Bz.at_ Bz.sum2
  congr 1
  have e : ∀ p0 p1 p2 p3 : Int, Bz.sum p0 p1 p2 p3 j m = p0 * B0 + p1 * B1 + p2 * B2 + p3 * B3 := fun _ _ _ _ => by subst b0; subst b1; subst b2; subst b3; rfl
  have e' : ∀ p0 p1 p2 p3 : Int, Bz.sum p0 p1 p2 p3 i m = p0 * A0 + p1 * A1 + p2 * A2 + p3 * A3 := fun _ _ _ _ => by subst a0; subst a1; subst a2; subst a3; rfl
  simp only [e, e']
  grind
theorem p2_3 (k : Int) (h : 0 ≤ k) (h' : k ≤ 6) : 256 * (p2 k * p2 k * p2 k) = 256 * 2 ^ (3 * k).toNat := by
  have : k = 0 ∨ k = 1 ∨ k = 2 ∨ k = 3 ∨ k = 4 ∨ k = 5 ∨ k = 6 := by omega
  rcases this with rfl | rfl | rfl | rfl | rfl | rfl | rfl <;> rfl
theorem p2_6 (k : Int) (h : 0 ≤ k) (h' : k ≤ 6) : 256 * (p2 k * p2 k * p2 k * (p2 k * p2 k * p2 k)) = 256 * 2 ^ (6 * k).toNat := by
  have : k = 0 ∨ k = 1 ∨ k = 2 ∨ k = 3 ∨ k = 4 ∨ k = 5 ∨ k = 6 := by omega
  rcases this with rfl | rfl | rfl | rfl | rfl | rfl | rfl <;> rfl
theorem p2_dbl (k : Int) (h : 0 ≤ k) : p2 (k + 1) = 2 * p2 k := by
  unfold p2
  rw [show (k + 1).toNat = k.toNat + 1 by omega, Int.pow_succ]; omega
def eOk2 (x0 x1 x2 x3 x4 x5 x6 x7 i k : Int) : Prop := (0 ≤ k ∧ k ≤ 6) ∧ (0 ≤ i ∧ i ≤ p2 k) ∧ far x0 ∧ far x1 ∧ far x2 ∧ far x3 ∧ far x4 ∧ far x5 ∧ far x6 ∧ far x7
instance (x0 x1 x2 x3 x4 x5 x6 x7 i k : Int) : Decidable (eOk2 x0 x1 x2 x3 x4 x5 x6 x7 i k) := by unfold eOk2; infer_instance
theorem eOk2_x {x0 x1 x2 x3 x4 x5 x6 x7 i k : Int} (h : eOk2 x0 x1 x2 x3 x4 x5 x6 x7 i k) : eOk x0 x2 x4 x6 i k := by
  obtain ⟨h1, h2, a0, a1, a2, a3, a4, a5, a6, a7⟩ := h
  exact ⟨h1, h2, a0, a2, a4, a6⟩
theorem eOk2_y {x0 x1 x2 x3 x4 x5 x6 x7 i k : Int} (h : eOk2 x0 x1 x2 x3 x4 x5 x6 x7 i k) : eOk x1 x3 x5 x7 i k := by
  obtain ⟨h1, h2, a0, a1, a2, a3, a4, a5, a6, a7⟩ := h
  exact ⟨h1, h2, a1, a3, a5, a7⟩
def far16 (a0 a1 a2 a3 a4 a5 a6 a7 a8 a9 a10 a11 a12 a13 a14 a15 : Int) : Prop := far a0 ∧ far a1 ∧ far a2 ∧ far a3 ∧ far a4 ∧ far a5 ∧ far a6 ∧ far a7 ∧ far a8 ∧ far a9 ∧ far a10 ∧ far a11 ∧ far a12 ∧ far a13 ∧ far a14 ∧ far a15
instance (a0 a1 a2 a3 a4 a5 a6 a7 a8 a9 a10 a11 a12 a13 a14 a15 : Int) : Decidable (far16 a0 a1 a2 a3 a4 a5 a6 a7 a8 a9 a10 a11 a12 a13 a14 a15) := by unfold far16; infer_instance
theorem farN_16 {a0 a1 a2 a3 a4 a5 a6 a7 a8 a9 a10 a11 a12 a13 a14 a15 : Int} (h : far16 a0 a1 a2 a3 a4 a5 a6 a7 a8 a9 a10 a11 a12 a13 a14 a15) : farN (l16 [a0, a1, a2, a3, a4, a5, a6, a7, a8, a9, a10, a11, a12, a13, a14, a15]) := by
  obtain ⟨h0, h1, h2, h3, h4, h5, h6, h7, h8, h9, h10, h11, h12, h13, h14, h15⟩ := h
  intro j hj
  have : j = 0 ∨ j = 1 ∨ j = 2 ∨ j = 3 ∨ j = 4 ∨ j = 5 ∨ j = 6 ∨ j = 7 ∨ j = 8 ∨ j = 9 ∨ j = 10 ∨ j = 11 ∨ j = 12 ∨ j = 13 ∨ j = 14 ∨ j = 15 := by omega
  rcases this with rfl | rfl | rfl | rfl | rfl | rfl | rfl | rfl | rfl | rfl | rfl | rfl | rfl | rfl | rfl | rfl <;> assumption
def aOk2 (a0 a1 a2 a3 a4 a5 a6 a7 a8 a9 a10 a11 a12 a13 a14 a15 b0 b1 b2 b3 b4 b5 b6 b7 b8 b9 b10 b11 b12 b13 b14 b15 i j k : Int) : Prop := (0 ≤ k ∧ k ≤ 6) ∧ (0 ≤ i ∧ i ≤ p2 k) ∧ (0 ≤ j ∧ j ≤ p2 k) ∧ far16 a0 a1 a2 a3 a4 a5 a6 a7 a8 a9 a10 a11 a12 a13 a14 a15 ∧ far16 b0 b1 b2 b3 b4 b5 b6 b7 b8 b9 b10 b11 b12 b13 b14 b15
instance (a0 a1 a2 a3 a4 a5 a6 a7 a8 a9 a10 a11 a12 a13 a14 a15 b0 b1 b2 b3 b4 b5 b6 b7 b8 b9 b10 b11 b12 b13 b14 b15 i j k : Int) : Decidable (aOk2 a0 a1 a2 a3 a4 a5 a6 a7 a8 a9 a10 a11 a12 a13 a14 a15 b0 b1 b2 b3 b4 b5 b6 b7 b8 b9 b10 b11 b12 b13 b14 b15 i j k) := by unfold aOk2; infer_instance
theorem aOk2_x {a0 a1 a2 a3 a4 a5 a6 a7 a8 a9 a10 a11 a12 a13 a14 a15 b0 b1 b2 b3 b4 b5 b6 b7 b8 b9 b10 b11 b12 b13 b14 b15 i j k : Int} (h : aOk2 a0 a1 a2 a3 a4 a5 a6 a7 a8 a9 a10 a11 a12 a13 a14 a15 b0 b1 b2 b3 b4 b5 b6 b7 b8 b9 b10 b11 b12 b13 b14 b15 i j k) : aOk (l16 [a0, a1, a2, a3, a4, a5, a6, a7, a8, a9, a10, a11, a12, a13, a14, a15]) i j k := ⟨h.1, h.2.1, h.2.2.1, farN_16 h.2.2.2.1⟩
theorem aOk2_y {a0 a1 a2 a3 a4 a5 a6 a7 a8 a9 a10 a11 a12 a13 a14 a15 b0 b1 b2 b3 b4 b5 b6 b7 b8 b9 b10 b11 b12 b13 b14 b15 i j k : Int} (h : aOk2 a0 a1 a2 a3 a4 a5 a6 a7 a8 a9 a10 a11 a12 a13 a14 a15 b0 b1 b2 b3 b4 b5 b6 b7 b8 b9 b10 b11 b12 b13 b14 b15 i j k) : aOk (l16 [b0, b1, b2, b3, b4, b5, b6, b7, b8, b9, b10, b11, b12, b13, b14, b15]) i j k := ⟨h.1, h.2.1, h.2.2.1, farN_16 h.2.2.2.2⟩
end Go.Proofs.Ytnhhphdhkgjbhaa
