/- What is proved: a patch at its sides is the sides' curves, in the words of the contracts. No condition. -/
import Derived.Test.YtnhhphdhkgjbhaaBl
set_option linter.unusedSimpArgs false
set_option linter.unusedVariables false
namespace Go.Proofs.Ytnhhphdhkgjbhaa
open Go Go.RowKit Sx Wi
theorem aX_s0 {n : Nat → Int} {i k : Int} (hn : farN n) (hk : 0 ≤ k ∧ k ≤ 6) (hi : 0 ≤ i ∧ i ≤ p2 k) : aX n i 0 k = eX (n 0) (n 4) (n 8) (n 12) i k := by
  have hp := p2_pos k hk.1 hk.2
  have q : aOk n i 0 k := ⟨hk, hi, ⟨by omega, by omega⟩, hn⟩
  have e : eOk (n 0) (n 4) (n 8) (n 12) i k := ⟨hk, hi, hn 0 (by decide), hn 4 (by decide), hn 8 (by decide), hn 12 (by decide)⟩
  unfold aX eX
  rw [if_pos q, if_pos e, Bz.at_side0 n i _ hp]
theorem aX_s1 {n : Nat → Int} {i k : Int} (hn : farN n) (hk : 0 ≤ k ∧ k ≤ 6) (hi : 0 ≤ i ∧ i ≤ p2 k) : aX n (p2 k) i k = eX (n 12) (n 13) (n 14) (n 15) i k := by
  have hp := p2_pos k hk.1 hk.2
  have q : aOk n (p2 k) i k := ⟨hk, ⟨by omega, by omega⟩, hi, hn⟩
  have e : eOk (n 12) (n 13) (n 14) (n 15) i k := ⟨hk, hi, hn 12 (by decide), hn 13 (by decide), hn 14 (by decide), hn 15 (by decide)⟩
  unfold aX eX
  rw [if_pos q, if_pos e, Bz.at_side1 n i _ hp]
theorem aX_s2 {n : Nat → Int} {i k : Int} (hn : farN n) (hk : 0 ≤ k ∧ k ≤ 6) (hi : 0 ≤ i ∧ i ≤ p2 k) : aX n (p2 k - i) (p2 k) k = eX (n 15) (n 11) (n 7) (n 3) i k := by
  have hp := p2_pos k hk.1 hk.2
  have q : aOk n (p2 k - i) (p2 k) k := ⟨hk, ⟨by omega, by omega⟩, ⟨by omega, by omega⟩, hn⟩
  have e : eOk (n 15) (n 11) (n 7) (n 3) i k := ⟨hk, hi, hn 15 (by decide), hn 11 (by decide), hn 7 (by decide), hn 3 (by decide)⟩
  unfold aX eX
  rw [if_pos q, if_pos e, Bz.at_side2 n i _ hp]
theorem aX_s3 {n : Nat → Int} {i k : Int} (hn : farN n) (hk : 0 ≤ k ∧ k ≤ 6) (hi : 0 ≤ i ∧ i ≤ p2 k) : aX n 0 (p2 k - i) k = eX (n 3) (n 2) (n 1) (n 0) i k := by
  have hp := p2_pos k hk.1 hk.2
  have q : aOk n 0 (p2 k - i) k := ⟨hk, ⟨by omega, by omega⟩, ⟨by omega, by omega⟩, hn⟩
  have e : eOk (n 3) (n 2) (n 1) (n 0) i k := ⟨hk, hi, hn 3 (by decide), hn 2 (by decide), hn 1 (by decide), hn 0 (by decide)⟩
  unfold aX eX
  rw [if_pos q, if_pos e, Bz.at_side3 n i _ hp]
end Go.Proofs.Ytnhhphdhkgjbhaa
