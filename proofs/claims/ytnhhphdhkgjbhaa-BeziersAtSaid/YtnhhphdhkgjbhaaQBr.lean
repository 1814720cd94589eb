/- What is proved: the chapter's sums of curves and patches are the contracts' numbers. No condition. -/
import Derived.Test.YtnhhphdhkgjbhaaQg4
set_option linter.unusedSimpArgs false
set_option linter.unusedVariables false
namespace Go.Proofs.Ytnhhphdhkgjbhaa
open Go Go.RowKit Sx Wi
theorem eX_any {a b c d i k W D : Int} (h : eOk a b c d i k) (hW : W = Bz.sum a b c d i (p2 k)) (hD : D = 256 * 2 ^ (3 * k).toNat) : Fx.near W D = eX a b c d i k := by
  have e := p2_3 k h.1.1 h.1.2
  unfold eX
  rw [if_pos h, hW, hD, ← e]
  rfl
theorem aX_any {n : Nat → Int} {i j k W D : Int} (h : aOk n i j k) (hW : W = Bz.sum2 n i j (p2 k)) (hD : D = 256 * 2 ^ (6 * k).toNat) : Fx.near W D = aX n i j k := by
  have e := p2_6 k h.1.1 h.1.2
  unfold aX
  rw [if_pos h, hW, hD, ← e]
  rfl
theorem aX_out {n : Nat → Int} {i j k W D : Int} (h : aOk n i j k) (ho : 9223372036854775807 < Fx.near W D ∨ Fx.near W D < -9223372036854775808) (hW : W = Bz.sum2 n i j (p2 k)) (hD : D = 256 * 2 ^ (6 * k).toNat) : False := by
  rw [aX_any h hW hD] at ho
  have b := aX_bd n i j k
  omega
end Go.Proofs.Ytnhhphdhkgjbhaa
