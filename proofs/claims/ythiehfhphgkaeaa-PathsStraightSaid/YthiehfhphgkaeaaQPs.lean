/- What is proved: a curve whose places stand evenly along a straight line has no dots but its ends, in plain Lean. No condition but those that are stated. -/
import Derived.Test.YthiehfhphgkaeaaQPm
set_option linter.unusedSimpArgs false
set_option linter.unusedVariables false
namespace Go.Proofs.Ythiehfhphgkaeaa
open Go Go.RowKit Sx Wi
theorem straight_pall (x0 x1 x2 x3 : Int) : pall [x0, x1, x0 + x2, x1 + x3, x0 + 2 * x2, x1 + 2 * x3, x0 + 3 * x2, x1 + 3 * x3] = 1 := by
  have hb : bendP x0 x1 (x0 + x2) (x1 + x3) (x0 + 2 * x2) (x1 + 2 * x3) (x0 + 3 * x2) (x1 + 3 * x3) = 0 := by
    unfold bendP
    rw [show x0 - 2 * (x0 + x2) + (x0 + 2 * x2) = 0 by omega, show x1 - 2 * (x1 + x3) + (x1 + 2 * x3) = 0 by omega, show x0 + x2 - 2 * (x0 + 2 * x2) + (x0 + 3 * x2) = 0 by omega, show x1 + x3 - 2 * (x1 + 2 * x3) + (x1 + 3 * x3) = 0 by omega]
    decide
  have hl : xG43 [x0, x1, x0 + x2, x1 + x3, x0 + 2 * x2, x1 + 2 * x3, x0 + 3 * x2, x1 + 3 * x3] = 0 := by
    show levelP (3 * bendP x0 x1 (x0 + x2) (x1 + x3) (x0 + 2 * x2) (x1 + 2 * x3) (x0 + 3 * x2) (x1 + 3 * x3)) = 0
    rw [hb]; decide
  unfold pall
  rw [hl]
  decide
theorem straight_all {x0 x1 x2 x3 : Int} (g0 : -1073741824 ≤ x0 ∧ x0 ≤ 1073741824) (g1 : -1073741824 ≤ x1 ∧ x1 ≤ 1073741824) (g2 : -32768 ≤ x2 ∧ x2 ≤ 32767) (g3 : -32768 ≤ x3 ∧ x3 ≤ 32767) (C : Int)
    (hC : C = G 91 [G 91 [0, G 2 [x0, 256], G 2 [x1, 256]], G 2 [x0 + 3 * x2, 256], G 2 [x1 + 3 * x3, 256]]) :
    G 83 [G 44 [x0, x1, x0 + x2, x1 + x3, x0 + 2 * x2, x1 + 2 * x3, x0 + 3 * x2, x1 + 3 * x3], 0, 0] = G 83 [C, 0, 0] ∧ G 83 [G 44 [x0, x1, x0 + x2, x1 + x3, x0 + 2 * x2, x1 + 2 * x3, x0 + 3 * x2, x1 + 3 * x3], 0, 1] = G 83 [C, 0, 1] ∧ G 83 [G 44 [x0, x1, x0 + x2, x1 + x3, x0 + 2 * x2, x1 + 2 * x3, x0 + 3 * x2, x1 + 3 * x3], 1, 0] = G 83 [C, 1, 0] ∧ G 83 [G 44 [x0, x1, x0 + x2, x1 + x3, x0 + 2 * x2, x1 + 2 * x3, x0 + 3 * x2, x1 + 3 * x3], 1, 1] = G 83 [C, 1, 1] :=
  ends_all (by omega) (by omega) (by omega) (by omega) (by omega) (by omega) (by omega) (by omega) C hC 1 (straight_pall x0 x1 x2 x3).symm
end Go.Proofs.Ythiehfhphgkaeaa
