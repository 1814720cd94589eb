/- What is proved: the levels of two laws, in plain Lean. No condition but the numbers' own bounds. -/
import Derived.Test.YtkpdiehbaiepaaaQRo
set_option linter.unusedSimpArgs false
set_option linter.unusedVariables false
namespace Go.Proofs.Ytkpdiehbaiepaaa
open Go Go.RowKit Sx Wi
theorem sq_p2 (e : Int) : 1 * 2 ^ e.toNat = p2 e := rfl
theorem few_of {x32 x33 : Int} (b32 : 0 ≤ x32 ∧ x32 ≤ 255) (b33 : 0 ≤ x33 ∧ x33 ≤ 255) : 1 ≤ (Int.tmod x32 4 + 1) ∧ (Int.tmod x32 4 + 1) ≤ (Int.tmod x32 4 + 1 + Int.tmod x33 (5 - (Int.tmod x32 4 + 1))) ∧ (Int.tmod x32 4 + 1 + Int.tmod x33 (5 - (Int.tmod x32 4 + 1))) ≤ 4 := by
  have h1 : 0 ≤ Int.tmod x32 4 := Int.tmod_nonneg _ b32.1
  have h2 : Int.tmod x32 4 < 4 := Int.tmod_lt_of_pos _ (by omega)
  have h3 : 0 ≤ Int.tmod x33 (5 - (Int.tmod x32 4 + 1)) := Int.tmod_nonneg _ b33.1
  have h4 : Int.tmod x33 (5 - (Int.tmod x32 4 + 1)) < 5 - (Int.tmod x32 4 + 1) := Int.tmod_lt_of_pos _ (by omega)
  omega
end Go.Proofs.Ytkpdiehbaiepaaa
