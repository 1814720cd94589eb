/- What is proved: the levels of two laws, and a number that is read of a row, in plain Lean. No condition but those that are stated. -/
import Derived.Test.YtkpdiehbaiepaaaQRo
set_option linter.unusedSimpArgs false
set_option linter.unusedVariables false
namespace Go.Proofs.Ytkpdiehbaiepaaa
open Go Go.RowKit Sx Wi
theorem few_cases' {k e : Int} (h : 1 ≤ k ∧ k ≤ e ∧ e ≤ 4) : (k = 1 ∧ e = 1) ∨ (k = 1 ∧ e = 2) ∨ (k = 1 ∧ e = 3) ∨ (k = 1 ∧ e = 4) ∨ (k = 2 ∧ e = 2) ∨ (k = 2 ∧ e = 3) ∨ (k = 2 ∧ e = 4) ∨ (k = 3 ∧ e = 3) ∨ (k = 3 ∧ e = 4) ∨ (k = 4 ∧ e = 4) := by omega
theorem wrp32' {n : Int} (h1 : -2147483648 ≤ n) (h2 : n ≤ 2147483647) : IntKind.i32.wrap n = n := by
  simp only [IntKind.wrap, IntKind.bits, IntKind.signed, Bool.true_and, decide_eq_true_eq, show (2 : Int) ^ 32 = 4294967296 from rfl, show (2 : Int) ^ (32 - 1) = 2147483648 from rfl]
  omega
theorem rd32' (L : List (List Int)) (i : Nat) (j : Nat) : G 82 [Lc.enc L, (i : Int), (j : Int)] = IntKind.i32.wrap ((L.getD i []).getD j 0) := by
  rw [gl_ok 82 _ (by decide) (by decide)]
  show IntKind.i32.wrap (Lc.rd (Lc.enc L) i j) = _
  unfold Lc.rd Lc.row
  rw [Lc.dec_enc, Int.toNat_natCast, Int.toNat_natCast]
end Go.Proofs.Ytkpdiehbaiepaaa
