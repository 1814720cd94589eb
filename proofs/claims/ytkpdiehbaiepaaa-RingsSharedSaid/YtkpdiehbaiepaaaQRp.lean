/- What is proved: the rows of a border line, in plain Lean. No condition. -/
import Derived.Test.YtkpdiehbaiepaaaQg6
import Derived.Test.YtkpdiehbaiepaaaQg4
set_option linter.unusedSimpArgs false
set_option linter.unusedVariables false
namespace Go.Proofs.Ytkpdiehbaiepaaa
open Go Go.RowKit Sx Wi
theorem lpart_succ (xs : List Int) (e : Int) (s a : Nat) : lpart xs e s (a + 1) = lpart xs e s a ++ [lrow xs e s a] := by
  unfold lpart; rw [List.range_succ, List.map_append]; rfl
theorem lpart_length (xs : List Int) (e : Int) (s a : Nat) : (lpart xs e s a).length = a := by simp [lpart]
theorem p2_le {e : Int} (h : 0 ≤ e) (h' : e ≤ 6) : 1 ≤ p2 e ∧ p2 e ≤ 64 := by have := p2_cases e h h'; omega
theorem lineL_length (xs : List Int) (e : Int) : ∀ s, (lineL xs e s).length = s * (p2 e).toNat
  | 0 => by simp [lineL]
  | s + 1 => by simp only [lineL, List.length_append, lpart_length, lineL_length xs e s, Nat.succ_mul]
def line_L (s : Nat) (xs : List Int) (e : Int) (a : Nat) : List (List Int) := lineL xs e s ++ lpart xs e s a
theorem line_L_succ (s : Nat) (xs : List Int) (e : Int) (a : Nat) : line_L s xs e (a + 1) = line_L s xs e a ++ [lrow xs e s a] := by
  unfold line_L; rw [lpart_succ, List.append_assoc]
theorem line_L_zero (s : Nat) (xs : List Int) (e : Int) : line_L s xs e 0 = lineL xs e s := by simp [line_L, lpart]
theorem line_L_end (s : Nat) (xs : List Int) (e : Int) : line_L s xs e (p2 e).toNat = lineL xs e (s + 1) := rfl
theorem line_L_len (s : Nat) (xs : List Int) (e : Int) (a : Nat) (h : s ≤ 3) (h1 : 0 ≤ e) (h2 : e ≤ 6) (h3 : (a : Int) ≤ p2 e) : (line_L s xs e a).length ≤ 256 := by
  have hp := p2_le h1 h2
  unfold line_L
  rw [List.length_append, lpart_length, lineL_length]
  have h4 : s * (p2 e).toNat ≤ 3 * 64 := Nat.mul_le_mul h (by omega)
  omega
end Go.Proofs.Ytkpdiehbaiepaaa
