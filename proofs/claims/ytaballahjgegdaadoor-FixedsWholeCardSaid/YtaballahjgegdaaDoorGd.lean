/- What is proved: the functions that stand in the contracts of this seat, their bounds, and the table that the program reads. No condition. -/
import Derived.Test.YtaballahjgegdaaDoorNg
import Derived.Test.YtaballahjgegdaaDoorProg
set_option linter.unusedSimpArgs false
set_option linter.unusedVariables false
namespace Go.Proofs.YtaballahjgegdaaDoor
open Go Go.RowKit Sx Wi
def xG3 : List Int → Int
  | [n, d] => Fx.ratio n d
  | _ => 0
def xG4 : List Int → Int
  | [x, a, b, c, d] => Fx.line x a b c d
  | _ => 0
def xG5 : List Int → Int
  | [a, b] => Fx.mul a b
  | _ => 0
def xG6 : List Int → Int
  | [a] => Fx.floor a
  | _ => 0
def xG7 : List Int → Int
  | [a] => Fx.ceil a
  | _ => 0
def xG8 : List Int → Int
  | [a] => Fx.round a
  | _ => 0
def xG9 : List Int → Int
  | [a] => Fx.trunc a
  | _ => 0
def G (g : Nat) (xs : List Int) : Int :=
  match g with
  | 3 => xG3 xs
  | 4 => xG4 xs
  | 5 => xG5 xs
  | 6 => xG6 xs
  | 7 => xG7 xs
  | 8 => xG8 xs
  | 9 => xG9 xs
  | g => wG g xs
def GI (g : Nat) (l : List Itv) : Itv :=
  match g with
  | 3 => some (-2147483648, 2147483647)
  | 4 => some (-2147483648, 2147483647)
  | 5 => some (-2147483648, 2147483647)
  | 6 => some (-2147483648, 2147483647)
  | 7 => some (-2147483648, 2147483647)
  | 8 => some (-2147483648, 2147483647)
  | 9 => some (-2147483648, 2147483647)
  | g => wGI g l
theorem ratio_fix (n d : Int) : -2147483648 ≤ Fx.ratio n d ∧ Fx.ratio n d ≤ 2147483647 := by
  unfold Fx.ratio; split <;> exact Fx.sat_fix _
theorem line_fix (x a b c d : Int) : -2147483648 ≤ Fx.line x a b c d ∧ Fx.line x a b c d ≤ 2147483647 := by
  unfold Fx.line; split <;> exact Fx.sat_fix _
theorem trunc_fix (a : Int) : -2147483648 ≤ Fx.trunc a ∧ Fx.trunc a ≤ 2147483647 := by
  unfold Fx.trunc; split <;> exact Fx.sat_fix _
theorem gi_ok : ∀ g is xs, itvsHave is xs → (GI g is).has (G g xs) := by
  intro g is xs h
  unfold G GI
  split
  · unfold xG3; split
    · exact ratio_fix _ _
    · exact ⟨by decide, by decide⟩
  · unfold xG4; split
    · exact line_fix _ _ _ _ _
    · exact ⟨by decide, by decide⟩
  · unfold xG5; split
    · exact Fx.sat_fix _
    · exact ⟨by decide, by decide⟩
  · unfold xG6; split
    · exact Fx.sat_fix _
    · exact ⟨by decide, by decide⟩
  · unfold xG7; split
    · exact Fx.sat_fix _
    · exact ⟨by decide, by decide⟩
  · unfold xG8; split
    · exact Fx.sat_fix _
    · exact ⟨by decide, by decide⟩
  · unfold xG9; split
    · exact trunc_fix _
    · exact ⟨by decide, by decide⟩
  · exact wgi_ok _ is xs h
def GB : Globs := [(0, [.int .i64 (.lit 0), .int .i64 (.lit 65535), .int .i64 (.lit 32768)], 75)]
theorem gb_flat : gbFlat GB = true := by kernel_rfl
theorem gb_apart : gbApart GB := gbApart_one _
theorem sat_e (n : Int) : max (-2147483648) (min 2147483647 n) = Fx.sat n := by unfold Fx.sat; split <;> (try split) <;> omega
theorem sat_hi {n : Int} (h : 9223372036854775807 < n) : Fx.sat n = 2147483647 := by unfold Fx.sat; split <;> (try split) <;> omega
theorem sat_lo {n : Int} (h : n < -9223372036854775808) : Fx.sat n = -2147483648 := by unfold Fx.sat; split <;> (try split) <;> omega
theorem rat_m (n d : Int) (h : d < 0) : Fx.ratio n d = Fx.sat (Fx.near (n * -65536) (0 - d)) := by unfold Fx.ratio; rw [if_pos h, Int.zero_sub]
theorem rat_p (n d : Int) (h : 0 ≤ d) : Fx.ratio n d = Fx.sat (Fx.near (n * 65536) d) := by unfold Fx.ratio; rw [if_neg (by omega)]
theorem rat_e (n d : Int) (h : d = -9223372036854775808) : Fx.ratio n d = Fx.sat (Fx.near (n * -32768) 4611686018427387904) := by
  subst h
  unfold Fx.ratio; rw [if_pos (by decide)]
  rw [show n * -65536 = n * -32768 * 2 by omega, show (- -9223372036854775808 : Int) = 4611686018427387904 * 2 by decide, Fx.near_mul _ _ _ (by decide)]
theorem line_m (x a b c d : Int) (h : b - a < 0) : Fx.line x a b c d = Fx.sat (Fx.near ((0 - (x - a)) * (d - c) + c * (0 - (b - a))) (0 - (b - a))) := by
  unfold Fx.line; rw [if_pos h, Int.zero_sub, Int.zero_sub]
theorem line_p (x a b c d : Int) (h : 0 ≤ b - a) : Fx.line x a b c d = Fx.sat (Fx.near ((x - a) * (d - c) + c * (b - a)) (b - a)) := by
  unfold Fx.line; rw [if_neg (by omega)]
theorem mul_m (a b : Int) : Fx.mul a b = Fx.sat (Fx.near (a * b) 65536) := rfl
theorem down_e (x : Int) (h1 : -9223372036854775808 ≤ x) (h2 : x ≤ 9223372036854775807) : bitDen .andNot .i64 x 65535 = Fx.down x := by
  rw [andNot_low x ⟨h1, h2⟩]; rfl
end Go.Proofs.YtaballahjgegdaaDoor
