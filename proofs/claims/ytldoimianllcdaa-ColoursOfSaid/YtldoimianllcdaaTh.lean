/- What is proved: a colour that is told in another space: what is nought, that held numbers tell the same, and that it is as it was when it is told once more. No condition. -/
import Derived.Test.YtldoimianllcdaaTl
set_option linter.unusedSimpArgs false
set_option linter.unusedVariables false
namespace Go.Proofs.Ytldoimianllcdaa
open Go Go.RowKit Sx Wi
theorem toF_held (j : Nat) (f t a b c d : Int) : toF j f t (max 0 (min 65536 a)) (max 0 (min 65536 b)) (max 0 (min 65536 c)) (max 0 (min 65536 d)) = toF j f t a b c d := by
  unfold toF lu mx3
  simp only [hd_mm]
theorem toF_z (f t a b c d : Int) : (t = 0 ∧ toF 1 f t a b c d = 0 ∧ toF 2 f t a b c d = 0 ∧ toF 3 f t a b c d = 0) ∨ (t = 1 ∧ toF 3 f t a b c d = 0) ∨ t = 2 ∨
    ((t < 0 ∨ 2 < t) ∧ toF 0 f t a b c d = 0 ∧ toF 1 f t a b c d = 0 ∧ toF 2 f t a b c d = 0 ∧ toF 3 f t a b c d = 0) := by
  have no : ∀ j, (t < 0 ∨ 2 < t) → toF j f t a b c d = 0 := by
    intro j h
    unfold toF
    rw [if_neg (by omega), if_neg (by omega), if_neg (by omega), if_neg (by omega), if_neg (by omega), if_neg (by omega), if_neg (by omega), if_neg (by omega), if_neg (by omega)]
  by_cases h0 : t = 0
  · left
    subst h0
    refine ⟨rfl, ?_, ?_, ?_⟩ <;> (unfold toF; simp)
  · by_cases h1 : t = 1
    · right; left
      subst h1
      refine ⟨rfl, ?_⟩
      unfold toF; simp
    · by_cases h2 : t = 2
      · right; right; left; exact h2
      · right; right; right
        have h : t < 0 ∨ 2 < t := by omega
        exact ⟨h, no 0 h, no 1 h, no 2 h, no 3 h⟩
theorem toF_same (j : Nat) (hj : j < 4) (f t a b c d : Int) : toF j t t (toF 0 f t a b c d) (toF 1 f t a b c d) (toF 2 f t a b c d) (toF 3 f t a b c d) = toF j f t a b c d := by
  have b0 := toF_bd 0 f t a b c d
  have b1 := toF_bd 1 f t a b c d
  have b2 := toF_bd 2 f t a b c d
  have b3 := toF_bd 3 f t a b c d
  have z := toF_z f t a b c d
  have e0 := hd_in b0.1 b0.2
  have e1 := hd_in b1.1 b1.2
  have e2 := hd_in b2.1 b2.2
  have e3 := hd_in b3.1 b3.2
  have hc : j = 0 ∨ j = 1 ∨ j = 2 ∨ j = 3 := by omega
  rcases z with ⟨h, z1, z2, z3⟩ | ⟨h, z3⟩ | h | ⟨h, z0, z1, z2, z3⟩
  · subst h
    rcases hc with rfl | rfl | rfl | rfl
    · rw [t000, e0]
    · rw [t001, z1]
    · rw [t002, z2]
    · rw [t003, z3]
  · subst h
    rcases hc with rfl | rfl | rfl | rfl
    · rw [t110, e0]
    · rw [t111, e1]
    · rw [t112, e2]
    · rw [t113, z3]
  · subst h
    rcases hc with rfl | rfl | rfl | rfl
    · rw [t220, e0]
    · rw [t221, e1]
    · rw [t222, e2]
    · rw [t223, e3]
  · have no : ∀ x y u v : Int, toF j t t x y u v = 0 := by
      intro x y u v
      unfold toF
      rw [if_neg (by omega), if_neg (by omega), if_neg (by omega), if_neg (by omega), if_neg (by omega), if_neg (by omega), if_neg (by omega), if_neg (by omega), if_neg (by omega)]
    rw [no]
    rcases hc with rfl | rfl | rfl | rfl <;> omega
end Go.Proofs.Ytldoimianllcdaa
