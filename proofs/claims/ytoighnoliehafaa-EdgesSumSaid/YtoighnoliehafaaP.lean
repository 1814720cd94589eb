/- What is proved: plain laws of claims and weights: of what claims a place no weight is of the other sign; what may not be claims nothing. -/
import Derived.Test.YtoighnoliehafaaW
namespace Go.Proofs.Ytoighnoliehafaa
open Go.RowKit Ed
theorem claim_no (a b c p : D) (h : ¬ okAt a b c p) : claim a b c p = 0 := by
  unfold claim
  by_cases hp : ok p
  · have h1 : ¬ (ok a ∧ ok b ∧ ok c) := fun g => h ⟨g, hp⟩
    rw [if_pos (Or.inl (by unfold area; rw [if_neg h1]; rfl))]
  · rw [if_pos (Or.inr hp)]
theorem claim_one (a b c p : D) (h : claim a b c p = 1) : sg (area a b c) = 1 ∧ side b c p = 1 ∧ side c a p = 1 ∧ side a b p = 1 := by
  unfold claim at h
  split at h
  · omega
  · split at h
    · rename_i g; rw [h] at g; exact ⟨h, g⟩
    · omega
theorem claim_less (a b c p : D) (h : claim a b c p = -1) : sg (area a b c) = -1 ∧ side b c p = -1 ∧ side c a p = -1 ∧ side a b p = -1 := by
  unfold claim at h
  split at h
  · omega
  · split at h
    · rename_i g; rw [h] at g; exact ⟨h, g⟩
    · omega
theorem cs3_sum (a b c p : D) : cs3 a b c p 0 + cs3 a b c p 1 + cs3 a b c p 2 = cross a b c := cross_sum a b c p
theorem cross_bd (a b p : D) (ha : ok a) (hb : ok b) (hp : ok p) : -3602879701896396800 ≤ cross a b p ∧ cross a b p ≤ 3602879701896396800 := by
  have := ok_prod a b p ha hb hp
  unfold cross; omega
theorem area_ok (a b c : D) (ha : ok a) (hb : ok b) (hc : ok c) : area a b c = cross a b c := if_pos ⟨ha, hb, hc⟩
end Go.Proofs.Ytoighnoliehafaa
