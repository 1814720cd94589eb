/- What is proved: a triangle and a place that are moved together have the same area, claim and weights, as long as no place is too far out. -/
import Derived.Test.YtoighnoliehafaaGd
set_option linter.unusedSimpArgs false
set_option linter.unusedVariables false
namespace Go.Proofs.Ytoighnoliehafaa
open Go Go.RowKit Sx Ed
def cl (x : Int) : Prop := -536870912 ≤ x ∧ x ≤ 536870912
def sh (u : Int) : Prop := -32768 ≤ u ∧ u ≤ 32767
theorem mv_cross (u v a b c d e f : Int) : cross ⟨a + u, b + v⟩ ⟨c + u, d + v⟩ ⟨e + u, f + v⟩ = cross ⟨a, b⟩ ⟨c, d⟩ ⟨e, f⟩ := by
  unfold cross; dsimp only
  rw [show c + u - (a + u) = c - a by omega, show f + v - (b + v) = f - b by omega, show d + v - (b + v) = d - b by omega, show e + u - (a + u) = e - a by omega]
theorem mv_side (u v a b c d e f : Int) : side ⟨a + u, b + v⟩ ⟨c + u, d + v⟩ ⟨e + u, f + v⟩ = side ⟨a, b⟩ ⟨c, d⟩ ⟨e, f⟩ := by
  unfold side; rw [mv_cross]; dsimp only
  rw [show c + u - (a + u) = c - a by omega, show d + v - (b + v) = d - b by omega]
theorem ok_cl {a b : Int} (h : cl a ∧ cl b) : ok ⟨a, b⟩ := by unfold cl at h; unfold ok; dsimp only; omega
theorem ok_mv {a b u v : Int} (hu : sh u) (hv : sh v) (h : cl a ∧ cl b) : ok ⟨a + u, b + v⟩ := by unfold cl at h; unfold sh at hu hv; unfold ok; dsimp only; omega
def Close (a b c d e f g h u v : Int) : Prop := (cl a ∧ cl b) ∧ (cl c ∧ cl d) ∧ (cl e ∧ cl f) ∧ (cl g ∧ cl h) ∧ sh u ∧ sh v
theorem mvA {a b c d e f g h u v : Int} (k : Close a b c d e f g h u v) : area ⟨a, b⟩ ⟨c, d⟩ ⟨e, f⟩ = area ⟨a + u, b + v⟩ ⟨c + u, d + v⟩ ⟨e + u, f + v⟩ := by
  obtain ⟨k1, k2, k3, k4, k5, k6⟩ := k
  unfold area
  rw [if_pos ⟨ok_cl k1, ok_cl k2, ok_cl k3⟩, if_pos ⟨ok_mv k5 k6 k1, ok_mv k5 k6 k2, ok_mv k5 k6 k3⟩, mv_cross]
theorem mvC {a b c d e f g h u v : Int} (k : Close a b c d e f g h u v) : claim ⟨a, b⟩ ⟨c, d⟩ ⟨e, f⟩ ⟨g, h⟩ = claim ⟨a + u, b + v⟩ ⟨c + u, d + v⟩ ⟨e + u, f + v⟩ ⟨g + u, h + v⟩ := by
  have ka := mvA k
  obtain ⟨k1, k2, k3, k4, k5, k6⟩ := k
  rw [claim_F _ _ _ _ (ok_cl k1) (ok_cl k2) (ok_cl k3) (ok_cl k4), claim_F _ _ _ _ (ok_mv k5 k6 k1) (ok_mv k5 k6 k2) (ok_mv k5 k6 k3) (ok_mv k5 k6 k4), mv_side, mv_side, mv_side]
theorem mvW {a b c d e f g h u v : Int} (k : Close a b c d e f g h u v) (j : Nat) : wt ⟨a, b⟩ ⟨c, d⟩ ⟨e, f⟩ ⟨g, h⟩ j = wt ⟨a + u, b + v⟩ ⟨c + u, d + v⟩ ⟨e + u, f + v⟩ ⟨g + u, h + v⟩ j := by
  obtain ⟨k1, k2, k3, k4, k5, k6⟩ := k
  have o1 : okAt ⟨a, b⟩ ⟨c, d⟩ ⟨e, f⟩ ⟨g, h⟩ := ⟨⟨ok_cl k1, ok_cl k2, ok_cl k3⟩, ok_cl k4⟩
  have o2 : okAt ⟨a + u, b + v⟩ ⟨c + u, d + v⟩ ⟨e + u, f + v⟩ ⟨g + u, h + v⟩ := ⟨⟨ok_mv k5 k6 k1, ok_mv k5 k6 k2, ok_mv k5 k6 k3⟩, ok_mv k5 k6 k4⟩
  unfold wt
  simp only [o1, o2, if_true, mv_cross]
end Go.Proofs.Ytoighnoliehafaa
