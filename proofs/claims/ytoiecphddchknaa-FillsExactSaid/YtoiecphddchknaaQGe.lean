/- What is proved: what claims a place, its weights, and their bounds, in plain Lean. No condition but those that are stated. -/
import Derived.Test.YtoiecphddchknaaQEd
set_option linter.unusedSimpArgs false
set_option linter.unusedVariables false
namespace Go.Proofs.Ytoiecphddchknaa
open Go Ed

def sd (fx fy wx wy px py : Int) : Int := or3 (sg (wx * (py - fy) - wy * (px - fx))) (-(sg wy)) (sg wx)
def okAt (a b c p : D) : Prop := (ok a ∧ ok b ∧ ok c) ∧ ok p
instance (a b c p : D) : Decidable (okAt a b c p) := by unfold okAt; infer_instance
def wt (a b c p : D) (j : Nat) : Int := if okAt a b c p then (if j = 0 then cross b c p else if j = 1 then cross c a p else cross a b p) else 0
theorem sg_bd (x : Int) : -1 ≤ sg x ∧ sg x ≤ 1 := by rcases sg_cases x with ⟨h, _⟩ | ⟨h, _⟩ | ⟨h, _⟩ <;> omega
theorem sd_bd (fx fy wx wy px py : Int) : -1 ≤ sd fx fy wx wy px py ∧ sd fx fy wx wy px py ≤ 1 := by
  unfold sd or3
  have := sg_bd (wx * (py - fy) - wy * (px - fx)); have := sg_bd wy; have := sg_bd wx
  split <;> (try split) <;> omega
theorem claim_bd (a b c p : D) : -1 ≤ claim a b c p ∧ claim a b c p ≤ 1 := by
  have := sg_bd (area a b c)
  unfold claim; split <;> (try split) <;> omega
theorem prod_bd (x y b c : Int) (hb : 0 ≤ b) (h1 : -b ≤ x) (h2 : x ≤ b) (h3 : -c ≤ y) (h4 : y ≤ c) : -(b * c) ≤ x * y ∧ x * y ≤ b * c := by
  have hc : 0 ≤ c := by omega
  rcases Int.le_total 0 x with hx | hx <;> rcases Int.le_total 0 y with hy | hy
  · have := Int.mul_le_mul h2 h4 hy hb; have := Int.mul_nonneg hx hy; omega
  · have := Int.mul_le_mul h2 (show -y ≤ c by omega) (by omega) hb; have e : x * -y = -(x * y) := by grind
    have := Int.mul_nonneg hx (show 0 ≤ -y by omega); omega
  · have := Int.mul_le_mul (show -x ≤ b by omega) h4 hy hb; have e : -x * y = -(x * y) := by grind
    have := Int.mul_nonneg (show 0 ≤ -x by omega) hy; omega
  · have := Int.mul_le_mul (show -x ≤ b by omega) (show -y ≤ c by omega) (by omega) hb; have e : -x * -y = x * y := by grind
    have := Int.mul_nonneg (show 0 ≤ -x by omega) (show 0 ≤ -y by omega); omega
theorem cross_bd (a b p : D) (ha : ok a) (hb : ok b) (hp : ok p) : -3602879701896396800 ≤ cross a b p ∧ cross a b p ≤ 3602879701896396800 := by
  unfold ok at *
  unfold cross
  have h1 := prod_bd (b.x - a.x) (p.y - a.y) 1342177280 1342177280 (by omega) (by omega) (by omega) (by omega) (by omega)
  have h2 := prod_bd (b.y - a.y) (p.x - a.x) 1342177280 1342177280 (by omega) (by omega) (by omega) (by omega) (by omega)
  omega
theorem area_bd (a b c : D) : -3602879701896396800 ≤ area a b c ∧ area a b c ≤ 3602879701896396800 := by
  unfold area; split
  · rename_i h; exact cross_bd a b c h.1 h.2.1 h.2.2
  · omega
theorem wt_bd (a b c p : D) (j : Nat) : -3602879701896396800 ≤ wt a b c p j ∧ wt a b c p j ≤ 3602879701896396800 := by
  unfold wt; split
  · rename_i h
    obtain ⟨⟨h1, h2, h3⟩, h4⟩ := h
    split
    · exact cross_bd _ _ _ h2 h3 h4
    · split
      · exact cross_bd _ _ _ h3 h1 h4
      · exact cross_bd _ _ _ h1 h2 h4
  · omega
def mvd (a b p : D) : Int := or3 (sg (cross a b p)) (sg (a.y - b.y)) (sg (b.x - a.x))
theorem mvd_bd (a b p : D) : -1 ≤ mvd a b p ∧ mvd a b p ≤ 1 := by
  unfold mvd or3
  have := sg_bd (cross a b p); have := sg_bd (a.y - b.y); have := sg_bd (b.x - a.x)
  split <;> (try split) <;> omega
theorem mvd_side (a b p : D) : mvd a b p = side a b p := by
  unfold mvd side
  rw [show a.y - b.y = -(b.y - a.y) by omega, sg_neg]
theorem claim_alt (a b c p : D) : claim a b c p = if ¬ (ok a ∧ ok b ∧ ok c) then 0 else if sg (cross a b c) = 0 then 0 else if ¬ ok p then 0 else
    if sd b.x b.y (c.x - b.x) (c.y - b.y) p.x p.y ≠ sg (cross a b c) then 0 else if sd c.x c.y (a.x - c.x) (a.y - c.y) p.x p.y ≠ sg (cross a b c) then 0 else
    if sd a.x a.y (b.x - a.x) (b.y - a.y) p.x p.y ≠ sg (cross a b c) then 0 else sg (cross a b c) := by
  have e : ∀ a b : D, sd a.x a.y (b.x - a.x) (b.y - a.y) p.x p.y = side a b p := fun _ _ => rfl
  rw [e, e, e]
  have z : sg 0 = 0 := rfl
  unfold claim area
  by_cases h : ok a ∧ ok b ∧ ok c
  · simp only [h, and_self, if_true, not_true_eq_false, if_false]
    generalize sg (cross a b c) = s
    by_cases h0 : s = 0
    · simp [h0]
    · by_cases hp : ok p
      · by_cases g1 : side b c p = s
        · by_cases g2 : side c a p = s
          · by_cases g3 : side a b p = s
            · simp [h0, hp, g1, g2, g3]
            · simp [h0, hp, g1, g2, g3]
          · simp [h0, hp, g1, g2]
        · simp [h0, hp, g1]
      · simp [h0, hp]
  · simp [h, z]
theorem sg_mono {x y : Int} (h : x ≤ y) : sg x ≤ sg y := by
  rcases sg_cases x with ⟨a, _⟩ | ⟨a, _⟩ | ⟨a, _⟩ <;> rcases sg_cases y with ⟨b, _⟩ | ⟨b, _⟩ | ⟨b, _⟩ <;> omega
end Go.Proofs.Ytoiecphddchknaa
