/- What is proved: plain laws of numbers, and what stands on them. No condition. -/

set_option linter.unusedSimpArgs false
set_option linter.unusedVariables false
namespace Ed

structure D where
  x : Int
  y : Int

def ok (d : D) : Prop := -671088640 ≤ d.x ∧ d.x ≤ 671088640 ∧ -671088640 ≤ d.y ∧ d.y ≤ 671088640
instance (d : D) : Decidable (ok d) := by unfold ok; infer_instance

def cross (a b p : D) : Int := (b.x - a.x) * (p.y - a.y) - (b.y - a.y) * (p.x - a.x)
def sg (x : Int) : Int := if x < 0 then -1 else if 0 < x then 1 else 0
def or3 (a b c : Int) : Int := if a ≠ 0 then a else if b ≠ 0 then b else c
def side (a b p : D) : Int := or3 (sg (cross a b p)) (-(sg (b.y - a.y))) (sg (b.x - a.x))
def area (a b c : D) : Int := if ok a ∧ ok b ∧ ok c then cross a b c else 0
def claim (a b c p : D) : Int :=
  if sg (area a b c) = 0 ∨ ¬ ok p then 0
  else if side b c p = sg (area a b c) ∧ side c a p = sg (area a b c) ∧ side a b p = sg (area a b c) then sg (area a b c) else 0

theorem sg_cases (x : Int) : (sg x = -1 ∧ x < 0) ∨ (sg x = 0 ∧ x = 0) ∨ (sg x = 1 ∧ 0 < x) := by
  unfold sg; split
  · left; omega
  · split <;> omega
theorem sg_neg (x : Int) : sg (-x) = - sg x := by
  rcases sg_cases x with ⟨h, _⟩ | ⟨h, _⟩ | ⟨h, _⟩ <;> rcases sg_cases (-x) with ⟨h', _⟩ | ⟨h', _⟩ | ⟨h', _⟩ <;> omega
theorem cross_sum (a b c p : D) : cross b c p + cross c a p + cross a b p = cross a b c := by unfold cross; grind
theorem cross_turn (a b c : D) : cross b c a = cross a b c := by unfold cross; grind
theorem cross_swap (a b p : D) : cross b a p = - cross a b p := by unfold cross; grind
theorem cross_back (a b c : D) : cross b a c = - cross a b c := cross_swap a b c
theorem side_swap (a b p : D) : side b a p = - side a b p := by
  have h1 := cross_swap a b p
  have h2 : a.y - b.y = -(b.y - a.y) := by omega
  have h3 : a.x - b.x = -(b.x - a.x) := by omega
  unfold side; rw [h1, h2, h3, sg_neg, sg_neg, sg_neg]; unfold or3
  split <;> split <;> (try split) <;> (try split) <;> omega
theorem side_cases (a b p : D) : side a b p = -1 ∨ side a b p = 0 ∨ side a b p = 1 := by
  unfold side or3
  rcases sg_cases (cross a b p) with ⟨h, _⟩ | ⟨h, _⟩ | ⟨h, _⟩ <;> rcases sg_cases (b.y - a.y) with ⟨h', _⟩ | ⟨h', _⟩ | ⟨h', _⟩ <;> rcases sg_cases (b.x - a.x) with ⟨h'', _⟩ | ⟨h'', _⟩ | ⟨h'', _⟩ <;> simp [h, h', h'']
theorem side_zero (a b p : D) (h : side a b p = 0) : a.x = b.x ∧ a.y = b.y := by
  revert h
  unfold side or3
  rcases sg_cases (cross a b p) with ⟨h, _⟩ | ⟨h, _⟩ | ⟨h, _⟩ <;> rcases sg_cases (b.y - a.y) with ⟨h', _⟩ | ⟨h', _⟩ | ⟨h', _⟩ <;> rcases sg_cases (b.x - a.x) with ⟨h'', _⟩ | ⟨h'', _⟩ | ⟨h'', _⟩ <;> simp [h, h', h''] <;> omega
theorem side_pos (a b p : D) (h : side a b p = 1) : 0 ≤ cross a b p := by
  revert h; unfold side or3
  rcases sg_cases (cross a b p) with ⟨h, _⟩ | ⟨h, _⟩ | ⟨h, _⟩ <;> simp [h] <;> omega
theorem side_neg (a b p : D) (h : side a b p = -1) : cross a b p ≤ 0 := by
  revert h; unfold side or3
  rcases sg_cases (cross a b p) with ⟨h, _⟩ | ⟨h, _⟩ | ⟨h, _⟩ <;> simp [h] <;> omega

theorem area_turn (a b c : D) : area b c a = area a b c := by
  unfold area; rw [cross_turn]
  by_cases h : ok a ∧ ok b ∧ ok c
  · rw [if_pos h, if_pos ⟨h.2.1, h.2.2, h.1⟩]
  · rw [if_neg h, if_neg (fun g => h ⟨g.2.2, g.1, g.2.1⟩)]
theorem area_back (a b c : D) : area b a c = - area a b c := by
  unfold area; rw [cross_back]
  by_cases h : ok a ∧ ok b ∧ ok c
  · rw [if_pos h, if_pos ⟨h.2.1, h.1, h.2.2⟩]
  · rw [if_neg h, if_neg (fun g => h ⟨g.2.1, g.1, g.2.2⟩)]; rfl
theorem claim_turn (a b c p : D) : claim b c a p = claim a b c p := by
  unfold claim; rw [area_turn]
  by_cases h : sg (area a b c) = 0 ∨ ¬ ok p
  · rw [if_pos h, if_pos h]
  · rw [if_neg h, if_neg h]
    congr 1
    apply propext; constructor
    · rintro ⟨h1, h2, h3⟩; exact ⟨h3, h1, h2⟩
    · rintro ⟨h1, h2, h3⟩; exact ⟨h2, h3, h1⟩
theorem claim_back (a b c p : D) : claim b a c p = - claim a b c p := by
  unfold claim; rw [area_back, sg_neg, side_swap c a, side_swap b c, side_swap a b]
  by_cases h : sg (area a b c) = 0 ∨ ¬ ok p
  · rw [if_pos h, if_pos (h.imp (fun g => by omega) id)]; rfl
  · rw [if_neg h, if_neg (fun g => h (g.imp (fun g => by omega) id))]
    by_cases g : side b c p = sg (area a b c) ∧ side c a p = sg (area a b c) ∧ side a b p = sg (area a b c)
    · rw [if_pos g, if_pos (by omega)]
    · rw [if_neg g, if_neg (by omega)]; rfl

def M : Int := 8589934592
def E (a b p : D) : Int := M * M * cross a b p - M * (b.y - a.y) + (b.x - a.x)
theorem sg_of_pos {x : Int} (h : 0 < x) : sg x = 1 := by unfold sg; rw [if_neg (by omega), if_pos h]
theorem sg_of_neg {x : Int} (h : x < 0) : sg x = -1 := by unfold sg; rw [if_pos h]
theorem sg_of_zero {x : Int} (h : x = 0) : sg x = 0 := by unfold sg; rw [if_neg (by omega), if_neg (by omega)]
theorem side_E (a b p : D) (ha : ok a) (hb : ok b) : side a b p = sg (E a b p) := by
  unfold ok at ha hb
  unfold side E M
  generalize cross a b p = c
  rcases sg_cases c with ⟨h, g⟩ | ⟨h, g⟩ | ⟨h, g⟩
  · rw [h, sg_of_neg (x := 8589934592 * 8589934592 * c - 8589934592 * (b.y - a.y) + (b.x - a.x)) (by omega)]; simp [or3]
  · rcases sg_cases (b.y - a.y) with ⟨h', g'⟩ | ⟨h', g'⟩ | ⟨h', g'⟩
    · rw [h, h', sg_of_pos (x := 8589934592 * 8589934592 * c - 8589934592 * (b.y - a.y) + (b.x - a.x)) (by omega)]; simp [or3]
    · rw [h, h', g, g', show (8589934592 * 8589934592 * 0 - 8589934592 * 0 + (b.x - a.x) : Int) = b.x - a.x from by omega]; simp [or3]
    · rw [h, h', sg_of_neg (x := 8589934592 * 8589934592 * c - 8589934592 * (b.y - a.y) + (b.x - a.x)) (by omega)]; simp [or3]
  · rw [h, sg_of_pos (x := 8589934592 * 8589934592 * c - 8589934592 * (b.y - a.y) + (b.x - a.x)) (by omega)]; simp [or3]
theorem E_sum (a b c p : D) : E b c p + E c a p + E a b p = M * M * cross a b c := by
  rw [← cross_sum a b c p]; unfold E; generalize M = m; generalize cross b c p = u; generalize cross c a p = v; generalize cross a b p = w; grind
def F (s t u : Int) : Int := if s = 1 ∧ t = 1 ∧ u = 1 then 1 else if s = -1 ∧ t = -1 ∧ u = -1 then -1 else 0
theorem pos_of_sg {x : Int} (h : sg x = 1) : 0 < x := by rcases sg_cases x with ⟨g, _⟩ | ⟨g, _⟩ | ⟨g, _⟩ <;> omega
theorem neg_of_sg {x : Int} (h : sg x = -1) : x < 0 := by rcases sg_cases x with ⟨g, _⟩ | ⟨g, _⟩ | ⟨g, _⟩ <;> omega
theorem claim_F (a b c p : D) (ha : ok a) (hb : ok b) (hc : ok c) (hp : ok p) : claim a b c p = F (side b c p) (side c a p) (side a b p) := by
  have h1 := side_E b c p hb hc
  have h2 := side_E c a p hc ha
  have h3 := side_E a b p ha hb
  have hs := E_sum a b c p
  have hM : M * M = 73786976294838206464 := by decide
  rw [hM] at hs
  have ar : area a b c = cross a b c := if_pos ⟨ha, hb, hc⟩
  unfold claim F
  rw [ar]
  rcases sg_cases (cross a b c) with ⟨h, g⟩ | ⟨h, g⟩ | ⟨h, g⟩
  · rw [h, if_neg (by simp [hp])]
    by_cases k : side b c p = 1 ∧ side c a p = 1 ∧ side a b p = 1
    · obtain ⟨k1, k2, k3⟩ := k
      have := pos_of_sg (h1 ▸ k1); have := pos_of_sg (h2 ▸ k2); have := pos_of_sg (h3 ▸ k3); omega
    · rw [if_neg k]
  · rw [h, if_pos (by simp)]
    by_cases k : side b c p = 1 ∧ side c a p = 1 ∧ side a b p = 1
    · obtain ⟨k1, k2, k3⟩ := k
      have := pos_of_sg (h1 ▸ k1); have := pos_of_sg (h2 ▸ k2); have := pos_of_sg (h3 ▸ k3); omega
    · rw [if_neg k]
      by_cases k : side b c p = -1 ∧ side c a p = -1 ∧ side a b p = -1
      · obtain ⟨k1, k2, k3⟩ := k
        have := neg_of_sg (h1 ▸ k1); have := neg_of_sg (h2 ▸ k2); have := neg_of_sg (h3 ▸ k3); omega
      · rw [if_neg k]
  · rw [h, if_neg (by simp [hp])]
    by_cases k : side b c p = 1 ∧ side c a p = 1 ∧ side a b p = 1
    · rw [if_pos k, if_pos k]
    · rw [if_neg k, if_neg k]
      by_cases k : side b c p = -1 ∧ side c a p = -1 ∧ side a b p = -1
      · obtain ⟨k1, k2, k3⟩ := k
        have := neg_of_sg (h1 ▸ k1); have := neg_of_sg (h2 ▸ k2); have := neg_of_sg (h3 ▸ k3); omega
      · rw [if_neg k]
theorem E_det (a b p : D) : M * E a b p = (M * (a.x - p.x) - 1) * (M * M * (b.y - p.y) - 1) - (M * (b.x - p.x) - 1) * (M * M * (a.y - p.y) - 1) := by
  unfold E cross; generalize M = m; grind
theorem gp (a b c d p : D) : E a b p * E c d p - E a c p * E b d p + E a d p * E b c p = 0 := by
  have h1 := E_det a b p; have h2 := E_det c d p; have h3 := E_det a c p; have h4 := E_det b d p; have h5 := E_det a d p; have h6 := E_det b c p
  have key : (M * E a b p) * (M * E c d p) - (M * E a c p) * (M * E b d p) + (M * E a d p) * (M * E b c p) = 0 := by
    rw [h1, h2, h3, h4, h5, h6]
    generalize M * (a.x - p.x) - 1 = xa; generalize M * (b.x - p.x) - 1 = xb; generalize M * (c.x - p.x) - 1 = xc; generalize M * (d.x - p.x) - 1 = xd
    generalize M * M * (a.y - p.y) - 1 = ya; generalize M * M * (b.y - p.y) - 1 = yb; generalize M * M * (c.y - p.y) - 1 = yc; generalize M * M * (d.y - p.y) - 1 = yd
    grind
  have k2 : (M * M) * (E a b p * E c d p - E a c p * E b d p + E a d p * E b c p) = 0 := by
    rw [← key]; generalize M = m; generalize E a b p = u1; generalize E c d p = u2; generalize E a c p = u3; generalize E b d p = u4; generalize E a d p = u5; generalize E b c p = u6; grind
  have hM : M * M = 73786976294838206464 := by decide
  rw [hM] at k2; omega
theorem sg_mul (x y : Int) : sg (x * y) = sg x * sg y := by
  rcases sg_cases x with ⟨h, g⟩ | ⟨h, g⟩ | ⟨h, g⟩ <;> rcases sg_cases y with ⟨h', g'⟩ | ⟨h', g'⟩ | ⟨h', g'⟩ <;> rw [h, h']
  · exact sg_of_pos (Int.mul_pos_of_neg_of_neg g g')
  · rw [g']; simp [sg]
  · exact sg_of_neg (Int.mul_neg_of_neg_of_pos g g')
  · rw [g]; simp [sg]
  · rw [g]; simp [sg]
  · rw [g]; simp [sg]
  · exact sg_of_neg (Int.mul_neg_of_pos_of_neg g g')
  · rw [g']; simp [sg]
  · exact sg_of_pos (Int.mul_pos g g')
theorem gp_sg (P Q R : Int) (h : P - Q + R = 0) : ¬ (sg P = 1 ∧ sg Q = -1 ∧ sg R = 1) ∧ ¬ (sg P = -1 ∧ sg Q = 1 ∧ sg R = -1) := by
  constructor
  · rintro ⟨a, b, c⟩; have := pos_of_sg a; have := neg_of_sg b; have := pos_of_sg c; omega
  · rintro ⟨a, b, c⟩; have := neg_of_sg a; have := pos_of_sg b; have := neg_of_sg c; omega
theorem F_four (s01 s02 s03 s12 s13 s23 : Int) (h1 : s01 = -1 ∨ s01 = 1) (h2 : s02 = -1 ∨ s02 = 1) (h3 : s03 = -1 ∨ s03 = 1) (h4 : s12 = -1 ∨ s12 = 1) (h5 : s13 = -1 ∨ s13 = 1) (h6 : s23 = -1 ∨ s23 = 1)
    (g1 : ¬ (s01 * s23 = 1 ∧ s02 * s13 = -1 ∧ s03 * s12 = 1)) (g2 : ¬ (s01 * s23 = -1 ∧ s02 * s13 = 1 ∧ s03 * s12 = -1)) :
    F s23 (-s13) s12 - F s23 (-s03) s02 + F s13 (-s03) s01 - F s12 (-s02) s01 = 0 := by
  rcases h1 with rfl | rfl <;> rcases h2 with rfl | rfl <;> rcases h3 with rfl | rfl <;> rcases h4 with rfl | rfl <;> rcases h5 with rfl | rfl <;> rcases h6 with rfl | rfl <;> first | decide | exact absurd (by decide) g1 | exact absurd (by decide) g2
theorem side_ext (a b c d p : D) (hx : a.x = c.x) (hy : a.y = c.y) (hx' : b.x = d.x) (hy' : b.y = d.y) : side a b p = side c d p := by
  unfold side cross; rw [hx, hy, hx', hy']
theorem D_ext (a b : D) (h : a.x = b.x ∧ a.y = b.y) : a = b := by cases a; cases b; simp_all
theorem claim_same1 (a c p : D) : claim a a c p = 0 := by
  unfold claim
  have : sg (area a a c) = 0 := by
    apply sg_of_zero; unfold area; split
    · unfold cross; grind
    · rfl
  rw [if_pos (Or.inl this)]
theorem claim_same2 (a b p : D) : claim a b a p = 0 := by rw [← claim_turn a b a p, ← claim_turn b a a p]; exact claim_same1 a b p
theorem claim_same3 (a b p : D) : claim a b b p = 0 := by rw [← claim_turn a b b p]; exact claim_same1 b a p
theorem claim_flip (a b c p : D) : claim a c b p = - claim a b c p := by rw [← claim_turn a c b p, claim_back b c a p, claim_turn a b c p]
theorem pm {s : Int} (h : s = -1 ∨ s = 0 ∨ s = 1) (z : ¬ s = 0) : s = -1 ∨ s = 1 := by omega
theorem four (a b c d p : D) (ha : ok a) (hb : ok b) (hc : ok c) (hd : ok d) :
    claim b c d p - claim a c d p + claim a b d p - claim a b c p = 0 := by
  by_cases hp : ok p
  · by_cases z1 : side a b p = 0
    · obtain rfl := D_ext a b (side_zero a b p z1)
      rw [claim_same1 a d p, claim_same1 a c p]; omega
    by_cases z2 : side a c p = 0
    · obtain rfl := D_ext a c (side_zero a c p z2)
      rw [claim_same1 a d p, claim_same2 a b p, claim_back a b d p]; omega
    by_cases z3 : side a d p = 0
    · obtain rfl := D_ext a d (side_zero a d p z3)
      rw [claim_same2 a c p, claim_same2 a b p, claim_turn a b c p]; omega
    by_cases z4 : side b c p = 0
    · obtain rfl := D_ext b c (side_zero b c p z4)
      rw [claim_same1 b d p, claim_same3 a b p]; omega
    by_cases z5 : side b d p = 0
    · obtain rfl := D_ext b d (side_zero b d p z5)
      rw [claim_same2 b c p, claim_same3 a b p, claim_flip a b c p]; omega
    by_cases z6 : side c d p = 0
    · obtain rfl := D_ext c d (side_zero c d p z6)
      rw [claim_same3 b c p, claim_same3 a c p]; omega
    rw [claim_F b c d p hb hc hd hp, claim_F a c d p ha hc hd hp, claim_F a b d p ha hb hd hp, claim_F a b c p ha hb hc hp]
    rw [side_swap b d p, side_swap a d p, side_swap a c p]
    have k := gp_sg (E a b p * E c d p) (E a c p * E b d p) (E a d p * E b c p) (gp a b c d p)
    rw [sg_mul (E a b p) (E c d p), sg_mul (E a c p) (E b d p), sg_mul (E a d p) (E b c p), ← side_E a b p ha hb, ← side_E c d p hc hd, ← side_E a c p ha hc, ← side_E b d p hb hd, ← side_E a d p ha hd, ← side_E b c p hb hc] at k
    exact F_four _ _ _ _ _ _ (pm (side_cases a b p) z1) (pm (side_cases a c p) z2) (pm (side_cases a d p) z3) (pm (side_cases b c p) z4) (pm (side_cases b d p) z5) (pm (side_cases c d p) z6) k.1 k.2
  · have z : ∀ x y t : D, claim x y t p = 0 := fun x y t => by unfold claim; rw [if_pos (Or.inr hp)]
    rw [z b c d, z a c d, z a b d, z a b c]; rfl
end Ed
