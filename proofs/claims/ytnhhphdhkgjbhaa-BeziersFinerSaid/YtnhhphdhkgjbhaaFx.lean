set_option linter.unusedSimpArgs false
set_option linter.unusedVariables false
namespace Fx
/-! numbers in 65536ths: what is reckoned of them, in plain whole numbers -/
/-- the nearest: the floor of n / d and a half -/
def near (n d : Int) : Int := (2 * n + d) / (2 * d)
/-- held -/
def sat (n : Int) : Int := if n < -2147483648 then -2147483648 else if 2147483647 < n then 2147483647 else n
def fix (a : Int) : Prop := -2147483648 ≤ a ∧ a ≤ 2147483647
def mul (a b : Int) : Int := sat (near (a * b) 65536)
/-- the numerator and the denominator, this above 0 -/
def ratio (n d : Int) : Int := if d < 0 then sat (near (n * -65536) (-d)) else sat (near (n * 65536) d)
def line (x flo fhi tlo thi : Int) : Int :=
  if fhi - flo < 0 then sat (near (-(x - flo) * (thi - tlo) + tlo * -(fhi - flo)) (-(fhi - flo)))
  else sat (near ((x - flo) * (thi - tlo) + tlo * (fhi - flo)) (fhi - flo))
def down (a : Int) : Int := a / 65536 * 65536
def floor (a : Int) : Int := sat (down a)
def ceil (a : Int) : Int := sat (down (a + 65535))
def round (a : Int) : Int := sat (down (a + 32768))
def trunc (a : Int) : Int := if a < 0 then ceil a else floor a

theorem sat_cases (n : Int) : (n < -2147483648 ∧ sat n = -2147483648) ∨ (2147483647 < n ∧ sat n = 2147483647) ∨ (fix n ∧ sat n = n) := by
  unfold sat fix; split
  · omega
  · split <;> omega
theorem sat_fix (n : Int) : fix (sat n) := by rcases sat_cases n with ⟨_, h⟩ | ⟨_, h⟩ | ⟨h', h⟩ <;> rw [h] <;> (unfold fix at *; omega)
theorem sat_in {n : Int} (h : fix n) : sat n = n := by unfold fix at h; rcases sat_cases n with ⟨_, g⟩ | ⟨_, g⟩ | ⟨_, g⟩ <;> omega
theorem sat_mono {m n : Int} (h : m ≤ n) : sat m ≤ sat n := by
  unfold sat; split <;> split <;> (try split) <;> (try split) <;> omega
/-- what the nearest is -/
theorem near_spec (n d : Int) (hd : 0 < d) : 2 * (near n d * d) ≤ 2 * n + d ∧ 2 * n + d < 2 * (near n d * d) + 2 * d := by
  unfold near
  have e := Int.emod_add_mul_ediv (2 * n + d) (2 * d)
  have l := Int.emod_lt_of_pos (2 * n + d) (show 0 < 2 * d by omega)
  have z := Int.emod_nonneg (2 * n + d) (show 2 * d ≠ 0 by omega)
  generalize (2 * n + d) / (2 * d) = q at *
  have k : 2 * d * q = 2 * (q * d) := by grind
  omega
theorem near_uniq (n d q : Int) (hd : 0 < d) (h1 : 2 * (q * d) ≤ 2 * n + d) (h2 : 2 * n + d < 2 * (q * d) + 2 * d) : near n d = q := by
  have hp : 0 < 2 * d := by omega
  unfold near
  apply Int.le_antisymm
  · refine Int.le_of_lt_add_one ((Int.ediv_lt_iff_lt_mul hp).2 ?_)
    have k : (q + 1) * (2 * d) = 2 * (q * d) + 2 * d := by grind
    omega
  · refine (Int.le_ediv_iff_mul_le hp).2 ?_
    have k : q * (2 * d) = 2 * (q * d) := by grind
    omega
theorem near_mono {m n d : Int} (hd : 0 < d) (h : m ≤ n) : near m d ≤ near n d := by
  unfold near; exact Int.ediv_le_ediv (by omega) (by omega)
theorem near_mul (n d k : Int) (hk : 0 < k) : near (n * k) (d * k) = near n d := by
  unfold near
  have e1 : 2 * (n * k) + d * k = (2 * n + d) * k := by grind
  have e2 : 2 * (d * k) = 2 * d * k := by grind
  rw [e1, e2, Int.mul_ediv_mul_of_pos_left _ _ hk]
theorem near_whole (q d : Int) (hd : 0 < d) : near (q * d) d = q := near_uniq _ _ _ hd (by omega) (by omega)
/-- a quotient and a rest, as the program has it -/
theorem near_parts (n d : Int) (hd : 0 < d) : near n d = n / d + if d - n % d ≤ n % d then 1 else 0 := by
  have e := Int.emod_add_mul_ediv n d
  have l := Int.emod_lt_of_pos n hd
  have z := Int.emod_nonneg n (show d ≠ 0 by omega)
  generalize n / d = q at *
  generalize n % d = r at *
  split
  · refine near_uniq _ _ _ hd ?_ ?_
    · have : (q + 1) * d = d * q + d := by grind
      omega
    · have : (q + 1) * d = d * q + d := by grind
      omega
  · refine near_uniq _ _ _ hd ?_ ?_
    · have : (q + 0) * d = d * q := by grind
      omega
    · have : (q + 0) * d = d * q := by grind
      omega

/-! FixedsNear -/
def Half (x d : Int) : Prop := 2 * x ≤ d ∧ -2 * x ≤ d
theorem mul_near (a b : Int) : mul a b = -2147483648 ∨ mul a b = 2147483647 ∨ Half (mul a b * 65536 - a * b) 65536 := by
  have h := near_spec (a * b) 65536 (by decide)
  unfold mul Half
  rcases sat_cases (near (a * b) 65536) with ⟨_, g⟩ | ⟨_, g⟩ | ⟨_, g⟩
  · exact Or.inl g
  · exact Or.inr (Or.inl g)
  · right; right; rw [g]; generalize near (a * b) 65536 = m at *; generalize a * b = p at *; omega
theorem add_exact (s : Int) : (s < -2147483648 ∨ 2147483647 < s) ↔ sat s ≠ s := by
  rcases sat_cases s with ⟨_, g⟩ | ⟨_, g⟩ | ⟨h, g⟩ <;> (try unfold fix at h) <;> omega
theorem ratio_near (a b : Int) (hb : b ≠ 0) : ratio a b = -2147483648 ∨ ratio a b = 2147483647 ∨ Half (ratio a b * b - a * 65536) (if b < 0 then -b else b) := by
  unfold ratio Half
  by_cases h : b < 0
  · rw [if_pos h, if_pos h]
    have k := near_spec (a * -65536) (-b) (by omega)
    rcases sat_cases (near (a * -65536) (-b)) with ⟨_, g⟩ | ⟨_, g⟩ | ⟨_, g⟩
    · exact Or.inl g
    · exact Or.inr (Or.inl g)
    · right; right; rw [g]; generalize near (a * -65536) (-b) = m at *
      have e : m * -b = -(m * b) := by grind
      rw [e] at k; generalize m * b = p at *; omega
  · rw [if_neg h, if_neg h]
    have k := near_spec (a * 65536) b (by omega)
    rcases sat_cases (near (a * 65536) b) with ⟨_, g⟩ | ⟨_, g⟩ | ⟨_, g⟩
    · exact Or.inl g
    · exact Or.inr (Or.inl g)
    · right; right; rw [g]; generalize near (a * 65536) b = m at *
      generalize m * b = p at *; omega
/-! FixedsSigns -/
theorem mul_comm (a b : Int) : mul a b = mul b a := by unfold mul; rw [Int.mul_comm]
theorem mul_one (a : Int) (ha : fix a) : mul a 65536 = a := by unfold mul; rw [near_whole a 65536 (by decide)]; exact sat_in ha
theorem mul_zero (a : Int) : mul a 0 = 0 := by unfold mul; rw [Int.mul_zero]; decide
theorem ratio_neg (a b : Int) (hb : b ≠ 0) : ratio (-a) (-b) = ratio a b := by
  unfold ratio
  by_cases h : b < 0
  · rw [if_neg (by omega), if_pos h]; congr 2; omega
  · rw [if_pos (by omega), if_neg h]; congr 2 <;> omega
theorem ratio_mul (a b k : Int) (hb : b ≠ 0) (hk : 0 < k) : ratio (k * a) (k * b) = ratio a b := by
  unfold ratio
  rcases Int.lt_trichotomy b 0 with h | h | h
  · rw [if_pos (Int.mul_neg_of_pos_of_neg hk h), if_pos h, show k * a * -65536 = a * -65536 * k by grind, show -(k * b) = -b * k by grind, near_mul _ _ _ hk]
  · exact absurd h hb
  · have := Int.mul_pos hk h
    rw [if_neg (by omega), if_neg (by omega), show k * a * 65536 = a * 65536 * k by grind, show k * b = b * k by grind, near_mul _ _ _ hk]
/-- the product of what is taken away of 0 -/
theorem mul_neg (a b : Int) (hp' : mul a b ≠ 2147483647) :
    (mul (-a) b = -mul a b ∧ a * b % 65536 ≠ 32768) ∨ (mul (-a) b = -mul a b + 1 ∧ a * b % 65536 = 32768) ∨ (mul (-a) b = 2147483647 ∧ mul a b < -2147483646) := by
  have e : -a * b = -(a * b) := by grind
  unfold mul at *
  rw [e]; unfold near
  generalize a * b = p at *
  have s1 := sat_cases ((2 * p + 65536) / (2 * 65536)); have s2 := sat_cases ((2 * -p + 65536) / (2 * 65536))
  unfold near at hp'
  unfold fix at s1 s2
  omega
/-! FixedsRises -/
theorem mul_rises (a b c : Int) (h : a ≤ b) (hc : 0 ≤ c) : mul a c ≤ mul b c :=
  sat_mono (near_mono (by decide) (Int.mul_le_mul_of_nonneg_right h hc))
theorem ratio_rises (a b c : Int) (h : a ≤ b) (hc : 0 < c) : ratio a c ≤ ratio b c := by
  unfold ratio; rw [if_neg (by omega), if_neg (by omega)]
  exact sat_mono (near_mono hc (by omega))
theorem down_mono {a b : Int} (h : a ≤ b) : down a ≤ down b := by unfold down; omega
theorem floor_rises {a b : Int} (h : a ≤ b) : floor a ≤ floor b := sat_mono (down_mono h)
theorem ceil_rises {a b : Int} (h : a ≤ b) : ceil a ≤ ceil b := sat_mono (down_mono (by omega))
theorem round_rises {a b : Int} (h : a ≤ b) : round a ≤ round b := sat_mono (down_mono (by omega))
theorem trunc_rises {a b : Int} (h : a ≤ b) : trunc a ≤ trunc b := by
  unfold trunc; split
  · split
    · exact ceil_rises h
    · refine Int.le_trans (b := 0) ?_ ?_
      · unfold ceil down; refine Int.le_trans (sat_mono (n := 0) (by omega)) (by decide)
      · unfold floor down; refine Int.le_trans (b := sat 0) (by decide) (sat_mono (by omega))
  · rw [if_neg (by omega)]; exact floor_rises h
/-! FixedsEnds -/
theorem line_lo (flo fhi tlo thi : Int) (h : flo ≠ fhi) (ht : fix tlo) : line flo flo fhi tlo thi = tlo := by
  unfold line; split
  · rw [show -(flo - flo) * (thi - tlo) + tlo * -(fhi - flo) = tlo * -(fhi - flo) by grind, near_whole _ _ (by omega), sat_in ht]
  · rw [show (flo - flo) * (thi - tlo) + tlo * (fhi - flo) = tlo * (fhi - flo) by grind, near_whole _ _ (by omega), sat_in ht]
theorem line_hi (flo fhi tlo thi : Int) (h : flo ≠ fhi) (ht : fix thi) : line fhi flo fhi tlo thi = thi := by
  unfold line; split
  · rw [show -(fhi - flo) * (thi - tlo) + tlo * -(fhi - flo) = thi * -(fhi - flo) by grind, near_whole _ _ (by omega), sat_in ht]
  · rw [show (fhi - flo) * (thi - tlo) + tlo * (fhi - flo) = thi * (fhi - flo) by grind, near_whole _ _ (by omega), sat_in ht]
theorem line_self (x flo fhi : Int) (h : flo ≠ fhi) (hx : fix x) : line x flo fhi flo fhi = x := by
  unfold line; split
  · rw [show -(x - flo) * (fhi - flo) + flo * -(fhi - flo) = x * -(fhi - flo) by grind, near_whole _ _ (by omega), sat_in hx]
  · rw [show (x - flo) * (fhi - flo) + flo * (fhi - flo) = x * (fhi - flo) by grind, near_whole _ _ (by omega), sat_in hx]
theorem line_rises (x y flo fhi tlo thi : Int) (h : flo ≠ fhi) (hxy : x ≤ y) :
    ((flo < fhi ↔ tlo ≤ thi) → line x flo fhi tlo thi ≤ line y flo fhi tlo thi) ∧ (¬ (flo < fhi ↔ tlo ≤ thi) → line y flo fhi tlo thi ≤ line x flo fhi tlo thi) := by
  have up : ∀ u v g c d : Int, 0 < d → u ≤ v → 0 ≤ g → sat (near (u * g + c) d) ≤ sat (near (v * g + c) d) := fun u v g c d hd hu hg =>
    sat_mono (near_mono hd (by have := Int.mul_le_mul_of_nonneg_right hu hg; omega))
  have dn : ∀ u v g c d : Int, 0 < d → u ≤ v → g ≤ 0 → sat (near (v * g + c) d) ≤ sat (near (u * g + c) d) := fun u v g c d hd hu hg =>
    sat_mono (near_mono hd (by have := Int.mul_le_mul_of_nonpos_right hu hg; omega))
  unfold line
  by_cases hd : fhi - flo < 0
  · rw [if_pos hd, if_pos hd]
    constructor
    · intro k; exact dn _ _ _ _ _ (by omega) (by omega) (by omega)
    · intro k; exact up _ _ _ _ _ (by omega) (by omega) (by omega)
  · rw [if_neg hd, if_neg hd]
    constructor
    · intro k; exact up _ _ _ _ _ (by omega) (by omega) (by omega)
    · intro k; exact dn _ _ _ _ _ (by omega) (by omega) (by omega)
theorem floor_at {a : Int} (h1 : -2147418112 ≤ a) (h2 : a ≤ 2147418111) : floor a = a / 65536 * 65536 := by unfold floor; rw [sat_in]; rfl; unfold fix down; omega
theorem ceil_at {a : Int} (h1 : -2147418112 ≤ a) (h2 : a ≤ 2147418111) : ceil a = (a + 65535) / 65536 * 65536 := by unfold ceil; rw [sat_in]; rfl; unfold fix down; omega
theorem round_at {a : Int} (h1 : -2147418112 ≤ a) (h2 : a ≤ 2147418111) : round a = (a + 32768) / 65536 * 65536 := by unfold round; rw [sat_in]; rfl; unfold fix down; omega
theorem trunc_at {a : Int} (h1 : -2147418112 ≤ a) (h2 : a ≤ 2147418111) : (a < 0 ∧ trunc a = (a + 65535) / 65536 * 65536) ∨ (0 ≤ a ∧ trunc a = a / 65536 * 65536) := by
  unfold trunc; split
  · exact Or.inl ⟨by assumption, ceil_at h1 h2⟩
  · exact Or.inr ⟨by omega, floor_at h1 h2⟩
end Fx
