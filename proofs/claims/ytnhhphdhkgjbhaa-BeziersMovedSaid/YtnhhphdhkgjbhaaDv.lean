set_option linter.unusedSimpArgs false
set_option linter.unusedVariables false
namespace Dv
/-! Knuth's division of a number of two words by one of one word, half a word at a time. -/

/-- the quotient that the loop ends with is the true one: the test said no -/
theorem exit_test (yn1 yn0 un32 un1 q r : Int) (hy1 : 2147483648 ≤ yn1) (hy0 : 0 ≤ yn0) (hy0' : yn0 < 4294967296)
    (hq : q * yn1 + r = un32) (hge : (un32 * 4294967296 + un1) / (yn1 * 4294967296 + yn0) ≤ q) (hle : q * yn0 ≤ 4294967296 * r + un1) :
    q = (un32 * 4294967296 + un1) / (yn1 * 4294967296 + yn0) := by
  have hpos : 0 < yn1 * 4294967296 + yn0 := by omega
  have h1 : q * (yn1 * 4294967296 + yn0) = q * yn1 * 4294967296 + q * yn0 := by grind
  have h2 : q ≤ (un32 * 4294967296 + un1) / (yn1 * 4294967296 + yn0) := by
    refine (Int.le_ediv_iff_mul_le hpos).2 ?_
    rw [h1]; generalize q * yn1 = a at *; generalize q * yn0 = b at *; omega
  exact Int.le_antisymm h2 hge
/-- likewise: the loop was left since the rest has grown beyond half a word -/
theorem exit_break (yn1 yn0 un32 un1 q r : Int) (hy1 : 2147483648 ≤ yn1) (hy0 : 0 ≤ yn0) (hy0' : yn0 < 4294967296) (h10 : 0 ≤ un1)
    (hlt : un32 < yn1 * 4294967296 + yn0) (hq : q * yn1 + r = un32) (hge : (un32 * 4294967296 + un1) / (yn1 * 4294967296 + yn0) ≤ q) (hq0 : 0 ≤ q) (hr : 4294967296 ≤ r) :
    q = (un32 * 4294967296 + un1) / (yn1 * 4294967296 + yn0) := by
  refine exit_test yn1 yn0 un32 un1 q r hy1 hy0 hy0' hq hge ?_
  have hql : q < 4294967296 := by
    rcases Int.lt_or_le q 4294967296 with h | h
    · exact h
    · have := Int.mul_le_mul_of_nonneg_right h (show 0 ≤ yn1 by omega)
      generalize q * yn1 = a at *; omega
  have := Int.mul_le_mul (show q ≤ 4294967295 by omega) (show yn0 ≤ 4294967295 by omega) hy0 (by omega)
  generalize q * yn0 = b at *; omega
/-- the first guess is not too small -/
theorem guess_ge (yn1 yn0 un32 un1 : Int) (hy1 : 2147483648 ≤ yn1) (hy0 : 0 ≤ yn0) (h32 : 0 ≤ un32) (h1 : 0 ≤ un1) (h1' : un1 < 4294967296) :
    (un32 * 4294967296 + un1) / (yn1 * 4294967296 + yn0) ≤ un32 / yn1 := by
  have hpos : 0 < yn1 * 4294967296 + yn0 := by omega
  have hp1 : 0 < yn1 := by omega
  refine Int.le_of_lt_add_one ((Int.ediv_lt_iff_lt_mul hpos).2 ?_)
  have e := Int.emod_add_mul_ediv un32 yn1
  have l := Int.emod_lt_of_pos un32 hp1
  have g : 0 ≤ un32 / yn1 := Int.ediv_nonneg h32 (by omega)
  generalize un32 / yn1 = q at *
  have k : (q + 1) * (yn1 * 4294967296 + yn0) = (yn1 * q) * 4294967296 + yn1 * 4294967296 + (q + 1) * yn0 := by grind
  have z : 0 ≤ (q + 1) * yn0 := Int.mul_nonneg (by omega) hy0
  rw [k]; generalize (q + 1) * yn0 = c at *; generalize yn1 * q = d at *; omega
/-- a round: the guess was at least 2^32 -/
theorem round_big (yn1 yn0 un32 un1 q : Int) (hy1 : 2147483648 ≤ yn1) (hy0 : 0 ≤ yn0) (h1' : un1 < 4294967296)
    (hlt : un32 < yn1 * 4294967296 + yn0) (hq : 4294967296 ≤ q) : (un32 * 4294967296 + un1) / (yn1 * 4294967296 + yn0) ≤ q - 1 := by
  have hpos : 0 < yn1 * 4294967296 + yn0 := by omega
  have : (un32 * 4294967296 + un1) / (yn1 * 4294967296 + yn0) < 4294967296 := by
    refine (Int.ediv_lt_iff_lt_mul hpos).2 ?_
    omega
  omega
/-- a round: the guess was too great -/
theorem round_more (yn1 yn0 un32 un1 q r : Int) (hy1 : 2147483648 ≤ yn1) (hy0 : 0 ≤ yn0)
    (hq : q * yn1 + r = un32) (hgt : 4294967296 * r + un1 < q * yn0) : (un32 * 4294967296 + un1) / (yn1 * 4294967296 + yn0) ≤ q - 1 := by
  have hpos : 0 < yn1 * 4294967296 + yn0 := by omega
  have : (un32 * 4294967296 + un1) / (yn1 * 4294967296 + yn0) < q := by
    refine (Int.ediv_lt_iff_lt_mul hpos).2 ?_
    have h1 : q * (yn1 * 4294967296 + yn0) = q * yn1 * 4294967296 + q * yn0 := by grind
    rw [h1]; generalize q * yn1 = a at *; generalize q * yn0 = b at *; omega
  omega
/-- two steps by half a word are one by a word -/
theorem two_steps (y u w1 w0 : Int) (hy : 0 < y) :
    (u * 18446744073709551616 + w1 * 4294967296 + w0) / y = (u * 4294967296 + w1) / y * 4294967296 + ((u * 4294967296 + w1) % y * 4294967296 + w0) / y ∧
    (u * 18446744073709551616 + w1 * 4294967296 + w0) % y = ((u * 4294967296 + w1) % y * 4294967296 + w0) % y := by
  have e := Int.emod_add_mul_ediv (u * 4294967296 + w1) y
  generalize (u * 4294967296 + w1) % y = r at *
  generalize (u * 4294967296 + w1) / y = q at *
  have k : u * 18446744073709551616 + w1 * 4294967296 + w0 = (r * 4294967296 + w0) + y * (q * 4294967296) := by
    have : (r + y * q) * 4294967296 = r * 4294967296 + y * (q * 4294967296) := by grind
    omega
  rw [k]
  constructor
  · rw [Int.add_mul_ediv_left _ _ (by omega)]; omega
  · rw [Int.add_mul_emod_self_left]
/-- a step of half a word: the divisor's halves, the upper part, the next half -/
structure Kn (Y1 Y0 U V1 : Int) : Prop where
  a1 : 2147483648 ≤ Y1
  a2 : Y1 < 4294967296
  b1 : 0 ≤ Y0
  b2 : Y0 < 4294967296
  c1 : 0 ≤ U
  c2 : U < Y1 * 4294967296 + Y0
  d1 : 0 ≤ V1
  d2 : V1 < 4294967296
def T (Y1 Y0 U V1 : Int) : Int := (U * 4294967296 + V1) / (Y1 * 4294967296 + Y0)
structure Inv (Y1 Y0 U V1 q r : Int) : Prop where
  e : q * Y1 + r = U
  ge : T Y1 Y0 U V1 ≤ q
  r0 : 0 ≤ r
  r1 : r < 4294967296
  q1 : q ≤ 4294967297
theorem T_bd {Y1 Y0 U V1 : Int} (k : Kn Y1 Y0 U V1) : 0 ≤ T Y1 Y0 U V1 ∧ T Y1 Y0 U V1 < 4294967296 := by
  obtain ⟨a1, a2, b1, b2, c1, c2, d1, d2⟩ := k
  unfold T
  refine ⟨Int.ediv_nonneg (by omega) (by omega), (Int.ediv_lt_iff_lt_mul (by omega)).2 (by omega)⟩
theorem Inv.start {Y1 Y0 U V1 : Int} (k : Kn Y1 Y0 U V1) : Inv Y1 Y0 U V1 (U / Y1) (U % Y1) := by
  have h := guess_ge Y1 Y0 U V1 k.a1 k.b1 k.c1 k.d1 k.d2
  obtain ⟨a1, a2, b1, b2, c1, c2, d1, d2⟩ := k
  refine ⟨?_, h, Int.emod_nonneg _ (by omega), ?_, ?_⟩
  · have := Int.emod_add_mul_ediv U Y1; have e : U / Y1 * Y1 = Y1 * (U / Y1) := Int.mul_comm _ _
    omega
  · have := Int.emod_lt_of_pos U (show 0 < Y1 by omega); omega
  · have : U / Y1 < 4294967298 := (Int.ediv_lt_iff_lt_mul (by omega)).2 (by omega)
    omega
theorem Inv.pos {Y1 Y0 U V1 q r : Int} (k : Kn Y1 Y0 U V1) (h : Inv Y1 Y0 U V1 q r) : 0 ≤ q := Int.le_trans (T_bd k).1 h.ge
/-- nothing runs over -/
theorem Inv.bd {Y1 Y0 U V1 q r : Int} (k : Kn Y1 Y0 U V1) (h : Inv Y1 Y0 U V1 q r) : 0 ≤ q * Y0 ∧ q * Y0 < 18446744073709551616 ∧ 0 ≤ 4294967296 * r ∧ 4294967296 * r < 18446744073709551616 ∧ 0 ≤ 4294967296 * r + V1 ∧ 4294967296 * r + V1 < 18446744073709551616 ∧ 0 ≤ q ∧ q < 18446744073709551616 ∧ 0 ≤ r + Y1 ∧ r + Y1 < 18446744073709551616 := by
  have hq := h.pos k
  have b := Int.mul_le_mul (show q ≤ 4294967297 from h.q1) (show Y0 ≤ 4294967295 by have := k.b2; omega) k.b1 (by omega)
  have b0 := Int.mul_nonneg hq k.b1
  obtain ⟨a1, a2, b1, b2, c1, c2, d1, d2⟩ := k
  obtain ⟨e1, e2, e3, e4, e5⟩ := h
  omega
theorem Inv.done {Y1 Y0 U V1 q r : Int} (k : Kn Y1 Y0 U V1) (h : Inv Y1 Y0 U V1 q r) (g : q * Y0 ≤ 4294967296 * r + V1) : q = T Y1 Y0 U V1 :=
  exit_test Y1 Y0 U V1 q r k.a1 k.b1 k.b2 h.e h.ge g
/-- a round is due -/
def Due (Y0 V1 q r : Int) : Prop := 4294967296 ≤ q ∨ 4294967296 * r + V1 < q * Y0
theorem Inv.less {Y1 Y0 U V1 q r : Int} (k : Kn Y1 Y0 U V1) (h : Inv Y1 Y0 U V1 q r) (g : Due Y0 V1 q r) : T Y1 Y0 U V1 ≤ q - 1 := by
  rcases g with g | g
  · exact round_big Y1 Y0 U V1 q k.a1 k.b1 k.d2 k.c2 g
  · exact round_more Y1 Y0 U V1 q r k.a1 k.b1 h.e g
theorem Inv.e' {Y1 q r U : Int} (h : q * Y1 + r = U) : (q - 1) * Y1 + (r + Y1) = U := by
  have : (q - 1) * Y1 = q * Y1 - Y1 := by rw [Int.sub_mul, Int.one_mul]
  omega
theorem Inv.more {Y1 Y0 U V1 q r : Int} (k : Kn Y1 Y0 U V1) (h : Inv Y1 Y0 U V1 q r) (g : Due Y0 V1 q r) (l : r + Y1 < 4294967296) : Inv Y1 Y0 U V1 (q - 1) (r + Y1) ∧ 1 ≤ q := by
  have t := h.less k g
  have t0 := (T_bd k).1
  exact ⟨⟨Inv.e' h.e, t, by have := h.r0; have := k.a1; omega, l, by have := h.q1; omega⟩, by omega⟩
theorem Inv.broke {Y1 Y0 U V1 q r : Int} (k : Kn Y1 Y0 U V1) (h : Inv Y1 Y0 U V1 q r) (g : Due Y0 V1 q r) (l : 4294967296 ≤ r + Y1) : q - 1 = T Y1 Y0 U V1 ∧ 1 ≤ q := by
  have t := h.less k g
  have t0 := (T_bd k).1
  exact ⟨exit_break Y1 Y0 U V1 (q - 1) (r + Y1) k.a1 k.b1 k.b2 k.d1 k.c2 (Inv.e' h.e) t (by omega) l, by omega⟩
/-- both numbers shifted to the left until the divisor's upper bit is 1 -/
theorem norm (h lo y : Int) (s : Nat) (hs : s ≤ 64) (y1 : 9223372036854775808 ≤ y * 2 ^ s) (y2 : y * 2 ^ s < 18446744073709551616) (h0 : 0 ≤ h) (hy : h < y) (l0 : 0 ≤ lo) (l1 : lo < 18446744073709551616) :
    (h * 2 ^ s + lo / 2 ^ (64 - s)) * 18446744073709551616 + lo * 2 ^ s % 18446744073709551616 = (h * 18446744073709551616 + lo) * 2 ^ s ∧
    0 ≤ h * 2 ^ s ∧ h * 2 ^ s < 18446744073709551616 ∧ 0 ≤ lo / 2 ^ (64 - s) ∧ lo / 2 ^ (64 - s) < 2 ^ s ∧
    h * 2 ^ s + lo / 2 ^ (64 - s) < y * 2 ^ s ∧ (0 : Int) < 2 ^ s := by
  have p : (0 : Int) < 2 ^ s := Int.pow_pos (by decide)
  have p' : (0 : Int) < 2 ^ (64 - s) := Int.pow_pos (by decide)
  have pp : (2 : Int) ^ (64 - s) * 2 ^ s = 18446744073709551616 := by
    rw [← Int.pow_add, Nat.sub_add_cancel hs]; decide
  have e : lo * 2 ^ s / 18446744073709551616 = lo / 2 ^ (64 - s) := by
    rw [← pp]; exact Int.mul_ediv_mul_of_pos_left _ _ p
  have d0 : 0 ≤ lo / 2 ^ (64 - s) := Int.ediv_nonneg l0 (by omega)
  have d1 : lo / 2 ^ (64 - s) < 2 ^ s := (Int.ediv_lt_iff_lt_mul p').2 (by rw [Int.mul_comm, pp]; exact l1)
  have e2 := Int.emod_add_mul_ediv (lo * 2 ^ s) 18446744073709551616
  rw [e] at e2
  have k1 : 0 ≤ h * 2 ^ s := Int.mul_nonneg h0 (by omega)
  have k2 : (h + 1) * 2 ^ s ≤ y * 2 ^ s := Int.mul_le_mul_of_nonneg_right (by omega) (by omega)
  have k3 : (h + 1) * 2 ^ s = h * 2 ^ s + 2 ^ s := by rw [Int.add_mul, Int.one_mul]
  have k4 : (h * 18446744073709551616 + lo) * 2 ^ s = h * 2 ^ s * 18446744073709551616 + lo * 2 ^ s := by grind
  rw [k4]
  generalize (2 : Int) ^ s = z at *
  generalize lo * z = a at *
  generalize h * z = b at *
  generalize y * z = c at *
  generalize lo / 2 ^ (64 - s) = d at *
  omega
/-- the quotient and the rest, of the shifted numbers -/
theorem back (n y z : Int) (hz : 0 < z) : n * z / (y * z) = n / y ∧ n * z % (y * z) / z = n % y := by
  refine ⟨Int.mul_ediv_mul_of_pos_left _ _ hz, ?_⟩
  have e : n * z % (y * z) = n % y * z := by
    rw [Int.emod_def (n * z), Int.mul_ediv_mul_of_pos_left _ _ hz, Int.emod_def n y]; grind
  rw [e]
  exact Int.mul_ediv_cancel _ (by omega)
theorem kn_of (Y U V1 : Int) (y1 : 9223372036854775808 ≤ Y) (y2 : Y < 18446744073709551616) (u0 : 0 ≤ U) (u1 : U < Y) (v0 : 0 ≤ V1) (v1 : V1 < 4294967296) : Kn (Y / 4294967296) (Y % 4294967296) U V1 := by
  constructor <;> omega
theorem T_eq (Y U V1 : Int) : T (Y / 4294967296) (Y % 4294967296) U V1 = (U * 4294967296 + V1) / Y := by
  unfold T; congr 1; omega
theorem rest_bd (Y U V1 : Int) (hY : 0 < Y) : 0 ≤ (U * 4294967296 + V1) % Y ∧ (U * 4294967296 + V1) % Y < Y := ⟨Int.emod_nonneg _ (by omega), Int.emod_lt_of_pos _ hY⟩
theorem rest_eq (Y U V1 : Int) : U * 4294967296 + V1 - (U * 4294967296 + V1) / Y * Y = (U * 4294967296 + V1) % Y := by
  have := Int.emod_add_mul_ediv (U * 4294967296 + V1) Y
  have e : (U * 4294967296 + V1) / Y * Y = Y * ((U * 4294967296 + V1) / Y) := Int.mul_comm _ _
  omega
end Dv
