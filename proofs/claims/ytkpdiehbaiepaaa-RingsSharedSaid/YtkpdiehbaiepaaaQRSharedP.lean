/- What is proved: the law Shared, in plain Lean. No condition but the numbers' own bounds. -/
import Derived.Test.YtkpdiehbaiepaaaQRq
set_option linter.unusedSimpArgs false
set_option linter.unusedVariables false
namespace Go.Proofs.Ytkpdiehbaiepaaa
open Go Go.RowKit Sx Wi
theorem two_rows_ringsShared {xs ys : List Int} (hx : xs.length = 32) (hy : ys.length = 32) {e i i' a a' j : Int} (s s' : Nat) (hs : s < 4) (hs' : s' < 4) (ha : 0 ≤ a ∧ a < p2 e) (ha' : 0 ≤ a' ∧ a' < p2 e) (hi : i = s * p2 e + a) (hi' : i' = s' * p2 e + a') (hr : lrow xs e s a = lrow ys e s' a') :
    G 83 [G 40 (xs ++ [e, 4]), i, j] = G 83 [G 40 (ys ++ [e, 4]), i', j] := by
  rw [lat_eq hx s hs ha.1 ha.2 hi, lat_eq hy s' hs' ha'.1 ha'.2 hi', hr]
theorem ringsShared_eq (x0 x1 x2 x3 x4 x5 x6 x7 x8 x9 x10 x11 x12 x13 x14 x15 x16 x17 x18 x19 x20 x21 x22 x23 x24 x25 x26 x27 x28 x29 x30 x31 x40 x41 x42 x43 x44 x45 x46 x47 x48 x49 x50 x51 x52 x53 x54 x55 x56 x57 x58 x59 x60 x61 x62 x63 e i j : Int) (he : 1 ≤ e ∧ e ≤ 6) (hf : far x0 ∧ far x1 ∧ far x2 ∧ far x3 ∧ far x4 ∧ far x5 ∧ far x6 ∧ far x7 ∧ far x8 ∧ far x9 ∧ far x10 ∧ far x11 ∧ far x12 ∧ far x13 ∧ far x14 ∧ far x15 ∧ far x16 ∧ far x17 ∧ far x18 ∧ far x19 ∧ far x20 ∧ far x21 ∧ far x22 ∧ far x23 ∧ far x24 ∧ far x25 ∧ far x26 ∧ far x27 ∧ far x28 ∧ far x29 ∧ far x30 ∧ far x31 ∧ far x40 ∧ far x41 ∧ far x42 ∧ far x43 ∧ far x44 ∧ far x45 ∧ far x46 ∧ far x47 ∧ far x48 ∧ far x49 ∧ far x50 ∧ far x51 ∧ far x52 ∧ far x53 ∧ far x54 ∧ far x55 ∧ far x56 ∧ far x57 ∧ far x58 ∧ far x59 ∧ far x60 ∧ far x61 ∧ far x62 ∧ far x63) (h0 : 0 ≤ i) (h : i ≤ p2 e) :
    G 83 [G 40 [x0, x1, x2, x3, x4, x5, x6, x7, x8, x9, x10, x11, x12, x13, x14, x15, x16, x17, x18, x19, x20, x21, x22, x23, x24, x25, x26, x27, x28, x29, x30, x31, e, 4], (p2 e + i), j] = G 83 [G 40 [x24, x25, x26, x27, x28, x29, x30, x31, x40, x41, x42, x43, x44, x45, x46, x47, x48, x49, x50, x51, x52, x53, x54, x55, x56, x57, x58, x59, x60, x61, x62, x63, e, 4], Int.tmod (4 * p2 e - i) (4 * p2 e), j] := by
  obtain ⟨f_x0, f_x1, f_x2, f_x3, f_x4, f_x5, f_x6, f_x7, f_x8, f_x9, f_x10, f_x11, f_x12, f_x13, f_x14, f_x15, f_x16, f_x17, f_x18, f_x19, f_x20, f_x21, f_x22, f_x23, f_x24, f_x25, f_x26, f_x27, f_x28, f_x29, f_x30, f_x31, f_x40, f_x41, f_x42, f_x43, f_x44, f_x45, f_x46, f_x47, f_x48, f_x49, f_x50, f_x51, f_x52, f_x53, f_x54, f_x55, f_x56, f_x57, f_x58, f_x59, f_x60, f_x61, f_x62, f_x63⟩ := hf
  have hp := p2_le (e := e) (by omega) (by omega)
  show G 83 [G 40 ([x0, x1, x2, x3, x4, x5, x6, x7, x8, x9, x10, x11, x12, x13, x14, x15, x16, x17, x18, x19, x20, x21, x22, x23, x24, x25, x26, x27, x28, x29, x30, x31] ++ [e, 4]), (p2 e + i), j] = G 83 [G 40 ([x24, x25, x26, x27, x28, x29, x30, x31, x40, x41, x42, x43, x44, x45, x46, x47, x48, x49, x50, x51, x52, x53, x54, x55, x56, x57, x58, x59, x60, x61, x62, x63] ++ [e, 4]), _, j]
  have hc : i = 0 * p2 e ∨ 0 * p2 e < i ∧ i < 1 * p2 e ∨ i = 1 * p2 e := by omega
  rcases hc with hc | hc | hc
  · rw [show i = 0 by omega, tmod_turn0]
    exact two_rows_ringsShared (a := 0) (a' := 0) rfl rfl 1 0 (by decide) (by decide) (by omega) (by omega) (by omega) (by omega) (by
      show [eX x24 x26 x28 x30 0 e, eX x25 x27 x29 x31 0 e] = [eX x24 x40 x48 x56 0 e, eX x25 x41 x49 x57 0 e]
      rw [eX_at0 (by omega) (by omega) f_x24 f_x26 f_x28 f_x30, eX_at0 (by omega) (by omega) f_x25 f_x27 f_x29 f_x31, eX_at0 (by omega) (by omega) f_x24 f_x40 f_x48 f_x56, eX_at0 (by omega) (by omega) f_x25 f_x41 f_x49 f_x57])
  · rw [tmod_turn (by omega) (by omega)]
    exact two_rows_ringsShared (a := i) (a' := (p2 e - i)) rfl rfl 1 3 (by decide) (by decide) (by omega) (by omega) (by omega) (by omega) (by
      show [eX x24 x26 x28 x30 i e, eX x25 x27 x29 x31 i e] = [eX x30 x28 x26 x24 (p2 e - i) e, eX x31 x29 x27 x25 (p2 e - i) e]
      rw [eX_back (a := x30) (b := x28) (c := x26) (d := x24) (i := (p2 e - i)) (i' := i) (by omega), eX_back (a := x31) (b := x29) (c := x27) (d := x25) (i := (p2 e - i)) (i' := i) (by omega)])
  · rw [tmod_turn (by omega) (by omega)]
    exact two_rows_ringsShared (a := 0) (a' := 0) rfl rfl 2 3 (by decide) (by decide) (by omega) (by omega) (by omega) (by omega) (by
      show [eX x30 x22 x14 x6 0 e, eX x31 x23 x15 x7 0 e] = [eX x30 x28 x26 x24 0 e, eX x31 x29 x27 x25 0 e]
      rw [eX_at0 (by omega) (by omega) f_x30 f_x22 f_x14 f_x6, eX_at0 (by omega) (by omega) f_x31 f_x23 f_x15 f_x7, eX_at0 (by omega) (by omega) f_x30 f_x28 f_x26 f_x24, eX_at0 (by omega) (by omega) f_x31 f_x29 f_x27 f_x25])
theorem ringsShared_rem (e i : Int) (he : 1 ≤ e ∧ e ≤ 6) : 0 ≤ Int.tmod (4 * p2 e - i) (4 * p2 e) ∧ Int.tmod (4 * p2 e - i) (4 * p2 e) < 4 * p2 e ∨ 4 * p2 e < i := by
  have hp := p2_le (e := e) (by omega) (by omega)
  by_cases h : 4 * p2 e < i
  · exact .inr h
  · exact .inl ⟨Int.tmod_nonneg _ (by omega), Int.tmod_lt_of_pos _ (by omega)⟩
end Go.Proofs.Ytkpdiehbaiepaaa
