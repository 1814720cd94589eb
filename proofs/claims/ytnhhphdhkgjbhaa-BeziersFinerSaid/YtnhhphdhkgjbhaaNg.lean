/- What is proved: the numbers of two words, and the nearest quotient, with bounds: for the contracts of this seat. No condition. -/
import Derived.Test.YtnhhphdhkgjbhaaSxK
import Derived.Test.YtnhhphdhkgjbhaaWn
import Derived.Test.YtnhhphdhkgjbhaaFx
set_option linter.unusedSimpArgs false
set_option linter.unusedVariables false
namespace Go.Proofs.Ytnhhphdhkgjbhaa
open Go Go.RowKit Sx Wi

def wG : Nat → List Int → Int
  | 0, [x] => hi x
  | 1, [x] => lo x
  | 2, [n, d] => Fx.near n d
  | _, _ => 0
def hiI (p : Int × Int) : Int × Int := (p.1 / 18446744073709551616, p.2 / 18446744073709551616)
def loI (p : Int × Int) : Int × Int := if p.1 / 18446744073709551616 = p.2 / 18446744073709551616 then (p.1 % 18446744073709551616, p.2 % 18446744073709551616) else (0, 18446744073709551615)
def nearI (p q : Int × Int) : Option (Int × Int) :=
  if 0 < q.1 then (if q.1 = q.2 then some (Fx.near p.1 q.1, Fx.near p.2 q.1) else some (imin p.1 0, imax p.2 0)) else none
def wGI : Nat → List Itv → Itv
  | 0, [some p] => some (hiI p)
  | 1, [some p] => some (loI p)
  | 2, [some p, some q] => nearI p q
  | _, _ => none
theorem hiI_ok {p : Int × Int} {x : Int} (h : p.1 ≤ x ∧ x ≤ p.2) : (hiI p).1 ≤ hi x ∧ hi x ≤ (hiI p).2 := by
  unfold hiI hi; dsimp only; omega
theorem loI_ok {p : Int × Int} {x : Int} (h : p.1 ≤ x ∧ x ≤ p.2) : (loI p).1 ≤ lo x ∧ lo x ≤ (loI p).2 := by
  unfold loI lo; split <;> dsimp only <;> omega
theorem near_le (n d : Int) (hd : 0 < d) : (0 ≤ n → 0 ≤ Fx.near n d ∧ Fx.near n d ≤ n) ∧ (n ≤ 0 → n ≤ Fx.near n d ∧ Fx.near n d ≤ 0) := by
  have z : Fx.near 0 d = 0 := Fx.near_uniq _ _ _ hd (by omega) (by omega)
  have k : ∀ m : Int, 0 ≤ m → Fx.near m d ≤ m := by
    intro m hm
    obtain ⟨h1, h2⟩ := Fx.near_spec m d hd
    rcases Int.lt_or_le m (Fx.near m d) with g | g
    · exfalso
      have := Int.mul_le_mul_of_nonneg_right (show m + 1 ≤ Fx.near m d by omega) (show 0 ≤ d by omega)
      have e : (m + 1) * d = m * d + d := by grind
      have := Int.mul_le_mul_of_nonneg_left (show 1 ≤ d by omega) hm
      omega
    · exact g
  refine ⟨fun h => ⟨?_, k n h⟩, fun h => ⟨?_, ?_⟩⟩
  · rw [← z]; exact Fx.near_mono hd h
  · obtain ⟨h1, h2⟩ := Fx.near_spec n d hd
    rcases Int.lt_or_le (Fx.near n d) n with g | g
    · exfalso
      have := Int.mul_le_mul_of_nonneg_right (show Fx.near n d ≤ n - 1 by omega) (show 0 ≤ d by omega)
      have e : (n - 1) * d = n * d - d := by grind
      have := Int.mul_le_mul_of_nonpos_left h (show 1 ≤ d by omega)
      omega
    · exact g
  · rw [← z]; exact Fx.near_mono hd h
theorem nearI_ok {p q : Int × Int} {n d : Int} (h : p.1 ≤ n ∧ n ≤ p.2) (g : q.1 ≤ d ∧ d ≤ q.2) : Itv.has (nearI p q) (Fx.near n d) := by
  unfold nearI
  split
  · rename_i h0
    split
    · rename_i e
      have : d = q.1 := by omega
      subst this
      exact ⟨Fx.near_mono h0 h.1, Fx.near_mono h0 h.2⟩
    · obtain ⟨k1, k2⟩ := near_le n d (by omega)
      simp only [Itv.has, imin, imax]
      rcases Int.le_total 0 n with hn | hn
      · have := k1 hn; split <;> split <;> omega
      · have := k2 hn; split <;> split <;> omega
  · trivial
theorem wgi_ok : ∀ g is xs, itvsHave is xs → (wGI g is).has (wG g xs) := by
  intro g is xs h
  unfold wGI
  split
  · match xs, h with
    | [x], h => exact hiI_ok h.1
    | [], h => simp [itvsHave] at h
    | _ :: _ :: _, h => simp [itvsHave] at h
  · match xs, h with
    | [x], h => exact loI_ok h.1
    | [], h => simp [itvsHave] at h
    | _ :: _ :: _, h => simp [itvsHave] at h
  · match xs, h with
    | [x, y], h => exact nearI_ok h.1 h.2.1
    | [], h => simp [itvsHave] at h
    | [_], h => simp [itvsHave] at h
    | _ :: _ :: _ :: _, h => simp [itvsHave] at h
  · trivial
/-! bits of masks -/
theorem and_low (x : Int) : bitDen .and .i64 x 65535 = x % 65536 := by
  have e : (BitVec.ofInt 64 x &&& BitVec.ofInt 64 65535).toNat = (BitVec.ofInt 64 x).toNat % 65536 := by
    rw [BitVec.toNat_and]
    exact Nat.and_two_pow_sub_one_eq_mod _ 16
  have e2 := BitVec.toNat_ofInt (n := 64) (i := x)
  show IntKind.i64.wrap ((BitVec.ofInt 64 x &&& BitVec.ofInt 64 65535).toNat : Int) = _
  rw [e, e2, IntKind.wrap_i64]
  omega
theorem andNot_low (x : Int) (h : IntKind.i64.min ≤ x ∧ x ≤ IntKind.i64.max) : bitDen .andNot .i64 x 65535 = x / 65536 * 65536 := by
  have e1 : BitVec.ofInt 64 x &&& ~~~ BitVec.ofInt 64 65535 = (BitVec.ofInt 64 x >>> 16) <<< 16 := by
    generalize BitVec.ofInt 64 x = b
    have e0 : BitVec.ofInt 64 65535 = 65535#64 := by decide
    rw [e0]
    apply BitVec.eq_of_getLsbD_eq
    intro i hi
    rw [BitVec.getLsbD_and, BitVec.getLsbD_not, BitVec.getLsbD_shiftLeft, BitVec.getLsbD_ushiftRight]
    by_cases h16 : i < 16
    · have : (65535#64).getLsbD i = true := by
        have : ∀ j : Fin 16, (65535#64).getLsbD j.1 = true := by decide
        exact this ⟨i, h16⟩
      simp [this, h16]
    · have : (65535#64).getLsbD i = false := by
        have : ∀ j : Fin 64, ¬ j.1 < 16 → (65535#64).getLsbD j.1 = false := by decide
        exact this ⟨i, hi⟩ h16
      rw [this, show 16 + (i - 16) = i by omega]
      simp [h16, hi]
  have e2 := BitVec.toNat_ofInt (n := 64) (i := x)
  show IntKind.i64.wrap ((BitVec.ofInt 64 x &&& ~~~ BitVec.ofInt 64 65535).toNat : Int) = _
  rw [e1, BitVec.toNat_shiftLeft, BitVec.toNat_ushiftRight, e2, IntKind.wrap_i64, Nat.shiftLeft_eq, Nat.shiftRight_eq_div_pow]
  have a : -9223372036854775808 ≤ x := h.1
  have b : x ≤ 9223372036854775807 := h.2
  obtain ⟨m, hm⟩ : ∃ m : Nat, m = (x % ((2 ^ 64 : Nat) : Int)).toNat := ⟨_, rfl⟩
  rw [← hm]
  have hm' : (m : Int) = x % 18446744073709551616 := by rw [hm]; exact Int.toNat_of_nonneg (Int.emod_nonneg _ (by decide))
  simp only [Nat.reducePow]
  omega
end Go.Proofs.Ytnhhphdhkgjbhaa
