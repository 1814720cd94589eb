/- What is proved: what wides.Of, size, turned, part, whole return. -/
import Derived.Test.YtnhhphdhkgjbhaaBi
import Derived.Test.YtnhhphdhkgjbhaaWi
set_option linter.unusedSimpArgs false
set_option linter.unusedVariables false
namespace Go.Proofs.Ytnhhphdhkgjbhaa
open Go.RowKit Wi

theorem of_any (n : Int) (h : I64 n) (w : World) : Calls Try.prog 49 #[.int .i64 n] w fun e w' => e = .returned (.agg #[.int .i64 (hi n), .int .u64 (lo n)]) ∧ Below w.heap.size w w' := by
  have e1 := hi_small n h
  have e2 : IntKind.u64.wrap n = lo n := IntKind.wrap_u64 n
  obtain ⟨h1, h2⟩ := h
  go_enter Try.func49, Try.ntmps49
  go_wp2
  exact bodyPost_ret (v := .agg #[.int .i64 (hi n), .int .u64 (lo n)]) (by simp [results, Try.results49, go_sem, *]) rfl ⟨rfl, bel_alloc _ (bel_refl _)⟩
theorem size_any (n : Int) (h : I64 n) (w : World) : Calls Try.prog 61 #[.int .i64 n] w fun e w' => e = .returned (.int .u64 (mag n)) ∧ w = w' := by
  obtain ⟨h1, h2⟩ := h
  by_cases hn : n < 0
  · have e1 : mag n = -n := if_pos hn
    have e2 : IntKind.u64.wrap (-IntKind.u64.wrap n) = mag n := by rw [e1, IntKind.wrap_u64, IntKind.wrap_u64]; omega
    clear e1
    go_enter Try.func61, Try.ntmps61
    go_wp2
    go_ret
    exact ⟨rfl, rfl⟩
  · have e1 : mag n = n := if_neg hn
    rw [e1]
    go_enter Try.func61, Try.ntmps61
    go_wp2
    go_ret
    exact ⟨rfl, rfl⟩

theorem not_u64 (x : Int) (h : Word x) : bits .xor .u64 (if IntKind.u64.signed = true then -1 else IntKind.u64.max) x = 18446744073709551615 - x := by
  obtain ⟨h1, h2⟩ := h
  obtain ⟨n, rfl⟩ := Int.eq_ofNat_of_zero_le h1
  have e : (if IntKind.u64.signed = true then -1 else IntKind.u64.max) = ((18446744073709551615 : Nat) : Int) := rfl
  rw [e, bits_xor_u64_nat _ _ (by omega) (by omega)]
  have g := BitVec.toNat_not (x := BitVec.ofNat 64 n)
  rw [BitVec.not_def, BitVec.toNat_xor, BitVec.toNat_allOnes, BitVec.toNat_ofNat, Nat.mod_eq_of_lt (by omega)] at g
  have g' : (18446744073709551615 ^^^ n : Nat) = 18446744073709551615 - n := g
  rw [g']; omega
theorem turned_any (x0 x1 x2 : Int) (h0 : Word x0) (h1 : Word x1) (w : World) :
    Calls Try.prog 67 #[.agg #[.int .u64 x0, .int .u64 x1, .int .u64 x2]] w fun e w' => e = .returned (.agg #[.int .u64 (d0 (neg128 (x0 + x1 * 18446744073709551616))), .int .u64 (d1 (neg128 (x0 + x1 * 18446744073709551616))), .int .u64 0]) ∧ Below w.heap.size w w' := by
  have n0 := not_u64 x0 h0
  have n1 := not_u64 x1 h1
  obtain ⟨a1, a2⟩ := h0
  obtain ⟨b1, b2⟩ := h1
  have c0 : 0 ≤ (18446744073709551615 - x0 + 1) / 18446744073709551616 := by omega
  have c1 : (18446744073709551615 - x0 + 1) / 18446744073709551616 ≤ 1 := by omega
  have g0 : (18446744073709551615 - x0 + 1) % 18446744073709551616 = d0 (neg128 (x0 + x1 * 18446744073709551616)) := by unfold d0 neg128; omega
  have g1 : (18446744073709551615 - x1 + (18446744073709551615 - x0 + 1) / 18446744073709551616) % 18446744073709551616 = d1 (neg128 (x0 + x1 * 18446744073709551616)) := by unfold d1 neg128; omega
  go_enter Try.func67, Try.ntmps67
  go_wp2
  go_loopw [5, 3] (fun i c wr => (i = .int .i64 0 ∧ c = .int .u64 1 ∧ wr = (w.alloc (.cells #[.int .u64 x0, .int .u64 x1, .int .u64 x2] 89)).alloc (.cells #[.int .u64 0, .int .u64 0, .int .u64 0] 89))
      ∨ (i = .int .i64 1 ∧ c = .int .u64 ((18446744073709551615 - x0 + 1) / 18446744073709551616) ∧ wr = (w.alloc (.cells #[.int .u64 x0, .int .u64 x1, .int .u64 x2] 89)).alloc (.cells #[.int .u64 (d0 (neg128 (x0 + x1 * 18446744073709551616))), .int .u64 0, .int .u64 0] 89))
      ∨ (i = .int .i64 2 ∧ wr = (w.alloc (.cells #[.int .u64 x0, .int .u64 x1, .int .u64 x2] 89)).alloc (.cells #[.int .u64 (d0 (neg128 (x0 + x1 * 18446744073709551616))), .int .u64 (d1 (neg128 (x0 + x1 * 18446744073709551616))), .int .u64 0] 89)))
    (fun i _ _ => 2 - (intOf i).toNat)
  case atStart => exact Or.inl ⟨rfl, rfl, rfl⟩
  case round =>
    rcases hrel with ⟨rfl, rfl, rfl⟩ | ⟨rfl, rfl, rfl⟩ | ⟨rfl, rfl⟩
    · go_wp2_with (first | simp only [n0] | simp only [add64_z (18446744073709551615 - x0) 1 (by omega) (by omega) (by omega)])
      go_roundw
      case rel => exact Or.inr (Or.inl ⟨rfl, rfl, by trivial⟩)
      case measure => simp [intOf]
    · go_wp2_with (first | simp only [n1] | simp only [add64_z (18446744073709551615 - x1) _ (by omega) c0 c1])
      go_roundw
      case rel => exact Or.inr (Or.inr ⟨rfl, by trivial⟩)
      case measure => simp [intOf]
    · go_wp2
      exact bodyPost_ret (v := .agg #[.int .u64 (d0 (neg128 (x0 + x1 * 18446744073709551616))), .int .u64 (d1 (neg128 (x0 + x1 * 18446744073709551616))), .int .u64 0]) (by simp [results, Try.results67, go_sem]) rfl ⟨rfl, bel_alloc _ (bel_alloc _ (bel_refl _))⟩
end Go.Proofs.Ytnhhphdhkgjbhaa
