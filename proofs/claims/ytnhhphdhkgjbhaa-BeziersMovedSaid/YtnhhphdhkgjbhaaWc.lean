/- What is proved: what wides.times returns: a number of two words by one of one word. -/
import Derived.Test.YtnhhphdhkgjbhaaWb
set_option linter.unusedSimpArgs false
set_option linter.unusedVariables false
namespace Go.Proofs.Ytnhhphdhkgjbhaa
open Go.RowKit Wi

set_option maxHeartbeats 800000 in
theorem words_times (x0 x1 n : Int) (h0 : Word x0) (h1 : Word x1) (hn : Word n) (w : World) :
    Calls Try.prog 60 #[.agg #[.int .u64 (x0), .int .u64 (x1), .int .u64 (0)], .int .u64 n] w fun e w' => e = .returned (.agg #[.int .u64 (d0 ((x0 + x1 * 18446744073709551616) * n)), .int .u64 (d1 ((x0 + x1 * 18446744073709551616) * n)), .int .u64 (d2 ((x0 + x1 * 18446744073709551616) * n))]) ∧ Below w.heap.size w w' := by
  obtain ⟨g0, g1, g2, ⟨k1, k2⟩, ⟨k3, k4⟩, k5, k6⟩ := times_words x0 x1 n h0 h1 hn
  have kx : 0 ≤ x0 * n % 18446744073709551616 ∧ x0 * n % 18446744073709551616 < 18446744073709551616 := by omega
  have ky : 0 ≤ x1 * n % 18446744073709551616 ∧ x1 * n % 18446744073709551616 < 18446744073709551616 := by omega
  generalize hr0 : d0 ((x0 + x1 * 18446744073709551616) * n) = r0 at *
  generalize hr1 : d1 ((x0 + x1 * 18446744073709551616) * n) = r1 at *
  generalize hr2 : d2 ((x0 + x1 * 18446744073709551616) * n) = r2 at *
  clear hr0 hr1 hr2
  generalize hc : x0 * n / 18446744073709551616 = c at *
  generalize hp : x0 * n % 18446744073709551616 = p at *
  generalize ha : x1 * n / 18446744073709551616 = a at *
  generalize hq : x1 * n % 18446744073709551616 = q at *
  obtain ⟨pb, pb'⟩ := kx
  obtain ⟨qb, qb'⟩ := ky
  subst g0
  have i0 : p % 18446744073709551616 = p := by omega
  have i3 : p / 18446744073709551616 = 0 := by omega
  have i1 : IntKind.u64.wrap (c + p / 18446744073709551616) = c := by rw [IntKind.wrap_u64]; omega
  have i2 : IntKind.u64.wrap (a + (q + c) / 18446744073709551616) = r2 := by rw [IntKind.wrap_u64]; omega
  have i4 : IntKind.u64.wrap c = c := by rw [IntKind.wrap_u64]; omega
  have i5 : r2 % 18446744073709551616 = r2 := by omega
  have i6 : r2 / 18446744073709551616 = 0 := by omega
  clear g2
  go_enter Try.func60, Try.ntmps60
  go_wp2
  go_loopw [9, 5] (fun i c' wr => (i = .int .i64 0 ∧ c' = .int .u64 0 ∧ wr = (w.alloc (.cells #[.int .u64 (x0), .int .u64 (x1), .int .u64 (0)] 89)).alloc (.cells #[.int .u64 (0), .int .u64 (0), .int .u64 (0)] 89))
      ∨ (i = .int .i64 1 ∧ c' = .int .u64 c ∧ wr = (w.alloc (.cells #[.int .u64 (x0), .int .u64 (x1), .int .u64 (0)] 89)).alloc (.cells #[.int .u64 (p), .int .u64 (0), .int .u64 (0)] 89))
      ∨ (i = .int .i64 2 ∧ c' = .int .u64 r2 ∧ wr = (w.alloc (.cells #[.int .u64 (x0), .int .u64 (x1), .int .u64 (0)] 89)).alloc (.cells #[.int .u64 (p), .int .u64 (r1), .int .u64 (0)] 89))
      ∨ (i = .int .i64 3 ∧ wr = (w.alloc (.cells #[.int .u64 (x0), .int .u64 (x1), .int .u64 (0)] 89)).alloc (.cells #[.int .u64 (p), .int .u64 (r1), .int .u64 (r2)] 89)))
    (fun i _ _ => 3 - (intOf i).toNat)
  case atStart => exact Or.inl ⟨rfl, rfl, rfl⟩
  case round =>
    rcases hrel with ⟨rfl, rfl, rfl⟩ | ⟨rfl, rfl, rfl⟩ | ⟨rfl, rfl, rfl⟩ | ⟨rfl, rfl⟩
    · go_wp2_with (first | (go_at_call 68; refine (mul64_any _ _ h0 hn _).mono ?_; rintro e w' ⟨rfl, rfl⟩; rw [hc, hp]) | simp only [add64_0 p 0 pb (Int.le_refl 0)])
      go_roundw
      case rel => exact Or.inr (Or.inl ⟨rfl, rfl, by trivial⟩)
      case measure => simp [intOf]
    · go_wp2_with (first | (go_at_call 68; refine (mul64_any _ _ h1 hn _).mono ?_; rintro e w' ⟨rfl, rfl⟩; rw [ha, hq]) | simp only [add64_0 q c qb k1])
      go_roundw
      case rel => exact Or.inr (Or.inr (Or.inl ⟨rfl, rfl, by trivial⟩))
      case measure => simp [intOf]
    · go_wp2_with (first | (go_at_call 68; refine (mul64_any 0 _ ⟨by omega, by omega⟩ hn _).mono ?_; rintro e w' ⟨rfl, rfl⟩; simp only [Int.zero_mul]) | simp only [add64_0 0 r2 (Int.le_refl 0) k5])
      go_roundw
      case rel => exact Or.inr (Or.inr (Or.inr ⟨rfl, by trivial⟩))
      case measure => simp [intOf]
    · go_wp2
      exact bodyPost_ret (v := .agg #[.int .u64 (p), .int .u64 (r1), .int .u64 (r2)]) (by simp [results, Try.results60, go_sem, *]) rfl ⟨rfl, by repeat (with_reducible first | exact bel_refl _ | refine bel_set _ (by omega) ?_ | apply bel_alloc | apply bel_drew)⟩

end Go.Proofs.Ytnhhphdhkgjbhaa
