/- What is proved: a painted board's numbers are nearest to the corners' numbers, in plain Lean. No condition but those that are stated. -/
import Derived.Test.YtoiecphddchknaaQPq
set_option linter.unusedSimpArgs false
set_option linter.unusedVariables false
namespace Go.Proofs.Ytoiecphddchknaa
open Go Go.RowKit Sx Wi
theorem claim_area {a b c d e f x y : Int} (h : xG63 [a, b, c, d, e, f, x, y] ≠ 0) : xG64 0 [a, b, c, d, e, f, x, y] + xG64 1 [a, b, c, d, e, f, x, y] + xG64 2 [a, b, c, d, e, f, x, y] = (c - a) * (f - b) - (d - b) * (e - a) := by
  replace h : Ed.claim ⟨a, b⟩ ⟨c, d⟩ ⟨e, f⟩ ⟨x, y⟩ ≠ 0 := h
  show wt ⟨a, b⟩ ⟨c, d⟩ ⟨e, f⟩ ⟨x, y⟩ 0 + wt ⟨a, b⟩ ⟨c, d⟩ ⟨e, f⟩ ⟨x, y⟩ 1 + wt ⟨a, b⟩ ⟨c, d⟩ ⟨e, f⟩ ⟨x, y⟩ 2 = Ed.cross ⟨a, b⟩ ⟨c, d⟩ ⟨e, f⟩
  have hk : okAt ⟨a, b⟩ ⟨c, d⟩ ⟨e, f⟩ ⟨x, y⟩ := by
    unfold Ed.claim at h
    split at h
    · exact absurd rfl h
    rename_i h0
    refine ⟨?_, ?_⟩
    · by_cases q : Ed.ok ⟨a, b⟩ ∧ Ed.ok ⟨c, d⟩ ∧ Ed.ok ⟨e, f⟩
      · exact q
      · exact absurd (Or.inl (by unfold Ed.area; rw [if_neg q]; rfl)) h0
    · by_cases q : Ed.ok ⟨x, y⟩
      · exact q
      · exact absurd (Or.inr q) h0
  have w0 : wt ⟨a, b⟩ ⟨c, d⟩ ⟨e, f⟩ ⟨x, y⟩ 0 = Ed.cross ⟨c, d⟩ ⟨e, f⟩ ⟨x, y⟩ := by unfold wt; rw [if_pos hk]; rfl
  have w1 : wt ⟨a, b⟩ ⟨c, d⟩ ⟨e, f⟩ ⟨x, y⟩ 1 = Ed.cross ⟨e, f⟩ ⟨a, b⟩ ⟨x, y⟩ := by unfold wt; rw [if_pos hk]; rfl
  have w2 : wt ⟨a, b⟩ ⟨c, d⟩ ⟨e, f⟩ ⟨x, y⟩ 2 = Ed.cross ⟨a, b⟩ ⟨c, d⟩ ⟨x, y⟩ := by unfold wt; rw [if_pos hk]; rfl
  rw [w0, w1, w2]
  exact Ed.cross_sum _ _ _ _
theorem wrap32 {n : Int} (h1 : -2147483648 ≤ n) (h2 : n ≤ 2147483647) : IntKind.i32.wrap n = n := by
  simp only [IntKind.wrap, IntKind.bits, IntKind.signed, Bool.true_and, decide_eq_true_eq, show (2 : Int) ^ 32 = 4294967296 from rfl, show (2 : Int) ^ (32 - 1) = 2147483648 from rfl]
  omega
theorem rd88 (C i j : Int) : G 88 [C, i, j] = (((Lc.dec C).getD i.toNat []).getD j.toNat 0) := gl_ok 88 _ (by decide) (by decide)
theorem rd82 (C i j : Int) : G 82 [C, i, j] = IntKind.i32.wrap (((Lc.dec C).getD i.toNat []).getD j.toNat 0) := gl_ok 82 _ (by decide) (by decide)
theorem last_fine (x0 x1 x2 x3 x4 x5 x6 x7 x8 x9 : Int) : Fine [x0, x1, x2, x3, x4, x5, x6, x7, x8, x9, 0] (Lc.dec (G 73 [x0, x1, x2, x3, x4, x5, x6, x7, x8, x9, 0, max (max 0 (Int.fdiv (min (min x1 x3) x5 - 128 + 256 - 1) 256)) (min 12 (Int.fdiv (max (max x1 x3) x5 - 128) 256 + 1))])) := by
  have e : G 73 [x0, x1, x2, x3, x4, x5, x6, x7, x8, x9, 0, max (max 0 (Int.fdiv (min (min x1 x3) x5 - 128 + 256 - 1) 256)) (min 12 (Int.fdiv (max (max x1 x3) x5 - 128) 256 + 1))] = boardC [x0, x1, x2, x3, x4, x5, x6, x7, x8, x9, 0] (max (tops [x0, x1, x2, x3, x4, x5, x6, x7, x8, x9, 0]) (ends [x0, x1, x2, x3, x4, x5, x6, x7, x8, x9, 0]) - tops [x0, x1, x2, x3, x4, x5, x6, x7, x8, x9, 0]).toNat := rfl
  rw [e]
  exact fine_board _ _ (by omega)
theorem pix_read (x0 x1 x2 x3 x4 x5 x6 x7 x8 x9 i : Int) (hi : 0 ≤ i ∧ i < 144) (h : ¬ G 88 [G 73 [x0, x1, x2, x3, x4, x5, x6, x7, x8, x9, 0, max (max 0 (Int.fdiv (min (min x1 x3) x5 - 128 + 256 - 1) 256)) (min 12 (Int.fdiv (max (max x1 x3) x5 - 128) 256 + 1))], (Int.tdiv i 12 * 12 + Int.tmod i 12), 0] = 0) :
    ¬ G 63 [x0, x1, x2, x3, x4, x5, Int.tmod i 12 * 256 + 128, Int.tdiv i 12 * 256 + 128] = 0 ∧ G 82 [G 73 [x0, x1, x2, x3, x4, x5, x6, x7, x8, x9, 0, max (max 0 (Int.fdiv (min (min x1 x3) x5 - 128 + 256 - 1) 256)) (min 12 (Int.fdiv (max (max x1 x3) x5 - 128) 256 + 1))], (Int.tdiv i 12 * 12 + Int.tmod i 12), 4] = xG70 [x6, x7, x8, x9, G 64 [x0, x1, x2, x3, x4, x5, Int.tmod i 12 * 256 + 128, Int.tdiv i 12 * 256 + 128], G 65 [x0, x1, x2, x3, x4, x5, Int.tmod i 12 * 256 + 128, Int.tdiv i 12 * 256 + 128], G 66 [x0, x1, x2, x3, x4, x5, Int.tmod i 12 * 256 + 128, Int.tdiv i 12 * 256 + 128]] := by
  have hq : Int.tdiv i 12 = ((i.toNat / 12 : Nat) : Int) := by rw [Int.tdiv_eq_ediv_of_nonneg hi.1]; omega
  have hr : Int.tmod i 12 = ((i.toNat % 12 : Nat) : Int) := by rw [Int.tmod_eq_emod_of_nonneg hi.1]; omega
  have hk : ((Int.tdiv i 12 * 12 + Int.tmod i 12)).toNat = i.toNat := by rw [hq, hr]; omega
  obtain ⟨_, hf⟩ := last_fine x0 x1 x2 x3 x4 x5 x6 x7 x8 x9
  have hf := hf i.toNat (by omega)
  rw [rd88, hk] at h
  rw [rd82, hk]
  rcases hf with hf | ⟨hc, hf⟩
  · rw [hf] at h; exact absurd rfl h
  · rw [hf, ← hq, ← hr]
    rw [← hq, ← hr] at hc
    refine ⟨hc, ?_⟩
    exact wrap32 (n := xG70 [x6, x7, x8, x9, G 64 [x0, x1, x2, x3, x4, x5, Int.tmod i 12 * 256 + 128, Int.tdiv i 12 * 256 + 128], G 65 [x0, x1, x2, x3, x4, x5, Int.tmod i 12 * 256 + 128, Int.tdiv i 12 * 256 + 128], G 66 [x0, x1, x2, x3, x4, x5, Int.tmod i 12 * 256 + 128, Int.tdiv i 12 * 256 + 128]]) (xG70_bd _).1 (xG70_bd _).2
theorem exact_all (x0 x1 x2 x3 x4 x5 x6 x7 x8 x9 i : Int) (b9 : 1 ≤ x9 ∧ x9 ≤ 65535) (hi : 0 ≤ i ∧ i < 144) (h : ¬ G 88 [G 73 [x0, x1, x2, x3, x4, x5, x6, x7, x8, x9, 0, max (max 0 (Int.fdiv (min (min x1 x3) x5 - 128 + 256 - 1) 256)) (min 12 (Int.fdiv (max (max x1 x3) x5 - 128) 256 + 1))], (Int.tdiv i 12 * 12 + Int.tmod i 12), 0] = 0) (L AD t : Int) (hL : L = (((0 + x6 * G 64 [x0, x1, x2, x3, x4, x5, Int.tmod i 12 * 256 + 128, Int.tdiv i 12 * 256 + 128] + x7 * G 65 [x0, x1, x2, x3, x4, x5, Int.tmod i 12 * 256 + 128, Int.tdiv i 12 * 256 + 128] + x8 * G 66 [x0, x1, x2, x3, x4, x5, Int.tmod i 12 * 256 + 128, Int.tdiv i 12 * 256 + 128]) - ((x2 - x0) * (x5 - x1) - (x3 - x1) * (x4 - x0)) * x9 * G 82 [G 73 [x0, x1, x2, x3, x4, x5, x6, x7, x8, x9, 0, max (max 0 (Int.fdiv (min (min x1 x3) x5 - 128 + 256 - 1) 256)) (min 12 (Int.fdiv (max (max x1 x3) x5 - 128) 256 + 1))], (Int.tdiv i 12 * 12 + Int.tmod i 12), 4]) * 2)) (hA : AD = ((x2 - x0) * (x5 - x1) - (x3 - x1) * (x4 - x0)) * x9) (ht : t = G 82 [G 73 [x0, x1, x2, x3, x4, x5, x6, x7, x8, x9, 0, max (max 0 (Int.fdiv (min (min x1 x3) x5 - 128 + 256 - 1) 256)) (min 12 (Int.fdiv (max (max x1 x3) x5 - 128) 256 + 1))], (Int.tdiv i 12 * 12 + Int.tmod i 12), 4]) :
    (¬ ((x2 - x0) * (x5 - x1) - (x3 - x1) * (x4 - x0)) < 0 → (0 - AD ≤ L ∨ t = -2147483648) ∧ (L < AD ∨ t = 2147483647)) ∧ (((x2 - x0) * (x5 - x1) - (x3 - x1) * (x4 - x0)) < 0 → (0 - (0 - AD) ≤ 0 - L ∨ t = -2147483648) ∧ (0 - L < 0 - AD ∨ t = 2147483647)) := by
  obtain ⟨hc, hv⟩ := pix_read x0 x1 x2 x3 x4 x5 x6 x7 x8 x9 i hi h
  have har := claim_area hc
  have hw := claim_w hc
  have hA2 : -3602879701896396800 ≤ ((x2 - x0) * (x5 - x1) - (x3 - x1) * (x4 - x0)) ∧ ((x2 - x0) * (x5 - x1) - (x3 - x1) * (x4 - x0)) ≤ 3602879701896396800 := by rw [← har]; exact hw.1
  have hne : ((x2 - x0) * (x5 - x1) - (x3 - x1) * (x4 - x0)) ≠ 0 := by
    rw [← har]
    rcases hw.2 with ⟨_, _, _, q⟩ | ⟨_, _, _, q⟩
    · intro z; rw [z] at q; exact absurd q (by decide)
    · intro z; rw [z] at q; exact absurd q (by decide)
  have hx : xG70 [x6, x7, x8, x9, G 64 [x0, x1, x2, x3, x4, x5, Int.tmod i 12 * 256 + 128, Int.tdiv i 12 * 256 + 128], G 65 [x0, x1, x2, x3, x4, x5, Int.tmod i 12 * 256 + 128, Int.tdiv i 12 * 256 + 128], G 66 [x0, x1, x2, x3, x4, x5, Int.tmod i 12 * 256 + 128, Int.tdiv i 12 * 256 + 128]] = if ((x2 - x0) * (x5 - x1) - (x3 - x1) * (x4 - x0)) < 0 then togP (0 - (0 + x6 * G 64 [x0, x1, x2, x3, x4, x5, Int.tmod i 12 * 256 + 128, Int.tdiv i 12 * 256 + 128] + x7 * G 65 [x0, x1, x2, x3, x4, x5, Int.tmod i 12 * 256 + 128, Int.tdiv i 12 * 256 + 128] + x8 * G 66 [x0, x1, x2, x3, x4, x5, Int.tmod i 12 * 256 + 128, Int.tdiv i 12 * 256 + 128])) (0 - ((x2 - x0) * (x5 - x1) - (x3 - x1) * (x4 - x0))) x9 else togP (0 + x6 * G 64 [x0, x1, x2, x3, x4, x5, Int.tmod i 12 * 256 + 128, Int.tdiv i 12 * 256 + 128] + x7 * G 65 [x0, x1, x2, x3, x4, x5, Int.tmod i 12 * 256 + 128, Int.tdiv i 12 * 256 + 128] + x8 * G 66 [x0, x1, x2, x3, x4, x5, Int.tmod i 12 * 256 + 128, Int.tdiv i 12 * 256 + 128]) ((x2 - x0) * (x5 - x1) - (x3 - x1) * (x4 - x0)) x9 := by
    rw [← har]; rfl
  rw [hx] at hv
  rw [← ht] at hv hL
  clear hx har hw hc h ht
  generalize ((x2 - x0) * (x5 - x1) - (x3 - x1) * (x4 - x0)) = A at *
  generalize (0 + x6 * G 64 [x0, x1, x2, x3, x4, x5, Int.tmod i 12 * 256 + 128, Int.tdiv i 12 * 256 + 128] + x7 * G 65 [x0, x1, x2, x3, x4, x5, Int.tmod i 12 * 256 + 128, Int.tdiv i 12 * 256 + 128] + x8 * G 66 [x0, x1, x2, x3, x4, x5, Int.tmod i 12 * 256 + 128, Int.tdiv i 12 * 256 + 128]) = S at *
  refine ⟨fun hp => ?_, fun hn => ?_⟩
  · rw [if_neg hp] at hv
    have k := tog_near (s := S) (a := A) (d := x9) (by omega) b9.1 hv
    rw [← hA] at k
    rw [hL, ← hA]
    exact ⟨by omega, k.2⟩
  · rw [if_pos hn] at hv
    have k := tog_near (s := 0 - S) (a := 0 - A) (d := x9) (by omega) b9.1 hv
    have e1 : (0 - A) * x9 = 0 - AD := by rw [Int.sub_mul, Int.zero_mul, hA]
    have e2 : (0 - AD) * t = 0 - AD * t := by rw [Int.sub_mul, Int.zero_mul]
    rw [e1, e2] at k
    rw [hL, ← hA]
    generalize AD * t = u at *
    exact ⟨by omega, by omega⟩
theorem shut_low {L AD t : Int} (q : (0 - AD ≤ L ∨ t = -2147483648) ∧ (L < AD ∨ t = 2147483647)) (h : L < 0 - AD) : t = -2147483648 := by
  rcases q.1 with k | k
  · exact absurd h (Int.not_lt.2 k)
  · exact k
theorem shut_high {L AD t : Int} (q : (0 - AD ≤ L ∨ t = -2147483648) ∧ (L < AD ∨ t = 2147483647)) (h : ¬ L < AD) : t = 2147483647 := by
  rcases q.2 with k | k
  · exact absurd k h
  · exact k
end Go.Proofs.Ytoiecphddchknaa
