/- What is proved: what wides.Add, Sub and Int return: sums and differences that are numbers of 128 bits. -/
import Derived.Test.YtnhhphdhkgjbhaaWd
set_option linter.unusedSimpArgs false
set_option linter.unusedVariables false
namespace Go.Proofs.Ytnhhphdhkgjbhaa
open Go.RowKit Wi

set_option maxHeartbeats 800000 in
theorem add_any (a b : Int) (ha : Big a) (hb : Big b) (hr : Big (a + b)) (w : World) : Calls Try.prog 37 #[.agg #[.int .i64 (hi (a)), .int .u64 (lo (a))], .agg #[.int .i64 (hi (b)), .int .u64 (lo (b))]] w fun e w' => e = .returned (.tuple #[.agg #[.int .i64 (hi (a + b)), .int .u64 (lo (a + b))], .int .i64 0]) ∧ Below w.heap.size w w' := by
  obtain ⟨l1, l2⟩ := lo_word a
  obtain ⟨l3, l4⟩ := lo_word b
  have q1 := hi_neg a
  have q2 := hi_neg b
  have q3 := hi_neg (a + b)
  have i0 : IntKind.i64.wrap ((lo a + lo b) / 18446744073709551616) = (lo a + lo b) / 18446744073709551616 := IntWalk.i64_in _ (by omega)
  have i1 : wrap64 (wrap64 (hi a + hi b) + (lo a + lo b) / 18446744073709551616) = hi (a + b) := by unfold wrap64; unfold Big at hr; unfold hi lo; omega
  have i2 : (lo a + lo b) % 18446744073709551616 = lo (a + b) := by unfold lo; omega
  clear hr ha hb
  rcases Int.lt_or_le a 0 with ga | ga <;> rcases Int.lt_or_le b 0 with gb | gb
  · have t1 : hi a < 0 := q1.2 ga
    have t2 : hi b < 0 := q2.2 gb
    have t3 : hi (a + b) < 0 := q3.2 (by omega)
    clear q1 q2 q3 ga gb
    go_enter Try.func37, Try.ntmps37
    go_wp2_with (simp only [add64_0 (lo a) (lo b) l1 l3])
    exact bodyPost_ret (v := .tuple #[.agg #[.int .i64 (hi (a + b)), .int .u64 (lo (a + b))], .int .i64 0]) (by simp [results, Try.results37, go_sem, *]) rfl ⟨rfl, by repeat (with_reducible first | exact bel_refl _ | refine bel_set _ (by omega) ?_ | apply bel_alloc | apply bel_drew)⟩
  · have t1 : hi a < 0 := q1.2 ga
    have t2 : ¬ hi b < 0 := fun h => by have := q2.1 h; omega
    clear q1 q2 q3 ga gb
    go_enter Try.func37, Try.ntmps37
    go_wp2_with (simp only [add64_0 (lo a) (lo b) l1 l3])
    exact bodyPost_ret (v := .tuple #[.agg #[.int .i64 (hi (a + b)), .int .u64 (lo (a + b))], .int .i64 0]) (by simp [results, Try.results37, go_sem, *]) rfl ⟨rfl, by repeat (with_reducible first | exact bel_refl _ | refine bel_set _ (by omega) ?_ | apply bel_alloc | apply bel_drew)⟩
  · have t1 : ¬ hi a < 0 := fun h => by have := q1.1 h; omega
    have t2 : hi b < 0 := q2.2 gb
    clear q1 q2 q3 ga gb
    go_enter Try.func37, Try.ntmps37
    go_wp2_with (simp only [add64_0 (lo a) (lo b) l1 l3])
    exact bodyPost_ret (v := .tuple #[.agg #[.int .i64 (hi (a + b)), .int .u64 (lo (a + b))], .int .i64 0]) (by simp [results, Try.results37, go_sem, *]) rfl ⟨rfl, by repeat (with_reducible first | exact bel_refl _ | refine bel_set _ (by omega) ?_ | apply bel_alloc | apply bel_drew)⟩
  · have t1 : ¬ hi a < 0 := fun h => by have := q1.1 h; omega
    have t2 : ¬ hi b < 0 := fun h => by have := q2.1 h; omega
    have t3 : ¬ hi (a + b) < 0 := fun h => by have := q3.1 h; omega
    clear q1 q2 q3 ga gb
    go_enter Try.func37, Try.ntmps37
    go_wp2_with (simp only [add64_0 (lo a) (lo b) l1 l3])
    exact bodyPost_ret (v := .tuple #[.agg #[.int .i64 (hi (a + b)), .int .u64 (lo (a + b))], .int .i64 0]) (by simp [results, Try.results37, go_sem, *]) rfl ⟨rfl, by repeat (with_reducible first | exact bel_refl _ | refine bel_set _ (by omega) ?_ | apply bel_alloc | apply bel_drew)⟩
set_option maxHeartbeats 800000 in
theorem sub_any (a b : Int) (ha : Big a) (hb : Big b) (hr : Big (a - b)) (w : World) : Calls Try.prog 64 #[.agg #[.int .i64 (hi (a)), .int .u64 (lo (a))], .agg #[.int .i64 (hi (b)), .int .u64 (lo (b))]] w fun e w' => e = .returned (.tuple #[.agg #[.int .i64 (hi (a - b)), .int .u64 (lo (a - b))], .int .i64 0]) ∧ Below w.heap.size w w' := by
  obtain ⟨l1, l2⟩ := lo_word a
  obtain ⟨l3, l4⟩ := lo_word b
  have q1 := hi_neg a
  have q2 := hi_neg b
  have q3 := hi_neg (a - b)
  have b0 : 0 ≤ bor (lo a) (lo b) ∧ bor (lo a) (lo b) ≤ 1 := by unfold bor; split <;> omega
  have i0 : IntKind.i64.wrap (bor (lo a) (lo b)) = bor (lo a) (lo b) := IntWalk.i64_in _ (by omega)
  have i1 : wrap64 (wrap64 (hi a - hi b) - bor (lo a) (lo b)) = hi (a - b) := by unfold wrap64 bor; unfold Big at hr; unfold hi lo; split <;> omega
  have i2 : (lo a - lo b) % 18446744073709551616 = lo (a - b) := by unfold lo; omega
  clear b0
  clear hr ha hb
  rcases Int.lt_or_le a 0 with ga | ga <;> rcases Int.lt_or_le b 0 with gb | gb
  · have t1 : hi a < 0 := q1.2 ga
    have t2 : hi b < 0 := q2.2 gb
    clear q1 q2 q3 ga gb
    go_enter Try.func64, Try.ntmps64
    go_wp2_with (simp only [sub64_0 (lo a) (lo b) l1 l3 l4])
    exact bodyPost_ret (v := .tuple #[.agg #[.int .i64 (hi (a - b)), .int .u64 (lo (a - b))], .int .i64 0]) (by simp [results, Try.results64, go_sem, *]) rfl ⟨rfl, by repeat (with_reducible first | exact bel_refl _ | refine bel_set _ (by omega) ?_ | apply bel_alloc | apply bel_drew)⟩
  · have t1 : hi a < 0 := q1.2 ga
    have t2 : ¬ hi b < 0 := fun h => by have := q2.1 h; omega
    have t3 : hi (a - b) < 0 := q3.2 (by omega)
    clear q1 q2 q3 ga gb
    go_enter Try.func64, Try.ntmps64
    go_wp2_with (simp only [sub64_0 (lo a) (lo b) l1 l3 l4])
    exact bodyPost_ret (v := .tuple #[.agg #[.int .i64 (hi (a - b)), .int .u64 (lo (a - b))], .int .i64 0]) (by simp [results, Try.results64, go_sem, *]) rfl ⟨rfl, by repeat (with_reducible first | exact bel_refl _ | refine bel_set _ (by omega) ?_ | apply bel_alloc | apply bel_drew)⟩
  · have t1 : ¬ hi a < 0 := fun h => by have := q1.1 h; omega
    have t2 : hi b < 0 := q2.2 gb
    have t3 : ¬ hi (a - b) < 0 := fun h => by have := q3.1 h; omega
    clear q1 q2 q3 ga gb
    go_enter Try.func64, Try.ntmps64
    go_wp2_with (simp only [sub64_0 (lo a) (lo b) l1 l3 l4])
    exact bodyPost_ret (v := .tuple #[.agg #[.int .i64 (hi (a - b)), .int .u64 (lo (a - b))], .int .i64 0]) (by simp [results, Try.results64, go_sem, *]) rfl ⟨rfl, by repeat (with_reducible first | exact bel_refl _ | refine bel_set _ (by omega) ?_ | apply bel_alloc | apply bel_drew)⟩
  · have t1 : ¬ hi a < 0 := fun h => by have := q1.1 h; omega
    have t2 : ¬ hi b < 0 := fun h => by have := q2.1 h; omega
    clear q1 q2 q3 ga gb
    go_enter Try.func64, Try.ntmps64
    go_wp2_with (simp only [sub64_0 (lo a) (lo b) l1 l3 l4])
    exact bodyPost_ret (v := .tuple #[.agg #[.int .i64 (hi (a - b)), .int .u64 (lo (a - b))], .int .i64 0]) (by simp [results, Try.results64, go_sem, *]) rfl ⟨rfl, by repeat (with_reducible first | exact bel_refl _ | refine bel_set _ (by omega) ?_ | apply bel_alloc | apply bel_drew)⟩

theorem int_any (n : Int) (h : I64 n) (w : World) : Calls Try.prog 40 #[.agg #[.int .i64 (hi (n)), .int .u64 (lo (n))]] w fun e w' => e = .returned (.tuple #[.int .i64 n, .bool true]) ∧ Below w.heap.size w w' := by
  have i1 : IntKind.i64.wrap (lo n) = n := by rw [IntKind.wrap_i64]; unfold I64 at h; unfold lo; omega
  go_enter Try.func40, Try.ntmps40
  go_wp2
  obtain ⟨w0, hw0⟩ : ∃ x : World, x = (w.alloc (.cells #[.int .i64 (hi (n)), .int .u64 (lo (n))] 61)) := ⟨_, rfl⟩
  have k0 : w0.cell? ⟨w.heap.size, 0, none⟩ = some (.int .i64 (hi (n))) := by rw [hw0]; repeat (first | (refine cell_new ?_ rfl; (simp; done)) | refine cell_old ?_)
  have k1 : w0.cell? ⟨w.heap.size, 1, none⟩ = some (.int .u64 (lo (n))) := by rw [hw0]; repeat (first | (refine cell_new ?_ rfl; (simp; done)) | refine cell_old ?_)
  have z0 : w.heap.size < w0.heap.size := World.block_lt_of_cell? _ _ k0
  have hB : Below w.heap.size w w0 := by rw [hw0]; repeat (with_reducible first | exact bel_refl _ | apply bel_alloc)
  rw [← hw0]
  clear hw0
  go_region_held3 (fun w' => Below w.heap.size w w' ∧ (w.heap.size < w'.heap.size) ∧ w'.cell? ⟨w.heap.size, 0, none⟩ = some (.int .i64 (hi (n))) ∧ w'.cell? ⟨w.heap.size, 1, none⟩ = some (.int .u64 (lo (n))))
    ((exact ⟨by repeat (with_reducible first | exact bel_refl _ | exact hB | (simp only [*]; done) | apply bel_drew | apply bel_alloc | apply hx), by first | omega | (simp only [World.size_alloc, World.size_drew]; omega) | (simp; omega), by first | (simp; done) | (simp [*]; done) | (simp [*, World.cell?_setCell_far]; done) | (simp (disch := omega) [World.cell?_alloc_past, *]; done)⟩))
    (first
      | (go_at_call 49; refine (of_any _ h _).mono ?_; rintro e w1 ⟨rfl, hb⟩; have hx := fun h => bel_call hb h (w := w); obtain ⟨hc, hf⟩ := bcell hb; have hz := hb.size))
  go_wp2
  exact bodyPost_ret (v := .tuple #[.int .i64 n, .bool true]) (by simp [results, Try.results40, go_sem]) rfl ⟨rfl, by simp [*]⟩

theorem int_no (n : Int) (h : ¬ I64 n) (hb : Big n) (w : World) : Calls Try.prog 40 #[.agg #[.int .i64 (hi (n)), .int .u64 (lo (n))]] w fun e w' => e = .returned (.tuple #[.int .i64 0, .bool false]) ∧ Below w.heap.size w w' := by
  obtain ⟨m, hm⟩ : ∃ m, m = IntKind.i64.wrap (lo n) := ⟨_, rfl⟩
  have i1 : IntKind.i64.wrap (lo n) = m := hm.symm
  have hI : I64 m := by rw [hm, IntKind.wrap_i64]; unfold I64 lo; omega
  have i2 : lo m = lo n := by rw [hm, IntKind.wrap_i64]; unfold lo; omega
  have i3 : ¬ hi n = hi m := by
    intro e
    have := eq_hl n
    have := eq_hl m
    have : n = m := by omega
    rw [this] at h; exact h hI
  clear hm h hb
  go_enter Try.func40, Try.ntmps40
  go_wp2
  obtain ⟨w0, hw0⟩ : ∃ x : World, x = (w.alloc (.cells #[.int .i64 (hi (n)), .int .u64 (lo (n))] 61)) := ⟨_, rfl⟩
  have k0 : w0.cell? ⟨w.heap.size, 0, none⟩ = some (.int .i64 (hi (n))) := by rw [hw0]; repeat (first | (refine cell_new ?_ rfl; (simp; done)) | refine cell_old ?_)
  have k1 : w0.cell? ⟨w.heap.size, 1, none⟩ = some (.int .u64 (lo (n))) := by rw [hw0]; repeat (first | (refine cell_new ?_ rfl; (simp; done)) | refine cell_old ?_)
  have z0 : w.heap.size < w0.heap.size := World.block_lt_of_cell? _ _ k0
  have hB : Below w.heap.size w w0 := by rw [hw0]; repeat (with_reducible first | exact bel_refl _ | apply bel_alloc)
  rw [← hw0]
  clear hw0
  go_region_held3 (fun w' => Below w.heap.size w w' ∧ (w.heap.size < w'.heap.size) ∧ w'.cell? ⟨w.heap.size, 0, none⟩ = some (.int .i64 (hi (n))) ∧ w'.cell? ⟨w.heap.size, 1, none⟩ = some (.int .u64 (lo (n))))
    ((exact ⟨by repeat (with_reducible first | exact bel_refl _ | exact hB | (simp only [*]; done) | apply bel_drew | apply bel_alloc | apply hx), by first | omega | (simp only [World.size_alloc, World.size_drew]; omega) | (simp; omega), by first | (simp; done) | (simp [*]; done) | (simp [*, World.cell?_setCell_far]; done) | (simp (disch := omega) [World.cell?_alloc_past, *]; done)⟩))
    (first
      | (go_at_call 49; refine (of_any _ hI _).mono ?_; rintro e w1 ⟨rfl, hb⟩; have hx := fun h => bel_call hb h (w := w); obtain ⟨hc, hf⟩ := bcell hb; have hz := hb.size))
  go_wp2
  exact bodyPost_ret (v := .tuple #[.int .i64 0, .bool false]) (by simp [results, Try.results40, go_sem]) rfl ⟨rfl, by simp [*]⟩
end Go.Proofs.Ytnhhphdhkgjbhaa
