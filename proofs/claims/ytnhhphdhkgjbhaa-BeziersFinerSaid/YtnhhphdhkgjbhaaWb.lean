/- What is proved: what wides.part and whole return: a number's sign and the rest of it, and back. -/
import Derived.Test.YtnhhphdhkgjbhaaWa
set_option linter.unusedSimpArgs false
set_option linter.unusedVariables false
namespace Go.Proofs.Ytnhhphdhkgjbhaa
open Go.RowKit Wi

theorem part_any (n : Int) (h : Big n) (w : World) : Calls Try.prog 59 #[.agg #[.int .i64 (hi n), .int .u64 (lo n)]] w fun e w' => e = .returned (.agg #[.bool (decide (n < 0)), .int .u64 (d0 (mag n)), .int .u64 (d1 (mag n)), .int .u64 0]) ∧ Below w.heap.size w w' := by
  have e2 : IntKind.u64.wrap (hi n) = hi n % 18446744073709551616 := IntKind.wrap_u64 _
  have e3 := hi_neg n
  have e4 := hi_bd n h
  by_cases hn : n < 0
  · have g1 : hi n < 0 := e3.2 hn
    have g2 : decide (n < 0) = true := decide_eq_true hn
    have g3 : neg128 (lo n + hi n % 18446744073709551616 * 18446744073709551616) = mag n := by unfold Big at h; unfold neg128 mag hi lo; rw [if_pos hn]; omega
    have l1 := lo_word n
    have l2 : Word (hi n % 18446744073709551616) := by unfold Word; omega
    rw [g2]
    clear g2 h e3 hn e4
    go_enter Try.func59, Try.ntmps59
    go_wp2_with fail
    obtain ⟨w0, hw0⟩ : ∃ x : World, x = (((w.alloc (.cells #[.int .i64 (hi n), .int .u64 (lo n)] 61)).alloc (.cells #[.bool false, .int .u64 0, .int .u64 0, .int .u64 0] 91)).alloc (.cells #[.bool true, .int .u64 (lo n), .int .u64 (hi n % 18446744073709551616), .int .u64 0] 91)) := ⟨_, rfl⟩
    have k0 : w0.cell? ⟨w.heap.size, 0, none⟩ = some (.int .i64 (hi n)) := by rw [hw0]; repeat (first | (refine cell_new ?_ rfl; (simp; done)) | refine cell_old ?_)
    have k1 : w0.cell? ⟨w.heap.size, 1, none⟩ = some (.int .u64 (lo n)) := by rw [hw0]; repeat (first | (refine cell_new ?_ rfl; (simp; done)) | refine cell_old ?_)
    have k2 : w0.cell? ⟨w.heap.size + 1, 0, none⟩ = some (.bool false) := by rw [hw0]; repeat (first | (refine cell_new ?_ rfl; (simp; done)) | refine cell_old ?_)
    have k3 : w0.cell? ⟨w.heap.size + 1, 1, none⟩ = some (.int .u64 0) := by rw [hw0]; repeat (first | (refine cell_new ?_ rfl; (simp; done)) | refine cell_old ?_)
    have k4 : w0.cell? ⟨w.heap.size + 1, 2, none⟩ = some (.int .u64 0) := by rw [hw0]; repeat (first | (refine cell_new ?_ rfl; (simp; done)) | refine cell_old ?_)
    have k5 : w0.cell? ⟨w.heap.size + 1, 3, none⟩ = some (.int .u64 0) := by rw [hw0]; repeat (first | (refine cell_new ?_ rfl; (simp; done)) | refine cell_old ?_)
    have k6 : w0.cell? ⟨w.heap.size + 1 + 1, 0, none⟩ = some (.bool true) := by rw [hw0]; repeat (first | (refine cell_new ?_ rfl; (simp; done)) | refine cell_old ?_)
    have k7 : w0.cell? ⟨w.heap.size + 1 + 1, 1, none⟩ = some (.int .u64 (lo n)) := by rw [hw0]; repeat (first | (refine cell_new ?_ rfl; (simp; done)) | refine cell_old ?_)
    have k8 : w0.cell? ⟨w.heap.size + 1 + 1, 2, none⟩ = some (.int .u64 (hi n % 18446744073709551616)) := by rw [hw0]; repeat (first | (refine cell_new ?_ rfl; (simp; done)) | refine cell_old ?_)
    have k9 : w0.cell? ⟨w.heap.size + 1 + 1, 3, none⟩ = some (.int .u64 0) := by rw [hw0]; repeat (first | (refine cell_new ?_ rfl; (simp; done)) | refine cell_old ?_)
    have z0 : w.heap.size < w0.heap.size := World.block_lt_of_cell? _ _ k0
    have z1 : w.heap.size + 1 < w0.heap.size := World.block_lt_of_cell? _ _ k2
    have z2 : w.heap.size + 1 + 1 < w0.heap.size := World.block_lt_of_cell? _ _ k6
    have hB : Below w.heap.size w w0 := by rw [hw0]; repeat (with_reducible first | exact bel_refl _ | apply bel_alloc)
    have f1_0 : w0.frozen? ⟨w.heap.size + 1, 0, none⟩ = false := by rw [hw0]; repeat (first | (refine frz_new ?_; (simp; done)) | (refine frz_old (by first | (simp; done) | (simp; omega)) ?_))
    have f1_1 : w0.frozen? ⟨w.heap.size + 1, 1, none⟩ = false := by rw [hw0]; repeat (first | (refine frz_new ?_; (simp; done)) | (refine frz_old (by first | (simp; done) | (simp; omega)) ?_))
    have f1_2 : w0.frozen? ⟨w.heap.size + 1, 2, none⟩ = false := by rw [hw0]; repeat (first | (refine frz_new ?_; (simp; done)) | (refine frz_old (by first | (simp; done) | (simp; omega)) ?_))
    have f1_3 : w0.frozen? ⟨w.heap.size + 1, 3, none⟩ = false := by rw [hw0]; repeat (first | (refine frz_new ?_; (simp; done)) | (refine frz_old (by first | (simp; done) | (simp; omega)) ?_))
    have f2_0 : w0.frozen? ⟨w.heap.size + 1 + 1, 0, none⟩ = false := by rw [hw0]; repeat (first | (refine frz_new ?_; (simp; done)) | (refine frz_old (by first | (simp; done) | (simp; omega)) ?_))
    have f2_1 : w0.frozen? ⟨w.heap.size + 1 + 1, 1, none⟩ = false := by rw [hw0]; repeat (first | (refine frz_new ?_; (simp; done)) | (refine frz_old (by first | (simp; done) | (simp; omega)) ?_))
    have f2_2 : w0.frozen? ⟨w.heap.size + 1 + 1, 2, none⟩ = false := by rw [hw0]; repeat (first | (refine frz_new ?_; (simp; done)) | (refine frz_old (by first | (simp; done) | (simp; omega)) ?_))
    have f2_3 : w0.frozen? ⟨w.heap.size + 1 + 1, 3, none⟩ = false := by rw [hw0]; repeat (first | (refine frz_new ?_; (simp; done)) | (refine frz_old (by first | (simp; done) | (simp; omega)) ?_))
    rw [← hw0]
    clear hw0
    refine (turned_any _ _ _ l1 l2 _).mono ?_
    rintro e w1 ⟨rfl, hb1⟩
    rw [g3]
    replace f1_0 := frz_later (bel_call hb1 (by repeat (with_reducible first | exact bel_refl _ | apply bel_alloc | apply bel_drew))) k2 f1_0
    replace f1_1 := frz_later (bel_call hb1 (by repeat (with_reducible first | exact bel_refl _ | apply bel_alloc | apply bel_drew))) k3 f1_1
    replace f1_2 := frz_later (bel_call hb1 (by repeat (with_reducible first | exact bel_refl _ | apply bel_alloc | apply bel_drew))) k4 f1_2
    replace f1_3 := frz_later (bel_call hb1 (by repeat (with_reducible first | exact bel_refl _ | apply bel_alloc | apply bel_drew))) k5 f1_3
    replace f2_0 := frz_later (bel_call hb1 (by repeat (with_reducible first | exact bel_refl _ | apply bel_alloc | apply bel_drew))) k6 f2_0
    replace f2_1 := frz_later (bel_call hb1 (by repeat (with_reducible first | exact bel_refl _ | apply bel_alloc | apply bel_drew))) k7 f2_1
    replace f2_2 := frz_later (bel_call hb1 (by repeat (with_reducible first | exact bel_refl _ | apply bel_alloc | apply bel_drew))) k8 f2_2
    replace f2_3 := frz_later (bel_call hb1 (by repeat (with_reducible first | exact bel_refl _ | apply bel_alloc | apply bel_drew))) k9 f2_3
    replace hB := bel_call hb1 (by repeat (with_reducible first | exact hB | apply bel_alloc | apply bel_drew))
    replace k0 := cell_later (bel_call hb1 (by repeat (with_reducible first | exact bel_refl _ | apply bel_alloc | apply bel_drew))) k0
    replace k1 := cell_later (bel_call hb1 (by repeat (with_reducible first | exact bel_refl _ | apply bel_alloc | apply bel_drew))) k1
    replace k2 := cell_later (bel_call hb1 (by repeat (with_reducible first | exact bel_refl _ | apply bel_alloc | apply bel_drew))) k2
    replace k3 := cell_later (bel_call hb1 (by repeat (with_reducible first | exact bel_refl _ | apply bel_alloc | apply bel_drew))) k3
    replace k4 := cell_later (bel_call hb1 (by repeat (with_reducible first | exact bel_refl _ | apply bel_alloc | apply bel_drew))) k4
    replace k5 := cell_later (bel_call hb1 (by repeat (with_reducible first | exact bel_refl _ | apply bel_alloc | apply bel_drew))) k5
    replace k6 := cell_later (bel_call hb1 (by repeat (with_reducible first | exact bel_refl _ | apply bel_alloc | apply bel_drew))) k6
    replace k7 := cell_later (bel_call hb1 (by repeat (with_reducible first | exact bel_refl _ | apply bel_alloc | apply bel_drew))) k7
    replace k8 := cell_later (bel_call hb1 (by repeat (with_reducible first | exact bel_refl _ | apply bel_alloc | apply bel_drew))) k8
    replace k9 := cell_later (bel_call hb1 (by repeat (with_reducible first | exact bel_refl _ | apply bel_alloc | apply bel_drew))) k9
    replace z0 := World.block_lt_of_cell? _ _ k0
    replace z1 := World.block_lt_of_cell? _ _ k2
    replace z2 := World.block_lt_of_cell? _ _ k6
    simp only [] at z0 z1 z2
    clear hb1
    go_wp2
    exact bodyPost_ret (v := .agg #[.bool true, .int .u64 (d0 (mag n)), .int .u64 (d1 (mag n)), .int .u64 0]) (by simp [results, Try.results59, go_sem, *]) rfl ⟨rfl, by repeat (with_reducible first | exact hB | refine bel_set _ (by omega) ?_ | apply bel_alloc | apply bel_drew)⟩
  · have g1 : ¬ hi n < 0 := fun g => hn (e3.1 g)
    have g2 : decide (n < 0) = false := decide_eq_false hn
    have g3 : hi n % 18446744073709551616 = d1 (mag n) := by unfold Big at h; unfold d1 mag hi; rw [if_neg hn]
    have g4 : lo n = d0 (mag n) := by unfold d0 mag lo; rw [if_neg hn]
    have g5 : IntKind.u64.wrap (hi n) = d1 (mag n) := e2.trans g3
    rw [g2]
    clear g2 h e3 hn e4 e2 g3
    go_enter Try.func59, Try.ntmps59
    go_wp2
    exact bodyPost_ret (v := .agg #[.bool false, .int .u64 (d0 (mag n)), .int .u64 (d1 (mag n)), .int .u64 0]) (by simp [results, Try.results59, go_sem, *]) rfl ⟨rfl, by repeat (with_reducible first | exact bel_refl _ | refine bel_set _ (by omega) ?_ | apply bel_alloc | apply bel_drew)⟩

theorem whole_pos (m : Int) (h : Fits false m) (w : World) : Calls Try.prog 62 #[.agg #[.bool false, .int .u64 (d0 m), .int .u64 (d1 m), .int .u64 0]] w fun e w' => e = .returned (.tuple #[.agg #[.int .i64 (hi m), .int .u64 (lo m)], .int .i64 0]) ∧ Below w.heap.size w w' := by
  have hm : 0 ≤ m ∧ m < 170141183460469231731687303715884105728 := by
    rcases h with ⟨h0, h1 | ⟨h1, _⟩⟩
    · exact ⟨h0, h1⟩
    · cases h1
  have hne : ∀ w, (binOp .neq 91 (.agg #[.bool false, .int .u64 (d0 m), .int .u64 (d1 m), .int .u64 0]) (.agg #[.bool true, .int .u64 0, .int .u64 9223372036854775808, .int .u64 0])).run Try.prog w = .ok (.bool true) w := by
    intro w; simp [go_sem]
  have g1 : d1 m / 9223372036854775808 = 0 := by unfold d1; omega
  have g2 : d0 m = lo m := rfl
  have g3 : IntKind.i64.wrap (d1 m) = hi m := by rw [IntWalk.i64_in _ (by unfold d1; omega)]; unfold d1 hi; omega
  go_enter Try.func62, Try.ntmps62
  go_wp2
  exact bodyPost_ret (v := .tuple #[.agg #[.int .i64 (hi m), .int .u64 (lo m)], .int .i64 0]) (by simp [results, Try.results62, go_sem, *]) rfl ⟨rfl, by repeat (with_reducible first | exact bel_refl _ | refine bel_set _ (by omega) ?_ | apply bel_alloc | apply bel_drew)⟩

theorem neq_least (m : Int) (h : Fits true m) (w : World) : (binOp .neq 91 (.agg #[.bool true, .int .u64 (d0 m), .int .u64 (d1 m), .int .u64 0]) (.agg #[.bool true, .int .u64 0, .int .u64 9223372036854775808, .int .u64 0])).run Try.prog w = .ok (.bool (decide (m ≠ 170141183460469231731687303715884105728))) w := by
  have hw : ∀ w, (Op.equalIn 9999 89 (.agg #[.int .u64 (d0 m), .int .u64 (d1 m), .int .u64 0]) (.agg #[.int .u64 0, .int .u64 9223372036854775808, .int .u64 0])).run Try.prog w = .ok (decide ([d0 m, d1 m, 0] = [0, 9223372036854775808, 0])) w := fun w =>
    eqArrAt w 9997 Try.underlying89 Try.underlying59 (by kernel_rfl) (by kernel_rfl) [d0 m, d1 m, 0] [0, 9223372036854775808, 0] rfl rfl
  have e : (m = 170141183460469231731687303715884105728) ↔ [d0 m, d1 m, 0] = [0, 9223372036854775808, 0] := by
    obtain ⟨h0, h1⟩ := h
    simp only [List.cons.injEq, and_true, d0, d1]; omega
  by_cases hm : m = 170141183460469231731687303715884105728
  · have g := e.1 hm
    have hd : decide (m ≠ 170141183460469231731687303715884105728) = false := by simp [hm]
    have hw' := hw
    simp only [decide_eq_true g] at hw'
    rw [hd]
    simp [go_sem, hw']
  · have g : ¬ [d0 m, d1 m, 0] = [0, 9223372036854775808, 0] := fun g => hm (e.2 g)
    have hw' := hw
    simp only [decide_eq_false g] at hw'
    simp [go_sem, hw', hm]
theorem whole_neg (m : Int) (h : Fits true m) (w : World) : Calls Try.prog 62 #[.agg #[.bool true, .int .u64 (d0 m), .int .u64 (d1 m), .int .u64 0]] w fun e w' => e = .returned (.tuple #[.agg #[.int .i64 (hi (-m)), .int .u64 (lo (-m))], .int .i64 0]) ∧ Below w.heap.size w w' := by
  have hne := neq_least m h
  have hm : 0 ≤ m ∧ m ≤ 170141183460469231731687303715884105728 := by
    rcases h with ⟨h0, h1 | ⟨_, h1⟩⟩
    · exact ⟨h0, by omega⟩
    · exact ⟨h0, by omega⟩
  have l1 : Word (d0 m) := by unfold Word d0; omega
  have l2 : Word (d1 m) := by unfold Word d1; omega
  have g3 : d0 (neg128 (d0 m + d1 m * 18446744073709551616)) = lo (-m) := by unfold d0 d1 neg128 lo; omega
  have g4 : IntKind.i64.wrap (d1 (neg128 (d0 m + d1 m * 18446744073709551616))) = hi (-m) := by rw [IntKind.wrap_i64]; unfold d0 d1 neg128 hi; omega
  have g1 : ¬ m = 170141183460469231731687303715884105728 → d1 m / 9223372036854775808 = 0 := by intro hq; unfold d1; omega
  clear h hm
  by_cases hq : m = 170141183460469231731687303715884105728
  · have hd : decide (m ≠ 170141183460469231731687303715884105728) = false := by simp [hq]
    rw [hd] at hne
    clear hq hd g1
    go_enter Try.func62, Try.ntmps62
    go_wp2_with fail
    obtain ⟨w0, hw0⟩ : ∃ x : World, x = (((w.alloc (.cells #[.bool true, .int .u64 (d0 m), .int .u64 (d1 m), .int .u64 0] 91)).alloc (.cells #[.int .i64 0, .int .u64 0] 61)).alloc (.cells #[.bool true, .int .u64 0, .int .u64 9223372036854775808, .int .u64 0] 91)) := ⟨_, rfl⟩
    have k0 : w0.cell? ⟨w.heap.size, 0, none⟩ = some (.bool true) := by rw [hw0]; repeat (first | (refine cell_new ?_ rfl; (simp; done)) | refine cell_old ?_)
    have k1 : w0.cell? ⟨w.heap.size, 1, none⟩ = some (.int .u64 (d0 m)) := by rw [hw0]; repeat (first | (refine cell_new ?_ rfl; (simp; done)) | refine cell_old ?_)
    have k2 : w0.cell? ⟨w.heap.size, 2, none⟩ = some (.int .u64 (d1 m)) := by rw [hw0]; repeat (first | (refine cell_new ?_ rfl; (simp; done)) | refine cell_old ?_)
    have k3 : w0.cell? ⟨w.heap.size, 3, none⟩ = some (.int .u64 0) := by rw [hw0]; repeat (first | (refine cell_new ?_ rfl; (simp; done)) | refine cell_old ?_)
    have k4 : w0.cell? ⟨w.heap.size + 1, 0, none⟩ = some (.int .i64 0) := by rw [hw0]; repeat (first | (refine cell_new ?_ rfl; (simp; done)) | refine cell_old ?_)
    have k5 : w0.cell? ⟨w.heap.size + 1, 1, none⟩ = some (.int .u64 0) := by rw [hw0]; repeat (first | (refine cell_new ?_ rfl; (simp; done)) | refine cell_old ?_)
    have k6 : w0.cell? ⟨w.heap.size + 1 + 1, 0, none⟩ = some (.bool true) := by rw [hw0]; repeat (first | (refine cell_new ?_ rfl; (simp; done)) | refine cell_old ?_)
    have k7 : w0.cell? ⟨w.heap.size + 1 + 1, 1, none⟩ = some (.int .u64 0) := by rw [hw0]; repeat (first | (refine cell_new ?_ rfl; (simp; done)) | refine cell_old ?_)
    have k8 : w0.cell? ⟨w.heap.size + 1 + 1, 2, none⟩ = some (.int .u64 9223372036854775808) := by rw [hw0]; repeat (first | (refine cell_new ?_ rfl; (simp; done)) | refine cell_old ?_)
    have k9 : w0.cell? ⟨w.heap.size + 1 + 1, 3, none⟩ = some (.int .u64 0) := by rw [hw0]; repeat (first | (refine cell_new ?_ rfl; (simp; done)) | refine cell_old ?_)
    have z0 : w.heap.size < w0.heap.size := World.block_lt_of_cell? _ _ k0
    have z1 : w.heap.size + 1 < w0.heap.size := World.block_lt_of_cell? _ _ k4
    have z2 : w.heap.size + 1 + 1 < w0.heap.size := World.block_lt_of_cell? _ _ k6
    have hB : Below w.heap.size w w0 := by rw [hw0]; repeat (with_reducible first | exact bel_refl _ | apply bel_alloc)
    have f0_0 : w0.frozen? ⟨w.heap.size, 0, none⟩ = false := by rw [hw0]; repeat (first | (refine frz_new ?_; (simp; done)) | (refine frz_old (by first | (simp; done) | (simp; omega)) ?_))
    have f0_1 : w0.frozen? ⟨w.heap.size, 1, none⟩ = false := by rw [hw0]; repeat (first | (refine frz_new ?_; (simp; done)) | (refine frz_old (by first | (simp; done) | (simp; omega)) ?_))
    have f0_2 : w0.frozen? ⟨w.heap.size, 2, none⟩ = false := by rw [hw0]; repeat (first | (refine frz_new ?_; (simp; done)) | (refine frz_old (by first | (simp; done) | (simp; omega)) ?_))
    have f0_3 : w0.frozen? ⟨w.heap.size, 3, none⟩ = false := by rw [hw0]; repeat (first | (refine frz_new ?_; (simp; done)) | (refine frz_old (by first | (simp; done) | (simp; omega)) ?_))
    have f1_0 : w0.frozen? ⟨w.heap.size + 1, 0, none⟩ = false := by rw [hw0]; repeat (first | (refine frz_new ?_; (simp; done)) | (refine frz_old (by first | (simp; done) | (simp; omega)) ?_))
    have f1_1 : w0.frozen? ⟨w.heap.size + 1, 1, none⟩ = false := by rw [hw0]; repeat (first | (refine frz_new ?_; (simp; done)) | (refine frz_old (by first | (simp; done) | (simp; omega)) ?_))
    rw [← hw0]
    clear hw0
    refine (turned_any _ _ _ l1 l2 _).mono ?_
    rintro e w1 ⟨rfl, hb1⟩
    replace f0_0 := frz_later (bel_call hb1 (by repeat (with_reducible first | exact bel_refl _ | apply bel_alloc | apply bel_drew))) k0 f0_0
    replace f0_1 := frz_later (bel_call hb1 (by repeat (with_reducible first | exact bel_refl _ | apply bel_alloc | apply bel_drew))) k1 f0_1
    replace f0_2 := frz_later (bel_call hb1 (by repeat (with_reducible first | exact bel_refl _ | apply bel_alloc | apply bel_drew))) k2 f0_2
    replace f0_3 := frz_later (bel_call hb1 (by repeat (with_reducible first | exact bel_refl _ | apply bel_alloc | apply bel_drew))) k3 f0_3
    replace f1_0 := frz_later (bel_call hb1 (by repeat (with_reducible first | exact bel_refl _ | apply bel_alloc | apply bel_drew))) k4 f1_0
    replace f1_1 := frz_later (bel_call hb1 (by repeat (with_reducible first | exact bel_refl _ | apply bel_alloc | apply bel_drew))) k5 f1_1
    replace hB := bel_call hb1 (by repeat (with_reducible first | exact hB | apply bel_alloc | apply bel_drew))
    replace k0 := cell_later (bel_call hb1 (by repeat (with_reducible first | exact bel_refl _ | apply bel_alloc | apply bel_drew))) k0
    replace k1 := cell_later (bel_call hb1 (by repeat (with_reducible first | exact bel_refl _ | apply bel_alloc | apply bel_drew))) k1
    replace k2 := cell_later (bel_call hb1 (by repeat (with_reducible first | exact bel_refl _ | apply bel_alloc | apply bel_drew))) k2
    replace k3 := cell_later (bel_call hb1 (by repeat (with_reducible first | exact bel_refl _ | apply bel_alloc | apply bel_drew))) k3
    replace k4 := cell_later (bel_call hb1 (by repeat (with_reducible first | exact bel_refl _ | apply bel_alloc | apply bel_drew))) k4
    replace k5 := cell_later (bel_call hb1 (by repeat (with_reducible first | exact bel_refl _ | apply bel_alloc | apply bel_drew))) k5
    replace k6 := cell_later (bel_call hb1 (by repeat (with_reducible first | exact bel_refl _ | apply bel_alloc | apply bel_drew))) k6
    replace k7 := cell_later (bel_call hb1 (by repeat (with_reducible first | exact bel_refl _ | apply bel_alloc | apply bel_drew))) k7
    replace k8 := cell_later (bel_call hb1 (by repeat (with_reducible first | exact bel_refl _ | apply bel_alloc | apply bel_drew))) k8
    replace k9 := cell_later (bel_call hb1 (by repeat (with_reducible first | exact bel_refl _ | apply bel_alloc | apply bel_drew))) k9
    replace z0 := World.block_lt_of_cell? _ _ k0
    replace z1 := World.block_lt_of_cell? _ _ k4
    replace z2 := World.block_lt_of_cell? _ _ k6
    simp only [] at z0 z1 z2
    clear hb1
    go_wp2
    exact bodyPost_ret (v := .tuple #[.agg #[.int .i64 (hi (-m)), .int .u64 (lo (-m))], .int .i64 0]) (by simp [results, Try.results62, go_sem, *]) rfl ⟨rfl, by repeat (with_reducible first | exact hB | refine bel_set _ (by omega) ?_ | apply bel_alloc | apply bel_drew)⟩
  · have hd : decide (m ≠ 170141183460469231731687303715884105728) = true := by simp [hq]
    rw [hd] at hne
    replace g1 := g1 hq
    clear hq hd
    go_enter Try.func62, Try.ntmps62
    go_wp2_with fail
    obtain ⟨w0, hw0⟩ : ∃ x : World, x = (((w.alloc (.cells #[.bool true, .int .u64 (d0 m), .int .u64 (d1 m), .int .u64 0] 91)).alloc (.cells #[.int .i64 0, .int .u64 0] 61)).alloc (.cells #[.bool true, .int .u64 0, .int .u64 9223372036854775808, .int .u64 0] 91)) := ⟨_, rfl⟩
    have k0 : w0.cell? ⟨w.heap.size, 0, none⟩ = some (.bool true) := by rw [hw0]; repeat (first | (refine cell_new ?_ rfl; (simp; done)) | refine cell_old ?_)
    have k1 : w0.cell? ⟨w.heap.size, 1, none⟩ = some (.int .u64 (d0 m)) := by rw [hw0]; repeat (first | (refine cell_new ?_ rfl; (simp; done)) | refine cell_old ?_)
    have k2 : w0.cell? ⟨w.heap.size, 2, none⟩ = some (.int .u64 (d1 m)) := by rw [hw0]; repeat (first | (refine cell_new ?_ rfl; (simp; done)) | refine cell_old ?_)
    have k3 : w0.cell? ⟨w.heap.size, 3, none⟩ = some (.int .u64 0) := by rw [hw0]; repeat (first | (refine cell_new ?_ rfl; (simp; done)) | refine cell_old ?_)
    have k4 : w0.cell? ⟨w.heap.size + 1, 0, none⟩ = some (.int .i64 0) := by rw [hw0]; repeat (first | (refine cell_new ?_ rfl; (simp; done)) | refine cell_old ?_)
    have k5 : w0.cell? ⟨w.heap.size + 1, 1, none⟩ = some (.int .u64 0) := by rw [hw0]; repeat (first | (refine cell_new ?_ rfl; (simp; done)) | refine cell_old ?_)
    have k6 : w0.cell? ⟨w.heap.size + 1 + 1, 0, none⟩ = some (.bool true) := by rw [hw0]; repeat (first | (refine cell_new ?_ rfl; (simp; done)) | refine cell_old ?_)
    have k7 : w0.cell? ⟨w.heap.size + 1 + 1, 1, none⟩ = some (.int .u64 0) := by rw [hw0]; repeat (first | (refine cell_new ?_ rfl; (simp; done)) | refine cell_old ?_)
    have k8 : w0.cell? ⟨w.heap.size + 1 + 1, 2, none⟩ = some (.int .u64 9223372036854775808) := by rw [hw0]; repeat (first | (refine cell_new ?_ rfl; (simp; done)) | refine cell_old ?_)
    have k9 : w0.cell? ⟨w.heap.size + 1 + 1, 3, none⟩ = some (.int .u64 0) := by rw [hw0]; repeat (first | (refine cell_new ?_ rfl; (simp; done)) | refine cell_old ?_)
    have z0 : w.heap.size < w0.heap.size := World.block_lt_of_cell? _ _ k0
    have z1 : w.heap.size + 1 < w0.heap.size := World.block_lt_of_cell? _ _ k4
    have z2 : w.heap.size + 1 + 1 < w0.heap.size := World.block_lt_of_cell? _ _ k6
    have hB : Below w.heap.size w w0 := by rw [hw0]; repeat (with_reducible first | exact bel_refl _ | apply bel_alloc)
    have f0_0 : w0.frozen? ⟨w.heap.size, 0, none⟩ = false := by rw [hw0]; repeat (first | (refine frz_new ?_; (simp; done)) | (refine frz_old (by first | (simp; done) | (simp; omega)) ?_))
    have f0_1 : w0.frozen? ⟨w.heap.size, 1, none⟩ = false := by rw [hw0]; repeat (first | (refine frz_new ?_; (simp; done)) | (refine frz_old (by first | (simp; done) | (simp; omega)) ?_))
    have f0_2 : w0.frozen? ⟨w.heap.size, 2, none⟩ = false := by rw [hw0]; repeat (first | (refine frz_new ?_; (simp; done)) | (refine frz_old (by first | (simp; done) | (simp; omega)) ?_))
    have f0_3 : w0.frozen? ⟨w.heap.size, 3, none⟩ = false := by rw [hw0]; repeat (first | (refine frz_new ?_; (simp; done)) | (refine frz_old (by first | (simp; done) | (simp; omega)) ?_))
    have f1_0 : w0.frozen? ⟨w.heap.size + 1, 0, none⟩ = false := by rw [hw0]; repeat (first | (refine frz_new ?_; (simp; done)) | (refine frz_old (by first | (simp; done) | (simp; omega)) ?_))
    have f1_1 : w0.frozen? ⟨w.heap.size + 1, 1, none⟩ = false := by rw [hw0]; repeat (first | (refine frz_new ?_; (simp; done)) | (refine frz_old (by first | (simp; done) | (simp; omega)) ?_))
    rw [← hw0]
    clear hw0
    refine (turned_any _ _ _ l1 l2 _).mono ?_
    rintro e w1 ⟨rfl, hb1⟩
    replace f0_0 := frz_later (bel_call hb1 (by repeat (with_reducible first | exact bel_refl _ | apply bel_alloc | apply bel_drew))) k0 f0_0
    replace f0_1 := frz_later (bel_call hb1 (by repeat (with_reducible first | exact bel_refl _ | apply bel_alloc | apply bel_drew))) k1 f0_1
    replace f0_2 := frz_later (bel_call hb1 (by repeat (with_reducible first | exact bel_refl _ | apply bel_alloc | apply bel_drew))) k2 f0_2
    replace f0_3 := frz_later (bel_call hb1 (by repeat (with_reducible first | exact bel_refl _ | apply bel_alloc | apply bel_drew))) k3 f0_3
    replace f1_0 := frz_later (bel_call hb1 (by repeat (with_reducible first | exact bel_refl _ | apply bel_alloc | apply bel_drew))) k4 f1_0
    replace f1_1 := frz_later (bel_call hb1 (by repeat (with_reducible first | exact bel_refl _ | apply bel_alloc | apply bel_drew))) k5 f1_1
    replace hB := bel_call hb1 (by repeat (with_reducible first | exact hB | apply bel_alloc | apply bel_drew))
    replace k0 := cell_later (bel_call hb1 (by repeat (with_reducible first | exact bel_refl _ | apply bel_alloc | apply bel_drew))) k0
    replace k1 := cell_later (bel_call hb1 (by repeat (with_reducible first | exact bel_refl _ | apply bel_alloc | apply bel_drew))) k1
    replace k2 := cell_later (bel_call hb1 (by repeat (with_reducible first | exact bel_refl _ | apply bel_alloc | apply bel_drew))) k2
    replace k3 := cell_later (bel_call hb1 (by repeat (with_reducible first | exact bel_refl _ | apply bel_alloc | apply bel_drew))) k3
    replace k4 := cell_later (bel_call hb1 (by repeat (with_reducible first | exact bel_refl _ | apply bel_alloc | apply bel_drew))) k4
    replace k5 := cell_later (bel_call hb1 (by repeat (with_reducible first | exact bel_refl _ | apply bel_alloc | apply bel_drew))) k5
    replace k6 := cell_later (bel_call hb1 (by repeat (with_reducible first | exact bel_refl _ | apply bel_alloc | apply bel_drew))) k6
    replace k7 := cell_later (bel_call hb1 (by repeat (with_reducible first | exact bel_refl _ | apply bel_alloc | apply bel_drew))) k7
    replace k8 := cell_later (bel_call hb1 (by repeat (with_reducible first | exact bel_refl _ | apply bel_alloc | apply bel_drew))) k8
    replace k9 := cell_later (bel_call hb1 (by repeat (with_reducible first | exact bel_refl _ | apply bel_alloc | apply bel_drew))) k9
    replace z0 := World.block_lt_of_cell? _ _ k0
    replace z1 := World.block_lt_of_cell? _ _ k4
    replace z2 := World.block_lt_of_cell? _ _ k6
    simp only [] at z0 z1 z2
    clear hb1
    go_wp2
    exact bodyPost_ret (v := .tuple #[.agg #[.int .i64 (hi (-m)), .int .u64 (lo (-m))], .int .i64 0]) (by simp [results, Try.results62, go_sem, *]) rfl ⟨rfl, by repeat (with_reducible first | exact hB | refine bel_set _ (by omega) ?_ | apply bel_alloc | apply bel_drew)⟩

theorem whole_any (t : Bool) (m : Int) (h : Fits t m) (w : World) : Calls Try.prog 62 #[.agg #[.bool t, .int .u64 (d0 m), .int .u64 (d1 m), .int .u64 0]] w fun e w' => e = .returned (.tuple #[.agg #[.int .i64 (hi (sgn t m)), .int .u64 (lo (sgn t m))], .int .i64 0]) ∧ Below w.heap.size w w' := by
  cases t
  · exact whole_pos m h w
  · exact whole_neg m h w
end Go.Proofs.Ytnhhphdhkgjbhaa
