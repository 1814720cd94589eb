/- What is proved: what wides.Times and Mul return: a product, if it is a number of 128 bits. -/
import Derived.Test.YtnhhphdhkgjbhaaWc
set_option linter.unusedSimpArgs false
set_option linter.unusedVariables false
namespace Go.Proofs.Ytnhhphdhkgjbhaa
open Go.RowKit Wi

set_option maxHeartbeats 800000 in
theorem times_any (a n : Int) (s : Bool) (q : Bool) (hs : decide (a < 0) = s) (hq : (!(s == decide (n < 0))) = q) (ha : Big a) (hn : I64 n) (hp : Big (a * n)) (w : World) : Calls Try.prog 48 #[.agg #[.int .i64 (hi (a)), .int .u64 (lo (a))], .int .i64 n] w fun e w' => e = .returned (.tuple #[.agg #[.int .i64 (hi (a * n)), .int .u64 (lo (a * n))], .int .i64 0]) ∧ Below w.heap.size w w' := by
  have s1 := hs
  have sm := split_m (mag a) (mag_nn a) (by unfold mag; unfold Big at ha; split <;> omega)
  have em : (d0 (mag a) + d1 (mag a) * 18446744073709551616) * mag n = mag (a * n) := by rw [← sm.1]; exact mag_mul a n
  have hm0 := mag_nn (a * n)
  have es : sgn q (mag (a * n)) = a * n := by rw [← hq, ← hs]; exact sgn_mul a n
  have hf : Fits q (mag (a * n)) := fits_of _ _ hm0 (by rw [es]; exact hp)
  have e2 : d2 (mag (a * n)) = 0 := by
    obtain ⟨f1, f2⟩ := hf
    unfold d2; omega
  clear sm hp hm0
  have l1 : Word (d0 (mag a)) := by unfold Word d0; omega
  have l2 : Word (d1 (mag a)) := by unfold Word d1; omega
  have l3 : Word (mag n) := by unfold Word mag; unfold I64 at hn; split <;> omega
  go_enter Try.func48, Try.ntmps48
  go_wp2_with fail
  obtain ⟨w0, hw0⟩ : ∃ x : World, x = ((w.alloc (.cells #[.int .i64 (hi (a)), .int .u64 (lo (a))] 61)).alloc (.cells #[.int .i64 0, .int .u64 0] 61)) := ⟨_, rfl⟩
  have k0 : w0.cell? ⟨w.heap.size, 0, none⟩ = some (.int .i64 (hi (a))) := by rw [hw0]; repeat (first | (refine cell_new ?_ rfl; (simp; done)) | refine cell_old ?_)
  have k1 : w0.cell? ⟨w.heap.size, 1, none⟩ = some (.int .u64 (lo (a))) := by rw [hw0]; repeat (first | (refine cell_new ?_ rfl; (simp; done)) | refine cell_old ?_)
  have k2 : w0.cell? ⟨w.heap.size + 1, 0, none⟩ = some (.int .i64 0) := by rw [hw0]; repeat (first | (refine cell_new ?_ rfl; (simp; done)) | refine cell_old ?_)
  have k3 : w0.cell? ⟨w.heap.size + 1, 1, none⟩ = some (.int .u64 0) := by rw [hw0]; repeat (first | (refine cell_new ?_ rfl; (simp; done)) | refine cell_old ?_)
  have z0 : w.heap.size < w0.heap.size := World.block_lt_of_cell? _ _ k0
  have z1 : w.heap.size + 1 < w0.heap.size := World.block_lt_of_cell? _ _ k2
  have hB : Below w.heap.size w w0 := by rw [hw0]; repeat (with_reducible first | exact bel_refl _ | apply bel_alloc)
  have f1_0 : w0.frozen? ⟨w.heap.size + 1, 0, none⟩ = false := by rw [hw0]; repeat (first | (refine frz_new ?_; (simp; done)) | (refine frz_old (by first | (simp; done) | (simp; omega)) ?_))
  have f1_1 : w0.frozen? ⟨w.heap.size + 1, 1, none⟩ = false := by rw [hw0]; repeat (first | (refine frz_new ?_; (simp; done)) | (refine frz_old (by first | (simp; done) | (simp; omega)) ?_))
  rw [← hw0]
  clear hw0
  refine (part_any a ha _).mono ?_
  rintro e w1 ⟨rfl, hb1⟩
  replace f1_0 := frz_later (bel_call hb1 (by repeat (with_reducible first | exact bel_refl _ | apply bel_alloc | apply bel_drew))) k2 f1_0
  replace f1_1 := frz_later (bel_call hb1 (by repeat (with_reducible first | exact bel_refl _ | apply bel_alloc | apply bel_drew))) k3 f1_1
  replace hB := bel_call hb1 (by repeat (with_reducible first | exact hB | apply bel_alloc | apply bel_drew))
  replace k0 := cell_later (bel_call hb1 (by repeat (with_reducible first | exact bel_refl _ | apply bel_alloc | apply bel_drew))) k0
  replace k1 := cell_later (bel_call hb1 (by repeat (with_reducible first | exact bel_refl _ | apply bel_alloc | apply bel_drew))) k1
  replace k2 := cell_later (bel_call hb1 (by repeat (with_reducible first | exact bel_refl _ | apply bel_alloc | apply bel_drew))) k2
  replace k3 := cell_later (bel_call hb1 (by repeat (with_reducible first | exact bel_refl _ | apply bel_alloc | apply bel_drew))) k3
  replace z0 := World.block_lt_of_cell? _ _ k0
  replace z1 := World.block_lt_of_cell? _ _ k2
  simp only [] at z0 z1
  clear hb1
  rw [s1]
  go_wp2_with fail
  obtain ⟨w2, hw0⟩ : ∃ x : World, x = (w1.alloc (.cells #[.bool s, .int .u64 (d0 (mag a)), .int .u64 (d1 (mag a)), .int .u64 0] 91)) := ⟨_, rfl⟩
  replace f1_0 : w2.frozen? ⟨w.heap.size + 1, 0, none⟩ = false := by rw [hw0]; exact frz_later (by repeat (with_reducible first | exact bel_refl _ | apply bel_alloc | apply bel_drew)) k2 f1_0
  replace f1_1 : w2.frozen? ⟨w.heap.size + 1, 1, none⟩ = false := by rw [hw0]; exact frz_later (by repeat (with_reducible first | exact bel_refl _ | apply bel_alloc | apply bel_drew)) k3 f1_1
  replace k0 : w2.cell? ⟨w.heap.size, 0, none⟩ = some (.int .i64 (hi (a))) := by rw [hw0]; exact cell_later (by repeat (with_reducible first | exact bel_refl _ | apply bel_alloc | apply bel_drew)) k0
  replace k1 : w2.cell? ⟨w.heap.size, 1, none⟩ = some (.int .u64 (lo (a))) := by rw [hw0]; exact cell_later (by repeat (with_reducible first | exact bel_refl _ | apply bel_alloc | apply bel_drew)) k1
  replace k2 : w2.cell? ⟨w.heap.size + 1, 0, none⟩ = some (.int .i64 0) := by rw [hw0]; exact cell_later (by repeat (with_reducible first | exact bel_refl _ | apply bel_alloc | apply bel_drew)) k2
  replace k3 : w2.cell? ⟨w.heap.size + 1, 1, none⟩ = some (.int .u64 0) := by rw [hw0]; exact cell_later (by repeat (with_reducible first | exact bel_refl _ | apply bel_alloc | apply bel_drew)) k3
  have k4 : w2.cell? ⟨w1.heap.size, 0, none⟩ = some (.bool s) := by rw [hw0]; repeat (first | (refine cell_new ?_ rfl; (simp; done)) | refine cell_old ?_)
  have k5 : w2.cell? ⟨w1.heap.size, 1, none⟩ = some (.int .u64 (d0 (mag a))) := by rw [hw0]; repeat (first | (refine cell_new ?_ rfl; (simp; done)) | refine cell_old ?_)
  have k6 : w2.cell? ⟨w1.heap.size, 2, none⟩ = some (.int .u64 (d1 (mag a))) := by rw [hw0]; repeat (first | (refine cell_new ?_ rfl; (simp; done)) | refine cell_old ?_)
  have k7 : w2.cell? ⟨w1.heap.size, 3, none⟩ = some (.int .u64 0) := by rw [hw0]; repeat (first | (refine cell_new ?_ rfl; (simp; done)) | refine cell_old ?_)
  have fz2_0 : w2.frozen? ⟨w1.heap.size, 0, none⟩ = false := by rw [hw0]; repeat (first | (refine frz_new ?_; (simp; done)) | (refine frz_old (by first | (simp; done) | (simp; omega)) ?_))
  have fz2_1 : w2.frozen? ⟨w1.heap.size, 1, none⟩ = false := by rw [hw0]; repeat (first | (refine frz_new ?_; (simp; done)) | (refine frz_old (by first | (simp; done) | (simp; omega)) ?_))
  have fz2_2 : w2.frozen? ⟨w1.heap.size, 2, none⟩ = false := by rw [hw0]; repeat (first | (refine frz_new ?_; (simp; done)) | (refine frz_old (by first | (simp; done) | (simp; omega)) ?_))
  have fz2_3 : w2.frozen? ⟨w1.heap.size, 3, none⟩ = false := by rw [hw0]; repeat (first | (refine frz_new ?_; (simp; done)) | (refine frz_old (by first | (simp; done) | (simp; omega)) ?_))
  have z0 : w.heap.size < w2.heap.size := World.block_lt_of_cell? _ _ k0
  have z1 : w.heap.size + 1 < w2.heap.size := World.block_lt_of_cell? _ _ k2
  have z2 : w1.heap.size < w2.heap.size := World.block_lt_of_cell? _ _ k4
  replace hB : Below w.heap.size w w2 := by rw [hw0]; repeat (with_reducible first | exact hB | apply bel_alloc)
  rw [← hw0]
  clear hw0
  go_region_with (first
    | (go_at_call 61; refine (size_any n hn _).mono ?_; rintro e w3 ⟨rfl, rfl⟩)
    | (go_at_call 60; refine (words_times _ _ _ l1 l2 l3 _).mono ?_; rintro e w4 ⟨rfl, hb1⟩; replace f1_0 := frz_later (bel_call hb1 (by repeat (with_reducible first | exact bel_refl _ | apply bel_alloc | apply bel_drew))) k2 f1_0; replace f1_1 := frz_later (bel_call hb1 (by repeat (with_reducible first | exact bel_refl _ | apply bel_alloc | apply bel_drew))) k3 f1_1; replace fz2_0 := frz_later (bel_call hb1 (by repeat (with_reducible first | exact bel_refl _ | apply bel_alloc | apply bel_drew))) k4 fz2_0; replace fz2_1 := frz_later (bel_call hb1 (by repeat (with_reducible first | exact bel_refl _ | apply bel_alloc | apply bel_drew))) k5 fz2_1; replace fz2_2 := frz_later (bel_call hb1 (by repeat (with_reducible first | exact bel_refl _ | apply bel_alloc | apply bel_drew))) k6 fz2_2; replace fz2_3 := frz_later (bel_call hb1 (by repeat (with_reducible first | exact bel_refl _ | apply bel_alloc | apply bel_drew))) k7 fz2_3; replace hB := bel_call hb1 (by repeat (with_reducible first | exact hB | apply bel_alloc | apply bel_drew)); replace k0 := cell_later (bel_call hb1 (by repeat (with_reducible first | exact bel_refl _ | apply bel_alloc | apply bel_drew))) k0; replace k1 := cell_later (bel_call hb1 (by repeat (with_reducible first | exact bel_refl _ | apply bel_alloc | apply bel_drew))) k1; replace k2 := cell_later (bel_call hb1 (by repeat (with_reducible first | exact bel_refl _ | apply bel_alloc | apply bel_drew))) k2; replace k3 := cell_later (bel_call hb1 (by repeat (with_reducible first | exact bel_refl _ | apply bel_alloc | apply bel_drew))) k3; replace k4 := cell_later (bel_call hb1 (by repeat (with_reducible first | exact bel_refl _ | apply bel_alloc | apply bel_drew))) k4; replace k5 := cell_later (bel_call hb1 (by repeat (with_reducible first | exact bel_refl _ | apply bel_alloc | apply bel_drew))) k5; replace k6 := cell_later (bel_call hb1 (by repeat (with_reducible first | exact bel_refl _ | apply bel_alloc | apply bel_drew))) k6; replace k7 := cell_later (bel_call hb1 (by repeat (with_reducible first | exact bel_refl _ | apply bel_alloc | apply bel_drew))) k7; replace z0 := World.block_lt_of_cell? _ _ k0; replace z1 := World.block_lt_of_cell? _ _ k2; replace z2 := World.block_lt_of_cell? _ _ k4; simp only [] at z0 z1 z2; clear hb1; rw [em, e2]))
  · skip
    go_wp2_with fail
    obtain ⟨w5, hw0⟩ : ∃ x : World, x = ((((w4.setCell ⟨w1.heap.size, 1, none⟩ (.int .u64 (d0 (mag (a * n))))).setCell ⟨w1.heap.size, 2, none⟩ (.int .u64 (d1 (mag (a * n))))).setCell ⟨w1.heap.size, 3, none⟩ (.int .u64 0)).setCell ⟨w1.heap.size, 0, none⟩ (.bool q)) := ⟨_, rfl⟩
    have new_k0 : w5.cell? ⟨w.heap.size, 0, none⟩ = some (.int .i64 (hi (a))) := by rw [hw0]; exact (cell_set_ne (by omega) (cell_set_ne (by omega) (cell_set_ne (by omega) (cell_set_ne (by omega) k0))))
    have new_k1 : w5.cell? ⟨w.heap.size, 1, none⟩ = some (.int .u64 (lo (a))) := by rw [hw0]; exact (cell_set_ne (by omega) (cell_set_ne (by omega) (cell_set_ne (by omega) (cell_set_ne (by omega) k1))))
    have new_k2 : w5.cell? ⟨w.heap.size + 1, 0, none⟩ = some (.int .i64 0) := by rw [hw0]; exact (cell_set_ne (by omega) (cell_set_ne (by omega) (cell_set_ne (by omega) (cell_set_ne (by omega) k2))))
    have new_k3 : w5.cell? ⟨w.heap.size + 1, 1, none⟩ = some (.int .u64 0) := by rw [hw0]; exact (cell_set_ne (by omega) (cell_set_ne (by omega) (cell_set_ne (by omega) (cell_set_ne (by omega) k3))))
    have new_k4 : w5.cell? ⟨w1.heap.size, 0, none⟩ = some (.bool q) := by rw [hw0]; exact (cell_set_eq (cell_set_ne (by omega) (cell_set_ne (by omega) (cell_set_ne (by omega) k4))))
    have new_k5 : w5.cell? ⟨w1.heap.size, 1, none⟩ = some (.int .u64 (d0 (mag (a * n)))) := by rw [hw0]; exact (cell_set_ne (by omega) (cell_set_ne (by omega) (cell_set_ne (by omega) (cell_set_eq k5))))
    have new_k6 : w5.cell? ⟨w1.heap.size, 2, none⟩ = some (.int .u64 (d1 (mag (a * n)))) := by rw [hw0]; exact (cell_set_ne (by omega) (cell_set_ne (by omega) (cell_set_eq (cell_set_ne (by omega) k6))))
    have new_k7 : w5.cell? ⟨w1.heap.size, 3, none⟩ = some (.int .u64 0) := by rw [hw0]; exact (cell_set_ne (by omega) (cell_set_eq (cell_set_ne (by omega) (cell_set_ne (by omega) k7))))
    replace f1_0 : w5.frozen? ⟨w.heap.size + 1, 0, none⟩ = false := by rw [hw0]; (repeat rw [World.frozen?_setCell]); exact f1_0
    replace f1_1 : w5.frozen? ⟨w.heap.size + 1, 1, none⟩ = false := by rw [hw0]; (repeat rw [World.frozen?_setCell]); exact f1_1
    replace fz2_0 : w5.frozen? ⟨w1.heap.size, 0, none⟩ = false := by rw [hw0]; (repeat rw [World.frozen?_setCell]); exact fz2_0
    replace fz2_1 : w5.frozen? ⟨w1.heap.size, 1, none⟩ = false := by rw [hw0]; (repeat rw [World.frozen?_setCell]); exact fz2_1
    replace fz2_2 : w5.frozen? ⟨w1.heap.size, 2, none⟩ = false := by rw [hw0]; (repeat rw [World.frozen?_setCell]); exact fz2_2
    replace fz2_3 : w5.frozen? ⟨w1.heap.size, 3, none⟩ = false := by rw [hw0]; (repeat rw [World.frozen?_setCell]); exact fz2_3
    replace hB : Below w.heap.size w w5 := by rw [hw0]; repeat (with_reducible first | exact hB | refine bel_set _ (by omega) ?_)
    clear k0 k1 k2 k3 k4 k5 k6 k7
    have k0 := new_k0; clear new_k0
    have k1 := new_k1; clear new_k1
    have k2 := new_k2; clear new_k2
    have k3 := new_k3; clear new_k3
    have k4 := new_k4; clear new_k4
    have k5 := new_k5; clear new_k5
    have k6 := new_k6; clear new_k6
    have k7 := new_k7; clear new_k7
    replace z0 : w.heap.size < w5.heap.size := World.block_lt_of_cell? _ _ k0
    replace z1 : w.heap.size + 1 < w5.heap.size := World.block_lt_of_cell? _ _ k2
    replace z2 : w1.heap.size < w5.heap.size := World.block_lt_of_cell? _ _ k4
    rw [← hw0]
    clear hw0
    refine (whole_any _ _ hf _).mono ?_
    rintro e w6 ⟨rfl, hb1⟩
    rw [es]
    replace f1_0 := frz_later (bel_call hb1 (by repeat (with_reducible first | exact bel_refl _ | apply bel_alloc | apply bel_drew))) k2 f1_0
    replace f1_1 := frz_later (bel_call hb1 (by repeat (with_reducible first | exact bel_refl _ | apply bel_alloc | apply bel_drew))) k3 f1_1
    replace fz2_0 := frz_later (bel_call hb1 (by repeat (with_reducible first | exact bel_refl _ | apply bel_alloc | apply bel_drew))) k4 fz2_0
    replace fz2_1 := frz_later (bel_call hb1 (by repeat (with_reducible first | exact bel_refl _ | apply bel_alloc | apply bel_drew))) k5 fz2_1
    replace fz2_2 := frz_later (bel_call hb1 (by repeat (with_reducible first | exact bel_refl _ | apply bel_alloc | apply bel_drew))) k6 fz2_2
    replace fz2_3 := frz_later (bel_call hb1 (by repeat (with_reducible first | exact bel_refl _ | apply bel_alloc | apply bel_drew))) k7 fz2_3
    replace hB := bel_call hb1 (by repeat (with_reducible first | exact hB | apply bel_alloc | apply bel_drew))
    replace k0 := cell_later (bel_call hb1 (by repeat (with_reducible first | exact bel_refl _ | apply bel_alloc | apply bel_drew))) k0
    replace k1 := cell_later (bel_call hb1 (by repeat (with_reducible first | exact bel_refl _ | apply bel_alloc | apply bel_drew))) k1
    replace k2 := cell_later (bel_call hb1 (by repeat (with_reducible first | exact bel_refl _ | apply bel_alloc | apply bel_drew))) k2
    replace k3 := cell_later (bel_call hb1 (by repeat (with_reducible first | exact bel_refl _ | apply bel_alloc | apply bel_drew))) k3
    replace k4 := cell_later (bel_call hb1 (by repeat (with_reducible first | exact bel_refl _ | apply bel_alloc | apply bel_drew))) k4
    replace k5 := cell_later (bel_call hb1 (by repeat (with_reducible first | exact bel_refl _ | apply bel_alloc | apply bel_drew))) k5
    replace k6 := cell_later (bel_call hb1 (by repeat (with_reducible first | exact bel_refl _ | apply bel_alloc | apply bel_drew))) k6
    replace k7 := cell_later (bel_call hb1 (by repeat (with_reducible first | exact bel_refl _ | apply bel_alloc | apply bel_drew))) k7
    replace z0 := World.block_lt_of_cell? _ _ k0
    replace z1 := World.block_lt_of_cell? _ _ k2
    replace z2 := World.block_lt_of_cell? _ _ k4
    simp only [] at z0 z1 z2
    clear hb1
    go_wp2
    exact bodyPost_ret (v := .tuple #[.agg #[.int .i64 (hi (a * n)), .int .u64 (lo (a * n))], .int .i64 0]) (by simp [results, Try.results48, go_sem, *]) rfl ⟨rfl, by repeat (with_reducible first | exact hB | refine bel_set _ (by omega) ?_ | apply bel_alloc | apply bel_drew)⟩
  · skip
    go_wp2_with fail
    obtain ⟨w5, hw0⟩ : ∃ x : World, x = ((((w4.setCell ⟨w1.heap.size, 1, none⟩ (.int .u64 (d0 (mag (a * n))))).setCell ⟨w1.heap.size, 2, none⟩ (.int .u64 (d1 (mag (a * n))))).setCell ⟨w1.heap.size, 3, none⟩ (.int .u64 0)).setCell ⟨w1.heap.size, 0, none⟩ (.bool q)) := ⟨_, rfl⟩
    have new_k0 : w5.cell? ⟨w.heap.size, 0, none⟩ = some (.int .i64 (hi (a))) := by rw [hw0]; exact (cell_set_ne (by omega) (cell_set_ne (by omega) (cell_set_ne (by omega) (cell_set_ne (by omega) k0))))
    have new_k1 : w5.cell? ⟨w.heap.size, 1, none⟩ = some (.int .u64 (lo (a))) := by rw [hw0]; exact (cell_set_ne (by omega) (cell_set_ne (by omega) (cell_set_ne (by omega) (cell_set_ne (by omega) k1))))
    have new_k2 : w5.cell? ⟨w.heap.size + 1, 0, none⟩ = some (.int .i64 0) := by rw [hw0]; exact (cell_set_ne (by omega) (cell_set_ne (by omega) (cell_set_ne (by omega) (cell_set_ne (by omega) k2))))
    have new_k3 : w5.cell? ⟨w.heap.size + 1, 1, none⟩ = some (.int .u64 0) := by rw [hw0]; exact (cell_set_ne (by omega) (cell_set_ne (by omega) (cell_set_ne (by omega) (cell_set_ne (by omega) k3))))
    have new_k4 : w5.cell? ⟨w1.heap.size, 0, none⟩ = some (.bool q) := by rw [hw0]; exact (cell_set_eq (cell_set_ne (by omega) (cell_set_ne (by omega) (cell_set_ne (by omega) k4))))
    have new_k5 : w5.cell? ⟨w1.heap.size, 1, none⟩ = some (.int .u64 (d0 (mag (a * n)))) := by rw [hw0]; exact (cell_set_ne (by omega) (cell_set_ne (by omega) (cell_set_ne (by omega) (cell_set_eq k5))))
    have new_k6 : w5.cell? ⟨w1.heap.size, 2, none⟩ = some (.int .u64 (d1 (mag (a * n)))) := by rw [hw0]; exact (cell_set_ne (by omega) (cell_set_ne (by omega) (cell_set_eq (cell_set_ne (by omega) k6))))
    have new_k7 : w5.cell? ⟨w1.heap.size, 3, none⟩ = some (.int .u64 0) := by rw [hw0]; exact (cell_set_ne (by omega) (cell_set_eq (cell_set_ne (by omega) (cell_set_ne (by omega) k7))))
    replace f1_0 : w5.frozen? ⟨w.heap.size + 1, 0, none⟩ = false := by rw [hw0]; (repeat rw [World.frozen?_setCell]); exact f1_0
    replace f1_1 : w5.frozen? ⟨w.heap.size + 1, 1, none⟩ = false := by rw [hw0]; (repeat rw [World.frozen?_setCell]); exact f1_1
    replace fz2_0 : w5.frozen? ⟨w1.heap.size, 0, none⟩ = false := by rw [hw0]; (repeat rw [World.frozen?_setCell]); exact fz2_0
    replace fz2_1 : w5.frozen? ⟨w1.heap.size, 1, none⟩ = false := by rw [hw0]; (repeat rw [World.frozen?_setCell]); exact fz2_1
    replace fz2_2 : w5.frozen? ⟨w1.heap.size, 2, none⟩ = false := by rw [hw0]; (repeat rw [World.frozen?_setCell]); exact fz2_2
    replace fz2_3 : w5.frozen? ⟨w1.heap.size, 3, none⟩ = false := by rw [hw0]; (repeat rw [World.frozen?_setCell]); exact fz2_3
    replace hB : Below w.heap.size w w5 := by rw [hw0]; repeat (with_reducible first | exact hB | refine bel_set _ (by omega) ?_)
    clear k0 k1 k2 k3 k4 k5 k6 k7
    have k0 := new_k0; clear new_k0
    have k1 := new_k1; clear new_k1
    have k2 := new_k2; clear new_k2
    have k3 := new_k3; clear new_k3
    have k4 := new_k4; clear new_k4
    have k5 := new_k5; clear new_k5
    have k6 := new_k6; clear new_k6
    have k7 := new_k7; clear new_k7
    replace z0 : w.heap.size < w5.heap.size := World.block_lt_of_cell? _ _ k0
    replace z1 : w.heap.size + 1 < w5.heap.size := World.block_lt_of_cell? _ _ k2
    replace z2 : w1.heap.size < w5.heap.size := World.block_lt_of_cell? _ _ k4
    rw [← hw0]
    clear hw0
    refine (whole_any _ _ hf _).mono ?_
    rintro e w6 ⟨rfl, hb1⟩
    rw [es]
    replace f1_0 := frz_later (bel_call hb1 (by repeat (with_reducible first | exact bel_refl _ | apply bel_alloc | apply bel_drew))) k2 f1_0
    replace f1_1 := frz_later (bel_call hb1 (by repeat (with_reducible first | exact bel_refl _ | apply bel_alloc | apply bel_drew))) k3 f1_1
    replace fz2_0 := frz_later (bel_call hb1 (by repeat (with_reducible first | exact bel_refl _ | apply bel_alloc | apply bel_drew))) k4 fz2_0
    replace fz2_1 := frz_later (bel_call hb1 (by repeat (with_reducible first | exact bel_refl _ | apply bel_alloc | apply bel_drew))) k5 fz2_1
    replace fz2_2 := frz_later (bel_call hb1 (by repeat (with_reducible first | exact bel_refl _ | apply bel_alloc | apply bel_drew))) k6 fz2_2
    replace fz2_3 := frz_later (bel_call hb1 (by repeat (with_reducible first | exact bel_refl _ | apply bel_alloc | apply bel_drew))) k7 fz2_3
    replace hB := bel_call hb1 (by repeat (with_reducible first | exact hB | apply bel_alloc | apply bel_drew))
    replace k0 := cell_later (bel_call hb1 (by repeat (with_reducible first | exact bel_refl _ | apply bel_alloc | apply bel_drew))) k0
    replace k1 := cell_later (bel_call hb1 (by repeat (with_reducible first | exact bel_refl _ | apply bel_alloc | apply bel_drew))) k1
    replace k2 := cell_later (bel_call hb1 (by repeat (with_reducible first | exact bel_refl _ | apply bel_alloc | apply bel_drew))) k2
    replace k3 := cell_later (bel_call hb1 (by repeat (with_reducible first | exact bel_refl _ | apply bel_alloc | apply bel_drew))) k3
    replace k4 := cell_later (bel_call hb1 (by repeat (with_reducible first | exact bel_refl _ | apply bel_alloc | apply bel_drew))) k4
    replace k5 := cell_later (bel_call hb1 (by repeat (with_reducible first | exact bel_refl _ | apply bel_alloc | apply bel_drew))) k5
    replace k6 := cell_later (bel_call hb1 (by repeat (with_reducible first | exact bel_refl _ | apply bel_alloc | apply bel_drew))) k6
    replace k7 := cell_later (bel_call hb1 (by repeat (with_reducible first | exact bel_refl _ | apply bel_alloc | apply bel_drew))) k7
    replace z0 := World.block_lt_of_cell? _ _ k0
    replace z1 := World.block_lt_of_cell? _ _ k2
    replace z2 := World.block_lt_of_cell? _ _ k4
    simp only [] at z0 z1 z2
    clear hb1
    go_wp2
    exact bodyPost_ret (v := .tuple #[.agg #[.int .i64 (hi (a * n)), .int .u64 (lo (a * n))], .int .i64 0]) (by simp [results, Try.results48, go_sem, *]) rfl ⟨rfl, by repeat (with_reducible first | exact hB | refine bel_set _ (by omega) ?_ | apply bel_alloc | apply bel_drew)⟩
theorem mul_any (a n : Int) (ha : I64 a) (hn : I64 n) (w : World) : Calls Try.prog 38 #[.int .i64 a, .int .i64 n] w fun e w' => e = .returned (.agg #[.int .i64 (hi (a * n)), .int .u64 (lo (a * n))]) ∧ Below w.heap.size w w' := by
  have hb := Wi.big_mul a n ha hn
  go_enter Try.func38, Try.ntmps38
  go_wp2_with fail
  obtain ⟨w0, hw0⟩ : ∃ x : World, x = (w.alloc (.cells #[.int .i64 0, .int .u64 0] 61)) := ⟨_, rfl⟩
  have k0 : w0.cell? ⟨w.heap.size, 0, none⟩ = some (.int .i64 0) := by rw [hw0]; repeat (first | (refine cell_new ?_ rfl; (simp; done)) | refine cell_old ?_)
  have k1 : w0.cell? ⟨w.heap.size, 1, none⟩ = some (.int .u64 0) := by rw [hw0]; repeat (first | (refine cell_new ?_ rfl; (simp; done)) | refine cell_old ?_)
  have z0 : w.heap.size < w0.heap.size := World.block_lt_of_cell? _ _ k0
  have hB : Below w.heap.size w w0 := by rw [hw0]; repeat (with_reducible first | exact bel_refl _ | apply bel_alloc)
  have f0_0 : w0.frozen? ⟨w.heap.size, 0, none⟩ = false := by rw [hw0]; repeat (first | (refine frz_new ?_; (simp; done)) | (refine frz_old (by first | (simp; done) | (simp; omega)) ?_))
  have f0_1 : w0.frozen? ⟨w.heap.size, 1, none⟩ = false := by rw [hw0]; repeat (first | (refine frz_new ?_; (simp; done)) | (refine frz_old (by first | (simp; done) | (simp; omega)) ?_))
  rw [← hw0]
  clear hw0
  go_wp2_with (first
    | (go_at_call 49; refine (of_any a ha _).mono ?_; rintro e w1 ⟨rfl, hb1⟩; replace f0_0 := frz_later (bel_call hb1 (by repeat (with_reducible first | exact bel_refl _ | apply bel_alloc | apply bel_drew))) k0 f0_0; replace f0_1 := frz_later (bel_call hb1 (by repeat (with_reducible first | exact bel_refl _ | apply bel_alloc | apply bel_drew))) k1 f0_1; replace hB := bel_call hb1 (by repeat (with_reducible first | exact hB | apply bel_alloc | apply bel_drew)); replace k0 := cell_later (bel_call hb1 (by repeat (with_reducible first | exact bel_refl _ | apply bel_alloc | apply bel_drew))) k0; replace k1 := cell_later (bel_call hb1 (by repeat (with_reducible first | exact bel_refl _ | apply bel_alloc | apply bel_drew))) k1; replace z0 := World.block_lt_of_cell? _ _ k0; simp only [] at z0; clear hb1)
    | (go_at_call 48; refine (times_any a n _ _ rfl rfl (big_of a ha) hn hb _).mono ?_; rintro e w1 ⟨rfl, hb1⟩; replace f0_0 := frz_later (bel_call hb1 (by repeat (with_reducible first | exact bel_refl _ | apply bel_alloc | apply bel_drew))) k0 f0_0; replace f0_1 := frz_later (bel_call hb1 (by repeat (with_reducible first | exact bel_refl _ | apply bel_alloc | apply bel_drew))) k1 f0_1; replace hB := bel_call hb1 (by repeat (with_reducible first | exact hB | apply bel_alloc | apply bel_drew)); replace k0 := cell_later (bel_call hb1 (by repeat (with_reducible first | exact bel_refl _ | apply bel_alloc | apply bel_drew))) k0; replace k1 := cell_later (bel_call hb1 (by repeat (with_reducible first | exact bel_refl _ | apply bel_alloc | apply bel_drew))) k1; replace z0 := World.block_lt_of_cell? _ _ k0; simp only [] at z0; clear hb1))
  exact bodyPost_ret (v := .agg #[.int .i64 (hi (a * n)), .int .u64 (lo (a * n))]) (by simp [results, Try.results38, go_sem, *]) rfl ⟨rfl, by repeat (with_reducible first | exact hB | refine bel_set _ (by omega) ?_ | apply bel_alloc | apply bel_drew)⟩
end Go.Proofs.Ytnhhphdhkgjbhaa
