/- What is proved: what wides.Floor and Near return, whatever the number's sign is. -/
import Derived.Test.YtnhhphdhkgjbhaaWh
set_option linter.unusedSimpArgs false
set_option linter.unusedVariables false
namespace Go.Proofs.Ytnhhphdhkgjbhaa
open Go.RowKit Wi Dv

theorem floor_any (a d : Int) (ha : Big a) (hd : 0 < d) (hd' : d ≤ 9223372036854775807) (w : World) : Calls Try.prog 50 #[.agg #[.int .i64 (hi (a)), .int .u64 (lo (a))], .int .i64 d] w fun e w' => e = .returned (.tuple #[.agg #[.int .i64 (hi (a / d)), .int .u64 (lo (a / d))], .int .i64 (a % d), .int .i64 0]) ∧ Below w.heap.size w w' := by
  by_cases hn : a < 0
  · have r0 := Int.emod_nonneg (mag a) (show d ≠ 0 by omega)
    by_cases hz : mag a % d = 0
    · exact floor_neg a d _ _ ha hd hd' hn hz rfl rfl w
    · exact floor_less a d _ _ ha hd hd' hn (by omega) rfl rfl w
  · exact floor_pos a d _ _ ha hd hd' hn rfl rfl w
theorem big_div (a d : Int) (ha : Big a) (hd : 0 < d) : Big (a / d) := by
  unfold Big at *
  have e := Int.emod_add_mul_ediv a d
  have r0 := Int.emod_nonneg a (show d ≠ 0 by omega)
  have r1 := Int.emod_lt_of_pos a hd
  exact ⟨(Int.le_ediv_iff_mul_le hd).2 (by omega), (Int.ediv_lt_iff_lt_mul hd).2 (by omega)⟩
theorem big_div1 (a d : Int) (ha : Big a) (hd : 0 < d) (h : d - a % d ≤ a % d) : Big (a / d + 1) := by
  have hb := big_div a d ha hd
  unfold Big at *
  have r1 := Int.emod_lt_of_pos a hd
  have hd2 : 2 ≤ d := by
    rcases Int.lt_or_le 1 d with g | g
    · omega
    · have : d = 1 := by omega
      subst this; simp at h
  have : a / d < 170141183460469231731687303715884105727 := (Int.ediv_lt_iff_lt_mul hd).2 (by omega)
  omega

set_option maxHeartbeats 800000 in
theorem near_lo_any (a d q : Int) (ha : Big a) (hd : 0 < d) (hd' : d ≤ 9223372036854775807) (hc : ¬ d - a % d ≤ a % d) (hq : q = near a d) (w : World) : Calls Try.prog 39 #[.agg #[.int .i64 (hi (a)), .int .u64 (lo (a))], .int .i64 d] w fun e w' => e = .returned (.tuple #[.agg #[.int .i64 (hi (q)), .int .u64 (lo (q))], .int .i64 0]) ∧ Below w.heap.size w w' := by
  have r0 := Int.emod_nonneg a (show d ≠ 0 by omega)
  have r1 := Int.emod_lt_of_pos a hd
  have c1 : wrap64 (d - a % d) = d - a % d := IntWalk.wrap64_in _ (by omega)
  have c2 : IntKind.i64.wrap (d - a % d) = d - a % d := IntWalk.i64_in _ (by omega)
  have eq : a / d = q := by rw [hq, near_lo a d hd hc]
  clear hq
  go_enter Try.func39, Try.ntmps39
  go_wp2_with fail
  obtain ⟨w0, hw0⟩ : ∃ x : World, x = ((w.alloc (.cells #[.int .i64 (hi (a)), .int .u64 (lo (a))] 61)).alloc (.cells #[.int .i64 0, .int .u64 0] 61)) := ⟨_, rfl⟩
  have k0 : w0.cell? ⟨w.heap.size, 0, none⟩ = some (.int .i64 (hi (a))) := by rw [hw0]; repeat (first | (refine cell_new ?_ rfl; (simp; done)) | refine cell_old ?_)
  have k1 : w0.cell? ⟨w.heap.size, 1, none⟩ = some (.int .u64 (lo (a))) := by rw [hw0]; repeat (first | (refine cell_new ?_ rfl; (simp; done)) | refine cell_old ?_)
  have k2 : w0.cell? ⟨w.heap.size + 1, 0, none⟩ = some (.int .i64 0) := by rw [hw0]; repeat (first | (refine cell_new ?_ rfl; (simp; done)) | refine cell_old ?_)
  have k3 : w0.cell? ⟨w.heap.size + 1, 1, none⟩ = some (.int .u64 0) := by rw [hw0]; repeat (first | (refine cell_new ?_ rfl; (simp; done)) | refine cell_old ?_)
  have z0 : w.heap.size < w0.heap.size := World.block_lt_of_cell? _ _ k0
  have z1 : w.heap.size + 1 < w0.heap.size := World.block_lt_of_cell? _ _ k2
  have hB : Below w.heap.size w w0 := by rw [hw0]; repeat (with_reducible first | exact bel_refl _ | apply bel_alloc)
  have f1_0 : w0.frozen? ⟨w.heap.size + 1, 0, none⟩ = false := by rw [hw0]; repeat (first | (refine frz_new ?_; (simp; done)) | (refine frz_old (by first | (simp; done) | (simp; omega)) ?_))
  have f1_1 : w0.frozen? ⟨w.heap.size + 1, 1, none⟩ = false := by rw [hw0]; repeat (first | (refine frz_new ?_; (simp; done)) | (refine frz_old (by first | (simp; done) | (simp; omega)) ?_))
  rw [← hw0]
  clear hw0
  refine (floor_any a d ha hd hd' _).mono ?_
  rintro e w1 ⟨rfl, hb1⟩
  replace f1_0 := frz_later (bel_call hb1 (by repeat (with_reducible first | exact bel_refl _ | apply bel_alloc | apply bel_drew))) k2 f1_0
  replace f1_1 := frz_later (bel_call hb1 (by repeat (with_reducible first | exact bel_refl _ | apply bel_alloc | apply bel_drew))) k3 f1_1
  replace hB := bel_call hb1 (by repeat (with_reducible first | exact hB | apply bel_alloc | apply bel_drew))
  replace k0 := cell_later (bel_call hb1 (by repeat (with_reducible first | exact bel_refl _ | apply bel_alloc | apply bel_drew))) k0
  replace k1 := cell_later (bel_call hb1 (by repeat (with_reducible first | exact bel_refl _ | apply bel_alloc | apply bel_drew))) k1
  replace k2 := cell_later (bel_call hb1 (by repeat (with_reducible first | exact bel_refl _ | apply bel_alloc | apply bel_drew))) k2
  replace k3 := cell_later (bel_call hb1 (by repeat (with_reducible first | exact bel_refl _ | apply bel_alloc | apply bel_drew))) k3
  replace z0 := World.block_lt_of_cell? _ _ k0
  replace z1 := World.block_lt_of_cell? _ _ k2
  simp only [] at z0 z1
  clear hb1
  generalize a % d = r at *
  rw [eq]
  go_wp2
  obtain ⟨w9, hw0⟩ : ∃ x : World, x = ((w1.setCell ⟨w.heap.size + 1, 0, none⟩ (.int .i64 (hi q))).setCell ⟨w.heap.size + 1, 1, none⟩ (.int .u64 (lo q))) := ⟨_, rfl⟩
  have new_k0 : w9.cell? ⟨w.heap.size, 0, none⟩ = some (.int .i64 (hi (a))) := by rw [hw0]; exact (cell_set_ne (by omega) (cell_set_ne (by omega) k0))
  have new_k1 : w9.cell? ⟨w.heap.size, 1, none⟩ = some (.int .u64 (lo (a))) := by rw [hw0]; exact (cell_set_ne (by omega) (cell_set_ne (by omega) k1))
  have new_k2 : w9.cell? ⟨w.heap.size + 1, 0, none⟩ = some (.int .i64 (hi q)) := by rw [hw0]; exact (cell_set_ne (by omega) (cell_set_eq k2))
  have new_k3 : w9.cell? ⟨w.heap.size + 1, 1, none⟩ = some (.int .u64 (lo q)) := by rw [hw0]; exact (cell_set_eq (cell_set_ne (by omega) k3))
  replace f1_0 : w9.frozen? ⟨w.heap.size + 1, 0, none⟩ = false := by rw [hw0]; (repeat rw [World.frozen?_setCell]); exact f1_0
  replace f1_1 : w9.frozen? ⟨w.heap.size + 1, 1, none⟩ = false := by rw [hw0]; (repeat rw [World.frozen?_setCell]); exact f1_1
  replace hB : Below w.heap.size w w9 := by rw [hw0]; repeat (with_reducible first | exact hB | refine bel_set _ (by omega) ?_)
  clear k0 k1 k2 k3
  have k0 := new_k0; clear new_k0
  have k1 := new_k1; clear new_k1
  have k2 := new_k2; clear new_k2
  have k3 := new_k3; clear new_k3
  replace z0 : w.heap.size < w9.heap.size := World.block_lt_of_cell? _ _ k0
  replace z1 : w.heap.size + 1 < w9.heap.size := World.block_lt_of_cell? _ _ k2
  rw [← hw0]
  clear hw0
  exact bodyPost_ret (v := .tuple #[.agg #[.int .i64 (hi (q)), .int .u64 (lo (q))], .int .i64 0]) (by simp [results, Try.results39, go_sem, *]) rfl ⟨rfl, by repeat (with_reducible first | exact hB | refine bel_set _ (by omega) ?_ | apply bel_alloc | apply bel_drew)⟩
set_option maxHeartbeats 800000 in
theorem near_hi_any (a d q : Int) (ha : Big a) (hd : 0 < d) (hd' : d ≤ 9223372036854775807) (hc : d - a % d ≤ a % d) (hq : q = near a d) (w : World) : Calls Try.prog 39 #[.agg #[.int .i64 (hi (a)), .int .u64 (lo (a))], .int .i64 d] w fun e w' => e = .returned (.tuple #[.agg #[.int .i64 (hi (q)), .int .u64 (lo (q))], .int .i64 0]) ∧ Below w.heap.size w w' := by
  have r0 := Int.emod_nonneg a (show d ≠ 0 by omega)
  have r1 := Int.emod_lt_of_pos a hd
  have c1 : wrap64 (d - a % d) = d - a % d := IntWalk.wrap64_in _ (by omega)
  have c2 : IntKind.i64.wrap (d - a % d) = d - a % d := IntWalk.i64_in _ (by omega)
  have eq : a / d + 1 = q := by rw [hq, near_hi a d hd hc]
  have hb := big_div a d ha hd
  have hone : Big 1 := by unfold Big; omega
  have hb1' := big_div1 a d ha hd hc
  clear hq
  go_enter Try.func39, Try.ntmps39
  go_wp2_with fail
  obtain ⟨w0, hw0⟩ : ∃ x : World, x = ((w.alloc (.cells #[.int .i64 (hi (a)), .int .u64 (lo (a))] 61)).alloc (.cells #[.int .i64 0, .int .u64 0] 61)) := ⟨_, rfl⟩
  have k0 : w0.cell? ⟨w.heap.size, 0, none⟩ = some (.int .i64 (hi (a))) := by rw [hw0]; repeat (first | (refine cell_new ?_ rfl; (simp; done)) | refine cell_old ?_)
  have k1 : w0.cell? ⟨w.heap.size, 1, none⟩ = some (.int .u64 (lo (a))) := by rw [hw0]; repeat (first | (refine cell_new ?_ rfl; (simp; done)) | refine cell_old ?_)
  have k2 : w0.cell? ⟨w.heap.size + 1, 0, none⟩ = some (.int .i64 0) := by rw [hw0]; repeat (first | (refine cell_new ?_ rfl; (simp; done)) | refine cell_old ?_)
  have k3 : w0.cell? ⟨w.heap.size + 1, 1, none⟩ = some (.int .u64 0) := by rw [hw0]; repeat (first | (refine cell_new ?_ rfl; (simp; done)) | refine cell_old ?_)
  have z0 : w.heap.size < w0.heap.size := World.block_lt_of_cell? _ _ k0
  have z1 : w.heap.size + 1 < w0.heap.size := World.block_lt_of_cell? _ _ k2
  have hB : Below w.heap.size w w0 := by rw [hw0]; repeat (with_reducible first | exact bel_refl _ | apply bel_alloc)
  have f1_0 : w0.frozen? ⟨w.heap.size + 1, 0, none⟩ = false := by rw [hw0]; repeat (first | (refine frz_new ?_; (simp; done)) | (refine frz_old (by first | (simp; done) | (simp; omega)) ?_))
  have f1_1 : w0.frozen? ⟨w.heap.size + 1, 1, none⟩ = false := by rw [hw0]; repeat (first | (refine frz_new ?_; (simp; done)) | (refine frz_old (by first | (simp; done) | (simp; omega)) ?_))
  rw [← hw0]
  clear hw0
  refine (floor_any a d ha hd hd' _).mono ?_
  rintro e w1 ⟨rfl, hb1⟩
  replace f1_0 := frz_later (bel_call hb1 (by repeat (with_reducible first | exact bel_refl _ | apply bel_alloc | apply bel_drew))) k2 f1_0
  replace f1_1 := frz_later (bel_call hb1 (by repeat (with_reducible first | exact bel_refl _ | apply bel_alloc | apply bel_drew))) k3 f1_1
  replace hB := bel_call hb1 (by repeat (with_reducible first | exact hB | apply bel_alloc | apply bel_drew))
  replace k0 := cell_later (bel_call hb1 (by repeat (with_reducible first | exact bel_refl _ | apply bel_alloc | apply bel_drew))) k0
  replace k1 := cell_later (bel_call hb1 (by repeat (with_reducible first | exact bel_refl _ | apply bel_alloc | apply bel_drew))) k1
  replace k2 := cell_later (bel_call hb1 (by repeat (with_reducible first | exact bel_refl _ | apply bel_alloc | apply bel_drew))) k2
  replace k3 := cell_later (bel_call hb1 (by repeat (with_reducible first | exact bel_refl _ | apply bel_alloc | apply bel_drew))) k3
  replace z0 := World.block_lt_of_cell? _ _ k0
  replace z1 := World.block_lt_of_cell? _ _ k2
  simp only [] at z0 z1
  clear hb1
  generalize a % d = r at *
  go_wp2
  obtain ⟨w2, hw0⟩ : ∃ x : World, x = (w1.alloc (.cells #[.int .i64 (hi (a / d)), .int .u64 (lo (a / d))] 61)) := ⟨_, rfl⟩
  replace f1_0 : w2.frozen? ⟨w.heap.size + 1, 0, none⟩ = false := by rw [hw0]; exact frz_later (by repeat (with_reducible first | exact bel_refl _ | apply bel_alloc | apply bel_drew)) k2 f1_0
  replace f1_1 : w2.frozen? ⟨w.heap.size + 1, 1, none⟩ = false := by rw [hw0]; exact frz_later (by repeat (with_reducible first | exact bel_refl _ | apply bel_alloc | apply bel_drew)) k3 f1_1
  replace k0 : w2.cell? ⟨w.heap.size, 0, none⟩ = some (.int .i64 (hi (a))) := by rw [hw0]; exact cell_later (by repeat (with_reducible first | exact bel_refl _ | apply bel_alloc | apply bel_drew)) k0
  replace k1 : w2.cell? ⟨w.heap.size, 1, none⟩ = some (.int .u64 (lo (a))) := by rw [hw0]; exact cell_later (by repeat (with_reducible first | exact bel_refl _ | apply bel_alloc | apply bel_drew)) k1
  replace k2 : w2.cell? ⟨w.heap.size + 1, 0, none⟩ = some (.int .i64 0) := by rw [hw0]; exact cell_later (by repeat (with_reducible first | exact bel_refl _ | apply bel_alloc | apply bel_drew)) k2
  replace k3 : w2.cell? ⟨w.heap.size + 1, 1, none⟩ = some (.int .u64 0) := by rw [hw0]; exact cell_later (by repeat (with_reducible first | exact bel_refl _ | apply bel_alloc | apply bel_drew)) k3
  have k4 : w2.cell? ⟨w1.heap.size, 0, none⟩ = some (.int .i64 (hi (a / d))) := by rw [hw0]; repeat (first | (refine cell_new ?_ rfl; (simp; done)) | refine cell_old ?_)
  have k5 : w2.cell? ⟨w1.heap.size, 1, none⟩ = some (.int .u64 (lo (a / d))) := by rw [hw0]; repeat (first | (refine cell_new ?_ rfl; (simp; done)) | refine cell_old ?_)
  have fz2_0 : w2.frozen? ⟨w1.heap.size, 0, none⟩ = false := by rw [hw0]; repeat (first | (refine frz_new ?_; (simp; done)) | (refine frz_old (by first | (simp; done) | (simp; omega)) ?_))
  have fz2_1 : w2.frozen? ⟨w1.heap.size, 1, none⟩ = false := by rw [hw0]; repeat (first | (refine frz_new ?_; (simp; done)) | (refine frz_old (by first | (simp; done) | (simp; omega)) ?_))
  have z0 : w.heap.size < w2.heap.size := World.block_lt_of_cell? _ _ k0
  have z1 : w.heap.size + 1 < w2.heap.size := World.block_lt_of_cell? _ _ k2
  have z2 : w1.heap.size < w2.heap.size := World.block_lt_of_cell? _ _ k4
  replace hB : Below w.heap.size w w2 := by rw [hw0]; repeat (with_reducible first | exact hB | apply bel_alloc)
  rw [← hw0]
  clear hw0
  go_region_with (first
    | (go_at_call 49; refine (of_any 1 ⟨by omega, by omega⟩ _).mono ?_; rintro e w7 ⟨rfl, hb1⟩; replace f1_0 := frz_later (bel_call hb1 (by repeat (with_reducible first | exact bel_refl _ | apply bel_alloc | apply bel_drew))) k2 f1_0; replace f1_1 := frz_later (bel_call hb1 (by repeat (with_reducible first | exact bel_refl _ | apply bel_alloc | apply bel_drew))) k3 f1_1; replace fz2_0 := frz_later (bel_call hb1 (by repeat (with_reducible first | exact bel_refl _ | apply bel_alloc | apply bel_drew))) k4 fz2_0; replace fz2_1 := frz_later (bel_call hb1 (by repeat (with_reducible first | exact bel_refl _ | apply bel_alloc | apply bel_drew))) k5 fz2_1; replace hB := bel_call hb1 (by repeat (with_reducible first | exact hB | apply bel_alloc | apply bel_drew)); replace k0 := cell_later (bel_call hb1 (by repeat (with_reducible first | exact bel_refl _ | apply bel_alloc | apply bel_drew))) k0; replace k1 := cell_later (bel_call hb1 (by repeat (with_reducible first | exact bel_refl _ | apply bel_alloc | apply bel_drew))) k1; replace k2 := cell_later (bel_call hb1 (by repeat (with_reducible first | exact bel_refl _ | apply bel_alloc | apply bel_drew))) k2; replace k3 := cell_later (bel_call hb1 (by repeat (with_reducible first | exact bel_refl _ | apply bel_alloc | apply bel_drew))) k3; replace k4 := cell_later (bel_call hb1 (by repeat (with_reducible first | exact bel_refl _ | apply bel_alloc | apply bel_drew))) k4; replace k5 := cell_later (bel_call hb1 (by repeat (with_reducible first | exact bel_refl _ | apply bel_alloc | apply bel_drew))) k5; replace z0 := World.block_lt_of_cell? _ _ k0; replace z1 := World.block_lt_of_cell? _ _ k2; replace z2 := World.block_lt_of_cell? _ _ k4; simp only [] at z0 z1 z2; clear hb1)
    | (go_at_call 37; refine (add_any _ _ hb hone hb1' _).mono ?_; rintro e w8 ⟨rfl, hb1⟩; replace f1_0 := frz_later (bel_call hb1 (by repeat (with_reducible first | exact bel_refl _ | apply bel_alloc | apply bel_drew))) k2 f1_0; replace f1_1 := frz_later (bel_call hb1 (by repeat (with_reducible first | exact bel_refl _ | apply bel_alloc | apply bel_drew))) k3 f1_1; replace fz2_0 := frz_later (bel_call hb1 (by repeat (with_reducible first | exact bel_refl _ | apply bel_alloc | apply bel_drew))) k4 fz2_0; replace fz2_1 := frz_later (bel_call hb1 (by repeat (with_reducible first | exact bel_refl _ | apply bel_alloc | apply bel_drew))) k5 fz2_1; replace hB := bel_call hb1 (by repeat (with_reducible first | exact hB | apply bel_alloc | apply bel_drew)); replace k0 := cell_later (bel_call hb1 (by repeat (with_reducible first | exact bel_refl _ | apply bel_alloc | apply bel_drew))) k0; replace k1 := cell_later (bel_call hb1 (by repeat (with_reducible first | exact bel_refl _ | apply bel_alloc | apply bel_drew))) k1; replace k2 := cell_later (bel_call hb1 (by repeat (with_reducible first | exact bel_refl _ | apply bel_alloc | apply bel_drew))) k2; replace k3 := cell_later (bel_call hb1 (by repeat (with_reducible first | exact bel_refl _ | apply bel_alloc | apply bel_drew))) k3; replace k4 := cell_later (bel_call hb1 (by repeat (with_reducible first | exact bel_refl _ | apply bel_alloc | apply bel_drew))) k4; replace k5 := cell_later (bel_call hb1 (by repeat (with_reducible first | exact bel_refl _ | apply bel_alloc | apply bel_drew))) k5; replace z0 := World.block_lt_of_cell? _ _ k0; replace z1 := World.block_lt_of_cell? _ _ k2; replace z2 := World.block_lt_of_cell? _ _ k4; simp only [] at z0 z1 z2; clear hb1; rw [eq]))
  all_goals go_wp2
  · skip
    obtain ⟨w9, hw0⟩ : ∃ x : World, x = ((((w8.setCell ⟨w1.heap.size, 0, none⟩ (.int .i64 (hi q))).setCell ⟨w1.heap.size, 1, none⟩ (.int .u64 (lo q))).setCell ⟨w.heap.size + 1, 0, none⟩ (.int .i64 (hi q))).setCell ⟨w.heap.size + 1, 1, none⟩ (.int .u64 (lo q))) := ⟨_, rfl⟩
    have new_k0 : w9.cell? ⟨w.heap.size, 0, none⟩ = some (.int .i64 (hi (a))) := by rw [hw0]; exact (cell_set_ne (by omega) (cell_set_ne (by omega) (cell_set_ne (by omega) (cell_set_ne (by omega) k0))))
    have new_k1 : w9.cell? ⟨w.heap.size, 1, none⟩ = some (.int .u64 (lo (a))) := by rw [hw0]; exact (cell_set_ne (by omega) (cell_set_ne (by omega) (cell_set_ne (by omega) (cell_set_ne (by omega) k1))))
    have new_k2 : w9.cell? ⟨w.heap.size + 1, 0, none⟩ = some (.int .i64 (hi q)) := by rw [hw0]; exact (cell_set_ne (by omega) (cell_set_eq (cell_set_ne (by omega) (cell_set_ne (by omega) k2))))
    have new_k3 : w9.cell? ⟨w.heap.size + 1, 1, none⟩ = some (.int .u64 (lo q)) := by rw [hw0]; exact (cell_set_eq (cell_set_ne (by omega) (cell_set_ne (by omega) (cell_set_ne (by omega) k3))))
    have new_k4 : w9.cell? ⟨w1.heap.size, 0, none⟩ = some (.int .i64 (hi q)) := by rw [hw0]; exact (cell_set_ne (by omega) (cell_set_ne (by omega) (cell_set_ne (by omega) (cell_set_eq k4))))
    have new_k5 : w9.cell? ⟨w1.heap.size, 1, none⟩ = some (.int .u64 (lo q)) := by rw [hw0]; exact (cell_set_ne (by omega) (cell_set_ne (by omega) (cell_set_eq (cell_set_ne (by omega) k5))))
    replace f1_0 : w9.frozen? ⟨w.heap.size + 1, 0, none⟩ = false := by rw [hw0]; (repeat rw [World.frozen?_setCell]); exact f1_0
    replace f1_1 : w9.frozen? ⟨w.heap.size + 1, 1, none⟩ = false := by rw [hw0]; (repeat rw [World.frozen?_setCell]); exact f1_1
    replace fz2_0 : w9.frozen? ⟨w1.heap.size, 0, none⟩ = false := by rw [hw0]; (repeat rw [World.frozen?_setCell]); exact fz2_0
    replace fz2_1 : w9.frozen? ⟨w1.heap.size, 1, none⟩ = false := by rw [hw0]; (repeat rw [World.frozen?_setCell]); exact fz2_1
    replace hB : Below w.heap.size w w9 := by rw [hw0]; repeat (with_reducible first | exact hB | refine bel_set _ (by omega) ?_)
    clear k0 k1 k2 k3 k4 k5
    have k0 := new_k0; clear new_k0
    have k1 := new_k1; clear new_k1
    have k2 := new_k2; clear new_k2
    have k3 := new_k3; clear new_k3
    have k4 := new_k4; clear new_k4
    have k5 := new_k5; clear new_k5
    replace z0 : w.heap.size < w9.heap.size := World.block_lt_of_cell? _ _ k0
    replace z1 : w.heap.size + 1 < w9.heap.size := World.block_lt_of_cell? _ _ k2
    replace z2 : w1.heap.size < w9.heap.size := World.block_lt_of_cell? _ _ k4
    rw [← hw0]
    clear hw0
    exact bodyPost_ret (v := .tuple #[.agg #[.int .i64 (hi (q)), .int .u64 (lo (q))], .int .i64 0]) (by simp [results, Try.results39, go_sem, *]) rfl ⟨rfl, by repeat (with_reducible first | exact hB | refine bel_set _ (by omega) ?_ | apply bel_alloc | apply bel_drew)⟩
  · skip
    obtain ⟨w9, hw0⟩ : ∃ x : World, x = ((((w8.setCell ⟨w1.heap.size, 0, none⟩ (.int .i64 (hi q))).setCell ⟨w1.heap.size, 1, none⟩ (.int .u64 (lo q))).setCell ⟨w.heap.size + 1, 0, none⟩ (.int .i64 (hi q))).setCell ⟨w.heap.size + 1, 1, none⟩ (.int .u64 (lo q))) := ⟨_, rfl⟩
    have new_k0 : w9.cell? ⟨w.heap.size, 0, none⟩ = some (.int .i64 (hi (a))) := by rw [hw0]; exact (cell_set_ne (by omega) (cell_set_ne (by omega) (cell_set_ne (by omega) (cell_set_ne (by omega) k0))))
    have new_k1 : w9.cell? ⟨w.heap.size, 1, none⟩ = some (.int .u64 (lo (a))) := by rw [hw0]; exact (cell_set_ne (by omega) (cell_set_ne (by omega) (cell_set_ne (by omega) (cell_set_ne (by omega) k1))))
    have new_k2 : w9.cell? ⟨w.heap.size + 1, 0, none⟩ = some (.int .i64 (hi q)) := by rw [hw0]; exact (cell_set_ne (by omega) (cell_set_eq (cell_set_ne (by omega) (cell_set_ne (by omega) k2))))
    have new_k3 : w9.cell? ⟨w.heap.size + 1, 1, none⟩ = some (.int .u64 (lo q)) := by rw [hw0]; exact (cell_set_eq (cell_set_ne (by omega) (cell_set_ne (by omega) (cell_set_ne (by omega) k3))))
    have new_k4 : w9.cell? ⟨w1.heap.size, 0, none⟩ = some (.int .i64 (hi q)) := by rw [hw0]; exact (cell_set_ne (by omega) (cell_set_ne (by omega) (cell_set_ne (by omega) (cell_set_eq k4))))
    have new_k5 : w9.cell? ⟨w1.heap.size, 1, none⟩ = some (.int .u64 (lo q)) := by rw [hw0]; exact (cell_set_ne (by omega) (cell_set_ne (by omega) (cell_set_eq (cell_set_ne (by omega) k5))))
    replace f1_0 : w9.frozen? ⟨w.heap.size + 1, 0, none⟩ = false := by rw [hw0]; (repeat rw [World.frozen?_setCell]); exact f1_0
    replace f1_1 : w9.frozen? ⟨w.heap.size + 1, 1, none⟩ = false := by rw [hw0]; (repeat rw [World.frozen?_setCell]); exact f1_1
    replace fz2_0 : w9.frozen? ⟨w1.heap.size, 0, none⟩ = false := by rw [hw0]; (repeat rw [World.frozen?_setCell]); exact fz2_0
    replace fz2_1 : w9.frozen? ⟨w1.heap.size, 1, none⟩ = false := by rw [hw0]; (repeat rw [World.frozen?_setCell]); exact fz2_1
    replace hB : Below w.heap.size w w9 := by rw [hw0]; repeat (with_reducible first | exact hB | refine bel_set _ (by omega) ?_)
    clear k0 k1 k2 k3 k4 k5
    have k0 := new_k0; clear new_k0
    have k1 := new_k1; clear new_k1
    have k2 := new_k2; clear new_k2
    have k3 := new_k3; clear new_k3
    have k4 := new_k4; clear new_k4
    have k5 := new_k5; clear new_k5
    replace z0 : w.heap.size < w9.heap.size := World.block_lt_of_cell? _ _ k0
    replace z1 : w.heap.size + 1 < w9.heap.size := World.block_lt_of_cell? _ _ k2
    replace z2 : w1.heap.size < w9.heap.size := World.block_lt_of_cell? _ _ k4
    rw [← hw0]
    clear hw0
    exact bodyPost_ret (v := .tuple #[.agg #[.int .i64 (hi (q)), .int .u64 (lo (q))], .int .i64 0]) (by simp [results, Try.results39, go_sem, *]) rfl ⟨rfl, by repeat (with_reducible first | exact hB | refine bel_set _ (by omega) ?_ | apply bel_alloc | apply bel_drew)⟩
theorem near_any (a d : Int) (ha : Big a) (hd : 0 < d) (hd' : d ≤ 9223372036854775807) (w : World) : Calls Try.prog 39 #[.agg #[.int .i64 (hi (a)), .int .u64 (lo (a))], .int .i64 d] w fun e w' => e = .returned (.tuple #[.agg #[.int .i64 (hi (near a d)), .int .u64 (lo (near a d))], .int .i64 0]) ∧ Below w.heap.size w w' := by
  by_cases hc : d - a % d ≤ a % d
  · exact near_hi_any a d _ ha hd hd' hc rfl w
  · exact near_lo_any a d _ ha hd hd' hc rfl w
end Go.Proofs.Ytnhhphdhkgjbhaa
