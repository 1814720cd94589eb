/- What is proved: what wides.Floor and Near return: the floor of a quotient and what is left; the nearest one. -/
import Derived.Test.YtnhhphdhkgjbhaaWg
set_option linter.unusedSimpArgs false
set_option linter.unusedVariables false
namespace Go.Proofs.Ytnhhphdhkgjbhaa
open Go.RowKit Wi Dv

set_option maxHeartbeats 800000 in
theorem floor_pos (a d q r : Int) (ha : Big a) (hd : 0 < d) (hd' : d ≤ 9223372036854775807) (hn : ¬ a < 0) (hq0 : q = a / d) (hr0 : r = a % d) (w : World) : Calls Try.prog 50 #[.agg #[.int .i64 (hi (a)), .int .u64 (lo (a))], .int .i64 d] w fun e w' => e = .returned (.tuple #[.agg #[.int .i64 (hi (q)), .int .u64 (lo (q))], .int .i64 r, .int .i64 0]) ∧ Below w.heap.size w w' := by
  have l1 : Word (d0 (mag a)) := by unfold Word d0; omega
  have l2 : Word (d1 (mag a)) := by unfold Word d1; omega
  have hmb : mag a < 340282366920938463463374607431768211456 := by unfold mag; unfold Big at ha; split <;> omega
  obtain ⟨q0, q1, q2⟩ := div_words (mag a) d (mag_nn a) hmb hd
  have c1 : IntKind.u64.wrap d = d := by rw [IntKind.wrap_u64]; omega
  have r0 := Int.emod_nonneg (mag a) (show d ≠ 0 by omega)
  have r1 := Int.emod_lt_of_pos (mag a) hd
  have m0 : 0 ≤ mag a / d := Int.ediv_nonneg (mag_nn a) (by omega)
  have m1 : mag a / d ≤ mag a := Int.ediv_le_self _ (mag_nn a)
  have hs : decide (a < 0) = false := decide_eq_false hn
  have hma : mag a = a := if_neg hn
  have ha2 : a < 170141183460469231731687303715884105728 := ha.2
  have hf : Fits false (mag a / d) := ⟨m0, Or.inl (by omega)⟩
  have es : sgn false (mag a / d) = q := by rw [hma, hq0]; rfl
  have er : mag a % d = r := by rw [hma, hr0]
  rw [er] at r0 r1 q2
  have nd : ¬ d < 1 := by omega
  have c2 : IntKind.i64.wrap r = r := IntWalk.i64_in _ (by omega)
  clear hma hmb m0 m1 hq0 hr0 ha2
  go_enter Try.func50, Try.ntmps50
  go_wp2_with fail
  obtain ⟨w0, hw0⟩ : ∃ x : World, x = ((w.alloc (.cells #[.int .i64 (hi (a)), .int .u64 (lo (a))] 61)).alloc (.cells #[.int .i64 0, .int .u64 0] 61)) := ⟨_, rfl⟩
  have k0 : w0.cell? ⟨w.heap.size, 0, none⟩ = some (.int .i64 (hi (a))) := by rw [hw0]; repeat (first | (refine cell_new ?_ rfl; (simp; done)) | refine cell_old ?_)
  have k1 : w0.cell? ⟨w.heap.size, 1, none⟩ = some (.int .u64 (lo (a))) := by rw [hw0]; repeat (first | (refine cell_new ?_ rfl; (simp; done)) | refine cell_old ?_)
  have k2 : w0.cell? ⟨w.heap.size + 1, 0, none⟩ = some (.int .i64 0) := by rw [hw0]; repeat (first | (refine cell_new ?_ rfl; (simp; done)) | refine cell_old ?_)
  have k3 : w0.cell? ⟨w.heap.size + 1, 1, none⟩ = some (.int .u64 0) := by rw [hw0]; repeat (first | (refine cell_new ?_ rfl; (simp; done)) | refine cell_old ?_)
  have z0 : w.heap.size < w0.heap.size := World.block_lt_of_cell? _ _ k0
  have z1 : w.heap.size + 1 < w0.heap.size := World.block_lt_of_cell? _ _ k2
  have hB : Below w.heap.size w w0 := by rw [hw0]; repeat (with_reducible first | exact bel_refl _ | apply bel_alloc)
  have f1_0 : w0.frozen? ⟨w.heap.size + 1, 0, none⟩ = false := by rw [hw0]; repeat (first | (refine frz_new ?_; (simp; done)) | (refine frz_old (by first | (simp; done) | (simp; omega)) ?_))
  have f1_1 : w0.frozen? ⟨w.heap.size + 1, 1, none⟩ = false := by rw [hw0]; repeat (first | (refine frz_new ?_; (simp; done)) | (refine frz_old (by first | (simp; done) | (simp; omega)) ?_))
  rw [← hw0]
  clear hw0
  refine (part_any a ha _).mono ?_
  rintro e w1 ⟨rfl, hb1⟩
  replace f1_0 := frz_later (bel_call hb1 (by repeat (with_reducible first | exact bel_refl _ | apply bel_alloc | apply bel_drew))) k2 f1_0
  replace f1_1 := frz_later (bel_call hb1 (by repeat (with_reducible first | exact bel_refl _ | apply bel_alloc | apply bel_drew))) k3 f1_1
  replace hB := bel_call hb1 (by repeat (with_reducible first | exact hB | apply bel_alloc | apply bel_drew))
  replace k0 := cell_later (bel_call hb1 (by repeat (with_reducible first | exact bel_refl _ | apply bel_alloc | apply bel_drew))) k0
  replace k1 := cell_later (bel_call hb1 (by repeat (with_reducible first | exact bel_refl _ | apply bel_alloc | apply bel_drew))) k1
  replace k2 := cell_later (bel_call hb1 (by repeat (with_reducible first | exact bel_refl _ | apply bel_alloc | apply bel_drew))) k2
  replace k3 := cell_later (bel_call hb1 (by repeat (with_reducible first | exact bel_refl _ | apply bel_alloc | apply bel_drew))) k3
  replace z0 := World.block_lt_of_cell? _ _ k0
  replace z1 := World.block_lt_of_cell? _ _ k2
  simp only [] at z0 z1
  clear hb1
  rw [hs]
  go_wp2_with fail
  obtain ⟨w2, hw0⟩ : ∃ x : World, x = (w1.alloc (.cells #[.bool false, .int .u64 (d0 (mag a)), .int .u64 (d1 (mag a)), .int .u64 0] 91)) := ⟨_, rfl⟩
  replace f1_0 : w2.frozen? ⟨w.heap.size + 1, 0, none⟩ = false := by rw [hw0]; exact frz_later (by repeat (with_reducible first | exact bel_refl _ | apply bel_alloc | apply bel_drew)) k2 f1_0
  replace f1_1 : w2.frozen? ⟨w.heap.size + 1, 1, none⟩ = false := by rw [hw0]; exact frz_later (by repeat (with_reducible first | exact bel_refl _ | apply bel_alloc | apply bel_drew)) k3 f1_1
  replace k0 : w2.cell? ⟨w.heap.size, 0, none⟩ = some (.int .i64 (hi (a))) := by rw [hw0]; exact cell_later (by repeat (with_reducible first | exact bel_refl _ | apply bel_alloc | apply bel_drew)) k0
  replace k1 : w2.cell? ⟨w.heap.size, 1, none⟩ = some (.int .u64 (lo (a))) := by rw [hw0]; exact cell_later (by repeat (with_reducible first | exact bel_refl _ | apply bel_alloc | apply bel_drew)) k1
  replace k2 : w2.cell? ⟨w.heap.size + 1, 0, none⟩ = some (.int .i64 0) := by rw [hw0]; exact cell_later (by repeat (with_reducible first | exact bel_refl _ | apply bel_alloc | apply bel_drew)) k2
  replace k3 : w2.cell? ⟨w.heap.size + 1, 1, none⟩ = some (.int .u64 0) := by rw [hw0]; exact cell_later (by repeat (with_reducible first | exact bel_refl _ | apply bel_alloc | apply bel_drew)) k3
  have k4 : w2.cell? ⟨w1.heap.size, 0, none⟩ = some (.bool false) := by rw [hw0]; repeat (first | (refine cell_new ?_ rfl; (simp; done)) | refine cell_old ?_)
  have k5 : w2.cell? ⟨w1.heap.size, 1, none⟩ = some (.int .u64 (d0 (mag a))) := by rw [hw0]; repeat (first | (refine cell_new ?_ rfl; (simp; done)) | refine cell_old ?_)
  have k6 : w2.cell? ⟨w1.heap.size, 2, none⟩ = some (.int .u64 (d1 (mag a))) := by rw [hw0]; repeat (first | (refine cell_new ?_ rfl; (simp; done)) | refine cell_old ?_)
  have k7 : w2.cell? ⟨w1.heap.size, 3, none⟩ = some (.int .u64 0) := by rw [hw0]; repeat (first | (refine cell_new ?_ rfl; (simp; done)) | refine cell_old ?_)
  have z0 : w.heap.size < w2.heap.size := World.block_lt_of_cell? _ _ k0
  have z1 : w.heap.size + 1 < w2.heap.size := World.block_lt_of_cell? _ _ k2
  have z2 : w1.heap.size < w2.heap.size := World.block_lt_of_cell? _ _ k4
  replace hB : Below w.heap.size w w2 := by rw [hw0]; repeat (with_reducible first | exact hB | apply bel_alloc)
  rw [← hw0]
  clear hw0
  refine (words_divided _ _ d l1 l2 ⟨by omega, by omega⟩ _).mono ?_
  rintro e w3 ⟨rfl, hb1⟩
  replace f1_0 := frz_later (bel_call hb1 (by repeat (with_reducible first | exact bel_refl _ | apply bel_alloc | apply bel_drew))) k2 f1_0
  replace f1_1 := frz_later (bel_call hb1 (by repeat (with_reducible first | exact bel_refl _ | apply bel_alloc | apply bel_drew))) k3 f1_1
  replace hB := bel_call hb1 (by repeat (with_reducible first | exact hB | apply bel_alloc | apply bel_drew))
  replace k0 := cell_later (bel_call hb1 (by repeat (with_reducible first | exact bel_refl _ | apply bel_alloc | apply bel_drew))) k0
  replace k1 := cell_later (bel_call hb1 (by repeat (with_reducible first | exact bel_refl _ | apply bel_alloc | apply bel_drew))) k1
  replace k2 := cell_later (bel_call hb1 (by repeat (with_reducible first | exact bel_refl _ | apply bel_alloc | apply bel_drew))) k2
  replace k3 := cell_later (bel_call hb1 (by repeat (with_reducible first | exact bel_refl _ | apply bel_alloc | apply bel_drew))) k3
  replace k4 := cell_later (bel_call hb1 (by repeat (with_reducible first | exact bel_refl _ | apply bel_alloc | apply bel_drew))) k4
  replace k5 := cell_later (bel_call hb1 (by repeat (with_reducible first | exact bel_refl _ | apply bel_alloc | apply bel_drew))) k5
  replace k6 := cell_later (bel_call hb1 (by repeat (with_reducible first | exact bel_refl _ | apply bel_alloc | apply bel_drew))) k6
  replace k7 := cell_later (bel_call hb1 (by repeat (with_reducible first | exact bel_refl _ | apply bel_alloc | apply bel_drew))) k7
  replace z0 := World.block_lt_of_cell? _ _ k0
  replace z1 := World.block_lt_of_cell? _ _ k2
  replace z2 := World.block_lt_of_cell? _ _ k4
  simp only [] at z0 z1 z2
  clear hb1
  rw [q0, q1, q2]
  go_wp2_with fail
  obtain ⟨w4, hw0⟩ : ∃ x : World, x = (w3.alloc (.cells #[.int .u64 (d0 (mag a / d)), .int .u64 (d1 (mag a / d)), .int .u64 0] 89)) := ⟨_, rfl⟩
  replace f1_0 : w4.frozen? ⟨w.heap.size + 1, 0, none⟩ = false := by rw [hw0]; exact frz_later (by repeat (with_reducible first | exact bel_refl _ | apply bel_alloc | apply bel_drew)) k2 f1_0
  replace f1_1 : w4.frozen? ⟨w.heap.size + 1, 1, none⟩ = false := by rw [hw0]; exact frz_later (by repeat (with_reducible first | exact bel_refl _ | apply bel_alloc | apply bel_drew)) k3 f1_1
  replace k0 : w4.cell? ⟨w.heap.size, 0, none⟩ = some (.int .i64 (hi (a))) := by rw [hw0]; exact cell_later (by repeat (with_reducible first | exact bel_refl _ | apply bel_alloc | apply bel_drew)) k0
  replace k1 : w4.cell? ⟨w.heap.size, 1, none⟩ = some (.int .u64 (lo (a))) := by rw [hw0]; exact cell_later (by repeat (with_reducible first | exact bel_refl _ | apply bel_alloc | apply bel_drew)) k1
  replace k2 : w4.cell? ⟨w.heap.size + 1, 0, none⟩ = some (.int .i64 0) := by rw [hw0]; exact cell_later (by repeat (with_reducible first | exact bel_refl _ | apply bel_alloc | apply bel_drew)) k2
  replace k3 : w4.cell? ⟨w.heap.size + 1, 1, none⟩ = some (.int .u64 0) := by rw [hw0]; exact cell_later (by repeat (with_reducible first | exact bel_refl _ | apply bel_alloc | apply bel_drew)) k3
  replace k4 : w4.cell? ⟨w1.heap.size, 0, none⟩ = some (.bool false) := by rw [hw0]; exact cell_later (by repeat (with_reducible first | exact bel_refl _ | apply bel_alloc | apply bel_drew)) k4
  replace k5 : w4.cell? ⟨w1.heap.size, 1, none⟩ = some (.int .u64 (d0 (mag a))) := by rw [hw0]; exact cell_later (by repeat (with_reducible first | exact bel_refl _ | apply bel_alloc | apply bel_drew)) k5
  replace k6 : w4.cell? ⟨w1.heap.size, 2, none⟩ = some (.int .u64 (d1 (mag a))) := by rw [hw0]; exact cell_later (by repeat (with_reducible first | exact bel_refl _ | apply bel_alloc | apply bel_drew)) k6
  replace k7 : w4.cell? ⟨w1.heap.size, 3, none⟩ = some (.int .u64 0) := by rw [hw0]; exact cell_later (by repeat (with_reducible first | exact bel_refl _ | apply bel_alloc | apply bel_drew)) k7
  have k8 : w4.cell? ⟨w3.heap.size, 0, none⟩ = some (.int .u64 (d0 (mag a / d))) := by rw [hw0]; repeat (first | (refine cell_new ?_ rfl; (simp; done)) | refine cell_old ?_)
  have k9 : w4.cell? ⟨w3.heap.size, 1, none⟩ = some (.int .u64 (d1 (mag a / d))) := by rw [hw0]; repeat (first | (refine cell_new ?_ rfl; (simp; done)) | refine cell_old ?_)
  have k10 : w4.cell? ⟨w3.heap.size, 2, none⟩ = some (.int .u64 0) := by rw [hw0]; repeat (first | (refine cell_new ?_ rfl; (simp; done)) | refine cell_old ?_)
  have z0 : w.heap.size < w4.heap.size := World.block_lt_of_cell? _ _ k0
  have z1 : w.heap.size + 1 < w4.heap.size := World.block_lt_of_cell? _ _ k2
  have z2 : w1.heap.size < w4.heap.size := World.block_lt_of_cell? _ _ k4
  have z3 : w3.heap.size < w4.heap.size := World.block_lt_of_cell? _ _ k8
  replace hB : Below w.heap.size w w4 := by rw [hw0]; repeat (with_reducible first | exact hB | apply bel_alloc)
  rw [← hw0]
  clear hw0
  refine (whole_any _ _ hf _).mono ?_
  rintro e w5 ⟨rfl, hb1⟩
  replace f1_0 := frz_later (bel_call hb1 (by repeat (with_reducible first | exact bel_refl _ | apply bel_alloc | apply bel_drew))) k2 f1_0
  replace f1_1 := frz_later (bel_call hb1 (by repeat (with_reducible first | exact bel_refl _ | apply bel_alloc | apply bel_drew))) k3 f1_1
  replace hB := bel_call hb1 (by repeat (with_reducible first | exact hB | apply bel_alloc | apply bel_drew))
  replace k0 := cell_later (bel_call hb1 (by repeat (with_reducible first | exact bel_refl _ | apply bel_alloc | apply bel_drew))) k0
  replace k1 := cell_later (bel_call hb1 (by repeat (with_reducible first | exact bel_refl _ | apply bel_alloc | apply bel_drew))) k1
  replace k2 := cell_later (bel_call hb1 (by repeat (with_reducible first | exact bel_refl _ | apply bel_alloc | apply bel_drew))) k2
  replace k3 := cell_later (bel_call hb1 (by repeat (with_reducible first | exact bel_refl _ | apply bel_alloc | apply bel_drew))) k3
  replace k4 := cell_later (bel_call hb1 (by repeat (with_reducible first | exact bel_refl _ | apply bel_alloc | apply bel_drew))) k4
  replace k5 := cell_later (bel_call hb1 (by repeat (with_reducible first | exact bel_refl _ | apply bel_alloc | apply bel_drew))) k5
  replace k6 := cell_later (bel_call hb1 (by repeat (with_reducible first | exact bel_refl _ | apply bel_alloc | apply bel_drew))) k6
  replace k7 := cell_later (bel_call hb1 (by repeat (with_reducible first | exact bel_refl _ | apply bel_alloc | apply bel_drew))) k7
  replace k8 := cell_later (bel_call hb1 (by repeat (with_reducible first | exact bel_refl _ | apply bel_alloc | apply bel_drew))) k8
  replace k9 := cell_later (bel_call hb1 (by repeat (with_reducible first | exact bel_refl _ | apply bel_alloc | apply bel_drew))) k9
  replace k10 := cell_later (bel_call hb1 (by repeat (with_reducible first | exact bel_refl _ | apply bel_alloc | apply bel_drew))) k10
  replace z0 := World.block_lt_of_cell? _ _ k0
  replace z1 := World.block_lt_of_cell? _ _ k2
  replace z2 := World.block_lt_of_cell? _ _ k4
  replace z3 := World.block_lt_of_cell? _ _ k8
  simp only [] at z0 z1 z2 z3
  clear hb1
  rw [es]
  go_wp2
  obtain ⟨w9, hw0⟩ : ∃ x : World, x = ((((w5.setCell ⟨w.heap.size + 1, 0, none⟩ (.int .i64 (hi q))).setCell ⟨w.heap.size + 1, 1, none⟩ (.int .u64 (lo q))).setCell ⟨w.heap.size + 1, 0, none⟩ (.int .i64 (hi q))).setCell ⟨w.heap.size + 1, 1, none⟩ (.int .u64 (lo q))) := ⟨_, rfl⟩
  have new_k0 : w9.cell? ⟨w.heap.size, 0, none⟩ = some (.int .i64 (hi (a))) := by rw [hw0]; exact (cell_set_ne (by omega) (cell_set_ne (by omega) (cell_set_ne (by omega) (cell_set_ne (by omega) k0))))
  have new_k1 : w9.cell? ⟨w.heap.size, 1, none⟩ = some (.int .u64 (lo (a))) := by rw [hw0]; exact (cell_set_ne (by omega) (cell_set_ne (by omega) (cell_set_ne (by omega) (cell_set_ne (by omega) k1))))
  have new_k2 : w9.cell? ⟨w.heap.size + 1, 0, none⟩ = some (.int .i64 (hi q)) := by rw [hw0]; exact (cell_set_ne (by omega) (cell_set_eq (cell_set_ne (by omega) (cell_set_eq k2))))
  have new_k3 : w9.cell? ⟨w.heap.size + 1, 1, none⟩ = some (.int .u64 (lo q)) := by rw [hw0]; exact (cell_set_eq (cell_set_ne (by omega) (cell_set_eq (cell_set_ne (by omega) k3))))
  have new_k4 : w9.cell? ⟨w1.heap.size, 0, none⟩ = some (.bool false) := by rw [hw0]; exact (cell_set_ne (by omega) (cell_set_ne (by omega) (cell_set_ne (by omega) (cell_set_ne (by omega) k4))))
  have new_k5 : w9.cell? ⟨w1.heap.size, 1, none⟩ = some (.int .u64 (d0 (mag a))) := by rw [hw0]; exact (cell_set_ne (by omega) (cell_set_ne (by omega) (cell_set_ne (by omega) (cell_set_ne (by omega) k5))))
  have new_k6 : w9.cell? ⟨w1.heap.size, 2, none⟩ = some (.int .u64 (d1 (mag a))) := by rw [hw0]; exact (cell_set_ne (by omega) (cell_set_ne (by omega) (cell_set_ne (by omega) (cell_set_ne (by omega) k6))))
  have new_k7 : w9.cell? ⟨w1.heap.size, 3, none⟩ = some (.int .u64 0) := by rw [hw0]; exact (cell_set_ne (by omega) (cell_set_ne (by omega) (cell_set_ne (by omega) (cell_set_ne (by omega) k7))))
  have new_k8 : w9.cell? ⟨w3.heap.size, 0, none⟩ = some (.int .u64 (d0 (mag a / d))) := by rw [hw0]; exact (cell_set_ne (by omega) (cell_set_ne (by omega) (cell_set_ne (by omega) (cell_set_ne (by omega) k8))))
  have new_k9 : w9.cell? ⟨w3.heap.size, 1, none⟩ = some (.int .u64 (d1 (mag a / d))) := by rw [hw0]; exact (cell_set_ne (by omega) (cell_set_ne (by omega) (cell_set_ne (by omega) (cell_set_ne (by omega) k9))))
  have new_k10 : w9.cell? ⟨w3.heap.size, 2, none⟩ = some (.int .u64 0) := by rw [hw0]; exact (cell_set_ne (by omega) (cell_set_ne (by omega) (cell_set_ne (by omega) (cell_set_ne (by omega) k10))))
  replace f1_0 : w9.frozen? ⟨w.heap.size + 1, 0, none⟩ = false := by rw [hw0]; (repeat rw [World.frozen?_setCell]); exact f1_0
  replace f1_1 : w9.frozen? ⟨w.heap.size + 1, 1, none⟩ = false := by rw [hw0]; (repeat rw [World.frozen?_setCell]); exact f1_1
  replace hB : Below w.heap.size w w9 := by rw [hw0]; repeat (with_reducible first | exact hB | refine bel_set _ (by omega) ?_)
  clear k0 k1 k2 k3 k4 k5 k6 k7 k8 k9 k10
  have k0 := new_k0; clear new_k0
  have k1 := new_k1; clear new_k1
  have k2 := new_k2; clear new_k2
  have k3 := new_k3; clear new_k3
  have k4 := new_k4; clear new_k4
  have k5 := new_k5; clear new_k5
  have k6 := new_k6; clear new_k6
  have k7 := new_k7; clear new_k7
  have k8 := new_k8; clear new_k8
  have k9 := new_k9; clear new_k9
  have k10 := new_k10; clear new_k10
  replace z0 : w.heap.size < w9.heap.size := World.block_lt_of_cell? _ _ k0
  replace z1 : w.heap.size + 1 < w9.heap.size := World.block_lt_of_cell? _ _ k2
  replace z2 : w1.heap.size < w9.heap.size := World.block_lt_of_cell? _ _ k4
  replace z3 : w3.heap.size < w9.heap.size := World.block_lt_of_cell? _ _ k8
  rw [← hw0]
  clear hw0
  exact bodyPost_ret (v := .tuple #[.agg #[.int .i64 (hi (q)), .int .u64 (lo (q))], .int .i64 r, .int .i64 0]) (by simp [results, Try.results50, go_sem, *]) rfl ⟨rfl, by repeat (with_reducible first | exact hB | refine bel_set _ (by omega) ?_ | apply bel_alloc | apply bel_drew)⟩
set_option maxHeartbeats 800000 in
theorem floor_neg (a d q r : Int) (ha : Big a) (hd : 0 < d) (hd' : d ≤ 9223372036854775807) (hn : a < 0) (hz : mag a % d = 0) (hq0 : q = a / d) (hr0 : r = a % d) (w : World) : Calls Try.prog 50 #[.agg #[.int .i64 (hi (a)), .int .u64 (lo (a))], .int .i64 d] w fun e w' => e = .returned (.tuple #[.agg #[.int .i64 (hi (q)), .int .u64 (lo (q))], .int .i64 r, .int .i64 0]) ∧ Below w.heap.size w w' := by
  have l1 : Word (d0 (mag a)) := by unfold Word d0; omega
  have l2 : Word (d1 (mag a)) := by unfold Word d1; omega
  have hmb : mag a < 340282366920938463463374607431768211456 := by unfold mag; unfold Big at ha; split <;> omega
  obtain ⟨q0, q1, q2⟩ := div_words (mag a) d (mag_nn a) hmb hd
  have c1 : IntKind.u64.wrap d = d := by rw [IntKind.wrap_u64]; omega
  have r0 := Int.emod_nonneg (mag a) (show d ≠ 0 by omega)
  have r1 := Int.emod_lt_of_pos (mag a) hd
  have m0 : 0 ≤ mag a / d := Int.ediv_nonneg (mag_nn a) (by omega)
  have m1 : mag a / d ≤ mag a := Int.ediv_le_self _ (mag_nn a)
  have hs : decide (a < 0) = true := decide_eq_true hn
  have hma : mag a = -a := if_pos hn
  have ha2 : -170141183460469231731687303715884105728 ≤ a := ha.1
  have hf : Fits true (mag a / d) := fits_of _ _ m0 (by unfold Big sgn; rw [if_pos rfl]; omega)
  have nf := neg_floor (mag a) d hd hz
  have es : sgn true (mag a / d) = q := by rw [hq0]; show -(mag a / d) = a / d; rw [← nf.1, hma, Int.neg_neg]
  have er : r = 0 := by rw [hr0, ← nf.2, hma, Int.neg_neg]
  subst er
  rw [hz] at q2
  have nd : ¬ d < 1 := by omega
  clear hma hmb m0 m1 hq0 hr0 ha2 nf hz r0 r1
  go_enter Try.func50, Try.ntmps50
  go_wp2_with fail
  obtain ⟨w0, hw0⟩ : ∃ x : World, x = ((w.alloc (.cells #[.int .i64 (hi (a)), .int .u64 (lo (a))] 61)).alloc (.cells #[.int .i64 0, .int .u64 0] 61)) := ⟨_, rfl⟩
  have k0 : w0.cell? ⟨w.heap.size, 0, none⟩ = some (.int .i64 (hi (a))) := by rw [hw0]; repeat (first | (refine cell_new ?_ rfl; (simp; done)) | refine cell_old ?_)
  have k1 : w0.cell? ⟨w.heap.size, 1, none⟩ = some (.int .u64 (lo (a))) := by rw [hw0]; repeat (first | (refine cell_new ?_ rfl; (simp; done)) | refine cell_old ?_)
  have k2 : w0.cell? ⟨w.heap.size + 1, 0, none⟩ = some (.int .i64 0) := by rw [hw0]; repeat (first | (refine cell_new ?_ rfl; (simp; done)) | refine cell_old ?_)
  have k3 : w0.cell? ⟨w.heap.size + 1, 1, none⟩ = some (.int .u64 0) := by rw [hw0]; repeat (first | (refine cell_new ?_ rfl; (simp; done)) | refine cell_old ?_)
  have z0 : w.heap.size < w0.heap.size := World.block_lt_of_cell? _ _ k0
  have z1 : w.heap.size + 1 < w0.heap.size := World.block_lt_of_cell? _ _ k2
  have hB : Below w.heap.size w w0 := by rw [hw0]; repeat (with_reducible first | exact bel_refl _ | apply bel_alloc)
  have f1_0 : w0.frozen? ⟨w.heap.size + 1, 0, none⟩ = false := by rw [hw0]; repeat (first | (refine frz_new ?_; (simp; done)) | (refine frz_old (by first | (simp; done) | (simp; omega)) ?_))
  have f1_1 : w0.frozen? ⟨w.heap.size + 1, 1, none⟩ = false := by rw [hw0]; repeat (first | (refine frz_new ?_; (simp; done)) | (refine frz_old (by first | (simp; done) | (simp; omega)) ?_))
  rw [← hw0]
  clear hw0
  refine (part_any a ha _).mono ?_
  rintro e w1 ⟨rfl, hb1⟩
  replace f1_0 := frz_later (bel_call hb1 (by repeat (with_reducible first | exact bel_refl _ | apply bel_alloc | apply bel_drew))) k2 f1_0
  replace f1_1 := frz_later (bel_call hb1 (by repeat (with_reducible first | exact bel_refl _ | apply bel_alloc | apply bel_drew))) k3 f1_1
  replace hB := bel_call hb1 (by repeat (with_reducible first | exact hB | apply bel_alloc | apply bel_drew))
  replace k0 := cell_later (bel_call hb1 (by repeat (with_reducible first | exact bel_refl _ | apply bel_alloc | apply bel_drew))) k0
  replace k1 := cell_later (bel_call hb1 (by repeat (with_reducible first | exact bel_refl _ | apply bel_alloc | apply bel_drew))) k1
  replace k2 := cell_later (bel_call hb1 (by repeat (with_reducible first | exact bel_refl _ | apply bel_alloc | apply bel_drew))) k2
  replace k3 := cell_later (bel_call hb1 (by repeat (with_reducible first | exact bel_refl _ | apply bel_alloc | apply bel_drew))) k3
  replace z0 := World.block_lt_of_cell? _ _ k0
  replace z1 := World.block_lt_of_cell? _ _ k2
  simp only [] at z0 z1
  clear hb1
  rw [hs]
  go_wp2_with fail
  obtain ⟨w2, hw0⟩ : ∃ x : World, x = (w1.alloc (.cells #[.bool true, .int .u64 (d0 (mag a)), .int .u64 (d1 (mag a)), .int .u64 0] 91)) := ⟨_, rfl⟩
  replace f1_0 : w2.frozen? ⟨w.heap.size + 1, 0, none⟩ = false := by rw [hw0]; exact frz_later (by repeat (with_reducible first | exact bel_refl _ | apply bel_alloc | apply bel_drew)) k2 f1_0
  replace f1_1 : w2.frozen? ⟨w.heap.size + 1, 1, none⟩ = false := by rw [hw0]; exact frz_later (by repeat (with_reducible first | exact bel_refl _ | apply bel_alloc | apply bel_drew)) k3 f1_1
  replace k0 : w2.cell? ⟨w.heap.size, 0, none⟩ = some (.int .i64 (hi (a))) := by rw [hw0]; exact cell_later (by repeat (with_reducible first | exact bel_refl _ | apply bel_alloc | apply bel_drew)) k0
  replace k1 : w2.cell? ⟨w.heap.size, 1, none⟩ = some (.int .u64 (lo (a))) := by rw [hw0]; exact cell_later (by repeat (with_reducible first | exact bel_refl _ | apply bel_alloc | apply bel_drew)) k1
  replace k2 : w2.cell? ⟨w.heap.size + 1, 0, none⟩ = some (.int .i64 0) := by rw [hw0]; exact cell_later (by repeat (with_reducible first | exact bel_refl _ | apply bel_alloc | apply bel_drew)) k2
  replace k3 : w2.cell? ⟨w.heap.size + 1, 1, none⟩ = some (.int .u64 0) := by rw [hw0]; exact cell_later (by repeat (with_reducible first | exact bel_refl _ | apply bel_alloc | apply bel_drew)) k3
  have k4 : w2.cell? ⟨w1.heap.size, 0, none⟩ = some (.bool true) := by rw [hw0]; repeat (first | (refine cell_new ?_ rfl; (simp; done)) | refine cell_old ?_)
  have k5 : w2.cell? ⟨w1.heap.size, 1, none⟩ = some (.int .u64 (d0 (mag a))) := by rw [hw0]; repeat (first | (refine cell_new ?_ rfl; (simp; done)) | refine cell_old ?_)
  have k6 : w2.cell? ⟨w1.heap.size, 2, none⟩ = some (.int .u64 (d1 (mag a))) := by rw [hw0]; repeat (first | (refine cell_new ?_ rfl; (simp; done)) | refine cell_old ?_)
  have k7 : w2.cell? ⟨w1.heap.size, 3, none⟩ = some (.int .u64 0) := by rw [hw0]; repeat (first | (refine cell_new ?_ rfl; (simp; done)) | refine cell_old ?_)
  have z0 : w.heap.size < w2.heap.size := World.block_lt_of_cell? _ _ k0
  have z1 : w.heap.size + 1 < w2.heap.size := World.block_lt_of_cell? _ _ k2
  have z2 : w1.heap.size < w2.heap.size := World.block_lt_of_cell? _ _ k4
  replace hB : Below w.heap.size w w2 := by rw [hw0]; repeat (with_reducible first | exact hB | apply bel_alloc)
  rw [← hw0]
  clear hw0
  refine (words_divided _ _ d l1 l2 ⟨by omega, by omega⟩ _).mono ?_
  rintro e w3 ⟨rfl, hb1⟩
  replace f1_0 := frz_later (bel_call hb1 (by repeat (with_reducible first | exact bel_refl _ | apply bel_alloc | apply bel_drew))) k2 f1_0
  replace f1_1 := frz_later (bel_call hb1 (by repeat (with_reducible first | exact bel_refl _ | apply bel_alloc | apply bel_drew))) k3 f1_1
  replace hB := bel_call hb1 (by repeat (with_reducible first | exact hB | apply bel_alloc | apply bel_drew))
  replace k0 := cell_later (bel_call hb1 (by repeat (with_reducible first | exact bel_refl _ | apply bel_alloc | apply bel_drew))) k0
  replace k1 := cell_later (bel_call hb1 (by repeat (with_reducible first | exact bel_refl _ | apply bel_alloc | apply bel_drew))) k1
  replace k2 := cell_later (bel_call hb1 (by repeat (with_reducible first | exact bel_refl _ | apply bel_alloc | apply bel_drew))) k2
  replace k3 := cell_later (bel_call hb1 (by repeat (with_reducible first | exact bel_refl _ | apply bel_alloc | apply bel_drew))) k3
  replace k4 := cell_later (bel_call hb1 (by repeat (with_reducible first | exact bel_refl _ | apply bel_alloc | apply bel_drew))) k4
  replace k5 := cell_later (bel_call hb1 (by repeat (with_reducible first | exact bel_refl _ | apply bel_alloc | apply bel_drew))) k5
  replace k6 := cell_later (bel_call hb1 (by repeat (with_reducible first | exact bel_refl _ | apply bel_alloc | apply bel_drew))) k6
  replace k7 := cell_later (bel_call hb1 (by repeat (with_reducible first | exact bel_refl _ | apply bel_alloc | apply bel_drew))) k7
  replace z0 := World.block_lt_of_cell? _ _ k0
  replace z1 := World.block_lt_of_cell? _ _ k2
  replace z2 := World.block_lt_of_cell? _ _ k4
  simp only [] at z0 z1 z2
  clear hb1
  rw [q0, q1, q2]
  go_wp2_with fail
  obtain ⟨w4, hw0⟩ : ∃ x : World, x = (w3.alloc (.cells #[.int .u64 (d0 (mag a / d)), .int .u64 (d1 (mag a / d)), .int .u64 0] 89)) := ⟨_, rfl⟩
  replace f1_0 : w4.frozen? ⟨w.heap.size + 1, 0, none⟩ = false := by rw [hw0]; exact frz_later (by repeat (with_reducible first | exact bel_refl _ | apply bel_alloc | apply bel_drew)) k2 f1_0
  replace f1_1 : w4.frozen? ⟨w.heap.size + 1, 1, none⟩ = false := by rw [hw0]; exact frz_later (by repeat (with_reducible first | exact bel_refl _ | apply bel_alloc | apply bel_drew)) k3 f1_1
  replace k0 : w4.cell? ⟨w.heap.size, 0, none⟩ = some (.int .i64 (hi (a))) := by rw [hw0]; exact cell_later (by repeat (with_reducible first | exact bel_refl _ | apply bel_alloc | apply bel_drew)) k0
  replace k1 : w4.cell? ⟨w.heap.size, 1, none⟩ = some (.int .u64 (lo (a))) := by rw [hw0]; exact cell_later (by repeat (with_reducible first | exact bel_refl _ | apply bel_alloc | apply bel_drew)) k1
  replace k2 : w4.cell? ⟨w.heap.size + 1, 0, none⟩ = some (.int .i64 0) := by rw [hw0]; exact cell_later (by repeat (with_reducible first | exact bel_refl _ | apply bel_alloc | apply bel_drew)) k2
  replace k3 : w4.cell? ⟨w.heap.size + 1, 1, none⟩ = some (.int .u64 0) := by rw [hw0]; exact cell_later (by repeat (with_reducible first | exact bel_refl _ | apply bel_alloc | apply bel_drew)) k3
  replace k4 : w4.cell? ⟨w1.heap.size, 0, none⟩ = some (.bool true) := by rw [hw0]; exact cell_later (by repeat (with_reducible first | exact bel_refl _ | apply bel_alloc | apply bel_drew)) k4
  replace k5 : w4.cell? ⟨w1.heap.size, 1, none⟩ = some (.int .u64 (d0 (mag a))) := by rw [hw0]; exact cell_later (by repeat (with_reducible first | exact bel_refl _ | apply bel_alloc | apply bel_drew)) k5
  replace k6 : w4.cell? ⟨w1.heap.size, 2, none⟩ = some (.int .u64 (d1 (mag a))) := by rw [hw0]; exact cell_later (by repeat (with_reducible first | exact bel_refl _ | apply bel_alloc | apply bel_drew)) k6
  replace k7 : w4.cell? ⟨w1.heap.size, 3, none⟩ = some (.int .u64 0) := by rw [hw0]; exact cell_later (by repeat (with_reducible first | exact bel_refl _ | apply bel_alloc | apply bel_drew)) k7
  have k8 : w4.cell? ⟨w3.heap.size, 0, none⟩ = some (.int .u64 (d0 (mag a / d))) := by rw [hw0]; repeat (first | (refine cell_new ?_ rfl; (simp; done)) | refine cell_old ?_)
  have k9 : w4.cell? ⟨w3.heap.size, 1, none⟩ = some (.int .u64 (d1 (mag a / d))) := by rw [hw0]; repeat (first | (refine cell_new ?_ rfl; (simp; done)) | refine cell_old ?_)
  have k10 : w4.cell? ⟨w3.heap.size, 2, none⟩ = some (.int .u64 0) := by rw [hw0]; repeat (first | (refine cell_new ?_ rfl; (simp; done)) | refine cell_old ?_)
  have z0 : w.heap.size < w4.heap.size := World.block_lt_of_cell? _ _ k0
  have z1 : w.heap.size + 1 < w4.heap.size := World.block_lt_of_cell? _ _ k2
  have z2 : w1.heap.size < w4.heap.size := World.block_lt_of_cell? _ _ k4
  have z3 : w3.heap.size < w4.heap.size := World.block_lt_of_cell? _ _ k8
  replace hB : Below w.heap.size w w4 := by rw [hw0]; repeat (with_reducible first | exact hB | apply bel_alloc)
  rw [← hw0]
  clear hw0
  refine (whole_any _ _ hf _).mono ?_
  rintro e w5 ⟨rfl, hb1⟩
  replace f1_0 := frz_later (bel_call hb1 (by repeat (with_reducible first | exact bel_refl _ | apply bel_alloc | apply bel_drew))) k2 f1_0
  replace f1_1 := frz_later (bel_call hb1 (by repeat (with_reducible first | exact bel_refl _ | apply bel_alloc | apply bel_drew))) k3 f1_1
  replace hB := bel_call hb1 (by repeat (with_reducible first | exact hB | apply bel_alloc | apply bel_drew))
  replace k0 := cell_later (bel_call hb1 (by repeat (with_reducible first | exact bel_refl _ | apply bel_alloc | apply bel_drew))) k0
  replace k1 := cell_later (bel_call hb1 (by repeat (with_reducible first | exact bel_refl _ | apply bel_alloc | apply bel_drew))) k1
  replace k2 := cell_later (bel_call hb1 (by repeat (with_reducible first | exact bel_refl _ | apply bel_alloc | apply bel_drew))) k2
  replace k3 := cell_later (bel_call hb1 (by repeat (with_reducible first | exact bel_refl _ | apply bel_alloc | apply bel_drew))) k3
  replace k4 := cell_later (bel_call hb1 (by repeat (with_reducible first | exact bel_refl _ | apply bel_alloc | apply bel_drew))) k4
  replace k5 := cell_later (bel_call hb1 (by repeat (with_reducible first | exact bel_refl _ | apply bel_alloc | apply bel_drew))) k5
  replace k6 := cell_later (bel_call hb1 (by repeat (with_reducible first | exact bel_refl _ | apply bel_alloc | apply bel_drew))) k6
  replace k7 := cell_later (bel_call hb1 (by repeat (with_reducible first | exact bel_refl _ | apply bel_alloc | apply bel_drew))) k7
  replace k8 := cell_later (bel_call hb1 (by repeat (with_reducible first | exact bel_refl _ | apply bel_alloc | apply bel_drew))) k8
  replace k9 := cell_later (bel_call hb1 (by repeat (with_reducible first | exact bel_refl _ | apply bel_alloc | apply bel_drew))) k9
  replace k10 := cell_later (bel_call hb1 (by repeat (with_reducible first | exact bel_refl _ | apply bel_alloc | apply bel_drew))) k10
  replace z0 := World.block_lt_of_cell? _ _ k0
  replace z1 := World.block_lt_of_cell? _ _ k2
  replace z2 := World.block_lt_of_cell? _ _ k4
  replace z3 := World.block_lt_of_cell? _ _ k8
  simp only [] at z0 z1 z2 z3
  clear hb1
  rw [es]
  go_wp2
  obtain ⟨w9, hw0⟩ : ∃ x : World, x = ((((w5.setCell ⟨w.heap.size + 1, 0, none⟩ (.int .i64 (hi q))).setCell ⟨w.heap.size + 1, 1, none⟩ (.int .u64 (lo q))).setCell ⟨w.heap.size + 1, 0, none⟩ (.int .i64 (hi q))).setCell ⟨w.heap.size + 1, 1, none⟩ (.int .u64 (lo q))) := ⟨_, rfl⟩
  have new_k0 : w9.cell? ⟨w.heap.size, 0, none⟩ = some (.int .i64 (hi (a))) := by rw [hw0]; exact (cell_set_ne (by omega) (cell_set_ne (by omega) (cell_set_ne (by omega) (cell_set_ne (by omega) k0))))
  have new_k1 : w9.cell? ⟨w.heap.size, 1, none⟩ = some (.int .u64 (lo (a))) := by rw [hw0]; exact (cell_set_ne (by omega) (cell_set_ne (by omega) (cell_set_ne (by omega) (cell_set_ne (by omega) k1))))
  have new_k2 : w9.cell? ⟨w.heap.size + 1, 0, none⟩ = some (.int .i64 (hi q)) := by rw [hw0]; exact (cell_set_ne (by omega) (cell_set_eq (cell_set_ne (by omega) (cell_set_eq k2))))
  have new_k3 : w9.cell? ⟨w.heap.size + 1, 1, none⟩ = some (.int .u64 (lo q)) := by rw [hw0]; exact (cell_set_eq (cell_set_ne (by omega) (cell_set_eq (cell_set_ne (by omega) k3))))
  have new_k4 : w9.cell? ⟨w1.heap.size, 0, none⟩ = some (.bool true) := by rw [hw0]; exact (cell_set_ne (by omega) (cell_set_ne (by omega) (cell_set_ne (by omega) (cell_set_ne (by omega) k4))))
  have new_k5 : w9.cell? ⟨w1.heap.size, 1, none⟩ = some (.int .u64 (d0 (mag a))) := by rw [hw0]; exact (cell_set_ne (by omega) (cell_set_ne (by omega) (cell_set_ne (by omega) (cell_set_ne (by omega) k5))))
  have new_k6 : w9.cell? ⟨w1.heap.size, 2, none⟩ = some (.int .u64 (d1 (mag a))) := by rw [hw0]; exact (cell_set_ne (by omega) (cell_set_ne (by omega) (cell_set_ne (by omega) (cell_set_ne (by omega) k6))))
  have new_k7 : w9.cell? ⟨w1.heap.size, 3, none⟩ = some (.int .u64 0) := by rw [hw0]; exact (cell_set_ne (by omega) (cell_set_ne (by omega) (cell_set_ne (by omega) (cell_set_ne (by omega) k7))))
  have new_k8 : w9.cell? ⟨w3.heap.size, 0, none⟩ = some (.int .u64 (d0 (mag a / d))) := by rw [hw0]; exact (cell_set_ne (by omega) (cell_set_ne (by omega) (cell_set_ne (by omega) (cell_set_ne (by omega) k8))))
  have new_k9 : w9.cell? ⟨w3.heap.size, 1, none⟩ = some (.int .u64 (d1 (mag a / d))) := by rw [hw0]; exact (cell_set_ne (by omega) (cell_set_ne (by omega) (cell_set_ne (by omega) (cell_set_ne (by omega) k9))))
  have new_k10 : w9.cell? ⟨w3.heap.size, 2, none⟩ = some (.int .u64 0) := by rw [hw0]; exact (cell_set_ne (by omega) (cell_set_ne (by omega) (cell_set_ne (by omega) (cell_set_ne (by omega) k10))))
  replace f1_0 : w9.frozen? ⟨w.heap.size + 1, 0, none⟩ = false := by rw [hw0]; (repeat rw [World.frozen?_setCell]); exact f1_0
  replace f1_1 : w9.frozen? ⟨w.heap.size + 1, 1, none⟩ = false := by rw [hw0]; (repeat rw [World.frozen?_setCell]); exact f1_1
  replace hB : Below w.heap.size w w9 := by rw [hw0]; repeat (with_reducible first | exact hB | refine bel_set _ (by omega) ?_)
  clear k0 k1 k2 k3 k4 k5 k6 k7 k8 k9 k10
  have k0 := new_k0; clear new_k0
  have k1 := new_k1; clear new_k1
  have k2 := new_k2; clear new_k2
  have k3 := new_k3; clear new_k3
  have k4 := new_k4; clear new_k4
  have k5 := new_k5; clear new_k5
  have k6 := new_k6; clear new_k6
  have k7 := new_k7; clear new_k7
  have k8 := new_k8; clear new_k8
  have k9 := new_k9; clear new_k9
  have k10 := new_k10; clear new_k10
  replace z0 : w.heap.size < w9.heap.size := World.block_lt_of_cell? _ _ k0
  replace z1 : w.heap.size + 1 < w9.heap.size := World.block_lt_of_cell? _ _ k2
  replace z2 : w1.heap.size < w9.heap.size := World.block_lt_of_cell? _ _ k4
  replace z3 : w3.heap.size < w9.heap.size := World.block_lt_of_cell? _ _ k8
  rw [← hw0]
  clear hw0
  exact bodyPost_ret (v := .tuple #[.agg #[.int .i64 (hi (q)), .int .u64 (lo (q))], .int .i64 0, .int .i64 0]) (by simp [results, Try.results50, go_sem, *]) rfl ⟨rfl, by repeat (with_reducible first | exact hB | refine bel_set _ (by omega) ?_ | apply bel_alloc | apply bel_drew)⟩
set_option maxHeartbeats 800000 in
theorem floor_less (a d q r : Int) (ha : Big a) (hd : 0 < d) (hd' : d ≤ 9223372036854775807) (hn : a < 0) (hz : 0 < mag a % d) (hq0 : q = a / d) (hr0 : r = a % d) (w : World) : Calls Try.prog 50 #[.agg #[.int .i64 (hi (a)), .int .u64 (lo (a))], .int .i64 d] w fun e w' => e = .returned (.tuple #[.agg #[.int .i64 (hi (q)), .int .u64 (lo (q))], .int .i64 r, .int .i64 0]) ∧ Below w.heap.size w w' := by
  have l1 : Word (d0 (mag a)) := by unfold Word d0; omega
  have l2 : Word (d1 (mag a)) := by unfold Word d1; omega
  have hmb : mag a < 340282366920938463463374607431768211456 := by unfold mag; unfold Big at ha; split <;> omega
  obtain ⟨q0, q1, q2⟩ := div_words (mag a) d (mag_nn a) hmb hd
  have c1 : IntKind.u64.wrap d = d := by rw [IntKind.wrap_u64]; omega
  have r0 := Int.emod_nonneg (mag a) (show d ≠ 0 by omega)
  have r1 := Int.emod_lt_of_pos (mag a) hd
  have m0 : 0 ≤ mag a / d := Int.ediv_nonneg (mag_nn a) (by omega)
  have m1 : mag a / d ≤ mag a := Int.ediv_le_self _ (mag_nn a)
  have hs : decide (a < 0) = true := decide_eq_true hn
  have hma : mag a = -a := if_pos hn
  have ha2 : -170141183460469231731687303715884105728 ≤ a := ha.1
  have hf : Fits true (mag a / d) := fits_of _ _ m0 (by unfold Big sgn; rw [if_pos rfl]; omega)
  have nf := neg_floor' (mag a) d hd hz
  have es : sgn true (mag a / d) = -(mag a / d) := rfl
  have eq2 : -(mag a / d) - 1 = q := by rw [hq0, ← nf.1, hma, Int.neg_neg]
  have er : d - mag a % d = r := by rw [hr0, ← nf.2, hma, Int.neg_neg]
  have hq : Big (-(mag a / d)) := by unfold Big; omega
  have hone : Big 1 := by unfold Big; omega
  have kd : mag a / d < mag a := by
    rcases Int.lt_or_le 1 d with g | g
    · have := Int.mul_le_mul_of_nonneg_left (show 2 ≤ d by omega) (mag_nn a)
      exact (Int.ediv_lt_iff_lt_mul hd).2 (by omega)
    · have : d = 1 := by omega
      subst this; simp at hz
  have hr : Big (-(mag a / d) - 1) := by unfold Big; omega
  have c3 : IntKind.u64.wrap (d - mag a % d) = r := by rw [er, IntKind.wrap_u64]; omega
  have nd : ¬ d < 1 := by omega
  have c2 : IntKind.i64.wrap r = r := IntWalk.i64_in _ (by omega)
  clear hma hmb m0 m1 hq0 hr0 ha2 nf kd er
  go_enter Try.func50, Try.ntmps50
  go_wp2_with fail
  obtain ⟨w0, hw0⟩ : ∃ x : World, x = ((w.alloc (.cells #[.int .i64 (hi (a)), .int .u64 (lo (a))] 61)).alloc (.cells #[.int .i64 0, .int .u64 0] 61)) := ⟨_, rfl⟩
  have k0 : w0.cell? ⟨w.heap.size, 0, none⟩ = some (.int .i64 (hi (a))) := by rw [hw0]; repeat (first | (refine cell_new ?_ rfl; (simp; done)) | refine cell_old ?_)
  have k1 : w0.cell? ⟨w.heap.size, 1, none⟩ = some (.int .u64 (lo (a))) := by rw [hw0]; repeat (first | (refine cell_new ?_ rfl; (simp; done)) | refine cell_old ?_)
  have k2 : w0.cell? ⟨w.heap.size + 1, 0, none⟩ = some (.int .i64 0) := by rw [hw0]; repeat (first | (refine cell_new ?_ rfl; (simp; done)) | refine cell_old ?_)
  have k3 : w0.cell? ⟨w.heap.size + 1, 1, none⟩ = some (.int .u64 0) := by rw [hw0]; repeat (first | (refine cell_new ?_ rfl; (simp; done)) | refine cell_old ?_)
  have z0 : w.heap.size < w0.heap.size := World.block_lt_of_cell? _ _ k0
  have z1 : w.heap.size + 1 < w0.heap.size := World.block_lt_of_cell? _ _ k2
  have hB : Below w.heap.size w w0 := by rw [hw0]; repeat (with_reducible first | exact bel_refl _ | apply bel_alloc)
  have f1_0 : w0.frozen? ⟨w.heap.size + 1, 0, none⟩ = false := by rw [hw0]; repeat (first | (refine frz_new ?_; (simp; done)) | (refine frz_old (by first | (simp; done) | (simp; omega)) ?_))
  have f1_1 : w0.frozen? ⟨w.heap.size + 1, 1, none⟩ = false := by rw [hw0]; repeat (first | (refine frz_new ?_; (simp; done)) | (refine frz_old (by first | (simp; done) | (simp; omega)) ?_))
  rw [← hw0]
  clear hw0
  refine (part_any a ha _).mono ?_
  rintro e w1 ⟨rfl, hb1⟩
  replace f1_0 := frz_later (bel_call hb1 (by repeat (with_reducible first | exact bel_refl _ | apply bel_alloc | apply bel_drew))) k2 f1_0
  replace f1_1 := frz_later (bel_call hb1 (by repeat (with_reducible first | exact bel_refl _ | apply bel_alloc | apply bel_drew))) k3 f1_1
  replace hB := bel_call hb1 (by repeat (with_reducible first | exact hB | apply bel_alloc | apply bel_drew))
  replace k0 := cell_later (bel_call hb1 (by repeat (with_reducible first | exact bel_refl _ | apply bel_alloc | apply bel_drew))) k0
  replace k1 := cell_later (bel_call hb1 (by repeat (with_reducible first | exact bel_refl _ | apply bel_alloc | apply bel_drew))) k1
  replace k2 := cell_later (bel_call hb1 (by repeat (with_reducible first | exact bel_refl _ | apply bel_alloc | apply bel_drew))) k2
  replace k3 := cell_later (bel_call hb1 (by repeat (with_reducible first | exact bel_refl _ | apply bel_alloc | apply bel_drew))) k3
  replace z0 := World.block_lt_of_cell? _ _ k0
  replace z1 := World.block_lt_of_cell? _ _ k2
  simp only [] at z0 z1
  clear hb1
  rw [hs]
  go_wp2_with fail
  obtain ⟨w2, hw0⟩ : ∃ x : World, x = (w1.alloc (.cells #[.bool true, .int .u64 (d0 (mag a)), .int .u64 (d1 (mag a)), .int .u64 0] 91)) := ⟨_, rfl⟩
  replace f1_0 : w2.frozen? ⟨w.heap.size + 1, 0, none⟩ = false := by rw [hw0]; exact frz_later (by repeat (with_reducible first | exact bel_refl _ | apply bel_alloc | apply bel_drew)) k2 f1_0
  replace f1_1 : w2.frozen? ⟨w.heap.size + 1, 1, none⟩ = false := by rw [hw0]; exact frz_later (by repeat (with_reducible first | exact bel_refl _ | apply bel_alloc | apply bel_drew)) k3 f1_1
  replace k0 : w2.cell? ⟨w.heap.size, 0, none⟩ = some (.int .i64 (hi (a))) := by rw [hw0]; exact cell_later (by repeat (with_reducible first | exact bel_refl _ | apply bel_alloc | apply bel_drew)) k0
  replace k1 : w2.cell? ⟨w.heap.size, 1, none⟩ = some (.int .u64 (lo (a))) := by rw [hw0]; exact cell_later (by repeat (with_reducible first | exact bel_refl _ | apply bel_alloc | apply bel_drew)) k1
  replace k2 : w2.cell? ⟨w.heap.size + 1, 0, none⟩ = some (.int .i64 0) := by rw [hw0]; exact cell_later (by repeat (with_reducible first | exact bel_refl _ | apply bel_alloc | apply bel_drew)) k2
  replace k3 : w2.cell? ⟨w.heap.size + 1, 1, none⟩ = some (.int .u64 0) := by rw [hw0]; exact cell_later (by repeat (with_reducible first | exact bel_refl _ | apply bel_alloc | apply bel_drew)) k3
  have k4 : w2.cell? ⟨w1.heap.size, 0, none⟩ = some (.bool true) := by rw [hw0]; repeat (first | (refine cell_new ?_ rfl; (simp; done)) | refine cell_old ?_)
  have k5 : w2.cell? ⟨w1.heap.size, 1, none⟩ = some (.int .u64 (d0 (mag a))) := by rw [hw0]; repeat (first | (refine cell_new ?_ rfl; (simp; done)) | refine cell_old ?_)
  have k6 : w2.cell? ⟨w1.heap.size, 2, none⟩ = some (.int .u64 (d1 (mag a))) := by rw [hw0]; repeat (first | (refine cell_new ?_ rfl; (simp; done)) | refine cell_old ?_)
  have k7 : w2.cell? ⟨w1.heap.size, 3, none⟩ = some (.int .u64 0) := by rw [hw0]; repeat (first | (refine cell_new ?_ rfl; (simp; done)) | refine cell_old ?_)
  have z0 : w.heap.size < w2.heap.size := World.block_lt_of_cell? _ _ k0
  have z1 : w.heap.size + 1 < w2.heap.size := World.block_lt_of_cell? _ _ k2
  have z2 : w1.heap.size < w2.heap.size := World.block_lt_of_cell? _ _ k4
  replace hB : Below w.heap.size w w2 := by rw [hw0]; repeat (with_reducible first | exact hB | apply bel_alloc)
  rw [← hw0]
  clear hw0
  refine (words_divided _ _ d l1 l2 ⟨by omega, by omega⟩ _).mono ?_
  rintro e w3 ⟨rfl, hb1⟩
  replace f1_0 := frz_later (bel_call hb1 (by repeat (with_reducible first | exact bel_refl _ | apply bel_alloc | apply bel_drew))) k2 f1_0
  replace f1_1 := frz_later (bel_call hb1 (by repeat (with_reducible first | exact bel_refl _ | apply bel_alloc | apply bel_drew))) k3 f1_1
  replace hB := bel_call hb1 (by repeat (with_reducible first | exact hB | apply bel_alloc | apply bel_drew))
  replace k0 := cell_later (bel_call hb1 (by repeat (with_reducible first | exact bel_refl _ | apply bel_alloc | apply bel_drew))) k0
  replace k1 := cell_later (bel_call hb1 (by repeat (with_reducible first | exact bel_refl _ | apply bel_alloc | apply bel_drew))) k1
  replace k2 := cell_later (bel_call hb1 (by repeat (with_reducible first | exact bel_refl _ | apply bel_alloc | apply bel_drew))) k2
  replace k3 := cell_later (bel_call hb1 (by repeat (with_reducible first | exact bel_refl _ | apply bel_alloc | apply bel_drew))) k3
  replace k4 := cell_later (bel_call hb1 (by repeat (with_reducible first | exact bel_refl _ | apply bel_alloc | apply bel_drew))) k4
  replace k5 := cell_later (bel_call hb1 (by repeat (with_reducible first | exact bel_refl _ | apply bel_alloc | apply bel_drew))) k5
  replace k6 := cell_later (bel_call hb1 (by repeat (with_reducible first | exact bel_refl _ | apply bel_alloc | apply bel_drew))) k6
  replace k7 := cell_later (bel_call hb1 (by repeat (with_reducible first | exact bel_refl _ | apply bel_alloc | apply bel_drew))) k7
  replace z0 := World.block_lt_of_cell? _ _ k0
  replace z1 := World.block_lt_of_cell? _ _ k2
  replace z2 := World.block_lt_of_cell? _ _ k4
  simp only [] at z0 z1 z2
  clear hb1
  rw [q0, q1, q2]
  go_wp2_with fail
  obtain ⟨w4, hw0⟩ : ∃ x : World, x = (w3.alloc (.cells #[.int .u64 (d0 (mag a / d)), .int .u64 (d1 (mag a / d)), .int .u64 0] 89)) := ⟨_, rfl⟩
  replace f1_0 : w4.frozen? ⟨w.heap.size + 1, 0, none⟩ = false := by rw [hw0]; exact frz_later (by repeat (with_reducible first | exact bel_refl _ | apply bel_alloc | apply bel_drew)) k2 f1_0
  replace f1_1 : w4.frozen? ⟨w.heap.size + 1, 1, none⟩ = false := by rw [hw0]; exact frz_later (by repeat (with_reducible first | exact bel_refl _ | apply bel_alloc | apply bel_drew)) k3 f1_1
  replace k0 : w4.cell? ⟨w.heap.size, 0, none⟩ = some (.int .i64 (hi (a))) := by rw [hw0]; exact cell_later (by repeat (with_reducible first | exact bel_refl _ | apply bel_alloc | apply bel_drew)) k0
  replace k1 : w4.cell? ⟨w.heap.size, 1, none⟩ = some (.int .u64 (lo (a))) := by rw [hw0]; exact cell_later (by repeat (with_reducible first | exact bel_refl _ | apply bel_alloc | apply bel_drew)) k1
  replace k2 : w4.cell? ⟨w.heap.size + 1, 0, none⟩ = some (.int .i64 0) := by rw [hw0]; exact cell_later (by repeat (with_reducible first | exact bel_refl _ | apply bel_alloc | apply bel_drew)) k2
  replace k3 : w4.cell? ⟨w.heap.size + 1, 1, none⟩ = some (.int .u64 0) := by rw [hw0]; exact cell_later (by repeat (with_reducible first | exact bel_refl _ | apply bel_alloc | apply bel_drew)) k3
  replace k4 : w4.cell? ⟨w1.heap.size, 0, none⟩ = some (.bool true) := by rw [hw0]; exact cell_later (by repeat (with_reducible first | exact bel_refl _ | apply bel_alloc | apply bel_drew)) k4
  replace k5 : w4.cell? ⟨w1.heap.size, 1, none⟩ = some (.int .u64 (d0 (mag a))) := by rw [hw0]; exact cell_later (by repeat (with_reducible first | exact bel_refl _ | apply bel_alloc | apply bel_drew)) k5
  replace k6 : w4.cell? ⟨w1.heap.size, 2, none⟩ = some (.int .u64 (d1 (mag a))) := by rw [hw0]; exact cell_later (by repeat (with_reducible first | exact bel_refl _ | apply bel_alloc | apply bel_drew)) k6
  replace k7 : w4.cell? ⟨w1.heap.size, 3, none⟩ = some (.int .u64 0) := by rw [hw0]; exact cell_later (by repeat (with_reducible first | exact bel_refl _ | apply bel_alloc | apply bel_drew)) k7
  have k8 : w4.cell? ⟨w3.heap.size, 0, none⟩ = some (.int .u64 (d0 (mag a / d))) := by rw [hw0]; repeat (first | (refine cell_new ?_ rfl; (simp; done)) | refine cell_old ?_)
  have k9 : w4.cell? ⟨w3.heap.size, 1, none⟩ = some (.int .u64 (d1 (mag a / d))) := by rw [hw0]; repeat (first | (refine cell_new ?_ rfl; (simp; done)) | refine cell_old ?_)
  have k10 : w4.cell? ⟨w3.heap.size, 2, none⟩ = some (.int .u64 0) := by rw [hw0]; repeat (first | (refine cell_new ?_ rfl; (simp; done)) | refine cell_old ?_)
  have z0 : w.heap.size < w4.heap.size := World.block_lt_of_cell? _ _ k0
  have z1 : w.heap.size + 1 < w4.heap.size := World.block_lt_of_cell? _ _ k2
  have z2 : w1.heap.size < w4.heap.size := World.block_lt_of_cell? _ _ k4
  have z3 : w3.heap.size < w4.heap.size := World.block_lt_of_cell? _ _ k8
  replace hB : Below w.heap.size w w4 := by rw [hw0]; repeat (with_reducible first | exact hB | apply bel_alloc)
  rw [← hw0]
  clear hw0
  refine (whole_any _ _ hf _).mono ?_
  rintro e w5 ⟨rfl, hb1⟩
  replace f1_0 := frz_later (bel_call hb1 (by repeat (with_reducible first | exact bel_refl _ | apply bel_alloc | apply bel_drew))) k2 f1_0
  replace f1_1 := frz_later (bel_call hb1 (by repeat (with_reducible first | exact bel_refl _ | apply bel_alloc | apply bel_drew))) k3 f1_1
  replace hB := bel_call hb1 (by repeat (with_reducible first | exact hB | apply bel_alloc | apply bel_drew))
  replace k0 := cell_later (bel_call hb1 (by repeat (with_reducible first | exact bel_refl _ | apply bel_alloc | apply bel_drew))) k0
  replace k1 := cell_later (bel_call hb1 (by repeat (with_reducible first | exact bel_refl _ | apply bel_alloc | apply bel_drew))) k1
  replace k2 := cell_later (bel_call hb1 (by repeat (with_reducible first | exact bel_refl _ | apply bel_alloc | apply bel_drew))) k2
  replace k3 := cell_later (bel_call hb1 (by repeat (with_reducible first | exact bel_refl _ | apply bel_alloc | apply bel_drew))) k3
  replace k4 := cell_later (bel_call hb1 (by repeat (with_reducible first | exact bel_refl _ | apply bel_alloc | apply bel_drew))) k4
  replace k5 := cell_later (bel_call hb1 (by repeat (with_reducible first | exact bel_refl _ | apply bel_alloc | apply bel_drew))) k5
  replace k6 := cell_later (bel_call hb1 (by repeat (with_reducible first | exact bel_refl _ | apply bel_alloc | apply bel_drew))) k6
  replace k7 := cell_later (bel_call hb1 (by repeat (with_reducible first | exact bel_refl _ | apply bel_alloc | apply bel_drew))) k7
  replace k8 := cell_later (bel_call hb1 (by repeat (with_reducible first | exact bel_refl _ | apply bel_alloc | apply bel_drew))) k8
  replace k9 := cell_later (bel_call hb1 (by repeat (with_reducible first | exact bel_refl _ | apply bel_alloc | apply bel_drew))) k9
  replace k10 := cell_later (bel_call hb1 (by repeat (with_reducible first | exact bel_refl _ | apply bel_alloc | apply bel_drew))) k10
  replace z0 := World.block_lt_of_cell? _ _ k0
  replace z1 := World.block_lt_of_cell? _ _ k2
  replace z2 := World.block_lt_of_cell? _ _ k4
  replace z3 := World.block_lt_of_cell? _ _ k8
  simp only [] at z0 z1 z2 z3
  clear hb1
  rw [es]
  go_wp2
  obtain ⟨w6, hw0⟩ : ∃ x : World, x = ((w5.setCell ⟨w.heap.size + 1, 0, none⟩ (.int .i64 (hi (-(mag a / d))))).setCell ⟨w.heap.size + 1, 1, none⟩ (.int .u64 (lo (-(mag a / d))))) := ⟨_, rfl⟩
  have new_k0 : w6.cell? ⟨w.heap.size, 0, none⟩ = some (.int .i64 (hi (a))) := by rw [hw0]; exact (cell_set_ne (by omega) (cell_set_ne (by omega) k0))
  have new_k1 : w6.cell? ⟨w.heap.size, 1, none⟩ = some (.int .u64 (lo (a))) := by rw [hw0]; exact (cell_set_ne (by omega) (cell_set_ne (by omega) k1))
  have new_k2 : w6.cell? ⟨w.heap.size + 1, 0, none⟩ = some (.int .i64 (hi (-(mag a / d)))) := by rw [hw0]; exact (cell_set_ne (by omega) (cell_set_eq k2))
  have new_k3 : w6.cell? ⟨w.heap.size + 1, 1, none⟩ = some (.int .u64 (lo (-(mag a / d)))) := by rw [hw0]; exact (cell_set_eq (cell_set_ne (by omega) k3))
  have new_k4 : w6.cell? ⟨w1.heap.size, 0, none⟩ = some (.bool true) := by rw [hw0]; exact (cell_set_ne (by omega) (cell_set_ne (by omega) k4))
  have new_k5 : w6.cell? ⟨w1.heap.size, 1, none⟩ = some (.int .u64 (d0 (mag a))) := by rw [hw0]; exact (cell_set_ne (by omega) (cell_set_ne (by omega) k5))
  have new_k6 : w6.cell? ⟨w1.heap.size, 2, none⟩ = some (.int .u64 (d1 (mag a))) := by rw [hw0]; exact (cell_set_ne (by omega) (cell_set_ne (by omega) k6))
  have new_k7 : w6.cell? ⟨w1.heap.size, 3, none⟩ = some (.int .u64 0) := by rw [hw0]; exact (cell_set_ne (by omega) (cell_set_ne (by omega) k7))
  have new_k8 : w6.cell? ⟨w3.heap.size, 0, none⟩ = some (.int .u64 (d0 (mag a / d))) := by rw [hw0]; exact (cell_set_ne (by omega) (cell_set_ne (by omega) k8))
  have new_k9 : w6.cell? ⟨w3.heap.size, 1, none⟩ = some (.int .u64 (d1 (mag a / d))) := by rw [hw0]; exact (cell_set_ne (by omega) (cell_set_ne (by omega) k9))
  have new_k10 : w6.cell? ⟨w3.heap.size, 2, none⟩ = some (.int .u64 0) := by rw [hw0]; exact (cell_set_ne (by omega) (cell_set_ne (by omega) k10))
  replace f1_0 : w6.frozen? ⟨w.heap.size + 1, 0, none⟩ = false := by rw [hw0]; (repeat rw [World.frozen?_setCell]); exact f1_0
  replace f1_1 : w6.frozen? ⟨w.heap.size + 1, 1, none⟩ = false := by rw [hw0]; (repeat rw [World.frozen?_setCell]); exact f1_1
  replace hB : Below w.heap.size w w6 := by rw [hw0]; repeat (with_reducible first | exact hB | refine bel_set _ (by omega) ?_)
  clear k0 k1 k2 k3 k4 k5 k6 k7 k8 k9 k10
  have k0 := new_k0; clear new_k0
  have k1 := new_k1; clear new_k1
  have k2 := new_k2; clear new_k2
  have k3 := new_k3; clear new_k3
  have k4 := new_k4; clear new_k4
  have k5 := new_k5; clear new_k5
  have k6 := new_k6; clear new_k6
  have k7 := new_k7; clear new_k7
  have k8 := new_k8; clear new_k8
  have k9 := new_k9; clear new_k9
  have k10 := new_k10; clear new_k10
  replace z0 : w.heap.size < w6.heap.size := World.block_lt_of_cell? _ _ k0
  replace z1 : w.heap.size + 1 < w6.heap.size := World.block_lt_of_cell? _ _ k2
  replace z2 : w1.heap.size < w6.heap.size := World.block_lt_of_cell? _ _ k4
  replace z3 : w3.heap.size < w6.heap.size := World.block_lt_of_cell? _ _ k8
  rw [← hw0]
  clear hw0
  go_region_with (first
    | (go_at_call 49; refine (of_any 1 ⟨by omega, by omega⟩ _).mono ?_; rintro e w7 ⟨rfl, hb1⟩; replace f1_0 := frz_later (bel_call hb1 (by repeat (with_reducible first | exact bel_refl _ | apply bel_alloc | apply bel_drew))) k2 f1_0; replace f1_1 := frz_later (bel_call hb1 (by repeat (with_reducible first | exact bel_refl _ | apply bel_alloc | apply bel_drew))) k3 f1_1; replace hB := bel_call hb1 (by repeat (with_reducible first | exact hB | apply bel_alloc | apply bel_drew)); replace k0 := cell_later (bel_call hb1 (by repeat (with_reducible first | exact bel_refl _ | apply bel_alloc | apply bel_drew))) k0; replace k1 := cell_later (bel_call hb1 (by repeat (with_reducible first | exact bel_refl _ | apply bel_alloc | apply bel_drew))) k1; replace k2 := cell_later (bel_call hb1 (by repeat (with_reducible first | exact bel_refl _ | apply bel_alloc | apply bel_drew))) k2; replace k3 := cell_later (bel_call hb1 (by repeat (with_reducible first | exact bel_refl _ | apply bel_alloc | apply bel_drew))) k3; replace k4 := cell_later (bel_call hb1 (by repeat (with_reducible first | exact bel_refl _ | apply bel_alloc | apply bel_drew))) k4; replace k5 := cell_later (bel_call hb1 (by repeat (with_reducible first | exact bel_refl _ | apply bel_alloc | apply bel_drew))) k5; replace k6 := cell_later (bel_call hb1 (by repeat (with_reducible first | exact bel_refl _ | apply bel_alloc | apply bel_drew))) k6; replace k7 := cell_later (bel_call hb1 (by repeat (with_reducible first | exact bel_refl _ | apply bel_alloc | apply bel_drew))) k7; replace k8 := cell_later (bel_call hb1 (by repeat (with_reducible first | exact bel_refl _ | apply bel_alloc | apply bel_drew))) k8; replace k9 := cell_later (bel_call hb1 (by repeat (with_reducible first | exact bel_refl _ | apply bel_alloc | apply bel_drew))) k9; replace k10 := cell_later (bel_call hb1 (by repeat (with_reducible first | exact bel_refl _ | apply bel_alloc | apply bel_drew))) k10; replace z0 := World.block_lt_of_cell? _ _ k0; replace z1 := World.block_lt_of_cell? _ _ k2; replace z2 := World.block_lt_of_cell? _ _ k4; replace z3 := World.block_lt_of_cell? _ _ k8; simp only [] at z0 z1 z2 z3; clear hb1)
    | (go_at_call 64; refine (sub_any _ _ hq hone hr _).mono ?_; rintro e w8 ⟨rfl, hb1⟩; replace f1_0 := frz_later (bel_call hb1 (by repeat (with_reducible first | exact bel_refl _ | apply bel_alloc | apply bel_drew))) k2 f1_0; replace f1_1 := frz_later (bel_call hb1 (by repeat (with_reducible first | exact bel_refl _ | apply bel_alloc | apply bel_drew))) k3 f1_1; replace hB := bel_call hb1 (by repeat (with_reducible first | exact hB | apply bel_alloc | apply bel_drew)); replace k0 := cell_later (bel_call hb1 (by repeat (with_reducible first | exact bel_refl _ | apply bel_alloc | apply bel_drew))) k0; replace k1 := cell_later (bel_call hb1 (by repeat (with_reducible first | exact bel_refl _ | apply bel_alloc | apply bel_drew))) k1; replace k2 := cell_later (bel_call hb1 (by repeat (with_reducible first | exact bel_refl _ | apply bel_alloc | apply bel_drew))) k2; replace k3 := cell_later (bel_call hb1 (by repeat (with_reducible first | exact bel_refl _ | apply bel_alloc | apply bel_drew))) k3; replace k4 := cell_later (bel_call hb1 (by repeat (with_reducible first | exact bel_refl _ | apply bel_alloc | apply bel_drew))) k4; replace k5 := cell_later (bel_call hb1 (by repeat (with_reducible first | exact bel_refl _ | apply bel_alloc | apply bel_drew))) k5; replace k6 := cell_later (bel_call hb1 (by repeat (with_reducible first | exact bel_refl _ | apply bel_alloc | apply bel_drew))) k6; replace k7 := cell_later (bel_call hb1 (by repeat (with_reducible first | exact bel_refl _ | apply bel_alloc | apply bel_drew))) k7; replace k8 := cell_later (bel_call hb1 (by repeat (with_reducible first | exact bel_refl _ | apply bel_alloc | apply bel_drew))) k8; replace k9 := cell_later (bel_call hb1 (by repeat (with_reducible first | exact bel_refl _ | apply bel_alloc | apply bel_drew))) k9; replace k10 := cell_later (bel_call hb1 (by repeat (with_reducible first | exact bel_refl _ | apply bel_alloc | apply bel_drew))) k10; replace z0 := World.block_lt_of_cell? _ _ k0; replace z1 := World.block_lt_of_cell? _ _ k2; replace z2 := World.block_lt_of_cell? _ _ k4; replace z3 := World.block_lt_of_cell? _ _ k8; simp only [] at z0 z1 z2 z3; clear hb1; rw [eq2]))
  all_goals go_wp2
  · skip
    obtain ⟨w9, hw0⟩ : ∃ x : World, x = ((((w8.setCell ⟨w.heap.size + 1, 0, none⟩ (.int .i64 (hi q))).setCell ⟨w.heap.size + 1, 1, none⟩ (.int .u64 (lo q))).setCell ⟨w.heap.size + 1, 0, none⟩ (.int .i64 (hi q))).setCell ⟨w.heap.size + 1, 1, none⟩ (.int .u64 (lo q))) := ⟨_, rfl⟩
    have new_k0 : w9.cell? ⟨w.heap.size, 0, none⟩ = some (.int .i64 (hi (a))) := by rw [hw0]; exact (cell_set_ne (by omega) (cell_set_ne (by omega) (cell_set_ne (by omega) (cell_set_ne (by omega) k0))))
    have new_k1 : w9.cell? ⟨w.heap.size, 1, none⟩ = some (.int .u64 (lo (a))) := by rw [hw0]; exact (cell_set_ne (by omega) (cell_set_ne (by omega) (cell_set_ne (by omega) (cell_set_ne (by omega) k1))))
    have new_k2 : w9.cell? ⟨w.heap.size + 1, 0, none⟩ = some (.int .i64 (hi q)) := by rw [hw0]; exact (cell_set_ne (by omega) (cell_set_eq (cell_set_ne (by omega) (cell_set_eq k2))))
    have new_k3 : w9.cell? ⟨w.heap.size + 1, 1, none⟩ = some (.int .u64 (lo q)) := by rw [hw0]; exact (cell_set_eq (cell_set_ne (by omega) (cell_set_eq (cell_set_ne (by omega) k3))))
    have new_k4 : w9.cell? ⟨w1.heap.size, 0, none⟩ = some (.bool true) := by rw [hw0]; exact (cell_set_ne (by omega) (cell_set_ne (by omega) (cell_set_ne (by omega) (cell_set_ne (by omega) k4))))
    have new_k5 : w9.cell? ⟨w1.heap.size, 1, none⟩ = some (.int .u64 (d0 (mag a))) := by rw [hw0]; exact (cell_set_ne (by omega) (cell_set_ne (by omega) (cell_set_ne (by omega) (cell_set_ne (by omega) k5))))
    have new_k6 : w9.cell? ⟨w1.heap.size, 2, none⟩ = some (.int .u64 (d1 (mag a))) := by rw [hw0]; exact (cell_set_ne (by omega) (cell_set_ne (by omega) (cell_set_ne (by omega) (cell_set_ne (by omega) k6))))
    have new_k7 : w9.cell? ⟨w1.heap.size, 3, none⟩ = some (.int .u64 0) := by rw [hw0]; exact (cell_set_ne (by omega) (cell_set_ne (by omega) (cell_set_ne (by omega) (cell_set_ne (by omega) k7))))
    have new_k8 : w9.cell? ⟨w3.heap.size, 0, none⟩ = some (.int .u64 (d0 (mag a / d))) := by rw [hw0]; exact (cell_set_ne (by omega) (cell_set_ne (by omega) (cell_set_ne (by omega) (cell_set_ne (by omega) k8))))
    have new_k9 : w9.cell? ⟨w3.heap.size, 1, none⟩ = some (.int .u64 (d1 (mag a / d))) := by rw [hw0]; exact (cell_set_ne (by omega) (cell_set_ne (by omega) (cell_set_ne (by omega) (cell_set_ne (by omega) k9))))
    have new_k10 : w9.cell? ⟨w3.heap.size, 2, none⟩ = some (.int .u64 0) := by rw [hw0]; exact (cell_set_ne (by omega) (cell_set_ne (by omega) (cell_set_ne (by omega) (cell_set_ne (by omega) k10))))
    replace f1_0 : w9.frozen? ⟨w.heap.size + 1, 0, none⟩ = false := by rw [hw0]; (repeat rw [World.frozen?_setCell]); exact f1_0
    replace f1_1 : w9.frozen? ⟨w.heap.size + 1, 1, none⟩ = false := by rw [hw0]; (repeat rw [World.frozen?_setCell]); exact f1_1
    replace hB : Below w.heap.size w w9 := by rw [hw0]; repeat (with_reducible first | exact hB | refine bel_set _ (by omega) ?_)
    clear k0 k1 k2 k3 k4 k5 k6 k7 k8 k9 k10
    have k0 := new_k0; clear new_k0
    have k1 := new_k1; clear new_k1
    have k2 := new_k2; clear new_k2
    have k3 := new_k3; clear new_k3
    have k4 := new_k4; clear new_k4
    have k5 := new_k5; clear new_k5
    have k6 := new_k6; clear new_k6
    have k7 := new_k7; clear new_k7
    have k8 := new_k8; clear new_k8
    have k9 := new_k9; clear new_k9
    have k10 := new_k10; clear new_k10
    replace z0 : w.heap.size < w9.heap.size := World.block_lt_of_cell? _ _ k0
    replace z1 : w.heap.size + 1 < w9.heap.size := World.block_lt_of_cell? _ _ k2
    replace z2 : w1.heap.size < w9.heap.size := World.block_lt_of_cell? _ _ k4
    replace z3 : w3.heap.size < w9.heap.size := World.block_lt_of_cell? _ _ k8
    rw [← hw0]
    clear hw0
    exact bodyPost_ret (v := .tuple #[.agg #[.int .i64 (hi (q)), .int .u64 (lo (q))], .int .i64 r, .int .i64 0]) (by simp [results, Try.results50, go_sem, *]) rfl ⟨rfl, by repeat (with_reducible first | exact hB | refine bel_set _ (by omega) ?_ | apply bel_alloc | apply bel_drew)⟩
  · skip
    obtain ⟨w9, hw0⟩ : ∃ x : World, x = ((((w8.setCell ⟨w.heap.size + 1, 0, none⟩ (.int .i64 (hi q))).setCell ⟨w.heap.size + 1, 1, none⟩ (.int .u64 (lo q))).setCell ⟨w.heap.size + 1, 0, none⟩ (.int .i64 (hi q))).setCell ⟨w.heap.size + 1, 1, none⟩ (.int .u64 (lo q))) := ⟨_, rfl⟩
    have new_k0 : w9.cell? ⟨w.heap.size, 0, none⟩ = some (.int .i64 (hi (a))) := by rw [hw0]; exact (cell_set_ne (by omega) (cell_set_ne (by omega) (cell_set_ne (by omega) (cell_set_ne (by omega) k0))))
    have new_k1 : w9.cell? ⟨w.heap.size, 1, none⟩ = some (.int .u64 (lo (a))) := by rw [hw0]; exact (cell_set_ne (by omega) (cell_set_ne (by omega) (cell_set_ne (by omega) (cell_set_ne (by omega) k1))))
    have new_k2 : w9.cell? ⟨w.heap.size + 1, 0, none⟩ = some (.int .i64 (hi q)) := by rw [hw0]; exact (cell_set_ne (by omega) (cell_set_eq (cell_set_ne (by omega) (cell_set_eq k2))))
    have new_k3 : w9.cell? ⟨w.heap.size + 1, 1, none⟩ = some (.int .u64 (lo q)) := by rw [hw0]; exact (cell_set_eq (cell_set_ne (by omega) (cell_set_eq (cell_set_ne (by omega) k3))))
    have new_k4 : w9.cell? ⟨w1.heap.size, 0, none⟩ = some (.bool true) := by rw [hw0]; exact (cell_set_ne (by omega) (cell_set_ne (by omega) (cell_set_ne (by omega) (cell_set_ne (by omega) k4))))
    have new_k5 : w9.cell? ⟨w1.heap.size, 1, none⟩ = some (.int .u64 (d0 (mag a))) := by rw [hw0]; exact (cell_set_ne (by omega) (cell_set_ne (by omega) (cell_set_ne (by omega) (cell_set_ne (by omega) k5))))
    have new_k6 : w9.cell? ⟨w1.heap.size, 2, none⟩ = some (.int .u64 (d1 (mag a))) := by rw [hw0]; exact (cell_set_ne (by omega) (cell_set_ne (by omega) (cell_set_ne (by omega) (cell_set_ne (by omega) k6))))
    have new_k7 : w9.cell? ⟨w1.heap.size, 3, none⟩ = some (.int .u64 0) := by rw [hw0]; exact (cell_set_ne (by omega) (cell_set_ne (by omega) (cell_set_ne (by omega) (cell_set_ne (by omega) k7))))
    have new_k8 : w9.cell? ⟨w3.heap.size, 0, none⟩ = some (.int .u64 (d0 (mag a / d))) := by rw [hw0]; exact (cell_set_ne (by omega) (cell_set_ne (by omega) (cell_set_ne (by omega) (cell_set_ne (by omega) k8))))
    have new_k9 : w9.cell? ⟨w3.heap.size, 1, none⟩ = some (.int .u64 (d1 (mag a / d))) := by rw [hw0]; exact (cell_set_ne (by omega) (cell_set_ne (by omega) (cell_set_ne (by omega) (cell_set_ne (by omega) k9))))
    have new_k10 : w9.cell? ⟨w3.heap.size, 2, none⟩ = some (.int .u64 0) := by rw [hw0]; exact (cell_set_ne (by omega) (cell_set_ne (by omega) (cell_set_ne (by omega) (cell_set_ne (by omega) k10))))
    replace f1_0 : w9.frozen? ⟨w.heap.size + 1, 0, none⟩ = false := by rw [hw0]; (repeat rw [World.frozen?_setCell]); exact f1_0
    replace f1_1 : w9.frozen? ⟨w.heap.size + 1, 1, none⟩ = false := by rw [hw0]; (repeat rw [World.frozen?_setCell]); exact f1_1
    replace hB : Below w.heap.size w w9 := by rw [hw0]; repeat (with_reducible first | exact hB | refine bel_set _ (by omega) ?_)
    clear k0 k1 k2 k3 k4 k5 k6 k7 k8 k9 k10
    have k0 := new_k0; clear new_k0
    have k1 := new_k1; clear new_k1
    have k2 := new_k2; clear new_k2
    have k3 := new_k3; clear new_k3
    have k4 := new_k4; clear new_k4
    have k5 := new_k5; clear new_k5
    have k6 := new_k6; clear new_k6
    have k7 := new_k7; clear new_k7
    have k8 := new_k8; clear new_k8
    have k9 := new_k9; clear new_k9
    have k10 := new_k10; clear new_k10
    replace z0 : w.heap.size < w9.heap.size := World.block_lt_of_cell? _ _ k0
    replace z1 : w.heap.size + 1 < w9.heap.size := World.block_lt_of_cell? _ _ k2
    replace z2 : w1.heap.size < w9.heap.size := World.block_lt_of_cell? _ _ k4
    replace z3 : w3.heap.size < w9.heap.size := World.block_lt_of_cell? _ _ k8
    rw [← hw0]
    clear hw0
    exact bodyPost_ret (v := .tuple #[.agg #[.int .i64 (hi (q)), .int .u64 (lo (q))], .int .i64 r, .int .i64 0]) (by simp [results, Try.results50, go_sem, *]) rfl ⟨rfl, by repeat (with_reducible first | exact hB | refine bel_set _ (by omega) ?_ | apply bel_alloc | apply bel_drew)⟩
end Go.Proofs.Ytnhhphdhkgjbhaa
