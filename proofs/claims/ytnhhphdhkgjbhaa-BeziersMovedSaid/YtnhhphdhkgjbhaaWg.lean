/- What is proved: what wides.divided returns: a number of two words, divided by one word. -/
import Derived.Test.YtnhhphdhkgjbhaaWf
set_option linter.unusedSimpArgs false
set_option linter.unusedVariables false
namespace Go.Proofs.Ytnhhphdhkgjbhaa
open Go.RowKit Wi Dv

theorem div64_any (h lo y : Int) (hh : 0 ≤ h ∧ h < y) (hl : Word lo) (hy : 0 < y ∧ y < 18446744073709551616) (w : World) : Calls Try.prog 69 #[.int .u64 h, .int .u64 lo, .int .u64 y] w fun e w' => e = .returned (.tuple #[.int .u64 ((h * 18446744073709551616 + lo) / y), .int .u64 ((h * 18446744073709551616 + lo) % y)]) ∧ Below w.heap.size w w' := by
  by_cases h0 : h = 0
  · subst h0
    have e : 0 * 18446744073709551616 + lo = lo := by omega
    rw [e]; exact div64_low lo y hl hy w
  · exact div64_high h lo y ⟨by omega, hh.2⟩ hl hy w

set_option maxHeartbeats 800000 in
theorem words_divided (x0 x1 d : Int) (h0 : Word x0) (h1 : Word x1) (hd : 0 < d ∧ d < 18446744073709551616) (w : World) : Calls Try.prog 63 #[.agg #[.int .u64 x0, .int .u64 x1, .int .u64 0], .int .u64 d] w fun e w' => e = .returned (.tuple #[.agg #[.int .u64 ((x1 % d * 18446744073709551616 + x0) / d), .int .u64 (x1 / d), .int .u64 0], .int .u64 ((x1 % d * 18446744073709551616 + x0) % d)]) ∧ Below w.heap.size w w' := by
  have hm : 0 ≤ x1 % d ∧ x1 % d < d := ⟨Int.emod_nonneg _ (by omega), Int.emod_lt_of_pos _ hd.1⟩
  go_enter Try.func63, Try.ntmps63
  go_wp2
  obtain ⟨w0, hw0⟩ : ∃ x : World, x = ((w.alloc (.cells #[.int .u64 x0, .int .u64 x1, .int .u64 0] 89)).alloc (.cells #[.int .u64 0, .int .u64 0, .int .u64 0] 89)) := ⟨_, rfl⟩
  have k0 : w0.cell? ⟨w.heap.size, 0, none⟩ = some (.int .u64 x0) := by rw [hw0]; repeat (first | (refine cell_new ?_ rfl; (simp; done)) | refine cell_old ?_)
  have k1 : w0.cell? ⟨w.heap.size, 1, none⟩ = some (.int .u64 x1) := by rw [hw0]; repeat (first | (refine cell_new ?_ rfl; (simp; done)) | refine cell_old ?_)
  have k2 : w0.cell? ⟨w.heap.size, 2, none⟩ = some (.int .u64 0) := by rw [hw0]; repeat (first | (refine cell_new ?_ rfl; (simp; done)) | refine cell_old ?_)
  have k3 : w0.cell? ⟨w.heap.size + 1, 0, none⟩ = some (.int .u64 0) := by rw [hw0]; repeat (first | (refine cell_new ?_ rfl; (simp; done)) | refine cell_old ?_)
  have k4 : w0.cell? ⟨w.heap.size + 1, 1, none⟩ = some (.int .u64 0) := by rw [hw0]; repeat (first | (refine cell_new ?_ rfl; (simp; done)) | refine cell_old ?_)
  have k5 : w0.cell? ⟨w.heap.size + 1, 2, none⟩ = some (.int .u64 0) := by rw [hw0]; repeat (first | (refine cell_new ?_ rfl; (simp; done)) | refine cell_old ?_)
  have z0 : w.heap.size < w0.heap.size := World.block_lt_of_cell? _ _ k0
  have z1 : w.heap.size + 1 < w0.heap.size := World.block_lt_of_cell? _ _ k3
  have hB : Below w.heap.size w w0 := by rw [hw0]; repeat (with_reducible first | exact bel_refl _ | apply bel_alloc)
  have f1_0 : w0.frozen? ⟨w.heap.size + 1, 0, none⟩ = false := by rw [hw0]; repeat (first | (refine frz_new ?_; (simp; done)) | (refine frz_old (by first | (simp; done) | (simp; omega)) ?_))
  have f1_1 : w0.frozen? ⟨w.heap.size + 1, 1, none⟩ = false := by rw [hw0]; repeat (first | (refine frz_new ?_; (simp; done)) | (refine frz_old (by first | (simp; done) | (simp; omega)) ?_))
  have f1_2 : w0.frozen? ⟨w.heap.size + 1, 2, none⟩ = false := by rw [hw0]; repeat (first | (refine frz_new ?_; (simp; done)) | (refine frz_old (by first | (simp; done) | (simp; omega)) ?_))
  rw [← hw0]
  clear hw0
  go_loopw [6, 5] (fun i r wl => (i = .int .i64 1 ∧ r = .int .u64 0 ∧ wl = w0)
      ∨ (i = .int .i64 0 ∧ r = .int .u64 (x1 % d) ∧ Hid (wl.cell? ⟨w.heap.size, 0, none⟩ = some (.int .u64 x0) ∧ wl.cell? ⟨w.heap.size, 1, none⟩ = some (.int .u64 x1) ∧ wl.cell? ⟨w.heap.size, 2, none⟩ = some (.int .u64 0) ∧ wl.cell? ⟨w.heap.size + 1, 0, none⟩ = some (.int .u64 0) ∧ wl.cell? ⟨w.heap.size + 1, 1, none⟩ = some (.int .u64 (x1 / d)) ∧ wl.cell? ⟨w.heap.size + 1, 2, none⟩ = some (.int .u64 0) ∧ wl.frozen? ⟨w.heap.size + 1, 0, none⟩ = false ∧ wl.frozen? ⟨w.heap.size + 1, 1, none⟩ = false ∧ wl.frozen? ⟨w.heap.size + 1, 2, none⟩ = false ∧ Below w.heap.size w wl))
      ∨ (i = .int .i64 (-1) ∧ r = .int .u64 ((x1 % d * 18446744073709551616 + x0) % d) ∧ Hid (wl.cell? ⟨w.heap.size, 0, none⟩ = some (.int .u64 x0) ∧ wl.cell? ⟨w.heap.size, 1, none⟩ = some (.int .u64 x1) ∧ wl.cell? ⟨w.heap.size, 2, none⟩ = some (.int .u64 0) ∧ wl.cell? ⟨w.heap.size + 1, 0, none⟩ = some (.int .u64 ((x1 % d * 18446744073709551616 + x0) / d)) ∧ wl.cell? ⟨w.heap.size + 1, 1, none⟩ = some (.int .u64 (x1 / d)) ∧ wl.cell? ⟨w.heap.size + 1, 2, none⟩ = some (.int .u64 0) ∧ wl.frozen? ⟨w.heap.size + 1, 0, none⟩ = false ∧ wl.frozen? ⟨w.heap.size + 1, 1, none⟩ = false ∧ wl.frozen? ⟨w.heap.size + 1, 2, none⟩ = false ∧ Below w.heap.size w wl)))
    (fun i _ _ => (intOf i + 1).toNat)
  case atStart => exact Or.inl ⟨rfl, rfl, rfl⟩
  case round =>
    rcases hrel with ⟨rfl, rfl, rfl⟩ | ⟨rfl, rfl, hP⟩ | ⟨rfl, rfl, hP⟩
    · go_wp2_with (go_at_call 69; refine (div64_low x1 d h1 hd _).mono ?_; rintro e w1 ⟨rfl, hb1⟩; replace f1_0 := frz_later (bel_call hb1 (by repeat (with_reducible first | exact bel_refl _ | apply bel_alloc | apply bel_drew))) k3 f1_0; replace f1_1 := frz_later (bel_call hb1 (by repeat (with_reducible first | exact bel_refl _ | apply bel_alloc | apply bel_drew))) k4 f1_1; replace f1_2 := frz_later (bel_call hb1 (by repeat (with_reducible first | exact bel_refl _ | apply bel_alloc | apply bel_drew))) k5 f1_2; replace hB := bel_call hb1 (by repeat (with_reducible first | exact hB | apply bel_alloc | apply bel_drew)); replace k0 := cell_later (bel_call hb1 (by repeat (with_reducible first | exact bel_refl _ | apply bel_alloc | apply bel_drew))) k0; replace k1 := cell_later (bel_call hb1 (by repeat (with_reducible first | exact bel_refl _ | apply bel_alloc | apply bel_drew))) k1; replace k2 := cell_later (bel_call hb1 (by repeat (with_reducible first | exact bel_refl _ | apply bel_alloc | apply bel_drew))) k2; replace k3 := cell_later (bel_call hb1 (by repeat (with_reducible first | exact bel_refl _ | apply bel_alloc | apply bel_drew))) k3; replace k4 := cell_later (bel_call hb1 (by repeat (with_reducible first | exact bel_refl _ | apply bel_alloc | apply bel_drew))) k4; replace k5 := cell_later (bel_call hb1 (by repeat (with_reducible first | exact bel_refl _ | apply bel_alloc | apply bel_drew))) k5; replace z0 := World.block_lt_of_cell? _ _ k0; replace z1 := World.block_lt_of_cell? _ _ k3; simp only [] at z0 z1; clear hb1)
      go_roundw
      case rel => exact Or.inr (Or.inl ⟨rfl, by trivial, Lib.hid ⟨(cell_set_ne (by omega) k0), (cell_set_ne (by omega) k1), (cell_set_ne (by omega) k2), (cell_set_ne (by omega) k3), (cell_set_eq k4), (cell_set_ne (by omega) k5), (by (repeat rw [World.frozen?_setCell]); exact f1_0), (by (repeat rw [World.frozen?_setCell]); exact f1_1), (by (repeat rw [World.frozen?_setCell]); exact f1_2), (by repeat (with_reducible first | exact hB | refine bel_set _ (by omega) ?_))⟩⟩)
      case measure => simp [intOf]
    · clear k0 k1 k2 k3 k4 k5 z0 z1 f1_0 f1_1 f1_2 hB
      obtain ⟨k0, k1, k2, k3, k4, k5, f1_0, f1_1, f1_2, hB⟩ := hP.out
      clear hP
      have z0 : w.heap.size < wr.heap.size := World.block_lt_of_cell? _ _ k0
      have z1 : w.heap.size + 1 < wr.heap.size := World.block_lt_of_cell? _ _ k3
      go_wp2_with (go_at_call 69; refine (div64_any (x1 % d) x0 d hm h0 hd _).mono ?_; rintro e w1 ⟨rfl, hb1⟩; replace f1_0 := frz_later (bel_call hb1 (by repeat (with_reducible first | exact bel_refl _ | apply bel_alloc | apply bel_drew))) k3 f1_0; replace f1_1 := frz_later (bel_call hb1 (by repeat (with_reducible first | exact bel_refl _ | apply bel_alloc | apply bel_drew))) k4 f1_1; replace f1_2 := frz_later (bel_call hb1 (by repeat (with_reducible first | exact bel_refl _ | apply bel_alloc | apply bel_drew))) k5 f1_2; replace hB := bel_call hb1 (by repeat (with_reducible first | exact hB | apply bel_alloc | apply bel_drew)); replace k0 := cell_later (bel_call hb1 (by repeat (with_reducible first | exact bel_refl _ | apply bel_alloc | apply bel_drew))) k0; replace k1 := cell_later (bel_call hb1 (by repeat (with_reducible first | exact bel_refl _ | apply bel_alloc | apply bel_drew))) k1; replace k2 := cell_later (bel_call hb1 (by repeat (with_reducible first | exact bel_refl _ | apply bel_alloc | apply bel_drew))) k2; replace k3 := cell_later (bel_call hb1 (by repeat (with_reducible first | exact bel_refl _ | apply bel_alloc | apply bel_drew))) k3; replace k4 := cell_later (bel_call hb1 (by repeat (with_reducible first | exact bel_refl _ | apply bel_alloc | apply bel_drew))) k4; replace k5 := cell_later (bel_call hb1 (by repeat (with_reducible first | exact bel_refl _ | apply bel_alloc | apply bel_drew))) k5; replace z0 := World.block_lt_of_cell? _ _ k0; replace z1 := World.block_lt_of_cell? _ _ k3; simp only [] at z0 z1; clear hb1)
      go_roundw
      case rel => exact Or.inr (Or.inr ⟨rfl, by trivial, Lib.hid ⟨(cell_set_ne (by omega) k0), (cell_set_ne (by omega) k1), (cell_set_ne (by omega) k2), (cell_set_eq k3), (cell_set_ne (by omega) k4), (cell_set_ne (by omega) k5), (by (repeat rw [World.frozen?_setCell]); exact f1_0), (by (repeat rw [World.frozen?_setCell]); exact f1_1), (by (repeat rw [World.frozen?_setCell]); exact f1_2), (by repeat (with_reducible first | exact hB | refine bel_set _ (by omega) ?_))⟩⟩)
      case measure => simp [intOf]
    · clear k0 k1 k2 k3 k4 k5 z0 z1 f1_0 f1_1 f1_2 hB
      obtain ⟨k0, k1, k2, k3, k4, k5, f1_0, f1_1, f1_2, hB⟩ := hP.out
      clear hP
      have z0 : w.heap.size < wr.heap.size := World.block_lt_of_cell? _ _ k0
      have z1 : w.heap.size + 1 < wr.heap.size := World.block_lt_of_cell? _ _ k3
      go_wp2
      exact bodyPost_ret (v := .tuple #[.agg #[.int .u64 ((x1 % d * 18446744073709551616 + x0) / d), .int .u64 (x1 / d), .int .u64 0], .int .u64 ((x1 % d * 18446744073709551616 + x0) % d)]) (by simp [results, Try.results63, go_sem, *]) rfl ⟨rfl, by repeat (with_reducible first | exact hB | refine bel_set _ (by omega) ?_ | apply bel_alloc | apply bel_drew)⟩
end Go.Proofs.Ytnhhphdhkgjbhaa
