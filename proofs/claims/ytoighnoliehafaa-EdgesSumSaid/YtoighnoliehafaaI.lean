/- What is proved: the law EdgesTurned, walked: it is true of every triangle and place. -/
import Derived.Test.YtoighnoliehafaaH
namespace Go.Proofs.Ytoighnoliehafaa
open Go.RowKit Ed

theorem claim_bd (a b c p : D) : -1 ≤ claim a b c p ∧ claim a b c p ≤ 1 := by
  have h := sg_bd (area a b c)
  unfold claim
  split
  · omega
  · split <;> omega
theorem area_bd (a b c : D) : -3602879701896396800 ≤ area a b c ∧ area a b c ≤ 3602879701896396800 := by
  unfold area
  split
  · rename_i h
    have := ok_prod a b c h.1 h.2.1 h.2.2
    unfold cross; omega
  · omega
theorem turned_any (a b c p : D) (w : World) :
    Calls Try.prog 3 #[.agg #[.int .i64 a.x, .int .i64 a.y, .int .i64 b.x, .int .i64 b.y, .int .i64 c.x, .int .i64 c.y], .agg #[.int .i64 p.x, .int .i64 p.y]] w fun e w' => e = .returned (.bool true) ∧ Below w.heap.size w w' := by
  have e1 := claim_turn a b c p
  have e2 := area_turn a b c
  have e3 := claim_back a b c p
  have e4 := area_back a b c
  obtain ⟨u1, u2⟩ := claim_bd a b c p
  obtain ⟨u3, u4⟩ := area_bd a b c
  go_enter Try.func3, Try.ntmps3
  go_wp2_with fail
  obtain ⟨w0, hw0⟩ : ∃ x : World, x = ((w.alloc (.cells #[.int .i64 a.x, .int .i64 a.y, .int .i64 b.x, .int .i64 b.y, .int .i64 c.x, .int .i64 c.y] 24)).alloc (.cells #[.int .i64 p.x, .int .i64 p.y] 23)) := ⟨_, rfl⟩
  have k0 : w0.cell? ⟨w.heap.size, 0, none⟩ = some (.int .i64 a.x) := by rw [hw0]; simp
  have k1 : w0.cell? ⟨w.heap.size, 1, none⟩ = some (.int .i64 a.y) := by rw [hw0]; simp
  have k2 : w0.cell? ⟨w.heap.size, 2, none⟩ = some (.int .i64 b.x) := by rw [hw0]; simp
  have k3 : w0.cell? ⟨w.heap.size, 3, none⟩ = some (.int .i64 b.y) := by rw [hw0]; simp
  have k4 : w0.cell? ⟨w.heap.size, 4, none⟩ = some (.int .i64 c.x) := by rw [hw0]; simp
  have k5 : w0.cell? ⟨w.heap.size, 5, none⟩ = some (.int .i64 c.y) := by rw [hw0]; simp
  have k6 : w0.cell? ⟨w.heap.size + 1, 0, none⟩ = some (.int .i64 p.x) := by rw [hw0]; simp
  have k7 : w0.cell? ⟨w.heap.size + 1, 1, none⟩ = some (.int .i64 p.y) := by rw [hw0]; simp
  have z0 : w.heap.size < w0.heap.size := World.block_lt_of_cell? _ _ k0
  have z1 : w.heap.size + 1 < w0.heap.size := World.block_lt_of_cell? _ _ k6
  have hB : Below w.heap.size w w0 := by rw [hw0]; repeat (with_reducible first | exact bel_refl _ | apply bel_alloc)
  rw [← hw0]
  clear hw0
  refine (claim_any _ _ _ _ _).mono ?_
  rintro e w1 ⟨rfl, hb1⟩
  replace hB := bel_call hb1 (by repeat (with_reducible first | exact hB | apply bel_alloc | apply bel_drew))
  replace k0 := cell_later (bel_call hb1 (by repeat (with_reducible first | exact bel_refl _ | apply bel_alloc | apply bel_drew))) k0
  replace k1 := cell_later (bel_call hb1 (by repeat (with_reducible first | exact bel_refl _ | apply bel_alloc | apply bel_drew))) k1
  replace k2 := cell_later (bel_call hb1 (by repeat (with_reducible first | exact bel_refl _ | apply bel_alloc | apply bel_drew))) k2
  replace k3 := cell_later (bel_call hb1 (by repeat (with_reducible first | exact bel_refl _ | apply bel_alloc | apply bel_drew))) k3
  replace k4 := cell_later (bel_call hb1 (by repeat (with_reducible first | exact bel_refl _ | apply bel_alloc | apply bel_drew))) k4
  replace k5 := cell_later (bel_call hb1 (by repeat (with_reducible first | exact bel_refl _ | apply bel_alloc | apply bel_drew))) k5
  replace k6 := cell_later (bel_call hb1 (by repeat (with_reducible first | exact bel_refl _ | apply bel_alloc | apply bel_drew))) k6
  replace k7 := cell_later (bel_call hb1 (by repeat (with_reducible first | exact bel_refl _ | apply bel_alloc | apply bel_drew))) k7
  replace z0 := World.block_lt_of_cell? _ _ k0
  replace z1 := World.block_lt_of_cell? _ _ k6
  simp only [] at z0 z1
  clear hb1
  go_wp2_with fail
  refine (area_any _ _ _ _).mono ?_
  rintro e w2 ⟨rfl, hb1⟩
  replace hB := bel_call hb1 (by repeat (with_reducible first | exact hB | apply bel_alloc | apply bel_drew))
  replace k0 := cell_later (bel_call hb1 (by repeat (with_reducible first | exact bel_refl _ | apply bel_alloc | apply bel_drew))) k0
  replace k1 := cell_later (bel_call hb1 (by repeat (with_reducible first | exact bel_refl _ | apply bel_alloc | apply bel_drew))) k1
  replace k2 := cell_later (bel_call hb1 (by repeat (with_reducible first | exact bel_refl _ | apply bel_alloc | apply bel_drew))) k2
  replace k3 := cell_later (bel_call hb1 (by repeat (with_reducible first | exact bel_refl _ | apply bel_alloc | apply bel_drew))) k3
  replace k4 := cell_later (bel_call hb1 (by repeat (with_reducible first | exact bel_refl _ | apply bel_alloc | apply bel_drew))) k4
  replace k5 := cell_later (bel_call hb1 (by repeat (with_reducible first | exact bel_refl _ | apply bel_alloc | apply bel_drew))) k5
  replace k6 := cell_later (bel_call hb1 (by repeat (with_reducible first | exact bel_refl _ | apply bel_alloc | apply bel_drew))) k6
  replace k7 := cell_later (bel_call hb1 (by repeat (with_reducible first | exact bel_refl _ | apply bel_alloc | apply bel_drew))) k7
  replace z0 := World.block_lt_of_cell? _ _ k0
  replace z1 := World.block_lt_of_cell? _ _ k6
  simp only [] at z0 z1
  clear hb1
  go_wp2_with fail
  obtain ⟨w3, hw0⟩ : ∃ x : World, x = ((w2.alloc (.cells #[.int .i64 b.x, .int .i64 b.y, .int .i64 c.x, .int .i64 c.y, .int .i64 a.x, .int .i64 a.y] 24)).alloc (.cells #[.int .i64 b.x, .int .i64 b.y, .int .i64 a.x, .int .i64 a.y, .int .i64 c.x, .int .i64 c.y] 24)) := ⟨_, rfl⟩
  replace k0 : w3.cell? ⟨w.heap.size, 0, none⟩ = some (.int .i64 a.x) := by rw [hw0]; exact cell_later (by repeat (with_reducible first | exact bel_refl _ | apply bel_alloc | apply bel_drew)) k0
  replace k1 : w3.cell? ⟨w.heap.size, 1, none⟩ = some (.int .i64 a.y) := by rw [hw0]; exact cell_later (by repeat (with_reducible first | exact bel_refl _ | apply bel_alloc | apply bel_drew)) k1
  replace k2 : w3.cell? ⟨w.heap.size, 2, none⟩ = some (.int .i64 b.x) := by rw [hw0]; exact cell_later (by repeat (with_reducible first | exact bel_refl _ | apply bel_alloc | apply bel_drew)) k2
  replace k3 : w3.cell? ⟨w.heap.size, 3, none⟩ = some (.int .i64 b.y) := by rw [hw0]; exact cell_later (by repeat (with_reducible first | exact bel_refl _ | apply bel_alloc | apply bel_drew)) k3
  replace k4 : w3.cell? ⟨w.heap.size, 4, none⟩ = some (.int .i64 c.x) := by rw [hw0]; exact cell_later (by repeat (with_reducible first | exact bel_refl _ | apply bel_alloc | apply bel_drew)) k4
  replace k5 : w3.cell? ⟨w.heap.size, 5, none⟩ = some (.int .i64 c.y) := by rw [hw0]; exact cell_later (by repeat (with_reducible first | exact bel_refl _ | apply bel_alloc | apply bel_drew)) k5
  replace k6 : w3.cell? ⟨w.heap.size + 1, 0, none⟩ = some (.int .i64 p.x) := by rw [hw0]; exact cell_later (by repeat (with_reducible first | exact bel_refl _ | apply bel_alloc | apply bel_drew)) k6
  replace k7 : w3.cell? ⟨w.heap.size + 1, 1, none⟩ = some (.int .i64 p.y) := by rw [hw0]; exact cell_later (by repeat (with_reducible first | exact bel_refl _ | apply bel_alloc | apply bel_drew)) k7
  have k8 : w3.cell? ⟨w2.heap.size, 0, none⟩ = some (.int .i64 b.x) := by rw [hw0]; simp
  have k9 : w3.cell? ⟨w2.heap.size, 1, none⟩ = some (.int .i64 b.y) := by rw [hw0]; simp
  have k10 : w3.cell? ⟨w2.heap.size, 2, none⟩ = some (.int .i64 c.x) := by rw [hw0]; simp
  have k11 : w3.cell? ⟨w2.heap.size, 3, none⟩ = some (.int .i64 c.y) := by rw [hw0]; simp
  have k12 : w3.cell? ⟨w2.heap.size, 4, none⟩ = some (.int .i64 a.x) := by rw [hw0]; simp
  have k13 : w3.cell? ⟨w2.heap.size, 5, none⟩ = some (.int .i64 a.y) := by rw [hw0]; simp
  have k14 : w3.cell? ⟨w2.heap.size + 1, 0, none⟩ = some (.int .i64 b.x) := by rw [hw0]; simp
  have k15 : w3.cell? ⟨w2.heap.size + 1, 1, none⟩ = some (.int .i64 b.y) := by rw [hw0]; simp
  have k16 : w3.cell? ⟨w2.heap.size + 1, 2, none⟩ = some (.int .i64 a.x) := by rw [hw0]; simp
  have k17 : w3.cell? ⟨w2.heap.size + 1, 3, none⟩ = some (.int .i64 a.y) := by rw [hw0]; simp
  have k18 : w3.cell? ⟨w2.heap.size + 1, 4, none⟩ = some (.int .i64 c.x) := by rw [hw0]; simp
  have k19 : w3.cell? ⟨w2.heap.size + 1, 5, none⟩ = some (.int .i64 c.y) := by rw [hw0]; simp
  have z0 : w.heap.size < w3.heap.size := World.block_lt_of_cell? _ _ k0
  have z1 : w.heap.size + 1 < w3.heap.size := World.block_lt_of_cell? _ _ k6
  have z2 : w2.heap.size < w3.heap.size := World.block_lt_of_cell? _ _ k8
  have z3 : w2.heap.size + 1 < w3.heap.size := World.block_lt_of_cell? _ _ k14
  replace hB : Below w.heap.size w w3 := by rw [hw0]; repeat (with_reducible first | exact hB | apply bel_alloc)
  rw [← hw0]
  clear hw0
  go_wp2_with (first
    | (go_at_call 8; refine (claim_any _ _ _ _ _).mono ?_; rintro e w4 ⟨rfl, hb1⟩; replace hB := bel_call hb1 (by repeat (with_reducible first | exact hB | apply bel_alloc | apply bel_drew)); replace k0 := cell_later (bel_call hb1 (by repeat (with_reducible first | exact bel_refl _ | apply bel_alloc | apply bel_drew))) k0; replace k1 := cell_later (bel_call hb1 (by repeat (with_reducible first | exact bel_refl _ | apply bel_alloc | apply bel_drew))) k1; replace k2 := cell_later (bel_call hb1 (by repeat (with_reducible first | exact bel_refl _ | apply bel_alloc | apply bel_drew))) k2; replace k3 := cell_later (bel_call hb1 (by repeat (with_reducible first | exact bel_refl _ | apply bel_alloc | apply bel_drew))) k3; replace k4 := cell_later (bel_call hb1 (by repeat (with_reducible first | exact bel_refl _ | apply bel_alloc | apply bel_drew))) k4; replace k5 := cell_later (bel_call hb1 (by repeat (with_reducible first | exact bel_refl _ | apply bel_alloc | apply bel_drew))) k5; replace k6 := cell_later (bel_call hb1 (by repeat (with_reducible first | exact bel_refl _ | apply bel_alloc | apply bel_drew))) k6; replace k7 := cell_later (bel_call hb1 (by repeat (with_reducible first | exact bel_refl _ | apply bel_alloc | apply bel_drew))) k7; replace k8 := cell_later (bel_call hb1 (by repeat (with_reducible first | exact bel_refl _ | apply bel_alloc | apply bel_drew))) k8; replace k9 := cell_later (bel_call hb1 (by repeat (with_reducible first | exact bel_refl _ | apply bel_alloc | apply bel_drew))) k9; replace k10 := cell_later (bel_call hb1 (by repeat (with_reducible first | exact bel_refl _ | apply bel_alloc | apply bel_drew))) k10; replace k11 := cell_later (bel_call hb1 (by repeat (with_reducible first | exact bel_refl _ | apply bel_alloc | apply bel_drew))) k11; replace k12 := cell_later (bel_call hb1 (by repeat (with_reducible first | exact bel_refl _ | apply bel_alloc | apply bel_drew))) k12; replace k13 := cell_later (bel_call hb1 (by repeat (with_reducible first | exact bel_refl _ | apply bel_alloc | apply bel_drew))) k13; replace k14 := cell_later (bel_call hb1 (by repeat (with_reducible first | exact bel_refl _ | apply bel_alloc | apply bel_drew))) k14; replace k15 := cell_later (bel_call hb1 (by repeat (with_reducible first | exact bel_refl _ | apply bel_alloc | apply bel_drew))) k15; replace k16 := cell_later (bel_call hb1 (by repeat (with_reducible first | exact bel_refl _ | apply bel_alloc | apply bel_drew))) k16; replace k17 := cell_later (bel_call hb1 (by repeat (with_reducible first | exact bel_refl _ | apply bel_alloc | apply bel_drew))) k17; replace k18 := cell_later (bel_call hb1 (by repeat (with_reducible first | exact bel_refl _ | apply bel_alloc | apply bel_drew))) k18; replace k19 := cell_later (bel_call hb1 (by repeat (with_reducible first | exact bel_refl _ | apply bel_alloc | apply bel_drew))) k19; replace z0 := World.block_lt_of_cell? _ _ k0; replace z1 := World.block_lt_of_cell? _ _ k6; replace z2 := World.block_lt_of_cell? _ _ k8; replace z3 := World.block_lt_of_cell? _ _ k14; simp only [] at z0 z1 z2 z3; clear hb1)
    | (go_at_call 9; refine (area_any _ _ _ _).mono ?_; rintro e w4 ⟨rfl, hb1⟩; replace hB := bel_call hb1 (by repeat (with_reducible first | exact hB | apply bel_alloc | apply bel_drew)); replace k0 := cell_later (bel_call hb1 (by repeat (with_reducible first | exact bel_refl _ | apply bel_alloc | apply bel_drew))) k0; replace k1 := cell_later (bel_call hb1 (by repeat (with_reducible first | exact bel_refl _ | apply bel_alloc | apply bel_drew))) k1; replace k2 := cell_later (bel_call hb1 (by repeat (with_reducible first | exact bel_refl _ | apply bel_alloc | apply bel_drew))) k2; replace k3 := cell_later (bel_call hb1 (by repeat (with_reducible first | exact bel_refl _ | apply bel_alloc | apply bel_drew))) k3; replace k4 := cell_later (bel_call hb1 (by repeat (with_reducible first | exact bel_refl _ | apply bel_alloc | apply bel_drew))) k4; replace k5 := cell_later (bel_call hb1 (by repeat (with_reducible first | exact bel_refl _ | apply bel_alloc | apply bel_drew))) k5; replace k6 := cell_later (bel_call hb1 (by repeat (with_reducible first | exact bel_refl _ | apply bel_alloc | apply bel_drew))) k6; replace k7 := cell_later (bel_call hb1 (by repeat (with_reducible first | exact bel_refl _ | apply bel_alloc | apply bel_drew))) k7; replace k8 := cell_later (bel_call hb1 (by repeat (with_reducible first | exact bel_refl _ | apply bel_alloc | apply bel_drew))) k8; replace k9 := cell_later (bel_call hb1 (by repeat (with_reducible first | exact bel_refl _ | apply bel_alloc | apply bel_drew))) k9; replace k10 := cell_later (bel_call hb1 (by repeat (with_reducible first | exact bel_refl _ | apply bel_alloc | apply bel_drew))) k10; replace k11 := cell_later (bel_call hb1 (by repeat (with_reducible first | exact bel_refl _ | apply bel_alloc | apply bel_drew))) k11; replace k12 := cell_later (bel_call hb1 (by repeat (with_reducible first | exact bel_refl _ | apply bel_alloc | apply bel_drew))) k12; replace k13 := cell_later (bel_call hb1 (by repeat (with_reducible first | exact bel_refl _ | apply bel_alloc | apply bel_drew))) k13; replace k14 := cell_later (bel_call hb1 (by repeat (with_reducible first | exact bel_refl _ | apply bel_alloc | apply bel_drew))) k14; replace k15 := cell_later (bel_call hb1 (by repeat (with_reducible first | exact bel_refl _ | apply bel_alloc | apply bel_drew))) k15; replace k16 := cell_later (bel_call hb1 (by repeat (with_reducible first | exact bel_refl _ | apply bel_alloc | apply bel_drew))) k16; replace k17 := cell_later (bel_call hb1 (by repeat (with_reducible first | exact bel_refl _ | apply bel_alloc | apply bel_drew))) k17; replace k18 := cell_later (bel_call hb1 (by repeat (with_reducible first | exact bel_refl _ | apply bel_alloc | apply bel_drew))) k18; replace k19 := cell_later (bel_call hb1 (by repeat (with_reducible first | exact bel_refl _ | apply bel_alloc | apply bel_drew))) k19; replace z0 := World.block_lt_of_cell? _ _ k0; replace z1 := World.block_lt_of_cell? _ _ k6; replace z2 := World.block_lt_of_cell? _ _ k8; replace z3 := World.block_lt_of_cell? _ _ k14; simp only [] at z0 z1 z2 z3; clear hb1)
    | (go_at_call 10; refine (lives_any _).mono ?_; rintro e w4 ⟨rfl, hb1⟩; replace hB := bel_call hb1 (by repeat (with_reducible first | exact hB | apply bel_alloc | apply bel_drew)); replace k0 := cell_later (bel_call hb1 (by repeat (with_reducible first | exact bel_refl _ | apply bel_alloc | apply bel_drew))) k0; replace k1 := cell_later (bel_call hb1 (by repeat (with_reducible first | exact bel_refl _ | apply bel_alloc | apply bel_drew))) k1; replace k2 := cell_later (bel_call hb1 (by repeat (with_reducible first | exact bel_refl _ | apply bel_alloc | apply bel_drew))) k2; replace k3 := cell_later (bel_call hb1 (by repeat (with_reducible first | exact bel_refl _ | apply bel_alloc | apply bel_drew))) k3; replace k4 := cell_later (bel_call hb1 (by repeat (with_reducible first | exact bel_refl _ | apply bel_alloc | apply bel_drew))) k4; replace k5 := cell_later (bel_call hb1 (by repeat (with_reducible first | exact bel_refl _ | apply bel_alloc | apply bel_drew))) k5; replace k6 := cell_later (bel_call hb1 (by repeat (with_reducible first | exact bel_refl _ | apply bel_alloc | apply bel_drew))) k6; replace k7 := cell_later (bel_call hb1 (by repeat (with_reducible first | exact bel_refl _ | apply bel_alloc | apply bel_drew))) k7; replace k8 := cell_later (bel_call hb1 (by repeat (with_reducible first | exact bel_refl _ | apply bel_alloc | apply bel_drew))) k8; replace k9 := cell_later (bel_call hb1 (by repeat (with_reducible first | exact bel_refl _ | apply bel_alloc | apply bel_drew))) k9; replace k10 := cell_later (bel_call hb1 (by repeat (with_reducible first | exact bel_refl _ | apply bel_alloc | apply bel_drew))) k10; replace k11 := cell_later (bel_call hb1 (by repeat (with_reducible first | exact bel_refl _ | apply bel_alloc | apply bel_drew))) k11; replace k12 := cell_later (bel_call hb1 (by repeat (with_reducible first | exact bel_refl _ | apply bel_alloc | apply bel_drew))) k12; replace k13 := cell_later (bel_call hb1 (by repeat (with_reducible first | exact bel_refl _ | apply bel_alloc | apply bel_drew))) k13; replace k14 := cell_later (bel_call hb1 (by repeat (with_reducible first | exact bel_refl _ | apply bel_alloc | apply bel_drew))) k14; replace k15 := cell_later (bel_call hb1 (by repeat (with_reducible first | exact bel_refl _ | apply bel_alloc | apply bel_drew))) k15; replace k16 := cell_later (bel_call hb1 (by repeat (with_reducible first | exact bel_refl _ | apply bel_alloc | apply bel_drew))) k16; replace k17 := cell_later (bel_call hb1 (by repeat (with_reducible first | exact bel_refl _ | apply bel_alloc | apply bel_drew))) k17; replace k18 := cell_later (bel_call hb1 (by repeat (with_reducible first | exact bel_refl _ | apply bel_alloc | apply bel_drew))) k18; replace k19 := cell_later (bel_call hb1 (by repeat (with_reducible first | exact bel_refl _ | apply bel_alloc | apply bel_drew))) k19; replace z0 := World.block_lt_of_cell? _ _ k0; replace z1 := World.block_lt_of_cell? _ _ k6; replace z2 := World.block_lt_of_cell? _ _ k8; replace z3 := World.block_lt_of_cell? _ _ k14; simp only [] at z0 z1 z2 z3; clear hb1))
  go_ret
  exact ⟨rfl, by simp [*]⟩
end Go.Proofs.Ytoighnoliehafaa
