/- What is proved: the law EdgesSum, walked: it is true of every triangle and place. -/
import Derived.Test.YtoighnoliehafaaP
namespace Go.Proofs.Ytoighnoliehafaa
open Go.RowKit Ed

theorem sum_bad0 (a b c p : D)  (np : ¬ ok p) (w : World) :
    Calls Try.prog 6 #[.agg #[.int .i64 a.x, .int .i64 a.y, .int .i64 b.x, .int .i64 b.y, .int .i64 c.x, .int .i64 c.y], .agg #[.int .i64 p.x, .int .i64 p.y]] w fun e w' => e = .returned (.bool true) ∧ Below w.heap.size w w' := by
  have ep : okB ⟨p.x, p.y⟩ = false := decide_eq_false np
  have gn : ¬ okAt a b c p := fun h => np (h.2)
  have g0 : claim a b c p = 0 := claim_no a b c p gn
  have g1 : wt a b c p 0 = 0 := if_neg gn
  have g2 : wt a b c p 1 = 0 := if_neg gn
  have g3 : wt a b c p 2 = 0 := if_neg gn
  have hq : ∀ w, (binOp .eql 32 (.agg #[.int .i64 0, .int .i64 0, .int .i64 0]) (.agg #[.int .i64 0, .int .i64 0, .int .i64 0])).run Try.prog w = .ok (.bool true) w := fun _ => by kernel_rfl
  go_enter Try.func6, Try.ntmps6
  go_wp2_with fail
  obtain ⟨w0, hw0⟩ : ∃ x : World, x = ((w.alloc (.cells #[.int .i64 a.x, .int .i64 a.y, .int .i64 b.x, .int .i64 b.y, .int .i64 c.x, .int .i64 c.y] 24)).alloc (.cells #[.int .i64 p.x, .int .i64 p.y] 23)) := ⟨_, rfl⟩
  have k0 : w0.cell? ⟨w.heap.size, 0, none⟩ = some (.int .i64 a.x) := by rw [hw0]; repeat (first | exact cell_new (by simp) rfl | refine cell_old ?_)
  have k1 : w0.cell? ⟨w.heap.size, 1, none⟩ = some (.int .i64 a.y) := by rw [hw0]; repeat (first | exact cell_new (by simp) rfl | refine cell_old ?_)
  have k2 : w0.cell? ⟨w.heap.size, 2, none⟩ = some (.int .i64 b.x) := by rw [hw0]; repeat (first | exact cell_new (by simp) rfl | refine cell_old ?_)
  have k3 : w0.cell? ⟨w.heap.size, 3, none⟩ = some (.int .i64 b.y) := by rw [hw0]; repeat (first | exact cell_new (by simp) rfl | refine cell_old ?_)
  have k4 : w0.cell? ⟨w.heap.size, 4, none⟩ = some (.int .i64 c.x) := by rw [hw0]; repeat (first | exact cell_new (by simp) rfl | refine cell_old ?_)
  have k5 : w0.cell? ⟨w.heap.size, 5, none⟩ = some (.int .i64 c.y) := by rw [hw0]; repeat (first | exact cell_new (by simp) rfl | refine cell_old ?_)
  have k6 : w0.cell? ⟨w.heap.size + 1, 0, none⟩ = some (.int .i64 p.x) := by rw [hw0]; repeat (first | exact cell_new (by simp) rfl | refine cell_old ?_)
  have k7 : w0.cell? ⟨w.heap.size + 1, 1, none⟩ = some (.int .i64 p.y) := by rw [hw0]; repeat (first | exact cell_new (by simp) rfl | refine cell_old ?_)
  have z0 : w.heap.size < w0.heap.size := World.block_lt_of_cell? _ _ k0
  have z1 : w.heap.size + 1 < w0.heap.size := World.block_lt_of_cell? _ _ k6
  have hB : Below w.heap.size w w0 := by rw [hw0]; repeat (with_reducible first | exact bel_refl _ | apply bel_alloc)
  rw [← hw0]
  clear hw0
  refine (weights_any a b c p _).mono ?_
  rintro e w1 ⟨rfl, hb1⟩
  replace hB := bel_call hb1 (by repeat (with_reducible first | exact hB | apply bel_alloc | apply bel_drew))
  replace k0 := cell_later (bel_call hb1 (by repeat (with_reducible first | exact bel_refl _ | apply bel_alloc | apply bel_drew))) k0
  replace k1 := cell_later (bel_call hb1 (by repeat (with_reducible first | exact bel_refl _ | apply bel_alloc | apply bel_drew))) k1
  replace k2 := cell_later (bel_call hb1 (by repeat (with_reducible first | exact bel_refl _ | apply bel_alloc | apply bel_drew))) k2
  replace k3 := cell_later (bel_call hb1 (by repeat (with_reducible first | exact bel_refl _ | apply bel_alloc | apply bel_drew))) k3
  replace k4 := cell_later (bel_call hb1 (by repeat (with_reducible first | exact bel_refl _ | apply bel_alloc | apply bel_drew))) k4
  replace k5 := cell_later (bel_call hb1 (by repeat (with_reducible first | exact bel_refl _ | apply bel_alloc | apply bel_drew))) k5
  replace k6 := cell_later (bel_call hb1 (by repeat (with_reducible first | exact bel_refl _ | apply bel_alloc | apply bel_drew))) k6
  replace k7 := cell_later (bel_call hb1 (by repeat (with_reducible first | exact bel_refl _ | apply bel_alloc | apply bel_drew))) k7
  replace z0 := World.block_lt_of_cell? _ _ k0
  replace z1 := World.block_lt_of_cell? _ _ k6
  simp only [] at z0 z1
  clear hb1
  go_wp2_with fail
  obtain ⟨w2, hw0⟩ : ∃ x : World, x = (w1.alloc (.cells #[.int .i64 0, .int .i64 0, .int .i64 0] 32)) := ⟨_, rfl⟩
  replace k0 : w2.cell? ⟨w.heap.size, 0, none⟩ = some (.int .i64 a.x) := by rw [hw0]; exact cell_later (by repeat (with_reducible first | exact bel_refl _ | apply bel_alloc | apply bel_drew)) k0
  replace k1 : w2.cell? ⟨w.heap.size, 1, none⟩ = some (.int .i64 a.y) := by rw [hw0]; exact cell_later (by repeat (with_reducible first | exact bel_refl _ | apply bel_alloc | apply bel_drew)) k1
  replace k2 : w2.cell? ⟨w.heap.size, 2, none⟩ = some (.int .i64 b.x) := by rw [hw0]; exact cell_later (by repeat (with_reducible first | exact bel_refl _ | apply bel_alloc | apply bel_drew)) k2
  replace k3 : w2.cell? ⟨w.heap.size, 3, none⟩ = some (.int .i64 b.y) := by rw [hw0]; exact cell_later (by repeat (with_reducible first | exact bel_refl _ | apply bel_alloc | apply bel_drew)) k3
  replace k4 : w2.cell? ⟨w.heap.size, 4, none⟩ = some (.int .i64 c.x) := by rw [hw0]; exact cell_later (by repeat (with_reducible first | exact bel_refl _ | apply bel_alloc | apply bel_drew)) k4
  replace k5 : w2.cell? ⟨w.heap.size, 5, none⟩ = some (.int .i64 c.y) := by rw [hw0]; exact cell_later (by repeat (with_reducible first | exact bel_refl _ | apply bel_alloc | apply bel_drew)) k5
  replace k6 : w2.cell? ⟨w.heap.size + 1, 0, none⟩ = some (.int .i64 p.x) := by rw [hw0]; exact cell_later (by repeat (with_reducible first | exact bel_refl _ | apply bel_alloc | apply bel_drew)) k6
  replace k7 : w2.cell? ⟨w.heap.size + 1, 1, none⟩ = some (.int .i64 p.y) := by rw [hw0]; exact cell_later (by repeat (with_reducible first | exact bel_refl _ | apply bel_alloc | apply bel_drew)) k7
  have k8 : w2.cell? ⟨w1.heap.size, 0, none⟩ = some (.int .i64 0) := by rw [hw0]; repeat (first | exact cell_new (by simp) rfl | refine cell_old ?_)
  have k9 : w2.cell? ⟨w1.heap.size, 1, none⟩ = some (.int .i64 0) := by rw [hw0]; repeat (first | exact cell_new (by simp) rfl | refine cell_old ?_)
  have k10 : w2.cell? ⟨w1.heap.size, 2, none⟩ = some (.int .i64 0) := by rw [hw0]; repeat (first | exact cell_new (by simp) rfl | refine cell_old ?_)
  have z0 : w.heap.size < w2.heap.size := World.block_lt_of_cell? _ _ k0
  have z1 : w.heap.size + 1 < w2.heap.size := World.block_lt_of_cell? _ _ k6
  have z2 : w1.heap.size < w2.heap.size := World.block_lt_of_cell? _ _ k8
  replace hB : Below w.heap.size w w2 := by rw [hw0]; repeat (with_reducible first | exact hB | apply bel_alloc)
  rw [← hw0]
  clear hw0
  refine (area_any _ _ _ _).mono ?_
  rintro e w3 ⟨rfl, hb1⟩
  replace hB := bel_call hb1 (by repeat (with_reducible first | exact hB | apply bel_alloc | apply bel_drew))
  replace k0 := cell_later (bel_call hb1 (by repeat (with_reducible first | exact bel_refl _ | apply bel_alloc | apply bel_drew))) k0
  replace k1 := cell_later (bel_call hb1 (by repeat (with_reducible first | exact bel_refl _ | apply bel_alloc | apply bel_drew))) k1
  replace k2 := cell_later (bel_call hb1 (by repeat (with_reducible first | exact bel_refl _ | apply bel_alloc | apply bel_drew))) k2
  replace k3 := cell_later (bel_call hb1 (by repeat (with_reducible first | exact bel_refl _ | apply bel_alloc | apply bel_drew))) k3
  replace k4 := cell_later (bel_call hb1 (by repeat (with_reducible first | exact bel_refl _ | apply bel_alloc | apply bel_drew))) k4
  replace k5 := cell_later (bel_call hb1 (by repeat (with_reducible first | exact bel_refl _ | apply bel_alloc | apply bel_drew))) k5
  replace k6 := cell_later (bel_call hb1 (by repeat (with_reducible first | exact bel_refl _ | apply bel_alloc | apply bel_drew))) k6
  replace k7 := cell_later (bel_call hb1 (by repeat (with_reducible first | exact bel_refl _ | apply bel_alloc | apply bel_drew))) k7
  replace k8 := cell_later (bel_call hb1 (by repeat (with_reducible first | exact bel_refl _ | apply bel_alloc | apply bel_drew))) k8
  replace k9 := cell_later (bel_call hb1 (by repeat (with_reducible first | exact bel_refl _ | apply bel_alloc | apply bel_drew))) k9
  replace k10 := cell_later (bel_call hb1 (by repeat (with_reducible first | exact bel_refl _ | apply bel_alloc | apply bel_drew))) k10
  replace z0 := World.block_lt_of_cell? _ _ k0
  replace z1 := World.block_lt_of_cell? _ _ k6
  replace z2 := World.block_lt_of_cell? _ _ k8
  simp only [] at z0 z1 z2
  clear hb1
  go_wp2_with fail
  refine (claim_any _ _ _ _ _).mono ?_
  rintro e w4 ⟨rfl, hb1⟩
  replace hB := bel_call hb1 (by repeat (with_reducible first | exact hB | apply bel_alloc | apply bel_drew))
  replace k0 := cell_later (bel_call hb1 (by repeat (with_reducible first | exact bel_refl _ | apply bel_alloc | apply bel_drew))) k0
  replace k1 := cell_later (bel_call hb1 (by repeat (with_reducible first | exact bel_refl _ | apply bel_alloc | apply bel_drew))) k1
  replace k2 := cell_later (bel_call hb1 (by repeat (with_reducible first | exact bel_refl _ | apply bel_alloc | apply bel_drew))) k2
  replace k3 := cell_later (bel_call hb1 (by repeat (with_reducible first | exact bel_refl _ | apply bel_alloc | apply bel_drew))) k3
  replace k4 := cell_later (bel_call hb1 (by repeat (with_reducible first | exact bel_refl _ | apply bel_alloc | apply bel_drew))) k4
  replace k5 := cell_later (bel_call hb1 (by repeat (with_reducible first | exact bel_refl _ | apply bel_alloc | apply bel_drew))) k5
  replace k6 := cell_later (bel_call hb1 (by repeat (with_reducible first | exact bel_refl _ | apply bel_alloc | apply bel_drew))) k6
  replace k7 := cell_later (bel_call hb1 (by repeat (with_reducible first | exact bel_refl _ | apply bel_alloc | apply bel_drew))) k7
  replace k8 := cell_later (bel_call hb1 (by repeat (with_reducible first | exact bel_refl _ | apply bel_alloc | apply bel_drew))) k8
  replace k9 := cell_later (bel_call hb1 (by repeat (with_reducible first | exact bel_refl _ | apply bel_alloc | apply bel_drew))) k9
  replace k10 := cell_later (bel_call hb1 (by repeat (with_reducible first | exact bel_refl _ | apply bel_alloc | apply bel_drew))) k10
  replace z0 := World.block_lt_of_cell? _ _ k0
  replace z1 := World.block_lt_of_cell? _ _ k6
  replace z2 := World.block_lt_of_cell? _ _ k8
  simp only [] at z0 z1 z2
  clear hb1
  rw [g0]
  go_wp2_with (first
    | (go_at_call 11; refine (may11_any ⟨_, _⟩ _).mono ?_; rintro e w1 ⟨rfl, hb1⟩; replace hB := bel_call hb1 (by repeat (with_reducible first | exact hB | apply bel_alloc | apply bel_drew)); replace k0 := cell_later (bel_call hb1 (by repeat (with_reducible first | exact bel_refl _ | apply bel_alloc | apply bel_drew))) k0; replace k1 := cell_later (bel_call hb1 (by repeat (with_reducible first | exact bel_refl _ | apply bel_alloc | apply bel_drew))) k1; replace k2 := cell_later (bel_call hb1 (by repeat (with_reducible first | exact bel_refl _ | apply bel_alloc | apply bel_drew))) k2; replace k3 := cell_later (bel_call hb1 (by repeat (with_reducible first | exact bel_refl _ | apply bel_alloc | apply bel_drew))) k3; replace k4 := cell_later (bel_call hb1 (by repeat (with_reducible first | exact bel_refl _ | apply bel_alloc | apply bel_drew))) k4; replace k5 := cell_later (bel_call hb1 (by repeat (with_reducible first | exact bel_refl _ | apply bel_alloc | apply bel_drew))) k5; replace k6 := cell_later (bel_call hb1 (by repeat (with_reducible first | exact bel_refl _ | apply bel_alloc | apply bel_drew))) k6; replace k7 := cell_later (bel_call hb1 (by repeat (with_reducible first | exact bel_refl _ | apply bel_alloc | apply bel_drew))) k7; replace k8 := cell_later (bel_call hb1 (by repeat (with_reducible first | exact bel_refl _ | apply bel_alloc | apply bel_drew))) k8; replace k9 := cell_later (bel_call hb1 (by repeat (with_reducible first | exact bel_refl _ | apply bel_alloc | apply bel_drew))) k9; replace k10 := cell_later (bel_call hb1 (by repeat (with_reducible first | exact bel_refl _ | apply bel_alloc | apply bel_drew))) k10; replace z0 := World.block_lt_of_cell? _ _ k0; replace z1 := World.block_lt_of_cell? _ _ k6; replace z2 := World.block_lt_of_cell? _ _ k8; simp only [] at z0 z1 z2; clear hb1)
    | (go_at_call 10; refine (lives_any _).mono ?_; rintro e w1 ⟨rfl, hb1⟩; replace hB := bel_call hb1 (by repeat (with_reducible first | exact hB | apply bel_alloc | apply bel_drew)); replace k0 := cell_later (bel_call hb1 (by repeat (with_reducible first | exact bel_refl _ | apply bel_alloc | apply bel_drew))) k0; replace k1 := cell_later (bel_call hb1 (by repeat (with_reducible first | exact bel_refl _ | apply bel_alloc | apply bel_drew))) k1; replace k2 := cell_later (bel_call hb1 (by repeat (with_reducible first | exact bel_refl _ | apply bel_alloc | apply bel_drew))) k2; replace k3 := cell_later (bel_call hb1 (by repeat (with_reducible first | exact bel_refl _ | apply bel_alloc | apply bel_drew))) k3; replace k4 := cell_later (bel_call hb1 (by repeat (with_reducible first | exact bel_refl _ | apply bel_alloc | apply bel_drew))) k4; replace k5 := cell_later (bel_call hb1 (by repeat (with_reducible first | exact bel_refl _ | apply bel_alloc | apply bel_drew))) k5; replace k6 := cell_later (bel_call hb1 (by repeat (with_reducible first | exact bel_refl _ | apply bel_alloc | apply bel_drew))) k6; replace k7 := cell_later (bel_call hb1 (by repeat (with_reducible first | exact bel_refl _ | apply bel_alloc | apply bel_drew))) k7; replace k8 := cell_later (bel_call hb1 (by repeat (with_reducible first | exact bel_refl _ | apply bel_alloc | apply bel_drew))) k8; replace k9 := cell_later (bel_call hb1 (by repeat (with_reducible first | exact bel_refl _ | apply bel_alloc | apply bel_drew))) k9; replace k10 := cell_later (bel_call hb1 (by repeat (with_reducible first | exact bel_refl _ | apply bel_alloc | apply bel_drew))) k10; replace z0 := World.block_lt_of_cell? _ _ k0; replace z1 := World.block_lt_of_cell? _ _ k6; replace z2 := World.block_lt_of_cell? _ _ k8; simp only [] at z0 z1 z2; clear hb1))
  go_ret
  exact ⟨rfl, by simp [*]⟩

theorem sum_bad1 (a b c p : D) (op : ok p) (na : ¬ ok a) (w : World) :
    Calls Try.prog 6 #[.agg #[.int .i64 a.x, .int .i64 a.y, .int .i64 b.x, .int .i64 b.y, .int .i64 c.x, .int .i64 c.y], .agg #[.int .i64 p.x, .int .i64 p.y]] w fun e w' => e = .returned (.bool true) ∧ Below w.heap.size w w' := by
  have ep : okB ⟨p.x, p.y⟩ = true := decide_eq_true op
  have ea : okB ⟨a.x, a.y⟩ = false := decide_eq_false na
  have gn : ¬ okAt a b c p := fun h => na (h.1.1)
  have g0 : claim a b c p = 0 := claim_no a b c p gn
  have g1 : wt a b c p 0 = 0 := if_neg gn
  have g2 : wt a b c p 1 = 0 := if_neg gn
  have g3 : wt a b c p 2 = 0 := if_neg gn
  have hq : ∀ w, (binOp .eql 32 (.agg #[.int .i64 0, .int .i64 0, .int .i64 0]) (.agg #[.int .i64 0, .int .i64 0, .int .i64 0])).run Try.prog w = .ok (.bool true) w := fun _ => by kernel_rfl
  go_enter Try.func6, Try.ntmps6
  go_wp2_with fail
  obtain ⟨w0, hw0⟩ : ∃ x : World, x = ((w.alloc (.cells #[.int .i64 a.x, .int .i64 a.y, .int .i64 b.x, .int .i64 b.y, .int .i64 c.x, .int .i64 c.y] 24)).alloc (.cells #[.int .i64 p.x, .int .i64 p.y] 23)) := ⟨_, rfl⟩
  have k0 : w0.cell? ⟨w.heap.size, 0, none⟩ = some (.int .i64 a.x) := by rw [hw0]; repeat (first | exact cell_new (by simp) rfl | refine cell_old ?_)
  have k1 : w0.cell? ⟨w.heap.size, 1, none⟩ = some (.int .i64 a.y) := by rw [hw0]; repeat (first | exact cell_new (by simp) rfl | refine cell_old ?_)
  have k2 : w0.cell? ⟨w.heap.size, 2, none⟩ = some (.int .i64 b.x) := by rw [hw0]; repeat (first | exact cell_new (by simp) rfl | refine cell_old ?_)
  have k3 : w0.cell? ⟨w.heap.size, 3, none⟩ = some (.int .i64 b.y) := by rw [hw0]; repeat (first | exact cell_new (by simp) rfl | refine cell_old ?_)
  have k4 : w0.cell? ⟨w.heap.size, 4, none⟩ = some (.int .i64 c.x) := by rw [hw0]; repeat (first | exact cell_new (by simp) rfl | refine cell_old ?_)
  have k5 : w0.cell? ⟨w.heap.size, 5, none⟩ = some (.int .i64 c.y) := by rw [hw0]; repeat (first | exact cell_new (by simp) rfl | refine cell_old ?_)
  have k6 : w0.cell? ⟨w.heap.size + 1, 0, none⟩ = some (.int .i64 p.x) := by rw [hw0]; repeat (first | exact cell_new (by simp) rfl | refine cell_old ?_)
  have k7 : w0.cell? ⟨w.heap.size + 1, 1, none⟩ = some (.int .i64 p.y) := by rw [hw0]; repeat (first | exact cell_new (by simp) rfl | refine cell_old ?_)
  have z0 : w.heap.size < w0.heap.size := World.block_lt_of_cell? _ _ k0
  have z1 : w.heap.size + 1 < w0.heap.size := World.block_lt_of_cell? _ _ k6
  have hB : Below w.heap.size w w0 := by rw [hw0]; repeat (with_reducible first | exact bel_refl _ | apply bel_alloc)
  rw [← hw0]
  clear hw0
  refine (weights_any a b c p _).mono ?_
  rintro e w1 ⟨rfl, hb1⟩
  replace hB := bel_call hb1 (by repeat (with_reducible first | exact hB | apply bel_alloc | apply bel_drew))
  replace k0 := cell_later (bel_call hb1 (by repeat (with_reducible first | exact bel_refl _ | apply bel_alloc | apply bel_drew))) k0
  replace k1 := cell_later (bel_call hb1 (by repeat (with_reducible first | exact bel_refl _ | apply bel_alloc | apply bel_drew))) k1
  replace k2 := cell_later (bel_call hb1 (by repeat (with_reducible first | exact bel_refl _ | apply bel_alloc | apply bel_drew))) k2
  replace k3 := cell_later (bel_call hb1 (by repeat (with_reducible first | exact bel_refl _ | apply bel_alloc | apply bel_drew))) k3
  replace k4 := cell_later (bel_call hb1 (by repeat (with_reducible first | exact bel_refl _ | apply bel_alloc | apply bel_drew))) k4
  replace k5 := cell_later (bel_call hb1 (by repeat (with_reducible first | exact bel_refl _ | apply bel_alloc | apply bel_drew))) k5
  replace k6 := cell_later (bel_call hb1 (by repeat (with_reducible first | exact bel_refl _ | apply bel_alloc | apply bel_drew))) k6
  replace k7 := cell_later (bel_call hb1 (by repeat (with_reducible first | exact bel_refl _ | apply bel_alloc | apply bel_drew))) k7
  replace z0 := World.block_lt_of_cell? _ _ k0
  replace z1 := World.block_lt_of_cell? _ _ k6
  simp only [] at z0 z1
  clear hb1
  go_wp2_with fail
  obtain ⟨w2, hw0⟩ : ∃ x : World, x = (w1.alloc (.cells #[.int .i64 0, .int .i64 0, .int .i64 0] 32)) := ⟨_, rfl⟩
  replace k0 : w2.cell? ⟨w.heap.size, 0, none⟩ = some (.int .i64 a.x) := by rw [hw0]; exact cell_later (by repeat (with_reducible first | exact bel_refl _ | apply bel_alloc | apply bel_drew)) k0
  replace k1 : w2.cell? ⟨w.heap.size, 1, none⟩ = some (.int .i64 a.y) := by rw [hw0]; exact cell_later (by repeat (with_reducible first | exact bel_refl _ | apply bel_alloc | apply bel_drew)) k1
  replace k2 : w2.cell? ⟨w.heap.size, 2, none⟩ = some (.int .i64 b.x) := by rw [hw0]; exact cell_later (by repeat (with_reducible first | exact bel_refl _ | apply bel_alloc | apply bel_drew)) k2
  replace k3 : w2.cell? ⟨w.heap.size, 3, none⟩ = some (.int .i64 b.y) := by rw [hw0]; exact cell_later (by repeat (with_reducible first | exact bel_refl _ | apply bel_alloc | apply bel_drew)) k3
  replace k4 : w2.cell? ⟨w.heap.size, 4, none⟩ = some (.int .i64 c.x) := by rw [hw0]; exact cell_later (by repeat (with_reducible first | exact bel_refl _ | apply bel_alloc | apply bel_drew)) k4
  replace k5 : w2.cell? ⟨w.heap.size, 5, none⟩ = some (.int .i64 c.y) := by rw [hw0]; exact cell_later (by repeat (with_reducible first | exact bel_refl _ | apply bel_alloc | apply bel_drew)) k5
  replace k6 : w2.cell? ⟨w.heap.size + 1, 0, none⟩ = some (.int .i64 p.x) := by rw [hw0]; exact cell_later (by repeat (with_reducible first | exact bel_refl _ | apply bel_alloc | apply bel_drew)) k6
  replace k7 : w2.cell? ⟨w.heap.size + 1, 1, none⟩ = some (.int .i64 p.y) := by rw [hw0]; exact cell_later (by repeat (with_reducible first | exact bel_refl _ | apply bel_alloc | apply bel_drew)) k7
  have k8 : w2.cell? ⟨w1.heap.size, 0, none⟩ = some (.int .i64 0) := by rw [hw0]; repeat (first | exact cell_new (by simp) rfl | refine cell_old ?_)
  have k9 : w2.cell? ⟨w1.heap.size, 1, none⟩ = some (.int .i64 0) := by rw [hw0]; repeat (first | exact cell_new (by simp) rfl | refine cell_old ?_)
  have k10 : w2.cell? ⟨w1.heap.size, 2, none⟩ = some (.int .i64 0) := by rw [hw0]; repeat (first | exact cell_new (by simp) rfl | refine cell_old ?_)
  have z0 : w.heap.size < w2.heap.size := World.block_lt_of_cell? _ _ k0
  have z1 : w.heap.size + 1 < w2.heap.size := World.block_lt_of_cell? _ _ k6
  have z2 : w1.heap.size < w2.heap.size := World.block_lt_of_cell? _ _ k8
  replace hB : Below w.heap.size w w2 := by rw [hw0]; repeat (with_reducible first | exact hB | apply bel_alloc)
  rw [← hw0]
  clear hw0
  refine (area_any _ _ _ _).mono ?_
  rintro e w3 ⟨rfl, hb1⟩
  replace hB := bel_call hb1 (by repeat (with_reducible first | exact hB | apply bel_alloc | apply bel_drew))
  replace k0 := cell_later (bel_call hb1 (by repeat (with_reducible first | exact bel_refl _ | apply bel_alloc | apply bel_drew))) k0
  replace k1 := cell_later (bel_call hb1 (by repeat (with_reducible first | exact bel_refl _ | apply bel_alloc | apply bel_drew))) k1
  replace k2 := cell_later (bel_call hb1 (by repeat (with_reducible first | exact bel_refl _ | apply bel_alloc | apply bel_drew))) k2
  replace k3 := cell_later (bel_call hb1 (by repeat (with_reducible first | exact bel_refl _ | apply bel_alloc | apply bel_drew))) k3
  replace k4 := cell_later (bel_call hb1 (by repeat (with_reducible first | exact bel_refl _ | apply bel_alloc | apply bel_drew))) k4
  replace k5 := cell_later (bel_call hb1 (by repeat (with_reducible first | exact bel_refl _ | apply bel_alloc | apply bel_drew))) k5
  replace k6 := cell_later (bel_call hb1 (by repeat (with_reducible first | exact bel_refl _ | apply bel_alloc | apply bel_drew))) k6
  replace k7 := cell_later (bel_call hb1 (by repeat (with_reducible first | exact bel_refl _ | apply bel_alloc | apply bel_drew))) k7
  replace k8 := cell_later (bel_call hb1 (by repeat (with_reducible first | exact bel_refl _ | apply bel_alloc | apply bel_drew))) k8
  replace k9 := cell_later (bel_call hb1 (by repeat (with_reducible first | exact bel_refl _ | apply bel_alloc | apply bel_drew))) k9
  replace k10 := cell_later (bel_call hb1 (by repeat (with_reducible first | exact bel_refl _ | apply bel_alloc | apply bel_drew))) k10
  replace z0 := World.block_lt_of_cell? _ _ k0
  replace z1 := World.block_lt_of_cell? _ _ k6
  replace z2 := World.block_lt_of_cell? _ _ k8
  simp only [] at z0 z1 z2
  clear hb1
  go_wp2_with fail
  refine (claim_any _ _ _ _ _).mono ?_
  rintro e w4 ⟨rfl, hb1⟩
  replace hB := bel_call hb1 (by repeat (with_reducible first | exact hB | apply bel_alloc | apply bel_drew))
  replace k0 := cell_later (bel_call hb1 (by repeat (with_reducible first | exact bel_refl _ | apply bel_alloc | apply bel_drew))) k0
  replace k1 := cell_later (bel_call hb1 (by repeat (with_reducible first | exact bel_refl _ | apply bel_alloc | apply bel_drew))) k1
  replace k2 := cell_later (bel_call hb1 (by repeat (with_reducible first | exact bel_refl _ | apply bel_alloc | apply bel_drew))) k2
  replace k3 := cell_later (bel_call hb1 (by repeat (with_reducible first | exact bel_refl _ | apply bel_alloc | apply bel_drew))) k3
  replace k4 := cell_later (bel_call hb1 (by repeat (with_reducible first | exact bel_refl _ | apply bel_alloc | apply bel_drew))) k4
  replace k5 := cell_later (bel_call hb1 (by repeat (with_reducible first | exact bel_refl _ | apply bel_alloc | apply bel_drew))) k5
  replace k6 := cell_later (bel_call hb1 (by repeat (with_reducible first | exact bel_refl _ | apply bel_alloc | apply bel_drew))) k6
  replace k7 := cell_later (bel_call hb1 (by repeat (with_reducible first | exact bel_refl _ | apply bel_alloc | apply bel_drew))) k7
  replace k8 := cell_later (bel_call hb1 (by repeat (with_reducible first | exact bel_refl _ | apply bel_alloc | apply bel_drew))) k8
  replace k9 := cell_later (bel_call hb1 (by repeat (with_reducible first | exact bel_refl _ | apply bel_alloc | apply bel_drew))) k9
  replace k10 := cell_later (bel_call hb1 (by repeat (with_reducible first | exact bel_refl _ | apply bel_alloc | apply bel_drew))) k10
  replace z0 := World.block_lt_of_cell? _ _ k0
  replace z1 := World.block_lt_of_cell? _ _ k6
  replace z2 := World.block_lt_of_cell? _ _ k8
  simp only [] at z0 z1 z2
  clear hb1
  rw [g0]
  go_wp2_with (first
    | (go_at_call 11; refine (may11_any ⟨_, _⟩ _).mono ?_; rintro e w1 ⟨rfl, hb1⟩; replace hB := bel_call hb1 (by repeat (with_reducible first | exact hB | apply bel_alloc | apply bel_drew)); replace k0 := cell_later (bel_call hb1 (by repeat (with_reducible first | exact bel_refl _ | apply bel_alloc | apply bel_drew))) k0; replace k1 := cell_later (bel_call hb1 (by repeat (with_reducible first | exact bel_refl _ | apply bel_alloc | apply bel_drew))) k1; replace k2 := cell_later (bel_call hb1 (by repeat (with_reducible first | exact bel_refl _ | apply bel_alloc | apply bel_drew))) k2; replace k3 := cell_later (bel_call hb1 (by repeat (with_reducible first | exact bel_refl _ | apply bel_alloc | apply bel_drew))) k3; replace k4 := cell_later (bel_call hb1 (by repeat (with_reducible first | exact bel_refl _ | apply bel_alloc | apply bel_drew))) k4; replace k5 := cell_later (bel_call hb1 (by repeat (with_reducible first | exact bel_refl _ | apply bel_alloc | apply bel_drew))) k5; replace k6 := cell_later (bel_call hb1 (by repeat (with_reducible first | exact bel_refl _ | apply bel_alloc | apply bel_drew))) k6; replace k7 := cell_later (bel_call hb1 (by repeat (with_reducible first | exact bel_refl _ | apply bel_alloc | apply bel_drew))) k7; replace k8 := cell_later (bel_call hb1 (by repeat (with_reducible first | exact bel_refl _ | apply bel_alloc | apply bel_drew))) k8; replace k9 := cell_later (bel_call hb1 (by repeat (with_reducible first | exact bel_refl _ | apply bel_alloc | apply bel_drew))) k9; replace k10 := cell_later (bel_call hb1 (by repeat (with_reducible first | exact bel_refl _ | apply bel_alloc | apply bel_drew))) k10; replace z0 := World.block_lt_of_cell? _ _ k0; replace z1 := World.block_lt_of_cell? _ _ k6; replace z2 := World.block_lt_of_cell? _ _ k8; simp only [] at z0 z1 z2; clear hb1)
    | (go_at_call 10; refine (lives_any _).mono ?_; rintro e w1 ⟨rfl, hb1⟩; replace hB := bel_call hb1 (by repeat (with_reducible first | exact hB | apply bel_alloc | apply bel_drew)); replace k0 := cell_later (bel_call hb1 (by repeat (with_reducible first | exact bel_refl _ | apply bel_alloc | apply bel_drew))) k0; replace k1 := cell_later (bel_call hb1 (by repeat (with_reducible first | exact bel_refl _ | apply bel_alloc | apply bel_drew))) k1; replace k2 := cell_later (bel_call hb1 (by repeat (with_reducible first | exact bel_refl _ | apply bel_alloc | apply bel_drew))) k2; replace k3 := cell_later (bel_call hb1 (by repeat (with_reducible first | exact bel_refl _ | apply bel_alloc | apply bel_drew))) k3; replace k4 := cell_later (bel_call hb1 (by repeat (with_reducible first | exact bel_refl _ | apply bel_alloc | apply bel_drew))) k4; replace k5 := cell_later (bel_call hb1 (by repeat (with_reducible first | exact bel_refl _ | apply bel_alloc | apply bel_drew))) k5; replace k6 := cell_later (bel_call hb1 (by repeat (with_reducible first | exact bel_refl _ | apply bel_alloc | apply bel_drew))) k6; replace k7 := cell_later (bel_call hb1 (by repeat (with_reducible first | exact bel_refl _ | apply bel_alloc | apply bel_drew))) k7; replace k8 := cell_later (bel_call hb1 (by repeat (with_reducible first | exact bel_refl _ | apply bel_alloc | apply bel_drew))) k8; replace k9 := cell_later (bel_call hb1 (by repeat (with_reducible first | exact bel_refl _ | apply bel_alloc | apply bel_drew))) k9; replace k10 := cell_later (bel_call hb1 (by repeat (with_reducible first | exact bel_refl _ | apply bel_alloc | apply bel_drew))) k10; replace z0 := World.block_lt_of_cell? _ _ k0; replace z1 := World.block_lt_of_cell? _ _ k6; replace z2 := World.block_lt_of_cell? _ _ k8; simp only [] at z0 z1 z2; clear hb1))
  go_ret
  exact ⟨rfl, by simp [*]⟩

theorem sum_bad2 (a b c p : D) (op : ok p) (oa : ok a) (nb : ¬ ok b) (w : World) :
    Calls Try.prog 6 #[.agg #[.int .i64 a.x, .int .i64 a.y, .int .i64 b.x, .int .i64 b.y, .int .i64 c.x, .int .i64 c.y], .agg #[.int .i64 p.x, .int .i64 p.y]] w fun e w' => e = .returned (.bool true) ∧ Below w.heap.size w w' := by
  have ep : okB ⟨p.x, p.y⟩ = true := decide_eq_true op
  have ea : okB ⟨a.x, a.y⟩ = true := decide_eq_true oa
  have eb : okB ⟨b.x, b.y⟩ = false := decide_eq_false nb
  have gn : ¬ okAt a b c p := fun h => nb (h.1.2.1)
  have g0 : claim a b c p = 0 := claim_no a b c p gn
  have g1 : wt a b c p 0 = 0 := if_neg gn
  have g2 : wt a b c p 1 = 0 := if_neg gn
  have g3 : wt a b c p 2 = 0 := if_neg gn
  have hq : ∀ w, (binOp .eql 32 (.agg #[.int .i64 0, .int .i64 0, .int .i64 0]) (.agg #[.int .i64 0, .int .i64 0, .int .i64 0])).run Try.prog w = .ok (.bool true) w := fun _ => by kernel_rfl
  go_enter Try.func6, Try.ntmps6
  go_wp2_with fail
  obtain ⟨w0, hw0⟩ : ∃ x : World, x = ((w.alloc (.cells #[.int .i64 a.x, .int .i64 a.y, .int .i64 b.x, .int .i64 b.y, .int .i64 c.x, .int .i64 c.y] 24)).alloc (.cells #[.int .i64 p.x, .int .i64 p.y] 23)) := ⟨_, rfl⟩
  have k0 : w0.cell? ⟨w.heap.size, 0, none⟩ = some (.int .i64 a.x) := by rw [hw0]; repeat (first | exact cell_new (by simp) rfl | refine cell_old ?_)
  have k1 : w0.cell? ⟨w.heap.size, 1, none⟩ = some (.int .i64 a.y) := by rw [hw0]; repeat (first | exact cell_new (by simp) rfl | refine cell_old ?_)
  have k2 : w0.cell? ⟨w.heap.size, 2, none⟩ = some (.int .i64 b.x) := by rw [hw0]; repeat (first | exact cell_new (by simp) rfl | refine cell_old ?_)
  have k3 : w0.cell? ⟨w.heap.size, 3, none⟩ = some (.int .i64 b.y) := by rw [hw0]; repeat (first | exact cell_new (by simp) rfl | refine cell_old ?_)
  have k4 : w0.cell? ⟨w.heap.size, 4, none⟩ = some (.int .i64 c.x) := by rw [hw0]; repeat (first | exact cell_new (by simp) rfl | refine cell_old ?_)
  have k5 : w0.cell? ⟨w.heap.size, 5, none⟩ = some (.int .i64 c.y) := by rw [hw0]; repeat (first | exact cell_new (by simp) rfl | refine cell_old ?_)
  have k6 : w0.cell? ⟨w.heap.size + 1, 0, none⟩ = some (.int .i64 p.x) := by rw [hw0]; repeat (first | exact cell_new (by simp) rfl | refine cell_old ?_)
  have k7 : w0.cell? ⟨w.heap.size + 1, 1, none⟩ = some (.int .i64 p.y) := by rw [hw0]; repeat (first | exact cell_new (by simp) rfl | refine cell_old ?_)
  have z0 : w.heap.size < w0.heap.size := World.block_lt_of_cell? _ _ k0
  have z1 : w.heap.size + 1 < w0.heap.size := World.block_lt_of_cell? _ _ k6
  have hB : Below w.heap.size w w0 := by rw [hw0]; repeat (with_reducible first | exact bel_refl _ | apply bel_alloc)
  rw [← hw0]
  clear hw0
  refine (weights_any a b c p _).mono ?_
  rintro e w1 ⟨rfl, hb1⟩
  replace hB := bel_call hb1 (by repeat (with_reducible first | exact hB | apply bel_alloc | apply bel_drew))
  replace k0 := cell_later (bel_call hb1 (by repeat (with_reducible first | exact bel_refl _ | apply bel_alloc | apply bel_drew))) k0
  replace k1 := cell_later (bel_call hb1 (by repeat (with_reducible first | exact bel_refl _ | apply bel_alloc | apply bel_drew))) k1
  replace k2 := cell_later (bel_call hb1 (by repeat (with_reducible first | exact bel_refl _ | apply bel_alloc | apply bel_drew))) k2
  replace k3 := cell_later (bel_call hb1 (by repeat (with_reducible first | exact bel_refl _ | apply bel_alloc | apply bel_drew))) k3
  replace k4 := cell_later (bel_call hb1 (by repeat (with_reducible first | exact bel_refl _ | apply bel_alloc | apply bel_drew))) k4
  replace k5 := cell_later (bel_call hb1 (by repeat (with_reducible first | exact bel_refl _ | apply bel_alloc | apply bel_drew))) k5
  replace k6 := cell_later (bel_call hb1 (by repeat (with_reducible first | exact bel_refl _ | apply bel_alloc | apply bel_drew))) k6
  replace k7 := cell_later (bel_call hb1 (by repeat (with_reducible first | exact bel_refl _ | apply bel_alloc | apply bel_drew))) k7
  replace z0 := World.block_lt_of_cell? _ _ k0
  replace z1 := World.block_lt_of_cell? _ _ k6
  simp only [] at z0 z1
  clear hb1
  go_wp2_with fail
  obtain ⟨w2, hw0⟩ : ∃ x : World, x = (w1.alloc (.cells #[.int .i64 0, .int .i64 0, .int .i64 0] 32)) := ⟨_, rfl⟩
  replace k0 : w2.cell? ⟨w.heap.size, 0, none⟩ = some (.int .i64 a.x) := by rw [hw0]; exact cell_later (by repeat (with_reducible first | exact bel_refl _ | apply bel_alloc | apply bel_drew)) k0
  replace k1 : w2.cell? ⟨w.heap.size, 1, none⟩ = some (.int .i64 a.y) := by rw [hw0]; exact cell_later (by repeat (with_reducible first | exact bel_refl _ | apply bel_alloc | apply bel_drew)) k1
  replace k2 : w2.cell? ⟨w.heap.size, 2, none⟩ = some (.int .i64 b.x) := by rw [hw0]; exact cell_later (by repeat (with_reducible first | exact bel_refl _ | apply bel_alloc | apply bel_drew)) k2
  replace k3 : w2.cell? ⟨w.heap.size, 3, none⟩ = some (.int .i64 b.y) := by rw [hw0]; exact cell_later (by repeat (with_reducible first | exact bel_refl _ | apply bel_alloc | apply bel_drew)) k3
  replace k4 : w2.cell? ⟨w.heap.size, 4, none⟩ = some (.int .i64 c.x) := by rw [hw0]; exact cell_later (by repeat (with_reducible first | exact bel_refl _ | apply bel_alloc | apply bel_drew)) k4
  replace k5 : w2.cell? ⟨w.heap.size, 5, none⟩ = some (.int .i64 c.y) := by rw [hw0]; exact cell_later (by repeat (with_reducible first | exact bel_refl _ | apply bel_alloc | apply bel_drew)) k5
  replace k6 : w2.cell? ⟨w.heap.size + 1, 0, none⟩ = some (.int .i64 p.x) := by rw [hw0]; exact cell_later (by repeat (with_reducible first | exact bel_refl _ | apply bel_alloc | apply bel_drew)) k6
  replace k7 : w2.cell? ⟨w.heap.size + 1, 1, none⟩ = some (.int .i64 p.y) := by rw [hw0]; exact cell_later (by repeat (with_reducible first | exact bel_refl _ | apply bel_alloc | apply bel_drew)) k7
  have k8 : w2.cell? ⟨w1.heap.size, 0, none⟩ = some (.int .i64 0) := by rw [hw0]; repeat (first | exact cell_new (by simp) rfl | refine cell_old ?_)
  have k9 : w2.cell? ⟨w1.heap.size, 1, none⟩ = some (.int .i64 0) := by rw [hw0]; repeat (first | exact cell_new (by simp) rfl | refine cell_old ?_)
  have k10 : w2.cell? ⟨w1.heap.size, 2, none⟩ = some (.int .i64 0) := by rw [hw0]; repeat (first | exact cell_new (by simp) rfl | refine cell_old ?_)
  have z0 : w.heap.size < w2.heap.size := World.block_lt_of_cell? _ _ k0
  have z1 : w.heap.size + 1 < w2.heap.size := World.block_lt_of_cell? _ _ k6
  have z2 : w1.heap.size < w2.heap.size := World.block_lt_of_cell? _ _ k8
  replace hB : Below w.heap.size w w2 := by rw [hw0]; repeat (with_reducible first | exact hB | apply bel_alloc)
  rw [← hw0]
  clear hw0
  refine (area_any _ _ _ _).mono ?_
  rintro e w3 ⟨rfl, hb1⟩
  replace hB := bel_call hb1 (by repeat (with_reducible first | exact hB | apply bel_alloc | apply bel_drew))
  replace k0 := cell_later (bel_call hb1 (by repeat (with_reducible first | exact bel_refl _ | apply bel_alloc | apply bel_drew))) k0
  replace k1 := cell_later (bel_call hb1 (by repeat (with_reducible first | exact bel_refl _ | apply bel_alloc | apply bel_drew))) k1
  replace k2 := cell_later (bel_call hb1 (by repeat (with_reducible first | exact bel_refl _ | apply bel_alloc | apply bel_drew))) k2
  replace k3 := cell_later (bel_call hb1 (by repeat (with_reducible first | exact bel_refl _ | apply bel_alloc | apply bel_drew))) k3
  replace k4 := cell_later (bel_call hb1 (by repeat (with_reducible first | exact bel_refl _ | apply bel_alloc | apply bel_drew))) k4
  replace k5 := cell_later (bel_call hb1 (by repeat (with_reducible first | exact bel_refl _ | apply bel_alloc | apply bel_drew))) k5
  replace k6 := cell_later (bel_call hb1 (by repeat (with_reducible first | exact bel_refl _ | apply bel_alloc | apply bel_drew))) k6
  replace k7 := cell_later (bel_call hb1 (by repeat (with_reducible first | exact bel_refl _ | apply bel_alloc | apply bel_drew))) k7
  replace k8 := cell_later (bel_call hb1 (by repeat (with_reducible first | exact bel_refl _ | apply bel_alloc | apply bel_drew))) k8
  replace k9 := cell_later (bel_call hb1 (by repeat (with_reducible first | exact bel_refl _ | apply bel_alloc | apply bel_drew))) k9
  replace k10 := cell_later (bel_call hb1 (by repeat (with_reducible first | exact bel_refl _ | apply bel_alloc | apply bel_drew))) k10
  replace z0 := World.block_lt_of_cell? _ _ k0
  replace z1 := World.block_lt_of_cell? _ _ k6
  replace z2 := World.block_lt_of_cell? _ _ k8
  simp only [] at z0 z1 z2
  clear hb1
  go_wp2_with fail
  refine (claim_any _ _ _ _ _).mono ?_
  rintro e w4 ⟨rfl, hb1⟩
  replace hB := bel_call hb1 (by repeat (with_reducible first | exact hB | apply bel_alloc | apply bel_drew))
  replace k0 := cell_later (bel_call hb1 (by repeat (with_reducible first | exact bel_refl _ | apply bel_alloc | apply bel_drew))) k0
  replace k1 := cell_later (bel_call hb1 (by repeat (with_reducible first | exact bel_refl _ | apply bel_alloc | apply bel_drew))) k1
  replace k2 := cell_later (bel_call hb1 (by repeat (with_reducible first | exact bel_refl _ | apply bel_alloc | apply bel_drew))) k2
  replace k3 := cell_later (bel_call hb1 (by repeat (with_reducible first | exact bel_refl _ | apply bel_alloc | apply bel_drew))) k3
  replace k4 := cell_later (bel_call hb1 (by repeat (with_reducible first | exact bel_refl _ | apply bel_alloc | apply bel_drew))) k4
  replace k5 := cell_later (bel_call hb1 (by repeat (with_reducible first | exact bel_refl _ | apply bel_alloc | apply bel_drew))) k5
  replace k6 := cell_later (bel_call hb1 (by repeat (with_reducible first | exact bel_refl _ | apply bel_alloc | apply bel_drew))) k6
  replace k7 := cell_later (bel_call hb1 (by repeat (with_reducible first | exact bel_refl _ | apply bel_alloc | apply bel_drew))) k7
  replace k8 := cell_later (bel_call hb1 (by repeat (with_reducible first | exact bel_refl _ | apply bel_alloc | apply bel_drew))) k8
  replace k9 := cell_later (bel_call hb1 (by repeat (with_reducible first | exact bel_refl _ | apply bel_alloc | apply bel_drew))) k9
  replace k10 := cell_later (bel_call hb1 (by repeat (with_reducible first | exact bel_refl _ | apply bel_alloc | apply bel_drew))) k10
  replace z0 := World.block_lt_of_cell? _ _ k0
  replace z1 := World.block_lt_of_cell? _ _ k6
  replace z2 := World.block_lt_of_cell? _ _ k8
  simp only [] at z0 z1 z2
  clear hb1
  rw [g0]
  go_wp2_with (first
    | (go_at_call 11; refine (may11_any ⟨_, _⟩ _).mono ?_; rintro e w1 ⟨rfl, hb1⟩; replace hB := bel_call hb1 (by repeat (with_reducible first | exact hB | apply bel_alloc | apply bel_drew)); replace k0 := cell_later (bel_call hb1 (by repeat (with_reducible first | exact bel_refl _ | apply bel_alloc | apply bel_drew))) k0; replace k1 := cell_later (bel_call hb1 (by repeat (with_reducible first | exact bel_refl _ | apply bel_alloc | apply bel_drew))) k1; replace k2 := cell_later (bel_call hb1 (by repeat (with_reducible first | exact bel_refl _ | apply bel_alloc | apply bel_drew))) k2; replace k3 := cell_later (bel_call hb1 (by repeat (with_reducible first | exact bel_refl _ | apply bel_alloc | apply bel_drew))) k3; replace k4 := cell_later (bel_call hb1 (by repeat (with_reducible first | exact bel_refl _ | apply bel_alloc | apply bel_drew))) k4; replace k5 := cell_later (bel_call hb1 (by repeat (with_reducible first | exact bel_refl _ | apply bel_alloc | apply bel_drew))) k5; replace k6 := cell_later (bel_call hb1 (by repeat (with_reducible first | exact bel_refl _ | apply bel_alloc | apply bel_drew))) k6; replace k7 := cell_later (bel_call hb1 (by repeat (with_reducible first | exact bel_refl _ | apply bel_alloc | apply bel_drew))) k7; replace k8 := cell_later (bel_call hb1 (by repeat (with_reducible first | exact bel_refl _ | apply bel_alloc | apply bel_drew))) k8; replace k9 := cell_later (bel_call hb1 (by repeat (with_reducible first | exact bel_refl _ | apply bel_alloc | apply bel_drew))) k9; replace k10 := cell_later (bel_call hb1 (by repeat (with_reducible first | exact bel_refl _ | apply bel_alloc | apply bel_drew))) k10; replace z0 := World.block_lt_of_cell? _ _ k0; replace z1 := World.block_lt_of_cell? _ _ k6; replace z2 := World.block_lt_of_cell? _ _ k8; simp only [] at z0 z1 z2; clear hb1)
    | (go_at_call 10; refine (lives_any _).mono ?_; rintro e w1 ⟨rfl, hb1⟩; replace hB := bel_call hb1 (by repeat (with_reducible first | exact hB | apply bel_alloc | apply bel_drew)); replace k0 := cell_later (bel_call hb1 (by repeat (with_reducible first | exact bel_refl _ | apply bel_alloc | apply bel_drew))) k0; replace k1 := cell_later (bel_call hb1 (by repeat (with_reducible first | exact bel_refl _ | apply bel_alloc | apply bel_drew))) k1; replace k2 := cell_later (bel_call hb1 (by repeat (with_reducible first | exact bel_refl _ | apply bel_alloc | apply bel_drew))) k2; replace k3 := cell_later (bel_call hb1 (by repeat (with_reducible first | exact bel_refl _ | apply bel_alloc | apply bel_drew))) k3; replace k4 := cell_later (bel_call hb1 (by repeat (with_reducible first | exact bel_refl _ | apply bel_alloc | apply bel_drew))) k4; replace k5 := cell_later (bel_call hb1 (by repeat (with_reducible first | exact bel_refl _ | apply bel_alloc | apply bel_drew))) k5; replace k6 := cell_later (bel_call hb1 (by repeat (with_reducible first | exact bel_refl _ | apply bel_alloc | apply bel_drew))) k6; replace k7 := cell_later (bel_call hb1 (by repeat (with_reducible first | exact bel_refl _ | apply bel_alloc | apply bel_drew))) k7; replace k8 := cell_later (bel_call hb1 (by repeat (with_reducible first | exact bel_refl _ | apply bel_alloc | apply bel_drew))) k8; replace k9 := cell_later (bel_call hb1 (by repeat (with_reducible first | exact bel_refl _ | apply bel_alloc | apply bel_drew))) k9; replace k10 := cell_later (bel_call hb1 (by repeat (with_reducible first | exact bel_refl _ | apply bel_alloc | apply bel_drew))) k10; replace z0 := World.block_lt_of_cell? _ _ k0; replace z1 := World.block_lt_of_cell? _ _ k6; replace z2 := World.block_lt_of_cell? _ _ k8; simp only [] at z0 z1 z2; clear hb1))
  go_ret
  exact ⟨rfl, by simp [*]⟩

theorem sum_bad3 (a b c p : D) (op : ok p) (oa : ok a) (ob : ok b) (nc : ¬ ok c) (w : World) :
    Calls Try.prog 6 #[.agg #[.int .i64 a.x, .int .i64 a.y, .int .i64 b.x, .int .i64 b.y, .int .i64 c.x, .int .i64 c.y], .agg #[.int .i64 p.x, .int .i64 p.y]] w fun e w' => e = .returned (.bool true) ∧ Below w.heap.size w w' := by
  have ep : okB ⟨p.x, p.y⟩ = true := decide_eq_true op
  have ea : okB ⟨a.x, a.y⟩ = true := decide_eq_true oa
  have eb : okB ⟨b.x, b.y⟩ = true := decide_eq_true ob
  have ec : okB ⟨c.x, c.y⟩ = false := decide_eq_false nc
  have gn : ¬ okAt a b c p := fun h => nc (h.1.2.2)
  have g0 : claim a b c p = 0 := claim_no a b c p gn
  have g1 : wt a b c p 0 = 0 := if_neg gn
  have g2 : wt a b c p 1 = 0 := if_neg gn
  have g3 : wt a b c p 2 = 0 := if_neg gn
  have hq : ∀ w, (binOp .eql 32 (.agg #[.int .i64 0, .int .i64 0, .int .i64 0]) (.agg #[.int .i64 0, .int .i64 0, .int .i64 0])).run Try.prog w = .ok (.bool true) w := fun _ => by kernel_rfl
  go_enter Try.func6, Try.ntmps6
  go_wp2_with fail
  obtain ⟨w0, hw0⟩ : ∃ x : World, x = ((w.alloc (.cells #[.int .i64 a.x, .int .i64 a.y, .int .i64 b.x, .int .i64 b.y, .int .i64 c.x, .int .i64 c.y] 24)).alloc (.cells #[.int .i64 p.x, .int .i64 p.y] 23)) := ⟨_, rfl⟩
  have k0 : w0.cell? ⟨w.heap.size, 0, none⟩ = some (.int .i64 a.x) := by rw [hw0]; repeat (first | exact cell_new (by simp) rfl | refine cell_old ?_)
  have k1 : w0.cell? ⟨w.heap.size, 1, none⟩ = some (.int .i64 a.y) := by rw [hw0]; repeat (first | exact cell_new (by simp) rfl | refine cell_old ?_)
  have k2 : w0.cell? ⟨w.heap.size, 2, none⟩ = some (.int .i64 b.x) := by rw [hw0]; repeat (first | exact cell_new (by simp) rfl | refine cell_old ?_)
  have k3 : w0.cell? ⟨w.heap.size, 3, none⟩ = some (.int .i64 b.y) := by rw [hw0]; repeat (first | exact cell_new (by simp) rfl | refine cell_old ?_)
  have k4 : w0.cell? ⟨w.heap.size, 4, none⟩ = some (.int .i64 c.x) := by rw [hw0]; repeat (first | exact cell_new (by simp) rfl | refine cell_old ?_)
  have k5 : w0.cell? ⟨w.heap.size, 5, none⟩ = some (.int .i64 c.y) := by rw [hw0]; repeat (first | exact cell_new (by simp) rfl | refine cell_old ?_)
  have k6 : w0.cell? ⟨w.heap.size + 1, 0, none⟩ = some (.int .i64 p.x) := by rw [hw0]; repeat (first | exact cell_new (by simp) rfl | refine cell_old ?_)
  have k7 : w0.cell? ⟨w.heap.size + 1, 1, none⟩ = some (.int .i64 p.y) := by rw [hw0]; repeat (first | exact cell_new (by simp) rfl | refine cell_old ?_)
  have z0 : w.heap.size < w0.heap.size := World.block_lt_of_cell? _ _ k0
  have z1 : w.heap.size + 1 < w0.heap.size := World.block_lt_of_cell? _ _ k6
  have hB : Below w.heap.size w w0 := by rw [hw0]; repeat (with_reducible first | exact bel_refl _ | apply bel_alloc)
  rw [← hw0]
  clear hw0
  refine (weights_any a b c p _).mono ?_
  rintro e w1 ⟨rfl, hb1⟩
  replace hB := bel_call hb1 (by repeat (with_reducible first | exact hB | apply bel_alloc | apply bel_drew))
  replace k0 := cell_later (bel_call hb1 (by repeat (with_reducible first | exact bel_refl _ | apply bel_alloc | apply bel_drew))) k0
  replace k1 := cell_later (bel_call hb1 (by repeat (with_reducible first | exact bel_refl _ | apply bel_alloc | apply bel_drew))) k1
  replace k2 := cell_later (bel_call hb1 (by repeat (with_reducible first | exact bel_refl _ | apply bel_alloc | apply bel_drew))) k2
  replace k3 := cell_later (bel_call hb1 (by repeat (with_reducible first | exact bel_refl _ | apply bel_alloc | apply bel_drew))) k3
  replace k4 := cell_later (bel_call hb1 (by repeat (with_reducible first | exact bel_refl _ | apply bel_alloc | apply bel_drew))) k4
  replace k5 := cell_later (bel_call hb1 (by repeat (with_reducible first | exact bel_refl _ | apply bel_alloc | apply bel_drew))) k5
  replace k6 := cell_later (bel_call hb1 (by repeat (with_reducible first | exact bel_refl _ | apply bel_alloc | apply bel_drew))) k6
  replace k7 := cell_later (bel_call hb1 (by repeat (with_reducible first | exact bel_refl _ | apply bel_alloc | apply bel_drew))) k7
  replace z0 := World.block_lt_of_cell? _ _ k0
  replace z1 := World.block_lt_of_cell? _ _ k6
  simp only [] at z0 z1
  clear hb1
  go_wp2_with fail
  obtain ⟨w2, hw0⟩ : ∃ x : World, x = (w1.alloc (.cells #[.int .i64 0, .int .i64 0, .int .i64 0] 32)) := ⟨_, rfl⟩
  replace k0 : w2.cell? ⟨w.heap.size, 0, none⟩ = some (.int .i64 a.x) := by rw [hw0]; exact cell_later (by repeat (with_reducible first | exact bel_refl _ | apply bel_alloc | apply bel_drew)) k0
  replace k1 : w2.cell? ⟨w.heap.size, 1, none⟩ = some (.int .i64 a.y) := by rw [hw0]; exact cell_later (by repeat (with_reducible first | exact bel_refl _ | apply bel_alloc | apply bel_drew)) k1
  replace k2 : w2.cell? ⟨w.heap.size, 2, none⟩ = some (.int .i64 b.x) := by rw [hw0]; exact cell_later (by repeat (with_reducible first | exact bel_refl _ | apply bel_alloc | apply bel_drew)) k2
  replace k3 : w2.cell? ⟨w.heap.size, 3, none⟩ = some (.int .i64 b.y) := by rw [hw0]; exact cell_later (by repeat (with_reducible first | exact bel_refl _ | apply bel_alloc | apply bel_drew)) k3
  replace k4 : w2.cell? ⟨w.heap.size, 4, none⟩ = some (.int .i64 c.x) := by rw [hw0]; exact cell_later (by repeat (with_reducible first | exact bel_refl _ | apply bel_alloc | apply bel_drew)) k4
  replace k5 : w2.cell? ⟨w.heap.size, 5, none⟩ = some (.int .i64 c.y) := by rw [hw0]; exact cell_later (by repeat (with_reducible first | exact bel_refl _ | apply bel_alloc | apply bel_drew)) k5
  replace k6 : w2.cell? ⟨w.heap.size + 1, 0, none⟩ = some (.int .i64 p.x) := by rw [hw0]; exact cell_later (by repeat (with_reducible first | exact bel_refl _ | apply bel_alloc | apply bel_drew)) k6
  replace k7 : w2.cell? ⟨w.heap.size + 1, 1, none⟩ = some (.int .i64 p.y) := by rw [hw0]; exact cell_later (by repeat (with_reducible first | exact bel_refl _ | apply bel_alloc | apply bel_drew)) k7
  have k8 : w2.cell? ⟨w1.heap.size, 0, none⟩ = some (.int .i64 0) := by rw [hw0]; repeat (first | exact cell_new (by simp) rfl | refine cell_old ?_)
  have k9 : w2.cell? ⟨w1.heap.size, 1, none⟩ = some (.int .i64 0) := by rw [hw0]; repeat (first | exact cell_new (by simp) rfl | refine cell_old ?_)
  have k10 : w2.cell? ⟨w1.heap.size, 2, none⟩ = some (.int .i64 0) := by rw [hw0]; repeat (first | exact cell_new (by simp) rfl | refine cell_old ?_)
  have z0 : w.heap.size < w2.heap.size := World.block_lt_of_cell? _ _ k0
  have z1 : w.heap.size + 1 < w2.heap.size := World.block_lt_of_cell? _ _ k6
  have z2 : w1.heap.size < w2.heap.size := World.block_lt_of_cell? _ _ k8
  replace hB : Below w.heap.size w w2 := by rw [hw0]; repeat (with_reducible first | exact hB | apply bel_alloc)
  rw [← hw0]
  clear hw0
  refine (area_any _ _ _ _).mono ?_
  rintro e w3 ⟨rfl, hb1⟩
  replace hB := bel_call hb1 (by repeat (with_reducible first | exact hB | apply bel_alloc | apply bel_drew))
  replace k0 := cell_later (bel_call hb1 (by repeat (with_reducible first | exact bel_refl _ | apply bel_alloc | apply bel_drew))) k0
  replace k1 := cell_later (bel_call hb1 (by repeat (with_reducible first | exact bel_refl _ | apply bel_alloc | apply bel_drew))) k1
  replace k2 := cell_later (bel_call hb1 (by repeat (with_reducible first | exact bel_refl _ | apply bel_alloc | apply bel_drew))) k2
  replace k3 := cell_later (bel_call hb1 (by repeat (with_reducible first | exact bel_refl _ | apply bel_alloc | apply bel_drew))) k3
  replace k4 := cell_later (bel_call hb1 (by repeat (with_reducible first | exact bel_refl _ | apply bel_alloc | apply bel_drew))) k4
  replace k5 := cell_later (bel_call hb1 (by repeat (with_reducible first | exact bel_refl _ | apply bel_alloc | apply bel_drew))) k5
  replace k6 := cell_later (bel_call hb1 (by repeat (with_reducible first | exact bel_refl _ | apply bel_alloc | apply bel_drew))) k6
  replace k7 := cell_later (bel_call hb1 (by repeat (with_reducible first | exact bel_refl _ | apply bel_alloc | apply bel_drew))) k7
  replace k8 := cell_later (bel_call hb1 (by repeat (with_reducible first | exact bel_refl _ | apply bel_alloc | apply bel_drew))) k8
  replace k9 := cell_later (bel_call hb1 (by repeat (with_reducible first | exact bel_refl _ | apply bel_alloc | apply bel_drew))) k9
  replace k10 := cell_later (bel_call hb1 (by repeat (with_reducible first | exact bel_refl _ | apply bel_alloc | apply bel_drew))) k10
  replace z0 := World.block_lt_of_cell? _ _ k0
  replace z1 := World.block_lt_of_cell? _ _ k6
  replace z2 := World.block_lt_of_cell? _ _ k8
  simp only [] at z0 z1 z2
  clear hb1
  go_wp2_with fail
  refine (claim_any _ _ _ _ _).mono ?_
  rintro e w4 ⟨rfl, hb1⟩
  replace hB := bel_call hb1 (by repeat (with_reducible first | exact hB | apply bel_alloc | apply bel_drew))
  replace k0 := cell_later (bel_call hb1 (by repeat (with_reducible first | exact bel_refl _ | apply bel_alloc | apply bel_drew))) k0
  replace k1 := cell_later (bel_call hb1 (by repeat (with_reducible first | exact bel_refl _ | apply bel_alloc | apply bel_drew))) k1
  replace k2 := cell_later (bel_call hb1 (by repeat (with_reducible first | exact bel_refl _ | apply bel_alloc | apply bel_drew))) k2
  replace k3 := cell_later (bel_call hb1 (by repeat (with_reducible first | exact bel_refl _ | apply bel_alloc | apply bel_drew))) k3
  replace k4 := cell_later (bel_call hb1 (by repeat (with_reducible first | exact bel_refl _ | apply bel_alloc | apply bel_drew))) k4
  replace k5 := cell_later (bel_call hb1 (by repeat (with_reducible first | exact bel_refl _ | apply bel_alloc | apply bel_drew))) k5
  replace k6 := cell_later (bel_call hb1 (by repeat (with_reducible first | exact bel_refl _ | apply bel_alloc | apply bel_drew))) k6
  replace k7 := cell_later (bel_call hb1 (by repeat (with_reducible first | exact bel_refl _ | apply bel_alloc | apply bel_drew))) k7
  replace k8 := cell_later (bel_call hb1 (by repeat (with_reducible first | exact bel_refl _ | apply bel_alloc | apply bel_drew))) k8
  replace k9 := cell_later (bel_call hb1 (by repeat (with_reducible first | exact bel_refl _ | apply bel_alloc | apply bel_drew))) k9
  replace k10 := cell_later (bel_call hb1 (by repeat (with_reducible first | exact bel_refl _ | apply bel_alloc | apply bel_drew))) k10
  replace z0 := World.block_lt_of_cell? _ _ k0
  replace z1 := World.block_lt_of_cell? _ _ k6
  replace z2 := World.block_lt_of_cell? _ _ k8
  simp only [] at z0 z1 z2
  clear hb1
  rw [g0]
  go_wp2_with (first
    | (go_at_call 11; refine (may11_any ⟨_, _⟩ _).mono ?_; rintro e w1 ⟨rfl, hb1⟩; replace hB := bel_call hb1 (by repeat (with_reducible first | exact hB | apply bel_alloc | apply bel_drew)); replace k0 := cell_later (bel_call hb1 (by repeat (with_reducible first | exact bel_refl _ | apply bel_alloc | apply bel_drew))) k0; replace k1 := cell_later (bel_call hb1 (by repeat (with_reducible first | exact bel_refl _ | apply bel_alloc | apply bel_drew))) k1; replace k2 := cell_later (bel_call hb1 (by repeat (with_reducible first | exact bel_refl _ | apply bel_alloc | apply bel_drew))) k2; replace k3 := cell_later (bel_call hb1 (by repeat (with_reducible first | exact bel_refl _ | apply bel_alloc | apply bel_drew))) k3; replace k4 := cell_later (bel_call hb1 (by repeat (with_reducible first | exact bel_refl _ | apply bel_alloc | apply bel_drew))) k4; replace k5 := cell_later (bel_call hb1 (by repeat (with_reducible first | exact bel_refl _ | apply bel_alloc | apply bel_drew))) k5; replace k6 := cell_later (bel_call hb1 (by repeat (with_reducible first | exact bel_refl _ | apply bel_alloc | apply bel_drew))) k6; replace k7 := cell_later (bel_call hb1 (by repeat (with_reducible first | exact bel_refl _ | apply bel_alloc | apply bel_drew))) k7; replace k8 := cell_later (bel_call hb1 (by repeat (with_reducible first | exact bel_refl _ | apply bel_alloc | apply bel_drew))) k8; replace k9 := cell_later (bel_call hb1 (by repeat (with_reducible first | exact bel_refl _ | apply bel_alloc | apply bel_drew))) k9; replace k10 := cell_later (bel_call hb1 (by repeat (with_reducible first | exact bel_refl _ | apply bel_alloc | apply bel_drew))) k10; replace z0 := World.block_lt_of_cell? _ _ k0; replace z1 := World.block_lt_of_cell? _ _ k6; replace z2 := World.block_lt_of_cell? _ _ k8; simp only [] at z0 z1 z2; clear hb1)
    | (go_at_call 10; refine (lives_any _).mono ?_; rintro e w1 ⟨rfl, hb1⟩; replace hB := bel_call hb1 (by repeat (with_reducible first | exact hB | apply bel_alloc | apply bel_drew)); replace k0 := cell_later (bel_call hb1 (by repeat (with_reducible first | exact bel_refl _ | apply bel_alloc | apply bel_drew))) k0; replace k1 := cell_later (bel_call hb1 (by repeat (with_reducible first | exact bel_refl _ | apply bel_alloc | apply bel_drew))) k1; replace k2 := cell_later (bel_call hb1 (by repeat (with_reducible first | exact bel_refl _ | apply bel_alloc | apply bel_drew))) k2; replace k3 := cell_later (bel_call hb1 (by repeat (with_reducible first | exact bel_refl _ | apply bel_alloc | apply bel_drew))) k3; replace k4 := cell_later (bel_call hb1 (by repeat (with_reducible first | exact bel_refl _ | apply bel_alloc | apply bel_drew))) k4; replace k5 := cell_later (bel_call hb1 (by repeat (with_reducible first | exact bel_refl _ | apply bel_alloc | apply bel_drew))) k5; replace k6 := cell_later (bel_call hb1 (by repeat (with_reducible first | exact bel_refl _ | apply bel_alloc | apply bel_drew))) k6; replace k7 := cell_later (bel_call hb1 (by repeat (with_reducible first | exact bel_refl _ | apply bel_alloc | apply bel_drew))) k7; replace k8 := cell_later (bel_call hb1 (by repeat (with_reducible first | exact bel_refl _ | apply bel_alloc | apply bel_drew))) k8; replace k9 := cell_later (bel_call hb1 (by repeat (with_reducible first | exact bel_refl _ | apply bel_alloc | apply bel_drew))) k9; replace k10 := cell_later (bel_call hb1 (by repeat (with_reducible first | exact bel_refl _ | apply bel_alloc | apply bel_drew))) k10; replace z0 := World.block_lt_of_cell? _ _ k0; replace z1 := World.block_lt_of_cell? _ _ k6; replace z2 := World.block_lt_of_cell? _ _ k8; simp only [] at z0 z1 z2; clear hb1))
  go_ret
  exact ⟨rfl, by simp [*]⟩

set_option maxHeartbeats 1600000 in
theorem sum_one (a b c p : D) (op : ok p) (oa : ok a) (ob : ok b) (oc : ok c) (g0 : claim a b c p = 1) (w : World) :
    Calls Try.prog 6 #[.agg #[.int .i64 a.x, .int .i64 a.y, .int .i64 b.x, .int .i64 b.y, .int .i64 c.x, .int .i64 c.y], .agg #[.int .i64 p.x, .int .i64 p.y]] w fun e w' => e = .returned (.bool true) ∧ Below w.heap.size w w' := by
  have ep : okB ⟨p.x, p.y⟩ = true := decide_eq_true op
  have ea : okB ⟨a.x, a.y⟩ = true := decide_eq_true oa
  have eb : okB ⟨b.x, b.y⟩ = true := decide_eq_true ob
  have ec : okB ⟨c.x, c.y⟩ = true := decide_eq_true oc
  have gy : okAt a b c p := ⟨⟨oa, ob, oc⟩, op⟩
  have gw0 : wt a b c p 0 = cs3 a b c p 0 := if_pos gy
  have gw1 : wt a b c p 1 = cs3 a b c p 1 := if_pos gy
  have gw2 : wt a b c p 2 = cs3 a b c p 2 := if_pos gy
  have bs0 := cross_bd b c p ob oc op; have bs1 := cross_bd c a p oc oa op; have bs2 := cross_bd a b p oa ob op
  have gs : wt a b c p 0 + wt a b c p 1 + wt a b c p 2 = area a b c := by rw [gw0, gw1, gw2, area_ok a b c oa ob oc]; exact cs3_sum a b c p
  have u := area_bd a b c
  have i1 : IntKind.i64.wrap (wt a b c p 0 + wt a b c p 1) = wt a b c p 0 + wt a b c p 1 := IntWalk.i64_in _ (by rw [gw0, gw1]; show _ ≤ cross b c p + cross c a p ∧ cross b c p + cross c a p ≤ _; omega)
  have i2 : IntKind.i64.wrap (wt a b c p 0 + wt a b c p 1 + wt a b c p 2) = area a b c := by rw [gs]; exact IntWalk.i64_in _ (by omega)
  have q := claim_one a b c p g0
  have v0 : 0 ≤ wt a b c p 0 := by rw [gw0]; exact side_pos _ _ _ q.2.1
  have v1 : 0 ≤ wt a b c p 1 := by rw [gw1]; exact side_pos _ _ _ q.2.2.1
  have v2 : 0 ≤ wt a b c p 2 := by rw [gw2]; exact side_pos _ _ _ q.2.2.2
  have va : 0 < area a b c := pos_of_sg q.1
  clear q
  clear bs0 bs1 bs2 u gs gy gw0 gw1 gw2
  go_enter Try.func6, Try.ntmps6
  go_wp2_with fail
  obtain ⟨w0, hw0⟩ : ∃ x : World, x = ((w.alloc (.cells #[.int .i64 a.x, .int .i64 a.y, .int .i64 b.x, .int .i64 b.y, .int .i64 c.x, .int .i64 c.y] 24)).alloc (.cells #[.int .i64 p.x, .int .i64 p.y] 23)) := ⟨_, rfl⟩
  have k0 : w0.cell? ⟨w.heap.size, 0, none⟩ = some (.int .i64 a.x) := by rw [hw0]; repeat (first | exact cell_new (by simp) rfl | refine cell_old ?_)
  have k1 : w0.cell? ⟨w.heap.size, 1, none⟩ = some (.int .i64 a.y) := by rw [hw0]; repeat (first | exact cell_new (by simp) rfl | refine cell_old ?_)
  have k2 : w0.cell? ⟨w.heap.size, 2, none⟩ = some (.int .i64 b.x) := by rw [hw0]; repeat (first | exact cell_new (by simp) rfl | refine cell_old ?_)
  have k3 : w0.cell? ⟨w.heap.size, 3, none⟩ = some (.int .i64 b.y) := by rw [hw0]; repeat (first | exact cell_new (by simp) rfl | refine cell_old ?_)
  have k4 : w0.cell? ⟨w.heap.size, 4, none⟩ = some (.int .i64 c.x) := by rw [hw0]; repeat (first | exact cell_new (by simp) rfl | refine cell_old ?_)
  have k5 : w0.cell? ⟨w.heap.size, 5, none⟩ = some (.int .i64 c.y) := by rw [hw0]; repeat (first | exact cell_new (by simp) rfl | refine cell_old ?_)
  have k6 : w0.cell? ⟨w.heap.size + 1, 0, none⟩ = some (.int .i64 p.x) := by rw [hw0]; repeat (first | exact cell_new (by simp) rfl | refine cell_old ?_)
  have k7 : w0.cell? ⟨w.heap.size + 1, 1, none⟩ = some (.int .i64 p.y) := by rw [hw0]; repeat (first | exact cell_new (by simp) rfl | refine cell_old ?_)
  have z0 : w.heap.size < w0.heap.size := World.block_lt_of_cell? _ _ k0
  have z1 : w.heap.size + 1 < w0.heap.size := World.block_lt_of_cell? _ _ k6
  have hB : Below w.heap.size w w0 := by rw [hw0]; repeat (with_reducible first | exact bel_refl _ | apply bel_alloc)
  rw [← hw0]
  clear hw0
  refine (weights_any a b c p _).mono ?_
  rintro e w1 ⟨rfl, hb1⟩
  replace hB := bel_call hb1 (by repeat (with_reducible first | exact hB | apply bel_alloc | apply bel_drew))
  replace k0 := cell_later (bel_call hb1 (by repeat (with_reducible first | exact bel_refl _ | apply bel_alloc | apply bel_drew))) k0
  replace k1 := cell_later (bel_call hb1 (by repeat (with_reducible first | exact bel_refl _ | apply bel_alloc | apply bel_drew))) k1
  replace k2 := cell_later (bel_call hb1 (by repeat (with_reducible first | exact bel_refl _ | apply bel_alloc | apply bel_drew))) k2
  replace k3 := cell_later (bel_call hb1 (by repeat (with_reducible first | exact bel_refl _ | apply bel_alloc | apply bel_drew))) k3
  replace k4 := cell_later (bel_call hb1 (by repeat (with_reducible first | exact bel_refl _ | apply bel_alloc | apply bel_drew))) k4
  replace k5 := cell_later (bel_call hb1 (by repeat (with_reducible first | exact bel_refl _ | apply bel_alloc | apply bel_drew))) k5
  replace k6 := cell_later (bel_call hb1 (by repeat (with_reducible first | exact bel_refl _ | apply bel_alloc | apply bel_drew))) k6
  replace k7 := cell_later (bel_call hb1 (by repeat (with_reducible first | exact bel_refl _ | apply bel_alloc | apply bel_drew))) k7
  replace z0 := World.block_lt_of_cell? _ _ k0
  replace z1 := World.block_lt_of_cell? _ _ k6
  simp only [] at z0 z1
  clear hb1
  go_wp2_with fail
  obtain ⟨w2, hw0⟩ : ∃ x : World, x = (w1.alloc (.cells #[.int .i64 (wt a b c p 0), .int .i64 (wt a b c p 1), .int .i64 (wt a b c p 2)] 32)) := ⟨_, rfl⟩
  replace k0 : w2.cell? ⟨w.heap.size, 0, none⟩ = some (.int .i64 a.x) := by rw [hw0]; exact cell_later (by repeat (with_reducible first | exact bel_refl _ | apply bel_alloc | apply bel_drew)) k0
  replace k1 : w2.cell? ⟨w.heap.size, 1, none⟩ = some (.int .i64 a.y) := by rw [hw0]; exact cell_later (by repeat (with_reducible first | exact bel_refl _ | apply bel_alloc | apply bel_drew)) k1
  replace k2 : w2.cell? ⟨w.heap.size, 2, none⟩ = some (.int .i64 b.x) := by rw [hw0]; exact cell_later (by repeat (with_reducible first | exact bel_refl _ | apply bel_alloc | apply bel_drew)) k2
  replace k3 : w2.cell? ⟨w.heap.size, 3, none⟩ = some (.int .i64 b.y) := by rw [hw0]; exact cell_later (by repeat (with_reducible first | exact bel_refl _ | apply bel_alloc | apply bel_drew)) k3
  replace k4 : w2.cell? ⟨w.heap.size, 4, none⟩ = some (.int .i64 c.x) := by rw [hw0]; exact cell_later (by repeat (with_reducible first | exact bel_refl _ | apply bel_alloc | apply bel_drew)) k4
  replace k5 : w2.cell? ⟨w.heap.size, 5, none⟩ = some (.int .i64 c.y) := by rw [hw0]; exact cell_later (by repeat (with_reducible first | exact bel_refl _ | apply bel_alloc | apply bel_drew)) k5
  replace k6 : w2.cell? ⟨w.heap.size + 1, 0, none⟩ = some (.int .i64 p.x) := by rw [hw0]; exact cell_later (by repeat (with_reducible first | exact bel_refl _ | apply bel_alloc | apply bel_drew)) k6
  replace k7 : w2.cell? ⟨w.heap.size + 1, 1, none⟩ = some (.int .i64 p.y) := by rw [hw0]; exact cell_later (by repeat (with_reducible first | exact bel_refl _ | apply bel_alloc | apply bel_drew)) k7
  have k8 : w2.cell? ⟨w1.heap.size, 0, none⟩ = some (.int .i64 (wt a b c p 0)) := by rw [hw0]; repeat (first | exact cell_new (by simp) rfl | refine cell_old ?_)
  have k9 : w2.cell? ⟨w1.heap.size, 1, none⟩ = some (.int .i64 (wt a b c p 1)) := by rw [hw0]; repeat (first | exact cell_new (by simp) rfl | refine cell_old ?_)
  have k10 : w2.cell? ⟨w1.heap.size, 2, none⟩ = some (.int .i64 (wt a b c p 2)) := by rw [hw0]; repeat (first | exact cell_new (by simp) rfl | refine cell_old ?_)
  have z0 : w.heap.size < w2.heap.size := World.block_lt_of_cell? _ _ k0
  have z1 : w.heap.size + 1 < w2.heap.size := World.block_lt_of_cell? _ _ k6
  have z2 : w1.heap.size < w2.heap.size := World.block_lt_of_cell? _ _ k8
  replace hB : Below w.heap.size w w2 := by rw [hw0]; repeat (with_reducible first | exact hB | apply bel_alloc)
  rw [← hw0]
  clear hw0
  refine (area_any _ _ _ _).mono ?_
  rintro e w3 ⟨rfl, hb1⟩
  replace hB := bel_call hb1 (by repeat (with_reducible first | exact hB | apply bel_alloc | apply bel_drew))
  replace k0 := cell_later (bel_call hb1 (by repeat (with_reducible first | exact bel_refl _ | apply bel_alloc | apply bel_drew))) k0
  replace k1 := cell_later (bel_call hb1 (by repeat (with_reducible first | exact bel_refl _ | apply bel_alloc | apply bel_drew))) k1
  replace k2 := cell_later (bel_call hb1 (by repeat (with_reducible first | exact bel_refl _ | apply bel_alloc | apply bel_drew))) k2
  replace k3 := cell_later (bel_call hb1 (by repeat (with_reducible first | exact bel_refl _ | apply bel_alloc | apply bel_drew))) k3
  replace k4 := cell_later (bel_call hb1 (by repeat (with_reducible first | exact bel_refl _ | apply bel_alloc | apply bel_drew))) k4
  replace k5 := cell_later (bel_call hb1 (by repeat (with_reducible first | exact bel_refl _ | apply bel_alloc | apply bel_drew))) k5
  replace k6 := cell_later (bel_call hb1 (by repeat (with_reducible first | exact bel_refl _ | apply bel_alloc | apply bel_drew))) k6
  replace k7 := cell_later (bel_call hb1 (by repeat (with_reducible first | exact bel_refl _ | apply bel_alloc | apply bel_drew))) k7
  replace k8 := cell_later (bel_call hb1 (by repeat (with_reducible first | exact bel_refl _ | apply bel_alloc | apply bel_drew))) k8
  replace k9 := cell_later (bel_call hb1 (by repeat (with_reducible first | exact bel_refl _ | apply bel_alloc | apply bel_drew))) k9
  replace k10 := cell_later (bel_call hb1 (by repeat (with_reducible first | exact bel_refl _ | apply bel_alloc | apply bel_drew))) k10
  replace z0 := World.block_lt_of_cell? _ _ k0
  replace z1 := World.block_lt_of_cell? _ _ k6
  replace z2 := World.block_lt_of_cell? _ _ k8
  simp only [] at z0 z1 z2
  clear hb1
  go_wp2_with fail
  refine (claim_any _ _ _ _ _).mono ?_
  rintro e w4 ⟨rfl, hb1⟩
  replace hB := bel_call hb1 (by repeat (with_reducible first | exact hB | apply bel_alloc | apply bel_drew))
  replace k0 := cell_later (bel_call hb1 (by repeat (with_reducible first | exact bel_refl _ | apply bel_alloc | apply bel_drew))) k0
  replace k1 := cell_later (bel_call hb1 (by repeat (with_reducible first | exact bel_refl _ | apply bel_alloc | apply bel_drew))) k1
  replace k2 := cell_later (bel_call hb1 (by repeat (with_reducible first | exact bel_refl _ | apply bel_alloc | apply bel_drew))) k2
  replace k3 := cell_later (bel_call hb1 (by repeat (with_reducible first | exact bel_refl _ | apply bel_alloc | apply bel_drew))) k3
  replace k4 := cell_later (bel_call hb1 (by repeat (with_reducible first | exact bel_refl _ | apply bel_alloc | apply bel_drew))) k4
  replace k5 := cell_later (bel_call hb1 (by repeat (with_reducible first | exact bel_refl _ | apply bel_alloc | apply bel_drew))) k5
  replace k6 := cell_later (bel_call hb1 (by repeat (with_reducible first | exact bel_refl _ | apply bel_alloc | apply bel_drew))) k6
  replace k7 := cell_later (bel_call hb1 (by repeat (with_reducible first | exact bel_refl _ | apply bel_alloc | apply bel_drew))) k7
  replace k8 := cell_later (bel_call hb1 (by repeat (with_reducible first | exact bel_refl _ | apply bel_alloc | apply bel_drew))) k8
  replace k9 := cell_later (bel_call hb1 (by repeat (with_reducible first | exact bel_refl _ | apply bel_alloc | apply bel_drew))) k9
  replace k10 := cell_later (bel_call hb1 (by repeat (with_reducible first | exact bel_refl _ | apply bel_alloc | apply bel_drew))) k10
  replace z0 := World.block_lt_of_cell? _ _ k0
  replace z1 := World.block_lt_of_cell? _ _ k6
  replace z2 := World.block_lt_of_cell? _ _ k8
  simp only [] at z0 z1 z2
  clear hb1
  rw [g0]
  go_wp2_with (first
    | (go_at_call 11; refine (may11_any ⟨_, _⟩ _).mono ?_; rintro e w5 ⟨rfl, hb1⟩; replace hB := bel_call hb1 (by repeat (with_reducible first | exact hB | apply bel_alloc | apply bel_drew)); replace k0 := cell_later (bel_call hb1 (by repeat (with_reducible first | exact bel_refl _ | apply bel_alloc | apply bel_drew))) k0; replace k1 := cell_later (bel_call hb1 (by repeat (with_reducible first | exact bel_refl _ | apply bel_alloc | apply bel_drew))) k1; replace k2 := cell_later (bel_call hb1 (by repeat (with_reducible first | exact bel_refl _ | apply bel_alloc | apply bel_drew))) k2; replace k3 := cell_later (bel_call hb1 (by repeat (with_reducible first | exact bel_refl _ | apply bel_alloc | apply bel_drew))) k3; replace k4 := cell_later (bel_call hb1 (by repeat (with_reducible first | exact bel_refl _ | apply bel_alloc | apply bel_drew))) k4; replace k5 := cell_later (bel_call hb1 (by repeat (with_reducible first | exact bel_refl _ | apply bel_alloc | apply bel_drew))) k5; replace k6 := cell_later (bel_call hb1 (by repeat (with_reducible first | exact bel_refl _ | apply bel_alloc | apply bel_drew))) k6; replace k7 := cell_later (bel_call hb1 (by repeat (with_reducible first | exact bel_refl _ | apply bel_alloc | apply bel_drew))) k7; replace k8 := cell_later (bel_call hb1 (by repeat (with_reducible first | exact bel_refl _ | apply bel_alloc | apply bel_drew))) k8; replace k9 := cell_later (bel_call hb1 (by repeat (with_reducible first | exact bel_refl _ | apply bel_alloc | apply bel_drew))) k9; replace k10 := cell_later (bel_call hb1 (by repeat (with_reducible first | exact bel_refl _ | apply bel_alloc | apply bel_drew))) k10; replace z0 := World.block_lt_of_cell? _ _ k0; replace z1 := World.block_lt_of_cell? _ _ k6; replace z2 := World.block_lt_of_cell? _ _ k8; simp only [] at z0 z1 z2; clear hb1))
  go_loopw [8] (fun i wr => ∃ k : Nat, k ≤ 3 ∧ i = .int .i64 k ∧ wr = w5) (fun i _ => 3 - (intOf i).toNat)
  case atStart => exact ⟨0, by omega, rfl, rfl⟩
  case round =>
    obtain ⟨k, hk, rfl, rfl⟩ := hrel
    by_cases hlt : k < 3
    · have hk3 : k = 0 ∨ k = 1 ∨ k = 2 := by omega
      rcases hk3 with rfl | rfl | rfl
      · go_wp2
        go_roundw
        case rel => exact ⟨0 + 1, by omega, by go_num, by first | rfl | trivial⟩
        case measure => simp [intOf]
      · go_wp2
        go_roundw
        case rel => exact ⟨1 + 1, by omega, by go_num, by first | rfl | trivial⟩
        case measure => simp [intOf]
      · go_wp2
        go_roundw
        case rel => exact ⟨2 + 1, by omega, by go_num, by first | rfl | trivial⟩
        case measure => simp [intOf]
    · obtain rfl : k = 3 := by omega
      go_wp2_with (go_at_call 10; refine (lives_any _).mono ?_; rintro e w1 ⟨rfl, hb1⟩; replace hB := bel_call hb1 (by repeat (with_reducible first | exact hB | apply bel_alloc | apply bel_drew)); replace k0 := cell_later (bel_call hb1 (by repeat (with_reducible first | exact bel_refl _ | apply bel_alloc | apply bel_drew))) k0; replace k1 := cell_later (bel_call hb1 (by repeat (with_reducible first | exact bel_refl _ | apply bel_alloc | apply bel_drew))) k1; replace k2 := cell_later (bel_call hb1 (by repeat (with_reducible first | exact bel_refl _ | apply bel_alloc | apply bel_drew))) k2; replace k3 := cell_later (bel_call hb1 (by repeat (with_reducible first | exact bel_refl _ | apply bel_alloc | apply bel_drew))) k3; replace k4 := cell_later (bel_call hb1 (by repeat (with_reducible first | exact bel_refl _ | apply bel_alloc | apply bel_drew))) k4; replace k5 := cell_later (bel_call hb1 (by repeat (with_reducible first | exact bel_refl _ | apply bel_alloc | apply bel_drew))) k5; replace k6 := cell_later (bel_call hb1 (by repeat (with_reducible first | exact bel_refl _ | apply bel_alloc | apply bel_drew))) k6; replace k7 := cell_later (bel_call hb1 (by repeat (with_reducible first | exact bel_refl _ | apply bel_alloc | apply bel_drew))) k7; replace k8 := cell_later (bel_call hb1 (by repeat (with_reducible first | exact bel_refl _ | apply bel_alloc | apply bel_drew))) k8; replace k9 := cell_later (bel_call hb1 (by repeat (with_reducible first | exact bel_refl _ | apply bel_alloc | apply bel_drew))) k9; replace k10 := cell_later (bel_call hb1 (by repeat (with_reducible first | exact bel_refl _ | apply bel_alloc | apply bel_drew))) k10; replace z0 := World.block_lt_of_cell? _ _ k0; replace z1 := World.block_lt_of_cell? _ _ k6; replace z2 := World.block_lt_of_cell? _ _ k8; simp only [] at z0 z1 z2; clear hb1)
      go_ret
      exact ⟨rfl, by simp [*]⟩

set_option maxHeartbeats 1600000 in
theorem sum_less (a b c p : D) (op : ok p) (oa : ok a) (ob : ok b) (oc : ok c) (g0 : claim a b c p = -1) (w : World) :
    Calls Try.prog 6 #[.agg #[.int .i64 a.x, .int .i64 a.y, .int .i64 b.x, .int .i64 b.y, .int .i64 c.x, .int .i64 c.y], .agg #[.int .i64 p.x, .int .i64 p.y]] w fun e w' => e = .returned (.bool true) ∧ Below w.heap.size w w' := by
  have ep : okB ⟨p.x, p.y⟩ = true := decide_eq_true op
  have ea : okB ⟨a.x, a.y⟩ = true := decide_eq_true oa
  have eb : okB ⟨b.x, b.y⟩ = true := decide_eq_true ob
  have ec : okB ⟨c.x, c.y⟩ = true := decide_eq_true oc
  have gy : okAt a b c p := ⟨⟨oa, ob, oc⟩, op⟩
  have gw0 : wt a b c p 0 = cs3 a b c p 0 := if_pos gy
  have gw1 : wt a b c p 1 = cs3 a b c p 1 := if_pos gy
  have gw2 : wt a b c p 2 = cs3 a b c p 2 := if_pos gy
  have bs0 := cross_bd b c p ob oc op; have bs1 := cross_bd c a p oc oa op; have bs2 := cross_bd a b p oa ob op
  have gs : wt a b c p 0 + wt a b c p 1 + wt a b c p 2 = area a b c := by rw [gw0, gw1, gw2, area_ok a b c oa ob oc]; exact cs3_sum a b c p
  have u := area_bd a b c
  have i1 : IntKind.i64.wrap (wt a b c p 0 + wt a b c p 1) = wt a b c p 0 + wt a b c p 1 := IntWalk.i64_in _ (by rw [gw0, gw1]; show _ ≤ cross b c p + cross c a p ∧ cross b c p + cross c a p ≤ _; omega)
  have i2 : IntKind.i64.wrap (wt a b c p 0 + wt a b c p 1 + wt a b c p 2) = area a b c := by rw [gs]; exact IntWalk.i64_in _ (by omega)
  have q := claim_less a b c p g0
  have v0 : wt a b c p 0 ≤ 0 := by rw [gw0]; exact side_neg _ _ _ q.2.1
  have v1 : wt a b c p 1 ≤ 0 := by rw [gw1]; exact side_neg _ _ _ q.2.2.1
  have v2 : wt a b c p 2 ≤ 0 := by rw [gw2]; exact side_neg _ _ _ q.2.2.2
  have va : area a b c < 0 := neg_of_sg q.1
  clear q
  clear bs0 bs1 bs2 u gs gy gw0 gw1 gw2
  go_enter Try.func6, Try.ntmps6
  go_wp2_with fail
  obtain ⟨w0, hw0⟩ : ∃ x : World, x = ((w.alloc (.cells #[.int .i64 a.x, .int .i64 a.y, .int .i64 b.x, .int .i64 b.y, .int .i64 c.x, .int .i64 c.y] 24)).alloc (.cells #[.int .i64 p.x, .int .i64 p.y] 23)) := ⟨_, rfl⟩
  have k0 : w0.cell? ⟨w.heap.size, 0, none⟩ = some (.int .i64 a.x) := by rw [hw0]; repeat (first | exact cell_new (by simp) rfl | refine cell_old ?_)
  have k1 : w0.cell? ⟨w.heap.size, 1, none⟩ = some (.int .i64 a.y) := by rw [hw0]; repeat (first | exact cell_new (by simp) rfl | refine cell_old ?_)
  have k2 : w0.cell? ⟨w.heap.size, 2, none⟩ = some (.int .i64 b.x) := by rw [hw0]; repeat (first | exact cell_new (by simp) rfl | refine cell_old ?_)
  have k3 : w0.cell? ⟨w.heap.size, 3, none⟩ = some (.int .i64 b.y) := by rw [hw0]; repeat (first | exact cell_new (by simp) rfl | refine cell_old ?_)
  have k4 : w0.cell? ⟨w.heap.size, 4, none⟩ = some (.int .i64 c.x) := by rw [hw0]; repeat (first | exact cell_new (by simp) rfl | refine cell_old ?_)
  have k5 : w0.cell? ⟨w.heap.size, 5, none⟩ = some (.int .i64 c.y) := by rw [hw0]; repeat (first | exact cell_new (by simp) rfl | refine cell_old ?_)
  have k6 : w0.cell? ⟨w.heap.size + 1, 0, none⟩ = some (.int .i64 p.x) := by rw [hw0]; repeat (first | exact cell_new (by simp) rfl | refine cell_old ?_)
  have k7 : w0.cell? ⟨w.heap.size + 1, 1, none⟩ = some (.int .i64 p.y) := by rw [hw0]; repeat (first | exact cell_new (by simp) rfl | refine cell_old ?_)
  have z0 : w.heap.size < w0.heap.size := World.block_lt_of_cell? _ _ k0
  have z1 : w.heap.size + 1 < w0.heap.size := World.block_lt_of_cell? _ _ k6
  have hB : Below w.heap.size w w0 := by rw [hw0]; repeat (with_reducible first | exact bel_refl _ | apply bel_alloc)
  rw [← hw0]
  clear hw0
  refine (weights_any a b c p _).mono ?_
  rintro e w1 ⟨rfl, hb1⟩
  replace hB := bel_call hb1 (by repeat (with_reducible first | exact hB | apply bel_alloc | apply bel_drew))
  replace k0 := cell_later (bel_call hb1 (by repeat (with_reducible first | exact bel_refl _ | apply bel_alloc | apply bel_drew))) k0
  replace k1 := cell_later (bel_call hb1 (by repeat (with_reducible first | exact bel_refl _ | apply bel_alloc | apply bel_drew))) k1
  replace k2 := cell_later (bel_call hb1 (by repeat (with_reducible first | exact bel_refl _ | apply bel_alloc | apply bel_drew))) k2
  replace k3 := cell_later (bel_call hb1 (by repeat (with_reducible first | exact bel_refl _ | apply bel_alloc | apply bel_drew))) k3
  replace k4 := cell_later (bel_call hb1 (by repeat (with_reducible first | exact bel_refl _ | apply bel_alloc | apply bel_drew))) k4
  replace k5 := cell_later (bel_call hb1 (by repeat (with_reducible first | exact bel_refl _ | apply bel_alloc | apply bel_drew))) k5
  replace k6 := cell_later (bel_call hb1 (by repeat (with_reducible first | exact bel_refl _ | apply bel_alloc | apply bel_drew))) k6
  replace k7 := cell_later (bel_call hb1 (by repeat (with_reducible first | exact bel_refl _ | apply bel_alloc | apply bel_drew))) k7
  replace z0 := World.block_lt_of_cell? _ _ k0
  replace z1 := World.block_lt_of_cell? _ _ k6
  simp only [] at z0 z1
  clear hb1
  go_wp2_with fail
  obtain ⟨w2, hw0⟩ : ∃ x : World, x = (w1.alloc (.cells #[.int .i64 (wt a b c p 0), .int .i64 (wt a b c p 1), .int .i64 (wt a b c p 2)] 32)) := ⟨_, rfl⟩
  replace k0 : w2.cell? ⟨w.heap.size, 0, none⟩ = some (.int .i64 a.x) := by rw [hw0]; exact cell_later (by repeat (with_reducible first | exact bel_refl _ | apply bel_alloc | apply bel_drew)) k0
  replace k1 : w2.cell? ⟨w.heap.size, 1, none⟩ = some (.int .i64 a.y) := by rw [hw0]; exact cell_later (by repeat (with_reducible first | exact bel_refl _ | apply bel_alloc | apply bel_drew)) k1
  replace k2 : w2.cell? ⟨w.heap.size, 2, none⟩ = some (.int .i64 b.x) := by rw [hw0]; exact cell_later (by repeat (with_reducible first | exact bel_refl _ | apply bel_alloc | apply bel_drew)) k2
  replace k3 : w2.cell? ⟨w.heap.size, 3, none⟩ = some (.int .i64 b.y) := by rw [hw0]; exact cell_later (by repeat (with_reducible first | exact bel_refl _ | apply bel_alloc | apply bel_drew)) k3
  replace k4 : w2.cell? ⟨w.heap.size, 4, none⟩ = some (.int .i64 c.x) := by rw [hw0]; exact cell_later (by repeat (with_reducible first | exact bel_refl _ | apply bel_alloc | apply bel_drew)) k4
  replace k5 : w2.cell? ⟨w.heap.size, 5, none⟩ = some (.int .i64 c.y) := by rw [hw0]; exact cell_later (by repeat (with_reducible first | exact bel_refl _ | apply bel_alloc | apply bel_drew)) k5
  replace k6 : w2.cell? ⟨w.heap.size + 1, 0, none⟩ = some (.int .i64 p.x) := by rw [hw0]; exact cell_later (by repeat (with_reducible first | exact bel_refl _ | apply bel_alloc | apply bel_drew)) k6
  replace k7 : w2.cell? ⟨w.heap.size + 1, 1, none⟩ = some (.int .i64 p.y) := by rw [hw0]; exact cell_later (by repeat (with_reducible first | exact bel_refl _ | apply bel_alloc | apply bel_drew)) k7
  have k8 : w2.cell? ⟨w1.heap.size, 0, none⟩ = some (.int .i64 (wt a b c p 0)) := by rw [hw0]; repeat (first | exact cell_new (by simp) rfl | refine cell_old ?_)
  have k9 : w2.cell? ⟨w1.heap.size, 1, none⟩ = some (.int .i64 (wt a b c p 1)) := by rw [hw0]; repeat (first | exact cell_new (by simp) rfl | refine cell_old ?_)
  have k10 : w2.cell? ⟨w1.heap.size, 2, none⟩ = some (.int .i64 (wt a b c p 2)) := by rw [hw0]; repeat (first | exact cell_new (by simp) rfl | refine cell_old ?_)
  have z0 : w.heap.size < w2.heap.size := World.block_lt_of_cell? _ _ k0
  have z1 : w.heap.size + 1 < w2.heap.size := World.block_lt_of_cell? _ _ k6
  have z2 : w1.heap.size < w2.heap.size := World.block_lt_of_cell? _ _ k8
  replace hB : Below w.heap.size w w2 := by rw [hw0]; repeat (with_reducible first | exact hB | apply bel_alloc)
  rw [← hw0]
  clear hw0
  refine (area_any _ _ _ _).mono ?_
  rintro e w3 ⟨rfl, hb1⟩
  replace hB := bel_call hb1 (by repeat (with_reducible first | exact hB | apply bel_alloc | apply bel_drew))
  replace k0 := cell_later (bel_call hb1 (by repeat (with_reducible first | exact bel_refl _ | apply bel_alloc | apply bel_drew))) k0
  replace k1 := cell_later (bel_call hb1 (by repeat (with_reducible first | exact bel_refl _ | apply bel_alloc | apply bel_drew))) k1
  replace k2 := cell_later (bel_call hb1 (by repeat (with_reducible first | exact bel_refl _ | apply bel_alloc | apply bel_drew))) k2
  replace k3 := cell_later (bel_call hb1 (by repeat (with_reducible first | exact bel_refl _ | apply bel_alloc | apply bel_drew))) k3
  replace k4 := cell_later (bel_call hb1 (by repeat (with_reducible first | exact bel_refl _ | apply bel_alloc | apply bel_drew))) k4
  replace k5 := cell_later (bel_call hb1 (by repeat (with_reducible first | exact bel_refl _ | apply bel_alloc | apply bel_drew))) k5
  replace k6 := cell_later (bel_call hb1 (by repeat (with_reducible first | exact bel_refl _ | apply bel_alloc | apply bel_drew))) k6
  replace k7 := cell_later (bel_call hb1 (by repeat (with_reducible first | exact bel_refl _ | apply bel_alloc | apply bel_drew))) k7
  replace k8 := cell_later (bel_call hb1 (by repeat (with_reducible first | exact bel_refl _ | apply bel_alloc | apply bel_drew))) k8
  replace k9 := cell_later (bel_call hb1 (by repeat (with_reducible first | exact bel_refl _ | apply bel_alloc | apply bel_drew))) k9
  replace k10 := cell_later (bel_call hb1 (by repeat (with_reducible first | exact bel_refl _ | apply bel_alloc | apply bel_drew))) k10
  replace z0 := World.block_lt_of_cell? _ _ k0
  replace z1 := World.block_lt_of_cell? _ _ k6
  replace z2 := World.block_lt_of_cell? _ _ k8
  simp only [] at z0 z1 z2
  clear hb1
  go_wp2_with fail
  refine (claim_any _ _ _ _ _).mono ?_
  rintro e w4 ⟨rfl, hb1⟩
  replace hB := bel_call hb1 (by repeat (with_reducible first | exact hB | apply bel_alloc | apply bel_drew))
  replace k0 := cell_later (bel_call hb1 (by repeat (with_reducible first | exact bel_refl _ | apply bel_alloc | apply bel_drew))) k0
  replace k1 := cell_later (bel_call hb1 (by repeat (with_reducible first | exact bel_refl _ | apply bel_alloc | apply bel_drew))) k1
  replace k2 := cell_later (bel_call hb1 (by repeat (with_reducible first | exact bel_refl _ | apply bel_alloc | apply bel_drew))) k2
  replace k3 := cell_later (bel_call hb1 (by repeat (with_reducible first | exact bel_refl _ | apply bel_alloc | apply bel_drew))) k3
  replace k4 := cell_later (bel_call hb1 (by repeat (with_reducible first | exact bel_refl _ | apply bel_alloc | apply bel_drew))) k4
  replace k5 := cell_later (bel_call hb1 (by repeat (with_reducible first | exact bel_refl _ | apply bel_alloc | apply bel_drew))) k5
  replace k6 := cell_later (bel_call hb1 (by repeat (with_reducible first | exact bel_refl _ | apply bel_alloc | apply bel_drew))) k6
  replace k7 := cell_later (bel_call hb1 (by repeat (with_reducible first | exact bel_refl _ | apply bel_alloc | apply bel_drew))) k7
  replace k8 := cell_later (bel_call hb1 (by repeat (with_reducible first | exact bel_refl _ | apply bel_alloc | apply bel_drew))) k8
  replace k9 := cell_later (bel_call hb1 (by repeat (with_reducible first | exact bel_refl _ | apply bel_alloc | apply bel_drew))) k9
  replace k10 := cell_later (bel_call hb1 (by repeat (with_reducible first | exact bel_refl _ | apply bel_alloc | apply bel_drew))) k10
  replace z0 := World.block_lt_of_cell? _ _ k0
  replace z1 := World.block_lt_of_cell? _ _ k6
  replace z2 := World.block_lt_of_cell? _ _ k8
  simp only [] at z0 z1 z2
  clear hb1
  rw [g0]
  go_wp2_with (first
    | (go_at_call 11; refine (may11_any ⟨_, _⟩ _).mono ?_; rintro e w5 ⟨rfl, hb1⟩; replace hB := bel_call hb1 (by repeat (with_reducible first | exact hB | apply bel_alloc | apply bel_drew)); replace k0 := cell_later (bel_call hb1 (by repeat (with_reducible first | exact bel_refl _ | apply bel_alloc | apply bel_drew))) k0; replace k1 := cell_later (bel_call hb1 (by repeat (with_reducible first | exact bel_refl _ | apply bel_alloc | apply bel_drew))) k1; replace k2 := cell_later (bel_call hb1 (by repeat (with_reducible first | exact bel_refl _ | apply bel_alloc | apply bel_drew))) k2; replace k3 := cell_later (bel_call hb1 (by repeat (with_reducible first | exact bel_refl _ | apply bel_alloc | apply bel_drew))) k3; replace k4 := cell_later (bel_call hb1 (by repeat (with_reducible first | exact bel_refl _ | apply bel_alloc | apply bel_drew))) k4; replace k5 := cell_later (bel_call hb1 (by repeat (with_reducible first | exact bel_refl _ | apply bel_alloc | apply bel_drew))) k5; replace k6 := cell_later (bel_call hb1 (by repeat (with_reducible first | exact bel_refl _ | apply bel_alloc | apply bel_drew))) k6; replace k7 := cell_later (bel_call hb1 (by repeat (with_reducible first | exact bel_refl _ | apply bel_alloc | apply bel_drew))) k7; replace k8 := cell_later (bel_call hb1 (by repeat (with_reducible first | exact bel_refl _ | apply bel_alloc | apply bel_drew))) k8; replace k9 := cell_later (bel_call hb1 (by repeat (with_reducible first | exact bel_refl _ | apply bel_alloc | apply bel_drew))) k9; replace k10 := cell_later (bel_call hb1 (by repeat (with_reducible first | exact bel_refl _ | apply bel_alloc | apply bel_drew))) k10; replace z0 := World.block_lt_of_cell? _ _ k0; replace z1 := World.block_lt_of_cell? _ _ k6; replace z2 := World.block_lt_of_cell? _ _ k8; simp only [] at z0 z1 z2; clear hb1))
  go_loopw [8] (fun i wr => ∃ k : Nat, k ≤ 3 ∧ i = .int .i64 k ∧ wr = w5) (fun i _ => 3 - (intOf i).toNat)
  case atStart => exact ⟨0, by omega, rfl, rfl⟩
  case round =>
    obtain ⟨k, hk, rfl, rfl⟩ := hrel
    by_cases hlt : k < 3
    · have hk3 : k = 0 ∨ k = 1 ∨ k = 2 := by omega
      rcases hk3 with rfl | rfl | rfl
      · go_wp2
        go_roundw
        case rel => exact ⟨0 + 1, by omega, by go_num, by first | rfl | trivial⟩
        case measure => simp [intOf]
      · go_wp2
        go_roundw
        case rel => exact ⟨1 + 1, by omega, by go_num, by first | rfl | trivial⟩
        case measure => simp [intOf]
      · go_wp2
        go_roundw
        case rel => exact ⟨2 + 1, by omega, by go_num, by first | rfl | trivial⟩
        case measure => simp [intOf]
    · obtain rfl : k = 3 := by omega
      go_wp2_with (go_at_call 10; refine (lives_any _).mono ?_; rintro e w1 ⟨rfl, hb1⟩; replace hB := bel_call hb1 (by repeat (with_reducible first | exact hB | apply bel_alloc | apply bel_drew)); replace k0 := cell_later (bel_call hb1 (by repeat (with_reducible first | exact bel_refl _ | apply bel_alloc | apply bel_drew))) k0; replace k1 := cell_later (bel_call hb1 (by repeat (with_reducible first | exact bel_refl _ | apply bel_alloc | apply bel_drew))) k1; replace k2 := cell_later (bel_call hb1 (by repeat (with_reducible first | exact bel_refl _ | apply bel_alloc | apply bel_drew))) k2; replace k3 := cell_later (bel_call hb1 (by repeat (with_reducible first | exact bel_refl _ | apply bel_alloc | apply bel_drew))) k3; replace k4 := cell_later (bel_call hb1 (by repeat (with_reducible first | exact bel_refl _ | apply bel_alloc | apply bel_drew))) k4; replace k5 := cell_later (bel_call hb1 (by repeat (with_reducible first | exact bel_refl _ | apply bel_alloc | apply bel_drew))) k5; replace k6 := cell_later (bel_call hb1 (by repeat (with_reducible first | exact bel_refl _ | apply bel_alloc | apply bel_drew))) k6; replace k7 := cell_later (bel_call hb1 (by repeat (with_reducible first | exact bel_refl _ | apply bel_alloc | apply bel_drew))) k7; replace k8 := cell_later (bel_call hb1 (by repeat (with_reducible first | exact bel_refl _ | apply bel_alloc | apply bel_drew))) k8; replace k9 := cell_later (bel_call hb1 (by repeat (with_reducible first | exact bel_refl _ | apply bel_alloc | apply bel_drew))) k9; replace k10 := cell_later (bel_call hb1 (by repeat (with_reducible first | exact bel_refl _ | apply bel_alloc | apply bel_drew))) k10; replace z0 := World.block_lt_of_cell? _ _ k0; replace z1 := World.block_lt_of_cell? _ _ k6; replace z2 := World.block_lt_of_cell? _ _ k8; simp only [] at z0 z1 z2; clear hb1)
      go_ret
      exact ⟨rfl, by simp [*]⟩

set_option maxHeartbeats 1600000 in
theorem sum_none (a b c p : D) (op : ok p) (oa : ok a) (ob : ok b) (oc : ok c) (g0 : claim a b c p = 0) (w : World) :
    Calls Try.prog 6 #[.agg #[.int .i64 a.x, .int .i64 a.y, .int .i64 b.x, .int .i64 b.y, .int .i64 c.x, .int .i64 c.y], .agg #[.int .i64 p.x, .int .i64 p.y]] w fun e w' => e = .returned (.bool true) ∧ Below w.heap.size w w' := by
  have ep : okB ⟨p.x, p.y⟩ = true := decide_eq_true op
  have ea : okB ⟨a.x, a.y⟩ = true := decide_eq_true oa
  have eb : okB ⟨b.x, b.y⟩ = true := decide_eq_true ob
  have ec : okB ⟨c.x, c.y⟩ = true := decide_eq_true oc
  have gy : okAt a b c p := ⟨⟨oa, ob, oc⟩, op⟩
  have gw0 : wt a b c p 0 = cs3 a b c p 0 := if_pos gy
  have gw1 : wt a b c p 1 = cs3 a b c p 1 := if_pos gy
  have gw2 : wt a b c p 2 = cs3 a b c p 2 := if_pos gy
  have bs0 := cross_bd b c p ob oc op; have bs1 := cross_bd c a p oc oa op; have bs2 := cross_bd a b p oa ob op
  have gs : wt a b c p 0 + wt a b c p 1 + wt a b c p 2 = area a b c := by rw [gw0, gw1, gw2, area_ok a b c oa ob oc]; exact cs3_sum a b c p
  have u := area_bd a b c
  have i1 : IntKind.i64.wrap (wt a b c p 0 + wt a b c p 1) = wt a b c p 0 + wt a b c p 1 := IntWalk.i64_in _ (by rw [gw0, gw1]; show _ ≤ cross b c p + cross c a p ∧ cross b c p + cross c a p ≤ _; omega)
  have i2 : IntKind.i64.wrap (wt a b c p 0 + wt a b c p 1 + wt a b c p 2) = area a b c := by rw [gs]; exact IntWalk.i64_in _ (by omega)
  clear bs0 bs1 bs2 u gs gy gw0 gw1 gw2
  go_enter Try.func6, Try.ntmps6
  go_wp2_with fail
  obtain ⟨w0, hw0⟩ : ∃ x : World, x = ((w.alloc (.cells #[.int .i64 a.x, .int .i64 a.y, .int .i64 b.x, .int .i64 b.y, .int .i64 c.x, .int .i64 c.y] 24)).alloc (.cells #[.int .i64 p.x, .int .i64 p.y] 23)) := ⟨_, rfl⟩
  have k0 : w0.cell? ⟨w.heap.size, 0, none⟩ = some (.int .i64 a.x) := by rw [hw0]; repeat (first | exact cell_new (by simp) rfl | refine cell_old ?_)
  have k1 : w0.cell? ⟨w.heap.size, 1, none⟩ = some (.int .i64 a.y) := by rw [hw0]; repeat (first | exact cell_new (by simp) rfl | refine cell_old ?_)
  have k2 : w0.cell? ⟨w.heap.size, 2, none⟩ = some (.int .i64 b.x) := by rw [hw0]; repeat (first | exact cell_new (by simp) rfl | refine cell_old ?_)
  have k3 : w0.cell? ⟨w.heap.size, 3, none⟩ = some (.int .i64 b.y) := by rw [hw0]; repeat (first | exact cell_new (by simp) rfl | refine cell_old ?_)
  have k4 : w0.cell? ⟨w.heap.size, 4, none⟩ = some (.int .i64 c.x) := by rw [hw0]; repeat (first | exact cell_new (by simp) rfl | refine cell_old ?_)
  have k5 : w0.cell? ⟨w.heap.size, 5, none⟩ = some (.int .i64 c.y) := by rw [hw0]; repeat (first | exact cell_new (by simp) rfl | refine cell_old ?_)
  have k6 : w0.cell? ⟨w.heap.size + 1, 0, none⟩ = some (.int .i64 p.x) := by rw [hw0]; repeat (first | exact cell_new (by simp) rfl | refine cell_old ?_)
  have k7 : w0.cell? ⟨w.heap.size + 1, 1, none⟩ = some (.int .i64 p.y) := by rw [hw0]; repeat (first | exact cell_new (by simp) rfl | refine cell_old ?_)
  have z0 : w.heap.size < w0.heap.size := World.block_lt_of_cell? _ _ k0
  have z1 : w.heap.size + 1 < w0.heap.size := World.block_lt_of_cell? _ _ k6
  have hB : Below w.heap.size w w0 := by rw [hw0]; repeat (with_reducible first | exact bel_refl _ | apply bel_alloc)
  rw [← hw0]
  clear hw0
  refine (weights_any a b c p _).mono ?_
  rintro e w1 ⟨rfl, hb1⟩
  replace hB := bel_call hb1 (by repeat (with_reducible first | exact hB | apply bel_alloc | apply bel_drew))
  replace k0 := cell_later (bel_call hb1 (by repeat (with_reducible first | exact bel_refl _ | apply bel_alloc | apply bel_drew))) k0
  replace k1 := cell_later (bel_call hb1 (by repeat (with_reducible first | exact bel_refl _ | apply bel_alloc | apply bel_drew))) k1
  replace k2 := cell_later (bel_call hb1 (by repeat (with_reducible first | exact bel_refl _ | apply bel_alloc | apply bel_drew))) k2
  replace k3 := cell_later (bel_call hb1 (by repeat (with_reducible first | exact bel_refl _ | apply bel_alloc | apply bel_drew))) k3
  replace k4 := cell_later (bel_call hb1 (by repeat (with_reducible first | exact bel_refl _ | apply bel_alloc | apply bel_drew))) k4
  replace k5 := cell_later (bel_call hb1 (by repeat (with_reducible first | exact bel_refl _ | apply bel_alloc | apply bel_drew))) k5
  replace k6 := cell_later (bel_call hb1 (by repeat (with_reducible first | exact bel_refl _ | apply bel_alloc | apply bel_drew))) k6
  replace k7 := cell_later (bel_call hb1 (by repeat (with_reducible first | exact bel_refl _ | apply bel_alloc | apply bel_drew))) k7
  replace z0 := World.block_lt_of_cell? _ _ k0
  replace z1 := World.block_lt_of_cell? _ _ k6
  simp only [] at z0 z1
  clear hb1
  go_wp2_with fail
  obtain ⟨w2, hw0⟩ : ∃ x : World, x = (w1.alloc (.cells #[.int .i64 (wt a b c p 0), .int .i64 (wt a b c p 1), .int .i64 (wt a b c p 2)] 32)) := ⟨_, rfl⟩
  replace k0 : w2.cell? ⟨w.heap.size, 0, none⟩ = some (.int .i64 a.x) := by rw [hw0]; exact cell_later (by repeat (with_reducible first | exact bel_refl _ | apply bel_alloc | apply bel_drew)) k0
  replace k1 : w2.cell? ⟨w.heap.size, 1, none⟩ = some (.int .i64 a.y) := by rw [hw0]; exact cell_later (by repeat (with_reducible first | exact bel_refl _ | apply bel_alloc | apply bel_drew)) k1
  replace k2 : w2.cell? ⟨w.heap.size, 2, none⟩ = some (.int .i64 b.x) := by rw [hw0]; exact cell_later (by repeat (with_reducible first | exact bel_refl _ | apply bel_alloc | apply bel_drew)) k2
  replace k3 : w2.cell? ⟨w.heap.size, 3, none⟩ = some (.int .i64 b.y) := by rw [hw0]; exact cell_later (by repeat (with_reducible first | exact bel_refl _ | apply bel_alloc | apply bel_drew)) k3
  replace k4 : w2.cell? ⟨w.heap.size, 4, none⟩ = some (.int .i64 c.x) := by rw [hw0]; exact cell_later (by repeat (with_reducible first | exact bel_refl _ | apply bel_alloc | apply bel_drew)) k4
  replace k5 : w2.cell? ⟨w.heap.size, 5, none⟩ = some (.int .i64 c.y) := by rw [hw0]; exact cell_later (by repeat (with_reducible first | exact bel_refl _ | apply bel_alloc | apply bel_drew)) k5
  replace k6 : w2.cell? ⟨w.heap.size + 1, 0, none⟩ = some (.int .i64 p.x) := by rw [hw0]; exact cell_later (by repeat (with_reducible first | exact bel_refl _ | apply bel_alloc | apply bel_drew)) k6
  replace k7 : w2.cell? ⟨w.heap.size + 1, 1, none⟩ = some (.int .i64 p.y) := by rw [hw0]; exact cell_later (by repeat (with_reducible first | exact bel_refl _ | apply bel_alloc | apply bel_drew)) k7
  have k8 : w2.cell? ⟨w1.heap.size, 0, none⟩ = some (.int .i64 (wt a b c p 0)) := by rw [hw0]; repeat (first | exact cell_new (by simp) rfl | refine cell_old ?_)
  have k9 : w2.cell? ⟨w1.heap.size, 1, none⟩ = some (.int .i64 (wt a b c p 1)) := by rw [hw0]; repeat (first | exact cell_new (by simp) rfl | refine cell_old ?_)
  have k10 : w2.cell? ⟨w1.heap.size, 2, none⟩ = some (.int .i64 (wt a b c p 2)) := by rw [hw0]; repeat (first | exact cell_new (by simp) rfl | refine cell_old ?_)
  have z0 : w.heap.size < w2.heap.size := World.block_lt_of_cell? _ _ k0
  have z1 : w.heap.size + 1 < w2.heap.size := World.block_lt_of_cell? _ _ k6
  have z2 : w1.heap.size < w2.heap.size := World.block_lt_of_cell? _ _ k8
  replace hB : Below w.heap.size w w2 := by rw [hw0]; repeat (with_reducible first | exact hB | apply bel_alloc)
  rw [← hw0]
  clear hw0
  refine (area_any _ _ _ _).mono ?_
  rintro e w3 ⟨rfl, hb1⟩
  replace hB := bel_call hb1 (by repeat (with_reducible first | exact hB | apply bel_alloc | apply bel_drew))
  replace k0 := cell_later (bel_call hb1 (by repeat (with_reducible first | exact bel_refl _ | apply bel_alloc | apply bel_drew))) k0
  replace k1 := cell_later (bel_call hb1 (by repeat (with_reducible first | exact bel_refl _ | apply bel_alloc | apply bel_drew))) k1
  replace k2 := cell_later (bel_call hb1 (by repeat (with_reducible first | exact bel_refl _ | apply bel_alloc | apply bel_drew))) k2
  replace k3 := cell_later (bel_call hb1 (by repeat (with_reducible first | exact bel_refl _ | apply bel_alloc | apply bel_drew))) k3
  replace k4 := cell_later (bel_call hb1 (by repeat (with_reducible first | exact bel_refl _ | apply bel_alloc | apply bel_drew))) k4
  replace k5 := cell_later (bel_call hb1 (by repeat (with_reducible first | exact bel_refl _ | apply bel_alloc | apply bel_drew))) k5
  replace k6 := cell_later (bel_call hb1 (by repeat (with_reducible first | exact bel_refl _ | apply bel_alloc | apply bel_drew))) k6
  replace k7 := cell_later (bel_call hb1 (by repeat (with_reducible first | exact bel_refl _ | apply bel_alloc | apply bel_drew))) k7
  replace k8 := cell_later (bel_call hb1 (by repeat (with_reducible first | exact bel_refl _ | apply bel_alloc | apply bel_drew))) k8
  replace k9 := cell_later (bel_call hb1 (by repeat (with_reducible first | exact bel_refl _ | apply bel_alloc | apply bel_drew))) k9
  replace k10 := cell_later (bel_call hb1 (by repeat (with_reducible first | exact bel_refl _ | apply bel_alloc | apply bel_drew))) k10
  replace z0 := World.block_lt_of_cell? _ _ k0
  replace z1 := World.block_lt_of_cell? _ _ k6
  replace z2 := World.block_lt_of_cell? _ _ k8
  simp only [] at z0 z1 z2
  clear hb1
  go_wp2_with fail
  refine (claim_any _ _ _ _ _).mono ?_
  rintro e w4 ⟨rfl, hb1⟩
  replace hB := bel_call hb1 (by repeat (with_reducible first | exact hB | apply bel_alloc | apply bel_drew))
  replace k0 := cell_later (bel_call hb1 (by repeat (with_reducible first | exact bel_refl _ | apply bel_alloc | apply bel_drew))) k0
  replace k1 := cell_later (bel_call hb1 (by repeat (with_reducible first | exact bel_refl _ | apply bel_alloc | apply bel_drew))) k1
  replace k2 := cell_later (bel_call hb1 (by repeat (with_reducible first | exact bel_refl _ | apply bel_alloc | apply bel_drew))) k2
  replace k3 := cell_later (bel_call hb1 (by repeat (with_reducible first | exact bel_refl _ | apply bel_alloc | apply bel_drew))) k3
  replace k4 := cell_later (bel_call hb1 (by repeat (with_reducible first | exact bel_refl _ | apply bel_alloc | apply bel_drew))) k4
  replace k5 := cell_later (bel_call hb1 (by repeat (with_reducible first | exact bel_refl _ | apply bel_alloc | apply bel_drew))) k5
  replace k6 := cell_later (bel_call hb1 (by repeat (with_reducible first | exact bel_refl _ | apply bel_alloc | apply bel_drew))) k6
  replace k7 := cell_later (bel_call hb1 (by repeat (with_reducible first | exact bel_refl _ | apply bel_alloc | apply bel_drew))) k7
  replace k8 := cell_later (bel_call hb1 (by repeat (with_reducible first | exact bel_refl _ | apply bel_alloc | apply bel_drew))) k8
  replace k9 := cell_later (bel_call hb1 (by repeat (with_reducible first | exact bel_refl _ | apply bel_alloc | apply bel_drew))) k9
  replace k10 := cell_later (bel_call hb1 (by repeat (with_reducible first | exact bel_refl _ | apply bel_alloc | apply bel_drew))) k10
  replace z0 := World.block_lt_of_cell? _ _ k0
  replace z1 := World.block_lt_of_cell? _ _ k6
  replace z2 := World.block_lt_of_cell? _ _ k8
  simp only [] at z0 z1 z2
  clear hb1
  rw [g0]
  go_wp2_with (first
    | (go_at_call 11; refine (may11_any ⟨_, _⟩ _).mono ?_; rintro e w5 ⟨rfl, hb1⟩; replace hB := bel_call hb1 (by repeat (with_reducible first | exact hB | apply bel_alloc | apply bel_drew)); replace k0 := cell_later (bel_call hb1 (by repeat (with_reducible first | exact bel_refl _ | apply bel_alloc | apply bel_drew))) k0; replace k1 := cell_later (bel_call hb1 (by repeat (with_reducible first | exact bel_refl _ | apply bel_alloc | apply bel_drew))) k1; replace k2 := cell_later (bel_call hb1 (by repeat (with_reducible first | exact bel_refl _ | apply bel_alloc | apply bel_drew))) k2; replace k3 := cell_later (bel_call hb1 (by repeat (with_reducible first | exact bel_refl _ | apply bel_alloc | apply bel_drew))) k3; replace k4 := cell_later (bel_call hb1 (by repeat (with_reducible first | exact bel_refl _ | apply bel_alloc | apply bel_drew))) k4; replace k5 := cell_later (bel_call hb1 (by repeat (with_reducible first | exact bel_refl _ | apply bel_alloc | apply bel_drew))) k5; replace k6 := cell_later (bel_call hb1 (by repeat (with_reducible first | exact bel_refl _ | apply bel_alloc | apply bel_drew))) k6; replace k7 := cell_later (bel_call hb1 (by repeat (with_reducible first | exact bel_refl _ | apply bel_alloc | apply bel_drew))) k7; replace k8 := cell_later (bel_call hb1 (by repeat (with_reducible first | exact bel_refl _ | apply bel_alloc | apply bel_drew))) k8; replace k9 := cell_later (bel_call hb1 (by repeat (with_reducible first | exact bel_refl _ | apply bel_alloc | apply bel_drew))) k9; replace k10 := cell_later (bel_call hb1 (by repeat (with_reducible first | exact bel_refl _ | apply bel_alloc | apply bel_drew))) k10; replace z0 := World.block_lt_of_cell? _ _ k0; replace z1 := World.block_lt_of_cell? _ _ k6; replace z2 := World.block_lt_of_cell? _ _ k8; simp only [] at z0 z1 z2; clear hb1))
  go_loopw [8] (fun i wr => ∃ k : Nat, k ≤ 3 ∧ i = .int .i64 k ∧ wr = w5) (fun i _ => 3 - (intOf i).toNat)
  case atStart => exact ⟨0, by omega, rfl, rfl⟩
  case round =>
    obtain ⟨k, hk, rfl, rfl⟩ := hrel
    by_cases hlt : k < 3
    · have hk3 : k = 0 ∨ k = 1 ∨ k = 2 := by omega
      rcases hk3 with rfl | rfl | rfl
      · go_wp2
        go_roundw
        case rel => exact ⟨0 + 1, by omega, by go_num, by first | rfl | trivial⟩
        case measure => simp [intOf]
      · go_wp2
        go_roundw
        case rel => exact ⟨1 + 1, by omega, by go_num, by first | rfl | trivial⟩
        case measure => simp [intOf]
      · go_wp2
        go_roundw
        case rel => exact ⟨2 + 1, by omega, by go_num, by first | rfl | trivial⟩
        case measure => simp [intOf]
    · obtain rfl : k = 3 := by omega
      go_wp2_with (go_at_call 10; refine (lives_any _).mono ?_; rintro e w1 ⟨rfl, hb1⟩; replace hB := bel_call hb1 (by repeat (with_reducible first | exact hB | apply bel_alloc | apply bel_drew)); replace k0 := cell_later (bel_call hb1 (by repeat (with_reducible first | exact bel_refl _ | apply bel_alloc | apply bel_drew))) k0; replace k1 := cell_later (bel_call hb1 (by repeat (with_reducible first | exact bel_refl _ | apply bel_alloc | apply bel_drew))) k1; replace k2 := cell_later (bel_call hb1 (by repeat (with_reducible first | exact bel_refl _ | apply bel_alloc | apply bel_drew))) k2; replace k3 := cell_later (bel_call hb1 (by repeat (with_reducible first | exact bel_refl _ | apply bel_alloc | apply bel_drew))) k3; replace k4 := cell_later (bel_call hb1 (by repeat (with_reducible first | exact bel_refl _ | apply bel_alloc | apply bel_drew))) k4; replace k5 := cell_later (bel_call hb1 (by repeat (with_reducible first | exact bel_refl _ | apply bel_alloc | apply bel_drew))) k5; replace k6 := cell_later (bel_call hb1 (by repeat (with_reducible first | exact bel_refl _ | apply bel_alloc | apply bel_drew))) k6; replace k7 := cell_later (bel_call hb1 (by repeat (with_reducible first | exact bel_refl _ | apply bel_alloc | apply bel_drew))) k7; replace k8 := cell_later (bel_call hb1 (by repeat (with_reducible first | exact bel_refl _ | apply bel_alloc | apply bel_drew))) k8; replace k9 := cell_later (bel_call hb1 (by repeat (with_reducible first | exact bel_refl _ | apply bel_alloc | apply bel_drew))) k9; replace k10 := cell_later (bel_call hb1 (by repeat (with_reducible first | exact bel_refl _ | apply bel_alloc | apply bel_drew))) k10; replace z0 := World.block_lt_of_cell? _ _ k0; replace z1 := World.block_lt_of_cell? _ _ k6; replace z2 := World.block_lt_of_cell? _ _ k8; simp only [] at z0 z1 z2; clear hb1)
      go_ret
      exact ⟨rfl, by simp [*]⟩

theorem claim3 (a b c p : D) : claim a b c p = 1 ∨ claim a b c p = -1 ∨ claim a b c p = 0 := by
  have := claim_bd a b c p; omega
theorem sum_any (a b c p : D) (w : World) :
    Calls Try.prog 6 #[.agg #[.int .i64 a.x, .int .i64 a.y, .int .i64 b.x, .int .i64 b.y, .int .i64 c.x, .int .i64 c.y], .agg #[.int .i64 p.x, .int .i64 p.y]] w fun e w' => e = .returned (.bool true) ∧ Below w.heap.size w w' := by
  by_cases op : ok p
  · by_cases oa : ok a
    · by_cases ob : ok b
      · by_cases oc : ok c
        · rcases claim3 a b c p with h | h | h
          · exact sum_one a b c p op oa ob oc h w
          · exact sum_less a b c p op oa ob oc h w
          · exact sum_none a b c p op oa ob oc h w
        · exact sum_bad3 a b c p op oa ob oc w
      · exact sum_bad2 a b c p op oa ob w
    · exact sum_bad1 a b c p op oa w
  · exact sum_bad0 a b c p op w
end Go.Proofs.Ytoighnoliehafaa
