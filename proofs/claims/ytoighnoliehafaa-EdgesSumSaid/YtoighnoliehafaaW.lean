/- What is proved: what edges.Weights returns of whatever triangle and place. -/
import Derived.Test.YtoighnoliehafaaFour
import Derived.Test.YtoighnoliehafaaV
namespace Go.Proofs.Ytoighnoliehafaa
open Go.RowKit Ed

def okAt (a b c p : D) : Prop := (ok a ∧ ok b ∧ ok c) ∧ ok p
instance (a b c p : D) : Decidable (okAt a b c p) := by unfold okAt; infer_instance
def cs3 (a b c p : D) (j : Nat) : Int := if j = 0 then cross b c p else if j = 1 then cross c a p else cross a b p
def wt (a b c p : D) (j : Nat) : Int := if okAt a b c p then cs3 a b c p j else 0

theorem weights_no (a b c p : D) (h : ¬ okAt a b c p) (w : World) :
    Calls Try.prog 14 #[.agg #[.int .i64 a.x, .int .i64 a.y, .int .i64 b.x, .int .i64 b.y, .int .i64 c.x, .int .i64 c.y], .agg #[.int .i64 p.x, .int .i64 p.y]] w fun e w' => e = .returned (.agg #[.int .i64 0, .int .i64 0, .int .i64 0]) ∧ Below w.heap.size w w' := by
  by_cases h1 : ok a ∧ ok b ∧ ok c
  · have e1 : okAll (tri a b c) 3 = true := by rw [okAll_tri]; exact decide_eq_true h1
    have e2 : okAll (fun _ => p) 1 = false := by rw [okAll_one]; exact decide_eq_false (fun hp => h ⟨h1, hp⟩)
    clear h h1
    go_enter Try.func14, Try.ntmps14
    go_wp2_with fail
    obtain ⟨w0, hw0⟩ : ∃ x : World, x = (((w.alloc (.cells #[.int .i64 a.x, .int .i64 a.y, .int .i64 b.x, .int .i64 b.y, .int .i64 c.x, .int .i64 c.y] 24)).alloc (.cells #[.int .i64 p.x, .int .i64 p.y] 23)).alloc (.cells #[.int .i64 0, .int .i64 0, .int .i64 0] 32)) := ⟨_, rfl⟩
    have k0 : w0.cell? ⟨w.heap.size, 0, none⟩ = some (.int .i64 a.x) := by rw [hw0]; repeat (first | exact cell_new (by simp) rfl | refine cell_old ?_)
    have k1 : w0.cell? ⟨w.heap.size, 1, none⟩ = some (.int .i64 a.y) := by rw [hw0]; repeat (first | exact cell_new (by simp) rfl | refine cell_old ?_)
    have k2 : w0.cell? ⟨w.heap.size, 2, none⟩ = some (.int .i64 b.x) := by rw [hw0]; repeat (first | exact cell_new (by simp) rfl | refine cell_old ?_)
    have k3 : w0.cell? ⟨w.heap.size, 3, none⟩ = some (.int .i64 b.y) := by rw [hw0]; repeat (first | exact cell_new (by simp) rfl | refine cell_old ?_)
    have k4 : w0.cell? ⟨w.heap.size, 4, none⟩ = some (.int .i64 c.x) := by rw [hw0]; repeat (first | exact cell_new (by simp) rfl | refine cell_old ?_)
    have k5 : w0.cell? ⟨w.heap.size, 5, none⟩ = some (.int .i64 c.y) := by rw [hw0]; repeat (first | exact cell_new (by simp) rfl | refine cell_old ?_)
    have k6 : w0.cell? ⟨w.heap.size + 1, 0, none⟩ = some (.int .i64 p.x) := by rw [hw0]; repeat (first | exact cell_new (by simp) rfl | refine cell_old ?_)
    have k7 : w0.cell? ⟨w.heap.size + 1, 1, none⟩ = some (.int .i64 p.y) := by rw [hw0]; repeat (first | exact cell_new (by simp) rfl | refine cell_old ?_)
    have k8 : w0.cell? ⟨w.heap.size + 1 + 1, 0, none⟩ = some (.int .i64 0) := by rw [hw0]; repeat (first | exact cell_new (by simp) rfl | refine cell_old ?_)
    have k9 : w0.cell? ⟨w.heap.size + 1 + 1, 1, none⟩ = some (.int .i64 0) := by rw [hw0]; repeat (first | exact cell_new (by simp) rfl | refine cell_old ?_)
    have k10 : w0.cell? ⟨w.heap.size + 1 + 1, 2, none⟩ = some (.int .i64 0) := by rw [hw0]; repeat (first | exact cell_new (by simp) rfl | refine cell_old ?_)
    have z0 : w.heap.size < w0.heap.size := World.block_lt_of_cell? _ _ k0
    have z1 : w.heap.size + 1 < w0.heap.size := World.block_lt_of_cell? _ _ k6
    have z2 : w.heap.size + 1 + 1 < w0.heap.size := World.block_lt_of_cell? _ _ k8
    have hB : Below w.heap.size w w0 := by rw [hw0]; repeat (with_reducible first | exact bel_refl _ | apply bel_alloc)
    have f0 : w0.frozen? ⟨w.heap.size + 1 + 1, 0, none⟩ = false := by rw [hw0]; exact frz_new (by simp)
    have f1 : w0.frozen? ⟨w.heap.size + 1 + 1, 1, none⟩ = false := by rw [hw0]; exact frz_new (by simp)
    have f2 : w0.frozen? ⟨w.heap.size + 1 + 1, 2, none⟩ = false := by rw [hw0]; exact frz_new (by simp)
    rw [← hw0]
    clear hw0
    refine (may_tri a b c _ _ k0 k1 k2 k3 k4 k5).mono ?_
    rintro e w1 ⟨rfl, hb1⟩
    replace f0 := frz_later (bel_call hb1 (by repeat (with_reducible first | exact bel_refl _ | apply bel_alloc | apply bel_drew))) k8 f0
    replace f1 := frz_later (bel_call hb1 (by repeat (with_reducible first | exact bel_refl _ | apply bel_alloc | apply bel_drew))) k9 f1
    replace f2 := frz_later (bel_call hb1 (by repeat (with_reducible first | exact bel_refl _ | apply bel_alloc | apply bel_drew))) k10 f2
    replace hB := bel_call hb1 (by repeat (with_reducible first | exact hB | apply bel_alloc | apply bel_drew))
    replace k0 := cell_later (bel_call hb1 (by repeat (with_reducible first | exact bel_refl _ | apply bel_alloc | apply bel_drew))) k0
    replace k1 := cell_later (bel_call hb1 (by repeat (with_reducible first | exact bel_refl _ | apply bel_alloc | apply bel_drew))) k1
    replace k2 := cell_later (bel_call hb1 (by repeat (with_reducible first | exact bel_refl _ | apply bel_alloc | apply bel_drew))) k2
    replace k3 := cell_later (bel_call hb1 (by repeat (with_reducible first | exact bel_refl _ | apply bel_alloc | apply bel_drew))) k3
    replace k4 := cell_later (bel_call hb1 (by repeat (with_reducible first | exact bel_refl _ | apply bel_alloc | apply bel_drew))) k4
    replace k5 := cell_later (bel_call hb1 (by repeat (with_reducible first | exact bel_refl _ | apply bel_alloc | apply bel_drew))) k5
    replace k6 := cell_later (bel_call hb1 (by repeat (with_reducible first | exact bel_refl _ | apply bel_alloc | apply bel_drew))) k6
    replace k7 := cell_later (bel_call hb1 (by repeat (with_reducible first | exact bel_refl _ | apply bel_alloc | apply bel_drew))) k7
    replace k8 := cell_later (bel_call hb1 (by repeat (with_reducible first | exact bel_refl _ | apply bel_alloc | apply bel_drew))) k8
    replace k9 := cell_later (bel_call hb1 (by repeat (with_reducible first | exact bel_refl _ | apply bel_alloc | apply bel_drew))) k9
    replace k10 := cell_later (bel_call hb1 (by repeat (with_reducible first | exact bel_refl _ | apply bel_alloc | apply bel_drew))) k10
    replace z0 := World.block_lt_of_cell? _ _ k0
    replace z1 := World.block_lt_of_cell? _ _ k6
    replace z2 := World.block_lt_of_cell? _ _ k8
    simp only [] at z0 z1 z2
    clear hb1
    rw [e1]
    go_wp2_with fail
    refine (may_one p _ _ (by simp [go_sem]) (by simp [go_sem])).mono ?_
    rintro e w2 ⟨rfl, hb1⟩
    replace f0 := frz_later (bel_call hb1 (by repeat (with_reducible first | exact bel_refl _ | apply bel_alloc | apply bel_drew))) k8 f0
    replace f1 := frz_later (bel_call hb1 (by repeat (with_reducible first | exact bel_refl _ | apply bel_alloc | apply bel_drew))) k9 f1
    replace f2 := frz_later (bel_call hb1 (by repeat (with_reducible first | exact bel_refl _ | apply bel_alloc | apply bel_drew))) k10 f2
    replace hB := bel_call hb1 (by repeat (with_reducible first | exact hB | apply bel_alloc | apply bel_drew))
    replace k0 := cell_later (bel_call hb1 (by repeat (with_reducible first | exact bel_refl _ | apply bel_alloc | apply bel_drew))) k0
    replace k1 := cell_later (bel_call hb1 (by repeat (with_reducible first | exact bel_refl _ | apply bel_alloc | apply bel_drew))) k1
    replace k2 := cell_later (bel_call hb1 (by repeat (with_reducible first | exact bel_refl _ | apply bel_alloc | apply bel_drew))) k2
    replace k3 := cell_later (bel_call hb1 (by repeat (with_reducible first | exact bel_refl _ | apply bel_alloc | apply bel_drew))) k3
    replace k4 := cell_later (bel_call hb1 (by repeat (with_reducible first | exact bel_refl _ | apply bel_alloc | apply bel_drew))) k4
    replace k5 := cell_later (bel_call hb1 (by repeat (with_reducible first | exact bel_refl _ | apply bel_alloc | apply bel_drew))) k5
    replace k6 := cell_later (bel_call hb1 (by repeat (with_reducible first | exact bel_refl _ | apply bel_alloc | apply bel_drew))) k6
    replace k7 := cell_later (bel_call hb1 (by repeat (with_reducible first | exact bel_refl _ | apply bel_alloc | apply bel_drew))) k7
    replace k8 := cell_later (bel_call hb1 (by repeat (with_reducible first | exact bel_refl _ | apply bel_alloc | apply bel_drew))) k8
    replace k9 := cell_later (bel_call hb1 (by repeat (with_reducible first | exact bel_refl _ | apply bel_alloc | apply bel_drew))) k9
    replace k10 := cell_later (bel_call hb1 (by repeat (with_reducible first | exact bel_refl _ | apply bel_alloc | apply bel_drew))) k10
    replace z0 := World.block_lt_of_cell? _ _ k0
    replace z1 := World.block_lt_of_cell? _ _ k6
    replace z2 := World.block_lt_of_cell? _ _ k8
    simp only [] at z0 z1 z2
    clear hb1
    rw [e2]
    go_wp2
    exact bodyPost_ret (v := .agg #[.int .i64 0, .int .i64 0, .int .i64 0]) (by simp [results, Try.results14, go_sem, *]) rfl ⟨rfl, by repeat (with_reducible first | exact hB | refine bel_set _ (by omega) ?_)⟩
  · have e1 : okAll (tri a b c) 3 = false := by rw [okAll_tri]; exact decide_eq_false h1
    clear h h1
    go_enter Try.func14, Try.ntmps14
    go_wp2_with fail
    obtain ⟨w0, hw0⟩ : ∃ x : World, x = (((w.alloc (.cells #[.int .i64 a.x, .int .i64 a.y, .int .i64 b.x, .int .i64 b.y, .int .i64 c.x, .int .i64 c.y] 24)).alloc (.cells #[.int .i64 p.x, .int .i64 p.y] 23)).alloc (.cells #[.int .i64 0, .int .i64 0, .int .i64 0] 32)) := ⟨_, rfl⟩
    have k0 : w0.cell? ⟨w.heap.size, 0, none⟩ = some (.int .i64 a.x) := by rw [hw0]; repeat (first | exact cell_new (by simp) rfl | refine cell_old ?_)
    have k1 : w0.cell? ⟨w.heap.size, 1, none⟩ = some (.int .i64 a.y) := by rw [hw0]; repeat (first | exact cell_new (by simp) rfl | refine cell_old ?_)
    have k2 : w0.cell? ⟨w.heap.size, 2, none⟩ = some (.int .i64 b.x) := by rw [hw0]; repeat (first | exact cell_new (by simp) rfl | refine cell_old ?_)
    have k3 : w0.cell? ⟨w.heap.size, 3, none⟩ = some (.int .i64 b.y) := by rw [hw0]; repeat (first | exact cell_new (by simp) rfl | refine cell_old ?_)
    have k4 : w0.cell? ⟨w.heap.size, 4, none⟩ = some (.int .i64 c.x) := by rw [hw0]; repeat (first | exact cell_new (by simp) rfl | refine cell_old ?_)
    have k5 : w0.cell? ⟨w.heap.size, 5, none⟩ = some (.int .i64 c.y) := by rw [hw0]; repeat (first | exact cell_new (by simp) rfl | refine cell_old ?_)
    have k6 : w0.cell? ⟨w.heap.size + 1, 0, none⟩ = some (.int .i64 p.x) := by rw [hw0]; repeat (first | exact cell_new (by simp) rfl | refine cell_old ?_)
    have k7 : w0.cell? ⟨w.heap.size + 1, 1, none⟩ = some (.int .i64 p.y) := by rw [hw0]; repeat (first | exact cell_new (by simp) rfl | refine cell_old ?_)
    have k8 : w0.cell? ⟨w.heap.size + 1 + 1, 0, none⟩ = some (.int .i64 0) := by rw [hw0]; repeat (first | exact cell_new (by simp) rfl | refine cell_old ?_)
    have k9 : w0.cell? ⟨w.heap.size + 1 + 1, 1, none⟩ = some (.int .i64 0) := by rw [hw0]; repeat (first | exact cell_new (by simp) rfl | refine cell_old ?_)
    have k10 : w0.cell? ⟨w.heap.size + 1 + 1, 2, none⟩ = some (.int .i64 0) := by rw [hw0]; repeat (first | exact cell_new (by simp) rfl | refine cell_old ?_)
    have z0 : w.heap.size < w0.heap.size := World.block_lt_of_cell? _ _ k0
    have z1 : w.heap.size + 1 < w0.heap.size := World.block_lt_of_cell? _ _ k6
    have z2 : w.heap.size + 1 + 1 < w0.heap.size := World.block_lt_of_cell? _ _ k8
    have hB : Below w.heap.size w w0 := by rw [hw0]; repeat (with_reducible first | exact bel_refl _ | apply bel_alloc)
    have f0 : w0.frozen? ⟨w.heap.size + 1 + 1, 0, none⟩ = false := by rw [hw0]; exact frz_new (by simp)
    have f1 : w0.frozen? ⟨w.heap.size + 1 + 1, 1, none⟩ = false := by rw [hw0]; exact frz_new (by simp)
    have f2 : w0.frozen? ⟨w.heap.size + 1 + 1, 2, none⟩ = false := by rw [hw0]; exact frz_new (by simp)
    rw [← hw0]
    clear hw0
    refine (may_tri a b c _ _ k0 k1 k2 k3 k4 k5).mono ?_
    rintro e w1 ⟨rfl, hb1⟩
    replace f0 := frz_later (bel_call hb1 (by repeat (with_reducible first | exact bel_refl _ | apply bel_alloc | apply bel_drew))) k8 f0
    replace f1 := frz_later (bel_call hb1 (by repeat (with_reducible first | exact bel_refl _ | apply bel_alloc | apply bel_drew))) k9 f1
    replace f2 := frz_later (bel_call hb1 (by repeat (with_reducible first | exact bel_refl _ | apply bel_alloc | apply bel_drew))) k10 f2
    replace hB := bel_call hb1 (by repeat (with_reducible first | exact hB | apply bel_alloc | apply bel_drew))
    replace k0 := cell_later (bel_call hb1 (by repeat (with_reducible first | exact bel_refl _ | apply bel_alloc | apply bel_drew))) k0
    replace k1 := cell_later (bel_call hb1 (by repeat (with_reducible first | exact bel_refl _ | apply bel_alloc | apply bel_drew))) k1
    replace k2 := cell_later (bel_call hb1 (by repeat (with_reducible first | exact bel_refl _ | apply bel_alloc | apply bel_drew))) k2
    replace k3 := cell_later (bel_call hb1 (by repeat (with_reducible first | exact bel_refl _ | apply bel_alloc | apply bel_drew))) k3
    replace k4 := cell_later (bel_call hb1 (by repeat (with_reducible first | exact bel_refl _ | apply bel_alloc | apply bel_drew))) k4
    replace k5 := cell_later (bel_call hb1 (by repeat (with_reducible first | exact bel_refl _ | apply bel_alloc | apply bel_drew))) k5
    replace k6 := cell_later (bel_call hb1 (by repeat (with_reducible first | exact bel_refl _ | apply bel_alloc | apply bel_drew))) k6
    replace k7 := cell_later (bel_call hb1 (by repeat (with_reducible first | exact bel_refl _ | apply bel_alloc | apply bel_drew))) k7
    replace k8 := cell_later (bel_call hb1 (by repeat (with_reducible first | exact bel_refl _ | apply bel_alloc | apply bel_drew))) k8
    replace k9 := cell_later (bel_call hb1 (by repeat (with_reducible first | exact bel_refl _ | apply bel_alloc | apply bel_drew))) k9
    replace k10 := cell_later (bel_call hb1 (by repeat (with_reducible first | exact bel_refl _ | apply bel_alloc | apply bel_drew))) k10
    replace z0 := World.block_lt_of_cell? _ _ k0
    replace z1 := World.block_lt_of_cell? _ _ k6
    replace z2 := World.block_lt_of_cell? _ _ k8
    simp only [] at z0 z1 z2
    clear hb1
    rw [e1]
    go_wp2
    exact bodyPost_ret (v := .agg #[.int .i64 0, .int .i64 0, .int .i64 0]) (by simp [results, Try.results14, go_sem, *]) rfl ⟨rfl, by repeat (with_reducible first | exact hB | refine bel_set _ (by omega) ?_)⟩

set_option maxHeartbeats 1600000 in
theorem weights_yes (a b c p : D) (oa : ok a) (ob : ok b) (oc : ok c) (op : ok p) (w : World) :
    Calls Try.prog 14 #[.agg #[.int .i64 a.x, .int .i64 a.y, .int .i64 b.x, .int .i64 b.y, .int .i64 c.x, .int .i64 c.y], .agg #[.int .i64 p.x, .int .i64 p.y]] w fun e w' => e = .returned (.agg #[.int .i64 (cs3 a b c p 0), .int .i64 (cs3 a b c p 1), .int .i64 (cs3 a b c p 2)]) ∧ Below w.heap.size w w' := by
    have e1 : okAll (tri a b c) 3 = true := by rw [okAll_tri]; exact decide_eq_true ⟨oa, ob, oc⟩
    have e2 : okAll (fun _ => p) 1 = true := by rw [okAll_one]; exact decide_eq_true op
    have ix0 : ∀ w, (Instr.index 43 (.agg #[.int .i64 b.x, .int .i64 b.y, .int .i64 (c.x - b.x), .int .i64 (c.y - b.y), .int .i64 c.x, .int .i64 c.y, .int .i64 (a.x - c.x), .int .i64 (a.y - c.y), .int .i64 a.x, .int .i64 a.y, .int .i64 (b.x - a.x), .int .i64 (b.y - a.y)]) (.int .i64 0)).run Try.prog w = .ok (.agg #[.int .i64 b.x, .int .i64 b.y, .int .i64 (c.x - b.x), .int .i64 (c.y - b.y)]) w := fun _ => by kernel_rfl
    have ix1 : ∀ w, (Instr.index 43 (.agg #[.int .i64 b.x, .int .i64 b.y, .int .i64 (c.x - b.x), .int .i64 (c.y - b.y), .int .i64 c.x, .int .i64 c.y, .int .i64 (a.x - c.x), .int .i64 (a.y - c.y), .int .i64 a.x, .int .i64 a.y, .int .i64 (b.x - a.x), .int .i64 (b.y - a.y)]) (.int .i64 1)).run Try.prog w = .ok (.agg #[.int .i64 c.x, .int .i64 c.y, .int .i64 (a.x - c.x), .int .i64 (a.y - c.y)]) w := fun _ => by kernel_rfl
    have ix2 : ∀ w, (Instr.index 43 (.agg #[.int .i64 b.x, .int .i64 b.y, .int .i64 (c.x - b.x), .int .i64 (c.y - b.y), .int .i64 c.x, .int .i64 c.y, .int .i64 (a.x - c.x), .int .i64 (a.y - c.y), .int .i64 a.x, .int .i64 a.y, .int .i64 (b.x - a.x), .int .i64 (b.y - a.y)]) (.int .i64 2)).run Try.prog w = .ok (.agg #[.int .i64 a.x, .int .i64 a.y, .int .i64 (b.x - a.x), .int .i64 (b.y - a.y)]) w := fun _ => by kernel_rfl
    go_enter Try.func14, Try.ntmps14
    go_wp2_with fail
    obtain ⟨w0, hw0⟩ : ∃ x : World, x = (((w.alloc (.cells #[.int .i64 a.x, .int .i64 a.y, .int .i64 b.x, .int .i64 b.y, .int .i64 c.x, .int .i64 c.y] 24)).alloc (.cells #[.int .i64 p.x, .int .i64 p.y] 23)).alloc (.cells #[.int .i64 0, .int .i64 0, .int .i64 0] 32)) := ⟨_, rfl⟩
    have k0 : w0.cell? ⟨w.heap.size, 0, none⟩ = some (.int .i64 a.x) := by rw [hw0]; repeat (first | exact cell_new (by simp) rfl | refine cell_old ?_)
    have k1 : w0.cell? ⟨w.heap.size, 1, none⟩ = some (.int .i64 a.y) := by rw [hw0]; repeat (first | exact cell_new (by simp) rfl | refine cell_old ?_)
    have k2 : w0.cell? ⟨w.heap.size, 2, none⟩ = some (.int .i64 b.x) := by rw [hw0]; repeat (first | exact cell_new (by simp) rfl | refine cell_old ?_)
    have k3 : w0.cell? ⟨w.heap.size, 3, none⟩ = some (.int .i64 b.y) := by rw [hw0]; repeat (first | exact cell_new (by simp) rfl | refine cell_old ?_)
    have k4 : w0.cell? ⟨w.heap.size, 4, none⟩ = some (.int .i64 c.x) := by rw [hw0]; repeat (first | exact cell_new (by simp) rfl | refine cell_old ?_)
    have k5 : w0.cell? ⟨w.heap.size, 5, none⟩ = some (.int .i64 c.y) := by rw [hw0]; repeat (first | exact cell_new (by simp) rfl | refine cell_old ?_)
    have k6 : w0.cell? ⟨w.heap.size + 1, 0, none⟩ = some (.int .i64 p.x) := by rw [hw0]; repeat (first | exact cell_new (by simp) rfl | refine cell_old ?_)
    have k7 : w0.cell? ⟨w.heap.size + 1, 1, none⟩ = some (.int .i64 p.y) := by rw [hw0]; repeat (first | exact cell_new (by simp) rfl | refine cell_old ?_)
    have k8 : w0.cell? ⟨w.heap.size + 1 + 1, 0, none⟩ = some (.int .i64 0) := by rw [hw0]; repeat (first | exact cell_new (by simp) rfl | refine cell_old ?_)
    have k9 : w0.cell? ⟨w.heap.size + 1 + 1, 1, none⟩ = some (.int .i64 0) := by rw [hw0]; repeat (first | exact cell_new (by simp) rfl | refine cell_old ?_)
    have k10 : w0.cell? ⟨w.heap.size + 1 + 1, 2, none⟩ = some (.int .i64 0) := by rw [hw0]; repeat (first | exact cell_new (by simp) rfl | refine cell_old ?_)
    have z0 : w.heap.size < w0.heap.size := World.block_lt_of_cell? _ _ k0
    have z1 : w.heap.size + 1 < w0.heap.size := World.block_lt_of_cell? _ _ k6
    have z2 : w.heap.size + 1 + 1 < w0.heap.size := World.block_lt_of_cell? _ _ k8
    have hB : Below w.heap.size w w0 := by rw [hw0]; repeat (with_reducible first | exact bel_refl _ | apply bel_alloc)
    have f0 : w0.frozen? ⟨w.heap.size + 1 + 1, 0, none⟩ = false := by rw [hw0]; exact frz_new (by simp)
    have f1 : w0.frozen? ⟨w.heap.size + 1 + 1, 1, none⟩ = false := by rw [hw0]; exact frz_new (by simp)
    have f2 : w0.frozen? ⟨w.heap.size + 1 + 1, 2, none⟩ = false := by rw [hw0]; exact frz_new (by simp)
    rw [← hw0]
    clear hw0
    refine (may_tri a b c _ _ k0 k1 k2 k3 k4 k5).mono ?_
    rintro e w1 ⟨rfl, hb1⟩
    replace f0 := frz_later (bel_call hb1 (by repeat (with_reducible first | exact bel_refl _ | apply bel_alloc | apply bel_drew))) k8 f0
    replace f1 := frz_later (bel_call hb1 (by repeat (with_reducible first | exact bel_refl _ | apply bel_alloc | apply bel_drew))) k9 f1
    replace f2 := frz_later (bel_call hb1 (by repeat (with_reducible first | exact bel_refl _ | apply bel_alloc | apply bel_drew))) k10 f2
    replace hB := bel_call hb1 (by repeat (with_reducible first | exact hB | apply bel_alloc | apply bel_drew))
    replace k0 := cell_later (bel_call hb1 (by repeat (with_reducible first | exact bel_refl _ | apply bel_alloc | apply bel_drew))) k0
    replace k1 := cell_later (bel_call hb1 (by repeat (with_reducible first | exact bel_refl _ | apply bel_alloc | apply bel_drew))) k1
    replace k2 := cell_later (bel_call hb1 (by repeat (with_reducible first | exact bel_refl _ | apply bel_alloc | apply bel_drew))) k2
    replace k3 := cell_later (bel_call hb1 (by repeat (with_reducible first | exact bel_refl _ | apply bel_alloc | apply bel_drew))) k3
    replace k4 := cell_later (bel_call hb1 (by repeat (with_reducible first | exact bel_refl _ | apply bel_alloc | apply bel_drew))) k4
    replace k5 := cell_later (bel_call hb1 (by repeat (with_reducible first | exact bel_refl _ | apply bel_alloc | apply bel_drew))) k5
    replace k6 := cell_later (bel_call hb1 (by repeat (with_reducible first | exact bel_refl _ | apply bel_alloc | apply bel_drew))) k6
    replace k7 := cell_later (bel_call hb1 (by repeat (with_reducible first | exact bel_refl _ | apply bel_alloc | apply bel_drew))) k7
    replace k8 := cell_later (bel_call hb1 (by repeat (with_reducible first | exact bel_refl _ | apply bel_alloc | apply bel_drew))) k8
    replace k9 := cell_later (bel_call hb1 (by repeat (with_reducible first | exact bel_refl _ | apply bel_alloc | apply bel_drew))) k9
    replace k10 := cell_later (bel_call hb1 (by repeat (with_reducible first | exact bel_refl _ | apply bel_alloc | apply bel_drew))) k10
    replace z0 := World.block_lt_of_cell? _ _ k0
    replace z1 := World.block_lt_of_cell? _ _ k6
    replace z2 := World.block_lt_of_cell? _ _ k8
    simp only [] at z0 z1 z2
    clear hb1
    rw [e1]
    go_wp2_with fail
    refine (may_one p _ _ (by simp [go_sem]) (by simp [go_sem])).mono ?_
    rintro e w2 ⟨rfl, hb1⟩
    replace f0 := frz_later (bel_call hb1 (by repeat (with_reducible first | exact bel_refl _ | apply bel_alloc | apply bel_drew))) k8 f0
    replace f1 := frz_later (bel_call hb1 (by repeat (with_reducible first | exact bel_refl _ | apply bel_alloc | apply bel_drew))) k9 f1
    replace f2 := frz_later (bel_call hb1 (by repeat (with_reducible first | exact bel_refl _ | apply bel_alloc | apply bel_drew))) k10 f2
    replace hB := bel_call hb1 (by repeat (with_reducible first | exact hB | apply bel_alloc | apply bel_drew))
    replace k0 := cell_later (bel_call hb1 (by repeat (with_reducible first | exact bel_refl _ | apply bel_alloc | apply bel_drew))) k0
    replace k1 := cell_later (bel_call hb1 (by repeat (with_reducible first | exact bel_refl _ | apply bel_alloc | apply bel_drew))) k1
    replace k2 := cell_later (bel_call hb1 (by repeat (with_reducible first | exact bel_refl _ | apply bel_alloc | apply bel_drew))) k2
    replace k3 := cell_later (bel_call hb1 (by repeat (with_reducible first | exact bel_refl _ | apply bel_alloc | apply bel_drew))) k3
    replace k4 := cell_later (bel_call hb1 (by repeat (with_reducible first | exact bel_refl _ | apply bel_alloc | apply bel_drew))) k4
    replace k5 := cell_later (bel_call hb1 (by repeat (with_reducible first | exact bel_refl _ | apply bel_alloc | apply bel_drew))) k5
    replace k6 := cell_later (bel_call hb1 (by repeat (with_reducible first | exact bel_refl _ | apply bel_alloc | apply bel_drew))) k6
    replace k7 := cell_later (bel_call hb1 (by repeat (with_reducible first | exact bel_refl _ | apply bel_alloc | apply bel_drew))) k7
    replace k8 := cell_later (bel_call hb1 (by repeat (with_reducible first | exact bel_refl _ | apply bel_alloc | apply bel_drew))) k8
    replace k9 := cell_later (bel_call hb1 (by repeat (with_reducible first | exact bel_refl _ | apply bel_alloc | apply bel_drew))) k9
    replace k10 := cell_later (bel_call hb1 (by repeat (with_reducible first | exact bel_refl _ | apply bel_alloc | apply bel_drew))) k10
    replace z0 := World.block_lt_of_cell? _ _ k0
    replace z1 := World.block_lt_of_cell? _ _ k6
    replace z2 := World.block_lt_of_cell? _ _ k8
    simp only [] at z0 z1 z2
    clear hb1
    rw [e2]
    go_wp2_with fail
    refine (sides_any a b c oa ob oc _).mono ?_
    rintro e w3 ⟨rfl, hb1⟩
    replace f0 := frz_later (bel_call hb1 (by repeat (with_reducible first | exact bel_refl _ | apply bel_alloc | apply bel_drew))) k8 f0
    replace f1 := frz_later (bel_call hb1 (by repeat (with_reducible first | exact bel_refl _ | apply bel_alloc | apply bel_drew))) k9 f1
    replace f2 := frz_later (bel_call hb1 (by repeat (with_reducible first | exact bel_refl _ | apply bel_alloc | apply bel_drew))) k10 f2
    replace hB := bel_call hb1 (by repeat (with_reducible first | exact hB | apply bel_alloc | apply bel_drew))
    replace k0 := cell_later (bel_call hb1 (by repeat (with_reducible first | exact bel_refl _ | apply bel_alloc | apply bel_drew))) k0
    replace k1 := cell_later (bel_call hb1 (by repeat (with_reducible first | exact bel_refl _ | apply bel_alloc | apply bel_drew))) k1
    replace k2 := cell_later (bel_call hb1 (by repeat (with_reducible first | exact bel_refl _ | apply bel_alloc | apply bel_drew))) k2
    replace k3 := cell_later (bel_call hb1 (by repeat (with_reducible first | exact bel_refl _ | apply bel_alloc | apply bel_drew))) k3
    replace k4 := cell_later (bel_call hb1 (by repeat (with_reducible first | exact bel_refl _ | apply bel_alloc | apply bel_drew))) k4
    replace k5 := cell_later (bel_call hb1 (by repeat (with_reducible first | exact bel_refl _ | apply bel_alloc | apply bel_drew))) k5
    replace k6 := cell_later (bel_call hb1 (by repeat (with_reducible first | exact bel_refl _ | apply bel_alloc | apply bel_drew))) k6
    replace k7 := cell_later (bel_call hb1 (by repeat (with_reducible first | exact bel_refl _ | apply bel_alloc | apply bel_drew))) k7
    replace k8 := cell_later (bel_call hb1 (by repeat (with_reducible first | exact bel_refl _ | apply bel_alloc | apply bel_drew))) k8
    replace k9 := cell_later (bel_call hb1 (by repeat (with_reducible first | exact bel_refl _ | apply bel_alloc | apply bel_drew))) k9
    replace k10 := cell_later (bel_call hb1 (by repeat (with_reducible first | exact bel_refl _ | apply bel_alloc | apply bel_drew))) k10
    replace z0 := World.block_lt_of_cell? _ _ k0
    replace z1 := World.block_lt_of_cell? _ _ k6
    replace z2 := World.block_lt_of_cell? _ _ k8
    simp only [] at z0 z1 z2
    clear hb1
    go_wp2_with fail
    have hC0 : ClaimAt w w3 p (w.heap.size + 1 + 1) (cs3 a b c p) 0 := ⟨hB, by omega, z2, k6, k7, k8, k9, k10, f0, f1, f2⟩
    have HC0 := Lib.hid hC0
    clear hC0 k0 k1 k2 k3 k4 k5 k6 k7 k8 k9 k10 z0 z1 z2 f0 f1 f2
    go_loopw [19] (fun i wr => ∃ k : Nat, k ≤ 3 ∧ i = .int .i64 k ∧ Hid (ClaimAt w wr p (w.heap.size + 1 + 1) (cs3 a b c p) k)) (fun i _ => 3 - (intOf i).toNat)
    case atStart => exact ⟨0, by omega, rfl, HC0⟩
    case round =>
        obtain ⟨k, hk, rfl, hC⟩ := hrel
        replace hC := hC.out
        by_cases hlt : k < 3
        · have hk3 : k = 0 ∨ k = 1 ∨ k = 2 := by omega
          rcases hk3 with rfl | rfl | rfl
          · have q0 := hC.p0; have q1 := hC.p1; have q2 := hC.a0; have q3 := hC.a1; have q4 := hC.a2; have q5 := hC.f0; have q6 := hC.f1; have q7 := hC.f2; have q8 := hC.lt; have q9 := hC.siz
            simp only [Nat.lt_irrefl, Nat.reduceLT, if_true, if_false] at q2 q3 q4
            have q10 : w.heap.size + 1 < wr.heap.size := by omega
            go_wp2_with (go_at_call 23; refine (cross_any b c p ob oc op _).mono ?_; rintro e w4 ⟨rfl, hb4⟩; have hw4 := bel_call hb4 (bel_alloc _ (bel_refl wr)); have r2 := cell_later hw4 q2; have r3 := cell_later hw4 q3; have r4 := cell_later hw4 q4; have r5 := (hw4.frozen (p := ⟨w.heap.size + 1 + 1, 0, none⟩) q8).trans q5; have r6 := (hw4.frozen (p := ⟨w.heap.size + 1 + 1, 1, none⟩) q8).trans q6; have r7 := (hw4.frozen (p := ⟨w.heap.size + 1 + 1, 2, none⟩) q8).trans q7)
            go_roundw
            case rel => exact ⟨0 + 1, by omega, by go_num, hC.step hw4 (by omega)⟩
            case measure => simp [intOf]
          · have q0 := hC.p0; have q1 := hC.p1; have q2 := hC.a0; have q3 := hC.a1; have q4 := hC.a2; have q5 := hC.f0; have q6 := hC.f1; have q7 := hC.f2; have q8 := hC.lt; have q9 := hC.siz
            simp only [Nat.lt_irrefl, Nat.reduceLT, if_true, if_false] at q2 q3 q4
            have q10 : w.heap.size + 1 < wr.heap.size := by omega
            go_wp2_with (go_at_call 23; refine (cross_any c a p oc oa op _).mono ?_; rintro e w4 ⟨rfl, hb4⟩; have hw4 := bel_call hb4 (bel_alloc _ (bel_refl wr)); have r2 := cell_later hw4 q2; have r3 := cell_later hw4 q3; have r4 := cell_later hw4 q4; have r5 := (hw4.frozen (p := ⟨w.heap.size + 1 + 1, 0, none⟩) q8).trans q5; have r6 := (hw4.frozen (p := ⟨w.heap.size + 1 + 1, 1, none⟩) q8).trans q6; have r7 := (hw4.frozen (p := ⟨w.heap.size + 1 + 1, 2, none⟩) q8).trans q7)
            go_roundw
            case rel => exact ⟨1 + 1, by omega, by go_num, hC.step hw4 (by omega)⟩
            case measure => simp [intOf]
          · have q0 := hC.p0; have q1 := hC.p1; have q2 := hC.a0; have q3 := hC.a1; have q4 := hC.a2; have q5 := hC.f0; have q6 := hC.f1; have q7 := hC.f2; have q8 := hC.lt; have q9 := hC.siz
            simp only [Nat.lt_irrefl, Nat.reduceLT, if_true, if_false] at q2 q3 q4
            have q10 : w.heap.size + 1 < wr.heap.size := by omega
            go_wp2_with (go_at_call 23; refine (cross_any a b p oa ob op _).mono ?_; rintro e w4 ⟨rfl, hb4⟩; have hw4 := bel_call hb4 (bel_alloc _ (bel_refl wr)); have r2 := cell_later hw4 q2; have r3 := cell_later hw4 q3; have r4 := cell_later hw4 q4; have r5 := (hw4.frozen (p := ⟨w.heap.size + 1 + 1, 0, none⟩) q8).trans q5; have r6 := (hw4.frozen (p := ⟨w.heap.size + 1 + 1, 1, none⟩) q8).trans q6; have r7 := (hw4.frozen (p := ⟨w.heap.size + 1 + 1, 2, none⟩) q8).trans q7)
            go_roundw
            case rel => exact ⟨2 + 1, by omega, by go_num, hC.step hw4 (by omega)⟩
            case measure => simp [intOf]
        · obtain rfl : k = 3 := by omega
          have q0 := hC.a0; have q1 := hC.a1; have q2 := hC.a2; have hB3 := hC.bel; have q5 := hC.f0; have q6 := hC.f1; have q7 := hC.f2
          simp only [Nat.reduceLT, if_true] at q0 q1 q2
          clear hB
          go_wp2
          exact bodyPost_ret (v := .agg #[.int .i64 (cs3 a b c p 0), .int .i64 (cs3 a b c p 1), .int .i64 (cs3 a b c p 2)]) (by simp [results, Try.results14, go_sem, *]) rfl ⟨rfl, by repeat (with_reducible first | exact hB3 | refine bel_set _ (by omega) ?_)⟩

theorem weights_any (a b c p : D) (w : World) :
    Calls Try.prog 14 #[.agg #[.int .i64 a.x, .int .i64 a.y, .int .i64 b.x, .int .i64 b.y, .int .i64 c.x, .int .i64 c.y], .agg #[.int .i64 p.x, .int .i64 p.y]] w fun e w' => e = .returned (.agg #[.int .i64 (wt a b c p 0), .int .i64 (wt a b c p 1), .int .i64 (wt a b c p 2)]) ∧ Below w.heap.size w w' := by
  by_cases h : okAt a b c p
  · unfold wt; rw [if_pos h, if_pos h, if_pos h]; exact weights_yes a b c p h.1.1 h.1.2.1 h.1.2.2 h.2 w
  · unfold wt; rw [if_neg h, if_neg h, if_neg h]; exact weights_no a b c p h w
end Go.Proofs.Ytoighnoliehafaa
