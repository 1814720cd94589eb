/- What is proved: what the law's own small functions return: dot, may, far, moved; lives is true. -/
import Derived.Test.YtoighnoliehafaaG
namespace Go.Proofs.Ytoighnoliehafaa
open Go.RowKit Ed

theorem dot_any (x y : Int) (w : World) : Calls Try.prog 24 #[.int .i64 x, .int .i64 y] w fun e w' => e = .returned (.agg #[.int .i64 x, .int .i64 y]) ∧ Below w.heap.size w w' := by
  go_enter Try.func24, Try.ntmps24
  go_wp2
  exact bodyPost_ret (v := .agg #[.int .i64 x, .int .i64 y]) (by simp [results, Try.results24, go_sem]) rfl ⟨rfl, bel_alloc _ (bel_refl _)⟩

theorem lives_any (w : World) : Calls Try.prog 10 #[] w fun e w' => e = .returned (.bool true) ∧ Below w.heap.size w w' := by
  have c0 : area ⟨0, 0⟩ ⟨256, 0⟩ ⟨0, 256⟩ = 65536 := by decide
  have c1 : claim ⟨0, 0⟩ ⟨256, 0⟩ ⟨0, 256⟩ ⟨64, 64⟩ = 1 := by decide
  have c2 : claim ⟨0, 0⟩ ⟨256, 0⟩ ⟨0, 256⟩ ⟨0, 128⟩ = 1 := by decide
  have c3 : claim ⟨0, 0⟩ ⟨256, 0⟩ ⟨0, 256⟩ ⟨128, 0⟩ = 1 := by decide
  have c4 : claim ⟨0, 0⟩ ⟨256, 0⟩ ⟨0, 256⟩ ⟨256, 0⟩ = 0 := by decide
  have c5 : claim ⟨0, 0⟩ ⟨256, 0⟩ ⟨0, 256⟩ ⟨128, 128⟩ = 0 := by decide
  have hB := bel_refl w
  go_enter Try.func10, Try.ntmps10
  go_wp2_with (go_at_call 24; refine (dot_any _ _ _).mono ?_; rintro e w1 ⟨rfl, hb1⟩; replace hB := bel_call hb1 (by repeat (with_reducible first | exact hB | apply bel_alloc | apply bel_drew)); clear hb1)
  obtain ⟨w2, hw0⟩ : ∃ x : World, x = (w1.alloc (.cells #[.int .i64 0, .int .i64 0, .int .i64 256, .int .i64 0, .int .i64 0, .int .i64 256] 24)) := ⟨_, rfl⟩
  have k0 : w2.cell? ⟨w1.heap.size, 0, none⟩ = some (.int .i64 0) := by rw [hw0]; simp
  have k1 : w2.cell? ⟨w1.heap.size, 1, none⟩ = some (.int .i64 0) := by rw [hw0]; simp
  have k2 : w2.cell? ⟨w1.heap.size, 2, none⟩ = some (.int .i64 256) := by rw [hw0]; simp
  have k3 : w2.cell? ⟨w1.heap.size, 3, none⟩ = some (.int .i64 0) := by rw [hw0]; simp
  have k4 : w2.cell? ⟨w1.heap.size, 4, none⟩ = some (.int .i64 0) := by rw [hw0]; simp
  have k5 : w2.cell? ⟨w1.heap.size, 5, none⟩ = some (.int .i64 256) := by rw [hw0]; simp
  have z0 : w1.heap.size < w2.heap.size := World.block_lt_of_cell? _ _ k0
  replace hB : Below w.heap.size w w2 := by rw [hw0]; repeat (with_reducible first | exact hB | apply bel_alloc)
  rw [← hw0]
  clear hw0
  go_region_held3 (fun w' => Below w.heap.size w w' ∧ (w1.heap.size < w'.heap.size) ∧ w'.cell? ⟨w1.heap.size, 0, none⟩ = some (.int .i64 0) ∧ w'.cell? ⟨w1.heap.size, 1, none⟩ = some (.int .i64 0) ∧ w'.cell? ⟨w1.heap.size, 2, none⟩ = some (.int .i64 256) ∧ w'.cell? ⟨w1.heap.size, 3, none⟩ = some (.int .i64 0) ∧ w'.cell? ⟨w1.heap.size, 4, none⟩ = some (.int .i64 0) ∧ w'.cell? ⟨w1.heap.size, 5, none⟩ = some (.int .i64 256))
    ((exact ⟨by repeat (with_reducible first | exact bel_refl _ | exact hB | (simp only [*]; done) | apply bel_drew | apply bel_alloc | apply hx), by first | omega | (simp only [World.size_alloc, World.size_drew]; omega) | (simp; omega), by first | (simp; done) | (simp [*]; done) | (simp [*, World.cell?_setCell_far]; done) | (simp (disch := omega) [World.cell?_alloc_past, *]; done)⟩))
    (first
      | (go_at_call 24; refine (dot_any _ _ _).mono ?_; rintro e w1 ⟨rfl, hb⟩; have hx := fun h => bel_call hb h (w := w); obtain ⟨hc, hf⟩ := bcell hb; have hz := hb.size)
      | (go_at_call 9; refine (area_any ⟨0, 0⟩ ⟨256, 0⟩ ⟨0, 256⟩ _).mono ?_; rintro e w1 ⟨rfl, hb⟩; have hx := fun h => bel_call hb h (w := w); obtain ⟨hc, hf⟩ := bcell hb; have hz := hb.size)
      | (go_at_call 8; refine (claim_any ⟨0, 0⟩ ⟨256, 0⟩ ⟨0, 256⟩ ⟨_, _⟩ _).mono ?_; rintro e w1 ⟨rfl, hb⟩; have hx := fun h => bel_call hb h (w := w); obtain ⟨hc, hf⟩ := bcell hb; have hz := hb.size))
  go_wp2
  go_ret
  exact ⟨rfl, by simp [*]⟩
end Go.Proofs.Ytoighnoliehafaa
