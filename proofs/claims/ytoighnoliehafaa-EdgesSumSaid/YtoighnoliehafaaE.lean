/- What is proved: what edges.Area returns of whatever triangle. -/
import Derived.Test.YtoighnoliehafaaC
namespace Go.Proofs.Ytoighnoliehafaa
open Go.RowKit Ed

def tri (a b c : D) (j : Nat) : D := if j = 0 then a else if j = 1 then b else c
theorem okAll_tri (a b c : D) : okAll (tri a b c) 3 = decide (ok a ∧ ok b ∧ ok c) := by
  unfold okAll
  rw [decide_eq_decide]
  constructor
  · intro h; exact ⟨h 0 (by omega), h 1 (by omega), h 2 (by omega)⟩
  · rintro ⟨h0, h1, h2⟩ j hj
    have : j = 0 ∨ j = 1 ∨ j = 2 := by omega
    rcases this with rfl | rfl | rfl
    · exact h0
    · exact h1
    · exact h2
theorem may_tri (a b c : D) (blk : Nat) (w : World) (h0 : w.cell? ⟨blk, 0, none⟩ = some (.int .i64 a.x)) (h1 : w.cell? ⟨blk, 1, none⟩ = some (.int .i64 a.y)) (h2 : w.cell? ⟨blk, 2, none⟩ = some (.int .i64 b.x)) (h3 : w.cell? ⟨blk, 3, none⟩ = some (.int .i64 b.y))
    (h4 : w.cell? ⟨blk, 4, none⟩ = some (.int .i64 c.x)) (h5 : w.cell? ⟨blk, 5, none⟩ = some (.int .i64 c.y)) :
    Calls Try.prog 19 #[.slice (some ⟨blk, 0, none⟩) 3 3] w fun e w' => e = .returned (.bool (okAll (tri a b c) 3)) ∧ Below w.heap.size w w' :=
  may_any (tri a b c) 3 blk w (by omega) fun j hj => by
    have : j = 0 ∨ j = 1 ∨ j = 2 := by omega
    rcases this with rfl | rfl | rfl
    · exact ⟨h0, h1⟩
    · exact ⟨h2, h3⟩
    · exact ⟨h4, h5⟩
theorem may_one (a : D) (blk : Nat) (w : World) (h0 : w.cell? ⟨blk, 0, none⟩ = some (.int .i64 a.x)) (h1 : w.cell? ⟨blk, 1, none⟩ = some (.int .i64 a.y)) :
    Calls Try.prog 19 #[.slice (some ⟨blk, 0, none⟩) 1 1] w fun e w' => e = .returned (.bool (okAll (fun _ => a) 1)) ∧ Below w.heap.size w w' :=
  may_any (fun _ => a) 1 blk w (by omega) fun j hj => by
    obtain rfl : j = 0 := by omega
    exact ⟨h0, h1⟩
theorem okAll_one (a : D) : okAll (fun _ => a) 1 = decide (ok a) := by
  unfold okAll
  rw [decide_eq_decide]
  exact ⟨fun h => h 0 (by omega), fun h _ _ => h⟩

theorem area_any (a b c : D) (w : World) :
    Calls Try.prog 9 #[.agg #[.int .i64 a.x, .int .i64 a.y, .int .i64 b.x, .int .i64 b.y, .int .i64 c.x, .int .i64 c.y]] w fun e w' =>
      e = .returned (.int .i64 (area a b c)) ∧ Below w.heap.size w w' := by
  by_cases h : ok a ∧ ok b ∧ ok c
  · have e1 : okAll (tri a b c) 3 = true := by rw [okAll_tri]; exact decide_eq_true h
    have e2 : area a b c = cross a b c := if_pos h
    obtain ⟨oa, ob, oc⟩ := h
    rw [e2]
    go_enter Try.func9, Try.ntmps9
    go_wp2_with (go_at_call 19; refine (may_tri a b c _ _ ?_ ?_ ?_ ?_ ?_ ?_).mono ?_; (simp [go_sem]); (simp [go_sem]); (simp [go_sem]); (simp [go_sem]); (simp [go_sem]); (simp [go_sem]); rintro e w1 ⟨rfl, hb1⟩; rw [e1])
    have k0 : w1.cell? ⟨w.heap.size, 0, none⟩ = some (.int .i64 a.x) := cell_later hb1 (by simp)
    have k1 : w1.cell? ⟨w.heap.size, 1, none⟩ = some (.int .i64 a.y) := cell_later hb1 (by simp)
    have k2 : w1.cell? ⟨w.heap.size, 2, none⟩ = some (.int .i64 b.x) := cell_later hb1 (by simp)
    have k3 : w1.cell? ⟨w.heap.size, 3, none⟩ = some (.int .i64 b.y) := cell_later hb1 (by simp)
    have k4 : w1.cell? ⟨w.heap.size, 4, none⟩ = some (.int .i64 c.x) := cell_later hb1 (by simp)
    have k5 : w1.cell? ⟨w.heap.size, 5, none⟩ = some (.int .i64 c.y) := cell_later hb1 (by simp)
    have hz1 := hb1.size
    simp at hz1
    have hB1 := bel_call hb1 (bel_alloc _ (bel_refl w))
    go_region_held3 (fun w' => Below w.heap.size w w' ∧ (w.heap.size + 1 ≤ w'.heap.size) ∧ w'.cell? ⟨w.heap.size, 0, none⟩ = some (.int .i64 a.x) ∧ w'.cell? ⟨w.heap.size, 1, none⟩ = some (.int .i64 a.y) ∧ w'.cell? ⟨w.heap.size, 2, none⟩ = some (.int .i64 b.x) ∧ w'.cell? ⟨w.heap.size, 3, none⟩ = some (.int .i64 b.y) ∧ w'.cell? ⟨w.heap.size, 4, none⟩ = some (.int .i64 c.x) ∧ w'.cell? ⟨w.heap.size, 5, none⟩ = some (.int .i64 c.y))
      ((exact ⟨by repeat (with_reducible first | exact bel_refl _ | apply bel_drew | apply bel_alloc | apply hx | simp only [*]), by first | omega | (simp; done) | (simp; omega) | (simp at *; omega), by first | (simp; done) | (simp [*]; done) | (simp (disch := omega) [World.cell?_alloc_past, *]; done)⟩))
      (first
        | (go_at_call 22; refine (between_any a b oa ob _).mono ?_; rintro e w1 ⟨rfl, hb⟩; have hx := fun h => bel_call hb h (w := w); obtain ⟨hc, hf⟩ := bcell hb; have hz := hb.size)
        | (go_at_call 23; refine (cross_any a b c oa ob oc _).mono ?_; rintro e w1 ⟨rfl, hb⟩; have hx := fun h => bel_call hb h (w := w); obtain ⟨hc, hf⟩ := bcell hb; have hz := hb.size))
    go_wp2
    go_ret
    exact ⟨rfl, by simp [*]⟩
  · have e1 : okAll (tri a b c) 3 = false := by rw [okAll_tri]; exact decide_eq_false h
    have e2 : area a b c = 0 := if_neg h
    rw [e2]
    go_enter Try.func9, Try.ntmps9
    go_wp2_with (go_at_call 19; refine (may_tri a b c _ _ ?_ ?_ ?_ ?_ ?_ ?_).mono ?_; (simp [go_sem]); (simp [go_sem]); (simp [go_sem]); (simp [go_sem]); (simp [go_sem]); (simp [go_sem]); rintro e w1 ⟨rfl, hb1⟩; rw [e1])
    go_ret
    exact ⟨rfl, bel_call hb1 (bel_alloc _ (bel_refl _))⟩
end Go.Proofs.Ytoighnoliehafaa
