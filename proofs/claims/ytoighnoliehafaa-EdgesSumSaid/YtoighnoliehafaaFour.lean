/- What is proved: the law EdgesFour, walked: it is true of any four places and a fifth one. -/
import Derived.Test.YtoighnoliehafaaI
namespace Go.Proofs.Ytoighnoliehafaa
open Go.RowKit Ed

def okB (d : D) : Bool := decide (ok d)
theorem may11_any (d : D) (w : World) : Calls Try.prog 11 #[.agg #[.int .i64 d.x, .int .i64 d.y]] w fun e w' => e = .returned (.bool (okB d)) ∧ Below w.heap.size w w' := by
  by_cases h : ok d
  · have e1 : okB d = true := decide_eq_true h
    rw [e1]
    obtain ⟨h1, h2, h3, h4⟩ := h
    go_enter Try.func11, Try.ntmps11
    go_wp2
    all_goals (go_ret; exact ⟨rfl, bel_alloc _ (bel_refl _)⟩)
  · have e1 : okB d = false := decide_eq_false h
    rw [e1]
    unfold ok at h
    go_enter Try.func11, Try.ntmps11
    go_wp2
    all_goals (go_ret; exact ⟨by first | rfl | (simp; done) | (simp; omega), bel_alloc _ (bel_refl _)⟩)
def quad (a b c d : D) (j : Nat) : D := if j = 0 then a else if j = 1 then b else if j = 2 then c else d

set_option maxHeartbeats 3200000 in
theorem four_any (a b c d p : D) (w : World) :
    Calls Try.prog 4 #[.agg #[.int .i64 a.x, .int .i64 a.y, .int .i64 b.x, .int .i64 b.y, .int .i64 c.x, .int .i64 c.y, .int .i64 d.x, .int .i64 d.y], .agg #[.int .i64 p.x, .int .i64 p.y]] w fun e w' => e = .returned (.bool true) ∧ Below w.heap.size w w' := by
  go_enter Try.func4, Try.ntmps4
  go_wp2
  obtain ⟨w0, hw0⟩ : ∃ x : World, x = ((w.alloc (.cells #[.int .i64 a.x, .int .i64 a.y, .int .i64 b.x, .int .i64 b.y, .int .i64 c.x, .int .i64 c.y, .int .i64 d.x, .int .i64 d.y] 29)).alloc (.cells #[.int .i64 p.x, .int .i64 p.y] 23)) := ⟨_, rfl⟩
  have k0 : w0.cell? ⟨w.heap.size, 0, none⟩ = some (.int .i64 a.x) := by rw [hw0]; simp
  have k1 : w0.cell? ⟨w.heap.size, 1, none⟩ = some (.int .i64 a.y) := by rw [hw0]; simp
  have k2 : w0.cell? ⟨w.heap.size, 2, none⟩ = some (.int .i64 b.x) := by rw [hw0]; simp
  have k3 : w0.cell? ⟨w.heap.size, 3, none⟩ = some (.int .i64 b.y) := by rw [hw0]; simp
  have k4 : w0.cell? ⟨w.heap.size, 4, none⟩ = some (.int .i64 c.x) := by rw [hw0]; simp
  have k5 : w0.cell? ⟨w.heap.size, 5, none⟩ = some (.int .i64 c.y) := by rw [hw0]; simp
  have k6 : w0.cell? ⟨w.heap.size, 6, none⟩ = some (.int .i64 d.x) := by rw [hw0]; simp
  have k7 : w0.cell? ⟨w.heap.size, 7, none⟩ = some (.int .i64 d.y) := by rw [hw0]; simp
  have k8 : w0.cell? ⟨w.heap.size + 1, 0, none⟩ = some (.int .i64 p.x) := by rw [hw0]; simp
  have k9 : w0.cell? ⟨w.heap.size + 1, 1, none⟩ = some (.int .i64 p.y) := by rw [hw0]; simp
  have z0 : w.heap.size < w0.heap.size := World.block_lt_of_cell? _ _ k0
  have z1 : w.heap.size + 1 < w0.heap.size := World.block_lt_of_cell? _ _ k8
  have hB : Below w.heap.size w w0 := by rw [hw0]; repeat (with_reducible first | exact bel_refl _ | apply bel_alloc)
  rw [← hw0]
  clear hw0
  have Hc : Hid (∀ j, j < 4 → w0.cell? ⟨w.heap.size, j * 2, none⟩ = some (.int .i64 (quad a b c d j).x) ∧ w0.cell? ⟨w.heap.size, j * 2 + 1, none⟩ = some (.int .i64 (quad a b c d j).y)) := by
    intro j hj
    have : j = 0 ∨ j = 1 ∨ j = 2 ∨ j = 3 := by omega
    rcases this with rfl | rfl | rfl | rfl
    · exact ⟨k0, k1⟩
    · exact ⟨k2, k3⟩
    · exact ⟨k4, k5⟩
    · exact ⟨k6, k7⟩
  have HK := Lib.hid (show w0.cell? ⟨w.heap.size, 0, none⟩ = some (.int .i64 a.x) ∧ w0.cell? ⟨w.heap.size, 1, none⟩ = some (.int .i64 a.y) ∧ w0.cell? ⟨w.heap.size, 2, none⟩ = some (.int .i64 b.x) ∧ w0.cell? ⟨w.heap.size, 3, none⟩ = some (.int .i64 b.y) ∧ w0.cell? ⟨w.heap.size, 4, none⟩ = some (.int .i64 c.x) ∧ w0.cell? ⟨w.heap.size, 5, none⟩ = some (.int .i64 c.y) ∧ w0.cell? ⟨w.heap.size, 6, none⟩ = some (.int .i64 d.x) ∧ w0.cell? ⟨w.heap.size, 7, none⟩ = some (.int .i64 d.y) ∧ w0.cell? ⟨w.heap.size + 1, 0, none⟩ = some (.int .i64 p.x) ∧ w0.cell? ⟨w.heap.size + 1, 1, none⟩ = some (.int .i64 p.y) from ⟨k0, k1, k2, k3, k4, k5, k6, k7, k8, k9⟩)
  clear k0 k1 k2 k3 k4 k5 k6 k7 k8 k9 z0 z1
  go_loopw [5] (fun i wr => ∃ k : Nat, k ≤ 4 ∧ i = .int .i64 k ∧ Hid (∀ j, j < k → ok (quad a b c d j)) ∧ Below w0.heap.size w0 wr) (fun i _ => 4 - (intOf i).toNat)
  case atStart => exact ⟨0, by omega, rfl, fun j h => by omega, bel_refl _⟩
  case round =>
    obtain ⟨k, hk, rfl, hz, hR⟩ := hrel
    by_cases hlt : k < 4
    · have ⟨g1, g2⟩ := Hc.out k hlt
      have g1' := cell_later hR g1
      have g2' := cell_later hR g2
      clear g1 g2
      by_cases hok : ok (quad a b c d k)
      · have eo : okB (quad a b c d k) = true := decide_eq_true hok
        have Hok := Lib.hid hok
        clear hok
        go_wp2_with (go_at_call 11; refine (may11_any _ _).mono ?_; rintro e w1 ⟨rfl, hb1⟩; replace hR := bel_call hb1 hR; clear hb1)
        go_roundw
        case rel => exact ⟨k + 1, by omega, by go_num, fun j h => by
          rcases Nat.lt_or_ge j k with h' | h'
          · exact hz j h'
          · have : j = k := by omega
            subst this; exact Hok, hR⟩
        case measure => simp [intOf]; omega
      · have eo : okB (quad a b c d k) = false := decide_eq_false hok
        clear hok
        go_wp2_with (first
          | (go_at_call 11; refine (may11_any _ _).mono ?_; rintro e w1 ⟨rfl, hb1⟩; replace hR := bel_call hb1 hR; clear hb1)
          | (go_at_call 10; refine (lives_any _).mono ?_; rintro e w1 ⟨rfl, hb1⟩; replace hR := bel_call hb1 hR; clear hb1))
        go_ret
        exact ⟨rfl, bel_call hR hB⟩
    · obtain rfl : k = 4 := by omega
      have oa : ok a := hz.out 0 (by omega)
      have ob : ok b := hz.out 1 (by omega)
      have oc : ok c := hz.out 2 (by omega)
      have od : ok d := hz.out 3 (by omega)
      have h4 := four a b c d p oa ob oc od
      have u1 := claim_bd b c d p; have u2 := claim_bd a c d p; have u3 := claim_bd a b d p; have u4 := claim_bd a b c p
      have i1 : IntKind.i64.wrap (claim b c d p - claim a c d p) = claim b c d p - claim a c d p := IntWalk.i64_in _ (by omega)
      have i2 : IntKind.i64.wrap (claim b c d p - claim a c d p + claim a b d p) = claim b c d p - claim a c d p + claim a b d p := IntWalk.i64_in _ (by omega)
      have i3 : IntKind.i64.wrap (claim b c d p - claim a c d p + claim a b d p - claim a b c p) = 0 := by rw [h4]; rfl
      have H4 := Lib.hid h4
      clear h4 u1 u2 u3 u4 oa ob oc od
      obtain ⟨k0, k1, k2, k3, k4, k5, k6, k7, k8, k9⟩ := HK.out
      replace k0 := cell_later hR k0
      replace k1 := cell_later hR k1
      replace k2 := cell_later hR k2
      replace k3 := cell_later hR k3
      replace k4 := cell_later hR k4
      replace k5 := cell_later hR k5
      replace k6 := cell_later hR k6
      replace k7 := cell_later hR k7
      replace k8 := cell_later hR k8
      replace k9 := cell_later hR k9
      have z0 : w.heap.size < wr.heap.size := World.block_lt_of_cell? _ _ k0
      have z1 : w.heap.size + 1 < wr.heap.size := World.block_lt_of_cell? _ _ k8
      replace hB := bel_call hR hB
      go_wp2
      go_region_held3 (fun w' => Below w.heap.size w w' ∧ (w.heap.size < w'.heap.size ∧ w.heap.size + 1 < w'.heap.size) ∧ w'.cell? ⟨w.heap.size, 0, none⟩ = some (.int .i64 a.x) ∧ w'.cell? ⟨w.heap.size, 1, none⟩ = some (.int .i64 a.y) ∧ w'.cell? ⟨w.heap.size, 2, none⟩ = some (.int .i64 b.x) ∧ w'.cell? ⟨w.heap.size, 3, none⟩ = some (.int .i64 b.y) ∧ w'.cell? ⟨w.heap.size, 4, none⟩ = some (.int .i64 c.x) ∧ w'.cell? ⟨w.heap.size, 5, none⟩ = some (.int .i64 c.y) ∧ w'.cell? ⟨w.heap.size, 6, none⟩ = some (.int .i64 d.x) ∧ w'.cell? ⟨w.heap.size, 7, none⟩ = some (.int .i64 d.y) ∧ w'.cell? ⟨w.heap.size + 1, 0, none⟩ = some (.int .i64 p.x) ∧ w'.cell? ⟨w.heap.size + 1, 1, none⟩ = some (.int .i64 p.y))
        ((exact ⟨by repeat (with_reducible first | exact bel_refl _ | exact hB | (simp only [*]; done) | apply bel_drew | apply bel_alloc | apply hx), by first | omega | (simp only [World.size_alloc, World.size_drew]; omega) | (simp; omega), by first | (simp; done) | (simp [*]; done) | (simp [*, World.cell?_setCell_far]; done) | (simp (disch := omega) [World.cell?_alloc_past, *]; done)⟩))
        (first
          | (go_at_call 8; refine (claim_any _ _ _ _ _).mono ?_; rintro e w1 ⟨rfl, hb⟩; have hx := fun h => bel_call hb h (w := w); obtain ⟨hc, hf⟩ := bcell hb; have hz := hb.size))
      go_wp2_with (go_at_call 10; refine (lives_any _).mono ?_; rintro e w1 ⟨rfl, hb1⟩; have hB1 := bel_call hb1 (w := w))
      go_ret
      exact ⟨rfl, by apply hB1; simp [*]⟩
end Go.Proofs.Ytoighnoliehafaa
