/- What is proved: what cmp.Or and side return. -/
import Derived.Test.YtoighnoliehafaaA
namespace Go.Proofs.Ytoighnoliehafaa
open Go.RowKit Ed

def orf (f : Nat → Int) : Int := or3 (f 0) (f 1) (f 2)
theorem or_any (f : Nat → Int) (blk : Nat) (w : World) (hc : ∀ j, j < 3 → w.cell? ⟨blk, j, none⟩ = some (.int .i64 (f j))) :
    Calls Try.prog 29 #[.slice (some ⟨blk, 0, none⟩) 3 3] w fun e w' => e = .returned (.int .i64 (orf f)) ∧ w = w' := by
  have hl : ∀ k, (∀ j, j < k → f j = 0) → k < 3 → ¬ f k = 0 → orf f = f k := by
    intro k hz hk hn
    unfold orf or3
    have h0 : 0 < k → f 0 = 0 := hz 0
    have h1 : 1 < k → f 1 = 0 := hz 1
    have : k = 0 ∨ k = 1 ∨ k = 2 := by omega
    rcases this with rfl | rfl | rfl
    · rw [if_pos hn]
    · rw [h0 (by omega), if_neg (by simp), if_pos hn]
    · rw [h0 (by omega), h1 (by omega), if_neg (by simp), if_neg (by simp)]
  have hl3 : (∀ j, j < 3 → f j = 0) → orf f = 0 := by
    intro hz; unfold orf or3; rw [hz 0 (by omega), hz 1 (by omega), hz 2 (by omega)]; simp
  have Hl : Hid _ := hl; have Hl3 : Hid _ := hl3
  clear hl hl3
  go_enter Try.func29, Try.ntmps29
  go_wp2
  go_loop [8, 5] (fun i _ => ∃ k : Nat, k ≤ 3 ∧ i = .int .i64 k ∧ Hid (∀ j, j < k → f j = 0)) (fun i _ => 3 - (intOf i).toNat)
  case atStart => exact ⟨0, by omega, rfl, fun j h => by omega⟩
  case round =>
    obtain ⟨k, hk, rfl, hz⟩ := hrel
    by_cases hlt : k < 3
    · have g := hc k hlt
      by_cases hn : f k = 0
      · have hn' : (f k != 0) = false := by simp [hn]
        have Hn : Hid (f k = 0) := hn
        clear hn hc
        go_wp2
        go_round
        case rel => exact ⟨k + 1, by omega, by go_num, fun j h => by
          rcases Nat.lt_or_ge j k with h' | h'
          · exact hz j h'
          · have : j = k := by omega
            subst this; exact Hn⟩
        case measure => simp [intOf]; omega
      · have hn' : (f k != 0) = true := by simp [hn]
        have Hn : Hid (¬ f k = 0) := hn
        clear hn hc
        go_wp2
        go_ret
        exact ⟨by rw [Hl.out k hz.out hlt Hn.out]; rfl, rfl⟩
    · obtain rfl : k = 3 := by omega
      clear hc
      go_wp2
      go_ret
      exact ⟨by rw [Hl3.out hz.out]; rfl, rfl⟩

theorem or_any3 (x y z : Int) (blk : Nat) (w : World) (h0 : w.cell? ⟨blk, 0, none⟩ = some (.int .i64 x)) (h1 : w.cell? ⟨blk, 1, none⟩ = some (.int .i64 y)) (h2 : w.cell? ⟨blk, 2, none⟩ = some (.int .i64 z)) :
    Calls Try.prog 29 #[.slice (some ⟨blk, 0, none⟩) 3 3] w fun e w' => e = .returned (.int .i64 (or3 x y z)) ∧ w = w' :=
  or_any (fun j => if j = 0 then x else if j = 1 then y else z) blk w fun j hj => by
    have : j = 0 ∨ j = 1 ∨ j = 2 := by omega
    rcases this with rfl | rfl | rfl
    · exact h0
    · exact h1
    · exact h2
theorem sg_bd (x : Int) : -1 ≤ sg x ∧ sg x ≤ 1 := by rcases sg_cases x with ⟨h, _⟩ | ⟨h, _⟩ | ⟨h, _⟩ <;> omega

theorem side_any (a b p : D) (ha : ok a) (hb : ok b) (hp : ok p) (w : World) :
    Calls Try.prog 21 #[.agg #[.int .i64 a.x, .int .i64 a.y, .int .i64 (b.x - a.x), .int .i64 (b.y - a.y)], .agg #[.int .i64 p.x, .int .i64 p.y]] w fun e w' =>
      e = .returned (.int .i64 (side a b p)) ∧ Below w.heap.size w w' := by
  have sb : IntKind.i64.wrap (-sg (b.y - a.y)) = -sg (b.y - a.y) := by have := sg_bd (b.y - a.y); exact IntWalk.i64_in _ (by omega)
  go_enter Try.func21, Try.ntmps21
  go_wp2
  go_region_held3 (fun w' => Below w.heap.size w w' ∧ (w.heap.size + 2 ≤ w'.heap.size) ∧ w'.cell? ⟨w.heap.size, 0, none⟩ = some (.int .i64 a.x) ∧ w'.cell? ⟨w.heap.size, 1, none⟩ = some (.int .i64 a.y) ∧ w'.cell? ⟨w.heap.size, 2, none⟩ = some (.int .i64 (b.x - a.x)) ∧ w'.cell? ⟨w.heap.size, 3, none⟩ = some (.int .i64 (b.y - a.y)) ∧ w'.cell? ⟨w.heap.size + 1, 0, none⟩ = some (.int .i64 p.x) ∧ w'.cell? ⟨w.heap.size + 1, 1, none⟩ = some (.int .i64 p.y))
    (exact ⟨by repeat (with_reducible first | exact bel_refl _ | apply bel_drew | apply bel_alloc | apply hx | simp only [*]), by first | omega | (simp; done) | (simp; omega), by first | (simp; done) | (simp (disch := omega) [World.cell?_alloc_past, *]; done)⟩)
    (first
      | (go_at_call 23; refine (cross_any a b p ha hb hp _).mono ?_; rintro e w' ⟨rfl, hb⟩; have hx := fun h => bel_call hb h (w := w); obtain ⟨hc, hf⟩ := bcell hb; have hz := hb.size)
      | (go_at_call 18; refine (sign_any _ _).mono ?_; rintro e w' ⟨rfl, rfl⟩)
      | (go_at_call 29; refine (or_any3 (sg (cross a b p)) (-sg (b.y - a.y)) (sg (b.x - a.x)) _ _ ?_ ?_ ?_).mono ?_; (simp [go_sem]); (simp [go_sem]); (simp [go_sem]); rintro e w' ⟨rfl, rfl⟩))
  go_wp2
  go_ret
  exact ⟨rfl, by simp [*]⟩
end Go.Proofs.Ytoighnoliehafaa
