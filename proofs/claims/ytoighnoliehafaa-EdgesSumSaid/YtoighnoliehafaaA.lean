/- What is proved: what the small functions of edges return, under the condition that all places may be: between, cross, sign. -/
import Derived.Test.YtoighnoliehafaaRows
import Derived.Test.YtoighnoliehafaaEd
import Derived.Test.YtoighnoliehafaaU
namespace Go.Proofs.Ytoighnoliehafaa
open Go.RowKit Ed

theorem Try.cells23 : Try.prog.cellsOf 23 = 2 := by kernel_rfl
theorem Try.cells42 : Try.prog.cellsOf 42 = 4 := by kernel_rfl
theorem Try.cells24 : Try.prog.cellsOf 24 = 6 := by kernel_rfl
theorem between_any (a b : D) (ha : ok a) (hb : ok b) (w : World) :
    Calls Try.prog 22 #[.agg #[.int .i64 a.x, .int .i64 a.y], .agg #[.int .i64 b.x, .int .i64 b.y]] w fun e w' =>
      e = .returned (.agg #[.int .i64 a.x, .int .i64 a.y, .int .i64 (b.x - a.x), .int .i64 (b.y - a.y)]) ∧ Below w.heap.size w w' := by
  obtain ⟨a1, a2, a3, a4⟩ := ha
  obtain ⟨b1, b2, b3, b4⟩ := hb
  go_enter Try.func22, Try.ntmps22
  go_wp2
  exact bodyPost_ret (v := .agg #[.int .i64 a.x, .int .i64 a.y, .int .i64 (b.x - a.x), .int .i64 (b.y - a.y)]) (by simp [results, Try.results22, go_sem]) rfl ⟨rfl, (((Below.refl _ _).alloc (Nat.le_refl _) _).alloc (by simp) _).alloc (by simp; omega) _⟩

theorem between_raw (ax ay bx by' : Int) (h : (-671088640 ≤ ax ∧ ax ≤ 671088640 ∧ -671088640 ≤ ay ∧ ay ≤ 671088640) ∧ -671088640 ≤ bx ∧ bx ≤ 671088640 ∧ -671088640 ≤ by' ∧ by' ≤ 671088640) (w : World) :
    Calls Try.prog 22 #[.agg #[.int .i64 ax, .int .i64 ay], .agg #[.int .i64 bx, .int .i64 by']] w fun e w' =>
      e = .returned (.agg #[.int .i64 ax, .int .i64 ay, .int .i64 (bx - ax), .int .i64 (by' - ay)]) ∧ Below w.heap.size w w' := between_any ⟨ax, ay⟩ ⟨bx, by'⟩ h.1 h.2 w

theorem ok_prod (a b p : D) (ha : ok a) (hb : ok b) (hp : ok p) : -1801439850948198400 ≤ (b.x - a.x) * (p.y - a.y) ∧ (b.x - a.x) * (p.y - a.y) ≤ 1801439850948198400 ∧ -1801439850948198400 ≤ (b.y - a.y) * (p.x - a.x) ∧ (b.y - a.y) * (p.x - a.x) ≤ 1801439850948198400 := by
  obtain ⟨a1, a2, a3, a4⟩ := ha
  obtain ⟨b1, b2, b3, b4⟩ := hb
  obtain ⟨p1, p2, p3, p4⟩ := hp
  have u := prod_bd (b.x - a.x) (p.y - a.y) 1342177280 1342177280 (by omega) (by omega) (by omega) (by omega) (by omega)
  have v := prod_bd (b.y - a.y) (p.x - a.x) 1342177280 1342177280 (by omega) (by omega) (by omega) (by omega) (by omega)
  omega

theorem cross_any (a b p : D) (ha : ok a) (hb : ok b) (hp : ok p) (w : World) :
    Calls Try.prog 23 #[.agg #[.int .i64 a.x, .int .i64 a.y, .int .i64 (b.x - a.x), .int .i64 (b.y - a.y)], .agg #[.int .i64 p.x, .int .i64 p.y]] w fun e w' =>
      e = .returned (.int .i64 (cross a b p)) ∧ Below w.heap.size w w' := by
  obtain ⟨g1, g2, g3, g4⟩ := ok_prod a b p ha hb hp
  obtain ⟨a1, a2, a3, a4⟩ := ha
  obtain ⟨b1, b2, b3, b4⟩ := hb
  obtain ⟨p1, p2, p3, p4⟩ := hp
  go_enter Try.func23, Try.ntmps23
  go_wp2
  go_ret
  exact ⟨rfl, (((Below.refl _ _).alloc (Nat.le_refl _) _).alloc (by simp) _)⟩

theorem sign_any (x : Int) (w : World) : Calls Try.prog 18 #[.int .i64 x] w fun e w' => e = .returned (.int .i64 (sg x)) ∧ w = w' := by
  rcases sg_cases x with ⟨h, g⟩ | ⟨h, g⟩ | ⟨h, g⟩
  · rw [h]
    go_enter Try.func18, Try.ntmps18
    go_wp2
    go_ret
    exact ⟨rfl, rfl⟩
  · subst g; rw [h]
    go_enter Try.func18, Try.ntmps18
    go_wp2
    go_ret
    exact ⟨rfl, rfl⟩
  · rw [h]
    go_enter Try.func18, Try.ntmps18
    go_wp2
    go_ret
    exact ⟨rfl, rfl⟩
end Go.Proofs.Ytoighnoliehafaa
