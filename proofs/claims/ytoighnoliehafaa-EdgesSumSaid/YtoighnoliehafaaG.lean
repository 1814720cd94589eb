/- What is proved: what edges.Claim returns of whatever triangle and place. -/
import Derived.Test.YtoighnoliehafaaF
namespace Go.Proofs.Ytoighnoliehafaa
open Go.RowKit Ed

/-- what the loop of Claim keeps: how many sides have been asked, and what they are -/
structure ClaimAt (w wr : World) (p : D) (B : Nat) (s : Nat → Int) (k : Nat) : Prop where
  bel : Below w.heap.size w wr
  siz : w.heap.size + 2 ≤ B
  lt : B < wr.heap.size
  p0 : wr.cell? ⟨w.heap.size + 1, 0, none⟩ = some (.int .i64 p.x)
  p1 : wr.cell? ⟨w.heap.size + 1, 1, none⟩ = some (.int .i64 p.y)
  a0 : wr.cell? ⟨B, 0, none⟩ = some (.int .i64 (if 0 < k then s 0 else 0))
  a1 : wr.cell? ⟨B, 1, none⟩ = some (.int .i64 (if 1 < k then s 1 else 0))
  a2 : wr.cell? ⟨B, 2, none⟩ = some (.int .i64 (if 2 < k then s 2 else 0))
  f0 : wr.frozen? ⟨B, 0, none⟩ = false
  f1 : wr.frozen? ⟨B, 1, none⟩ = false
  f2 : wr.frozen? ⟨B, 2, none⟩ = false

theorem neq40 (x0 x1 x2 y0 y1 y2 : Int) (w : World) : (binOp .neq 40 (.agg #[.int .i64 x0, .int .i64 x1, .int .i64 x2]) (.agg #[.int .i64 y0, .int .i64 y1, .int .i64 y2])).run Try.prog w = .ok (.bool (!decide ([x0, x1, x2] = [y0, y1, y2]))) w :=
  neqArr w Try.underlying40 Try.underlying3 (by kernel_rfl) (by kernel_rfl) [x0, x1, x2] [y0, y1, y2] rfl rfl
def sd (a b c p : D) (j : Nat) : Int := if j = 0 then side b c p else if j = 1 then side c a p else side a b p
theorem ClaimAt.step {w wr w4 : World} {p : D} {B : Nat} {s : Nat → Int} {k : Nat} (h : ClaimAt w wr p B s k) (hb : Below wr.heap.size wr w4) (hk : k < 3) :
    ClaimAt w (w4.setCell ⟨B, k, none⟩ (.int .i64 (s k))) p B s (k + 1) := by
  have hs := h.siz
  have hl := h.lt
  have p0 := cell_later hb h.p0; have p1 := cell_later hb h.p1
  have a0 := cell_later hb h.a0; have a1 := cell_later hb h.a1; have a2 := cell_later hb h.a2
  have f0 := (hb.frozen (p := ⟨B, 0, none⟩) hl).trans h.f0; have f1 := (hb.frozen (p := ⟨B, 1, none⟩) hl).trans h.f1; have f2 := (hb.frozen (p := ⟨B, 2, none⟩) hl).trans h.f2
  have hn : (⟨B, k, none⟩ : Addr).block ≠ w.heap.size + 1 := by show B ≠ _; omega
  have hc : k = 0 ∨ k = 1 ∨ k = 2 := by omega
  refine ⟨bel_set _ (by omega) (bel_call hb h.bel), hs, siz_set (Nat.lt_of_lt_of_le hl hb.size), ?_, ?_, ?_, ?_, ?_, ?_, ?_, ?_⟩
  · rw [World.cell?_setCell_far _ _ _ _ hn]; exact p0
  · rw [World.cell?_setCell_far _ _ _ _ hn]; exact p1
  · rcases hc with rfl | rfl | rfl
    · rw [World.cell?_setCell_same' _ _ _ (by rw [a0]; rfl)]; simp
    · rw [World.cell?_setCell_other _ _ _ _ (by simp), a0]; simp
    · rw [World.cell?_setCell_other _ _ _ _ (by simp), a0]; simp
  · rcases hc with rfl | rfl | rfl
    · rw [World.cell?_setCell_other _ _ _ _ (by simp), a1]; simp
    · rw [World.cell?_setCell_same' _ _ _ (by rw [a1]; rfl)]; simp
    · rw [World.cell?_setCell_other _ _ _ _ (by simp), a1]; simp
  · rcases hc with rfl | rfl | rfl
    · rw [World.cell?_setCell_other _ _ _ _ (by simp), a2]; simp
    · rw [World.cell?_setCell_other _ _ _ _ (by simp), a2]; simp
    · rw [World.cell?_setCell_same' _ _ _ (by rw [a2]; rfl)]; simp
  · rw [World.frozen?_setCell]; exact f0
  · rw [World.frozen?_setCell]; exact f1
  · rw [World.frozen?_setCell]; exact f2

theorem claim_any (a b c p : D) (w : World) :
    Calls Try.prog 8 #[.agg #[.int .i64 a.x, .int .i64 a.y, .int .i64 b.x, .int .i64 b.y, .int .i64 c.x, .int .i64 c.y], .agg #[.int .i64 p.x, .int .i64 p.y]] w fun e w' =>
      e = .returned (.int .i64 (claim a b c p)) ∧ Below w.heap.size w w' := by
  by_cases h0 : sg (area a b c) = 0
  · have e0 : claim a b c p = 0 := if_pos (Or.inl h0)
    rw [e0]
    have t0 : (sg (area a b c) == 0) = true := by rw [h0]; rfl
    clear h0
    go_enter Try.func8, Try.ntmps8
    go_wp2_with (first
      | (go_at_call 9; refine (area_any a b c _).mono ?_; rintro e w1 ⟨rfl, hb1⟩)
      | (go_at_call 18; refine (sign_any _ _).mono ?_; rintro e w1 ⟨rfl, rfl⟩))
    go_ret
    exact ⟨rfl, bel_call hb1 (bel_alloc _ (bel_alloc _ (bel_refl _)))⟩
  · have t0 : (sg (area a b c) == 0) = false := by rw [beq_eq_false_iff_ne]; exact h0
    by_cases hp : ok p
    · have hok : ok a ∧ ok b ∧ ok c := by
        rcases Decidable.em (ok a ∧ ok b ∧ ok c) with h | h
        · exact h
        · exact absurd (sg_of_zero (show area a b c = 0 from if_neg h)) h0
      obtain ⟨oa, ob, oc⟩ := hok
      have e1 : okAll (fun _ => p) 1 = true := by rw [okAll_one]; exact decide_eq_true hp
      have fin : ∀ x y z : Int, x = sd a b c p 0 → y = sd a b c p 1 → z = sd a b c p 2 → claim a b c p = if x = sg (area a b c) ∧ y = sg (area a b c) ∧ z = sg (area a b c) then sg (area a b c) else 0 := by
        intro x y z hx hy hz; subst hx hy hz; exact if_neg (by simp [h0, hp])
      have Hfin := Lib.hid fin
      clear h0 fin
      have ix0 : ∀ w, (Instr.index 43 (.agg #[.int .i64 b.x, .int .i64 b.y, .int .i64 (c.x - b.x), .int .i64 (c.y - b.y), .int .i64 c.x, .int .i64 c.y, .int .i64 (a.x - c.x), .int .i64 (a.y - c.y), .int .i64 a.x, .int .i64 a.y, .int .i64 (b.x - a.x), .int .i64 (b.y - a.y)]) (.int .i64 0)).run Try.prog w = .ok (.agg #[.int .i64 b.x, .int .i64 b.y, .int .i64 (c.x - b.x), .int .i64 (c.y - b.y)]) w := fun _ => by kernel_rfl
      have ix1 : ∀ w, (Instr.index 43 (.agg #[.int .i64 b.x, .int .i64 b.y, .int .i64 (c.x - b.x), .int .i64 (c.y - b.y), .int .i64 c.x, .int .i64 c.y, .int .i64 (a.x - c.x), .int .i64 (a.y - c.y), .int .i64 a.x, .int .i64 a.y, .int .i64 (b.x - a.x), .int .i64 (b.y - a.y)]) (.int .i64 1)).run Try.prog w = .ok (.agg #[.int .i64 c.x, .int .i64 c.y, .int .i64 (a.x - c.x), .int .i64 (a.y - c.y)]) w := fun _ => by kernel_rfl
      have ix2 : ∀ w, (Instr.index 43 (.agg #[.int .i64 b.x, .int .i64 b.y, .int .i64 (c.x - b.x), .int .i64 (c.y - b.y), .int .i64 c.x, .int .i64 c.y, .int .i64 (a.x - c.x), .int .i64 (a.y - c.y), .int .i64 a.x, .int .i64 a.y, .int .i64 (b.x - a.x), .int .i64 (b.y - a.y)]) (.int .i64 2)).run Try.prog w = .ok (.agg #[.int .i64 a.x, .int .i64 a.y, .int .i64 (b.x - a.x), .int .i64 (b.y - a.y)]) w := fun _ => by kernel_rfl
      go_enter Try.func8, Try.ntmps8
      go_wp2_with (first
        | (go_at_call 9; refine (area_any a b c _).mono ?_; rintro e w1 ⟨rfl, hb1⟩; have hB1 := bel_call hb1 (bel_alloc _ (bel_alloc _ (bel_refl w))); have k0 : w1.cell? ⟨w.heap.size, 0, none⟩ = some (.int .i64 a.x) := cell_later hb1 (by simp); have k1 : w1.cell? ⟨w.heap.size, 1, none⟩ = some (.int .i64 a.y) := cell_later hb1 (by simp); have k2 : w1.cell? ⟨w.heap.size, 2, none⟩ = some (.int .i64 b.x) := cell_later hb1 (by simp); have k3 : w1.cell? ⟨w.heap.size, 3, none⟩ = some (.int .i64 b.y) := cell_later hb1 (by simp); have k4 : w1.cell? ⟨w.heap.size, 4, none⟩ = some (.int .i64 c.x) := cell_later hb1 (by simp); have k5 : w1.cell? ⟨w.heap.size, 5, none⟩ = some (.int .i64 c.y) := cell_later hb1 (by simp); have k6 : w1.cell? ⟨w.heap.size + 1, 0, none⟩ = some (.int .i64 p.x) := cell_later hb1 (by simp); have k7 : w1.cell? ⟨w.heap.size + 1, 1, none⟩ = some (.int .i64 p.y) := cell_later hb1 (by simp); have kz1 : w.heap.size < w1.heap.size := World.block_lt_of_cell? _ _ k0; have kz2 : w.heap.size + 1 < w1.heap.size := World.block_lt_of_cell? _ _ k6)
        | (go_at_call 18; refine (sign_any _ _).mono ?_; rintro e w1 ⟨rfl, rfl⟩)
        | (go_at_call 19; refine (may_one p _ _ ?_ ?_).mono ?_; (simp [go_sem]); (simp [go_sem]); rintro e w2 ⟨rfl, hb2⟩; rw [e1]; have hw2 := bel_call hb2 (bel_alloc _ (bel_refl w1)); have hB2 := bel_call hw2 hB1; have l0 : w2.cell? ⟨w.heap.size, 0, none⟩ = some (.int .i64 a.x) := cell_later hw2 k0; have l1 : w2.cell? ⟨w.heap.size, 1, none⟩ = some (.int .i64 a.y) := cell_later hw2 k1; have l2 : w2.cell? ⟨w.heap.size, 2, none⟩ = some (.int .i64 b.x) := cell_later hw2 k2; have l3 : w2.cell? ⟨w.heap.size, 3, none⟩ = some (.int .i64 b.y) := cell_later hw2 k3; have l4 : w2.cell? ⟨w.heap.size, 4, none⟩ = some (.int .i64 c.x) := cell_later hw2 k4; have l5 : w2.cell? ⟨w.heap.size, 5, none⟩ = some (.int .i64 c.y) := cell_later hw2 k5; have l6 : w2.cell? ⟨w.heap.size + 1, 0, none⟩ = some (.int .i64 p.x) := cell_later hw2 k6; have l7 : w2.cell? ⟨w.heap.size + 1, 1, none⟩ = some (.int .i64 p.y) := cell_later hw2 k7; have lz1 : w.heap.size < w2.heap.size := World.block_lt_of_cell? _ _ l0; have lz2 : w.heap.size + 1 < w2.heap.size := World.block_lt_of_cell? _ _ l6)
        | (go_at_call 20; refine (sides_any a b c oa ob oc _).mono ?_; rintro e w3 ⟨rfl, hb3⟩; have hw3 := bel_call hb3 (bel_alloc _ (bel_refl w2)); have hB3 := bel_call hw3 hB2; have m0 : w3.cell? ⟨w.heap.size + 1, 0, none⟩ = some (.int .i64 p.x) := cell_later hw3 l6; have m1 : w3.cell? ⟨w.heap.size + 1, 1, none⟩ = some (.int .i64 p.y) := cell_later hw3 l7; have mz1 : w.heap.size + 1 < w3.heap.size := World.block_lt_of_cell? _ _ m0; have n0 : w3.cell? ⟨w2.heap.size, 0, none⟩ = some (.int .i64 0) := cell_later hb3 (by simp); have n1 : w3.cell? ⟨w2.heap.size, 1, none⟩ = some (.int .i64 0) := cell_later hb3 (by simp); have n2 : w3.cell? ⟨w2.heap.size, 2, none⟩ = some (.int .i64 0) := cell_later hb3 (by simp); have g0 : w3.frozen? ⟨w2.heap.size, 0, none⟩ = false := (hb3.frozen (p := ⟨w2.heap.size, 0, none⟩) (by simp)).trans (by simp [go_sem]); have g1 : w3.frozen? ⟨w2.heap.size, 1, none⟩ = false := (hb3.frozen (p := ⟨w2.heap.size, 1, none⟩) (by simp)).trans (by simp [go_sem]); have g2 : w3.frozen? ⟨w2.heap.size, 2, none⟩ = false := (hb3.frozen (p := ⟨w2.heap.size, 2, none⟩) (by simp)).trans (by simp [go_sem]); have nz : w2.heap.size < w3.heap.size := World.block_lt_of_cell? _ _ n0))
      have hC0 : ClaimAt w w3 p w2.heap.size (sd a b c p) 0 := ⟨hB3, Nat.succ_le_of_lt lz2, nz, m0, m1, n0, n1, n2, g0, g1, g2⟩
      have HC0 := Lib.hid hC0
      clear hC0 m0 m1 n0 n1 n2 g0 g1 g2 nz k0 k1 k2 k3 k4 k5 k6 k7 l0 l1 l2 l3 l4 l5 l6 l7
      go_loopw [22] (fun i wr => ∃ k : Nat, k ≤ 3 ∧ i = .int .i64 k ∧ Hid (ClaimAt w wr p w2.heap.size (sd a b c p) k)) (fun i _ => 3 - (intOf i).toNat)
      case atStart => exact ⟨0, by omega, rfl, HC0⟩
      case round =>
        obtain ⟨k, hk, rfl, hC⟩ := hrel
        replace hC := hC.out
        by_cases hlt : k < 3
        · have hk3 : k = 0 ∨ k = 1 ∨ k = 2 := by omega
          rcases hk3 with rfl | rfl | rfl
          · have q0 := hC.p0; have q1 := hC.p1; have q2 := hC.a0; have q3 := hC.a1; have q4 := hC.a2; have q5 := hC.f0; have q6 := hC.f1; have q7 := hC.f2; have q8 := hC.lt; have q9 := hC.siz
            simp only [Nat.lt_irrefl, Nat.reduceLT, if_true, if_false] at q2 q3 q4
            have q10 : w.heap.size + 1 < wr.heap.size := by omega
            go_wp2_with (go_at_call 21; refine (side_any b c p ob oc hp _).mono ?_; rintro e w4 ⟨rfl, hb4⟩; have hw4 := bel_call hb4 (bel_alloc _ (bel_refl wr)); have r2 := cell_later hw4 q2; have r3 := cell_later hw4 q3; have r4 := cell_later hw4 q4; have r5 := (hw4.frozen (p := ⟨w2.heap.size, 0, none⟩) q8).trans q5; have r6 := (hw4.frozen (p := ⟨w2.heap.size, 1, none⟩) q8).trans q6; have r7 := (hw4.frozen (p := ⟨w2.heap.size, 2, none⟩) q8).trans q7)
            go_roundw
            case rel => exact ⟨0 + 1, by omega, by go_num, hC.step hw4 (by omega)⟩
            case measure => simp [intOf]
          · have q0 := hC.p0; have q1 := hC.p1; have q2 := hC.a0; have q3 := hC.a1; have q4 := hC.a2; have q5 := hC.f0; have q6 := hC.f1; have q7 := hC.f2; have q8 := hC.lt; have q9 := hC.siz
            simp only [Nat.lt_irrefl, Nat.reduceLT, if_true, if_false] at q2 q3 q4
            have q10 : w.heap.size + 1 < wr.heap.size := by omega
            go_wp2_with (go_at_call 21; refine (side_any c a p oc oa hp _).mono ?_; rintro e w4 ⟨rfl, hb4⟩; have hw4 := bel_call hb4 (bel_alloc _ (bel_refl wr)); have r2 := cell_later hw4 q2; have r3 := cell_later hw4 q3; have r4 := cell_later hw4 q4; have r5 := (hw4.frozen (p := ⟨w2.heap.size, 0, none⟩) q8).trans q5; have r6 := (hw4.frozen (p := ⟨w2.heap.size, 1, none⟩) q8).trans q6; have r7 := (hw4.frozen (p := ⟨w2.heap.size, 2, none⟩) q8).trans q7)
            go_roundw
            case rel => exact ⟨1 + 1, by omega, by go_num, hC.step hw4 (by omega)⟩
            case measure => simp [intOf]
          · have q0 := hC.p0; have q1 := hC.p1; have q2 := hC.a0; have q3 := hC.a1; have q4 := hC.a2; have q5 := hC.f0; have q6 := hC.f1; have q7 := hC.f2; have q8 := hC.lt; have q9 := hC.siz
            simp only [Nat.lt_irrefl, Nat.reduceLT, if_true, if_false] at q2 q3 q4
            have q10 : w.heap.size + 1 < wr.heap.size := by omega
            go_wp2_with (go_at_call 21; refine (side_any a b p oa ob hp _).mono ?_; rintro e w4 ⟨rfl, hb4⟩; have hw4 := bel_call hb4 (bel_alloc _ (bel_refl wr)); have r2 := cell_later hw4 q2; have r3 := cell_later hw4 q3; have r4 := cell_later hw4 q4; have r5 := (hw4.frozen (p := ⟨w2.heap.size, 0, none⟩) q8).trans q5; have r6 := (hw4.frozen (p := ⟨w2.heap.size, 1, none⟩) q8).trans q6; have r7 := (hw4.frozen (p := ⟨w2.heap.size, 2, none⟩) q8).trans q7)
            go_roundw
            case rel => exact ⟨2 + 1, by omega, by go_num, hC.step hw4 (by omega)⟩
            case measure => simp [intOf]
        · obtain rfl : k = 3 := by omega
          have q0 := hC.a0; have q1 := hC.a1; have q2 := hC.a2; have hB := hC.bel
          simp only [Nat.reduceLT, if_true] at q0 q1 q2
          have g40 := neq40 (sd a b c p 0) (sd a b c p 1) (sd a b c p 2) (sg (area a b c)) (sg (area a b c)) (sg (area a b c))
          have hf := Hfin.out _ _ _ rfl rfl rfl
          by_cases hq : sd a b c p 0 = sg (area a b c) ∧ sd a b c p 1 = sg (area a b c) ∧ sd a b c p 2 = sg (area a b c)
          · have hd : decide ([sd a b c p 0, sd a b c p 1, sd a b c p 2] = [sg (area a b c), sg (area a b c), sg (area a b c)]) = true := by simp [hq]
            rw [if_pos hq] at hf
            have Hf := Lib.hid hf
            clear hf hq
            rw [hd] at g40
            go_wp2
            go_ret
            exact ⟨by rw [Hf.out]; rfl, hB⟩
          · have hd : decide ([sd a b c p 0, sd a b c p 1, sd a b c p 2] = [sg (area a b c), sg (area a b c), sg (area a b c)]) = false := by simpa using hq
            rw [if_neg hq] at hf
            have Hf := Lib.hid hf
            clear hf hq
            rw [hd] at g40
            go_wp2
            go_ret
            exact ⟨by rw [Hf.out]; rfl, hB⟩
    · have e0 : claim a b c p = 0 := if_pos (Or.inr hp)
      have e1 : okAll (fun _ => p) 1 = false := by rw [okAll_one]; exact decide_eq_false hp
      rw [e0]
      clear h0 hp
      go_enter Try.func8, Try.ntmps8
      go_wp2_with (first
        | (go_at_call 9; refine (area_any a b c _).mono ?_; rintro e w1 ⟨rfl, hb1⟩; have k0 : w1.cell? ⟨w.heap.size + 1, 0, none⟩ = some (.int .i64 p.x) := cell_later hb1 (by simp); have k1 : w1.cell? ⟨w.heap.size + 1, 1, none⟩ = some (.int .i64 p.y) := cell_later hb1 (by simp))
        | (go_at_call 18; refine (sign_any _ _).mono ?_; rintro e w1 ⟨rfl, rfl⟩)
        | (go_at_call 19; refine (may_one p _ _ ?_ ?_).mono ?_; (simp [go_sem]); (simp [go_sem]); rintro e w2 ⟨rfl, hb2⟩; rw [e1]))
      go_ret
      exact ⟨rfl, bel_call hb2 (bel_alloc _ (bel_call hb1 (bel_alloc _ (bel_alloc _ (bel_refl _)))))⟩
end Go.Proofs.Ytoighnoliehafaa
