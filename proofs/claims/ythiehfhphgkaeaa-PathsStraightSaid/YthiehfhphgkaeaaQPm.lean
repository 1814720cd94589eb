/- What is proved: where a curve's dots lie, and its ends, in plain Lean. No condition but those that are stated. -/
import Derived.Test.YthiehfhphgkaeaaQPl
set_option linter.unusedSimpArgs false
set_option linter.unusedVariables false
namespace Go.Proofs.Ythiehfhphgkaeaa
open Go Go.RowKit Sx Wi
theorem fx_near (n : Int) : Fx.near n 256 = (n + 128) / 256 := by unfold Fx.near; omega
theorem pnum_le (a b c d i m : Int) (h0 : 0 ≤ i) (h : i ≤ m) (hm : 0 < m) : pnum a b c d i m ≤ Fx.near (max (max (max a b) c) d) 256 := by
  rw [pnum_edge, fx_near]
  exact Bz.edge_le _ _ _ _ _ _ _ h0 h hm (by omega) (by omega) (by omega) (by omega)
theorem pnum_ge (a b c d i m : Int) (h0 : 0 ≤ i) (h : i ≤ m) (hm : 0 < m) : Fx.near (min (min (min a b) c) d) 256 ≤ pnum a b c d i m := by
  rw [pnum_edge, fx_near]
  exact Bz.edge_ge _ _ _ _ _ _ _ h0 h hm (by omega) (by omega) (by omega) (by omega)
theorem wrap_at {n : Int} (h1 : -9223372036854775808 ≤ n) (h2 : n ≤ 9223372036854775807) : IntKind.i64.wrap n = n := by
  unfold IntKind.wrap
  simp [IntKind.bits, IntKind.signed]
  omega
theorem near_fits {n : Int} (h : -2147483648 ≤ n ∧ n ≤ 2147483647) : -9223372036854775808 ≤ Fx.near n 256 ∧ Fx.near n 256 ≤ 9223372036854775807 := by
  rw [fx_near]; omega
theorem read_1 {a b : Int} (i j v : Int) (h : ([[a, b]].getD i.toNat []).getD j.toNat 0 = v) (h1 : -9223372036854775808 ≤ v) (h2 : v ≤ 9223372036854775807) : G 83 [G 91 [0, a, b], i, j] = v := by
  rw [enc_1]; exact (rd_enc .i64 _ i j).trans (by rw [h, wrap_at h1 h2])
theorem read_2 {a b c d : Int} (i j v : Int) (h : ([[a, b], [c, d]].getD i.toNat []).getD j.toNat 0 = v) (h1 : -9223372036854775808 ≤ v) (h2 : v ≤ 9223372036854775807) : G 83 [G 91 [G 91 [0, a, b], c, d], i, j] = v := by
  rw [enc_2]; exact (rd_enc .i64 _ i j).trans (by rw [h, wrap_at h1 h2])
theorem near_fitsG {n : Int} (h : -2147483648 ≤ n ∧ n ≤ 2147483647) : -9223372036854775808 ≤ G 2 [n, 256] ∧ G 2 [n, 256] ≤ 9223372036854775807 := near_fits h
theorem read_200 {a b c d : Int} (h : -9223372036854775808 ≤ a ∧ a ≤ 9223372036854775807) : G 83 [G 91 [G 91 [0, a, b], c, d], 0, 0] = a := read_2 0 0 a rfl h.1 h.2
theorem read_201 {a b c d : Int} (h : -9223372036854775808 ≤ b ∧ b ≤ 9223372036854775807) : G 83 [G 91 [G 91 [0, a, b], c, d], 0, 1] = b := read_2 0 1 b rfl h.1 h.2
theorem read_210 {a b c d : Int} (h : -9223372036854775808 ≤ c ∧ c ≤ 9223372036854775807) : G 83 [G 91 [G 91 [0, a, b], c, d], 1, 0] = c := read_2 1 0 c rfl h.1 h.2
theorem read_211 {a b c d : Int} (h : -9223372036854775808 ≤ d ∧ d ≤ 9223372036854775807) : G 83 [G 91 [G 91 [0, a, b], c, d], 1, 1] = d := read_2 1 1 d rfl h.1 h.2
section
variable {x0 x1 x2 x3 x4 x5 x6 x7 : Int} (b0 : -2147483648 ≤ x0 ∧ x0 ≤ 2147483647) (b1 : -2147483648 ≤ x1 ∧ x1 ≤ 2147483647) (b2 : -2147483648 ≤ x2 ∧ x2 ≤ 2147483647) (b3 : -2147483648 ≤ x3 ∧ x3 ≤ 2147483647) (b4 : -2147483648 ≤ x4 ∧ x4 ≤ 2147483647) (b5 : -2147483648 ≤ x5 ∧ x5 ≤ 2147483647) (b6 : -2147483648 ≤ x6 ∧ x6 ≤ 2147483647) (b7 : -2147483648 ≤ x7 ∧ x7 ≤ 2147483647)
include b0 b1 b2 b3 b4 b5 b6 b7
theorem dot_at {i : Int} (h0 : 0 ≤ i) (h1 : i ≤ pall [x0, x1, x2, x3, x4, x5, x6, x7]) :
    G 83 [G 44 [x0, x1, x2, x3, x4, x5, x6, x7], i, 0] = pnum x0 x2 x4 x6 i (pall [x0, x1, x2, x3, x4, x5, x6, x7]) ∧
    G 83 [G 44 [x0, x1, x2, x3, x4, x5, x6, x7], i, 1] = pnum x1 x3 x5 x7 i (pall [x0, x1, x2, x3, x4, x5, x6, x7]) := by
  have hp := pall_bd [x0, x1, x2, x3, x4, x5, x6, x7]
  have l0 := pnum_le x0 x2 x4 x6 i _ h0 h1 (by omega)
  have g0 := pnum_ge x0 x2 x4 x6 i _ h0 h1 (by omega)
  have l1 := pnum_le x1 x3 x5 x7 i _ h0 h1 (by omega)
  have g1 := pnum_ge x1 x3 x5 x7 i _ h0 h1 (by omega)
  have q0 := near_fits (n := max (max (max x0 x2) x4) x6) (by omega)
  have q1 := near_fits (n := min (min (min x0 x2) x4) x6) (by omega)
  have q2 := near_fits (n := max (max (max x1 x3) x5) x7) (by omega)
  have q3 := near_fits (n := min (min (min x1 x3) x5) x7) (by omega)
  refine ⟨(pat_eq .i64 h0 h1).trans ?_, (pat_eq .i64 h0 h1).trans ?_⟩
  · show IntKind.i64.wrap (pnum x0 x2 x4 x6 i _) = _
    exact wrap_at (by omega) (by omega)
  · show IntKind.i64.wrap (pnum x1 x3 x5 x7 i _) = _
    exact wrap_at (by omega) (by omega)
theorem within_all {i : Int} (h0 : 0 ≤ i) (h1 : i ≤ pall [x0, x1, x2, x3, x4, x5, x6, x7]) (C : Int)
    (hC : C = G 91 [G 91 [0, G 2 [min (min (min x0 x2) x4) x6, 256], G 2 [min (min (min x1 x3) x5) x7, 256]], G 2 [max (max (max x0 x2) x4) x6, 256], G 2 [max (max (max x1 x3) x5) x7, 256]]) :
    G 83 [C, 0, 0] ≤ G 83 [G 44 [x0, x1, x2, x3, x4, x5, x6, x7], i, 0] ∧ G 83 [C, 0, 1] ≤ G 83 [G 44 [x0, x1, x2, x3, x4, x5, x6, x7], i, 1] ∧ G 83 [G 44 [x0, x1, x2, x3, x4, x5, x6, x7], i, 0] ≤ G 83 [C, 1, 0] ∧ G 83 [G 44 [x0, x1, x2, x3, x4, x5, x6, x7], i, 1] ≤ G 83 [C, 1, 1] := by
  have hp := pall_bd [x0, x1, x2, x3, x4, x5, x6, x7]
  obtain ⟨d0, d1⟩ := dot_at b0 b1 b2 b3 b4 b5 b6 b7 h0 h1
  have q0 := near_fitsG (n := max (max (max x0 x2) x4) x6) (by omega)
  have q1 := near_fitsG (n := min (min (min x0 x2) x4) x6) (by omega)
  have q2 := near_fitsG (n := max (max (max x1 x3) x5) x7) (by omega)
  have q3 := near_fitsG (n := min (min (min x1 x3) x5) x7) (by omega)
  rw [d0, d1, hC]
  refine ⟨?_, ?_, ?_, ?_⟩
  · rw [read_200 q1]; exact pnum_ge _ _ _ _ _ _ h0 h1 (by omega)
  · rw [read_201 q3]; exact pnum_ge _ _ _ _ _ _ h0 h1 (by omega)
  · rw [read_210 q0]; exact pnum_le _ _ _ _ _ _ h0 h1 (by omega)
  · rw [read_211 q2]; exact pnum_le _ _ _ _ _ _ h0 h1 (by omega)
theorem ends_all (C : Int) (hC : C = G 91 [G 91 [0, G 2 [x0, 256], G 2 [x1, 256]], G 2 [x6, 256], G 2 [x7, 256]]) (m : Int) (hm : m = pall [x0, x1, x2, x3, x4, x5, x6, x7]) :
    G 83 [G 44 [x0, x1, x2, x3, x4, x5, x6, x7], 0, 0] = G 83 [C, 0, 0] ∧ G 83 [G 44 [x0, x1, x2, x3, x4, x5, x6, x7], 0, 1] = G 83 [C, 0, 1] ∧ G 83 [G 44 [x0, x1, x2, x3, x4, x5, x6, x7], m, 0] = G 83 [C, 1, 0] ∧ G 83 [G 44 [x0, x1, x2, x3, x4, x5, x6, x7], m, 1] = G 83 [C, 1, 1] := by
  have hp := pall_bd [x0, x1, x2, x3, x4, x5, x6, x7]
  obtain ⟨d0, d1⟩ := dot_at b0 b1 b2 b3 b4 b5 b6 b7 (i := 0) (by omega) (by omega)
  obtain ⟨e0, e1⟩ := dot_at b0 b1 b2 b3 b4 b5 b6 b7 (i := m) (by omega) (by omega)
  rw [d0, d1, e0, e1, hC, ← hm, pnum_0 _ _ _ _ _ (by omega), pnum_0 _ _ _ _ _ (by omega), pnum_1 _ _ _ _ _ (by omega), pnum_1 _ _ _ _ _ (by omega)]
  exact ⟨(read_200 (near_fitsG b0)).symm, (read_201 (near_fitsG b1)).symm, (read_210 (near_fitsG b6)).symm, (read_211 (near_fitsG b7)).symm⟩
end
end Go.Proofs.Ythiehfhphgkaeaa
