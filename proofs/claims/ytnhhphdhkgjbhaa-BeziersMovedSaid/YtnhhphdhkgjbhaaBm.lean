/- What is proved: a patch that is moved by whole 256ths has its places moved so. The conditions are those that are named. -/
import Derived.Test.YtnhhphdhkgjbhaaBl
set_option linter.unusedSimpArgs false
set_option linter.unusedVariables false
namespace Go.Proofs.Ytnhhphdhkgjbhaa
open Go Go.RowKit Sx Wi
theorem aX_moved {a0 a1 a2 a3 a4 a5 a6 a7 a8 a9 a10 a11 a12 a13 a14 a15 i j k u : Int} (h : aOk (l16 [a0, a1, a2, a3, a4, a5, a6, a7, a8, a9, a10, a11, a12, a13, a14, a15]) i j k) (h' : aOk (l16 [a0 + 256 * u, a1 + 256 * u, a2 + 256 * u, a3 + 256 * u, a4 + 256 * u, a5 + 256 * u, a6 + 256 * u, a7 + 256 * u, a8 + 256 * u, a9 + 256 * u, a10 + 256 * u, a11 + 256 * u, a12 + 256 * u, a13 + 256 * u, a14 + 256 * u, a15 + 256 * u]) i j k) : aX (l16 [a0 + 256 * u, a1 + 256 * u, a2 + 256 * u, a3 + 256 * u, a4 + 256 * u, a5 + 256 * u, a6 + 256 * u, a7 + 256 * u, a8 + 256 * u, a9 + 256 * u, a10 + 256 * u, a11 + 256 * u, a12 + 256 * u, a13 + 256 * u, a14 + 256 * u, a15 + 256 * u]) i j k = aX (l16 [a0, a1, a2, a3, a4, a5, a6, a7, a8, a9, a10, a11, a12, a13, a14, a15]) i j k + u := by
  unfold aX
  rw [if_pos h, if_pos h', ← Bz.at_moved _ _ _ _ u (p2_pos k h.1.1 h.1.2)]
  rfl
def near39 (x : Int) : Prop := -549755813888 ≤ x ∧ x ≤ 549755813888
theorem far_moved {x u : Int} (h : near39 x) (h0 : -32768 ≤ u) (h1 : u ≤ 32767) : far (x + 256 * u) := by unfold near39 at h; unfold far; omega
theorem far_near {x : Int} (h : near39 x) : far x := by unfold near39 at h; unfold far; omega
def near16 (a0 a1 a2 a3 a4 a5 a6 a7 a8 a9 a10 a11 a12 a13 a14 a15 : Int) : Prop := near39 a0 ∧ near39 a1 ∧ near39 a2 ∧ near39 a3 ∧ near39 a4 ∧ near39 a5 ∧ near39 a6 ∧ near39 a7 ∧ near39 a8 ∧ near39 a9 ∧ near39 a10 ∧ near39 a11 ∧ near39 a12 ∧ near39 a13 ∧ near39 a14 ∧ near39 a15
theorem far16_near {a0 a1 a2 a3 a4 a5 a6 a7 a8 a9 a10 a11 a12 a13 a14 a15 : Int} (h : near16 a0 a1 a2 a3 a4 a5 a6 a7 a8 a9 a10 a11 a12 a13 a14 a15) : far16 a0 a1 a2 a3 a4 a5 a6 a7 a8 a9 a10 a11 a12 a13 a14 a15 := by
  obtain ⟨h2, h3, h4, h5, h6, h7, h8, h9, h10, h11, h12, h13, h14, h15, h16, h17⟩ := h
  exact ⟨far_near h2, far_near h3, far_near h4, far_near h5, far_near h6, far_near h7, far_near h8, far_near h9, far_near h10, far_near h11, far_near h12, far_near h13, far_near h14, far_near h15, far_near h16, far_near h17⟩
theorem far16_moved {a0 a1 a2 a3 a4 a5 a6 a7 a8 a9 a10 a11 a12 a13 a14 a15 u : Int} (h : near16 a0 a1 a2 a3 a4 a5 a6 a7 a8 a9 a10 a11 a12 a13 a14 a15) (h0 : -32768 ≤ u) (h1 : u ≤ 32767) : far16 (a0 + 256 * u) (a1 + 256 * u) (a2 + 256 * u) (a3 + 256 * u) (a4 + 256 * u) (a5 + 256 * u) (a6 + 256 * u) (a7 + 256 * u) (a8 + 256 * u) (a9 + 256 * u) (a10 + 256 * u) (a11 + 256 * u) (a12 + 256 * u) (a13 + 256 * u) (a14 + 256 * u) (a15 + 256 * u) := by
  obtain ⟨q2, q3, q4, q5, q6, q7, q8, q9, q10, q11, q12, q13, q14, q15, q16, q17⟩ := h
  exact ⟨far_moved q2 h0 h1, far_moved q3 h0 h1, far_moved q4 h0 h1, far_moved q5 h0 h1, far_moved q6 h0 h1, far_moved q7 h0 h1, far_moved q8 h0 h1, far_moved q9 h0 h1, far_moved q10 h0 h1, far_moved q11 h0 h1, far_moved q12 h0 h1, far_moved q13 h0 h1, far_moved q14 h0 h1, far_moved q15 h0 h1, far_moved q16 h0 h1, far_moved q17 h0 h1⟩
theorem aOk2_moved {a0 a1 a2 a3 a4 a5 a6 a7 a8 a9 a10 a11 a12 a13 a14 a15 b0 b1 b2 b3 b4 b5 b6 b7 b8 b9 b10 b11 b12 b13 b14 b15 i j k u v : Int} (hx : near16 a0 a1 a2 a3 a4 a5 a6 a7 a8 a9 a10 a11 a12 a13 a14 a15) (hy : near16 b0 b1 b2 b3 b4 b5 b6 b7 b8 b9 b10 b11 b12 b13 b14 b15) (u0 : -32768 ≤ u) (u1 : u ≤ 32767) (v0 : -32768 ≤ v) (v1 : v ≤ 32767) :
    aOk2 (a0 + 256 * u) (a1 + 256 * u) (a2 + 256 * u) (a3 + 256 * u) (a4 + 256 * u) (a5 + 256 * u) (a6 + 256 * u) (a7 + 256 * u) (a8 + 256 * u) (a9 + 256 * u) (a10 + 256 * u) (a11 + 256 * u) (a12 + 256 * u) (a13 + 256 * u) (a14 + 256 * u) (a15 + 256 * u) (b0 + 256 * v) (b1 + 256 * v) (b2 + 256 * v) (b3 + 256 * v) (b4 + 256 * v) (b5 + 256 * v) (b6 + 256 * v) (b7 + 256 * v) (b8 + 256 * v) (b9 + 256 * v) (b10 + 256 * v) (b11 + 256 * v) (b12 + 256 * v) (b13 + 256 * v) (b14 + 256 * v) (b15 + 256 * v) i j k ↔ aOk2 a0 a1 a2 a3 a4 a5 a6 a7 a8 a9 a10 a11 a12 a13 a14 a15 b0 b1 b2 b3 b4 b5 b6 b7 b8 b9 b10 b11 b12 b13 b14 b15 i j k := by
  unfold aOk2
  constructor
  · rintro ⟨h1, h2, h3, h4, h5⟩; exact ⟨h1, h2, h3, far16_near hx, far16_near hy⟩
  · rintro ⟨h1, h2, h3, h4, h5⟩; exact ⟨h1, h2, h3, far16_moved hx u0 u1, far16_moved hy v0 v1⟩
end Go.Proofs.Ytnhhphdhkgjbhaa
