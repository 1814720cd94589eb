/- What is proved: the border line's contract. No condition but the numbers' own bounds. -/
import Derived.Test.YtkpdiehbaiepaaaQRz
set_option linter.unusedSimpArgs false
set_option linter.unusedVariables false
namespace Go.Proofs.Ytkpdiehbaiepaaa
open Go Go.RowKit Sx Wi
theorem within_cons {p : Int × Int} {l : List (Int × Int)} {xs : List Int} (h : within (p :: l) xs) : ∃ x ys, xs = x :: ys ∧ (p.1 ≤ x ∧ x ≤ p.2) ∧ within l ys := by
  cases xs with
  | nil => exact h.elim
  | cons x ys => exact ⟨x, ys, rfl, h.1, h.2⟩
theorem within_nil {xs : List Int} (h : within [] xs) : xs = [] := by
  cases xs with
  | nil => rfl
  | cons x ys => exact h.elim
def line_vt : List (Int × Int) := [((-9223372036854775808), 9223372036854775807), ((-9223372036854775808), 9223372036854775807), ((-9223372036854775808), 9223372036854775807), ((-9223372036854775808), 9223372036854775807), ((-9223372036854775808), 9223372036854775807), ((-9223372036854775808), 9223372036854775807), ((-9223372036854775808), 9223372036854775807), ((-9223372036854775808), 9223372036854775807), ((-9223372036854775808), 9223372036854775807), ((-9223372036854775808), 9223372036854775807), ((-9223372036854775808), 9223372036854775807), ((-9223372036854775808), 9223372036854775807), ((-9223372036854775808), 9223372036854775807), ((-9223372036854775808), 9223372036854775807), ((-9223372036854775808), 9223372036854775807), ((-9223372036854775808), 9223372036854775807), ((-9223372036854775808), 9223372036854775807), ((-9223372036854775808), 9223372036854775807), ((-9223372036854775808), 9223372036854775807), ((-9223372036854775808), 9223372036854775807), ((-9223372036854775808), 9223372036854775807), ((-9223372036854775808), 9223372036854775807), ((-9223372036854775808), 9223372036854775807), ((-9223372036854775808), 9223372036854775807), ((-9223372036854775808), 9223372036854775807), ((-9223372036854775808), 9223372036854775807), ((-9223372036854775808), 9223372036854775807), ((-9223372036854775808), 9223372036854775807), ((-9223372036854775808), 9223372036854775807), ((-9223372036854775808), 9223372036854775807), ((-9223372036854775808), 9223372036854775807), ((-9223372036854775808), 9223372036854775807), ((-9223372036854775808), 9223372036854775807)]
def line_entry : Ctx → List SV → Heap → Res (SV × Heap) := memEntry GB line_vt 0 (.lit true) line_F
theorem line_memok {X : Ctx} {ρ : Nat → Int} (hX : X.Ok ρ) (hG : X.G = G) : MemOk Try.prog X ρ GB 11 line_entry := by
  obtain ⟨XG, XI, XV, XF⟩ := X
  simp only at hG
  subst hG
  refine memEntry_ok hX ?_
  intro xs ls hw hl _
  have hl' : ls = [] := List.length_eq_zero_iff.1 hl
  subst hl'
  rw [List.append_nil]
  unfold line_vt at hw
  obtain ⟨x0, y0, e0, b0, h0⟩ := within_cons hw
  obtain ⟨x1, y1, e1, b1, h1⟩ := within_cons h0
  obtain ⟨x2, y2, e2, b2, h2⟩ := within_cons h1
  obtain ⟨x3, y3, e3, b3, h3⟩ := within_cons h2
  obtain ⟨x4, y4, e4, b4, h4⟩ := within_cons h3
  obtain ⟨x5, y5, e5, b5, h5⟩ := within_cons h4
  obtain ⟨x6, y6, e6, b6, h6⟩ := within_cons h5
  obtain ⟨x7, y7, e7, b7, h7⟩ := within_cons h6
  obtain ⟨x8, y8, e8, b8, h8⟩ := within_cons h7
  obtain ⟨x9, y9, e9, b9, h9⟩ := within_cons h8
  obtain ⟨x10, y10, e10, b10, h10⟩ := within_cons h9
  obtain ⟨x11, y11, e11, b11, h11⟩ := within_cons h10
  obtain ⟨x12, y12, e12, b12, h12⟩ := within_cons h11
  obtain ⟨x13, y13, e13, b13, h13⟩ := within_cons h12
  obtain ⟨x14, y14, e14, b14, h14⟩ := within_cons h13
  obtain ⟨x15, y15, e15, b15, h15⟩ := within_cons h14
  obtain ⟨x16, y16, e16, b16, h16⟩ := within_cons h15
  obtain ⟨x17, y17, e17, b17, h17⟩ := within_cons h16
  obtain ⟨x18, y18, e18, b18, h18⟩ := within_cons h17
  obtain ⟨x19, y19, e19, b19, h19⟩ := within_cons h18
  obtain ⟨x20, y20, e20, b20, h20⟩ := within_cons h19
  obtain ⟨x21, y21, e21, b21, h21⟩ := within_cons h20
  obtain ⟨x22, y22, e22, b22, h22⟩ := within_cons h21
  obtain ⟨x23, y23, e23, b23, h23⟩ := within_cons h22
  obtain ⟨x24, y24, e24, b24, h24⟩ := within_cons h23
  obtain ⟨x25, y25, e25, b25, h25⟩ := within_cons h24
  obtain ⟨x26, y26, e26, b26, h26⟩ := within_cons h25
  obtain ⟨x27, y27, e27, b27, h27⟩ := within_cons h26
  obtain ⟨x28, y28, e28, b28, h28⟩ := within_cons h27
  obtain ⟨x29, y29, e29, b29, h29⟩ := within_cons h28
  obtain ⟨x30, y30, e30, b30, h30⟩ := within_cons h29
  obtain ⟨x31, y31, e31, b31, h31⟩ := within_cons h30
  obtain ⟨x32, y32, e32, b32, h32⟩ := within_cons h31
  have e33 := within_nil h32
  subst e33 e32 e31 e30 e29 e28 e27 e26 e25 e24 e23 e22 e21 e20 e19 e18 e17 e16 e15 e14 e13 e12 e11 e10 e9 e8 e7 e6 e5 e4 e3 e2 e1 e0
  exact line_mem x0 x1 x2 x3 x4 x5 x6 x7 x8 x9 x10 x11 x12 x13 x14 x15 x16 x17 x18 x19 x20 x21 x22 x23 x24 x25 x26 x27 x28 x29 x30 x31 x32 b0 b1 b2 b3 b4 b5 b6 b7 b8 b9 b10 b11 b12 b13 b14 b15 b16 b17 b18 b19 b20 b21 b22 b23 b24 b25 b26 b27 b28 b29 b30 b31 b32
def ct_line : Contracts := ctConsM 11 line_entry ct_at
theorem ct_line_ok {X : Ctx} {ρ : Nat → Int} (hX : X.Ok ρ) (hG : X.G = G) : CtOk Try.prog X ρ GB ct_line := ctConsM_ok (line_memok hX hG) (ct_at_ok hX hG)
end Go.Proofs.Ytkpdiehbaiepaaa
