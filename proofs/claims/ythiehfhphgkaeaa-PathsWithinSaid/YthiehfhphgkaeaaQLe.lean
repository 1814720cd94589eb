/- What is proved: a line of a move and lines, as it is told. No condition but the numbers' own bounds. -/
import Derived.Test.YthiehfhphgkaeaaQLk00
import Derived.Test.YthiehfhphgkaeaaQLk10
import Derived.Test.YthiehfhphgkaeaaQLk20
import Derived.Test.YthiehfhphgkaeaaQLk30
import Derived.Test.YthiehfhphgkaeaaQLk40
set_option linter.unusedSimpArgs false
set_option linter.unusedVariables false
namespace Go.Proofs.Ythiehfhphgkaeaa
open Go Go.RowKit Sx Wi
def memOr (g h : Ctx → List SV → Heap → Res (SV × Heap)) : Ctx → List SV → Heap → Res (SV × Heap) := fun X args σ =>
  match g X args σ with
  | .fail _ => h X args σ
  | r => r
theorem memOr_ok {P : Program} {X : Ctx} {ρ : Nat → Int} {gb : Globs} {f : FuncId} {g h : Ctx → List SV → Heap → Res (SV × Heap)} (hg : MemOk P X ρ gb f g) (hh : MemOk P X ρ gb f h) : MemOk P X ρ gb f (memOr g h) := by
  intro args σ s σ' e
  unfold memOr at e
  split at e
  · exact hh args σ s σ' e
  · exact hg args σ s σ' e
set_option maxRecDepth 100000 in
theorem linek_mem0 (x0 x1 x2 x3 x4 x5 : Int) (b0 : -2147483648 ≤ x0 ∧ x0 ≤ 2147483647) (b1 : -2147483648 ≤ x1 ∧ x1 ≤ 2147483647) (b2 : -2147483648 ≤ x2 ∧ x2 ≤ 2147483647) (b3 : -2147483648 ≤ x3 ∧ x3 ≤ 2147483647) (b4 : -2147483648 ≤ x4 ∧ x4 ≤ 2147483647) (b5 : -2147483648 ≤ x5 ∧ x5 ≤ 2147483647) : MemFun Try.prog G GB 16 linek_F0 (rho ([x0, x1, x2, x3, x4, x5] : List Int)) := by
  refine memFun_way (lp := lpNil) (run := linek_run0 Try.prog) (fun _ => rfl) fits (within_get ⟨b0, b1, b2, b3, b4, b5, trivial⟩) gi_ok (fun X hX hG => ct_level_ok hX hG) (fun X hX hG fn c hf hc => lpOk_lpNil) rfl ?_
  refine way_leaf linek0_n0 ?_
  exact ⟨rfl, trivial⟩
def linek_e0 : Ctx → List SV → Heap → Res (SV × Heap) := memEntry GB linek_vt0 0 (.lit true) linek_F0
theorem linek_ok0 {X : Ctx} {ρ : Nat → Int} (hX : X.Ok ρ) (hG : X.G = G) : MemOk Try.prog X ρ GB 16 linek_e0 := by
  obtain ⟨XG, XI, XV, XF⟩ := X
  simp only at hG
  subst hG
  refine memEntry_ok hX ?_
  intro xs ls hw hl _
  have hl' : ls = [] := List.length_eq_zero_iff.1 hl
  subst hl'
  rw [List.append_nil]
  unfold linek_vt0 at hw
  obtain ⟨x0, y0, e0, b0, h0⟩ := in_cons hw
  obtain ⟨x1, y1, e1, b1, h1⟩ := in_cons h0
  obtain ⟨x2, y2, e2, b2, h2⟩ := in_cons h1
  obtain ⟨x3, y3, e3, b3, h3⟩ := in_cons h2
  obtain ⟨x4, y4, e4, b4, h4⟩ := in_cons h3
  obtain ⟨x5, y5, e5, b5, h5⟩ := in_cons h4
  have e6 := in_nil h5
  subst e6 e5 e4 e3 e2 e1 e0
  exact linek_mem0 x0 x1 x2 x3 x4 x5 b0 b1 b2 b3 b4 b5
set_option maxRecDepth 100000 in
theorem linek_mem1 (x0 x1 x2 x3 x4 x5 x6 x7 x8 x9 x10 x11 : Int) (b0 : -2147483648 ≤ x0 ∧ x0 ≤ 2147483647) (b1 : -2147483648 ≤ x1 ∧ x1 ≤ 2147483647) (b2 : -2147483648 ≤ x2 ∧ x2 ≤ 2147483647) (b3 : -2147483648 ≤ x3 ∧ x3 ≤ 2147483647) (b4 : -2147483648 ≤ x4 ∧ x4 ≤ 2147483647) (b5 : -2147483648 ≤ x5 ∧ x5 ≤ 2147483647) (b6 : -2147483648 ≤ x6 ∧ x6 ≤ 2147483647) (b7 : -2147483648 ≤ x7 ∧ x7 ≤ 2147483647) (b8 : -2147483648 ≤ x8 ∧ x8 ≤ 2147483647) (b9 : -2147483648 ≤ x9 ∧ x9 ≤ 2147483647) (b10 : -2147483648 ≤ x10 ∧ x10 ≤ 2147483647) (b11 : -2147483648 ≤ x11 ∧ x11 ≤ 2147483647) : MemFun Try.prog G GB 16 linek_F1 (rho ([x0, x1, x2, x3, x4, x5, x6, x7, x8, x9, x10, x11] : List Int)) := by
  refine memFun_way (lp := lpNil) (run := linek_run1 Try.prog) (fun _ => rfl) fits (within_get ⟨b0, b1, b2, b3, b4, b5, b6, b7, b8, b9, b10, b11, trivial⟩) gi_ok (fun X hX hG => ct_level_ok hX hG) (fun X hX hG fn c hf hc => lpOk_lpNil) rfl ?_
  refine way_leaf linek1_n0 ?_
  exact ⟨rfl, trivial⟩
def linek_e1 : Ctx → List SV → Heap → Res (SV × Heap) := memEntry GB linek_vt1 0 (.lit true) linek_F1
theorem linek_ok1 {X : Ctx} {ρ : Nat → Int} (hX : X.Ok ρ) (hG : X.G = G) : MemOk Try.prog X ρ GB 16 linek_e1 := by
  obtain ⟨XG, XI, XV, XF⟩ := X
  simp only at hG
  subst hG
  refine memEntry_ok hX ?_
  intro xs ls hw hl _
  have hl' : ls = [] := List.length_eq_zero_iff.1 hl
  subst hl'
  rw [List.append_nil]
  unfold linek_vt1 at hw
  obtain ⟨x0, y0, e0, b0, h0⟩ := in_cons hw
  obtain ⟨x1, y1, e1, b1, h1⟩ := in_cons h0
  obtain ⟨x2, y2, e2, b2, h2⟩ := in_cons h1
  obtain ⟨x3, y3, e3, b3, h3⟩ := in_cons h2
  obtain ⟨x4, y4, e4, b4, h4⟩ := in_cons h3
  obtain ⟨x5, y5, e5, b5, h5⟩ := in_cons h4
  obtain ⟨x6, y6, e6, b6, h6⟩ := in_cons h5
  obtain ⟨x7, y7, e7, b7, h7⟩ := in_cons h6
  obtain ⟨x8, y8, e8, b8, h8⟩ := in_cons h7
  obtain ⟨x9, y9, e9, b9, h9⟩ := in_cons h8
  obtain ⟨x10, y10, e10, b10, h10⟩ := in_cons h9
  obtain ⟨x11, y11, e11, b11, h11⟩ := in_cons h10
  have e12 := in_nil h11
  subst e12 e11 e10 e9 e8 e7 e6 e5 e4 e3 e2 e1 e0
  exact linek_mem1 x0 x1 x2 x3 x4 x5 x6 x7 x8 x9 x10 x11 b0 b1 b2 b3 b4 b5 b6 b7 b8 b9 b10 b11
set_option maxRecDepth 100000 in
theorem linek_mem2 (x0 x1 x2 x3 x4 x5 x6 x7 x8 x9 x10 x11 x12 x13 x14 x15 x16 x17 : Int) (b0 : -2147483648 ≤ x0 ∧ x0 ≤ 2147483647) (b1 : -2147483648 ≤ x1 ∧ x1 ≤ 2147483647) (b2 : -2147483648 ≤ x2 ∧ x2 ≤ 2147483647) (b3 : -2147483648 ≤ x3 ∧ x3 ≤ 2147483647) (b4 : -2147483648 ≤ x4 ∧ x4 ≤ 2147483647) (b5 : -2147483648 ≤ x5 ∧ x5 ≤ 2147483647) (b6 : -2147483648 ≤ x6 ∧ x6 ≤ 2147483647) (b7 : -2147483648 ≤ x7 ∧ x7 ≤ 2147483647) (b8 : -2147483648 ≤ x8 ∧ x8 ≤ 2147483647) (b9 : -2147483648 ≤ x9 ∧ x9 ≤ 2147483647) (b10 : -2147483648 ≤ x10 ∧ x10 ≤ 2147483647) (b11 : -2147483648 ≤ x11 ∧ x11 ≤ 2147483647) (b12 : -2147483648 ≤ x12 ∧ x12 ≤ 2147483647) (b13 : -2147483648 ≤ x13 ∧ x13 ≤ 2147483647) (b14 : -2147483648 ≤ x14 ∧ x14 ≤ 2147483647) (b15 : -2147483648 ≤ x15 ∧ x15 ≤ 2147483647) (b16 : -2147483648 ≤ x16 ∧ x16 ≤ 2147483647) (b17 : -2147483648 ≤ x17 ∧ x17 ≤ 2147483647) : MemFun Try.prog G GB 16 linek_F2 (rho ([x0, x1, x2, x3, x4, x5, x6, x7, x8, x9, x10, x11, x12, x13, x14, x15, x16, x17] : List Int)) := by
  refine memFun_way (lp := lpNil) (run := linek_run2 Try.prog) (fun _ => rfl) fits (within_get ⟨b0, b1, b2, b3, b4, b5, b6, b7, b8, b9, b10, b11, b12, b13, b14, b15, b16, b17, trivial⟩) gi_ok (fun X hX hG => ct_level_ok hX hG) (fun X hX hG fn c hf hc => lpOk_lpNil) rfl ?_
  refine way_leaf linek2_n0 ?_
  exact ⟨rfl, trivial⟩
def linek_e2 : Ctx → List SV → Heap → Res (SV × Heap) := memEntry GB linek_vt2 0 (.lit true) linek_F2
theorem linek_ok2 {X : Ctx} {ρ : Nat → Int} (hX : X.Ok ρ) (hG : X.G = G) : MemOk Try.prog X ρ GB 16 linek_e2 := by
  obtain ⟨XG, XI, XV, XF⟩ := X
  simp only at hG
  subst hG
  refine memEntry_ok hX ?_
  intro xs ls hw hl _
  have hl' : ls = [] := List.length_eq_zero_iff.1 hl
  subst hl'
  rw [List.append_nil]
  unfold linek_vt2 at hw
  obtain ⟨x0, y0, e0, b0, h0⟩ := in_cons hw
  obtain ⟨x1, y1, e1, b1, h1⟩ := in_cons h0
  obtain ⟨x2, y2, e2, b2, h2⟩ := in_cons h1
  obtain ⟨x3, y3, e3, b3, h3⟩ := in_cons h2
  obtain ⟨x4, y4, e4, b4, h4⟩ := in_cons h3
  obtain ⟨x5, y5, e5, b5, h5⟩ := in_cons h4
  obtain ⟨x6, y6, e6, b6, h6⟩ := in_cons h5
  obtain ⟨x7, y7, e7, b7, h7⟩ := in_cons h6
  obtain ⟨x8, y8, e8, b8, h8⟩ := in_cons h7
  obtain ⟨x9, y9, e9, b9, h9⟩ := in_cons h8
  obtain ⟨x10, y10, e10, b10, h10⟩ := in_cons h9
  obtain ⟨x11, y11, e11, b11, h11⟩ := in_cons h10
  obtain ⟨x12, y12, e12, b12, h12⟩ := in_cons h11
  obtain ⟨x13, y13, e13, b13, h13⟩ := in_cons h12
  obtain ⟨x14, y14, e14, b14, h14⟩ := in_cons h13
  obtain ⟨x15, y15, e15, b15, h15⟩ := in_cons h14
  obtain ⟨x16, y16, e16, b16, h16⟩ := in_cons h15
  obtain ⟨x17, y17, e17, b17, h17⟩ := in_cons h16
  have e18 := in_nil h17
  subst e18 e17 e16 e15 e14 e13 e12 e11 e10 e9 e8 e7 e6 e5 e4 e3 e2 e1 e0
  exact linek_mem2 x0 x1 x2 x3 x4 x5 x6 x7 x8 x9 x10 x11 x12 x13 x14 x15 x16 x17 b0 b1 b2 b3 b4 b5 b6 b7 b8 b9 b10 b11 b12 b13 b14 b15 b16 b17
set_option maxRecDepth 100000 in
theorem linek_mem3 (x0 x1 x2 x3 x4 x5 x6 x7 x8 x9 x10 x11 x12 x13 x14 x15 x16 x17 x18 x19 x20 x21 x22 x23 : Int) (b0 : -2147483648 ≤ x0 ∧ x0 ≤ 2147483647) (b1 : -2147483648 ≤ x1 ∧ x1 ≤ 2147483647) (b2 : -2147483648 ≤ x2 ∧ x2 ≤ 2147483647) (b3 : -2147483648 ≤ x3 ∧ x3 ≤ 2147483647) (b4 : -2147483648 ≤ x4 ∧ x4 ≤ 2147483647) (b5 : -2147483648 ≤ x5 ∧ x5 ≤ 2147483647) (b6 : -2147483648 ≤ x6 ∧ x6 ≤ 2147483647) (b7 : -2147483648 ≤ x7 ∧ x7 ≤ 2147483647) (b8 : -2147483648 ≤ x8 ∧ x8 ≤ 2147483647) (b9 : -2147483648 ≤ x9 ∧ x9 ≤ 2147483647) (b10 : -2147483648 ≤ x10 ∧ x10 ≤ 2147483647) (b11 : -2147483648 ≤ x11 ∧ x11 ≤ 2147483647) (b12 : -2147483648 ≤ x12 ∧ x12 ≤ 2147483647) (b13 : -2147483648 ≤ x13 ∧ x13 ≤ 2147483647) (b14 : -2147483648 ≤ x14 ∧ x14 ≤ 2147483647) (b15 : -2147483648 ≤ x15 ∧ x15 ≤ 2147483647) (b16 : -2147483648 ≤ x16 ∧ x16 ≤ 2147483647) (b17 : -2147483648 ≤ x17 ∧ x17 ≤ 2147483647) (b18 : -2147483648 ≤ x18 ∧ x18 ≤ 2147483647) (b19 : -2147483648 ≤ x19 ∧ x19 ≤ 2147483647) (b20 : -2147483648 ≤ x20 ∧ x20 ≤ 2147483647) (b21 : -2147483648 ≤ x21 ∧ x21 ≤ 2147483647) (b22 : -2147483648 ≤ x22 ∧ x22 ≤ 2147483647) (b23 : -2147483648 ≤ x23 ∧ x23 ≤ 2147483647) : MemFun Try.prog G GB 16 linek_F3 (rho ([x0, x1, x2, x3, x4, x5, x6, x7, x8, x9, x10, x11, x12, x13, x14, x15, x16, x17, x18, x19, x20, x21, x22, x23] : List Int)) := by
  refine memFun_way (lp := lpNil) (run := linek_run3 Try.prog) (fun _ => rfl) fits (within_get ⟨b0, b1, b2, b3, b4, b5, b6, b7, b8, b9, b10, b11, b12, b13, b14, b15, b16, b17, b18, b19, b20, b21, b22, b23, trivial⟩) gi_ok (fun X hX hG => ct_level_ok hX hG) (fun X hX hG fn c hf hc => lpOk_lpNil) rfl ?_
  refine way_leaf linek3_n0 ?_
  exact ⟨rfl, trivial⟩
def linek_e3 : Ctx → List SV → Heap → Res (SV × Heap) := memEntry GB linek_vt3 0 (.lit true) linek_F3
theorem linek_ok3 {X : Ctx} {ρ : Nat → Int} (hX : X.Ok ρ) (hG : X.G = G) : MemOk Try.prog X ρ GB 16 linek_e3 := by
  obtain ⟨XG, XI, XV, XF⟩ := X
  simp only at hG
  subst hG
  refine memEntry_ok hX ?_
  intro xs ls hw hl _
  have hl' : ls = [] := List.length_eq_zero_iff.1 hl
  subst hl'
  rw [List.append_nil]
  unfold linek_vt3 at hw
  obtain ⟨x0, y0, e0, b0, h0⟩ := in_cons hw
  obtain ⟨x1, y1, e1, b1, h1⟩ := in_cons h0
  obtain ⟨x2, y2, e2, b2, h2⟩ := in_cons h1
  obtain ⟨x3, y3, e3, b3, h3⟩ := in_cons h2
  obtain ⟨x4, y4, e4, b4, h4⟩ := in_cons h3
  obtain ⟨x5, y5, e5, b5, h5⟩ := in_cons h4
  obtain ⟨x6, y6, e6, b6, h6⟩ := in_cons h5
  obtain ⟨x7, y7, e7, b7, h7⟩ := in_cons h6
  obtain ⟨x8, y8, e8, b8, h8⟩ := in_cons h7
  obtain ⟨x9, y9, e9, b9, h9⟩ := in_cons h8
  obtain ⟨x10, y10, e10, b10, h10⟩ := in_cons h9
  obtain ⟨x11, y11, e11, b11, h11⟩ := in_cons h10
  obtain ⟨x12, y12, e12, b12, h12⟩ := in_cons h11
  obtain ⟨x13, y13, e13, b13, h13⟩ := in_cons h12
  obtain ⟨x14, y14, e14, b14, h14⟩ := in_cons h13
  obtain ⟨x15, y15, e15, b15, h15⟩ := in_cons h14
  obtain ⟨x16, y16, e16, b16, h16⟩ := in_cons h15
  obtain ⟨x17, y17, e17, b17, h17⟩ := in_cons h16
  obtain ⟨x18, y18, e18, b18, h18⟩ := in_cons h17
  obtain ⟨x19, y19, e19, b19, h19⟩ := in_cons h18
  obtain ⟨x20, y20, e20, b20, h20⟩ := in_cons h19
  obtain ⟨x21, y21, e21, b21, h21⟩ := in_cons h20
  obtain ⟨x22, y22, e22, b22, h22⟩ := in_cons h21
  obtain ⟨x23, y23, e23, b23, h23⟩ := in_cons h22
  have e24 := in_nil h23
  subst e24 e23 e22 e21 e20 e19 e18 e17 e16 e15 e14 e13 e12 e11 e10 e9 e8 e7 e6 e5 e4 e3 e2 e1 e0
  exact linek_mem3 x0 x1 x2 x3 x4 x5 x6 x7 x8 x9 x10 x11 x12 x13 x14 x15 x16 x17 x18 x19 x20 x21 x22 x23 b0 b1 b2 b3 b4 b5 b6 b7 b8 b9 b10 b11 b12 b13 b14 b15 b16 b17 b18 b19 b20 b21 b22 b23
set_option maxRecDepth 100000 in
theorem linek_mem4 (x0 x1 x2 x3 x4 x5 x6 x7 x8 x9 x10 x11 x12 x13 x14 x15 x16 x17 : Int) (b0 : -2147483648 ≤ x0 ∧ x0 ≤ 2147483647) (b1 : -2147483648 ≤ x1 ∧ x1 ≤ 2147483647) (b2 : -2147483648 ≤ x2 ∧ x2 ≤ 2147483647) (b3 : -2147483648 ≤ x3 ∧ x3 ≤ 2147483647) (b4 : -2147483648 ≤ x4 ∧ x4 ≤ 2147483647) (b5 : -2147483648 ≤ x5 ∧ x5 ≤ 2147483647) (b6 : -2147483648 ≤ x6 ∧ x6 ≤ 2147483647) (b7 : -2147483648 ≤ x7 ∧ x7 ≤ 2147483647) (b8 : -2147483648 ≤ x8 ∧ x8 ≤ 2147483647) (b9 : -2147483648 ≤ x9 ∧ x9 ≤ 2147483647) (b10 : -2147483648 ≤ x10 ∧ x10 ≤ 2147483647) (b11 : -2147483648 ≤ x11 ∧ x11 ≤ 2147483647) (b12 : -2147483648 ≤ x12 ∧ x12 ≤ 2147483647) (b13 : -2147483648 ≤ x13 ∧ x13 ≤ 2147483647) (b14 : -2147483648 ≤ x14 ∧ x14 ≤ 2147483647) (b15 : -2147483648 ≤ x15 ∧ x15 ≤ 2147483647) (b16 : -2147483648 ≤ x16 ∧ x16 ≤ 2147483647) (b17 : -2147483648 ≤ x17 ∧ x17 ≤ 2147483647) : MemFun Try.prog G GB 16 linek_F4 (rho ([x0, x1, x2, x3, x4, x5, x6, x7, x8, x9, x10, x11, x12, x13, x14, x15, x16, x17] : List Int)) := by
  refine memFun_way (lp := lpNil) (run := linek_run4 Try.prog) (fun _ => rfl) fits (within_get ⟨b0, b1, b2, b3, b4, b5, b6, b7, b8, b9, b10, b11, b12, b13, b14, b15, b16, b17, trivial⟩) gi_ok (fun X hX hG => ct_level_ok hX hG) (fun X hX hG fn c hf hc => lpOk_lpNil) rfl ?_
  refine way_leaf linek4_n0 ?_
  exact ⟨rfl, trivial⟩
def linek_e4 : Ctx → List SV → Heap → Res (SV × Heap) := memEntry GB linek_vt4 0 (.lit true) linek_F4
theorem linek_ok4 {X : Ctx} {ρ : Nat → Int} (hX : X.Ok ρ) (hG : X.G = G) : MemOk Try.prog X ρ GB 16 linek_e4 := by
  obtain ⟨XG, XI, XV, XF⟩ := X
  simp only at hG
  subst hG
  refine memEntry_ok hX ?_
  intro xs ls hw hl _
  have hl' : ls = [] := List.length_eq_zero_iff.1 hl
  subst hl'
  rw [List.append_nil]
  unfold linek_vt4 at hw
  obtain ⟨x0, y0, e0, b0, h0⟩ := in_cons hw
  obtain ⟨x1, y1, e1, b1, h1⟩ := in_cons h0
  obtain ⟨x2, y2, e2, b2, h2⟩ := in_cons h1
  obtain ⟨x3, y3, e3, b3, h3⟩ := in_cons h2
  obtain ⟨x4, y4, e4, b4, h4⟩ := in_cons h3
  obtain ⟨x5, y5, e5, b5, h5⟩ := in_cons h4
  obtain ⟨x6, y6, e6, b6, h6⟩ := in_cons h5
  obtain ⟨x7, y7, e7, b7, h7⟩ := in_cons h6
  obtain ⟨x8, y8, e8, b8, h8⟩ := in_cons h7
  obtain ⟨x9, y9, e9, b9, h9⟩ := in_cons h8
  obtain ⟨x10, y10, e10, b10, h10⟩ := in_cons h9
  obtain ⟨x11, y11, e11, b11, h11⟩ := in_cons h10
  obtain ⟨x12, y12, e12, b12, h12⟩ := in_cons h11
  obtain ⟨x13, y13, e13, b13, h13⟩ := in_cons h12
  obtain ⟨x14, y14, e14, b14, h14⟩ := in_cons h13
  obtain ⟨x15, y15, e15, b15, h15⟩ := in_cons h14
  obtain ⟨x16, y16, e16, b16, h16⟩ := in_cons h15
  obtain ⟨x17, y17, e17, b17, h17⟩ := in_cons h16
  have e18 := in_nil h17
  subst e18 e17 e16 e15 e14 e13 e12 e11 e10 e9 e8 e7 e6 e5 e4 e3 e2 e1 e0
  exact linek_mem4 x0 x1 x2 x3 x4 x5 x6 x7 x8 x9 x10 x11 x12 x13 x14 x15 x16 x17 b0 b1 b2 b3 b4 b5 b6 b7 b8 b9 b10 b11 b12 b13 b14 b15 b16 b17
def ct_lines : Contracts := ctConsM 16 (memOr line_entry (memOr linek_e0 (memOr linek_e1 (memOr linek_e2 (memOr linek_e3 linek_e4))))) ct_level
theorem ct_lines_ok {X : Ctx} {ρ : Nat → Int} (hX : X.Ok ρ) (hG : X.G = G) : CtOk Try.prog X ρ GB ct_lines := ctConsM_ok (memOr_ok (line_ok hX hG) (memOr_ok (linek_ok0 hX hG) (memOr_ok (linek_ok1 hX hG) (memOr_ok (linek_ok2 hX hG) (memOr_ok (linek_ok3 hX hG) (linek_ok4 hX hG)))))) (ct_level_ok hX hG)
end Go.Proofs.Ythiehfhphgkaeaa
