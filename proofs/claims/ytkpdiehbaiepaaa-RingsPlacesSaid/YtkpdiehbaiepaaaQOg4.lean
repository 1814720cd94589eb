/- What is proved: the ring beside a side, as it is told: a contract for each of the four sides. No condition but the numbers' own bounds. -/
import Derived.Test.YtkpdiehbaiepaaaQOg3
import Derived.Test.YtkpdiehbaiepaaaQg12
import Derived.Test.YtkpdiehbaiepaaaQg10
set_option linter.unusedSimpArgs false
set_option linter.unusedVariables false
namespace Go.Proofs.Ytkpdiehbaiepaaa
open Go Go.RowKit Sx Wi
theorem ring_loops : codeLoops (bodyOf Try.prog 37) = [loopNo (bodyOf Try.prog 37) 0] := by kernel_rfl
set_option maxRecDepth 100000 in
theorem ring_mem0 (x0 x1 x2 x3 x4 x5 x6 x7 x8 x9 x10 x11 x12 x13 x14 x15 x16 x17 x18 x19 x20 x21 x22 x23 x24 x25 x26 x27 x28 x29 x30 x31 x32 x33 : Int) (b0 : (-1099511627776) ≤ x0 ∧ x0 ≤ 1099511627776) (b1 : (-1099511627776) ≤ x1 ∧ x1 ≤ 1099511627776) (b2 : (-1099511627776) ≤ x2 ∧ x2 ≤ 1099511627776) (b3 : (-1099511627776) ≤ x3 ∧ x3 ≤ 1099511627776) (b4 : (-1099511627776) ≤ x4 ∧ x4 ≤ 1099511627776) (b5 : (-1099511627776) ≤ x5 ∧ x5 ≤ 1099511627776) (b6 : (-1099511627776) ≤ x6 ∧ x6 ≤ 1099511627776) (b7 : (-1099511627776) ≤ x7 ∧ x7 ≤ 1099511627776) (b8 : (-1099511627776) ≤ x8 ∧ x8 ≤ 1099511627776) (b9 : (-1099511627776) ≤ x9 ∧ x9 ≤ 1099511627776) (b10 : (-1099511627776) ≤ x10 ∧ x10 ≤ 1099511627776) (b11 : (-1099511627776) ≤ x11 ∧ x11 ≤ 1099511627776) (b12 : (-1099511627776) ≤ x12 ∧ x12 ≤ 1099511627776) (b13 : (-1099511627776) ≤ x13 ∧ x13 ≤ 1099511627776) (b14 : (-1099511627776) ≤ x14 ∧ x14 ≤ 1099511627776) (b15 : (-1099511627776) ≤ x15 ∧ x15 ≤ 1099511627776) (b16 : (-1099511627776) ≤ x16 ∧ x16 ≤ 1099511627776) (b17 : (-1099511627776) ≤ x17 ∧ x17 ≤ 1099511627776) (b18 : (-1099511627776) ≤ x18 ∧ x18 ≤ 1099511627776) (b19 : (-1099511627776) ≤ x19 ∧ x19 ≤ 1099511627776) (b20 : (-1099511627776) ≤ x20 ∧ x20 ≤ 1099511627776) (b21 : (-1099511627776) ≤ x21 ∧ x21 ≤ 1099511627776) (b22 : (-1099511627776) ≤ x22 ∧ x22 ≤ 1099511627776) (b23 : (-1099511627776) ≤ x23 ∧ x23 ≤ 1099511627776) (b24 : (-1099511627776) ≤ x24 ∧ x24 ≤ 1099511627776) (b25 : (-1099511627776) ≤ x25 ∧ x25 ≤ 1099511627776) (b26 : (-1099511627776) ≤ x26 ∧ x26 ≤ 1099511627776) (b27 : (-1099511627776) ≤ x27 ∧ x27 ≤ 1099511627776) (b28 : (-1099511627776) ≤ x28 ∧ x28 ≤ 1099511627776) (b29 : (-1099511627776) ≤ x29 ∧ x29 ≤ 1099511627776) (b30 : (-1099511627776) ≤ x30 ∧ x30 ≤ 1099511627776) (b31 : (-1099511627776) ≤ x31 ∧ x31 ≤ 1099511627776) (b32 : 1 ≤ x32 ∧ x32 ≤ 6) (b33 : 1 ≤ x33 ∧ x33 ≤ 6) : MemFun Try.prog G GB 37 ring_F0 (rho ([x0, x1, x2, x3, x4, x5, x6, x7, x8, x9, x10, x11, x12, x13, x14, x15, x16, x17, x18, x19, x20, x21, x22, x23, x24, x25, x26, x27, x28, x29, x30, x31, x32, x33] : List Int)) := by
  refine memFun_way (lp := ring_lp0) (run := ring_run0 Try.prog) (fun _ => rfl) (by kernel_rfl) (within_get ⟨b0, b1, b2, b3, b4, b5, b6, b7, b8, b9, b10, b11, b12, b13, b14, b15, b16, b17, b18, b19, b20, b21, b22, b23, b24, b25, b26, b27, b28, b29, b30, b31, b32, b33, trivial⟩) gi_ok (fun X hX hG => ct_at_ok hX hG) (fun X hX hG fn c hf hc => ?_) rfl ?_
  · refine lpOk_cons (bs := [loopNo (bodyOf Try.prog 37) 0]) ((congrArg codeLoops (bodyOf_eq hf hc)).symm.trans ring_loops) ?_
    intro b hb
    simp only [List.mem_cons, List.mem_nil_iff, or_false] at hb
    subst hb
    refine lpAt_any hX hG (by kernel_rfl) ?_
    intro p hp
    simp only [List.mem_cons, List.mem_nil_iff, or_false] at hp
    subst hp
    exact ring_uok0 x0 x1 x2 x3 x4 x5 x6 x7 x8 x9 x10 x11 x12 x13 x14 x15 x16 x17 x18 x19 x20 x21 x22 x23 x24 x25 x26 x27 x28 x29 x30 x31 x32 x33
  · skip
    refine way_leaf ogf0_n0 ?_
    exact ⟨rfl, trivial⟩
set_option maxRecDepth 100000 in
theorem ring_mem1 (x0 x1 x2 x3 x4 x5 x6 x7 x8 x9 x10 x11 x12 x13 x14 x15 x16 x17 x18 x19 x20 x21 x22 x23 x24 x25 x26 x27 x28 x29 x30 x31 x32 x33 : Int) (b0 : (-1099511627776) ≤ x0 ∧ x0 ≤ 1099511627776) (b1 : (-1099511627776) ≤ x1 ∧ x1 ≤ 1099511627776) (b2 : (-1099511627776) ≤ x2 ∧ x2 ≤ 1099511627776) (b3 : (-1099511627776) ≤ x3 ∧ x3 ≤ 1099511627776) (b4 : (-1099511627776) ≤ x4 ∧ x4 ≤ 1099511627776) (b5 : (-1099511627776) ≤ x5 ∧ x5 ≤ 1099511627776) (b6 : (-1099511627776) ≤ x6 ∧ x6 ≤ 1099511627776) (b7 : (-1099511627776) ≤ x7 ∧ x7 ≤ 1099511627776) (b8 : (-1099511627776) ≤ x8 ∧ x8 ≤ 1099511627776) (b9 : (-1099511627776) ≤ x9 ∧ x9 ≤ 1099511627776) (b10 : (-1099511627776) ≤ x10 ∧ x10 ≤ 1099511627776) (b11 : (-1099511627776) ≤ x11 ∧ x11 ≤ 1099511627776) (b12 : (-1099511627776) ≤ x12 ∧ x12 ≤ 1099511627776) (b13 : (-1099511627776) ≤ x13 ∧ x13 ≤ 1099511627776) (b14 : (-1099511627776) ≤ x14 ∧ x14 ≤ 1099511627776) (b15 : (-1099511627776) ≤ x15 ∧ x15 ≤ 1099511627776) (b16 : (-1099511627776) ≤ x16 ∧ x16 ≤ 1099511627776) (b17 : (-1099511627776) ≤ x17 ∧ x17 ≤ 1099511627776) (b18 : (-1099511627776) ≤ x18 ∧ x18 ≤ 1099511627776) (b19 : (-1099511627776) ≤ x19 ∧ x19 ≤ 1099511627776) (b20 : (-1099511627776) ≤ x20 ∧ x20 ≤ 1099511627776) (b21 : (-1099511627776) ≤ x21 ∧ x21 ≤ 1099511627776) (b22 : (-1099511627776) ≤ x22 ∧ x22 ≤ 1099511627776) (b23 : (-1099511627776) ≤ x23 ∧ x23 ≤ 1099511627776) (b24 : (-1099511627776) ≤ x24 ∧ x24 ≤ 1099511627776) (b25 : (-1099511627776) ≤ x25 ∧ x25 ≤ 1099511627776) (b26 : (-1099511627776) ≤ x26 ∧ x26 ≤ 1099511627776) (b27 : (-1099511627776) ≤ x27 ∧ x27 ≤ 1099511627776) (b28 : (-1099511627776) ≤ x28 ∧ x28 ≤ 1099511627776) (b29 : (-1099511627776) ≤ x29 ∧ x29 ≤ 1099511627776) (b30 : (-1099511627776) ≤ x30 ∧ x30 ≤ 1099511627776) (b31 : (-1099511627776) ≤ x31 ∧ x31 ≤ 1099511627776) (b32 : 1 ≤ x32 ∧ x32 ≤ 6) (b33 : 1 ≤ x33 ∧ x33 ≤ 6) : MemFun Try.prog G GB 37 ring_F1 (rho ([x0, x1, x2, x3, x4, x5, x6, x7, x8, x9, x10, x11, x12, x13, x14, x15, x16, x17, x18, x19, x20, x21, x22, x23, x24, x25, x26, x27, x28, x29, x30, x31, x32, x33] : List Int)) := by
  refine memFun_way (lp := ring_lp1) (run := ring_run1 Try.prog) (fun _ => rfl) (by kernel_rfl) (within_get ⟨b0, b1, b2, b3, b4, b5, b6, b7, b8, b9, b10, b11, b12, b13, b14, b15, b16, b17, b18, b19, b20, b21, b22, b23, b24, b25, b26, b27, b28, b29, b30, b31, b32, b33, trivial⟩) gi_ok (fun X hX hG => ct_at_ok hX hG) (fun X hX hG fn c hf hc => ?_) rfl ?_
  · refine lpOk_cons (bs := [loopNo (bodyOf Try.prog 37) 0]) ((congrArg codeLoops (bodyOf_eq hf hc)).symm.trans ring_loops) ?_
    intro b hb
    simp only [List.mem_cons, List.mem_nil_iff, or_false] at hb
    subst hb
    refine lpAt_any hX hG (by kernel_rfl) ?_
    intro p hp
    simp only [List.mem_cons, List.mem_nil_iff, or_false] at hp
    subst hp
    exact ring_uok1 x0 x1 x2 x3 x4 x5 x6 x7 x8 x9 x10 x11 x12 x13 x14 x15 x16 x17 x18 x19 x20 x21 x22 x23 x24 x25 x26 x27 x28 x29 x30 x31 x32 x33
  · skip
    refine way_leaf ogf1_n0 ?_
    exact ⟨rfl, trivial⟩
set_option maxRecDepth 100000 in
theorem ring_mem2 (x0 x1 x2 x3 x4 x5 x6 x7 x8 x9 x10 x11 x12 x13 x14 x15 x16 x17 x18 x19 x20 x21 x22 x23 x24 x25 x26 x27 x28 x29 x30 x31 x32 x33 : Int) (b0 : (-1099511627776) ≤ x0 ∧ x0 ≤ 1099511627776) (b1 : (-1099511627776) ≤ x1 ∧ x1 ≤ 1099511627776) (b2 : (-1099511627776) ≤ x2 ∧ x2 ≤ 1099511627776) (b3 : (-1099511627776) ≤ x3 ∧ x3 ≤ 1099511627776) (b4 : (-1099511627776) ≤ x4 ∧ x4 ≤ 1099511627776) (b5 : (-1099511627776) ≤ x5 ∧ x5 ≤ 1099511627776) (b6 : (-1099511627776) ≤ x6 ∧ x6 ≤ 1099511627776) (b7 : (-1099511627776) ≤ x7 ∧ x7 ≤ 1099511627776) (b8 : (-1099511627776) ≤ x8 ∧ x8 ≤ 1099511627776) (b9 : (-1099511627776) ≤ x9 ∧ x9 ≤ 1099511627776) (b10 : (-1099511627776) ≤ x10 ∧ x10 ≤ 1099511627776) (b11 : (-1099511627776) ≤ x11 ∧ x11 ≤ 1099511627776) (b12 : (-1099511627776) ≤ x12 ∧ x12 ≤ 1099511627776) (b13 : (-1099511627776) ≤ x13 ∧ x13 ≤ 1099511627776) (b14 : (-1099511627776) ≤ x14 ∧ x14 ≤ 1099511627776) (b15 : (-1099511627776) ≤ x15 ∧ x15 ≤ 1099511627776) (b16 : (-1099511627776) ≤ x16 ∧ x16 ≤ 1099511627776) (b17 : (-1099511627776) ≤ x17 ∧ x17 ≤ 1099511627776) (b18 : (-1099511627776) ≤ x18 ∧ x18 ≤ 1099511627776) (b19 : (-1099511627776) ≤ x19 ∧ x19 ≤ 1099511627776) (b20 : (-1099511627776) ≤ x20 ∧ x20 ≤ 1099511627776) (b21 : (-1099511627776) ≤ x21 ∧ x21 ≤ 1099511627776) (b22 : (-1099511627776) ≤ x22 ∧ x22 ≤ 1099511627776) (b23 : (-1099511627776) ≤ x23 ∧ x23 ≤ 1099511627776) (b24 : (-1099511627776) ≤ x24 ∧ x24 ≤ 1099511627776) (b25 : (-1099511627776) ≤ x25 ∧ x25 ≤ 1099511627776) (b26 : (-1099511627776) ≤ x26 ∧ x26 ≤ 1099511627776) (b27 : (-1099511627776) ≤ x27 ∧ x27 ≤ 1099511627776) (b28 : (-1099511627776) ≤ x28 ∧ x28 ≤ 1099511627776) (b29 : (-1099511627776) ≤ x29 ∧ x29 ≤ 1099511627776) (b30 : (-1099511627776) ≤ x30 ∧ x30 ≤ 1099511627776) (b31 : (-1099511627776) ≤ x31 ∧ x31 ≤ 1099511627776) (b32 : 1 ≤ x32 ∧ x32 ≤ 6) (b33 : 1 ≤ x33 ∧ x33 ≤ 6) : MemFun Try.prog G GB 37 ring_F2 (rho ([x0, x1, x2, x3, x4, x5, x6, x7, x8, x9, x10, x11, x12, x13, x14, x15, x16, x17, x18, x19, x20, x21, x22, x23, x24, x25, x26, x27, x28, x29, x30, x31, x32, x33] : List Int)) := by
  refine memFun_way (lp := ring_lp2) (run := ring_run2 Try.prog) (fun _ => rfl) (by kernel_rfl) (within_get ⟨b0, b1, b2, b3, b4, b5, b6, b7, b8, b9, b10, b11, b12, b13, b14, b15, b16, b17, b18, b19, b20, b21, b22, b23, b24, b25, b26, b27, b28, b29, b30, b31, b32, b33, trivial⟩) gi_ok (fun X hX hG => ct_at_ok hX hG) (fun X hX hG fn c hf hc => ?_) rfl ?_
  · refine lpOk_cons (bs := [loopNo (bodyOf Try.prog 37) 0]) ((congrArg codeLoops (bodyOf_eq hf hc)).symm.trans ring_loops) ?_
    intro b hb
    simp only [List.mem_cons, List.mem_nil_iff, or_false] at hb
    subst hb
    refine lpAt_any hX hG (by kernel_rfl) ?_
    intro p hp
    simp only [List.mem_cons, List.mem_nil_iff, or_false] at hp
    subst hp
    exact ring_uok2 x0 x1 x2 x3 x4 x5 x6 x7 x8 x9 x10 x11 x12 x13 x14 x15 x16 x17 x18 x19 x20 x21 x22 x23 x24 x25 x26 x27 x28 x29 x30 x31 x32 x33
  · skip
    refine way_leaf ogf2_n0 ?_
    exact ⟨rfl, trivial⟩
set_option maxRecDepth 100000 in
theorem ring_mem3 (x0 x1 x2 x3 x4 x5 x6 x7 x8 x9 x10 x11 x12 x13 x14 x15 x16 x17 x18 x19 x20 x21 x22 x23 x24 x25 x26 x27 x28 x29 x30 x31 x32 x33 : Int) (b0 : (-1099511627776) ≤ x0 ∧ x0 ≤ 1099511627776) (b1 : (-1099511627776) ≤ x1 ∧ x1 ≤ 1099511627776) (b2 : (-1099511627776) ≤ x2 ∧ x2 ≤ 1099511627776) (b3 : (-1099511627776) ≤ x3 ∧ x3 ≤ 1099511627776) (b4 : (-1099511627776) ≤ x4 ∧ x4 ≤ 1099511627776) (b5 : (-1099511627776) ≤ x5 ∧ x5 ≤ 1099511627776) (b6 : (-1099511627776) ≤ x6 ∧ x6 ≤ 1099511627776) (b7 : (-1099511627776) ≤ x7 ∧ x7 ≤ 1099511627776) (b8 : (-1099511627776) ≤ x8 ∧ x8 ≤ 1099511627776) (b9 : (-1099511627776) ≤ x9 ∧ x9 ≤ 1099511627776) (b10 : (-1099511627776) ≤ x10 ∧ x10 ≤ 1099511627776) (b11 : (-1099511627776) ≤ x11 ∧ x11 ≤ 1099511627776) (b12 : (-1099511627776) ≤ x12 ∧ x12 ≤ 1099511627776) (b13 : (-1099511627776) ≤ x13 ∧ x13 ≤ 1099511627776) (b14 : (-1099511627776) ≤ x14 ∧ x14 ≤ 1099511627776) (b15 : (-1099511627776) ≤ x15 ∧ x15 ≤ 1099511627776) (b16 : (-1099511627776) ≤ x16 ∧ x16 ≤ 1099511627776) (b17 : (-1099511627776) ≤ x17 ∧ x17 ≤ 1099511627776) (b18 : (-1099511627776) ≤ x18 ∧ x18 ≤ 1099511627776) (b19 : (-1099511627776) ≤ x19 ∧ x19 ≤ 1099511627776) (b20 : (-1099511627776) ≤ x20 ∧ x20 ≤ 1099511627776) (b21 : (-1099511627776) ≤ x21 ∧ x21 ≤ 1099511627776) (b22 : (-1099511627776) ≤ x22 ∧ x22 ≤ 1099511627776) (b23 : (-1099511627776) ≤ x23 ∧ x23 ≤ 1099511627776) (b24 : (-1099511627776) ≤ x24 ∧ x24 ≤ 1099511627776) (b25 : (-1099511627776) ≤ x25 ∧ x25 ≤ 1099511627776) (b26 : (-1099511627776) ≤ x26 ∧ x26 ≤ 1099511627776) (b27 : (-1099511627776) ≤ x27 ∧ x27 ≤ 1099511627776) (b28 : (-1099511627776) ≤ x28 ∧ x28 ≤ 1099511627776) (b29 : (-1099511627776) ≤ x29 ∧ x29 ≤ 1099511627776) (b30 : (-1099511627776) ≤ x30 ∧ x30 ≤ 1099511627776) (b31 : (-1099511627776) ≤ x31 ∧ x31 ≤ 1099511627776) (b32 : 1 ≤ x32 ∧ x32 ≤ 6) (b33 : 1 ≤ x33 ∧ x33 ≤ 6) : MemFun Try.prog G GB 37 ring_F3 (rho ([x0, x1, x2, x3, x4, x5, x6, x7, x8, x9, x10, x11, x12, x13, x14, x15, x16, x17, x18, x19, x20, x21, x22, x23, x24, x25, x26, x27, x28, x29, x30, x31, x32, x33] : List Int)) := by
  refine memFun_way (lp := ring_lp3) (run := ring_run3 Try.prog) (fun _ => rfl) (by kernel_rfl) (within_get ⟨b0, b1, b2, b3, b4, b5, b6, b7, b8, b9, b10, b11, b12, b13, b14, b15, b16, b17, b18, b19, b20, b21, b22, b23, b24, b25, b26, b27, b28, b29, b30, b31, b32, b33, trivial⟩) gi_ok (fun X hX hG => ct_at_ok hX hG) (fun X hX hG fn c hf hc => ?_) rfl ?_
  · refine lpOk_cons (bs := [loopNo (bodyOf Try.prog 37) 0]) ((congrArg codeLoops (bodyOf_eq hf hc)).symm.trans ring_loops) ?_
    intro b hb
    simp only [List.mem_cons, List.mem_nil_iff, or_false] at hb
    subst hb
    refine lpAt_any hX hG (by kernel_rfl) ?_
    intro p hp
    simp only [List.mem_cons, List.mem_nil_iff, or_false] at hp
    subst hp
    exact ring_uok3 x0 x1 x2 x3 x4 x5 x6 x7 x8 x9 x10 x11 x12 x13 x14 x15 x16 x17 x18 x19 x20 x21 x22 x23 x24 x25 x26 x27 x28 x29 x30 x31 x32 x33
  · skip
    refine way_leaf ogf3_n0 ?_
    exact ⟨rfl, trivial⟩
theorem ring_cons {p : Int × Int} {l : List (Int × Int)} {xs : List Int} (h : within (p :: l) xs) : ∃ x ys, xs = x :: ys ∧ (p.1 ≤ x ∧ x ≤ p.2) ∧ within l ys := by
  cases xs with
  | nil => exact h.elim
  | cons x ys => exact ⟨x, ys, rfl, h.1, h.2⟩
theorem ring_nil {xs : List Int} (h : within [] xs) : xs = [] := by
  cases xs with
  | nil => rfl
  | cons x ys => exact h.elim
def memOr (g h : Ctx → List SV → Heap → Res (SV × Heap)) : Ctx → List SV → Heap → Res (SV × Heap) := fun X args σ =>
  match g X args σ with
  | .fail _ => h X args σ
  | r => r
theorem memOr_ok {P : Program} {X : Ctx} {ρ : Nat → Int} {gb : Globs} {f : FuncId} {g h : Ctx → List SV → Heap → Res (SV × Heap)} (hg : MemOk P X ρ gb f g) (hh : MemOk P X ρ gb f h) : MemOk P X ρ gb f (memOr g h) := by
  intro args σ s σ' e
  unfold memOr at e
  split at e
  · exact hh args σ s σ' e
  · exact hg args σ s σ' e
def ring_e0 : Ctx → List SV → Heap → Res (SV × Heap) := memEntry GB ring_vb 0 (.lit true) ring_F0
theorem ring_ok0 {X : Ctx} {ρ : Nat → Int} (hX : X.Ok ρ) (hG : X.G = G) : MemOk Try.prog X ρ GB 37 ring_e0 := by
  obtain ⟨XG, XI, XV, XF⟩ := X
  simp only at hG
  subst hG
  refine memEntry_ok hX ?_
  intro xs ls hw hl _
  have hl' : ls = [] := List.length_eq_zero_iff.1 hl
  subst hl'
  rw [List.append_nil]
  unfold ring_vb at hw
  obtain ⟨x0, y0, e0, b0, h0⟩ := ring_cons hw
  obtain ⟨x1, y1, e1, b1, h1⟩ := ring_cons h0
  obtain ⟨x2, y2, e2, b2, h2⟩ := ring_cons h1
  obtain ⟨x3, y3, e3, b3, h3⟩ := ring_cons h2
  obtain ⟨x4, y4, e4, b4, h4⟩ := ring_cons h3
  obtain ⟨x5, y5, e5, b5, h5⟩ := ring_cons h4
  obtain ⟨x6, y6, e6, b6, h6⟩ := ring_cons h5
  obtain ⟨x7, y7, e7, b7, h7⟩ := ring_cons h6
  obtain ⟨x8, y8, e8, b8, h8⟩ := ring_cons h7
  obtain ⟨x9, y9, e9, b9, h9⟩ := ring_cons h8
  obtain ⟨x10, y10, e10, b10, h10⟩ := ring_cons h9
  obtain ⟨x11, y11, e11, b11, h11⟩ := ring_cons h10
  obtain ⟨x12, y12, e12, b12, h12⟩ := ring_cons h11
  obtain ⟨x13, y13, e13, b13, h13⟩ := ring_cons h12
  obtain ⟨x14, y14, e14, b14, h14⟩ := ring_cons h13
  obtain ⟨x15, y15, e15, b15, h15⟩ := ring_cons h14
  obtain ⟨x16, y16, e16, b16, h16⟩ := ring_cons h15
  obtain ⟨x17, y17, e17, b17, h17⟩ := ring_cons h16
  obtain ⟨x18, y18, e18, b18, h18⟩ := ring_cons h17
  obtain ⟨x19, y19, e19, b19, h19⟩ := ring_cons h18
  obtain ⟨x20, y20, e20, b20, h20⟩ := ring_cons h19
  obtain ⟨x21, y21, e21, b21, h21⟩ := ring_cons h20
  obtain ⟨x22, y22, e22, b22, h22⟩ := ring_cons h21
  obtain ⟨x23, y23, e23, b23, h23⟩ := ring_cons h22
  obtain ⟨x24, y24, e24, b24, h24⟩ := ring_cons h23
  obtain ⟨x25, y25, e25, b25, h25⟩ := ring_cons h24
  obtain ⟨x26, y26, e26, b26, h26⟩ := ring_cons h25
  obtain ⟨x27, y27, e27, b27, h27⟩ := ring_cons h26
  obtain ⟨x28, y28, e28, b28, h28⟩ := ring_cons h27
  obtain ⟨x29, y29, e29, b29, h29⟩ := ring_cons h28
  obtain ⟨x30, y30, e30, b30, h30⟩ := ring_cons h29
  obtain ⟨x31, y31, e31, b31, h31⟩ := ring_cons h30
  obtain ⟨x32, y32, e32, b32, h32⟩ := ring_cons h31
  obtain ⟨x33, y33, e33, b33, h33⟩ := ring_cons h32
  have e34 := ring_nil h33
  subst e34 e33 e32 e31 e30 e29 e28 e27 e26 e25 e24 e23 e22 e21 e20 e19 e18 e17 e16 e15 e14 e13 e12 e11 e10 e9 e8 e7 e6 e5 e4 e3 e2 e1 e0
  exact ring_mem0 x0 x1 x2 x3 x4 x5 x6 x7 x8 x9 x10 x11 x12 x13 x14 x15 x16 x17 x18 x19 x20 x21 x22 x23 x24 x25 x26 x27 x28 x29 x30 x31 x32 x33 b0 b1 b2 b3 b4 b5 b6 b7 b8 b9 b10 b11 b12 b13 b14 b15 b16 b17 b18 b19 b20 b21 b22 b23 b24 b25 b26 b27 b28 b29 b30 b31 b32 b33
def ring_e1 : Ctx → List SV → Heap → Res (SV × Heap) := memEntry GB ring_vb 0 (.lit true) ring_F1
theorem ring_ok1 {X : Ctx} {ρ : Nat → Int} (hX : X.Ok ρ) (hG : X.G = G) : MemOk Try.prog X ρ GB 37 ring_e1 := by
  obtain ⟨XG, XI, XV, XF⟩ := X
  simp only at hG
  subst hG
  refine memEntry_ok hX ?_
  intro xs ls hw hl _
  have hl' : ls = [] := List.length_eq_zero_iff.1 hl
  subst hl'
  rw [List.append_nil]
  unfold ring_vb at hw
  obtain ⟨x0, y0, e0, b0, h0⟩ := ring_cons hw
  obtain ⟨x1, y1, e1, b1, h1⟩ := ring_cons h0
  obtain ⟨x2, y2, e2, b2, h2⟩ := ring_cons h1
  obtain ⟨x3, y3, e3, b3, h3⟩ := ring_cons h2
  obtain ⟨x4, y4, e4, b4, h4⟩ := ring_cons h3
  obtain ⟨x5, y5, e5, b5, h5⟩ := ring_cons h4
  obtain ⟨x6, y6, e6, b6, h6⟩ := ring_cons h5
  obtain ⟨x7, y7, e7, b7, h7⟩ := ring_cons h6
  obtain ⟨x8, y8, e8, b8, h8⟩ := ring_cons h7
  obtain ⟨x9, y9, e9, b9, h9⟩ := ring_cons h8
  obtain ⟨x10, y10, e10, b10, h10⟩ := ring_cons h9
  obtain ⟨x11, y11, e11, b11, h11⟩ := ring_cons h10
  obtain ⟨x12, y12, e12, b12, h12⟩ := ring_cons h11
  obtain ⟨x13, y13, e13, b13, h13⟩ := ring_cons h12
  obtain ⟨x14, y14, e14, b14, h14⟩ := ring_cons h13
  obtain ⟨x15, y15, e15, b15, h15⟩ := ring_cons h14
  obtain ⟨x16, y16, e16, b16, h16⟩ := ring_cons h15
  obtain ⟨x17, y17, e17, b17, h17⟩ := ring_cons h16
  obtain ⟨x18, y18, e18, b18, h18⟩ := ring_cons h17
  obtain ⟨x19, y19, e19, b19, h19⟩ := ring_cons h18
  obtain ⟨x20, y20, e20, b20, h20⟩ := ring_cons h19
  obtain ⟨x21, y21, e21, b21, h21⟩ := ring_cons h20
  obtain ⟨x22, y22, e22, b22, h22⟩ := ring_cons h21
  obtain ⟨x23, y23, e23, b23, h23⟩ := ring_cons h22
  obtain ⟨x24, y24, e24, b24, h24⟩ := ring_cons h23
  obtain ⟨x25, y25, e25, b25, h25⟩ := ring_cons h24
  obtain ⟨x26, y26, e26, b26, h26⟩ := ring_cons h25
  obtain ⟨x27, y27, e27, b27, h27⟩ := ring_cons h26
  obtain ⟨x28, y28, e28, b28, h28⟩ := ring_cons h27
  obtain ⟨x29, y29, e29, b29, h29⟩ := ring_cons h28
  obtain ⟨x30, y30, e30, b30, h30⟩ := ring_cons h29
  obtain ⟨x31, y31, e31, b31, h31⟩ := ring_cons h30
  obtain ⟨x32, y32, e32, b32, h32⟩ := ring_cons h31
  obtain ⟨x33, y33, e33, b33, h33⟩ := ring_cons h32
  have e34 := ring_nil h33
  subst e34 e33 e32 e31 e30 e29 e28 e27 e26 e25 e24 e23 e22 e21 e20 e19 e18 e17 e16 e15 e14 e13 e12 e11 e10 e9 e8 e7 e6 e5 e4 e3 e2 e1 e0
  exact ring_mem1 x0 x1 x2 x3 x4 x5 x6 x7 x8 x9 x10 x11 x12 x13 x14 x15 x16 x17 x18 x19 x20 x21 x22 x23 x24 x25 x26 x27 x28 x29 x30 x31 x32 x33 b0 b1 b2 b3 b4 b5 b6 b7 b8 b9 b10 b11 b12 b13 b14 b15 b16 b17 b18 b19 b20 b21 b22 b23 b24 b25 b26 b27 b28 b29 b30 b31 b32 b33
def ring_e2 : Ctx → List SV → Heap → Res (SV × Heap) := memEntry GB ring_vb 0 (.lit true) ring_F2
theorem ring_ok2 {X : Ctx} {ρ : Nat → Int} (hX : X.Ok ρ) (hG : X.G = G) : MemOk Try.prog X ρ GB 37 ring_e2 := by
  obtain ⟨XG, XI, XV, XF⟩ := X
  simp only at hG
  subst hG
  refine memEntry_ok hX ?_
  intro xs ls hw hl _
  have hl' : ls = [] := List.length_eq_zero_iff.1 hl
  subst hl'
  rw [List.append_nil]
  unfold ring_vb at hw
  obtain ⟨x0, y0, e0, b0, h0⟩ := ring_cons hw
  obtain ⟨x1, y1, e1, b1, h1⟩ := ring_cons h0
  obtain ⟨x2, y2, e2, b2, h2⟩ := ring_cons h1
  obtain ⟨x3, y3, e3, b3, h3⟩ := ring_cons h2
  obtain ⟨x4, y4, e4, b4, h4⟩ := ring_cons h3
  obtain ⟨x5, y5, e5, b5, h5⟩ := ring_cons h4
  obtain ⟨x6, y6, e6, b6, h6⟩ := ring_cons h5
  obtain ⟨x7, y7, e7, b7, h7⟩ := ring_cons h6
  obtain ⟨x8, y8, e8, b8, h8⟩ := ring_cons h7
  obtain ⟨x9, y9, e9, b9, h9⟩ := ring_cons h8
  obtain ⟨x10, y10, e10, b10, h10⟩ := ring_cons h9
  obtain ⟨x11, y11, e11, b11, h11⟩ := ring_cons h10
  obtain ⟨x12, y12, e12, b12, h12⟩ := ring_cons h11
  obtain ⟨x13, y13, e13, b13, h13⟩ := ring_cons h12
  obtain ⟨x14, y14, e14, b14, h14⟩ := ring_cons h13
  obtain ⟨x15, y15, e15, b15, h15⟩ := ring_cons h14
  obtain ⟨x16, y16, e16, b16, h16⟩ := ring_cons h15
  obtain ⟨x17, y17, e17, b17, h17⟩ := ring_cons h16
  obtain ⟨x18, y18, e18, b18, h18⟩ := ring_cons h17
  obtain ⟨x19, y19, e19, b19, h19⟩ := ring_cons h18
  obtain ⟨x20, y20, e20, b20, h20⟩ := ring_cons h19
  obtain ⟨x21, y21, e21, b21, h21⟩ := ring_cons h20
  obtain ⟨x22, y22, e22, b22, h22⟩ := ring_cons h21
  obtain ⟨x23, y23, e23, b23, h23⟩ := ring_cons h22
  obtain ⟨x24, y24, e24, b24, h24⟩ := ring_cons h23
  obtain ⟨x25, y25, e25, b25, h25⟩ := ring_cons h24
  obtain ⟨x26, y26, e26, b26, h26⟩ := ring_cons h25
  obtain ⟨x27, y27, e27, b27, h27⟩ := ring_cons h26
  obtain ⟨x28, y28, e28, b28, h28⟩ := ring_cons h27
  obtain ⟨x29, y29, e29, b29, h29⟩ := ring_cons h28
  obtain ⟨x30, y30, e30, b30, h30⟩ := ring_cons h29
  obtain ⟨x31, y31, e31, b31, h31⟩ := ring_cons h30
  obtain ⟨x32, y32, e32, b32, h32⟩ := ring_cons h31
  obtain ⟨x33, y33, e33, b33, h33⟩ := ring_cons h32
  have e34 := ring_nil h33
  subst e34 e33 e32 e31 e30 e29 e28 e27 e26 e25 e24 e23 e22 e21 e20 e19 e18 e17 e16 e15 e14 e13 e12 e11 e10 e9 e8 e7 e6 e5 e4 e3 e2 e1 e0
  exact ring_mem2 x0 x1 x2 x3 x4 x5 x6 x7 x8 x9 x10 x11 x12 x13 x14 x15 x16 x17 x18 x19 x20 x21 x22 x23 x24 x25 x26 x27 x28 x29 x30 x31 x32 x33 b0 b1 b2 b3 b4 b5 b6 b7 b8 b9 b10 b11 b12 b13 b14 b15 b16 b17 b18 b19 b20 b21 b22 b23 b24 b25 b26 b27 b28 b29 b30 b31 b32 b33
def ring_e3 : Ctx → List SV → Heap → Res (SV × Heap) := memEntry GB ring_vb 0 (.lit true) ring_F3
theorem ring_ok3 {X : Ctx} {ρ : Nat → Int} (hX : X.Ok ρ) (hG : X.G = G) : MemOk Try.prog X ρ GB 37 ring_e3 := by
  obtain ⟨XG, XI, XV, XF⟩ := X
  simp only at hG
  subst hG
  refine memEntry_ok hX ?_
  intro xs ls hw hl _
  have hl' : ls = [] := List.length_eq_zero_iff.1 hl
  subst hl'
  rw [List.append_nil]
  unfold ring_vb at hw
  obtain ⟨x0, y0, e0, b0, h0⟩ := ring_cons hw
  obtain ⟨x1, y1, e1, b1, h1⟩ := ring_cons h0
  obtain ⟨x2, y2, e2, b2, h2⟩ := ring_cons h1
  obtain ⟨x3, y3, e3, b3, h3⟩ := ring_cons h2
  obtain ⟨x4, y4, e4, b4, h4⟩ := ring_cons h3
  obtain ⟨x5, y5, e5, b5, h5⟩ := ring_cons h4
  obtain ⟨x6, y6, e6, b6, h6⟩ := ring_cons h5
  obtain ⟨x7, y7, e7, b7, h7⟩ := ring_cons h6
  obtain ⟨x8, y8, e8, b8, h8⟩ := ring_cons h7
  obtain ⟨x9, y9, e9, b9, h9⟩ := ring_cons h8
  obtain ⟨x10, y10, e10, b10, h10⟩ := ring_cons h9
  obtain ⟨x11, y11, e11, b11, h11⟩ := ring_cons h10
  obtain ⟨x12, y12, e12, b12, h12⟩ := ring_cons h11
  obtain ⟨x13, y13, e13, b13, h13⟩ := ring_cons h12
  obtain ⟨x14, y14, e14, b14, h14⟩ := ring_cons h13
  obtain ⟨x15, y15, e15, b15, h15⟩ := ring_cons h14
  obtain ⟨x16, y16, e16, b16, h16⟩ := ring_cons h15
  obtain ⟨x17, y17, e17, b17, h17⟩ := ring_cons h16
  obtain ⟨x18, y18, e18, b18, h18⟩ := ring_cons h17
  obtain ⟨x19, y19, e19, b19, h19⟩ := ring_cons h18
  obtain ⟨x20, y20, e20, b20, h20⟩ := ring_cons h19
  obtain ⟨x21, y21, e21, b21, h21⟩ := ring_cons h20
  obtain ⟨x22, y22, e22, b22, h22⟩ := ring_cons h21
  obtain ⟨x23, y23, e23, b23, h23⟩ := ring_cons h22
  obtain ⟨x24, y24, e24, b24, h24⟩ := ring_cons h23
  obtain ⟨x25, y25, e25, b25, h25⟩ := ring_cons h24
  obtain ⟨x26, y26, e26, b26, h26⟩ := ring_cons h25
  obtain ⟨x27, y27, e27, b27, h27⟩ := ring_cons h26
  obtain ⟨x28, y28, e28, b28, h28⟩ := ring_cons h27
  obtain ⟨x29, y29, e29, b29, h29⟩ := ring_cons h28
  obtain ⟨x30, y30, e30, b30, h30⟩ := ring_cons h29
  obtain ⟨x31, y31, e31, b31, h31⟩ := ring_cons h30
  obtain ⟨x32, y32, e32, b32, h32⟩ := ring_cons h31
  obtain ⟨x33, y33, e33, b33, h33⟩ := ring_cons h32
  have e34 := ring_nil h33
  subst e34 e33 e32 e31 e30 e29 e28 e27 e26 e25 e24 e23 e22 e21 e20 e19 e18 e17 e16 e15 e14 e13 e12 e11 e10 e9 e8 e7 e6 e5 e4 e3 e2 e1 e0
  exact ring_mem3 x0 x1 x2 x3 x4 x5 x6 x7 x8 x9 x10 x11 x12 x13 x14 x15 x16 x17 x18 x19 x20 x21 x22 x23 x24 x25 x26 x27 x28 x29 x30 x31 x32 x33 b0 b1 b2 b3 b4 b5 b6 b7 b8 b9 b10 b11 b12 b13 b14 b15 b16 b17 b18 b19 b20 b21 b22 b23 b24 b25 b26 b27 b28 b29 b30 b31 b32 b33
def ct_ring : Contracts := ctConsM 37 (memOr ring_e0 (memOr ring_e1 (memOr ring_e2 ring_e3))) ct_at
theorem ct_ring_ok {X : Ctx} {ρ : Nat → Int} (hX : X.Ok ρ) (hG : X.G = G) : CtOk Try.prog X ρ GB ct_ring := ctConsM_ok (memOr_ok (ring_ok0 hX hG) (memOr_ok (ring_ok1 hX hG) (memOr_ok (ring_ok2 hX hG) (ring_ok3 hX hG)))) (ct_at_ok hX hG)
end Go.Proofs.Ytkpdiehbaiepaaa
