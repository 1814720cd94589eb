/- What is proved: the triangles of a patch, as they are told. No condition but the numbers' own bounds. -/
import Derived.Test.YtkpdiehbaiepaaaQNm
import Derived.Test.YtkpdiehbaiepaaaQOx
import Derived.Test.YtkpdiehbaiepaaaQg11
set_option linter.unusedSimpArgs false
set_option linter.unusedVariables false
namespace Go.Proofs.Ytkpdiehbaiepaaa
open Go Go.RowKit Sx Wi
set_option maxHeartbeats 8000000 in
set_option maxRecDepth 100000 in
theorem of_mem_lo (x0 x1 x2 x3 x4 x5 x6 x7 x8 x9 x10 x11 x12 x13 x14 x15 x16 x17 x18 x19 x20 x21 x22 x23 x24 x25 x26 x27 x28 x29 x30 x31 x32 x33 : Int) (b0 : (-9223372036854775808) ≤ x0 ∧ x0 ≤ 9223372036854775807) (b1 : (-9223372036854775808) ≤ x1 ∧ x1 ≤ 9223372036854775807) (b2 : (-9223372036854775808) ≤ x2 ∧ x2 ≤ 9223372036854775807) (b3 : (-9223372036854775808) ≤ x3 ∧ x3 ≤ 9223372036854775807) (b4 : (-9223372036854775808) ≤ x4 ∧ x4 ≤ 9223372036854775807) (b5 : (-9223372036854775808) ≤ x5 ∧ x5 ≤ 9223372036854775807) (b6 : (-9223372036854775808) ≤ x6 ∧ x6 ≤ 9223372036854775807) (b7 : (-9223372036854775808) ≤ x7 ∧ x7 ≤ 9223372036854775807) (b8 : (-9223372036854775808) ≤ x8 ∧ x8 ≤ 9223372036854775807) (b9 : (-9223372036854775808) ≤ x9 ∧ x9 ≤ 9223372036854775807) (b10 : (-9223372036854775808) ≤ x10 ∧ x10 ≤ 9223372036854775807) (b11 : (-9223372036854775808) ≤ x11 ∧ x11 ≤ 9223372036854775807) (b12 : (-9223372036854775808) ≤ x12 ∧ x12 ≤ 9223372036854775807) (b13 : (-9223372036854775808) ≤ x13 ∧ x13 ≤ 9223372036854775807) (b14 : (-9223372036854775808) ≤ x14 ∧ x14 ≤ 9223372036854775807) (b15 : (-9223372036854775808) ≤ x15 ∧ x15 ≤ 9223372036854775807) (b16 : (-9223372036854775808) ≤ x16 ∧ x16 ≤ 9223372036854775807) (b17 : (-9223372036854775808) ≤ x17 ∧ x17 ≤ 9223372036854775807) (b18 : (-9223372036854775808) ≤ x18 ∧ x18 ≤ 9223372036854775807) (b19 : (-9223372036854775808) ≤ x19 ∧ x19 ≤ 9223372036854775807) (b20 : (-9223372036854775808) ≤ x20 ∧ x20 ≤ 9223372036854775807) (b21 : (-9223372036854775808) ≤ x21 ∧ x21 ≤ 9223372036854775807) (b22 : (-9223372036854775808) ≤ x22 ∧ x22 ≤ 9223372036854775807) (b23 : (-9223372036854775808) ≤ x23 ∧ x23 ≤ 9223372036854775807) (b24 : (-9223372036854775808) ≤ x24 ∧ x24 ≤ 9223372036854775807) (b25 : (-9223372036854775808) ≤ x25 ∧ x25 ≤ 9223372036854775807) (b26 : (-9223372036854775808) ≤ x26 ∧ x26 ≤ 9223372036854775807) (b27 : (-9223372036854775808) ≤ x27 ∧ x27 ≤ 9223372036854775807) (b28 : (-9223372036854775808) ≤ x28 ∧ x28 ≤ 9223372036854775807) (b29 : (-9223372036854775808) ≤ x29 ∧ x29 ≤ 9223372036854775807) (b30 : (-9223372036854775808) ≤ x30 ∧ x30 ≤ 9223372036854775807) (b31 : (-9223372036854775808) ≤ x31 ∧ x31 ≤ 9223372036854775807) (b32 : (-9223372036854775808) ≤ x32 ∧ x32 ≤ 9223372036854775807) (b33 : (-9223372036854775808) ≤ x33 ∧ x33 ≤ 9223372036854775807) (hk : x32 ≤ 6) : MemFun Try.prog G GB 15 of_F (rho ([x0, x1, x2, x3, x4, x5, x6, x7, x8, x9, x10, x11, x12, x13, x14, x15, x16, x17, x18, x19, x20, x21, x22, x23, x24, x25, x26, x27, x28, x29, x30, x31, x32, x33] : List Int)) := by
  refine memFun_way (lp := of_lp) (run := of_run_lo Try.prog) (fun _ => rfl) (by kernel_rfl) (within_get ⟨b0, b1, b2, b3, b4, b5, b6, b7, b8, b9, b10, b11, b12, b13, b14, b15, b16, b17, b18, b19, b20, b21, b22, b23, b24, b25, b26, b27, b28, b29, b30, b31, ⟨b32.1, hk⟩, b33, trivial⟩) gi_ok (fun X hX hG => ct_ring_ok hX hG) (fun X hX hG fn c hf hc => ?_) rfl ?_
  · refine lpOk_cons (bs := [loopNo (bodyOf Try.prog 15) 0, loopNo (bodyOf Try.prog 15) 1, loopNo (bodyOf Try.prog 15) 2]) ((congrArg codeLoops (bodyOf_eq hf hc)).symm.trans of_loops) ?_
    intro b hb
    simp only [List.mem_cons, List.mem_nil_iff, or_false] at hb
    rcases hb with rfl | rfl | rfl
    · refine lpAt_any hX hG (by kernel_rfl) ?_
      intro p hp
      simp only [List.mem_cons, List.mem_nil_iff, or_false] at hp
      subst hp
      exact of2_uok x0 x1 x2 x3 x4 x5 x6 x7 x8 x9 x10 x11 x12 x13 x14 x15 x16 x17 x18 x19 x20 x21 x22 x23 x24 x25 x26 x27 x28 x29 x30 x31 x32 x33
    · exact lpAt_skip (j := 14) (by kernel_rfl) (by decide) lpAt_nil
    · exact lpAt_skip (j := 19) (by kernel_rfl) (by decide) lpAt_nil
  · skip
    refine way_cut (.cmp .le (.lit 1) (.var 32)) (fun h0 => ?_) (fun h0 => ?_)
    rotate_left
    · skip
      refine way_leaf of_lo_n8 ?_
      simp only [FunP]; refine ⟨?_, trivial⟩; show B.den G (rho ([x0, x1, x2, x3, x4, x5, x6, x7, x8, x9, x10, x11, x12, x13, x14, x15, x16, x17, x18, x19, x20, x21, x22, x23, x24, x25, x26, x27, x28, x29, x30, x31, x32, x33] : List Int)) of_b = _; unfold of_b; simp only [nm] at *; (try simp only [show (1 : Int) * 2 ^ (0 : Int).toNat = 1 from rfl] at *); (try simp only [Bool.eq_false_iff, ne_eq, Bool.and_eq_true, decide_eq_true_eq] at *); first | omega | (refine Bool.eq_false_iff.2 (fun h => ?_); simp only [Bool.and_eq_true, decide_eq_true_eq] at h; omega)
    refine way_cut (.cmp .le (.var 32) (.var 33)) (fun h1 => ?_) (fun h1 => ?_)
    rotate_left
    · skip
      refine way_leaf of_lo_n7 ?_
      simp only [FunP]; refine ⟨?_, trivial⟩; show B.den G (rho ([x0, x1, x2, x3, x4, x5, x6, x7, x8, x9, x10, x11, x12, x13, x14, x15, x16, x17, x18, x19, x20, x21, x22, x23, x24, x25, x26, x27, x28, x29, x30, x31, x32, x33] : List Int)) of_b = _; unfold of_b; simp only [nm] at *; (try simp only [show (1 : Int) * 2 ^ (0 : Int).toNat = 1 from rfl] at *); (try simp only [Bool.eq_false_iff, ne_eq, Bool.and_eq_true, decide_eq_true_eq] at *); first | omega | (refine Bool.eq_false_iff.2 (fun h => ?_); simp only [Bool.and_eq_true, decide_eq_true_eq] at h; omega)
    refine way_cut (.cmp .lt (.lit 6) (.var 33)) (fun h2 => ?_) (fun h2 => ?_)
    · skip
      refine way_leaf of_lo_n3 ?_
      simp only [FunP]; refine ⟨?_, trivial⟩; show B.den G (rho ([x0, x1, x2, x3, x4, x5, x6, x7, x8, x9, x10, x11, x12, x13, x14, x15, x16, x17, x18, x19, x20, x21, x22, x23, x24, x25, x26, x27, x28, x29, x30, x31, x32, x33] : List Int)) of_b = _; unfold of_b; simp only [nm] at *; (try simp only [show (1 : Int) * 2 ^ (0 : Int).toNat = 1 from rfl] at *); (try simp only [Bool.eq_false_iff, ne_eq, Bool.and_eq_true, decide_eq_true_eq] at *); first | omega | (refine Bool.eq_false_iff.2 (fun h => ?_); simp only [Bool.and_eq_true, decide_eq_true_eq] at h; omega)
    refine way_cut (.and (.cmp .le (.lit 0) (.lit 0)) (.and (.cmp .le (.lit 0) (.lit 6)) (.and (.cmp .le (.lit 0) (.lit 0)) (.and (.cmp .le (.lit 0) (.op .shl (.lit 1) (.lit 0))) (.and (.cmp .le (.lit 0) (.lit 0)) (.and (.cmp .le (.lit 0) (.op .shl (.lit 1) (.lit 0))) (.and (.cmp .le (.lit (-1099511627776)) (.var 0)) (.and (.cmp .le (.var 0) (.lit 1099511627776)) (.and (.cmp .le (.lit (-1099511627776)) (.var 2)) (.and (.cmp .le (.var 2) (.lit 1099511627776)) (.and (.cmp .le (.lit (-1099511627776)) (.var 4)) (.and (.cmp .le (.var 4) (.lit 1099511627776)) (.and (.cmp .le (.lit (-1099511627776)) (.var 6)) (.and (.cmp .le (.var 6) (.lit 1099511627776)) (.and (.cmp .le (.lit (-1099511627776)) (.var 8)) (.and (.cmp .le (.var 8) (.lit 1099511627776)) (.and (.cmp .le (.lit (-1099511627776)) (.var 10)) (.and (.cmp .le (.var 10) (.lit 1099511627776)) (.and (.cmp .le (.lit (-1099511627776)) (.var 12)) (.and (.cmp .le (.var 12) (.lit 1099511627776)) (.and (.cmp .le (.lit (-1099511627776)) (.var 14)) (.and (.cmp .le (.var 14) (.lit 1099511627776)) (.and (.cmp .le (.lit (-1099511627776)) (.var 16)) (.and (.cmp .le (.var 16) (.lit 1099511627776)) (.and (.cmp .le (.lit (-1099511627776)) (.var 18)) (.and (.cmp .le (.var 18) (.lit 1099511627776)) (.and (.cmp .le (.lit (-1099511627776)) (.var 20)) (.and (.cmp .le (.var 20) (.lit 1099511627776)) (.and (.cmp .le (.lit (-1099511627776)) (.var 22)) (.and (.cmp .le (.var 22) (.lit 1099511627776)) (.and (.cmp .le (.lit (-1099511627776)) (.var 24)) (.and (.cmp .le (.var 24) (.lit 1099511627776)) (.and (.cmp .le (.lit (-1099511627776)) (.var 26)) (.and (.cmp .le (.var 26) (.lit 1099511627776)) (.and (.cmp .le (.lit (-1099511627776)) (.var 28)) (.and (.cmp .le (.var 28) (.lit 1099511627776)) (.and (.cmp .le (.lit (-1099511627776)) (.var 30)) (.and (.cmp .le (.var 30) (.lit 1099511627776)) (.and (.cmp .le (.lit (-1099511627776)) (.var 1)) (.and (.cmp .le (.var 1) (.lit 1099511627776)) (.and (.cmp .le (.lit (-1099511627776)) (.var 3)) (.and (.cmp .le (.var 3) (.lit 1099511627776)) (.and (.cmp .le (.lit (-1099511627776)) (.var 5)) (.and (.cmp .le (.var 5) (.lit 1099511627776)) (.and (.cmp .le (.lit (-1099511627776)) (.var 7)) (.and (.cmp .le (.var 7) (.lit 1099511627776)) (.and (.cmp .le (.lit (-1099511627776)) (.var 9)) (.and (.cmp .le (.var 9) (.lit 1099511627776)) (.and (.cmp .le (.lit (-1099511627776)) (.var 11)) (.and (.cmp .le (.var 11) (.lit 1099511627776)) (.and (.cmp .le (.lit (-1099511627776)) (.var 13)) (.and (.cmp .le (.var 13) (.lit 1099511627776)) (.and (.cmp .le (.lit (-1099511627776)) (.var 15)) (.and (.cmp .le (.var 15) (.lit 1099511627776)) (.and (.cmp .le (.lit (-1099511627776)) (.var 17)) (.and (.cmp .le (.var 17) (.lit 1099511627776)) (.and (.cmp .le (.lit (-1099511627776)) (.var 19)) (.and (.cmp .le (.var 19) (.lit 1099511627776)) (.and (.cmp .le (.lit (-1099511627776)) (.var 21)) (.and (.cmp .le (.var 21) (.lit 1099511627776)) (.and (.cmp .le (.lit (-1099511627776)) (.var 23)) (.and (.cmp .le (.var 23) (.lit 1099511627776)) (.and (.cmp .le (.lit (-1099511627776)) (.var 25)) (.and (.cmp .le (.var 25) (.lit 1099511627776)) (.and (.cmp .le (.lit (-1099511627776)) (.var 27)) (.and (.cmp .le (.var 27) (.lit 1099511627776)) (.and (.cmp .le (.lit (-1099511627776)) (.var 29)) (.and (.cmp .le (.var 29) (.lit 1099511627776)) (.and (.cmp .le (.lit (-1099511627776)) (.var 31)) (.cmp .le (.var 31) (.lit 1099511627776))))))))))))))))))))))))))))))))))))))))))))))))))))))))))))))))))))))) (fun h3 => ?_) (fun h3 => ?_)
    · skip
      refine way_leaf of_lo_n5 ?_
      simp only [FunP]; refine ⟨?_, trivial⟩; show B.den G (rho ([x0, x1, x2, x3, x4, x5, x6, x7, x8, x9, x10, x11, x12, x13, x14, x15, x16, x17, x18, x19, x20, x21, x22, x23, x24, x25, x26, x27, x28, x29, x30, x31, x32, x33] : List Int)) of_b = _; unfold of_b; simp only [nm] at *; (try simp only [show (1 : Int) * 2 ^ (0 : Int).toNat = 1 from rfl] at *); (try simp only [Bool.eq_false_iff, ne_eq, Bool.and_eq_true, decide_eq_true_eq] at *); first | omega | (refine Bool.eq_false_iff.2 (fun h => ?_); simp only [Bool.and_eq_true, decide_eq_true_eq] at h; omega)
    refine way_leaf of_lo_n6 ?_
    simp only [FunP]; refine ⟨?_, trivial⟩; show B.den G (rho ([x0, x1, x2, x3, x4, x5, x6, x7, x8, x9, x10, x11, x12, x13, x14, x15, x16, x17, x18, x19, x20, x21, x22, x23, x24, x25, x26, x27, x28, x29, x30, x31, x32, x33] : List Int)) of_b = _; unfold of_b; simp only [nm] at *; (try simp only [show (1 : Int) * 2 ^ (0 : Int).toNat = 1 from rfl] at *); (try simp only [Bool.eq_false_iff, ne_eq, Bool.and_eq_true, decide_eq_true_eq] at *); first | omega | (refine Bool.eq_false_iff.2 (fun h => ?_); simp only [Bool.and_eq_true, decide_eq_true_eq] at h; omega)
set_option maxHeartbeats 8000000 in
set_option maxRecDepth 100000 in
theorem of_mem_hi (x0 x1 x2 x3 x4 x5 x6 x7 x8 x9 x10 x11 x12 x13 x14 x15 x16 x17 x18 x19 x20 x21 x22 x23 x24 x25 x26 x27 x28 x29 x30 x31 x32 x33 : Int) (b0 : (-9223372036854775808) ≤ x0 ∧ x0 ≤ 9223372036854775807) (b1 : (-9223372036854775808) ≤ x1 ∧ x1 ≤ 9223372036854775807) (b2 : (-9223372036854775808) ≤ x2 ∧ x2 ≤ 9223372036854775807) (b3 : (-9223372036854775808) ≤ x3 ∧ x3 ≤ 9223372036854775807) (b4 : (-9223372036854775808) ≤ x4 ∧ x4 ≤ 9223372036854775807) (b5 : (-9223372036854775808) ≤ x5 ∧ x5 ≤ 9223372036854775807) (b6 : (-9223372036854775808) ≤ x6 ∧ x6 ≤ 9223372036854775807) (b7 : (-9223372036854775808) ≤ x7 ∧ x7 ≤ 9223372036854775807) (b8 : (-9223372036854775808) ≤ x8 ∧ x8 ≤ 9223372036854775807) (b9 : (-9223372036854775808) ≤ x9 ∧ x9 ≤ 9223372036854775807) (b10 : (-9223372036854775808) ≤ x10 ∧ x10 ≤ 9223372036854775807) (b11 : (-9223372036854775808) ≤ x11 ∧ x11 ≤ 9223372036854775807) (b12 : (-9223372036854775808) ≤ x12 ∧ x12 ≤ 9223372036854775807) (b13 : (-9223372036854775808) ≤ x13 ∧ x13 ≤ 9223372036854775807) (b14 : (-9223372036854775808) ≤ x14 ∧ x14 ≤ 9223372036854775807) (b15 : (-9223372036854775808) ≤ x15 ∧ x15 ≤ 9223372036854775807) (b16 : (-9223372036854775808) ≤ x16 ∧ x16 ≤ 9223372036854775807) (b17 : (-9223372036854775808) ≤ x17 ∧ x17 ≤ 9223372036854775807) (b18 : (-9223372036854775808) ≤ x18 ∧ x18 ≤ 9223372036854775807) (b19 : (-9223372036854775808) ≤ x19 ∧ x19 ≤ 9223372036854775807) (b20 : (-9223372036854775808) ≤ x20 ∧ x20 ≤ 9223372036854775807) (b21 : (-9223372036854775808) ≤ x21 ∧ x21 ≤ 9223372036854775807) (b22 : (-9223372036854775808) ≤ x22 ∧ x22 ≤ 9223372036854775807) (b23 : (-9223372036854775808) ≤ x23 ∧ x23 ≤ 9223372036854775807) (b24 : (-9223372036854775808) ≤ x24 ∧ x24 ≤ 9223372036854775807) (b25 : (-9223372036854775808) ≤ x25 ∧ x25 ≤ 9223372036854775807) (b26 : (-9223372036854775808) ≤ x26 ∧ x26 ≤ 9223372036854775807) (b27 : (-9223372036854775808) ≤ x27 ∧ x27 ≤ 9223372036854775807) (b28 : (-9223372036854775808) ≤ x28 ∧ x28 ≤ 9223372036854775807) (b29 : (-9223372036854775808) ≤ x29 ∧ x29 ≤ 9223372036854775807) (b30 : (-9223372036854775808) ≤ x30 ∧ x30 ≤ 9223372036854775807) (b31 : (-9223372036854775808) ≤ x31 ∧ x31 ≤ 9223372036854775807) (b32 : (-9223372036854775808) ≤ x32 ∧ x32 ≤ 9223372036854775807) (b33 : (-9223372036854775808) ≤ x33 ∧ x33 ≤ 9223372036854775807) (hk : ¬ x32 ≤ 6) : MemFun Try.prog G GB 15 of_F (rho ([x0, x1, x2, x3, x4, x5, x6, x7, x8, x9, x10, x11, x12, x13, x14, x15, x16, x17, x18, x19, x20, x21, x22, x23, x24, x25, x26, x27, x28, x29, x30, x31, x32, x33] : List Int)) := by
  refine memFun_way (lp := of_lp) (run := of_run_hi Try.prog) (fun _ => rfl) (by kernel_rfl) (within_get ⟨b0, b1, b2, b3, b4, b5, b6, b7, b8, b9, b10, b11, b12, b13, b14, b15, b16, b17, b18, b19, b20, b21, b22, b23, b24, b25, b26, b27, b28, b29, b30, b31, ⟨by omega, b32.2⟩, b33, trivial⟩) gi_ok (fun X hX hG => ct_ring_ok hX hG) (fun X hX hG fn c hf hc => ?_) rfl ?_
  · refine lpOk_cons (bs := [loopNo (bodyOf Try.prog 15) 0, loopNo (bodyOf Try.prog 15) 1, loopNo (bodyOf Try.prog 15) 2]) ((congrArg codeLoops (bodyOf_eq hf hc)).symm.trans of_loops) ?_
    intro b hb
    simp only [List.mem_cons, List.mem_nil_iff, or_false] at hb
    rcases hb with rfl | rfl | rfl
    · refine lpAt_any hX hG (by kernel_rfl) ?_
      intro p hp
      simp only [List.mem_cons, List.mem_nil_iff, or_false] at hp
      subst hp
      exact of2_uok x0 x1 x2 x3 x4 x5 x6 x7 x8 x9 x10 x11 x12 x13 x14 x15 x16 x17 x18 x19 x20 x21 x22 x23 x24 x25 x26 x27 x28 x29 x30 x31 x32 x33
    · exact lpAt_skip (j := 14) (by kernel_rfl) (by decide) lpAt_nil
    · exact lpAt_skip (j := 19) (by kernel_rfl) (by decide) lpAt_nil
  · skip
    refine way_cut (.cmp .le (.var 32) (.var 33)) (fun h0 => ?_) (fun h0 => ?_)
    · skip
      refine way_leaf of_hi_n1 ?_
      simp only [FunP]; refine ⟨?_, trivial⟩; show B.den G (rho ([x0, x1, x2, x3, x4, x5, x6, x7, x8, x9, x10, x11, x12, x13, x14, x15, x16, x17, x18, x19, x20, x21, x22, x23, x24, x25, x26, x27, x28, x29, x30, x31, x32, x33] : List Int)) of_b = _; unfold of_b; simp only [nm] at *; (try simp only [show (1 : Int) * 2 ^ (0 : Int).toNat = 1 from rfl] at *); (try simp only [Bool.eq_false_iff, ne_eq, Bool.and_eq_true, decide_eq_true_eq] at *); first | omega | (refine Bool.eq_false_iff.2 (fun h => ?_); simp only [Bool.and_eq_true, decide_eq_true_eq] at h; omega)
    refine way_leaf of_hi_n2 ?_
    simp only [FunP]; refine ⟨?_, trivial⟩; show B.den G (rho ([x0, x1, x2, x3, x4, x5, x6, x7, x8, x9, x10, x11, x12, x13, x14, x15, x16, x17, x18, x19, x20, x21, x22, x23, x24, x25, x26, x27, x28, x29, x30, x31, x32, x33] : List Int)) of_b = _; unfold of_b; simp only [nm] at *; (try simp only [show (1 : Int) * 2 ^ (0 : Int).toNat = 1 from rfl] at *); (try simp only [Bool.eq_false_iff, ne_eq, Bool.and_eq_true, decide_eq_true_eq] at *); first | omega | (refine Bool.eq_false_iff.2 (fun h => ?_); simp only [Bool.and_eq_true, decide_eq_true_eq] at h; omega)
def of_vall : List (Int × Int) := [((-9223372036854775808), 9223372036854775807), ((-9223372036854775808), 9223372036854775807), ((-9223372036854775808), 9223372036854775807), ((-9223372036854775808), 9223372036854775807), ((-9223372036854775808), 9223372036854775807), ((-9223372036854775808), 9223372036854775807), ((-9223372036854775808), 9223372036854775807), ((-9223372036854775808), 9223372036854775807), ((-9223372036854775808), 9223372036854775807), ((-9223372036854775808), 9223372036854775807), ((-9223372036854775808), 9223372036854775807), ((-9223372036854775808), 9223372036854775807), ((-9223372036854775808), 9223372036854775807), ((-9223372036854775808), 9223372036854775807), ((-9223372036854775808), 9223372036854775807), ((-9223372036854775808), 9223372036854775807), ((-9223372036854775808), 9223372036854775807), ((-9223372036854775808), 9223372036854775807), ((-9223372036854775808), 9223372036854775807), ((-9223372036854775808), 9223372036854775807), ((-9223372036854775808), 9223372036854775807), ((-9223372036854775808), 9223372036854775807), ((-9223372036854775808), 9223372036854775807), ((-9223372036854775808), 9223372036854775807), ((-9223372036854775808), 9223372036854775807), ((-9223372036854775808), 9223372036854775807), ((-9223372036854775808), 9223372036854775807), ((-9223372036854775808), 9223372036854775807), ((-9223372036854775808), 9223372036854775807), ((-9223372036854775808), 9223372036854775807), ((-9223372036854775808), 9223372036854775807), ((-9223372036854775808), 9223372036854775807), ((-9223372036854775808), 9223372036854775807), ((-9223372036854775808), 9223372036854775807)]
def of_entry : Ctx → List SV → Heap → Res (SV × Heap) := memEntry GB of_vall 0 (.lit true) of_F
theorem of_memok {X : Ctx} {ρ : Nat → Int} (hX : X.Ok ρ) (hG : X.G = G) : MemOk Try.prog X ρ GB 15 of_entry := by
  obtain ⟨XG, XI, XV, XF⟩ := X
  simp only at hG
  subst hG
  refine memEntry_ok hX ?_
  intro xs ls hw hl _
  have hl' : ls = [] := List.length_eq_zero_iff.1 hl
  subst hl'
  rw [List.append_nil]
  unfold of_vall at hw
  obtain ⟨x0, y0, e0, b0, h0⟩ := ring_cons hw
  obtain ⟨x1, y1, e1, b1, h1⟩ := ring_cons h0
  obtain ⟨x2, y2, e2, b2, h2⟩ := ring_cons h1
  obtain ⟨x3, y3, e3, b3, h3⟩ := ring_cons h2
  obtain ⟨x4, y4, e4, b4, h4⟩ := ring_cons h3
  obtain ⟨x5, y5, e5, b5, h5⟩ := ring_cons h4
  obtain ⟨x6, y6, e6, b6, h6⟩ := ring_cons h5
  obtain ⟨x7, y7, e7, b7, h7⟩ := ring_cons h6
  obtain ⟨x8, y8, e8, b8, h8⟩ := ring_cons h7
  obtain ⟨x9, y9, e9, b9, h9⟩ := ring_cons h8
  obtain ⟨x10, y10, e10, b10, h10⟩ := ring_cons h9
  obtain ⟨x11, y11, e11, b11, h11⟩ := ring_cons h10
  obtain ⟨x12, y12, e12, b12, h12⟩ := ring_cons h11
  obtain ⟨x13, y13, e13, b13, h13⟩ := ring_cons h12
  obtain ⟨x14, y14, e14, b14, h14⟩ := ring_cons h13
  obtain ⟨x15, y15, e15, b15, h15⟩ := ring_cons h14
  obtain ⟨x16, y16, e16, b16, h16⟩ := ring_cons h15
  obtain ⟨x17, y17, e17, b17, h17⟩ := ring_cons h16
  obtain ⟨x18, y18, e18, b18, h18⟩ := ring_cons h17
  obtain ⟨x19, y19, e19, b19, h19⟩ := ring_cons h18
  obtain ⟨x20, y20, e20, b20, h20⟩ := ring_cons h19
  obtain ⟨x21, y21, e21, b21, h21⟩ := ring_cons h20
  obtain ⟨x22, y22, e22, b22, h22⟩ := ring_cons h21
  obtain ⟨x23, y23, e23, b23, h23⟩ := ring_cons h22
  obtain ⟨x24, y24, e24, b24, h24⟩ := ring_cons h23
  obtain ⟨x25, y25, e25, b25, h25⟩ := ring_cons h24
  obtain ⟨x26, y26, e26, b26, h26⟩ := ring_cons h25
  obtain ⟨x27, y27, e27, b27, h27⟩ := ring_cons h26
  obtain ⟨x28, y28, e28, b28, h28⟩ := ring_cons h27
  obtain ⟨x29, y29, e29, b29, h29⟩ := ring_cons h28
  obtain ⟨x30, y30, e30, b30, h30⟩ := ring_cons h29
  obtain ⟨x31, y31, e31, b31, h31⟩ := ring_cons h30
  obtain ⟨x32, y32, e32, b32, h32⟩ := ring_cons h31
  obtain ⟨x33, y33, e33, b33, h33⟩ := ring_cons h32
  have e34 := ring_nil h33
  subst e34 e33 e32 e31 e30 e29 e28 e27 e26 e25 e24 e23 e22 e21 e20 e19 e18 e17 e16 e15 e14 e13 e12 e11 e10 e9 e8 e7 e6 e5 e4 e3 e2 e1 e0
  by_cases hk : x32 ≤ 6
  · exact of_mem_lo x0 x1 x2 x3 x4 x5 x6 x7 x8 x9 x10 x11 x12 x13 x14 x15 x16 x17 x18 x19 x20 x21 x22 x23 x24 x25 x26 x27 x28 x29 x30 x31 x32 x33 b0 b1 b2 b3 b4 b5 b6 b7 b8 b9 b10 b11 b12 b13 b14 b15 b16 b17 b18 b19 b20 b21 b22 b23 b24 b25 b26 b27 b28 b29 b30 b31 b32 b33 hk
  · exact of_mem_hi x0 x1 x2 x3 x4 x5 x6 x7 x8 x9 x10 x11 x12 x13 x14 x15 x16 x17 x18 x19 x20 x21 x22 x23 x24 x25 x26 x27 x28 x29 x30 x31 x32 x33 b0 b1 b2 b3 b4 b5 b6 b7 b8 b9 b10 b11 b12 b13 b14 b15 b16 b17 b18 b19 b20 b21 b22 b23 b24 b25 b26 b27 b28 b29 b30 b31 b32 b33 hk
def ct_of : Contracts := ctConsM 15 of_entry ct_at
theorem ct_of_ok {X : Ctx} {ρ : Nat → Int} (hX : X.Ok ρ) (hG : X.G = G) : CtOk Try.prog X ρ GB ct_of := ctConsM_ok (of_memok hX hG) (ct_at_ok hX hG)
end Go.Proofs.Ytkpdiehbaiepaaa
