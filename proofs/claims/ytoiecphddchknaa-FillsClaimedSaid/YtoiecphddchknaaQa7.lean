/- What is proved: the pixels of a triangle on a board of any size, as they are told. No condition but the numbers' own bounds. -/
import Derived.Test.YtoiecphddchknaaQNn
import Derived.Test.YtoiecphddchknaaQa5
import Derived.Test.YtoiecphddchknaaQa6
import Derived.Test.YtoiecphddchknaaQa3
import Derived.Test.YtoiecphddchknaaQa2
set_option linter.unusedSimpArgs false
set_option linter.unusedVariables false
namespace Go.Proofs.Ytoiecphddchknaa
open Go Go.RowKit Sx Wi
theorem kou_loops : codeLoops (bodyOf Try.prog 78) = [loopNo (bodyOf Try.prog 78) 0, loopNo (bodyOf Try.prog 78) 1] := by kernel_rfl
theorem kou_loops0 : codeLoops (loopNo (bodyOf Try.prog 78) 0) = [loopNo (bodyOf Try.prog 78) 1] := by kernel_rfl
theorem kpre_env {x0 x1 x2 x3 x4 x5 x6 x7 x8 x9 x10 x11 x12 x13 x14 x15 x16 x17 x18 x19 x20 x21 x22 x23 x24 x25 x26 x27 x28 x29 x30 x31 x32 x33 x34 x35 x36 x37 x38 x39 x40 x41 x42 x43 x44 x45 x46 C0 : Int} (h : kpre.den G (rho (([x0, x1, x2, x3, x4, x5, x6, x7, x8, x9, x10, x11, x12, x13, x14, x15, x16, x17, x18, x19, x20, x21, x22, x23, x24, x25, x26, x27, x28, x29, x30, x31, x32, x33, x34, x35, x36, x37, x38, x39, x40, x41, x42, x43, x44, x45, x46] : List Int) ++ [C0])) = true) : kpre.den G (rho ([x0, x1, x2, x3, x4, x5, x6, x7, x8, x9, x10, x11, x12, x13, x14, x15, x16, x17, x18, x19, x20, x21, x22, x23, x24, x25, x26, x27, x28, x29, x30, x31, x32, x33, x34, x35, x36, x37, x38, x39, x40, x41, x42, x43, x44, x45, x46] : List Int)) = true := by
  unfold kpre at h ⊢
  simp only [nn, List.cons_append, List.nil_append, Bool.or_eq_true, lenE, ne_eq] at h ⊢
  exact h
set_option maxHeartbeats 1000000 in
set_option maxRecDepth 100000 in
theorem kou_uok (x0 x1 x2 x3 x4 x5 x6 x7 x8 x9 x10 x11 x12 x13 x14 x15 x16 x17 x18 x19 x20 x21 x22 x23 x24 x25 x26 x27 x28 x29 x30 x31 x32 x33 x34 x35 x36 x37 x38 x39 x40 x41 x42 x43 x44 x45 x46 C0 : Int) (b0 : (-671088640) ≤ x0 ∧ x0 ≤ 671088640) (b1 : (-671088640) ≤ x1 ∧ x1 ≤ 671088640) (b2 : (-671088640) ≤ x2 ∧ x2 ≤ 671088640) (b3 : (-671088640) ≤ x3 ∧ x3 ≤ 671088640) (b4 : (-671088640) ≤ x4 ∧ x4 ≤ 671088640) (b5 : (-671088640) ≤ x5 ∧ x5 ≤ 671088640) (b6 : (-9223372036854775808) ≤ x6 ∧ x6 ≤ 9223372036854775807) (b7 : 0 ≤ x7 ∧ x7 ≤ 18446744073709551615) (b8 : (-9223372036854775808) ≤ x8 ∧ x8 ≤ 9223372036854775807) (b9 : 0 ≤ x9 ∧ x9 ≤ 18446744073709551615) (b10 : (-9223372036854775808) ≤ x10 ∧ x10 ≤ 9223372036854775807) (b11 : 0 ≤ x11 ∧ x11 ≤ 18446744073709551615) (b12 : (-9223372036854775808) ≤ x12 ∧ x12 ≤ 9223372036854775807) (b13 : 0 ≤ x13 ∧ x13 ≤ 18446744073709551615) (b14 : (-9223372036854775808) ≤ x14 ∧ x14 ≤ 9223372036854775807) (b15 : 0 ≤ x15 ∧ x15 ≤ 18446744073709551615) (b16 : (-9223372036854775808) ≤ x16 ∧ x16 ≤ 9223372036854775807) (b17 : 0 ≤ x17 ∧ x17 ≤ 18446744073709551615) (b18 : (-9223372036854775808) ≤ x18 ∧ x18 ≤ 9223372036854775807) (b19 : 0 ≤ x19 ∧ x19 ≤ 18446744073709551615) (b20 : (-9223372036854775808) ≤ x20 ∧ x20 ≤ 9223372036854775807) (b21 : 0 ≤ x21 ∧ x21 ≤ 18446744073709551615) (b22 : (-9223372036854775808) ≤ x22 ∧ x22 ≤ 9223372036854775807) (b23 : 0 ≤ x23 ∧ x23 ≤ 18446744073709551615) (b24 : (-9223372036854775808) ≤ x24 ∧ x24 ≤ 9223372036854775807) (b25 : 0 ≤ x25 ∧ x25 ≤ 18446744073709551615) (b26 : (-9223372036854775808) ≤ x26 ∧ x26 ≤ 9223372036854775807) (b27 : 0 ≤ x27 ∧ x27 ≤ 18446744073709551615) (b28 : (-9223372036854775808) ≤ x28 ∧ x28 ≤ 9223372036854775807) (b29 : 0 ≤ x29 ∧ x29 ≤ 18446744073709551615) (b30 : (-9223372036854775808) ≤ x30 ∧ x30 ≤ 9223372036854775807) (b31 : (-9223372036854775808) ≤ x31 ∧ x31 ≤ 9223372036854775807) (b32 : (-9223372036854775808) ≤ x32 ∧ x32 ≤ 9223372036854775807) (b33 : (-9223372036854775808) ≤ x33 ∧ x33 ≤ 9223372036854775807) (b34 : (-9223372036854775808) ≤ x34 ∧ x34 ≤ 9223372036854775807) (b35 : (-9223372036854775808) ≤ x35 ∧ x35 ≤ 9223372036854775807) (b36 : (-9223372036854775808) ≤ x36 ∧ x36 ≤ 9223372036854775807) (b37 : (-9223372036854775808) ≤ x37 ∧ x37 ≤ 9223372036854775807) (b38 : (-9223372036854775808) ≤ x38 ∧ x38 ≤ 9223372036854775807) (b39 : (-9223372036854775808) ≤ x39 ∧ x39 ≤ 9223372036854775807) (b40 : (-9223372036854775808) ≤ x40 ∧ x40 ≤ 9223372036854775807) (b41 : (-9223372036854775808) ≤ x41 ∧ x41 ≤ 9223372036854775807) (b42 : 1 ≤ x42 ∧ x42 ≤ 4) (b43 : (-9223372036854775808) ≤ x43 ∧ x43 ≤ 9223372036854775807) (b44 : 1 ≤ x44 ∧ x44 ≤ 256) (b45 : 1 ≤ x45 ∧ x45 ≤ 256) (b46 : 1 ≤ x46 ∧ x46 ≤ 65536) (hp : kpre.den G (rho ([x0, x1, x2, x3, x4, x5, x6, x7, x8, x9, x10, x11, x12, x13, x14, x15, x16, x17, x18, x19, x20, x21, x22, x23, x24, x25, x26, x27, x28, x29, x30, x31, x32, x33, x34, x35, x36, x37, x38, x39, x40, x41, x42, x43, x44, x45, x46] : List Int)) = true) : LoopUOK Try.prog G (glOf GB) (loopNo (bodyOf Try.prog 78) 0) kou_u (rho (([x0, x1, x2, x3, x4, x5, x6, x7, x8, x9, x10, x11, x12, x13, x14, x15, x16, x17, x18, x19, x20, x21, x22, x23, x24, x25, x26, x27, x28, x29, x30, x31, x32, x33, x34, x35, x36, x37, x38, x39, x40, x41, x42, x43, x44, x45, x46] : List Int) ++ [C0])) := by
  intro _ _
  obtain ⟨hl, hr⟩ := k_tb x0 x1 x2 x3 x4 x5 x6 x7 x8 x9 x10 x11 x12 x13 x14 x15 x16 x17 x18 x19 x20 x21 x22 x23 x24 x25 x26 x27 x28 x29 x30 x31 x32 x33 x34 x35 x36 x37 x38 x39 x40 x41 x42 x43 x44 x45 x46 ⟨b1, b3, b5⟩
  have e : envOf G (rho (([x0, x1, x2, x3, x4, x5, x6, x7, x8, x9, x10, x11, x12, x13, x14, x15, x16, x17, x18, x19, x20, x21, x22, x23, x24, x25, x26, x27, x28, x29, x30, x31, x32, x33, x34, x35, x36, x37, x38, x39, x40, x41, x42, x43, x44, x45, x46] : List Int) ++ [C0])) kou_u.es = kou_rho x0 x1 x2 x3 x4 x5 x6 x7 x8 x9 x10 x11 x12 x13 x14 x15 x16 x17 x18 x19 x20 x21 x22 x23 x24 x25 x26 x27 x28 x29 x30 x31 x32 x33 x34 x35 x36 x37 x38 x39 x40 x41 x42 x43 x44 x45 x46 C0 0 := by
    rw [envOf_rho]
    unfold kou_rho
    congr 1
    unfold kou_u
    simp only [List.map_cons, List.map_nil]
    simp only [nn, List.cons_append, List.nil_append, Bool.or_eq_true, lenE, ne_eq]
    rw [k_tops, Int.natCast_zero, Int.add_zero]
    rfl
  rw [e]
  refine ⟨(endsK (kxs x0 x1 x2 x3 x4 x5 x6 x7 x8 x9 x10 x11 x12 x13 x14 x15 x16 x17 x18 x19 x20 x21 x22 x23 x24 x25 x26 x27 x28 x29 x30 x31 x32 x33 x34 x35 x36 x37 x38 x39 x40 x41 x42 x43 x44 x45 x46) - topsK (kxs x0 x1 x2 x3 x4 x5 x6 x7 x8 x9 x10 x11 x12 x13 x14 x15 x16 x17 x18 x19 x20 x21 x22 x23 x24 x25 x26 x27 x28 x29 x30 x31 x32 x33 x34 x35 x36 x37 x38 x39 x40 x41 x42 x43 x44 x45 x46)).toNat + 1, loop_rounds (ι := Nat) (ρ := kou_rho x0 x1 x2 x3 x4 x5 x6 x7 x8 x9 x10 x11 x12 x13 x14 x15 x16 x17 x18 x19 x20 x21 x22 x23 x24 x25 x26 x27 x28 x29 x30 x31 x32 x33 x34 x35 x36 x37 x38 x39 x40 x41 x42 x43 x44 x45 x46 C0) (ρT := rho (([x0, x1, x2, x3, x4, x5, x6, x7, x8, x9, x10, x11, x12, x13, x14, x15, x16, x17, x18, x19, x20, x21, x22, x23, x24, x25, x26, x27, x28, x29, x30, x31, x32, x33, x34, x35, x36, x37, x38, x39, x40, x41, x42, x43, x44, x45, x46] : List Int) ++ [C0])) (m := fun i => (endsK (kxs x0 x1 x2 x3 x4 x5 x6 x7 x8 x9 x10 x11 x12 x13 x14 x15 x16 x17 x18 x19 x20 x21 x22 x23 x24 x25 x26 x27 x28 x29 x30 x31 x32 x33 x34 x35 x36 x37 x38 x39 x40 x41 x42 x43 x44 x45 x46) - topsK (kxs x0 x1 x2 x3 x4 x5 x6 x7 x8 x9 x10 x11 x12 x13 x14 x15 x16 x17 x18 x19 x20 x21 x22 x23 x24 x25 x26 x27 x28 x29 x30 x31 x32 x33 x34 x35 x36 x37 x38 x39 x40 x41 x42 x43 x44 x45 x46)).toNat - i) (Good := fun i => i ≤ (endsK (kxs x0 x1 x2 x3 x4 x5 x6 x7 x8 x9 x10 x11 x12 x13 x14 x15 x16 x17 x18 x19 x20 x21 x22 x23 x24 x25 x26 x27 x28 x29 x30 x31 x32 x33 x34 x35 x36 x37 x38 x39 x40 x41 x42 x43 x44 x45 x46) - topsK (kxs x0 x1 x2 x3 x4 x5 x6 x7 x8 x9 x10 x11 x12 x13 x14 x15 x16 x17 x18 x19 x20 x21 x22 x23 x24 x25 x26 x27 x28 x29 x30 x31 x32 x33 x34 x35 x36 x37 x38 x39 x40 x41 x42 x43 x44 x45 x46)).toNat) (run := kou_round Try.prog) (fun _ => rfl) fits rfl gi_ok (fun i hi => kou_vars x0 x1 x2 x3 x4 x5 x6 x7 x8 x9 x10 x11 x12 x13 x14 x15 x16 x17 x18 x19 x20 x21 x22 x23 x24 x25 x26 x27 x28 x29 x30 x31 x32 x33 x34 x35 x36 x37 x38 x39 x40 x41 x42 x43 x44 x45 x46 C0 b0 b1 b2 b3 b4 b5 b6 b7 b8 b9 b10 b11 b12 b13 b14 b15 b16 b17 b18 b19 b20 b21 b22 b23 b24 b25 b26 b27 b28 b29 b30 b31 b32 b33 b34 b35 b36 b37 b38 b39 b40 b41 b42 b43 b44 b45 b46 i hi) (fun _ _ X hX hG => ct_smp_ok hX hG) (fun i hi X hX hG => ?_) (fun i hi => kou_way x0 x1 x2 x3 x4 x5 x6 x7 x8 x9 x10 x11 x12 x13 x14 x15 x16 x17 x18 x19 x20 x21 x22 x23 x24 x25 x26 x27 x28 x29 x30 x31 x32 x33 x34 x35 x36 x37 x38 x39 x40 x41 x42 x43 x44 x45 x46 C0 b0 b1 b2 b3 b4 b5 b6 b7 b8 b9 b10 b11 b12 b13 b14 b15 b16 b17 b18 b19 b20 b21 b22 b23 b24 b25 b26 b27 b28 b29 b30 b31 b32 b33 b34 b35 b36 b37 b38 b39 b40 b41 b42 b43 b44 b45 b46 hp i hi) (by decide) ((endsK (kxs x0 x1 x2 x3 x4 x5 x6 x7 x8 x9 x10 x11 x12 x13 x14 x15 x16 x17 x18 x19 x20 x21 x22 x23 x24 x25 x26 x27 x28 x29 x30 x31 x32 x33 x34 x35 x36 x37 x38 x39 x40 x41 x42 x43 x44 x45 x46) - topsK (kxs x0 x1 x2 x3 x4 x5 x6 x7 x8 x9 x10 x11 x12 x13 x14 x15 x16 x17 x18 x19 x20 x21 x22 x23 x24 x25 x26 x27 x28 x29 x30 x31 x32 x33 x34 x35 x36 x37 x38 x39 x40 x41 x42 x43 x44 x45 x46)).toNat + 1) 0 (Nat.zero_le _) (by show (endsK (kxs x0 x1 x2 x3 x4 x5 x6 x7 x8 x9 x10 x11 x12 x13 x14 x15 x16 x17 x18 x19 x20 x21 x22 x23 x24 x25 x26 x27 x28 x29 x30 x31 x32 x33 x34 x35 x36 x37 x38 x39 x40 x41 x42 x43 x44 x45 x46) - topsK (kxs x0 x1 x2 x3 x4 x5 x6 x7 x8 x9 x10 x11 x12 x13 x14 x15 x16 x17 x18 x19 x20 x21 x22 x23 x24 x25 x26 x27 x28 x29 x30 x31 x32 x33 x34 x35 x36 x37 x38 x39 x40 x41 x42 x43 x44 x45 x46)).toNat - 0 < (endsK (kxs x0 x1 x2 x3 x4 x5 x6 x7 x8 x9 x10 x11 x12 x13 x14 x15 x16 x17 x18 x19 x20 x21 x22 x23 x24 x25 x26 x27 x28 x29 x30 x31 x32 x33 x34 x35 x36 x37 x38 x39 x40 x41 x42 x43 x44 x45 x46) - topsK (kxs x0 x1 x2 x3 x4 x5 x6 x7 x8 x9 x10 x11 x12 x13 x14 x15 x16 x17 x18 x19 x20 x21 x22 x23 x24 x25 x26 x27 x28 x29 x30 x31 x32 x33 x34 x35 x36 x37 x38 x39 x40 x41 x42 x43 x44 x45 x46)).toNat + 1; omega)⟩
  refine lpOk_cons (bs := [loopNo (bodyOf Try.prog 78) 1]) kou_loops0 ?_
  intro b hb
  simp only [List.mem_cons, List.mem_nil_iff, or_false] at hb
  subst hb
  refine lpAt_any hX hG (by kernel_rfl) ?_
  intro p hp'
  simp only [List.mem_cons, List.mem_nil_iff, or_false] at hp'
  subst hp'
  exact kin_uok x0 x1 x2 x3 x4 x5 x6 x7 x8 x9 x10 x11 x12 x13 x14 x15 x16 x17 x18 x19 x20 x21 x22 x23 x24 x25 x26 x27 x28 x29 x30 x31 x32 x33 x34 x35 x36 x37 x38 x39 x40 x41 x42 x43 x44 x45 x46 C0 b0 b1 b2 b3 b4 b5 b6 b7 b8 b9 b10 b11 b12 b13 b14 b15 b16 b17 b18 b19 b20 b21 b22 b23 b24 b25 b26 b27 b28 b29 b30 b31 b32 b33 b34 b35 b36 b37 b38 b39 b40 b41 b42 b43 b44 b45 b46 hp i
set_option maxHeartbeats 1000000 in
set_option maxRecDepth 100000 in
theorem pixk_mem (x0 x1 x2 x3 x4 x5 x6 x7 x8 x9 x10 x11 x12 x13 x14 x15 x16 x17 x18 x19 x20 x21 x22 x23 x24 x25 x26 x27 x28 x29 x30 x31 x32 x33 x34 x35 x36 x37 x38 x39 x40 x41 x42 x43 x44 x45 x46 C0 : Int) (b0 : (-671088640) ≤ x0 ∧ x0 ≤ 671088640) (b1 : (-671088640) ≤ x1 ∧ x1 ≤ 671088640) (b2 : (-671088640) ≤ x2 ∧ x2 ≤ 671088640) (b3 : (-671088640) ≤ x3 ∧ x3 ≤ 671088640) (b4 : (-671088640) ≤ x4 ∧ x4 ≤ 671088640) (b5 : (-671088640) ≤ x5 ∧ x5 ≤ 671088640) (b6 : (-9223372036854775808) ≤ x6 ∧ x6 ≤ 9223372036854775807) (b7 : 0 ≤ x7 ∧ x7 ≤ 18446744073709551615) (b8 : (-9223372036854775808) ≤ x8 ∧ x8 ≤ 9223372036854775807) (b9 : 0 ≤ x9 ∧ x9 ≤ 18446744073709551615) (b10 : (-9223372036854775808) ≤ x10 ∧ x10 ≤ 9223372036854775807) (b11 : 0 ≤ x11 ∧ x11 ≤ 18446744073709551615) (b12 : (-9223372036854775808) ≤ x12 ∧ x12 ≤ 9223372036854775807) (b13 : 0 ≤ x13 ∧ x13 ≤ 18446744073709551615) (b14 : (-9223372036854775808) ≤ x14 ∧ x14 ≤ 9223372036854775807) (b15 : 0 ≤ x15 ∧ x15 ≤ 18446744073709551615) (b16 : (-9223372036854775808) ≤ x16 ∧ x16 ≤ 9223372036854775807) (b17 : 0 ≤ x17 ∧ x17 ≤ 18446744073709551615) (b18 : (-9223372036854775808) ≤ x18 ∧ x18 ≤ 9223372036854775807) (b19 : 0 ≤ x19 ∧ x19 ≤ 18446744073709551615) (b20 : (-9223372036854775808) ≤ x20 ∧ x20 ≤ 9223372036854775807) (b21 : 0 ≤ x21 ∧ x21 ≤ 18446744073709551615) (b22 : (-9223372036854775808) ≤ x22 ∧ x22 ≤ 9223372036854775807) (b23 : 0 ≤ x23 ∧ x23 ≤ 18446744073709551615) (b24 : (-9223372036854775808) ≤ x24 ∧ x24 ≤ 9223372036854775807) (b25 : 0 ≤ x25 ∧ x25 ≤ 18446744073709551615) (b26 : (-9223372036854775808) ≤ x26 ∧ x26 ≤ 9223372036854775807) (b27 : 0 ≤ x27 ∧ x27 ≤ 18446744073709551615) (b28 : (-9223372036854775808) ≤ x28 ∧ x28 ≤ 9223372036854775807) (b29 : 0 ≤ x29 ∧ x29 ≤ 18446744073709551615) (b30 : (-9223372036854775808) ≤ x30 ∧ x30 ≤ 9223372036854775807) (b31 : (-9223372036854775808) ≤ x31 ∧ x31 ≤ 9223372036854775807) (b32 : (-9223372036854775808) ≤ x32 ∧ x32 ≤ 9223372036854775807) (b33 : (-9223372036854775808) ≤ x33 ∧ x33 ≤ 9223372036854775807) (b34 : (-9223372036854775808) ≤ x34 ∧ x34 ≤ 9223372036854775807) (b35 : (-9223372036854775808) ≤ x35 ∧ x35 ≤ 9223372036854775807) (b36 : (-9223372036854775808) ≤ x36 ∧ x36 ≤ 9223372036854775807) (b37 : (-9223372036854775808) ≤ x37 ∧ x37 ≤ 9223372036854775807) (b38 : (-9223372036854775808) ≤ x38 ∧ x38 ≤ 9223372036854775807) (b39 : (-9223372036854775808) ≤ x39 ∧ x39 ≤ 9223372036854775807) (b40 : (-9223372036854775808) ≤ x40 ∧ x40 ≤ 9223372036854775807) (b41 : (-9223372036854775808) ≤ x41 ∧ x41 ≤ 9223372036854775807) (b42 : 1 ≤ x42 ∧ x42 ≤ 4) (b43 : (-9223372036854775808) ≤ x43 ∧ x43 ≤ 9223372036854775807) (b44 : 1 ≤ x44 ∧ x44 ≤ 256) (b45 : 1 ≤ x45 ∧ x45 ≤ 256) (b46 : 1 ≤ x46 ∧ x46 ≤ 65536) (hp0 : kpre.den G (rho (([x0, x1, x2, x3, x4, x5, x6, x7, x8, x9, x10, x11, x12, x13, x14, x15, x16, x17, x18, x19, x20, x21, x22, x23, x24, x25, x26, x27, x28, x29, x30, x31, x32, x33, x34, x35, x36, x37, x38, x39, x40, x41, x42, x43, x44, x45, x46] : List Int) ++ [C0])) = true) : MemFun Try.prog G GB 78 pixk_F (rho (([x0, x1, x2, x3, x4, x5, x6, x7, x8, x9, x10, x11, x12, x13, x14, x15, x16, x17, x18, x19, x20, x21, x22, x23, x24, x25, x26, x27, x28, x29, x30, x31, x32, x33, x34, x35, x36, x37, x38, x39, x40, x41, x42, x43, x44, x45, x46] : List Int) ++ [C0])) := by
  have hp := kpre_env hp0
  refine memFun_way (lp := kou_lp) (run := pixk_run Try.prog) (fun _ => rfl) fits (within_app (by exact ⟨b0, b1, b2, b3, b4, b5, b6, b7, b8, b9, b10, b11, b12, b13, b14, b15, b16, b17, b18, b19, b20, b21, b22, b23, b24, b25, b26, b27, b28, b29, b30, b31, b32, b33, b34, b35, b36, b37, b38, b39, b40, b41, b42, b43, b44, b45, b46, trivial⟩)) gi_ok (fun X hX hG => ct_smp_ok hX hG) (fun X hX hG fn c hf hc => ?_) rfl ?_
  · refine lpOk_cons ((congrArg codeLoops (bodyOf_eq hf hc)).symm.trans kou_loops) ?_
    intro b hb
    simp only [List.mem_cons, List.mem_nil_iff, or_false] at hb
    rcases hb with rfl | rfl
    · refine lpAt_any hX hG (by kernel_rfl) ?_
      intro p hp'
      simp only [List.mem_cons, List.mem_nil_iff, or_false] at hp'
      subst hp'
      exact kou_uok x0 x1 x2 x3 x4 x5 x6 x7 x8 x9 x10 x11 x12 x13 x14 x15 x16 x17 x18 x19 x20 x21 x22 x23 x24 x25 x26 x27 x28 x29 x30 x31 x32 x33 x34 x35 x36 x37 x38 x39 x40 x41 x42 x43 x44 x45 x46 C0 b0 b1 b2 b3 b4 b5 b6 b7 b8 b9 b10 b11 b12 b13 b14 b15 b16 b17 b18 b19 b20 b21 b22 b23 b24 b25 b26 b27 b28 b29 b30 b31 b32 b33 b34 b35 b36 b37 b38 b39 b40 b41 b42 b43 b44 b45 b46 hp
    · exact lpAt_skip (j := 6) (by kernel_rfl) (by decide) lpAt_nil
  · skip
    refine way_cut pixkf_b0 (fun h0 => ?_) (fun h0 => ?_)
    · skip
      refine way_leaf pixkf_n1 ?_
      unfold pixkf_b0 at h0; exact ⟨rfl, trivial⟩
    refine way_bad ?_
    unfold pixkf_b0 at h0; exact absurd hp0 (by unfold kpre; rw [h0]; decide)
def pixk_entry : Ctx → List SV → Heap → Res (SV × Heap) := memEntry GB fnk_vt 1 kpre pixk_F
theorem pixk_ok {X : Ctx} {ρ : Nat → Int} (hX : X.Ok ρ) (hG : X.G = G) : MemOk Try.prog X ρ GB 78 pixk_entry := by
  obtain ⟨XG, XI, XV, XF⟩ := X
  simp only at hG
  subst hG
  refine memEntry_ok hX ?_
  intro xs ls hw hl hp
  unfold fnk_vt at hw
  obtain ⟨x0, y0, e0, b0, h0⟩ := in_cons hw
  obtain ⟨x1, y1, e1, b1, h1⟩ := in_cons h0
  obtain ⟨x2, y2, e2, b2, h2⟩ := in_cons h1
  obtain ⟨x3, y3, e3, b3, h3⟩ := in_cons h2
  obtain ⟨x4, y4, e4, b4, h4⟩ := in_cons h3
  obtain ⟨x5, y5, e5, b5, h5⟩ := in_cons h4
  obtain ⟨x6, y6, e6, b6, h6⟩ := in_cons h5
  obtain ⟨x7, y7, e7, b7, h7⟩ := in_cons h6
  obtain ⟨x8, y8, e8, b8, h8⟩ := in_cons h7
  obtain ⟨x9, y9, e9, b9, h9⟩ := in_cons h8
  obtain ⟨x10, y10, e10, b10, h10⟩ := in_cons h9
  obtain ⟨x11, y11, e11, b11, h11⟩ := in_cons h10
  obtain ⟨x12, y12, e12, b12, h12⟩ := in_cons h11
  obtain ⟨x13, y13, e13, b13, h13⟩ := in_cons h12
  obtain ⟨x14, y14, e14, b14, h14⟩ := in_cons h13
  obtain ⟨x15, y15, e15, b15, h15⟩ := in_cons h14
  obtain ⟨x16, y16, e16, b16, h16⟩ := in_cons h15
  obtain ⟨x17, y17, e17, b17, h17⟩ := in_cons h16
  obtain ⟨x18, y18, e18, b18, h18⟩ := in_cons h17
  obtain ⟨x19, y19, e19, b19, h19⟩ := in_cons h18
  obtain ⟨x20, y20, e20, b20, h20⟩ := in_cons h19
  obtain ⟨x21, y21, e21, b21, h21⟩ := in_cons h20
  obtain ⟨x22, y22, e22, b22, h22⟩ := in_cons h21
  obtain ⟨x23, y23, e23, b23, h23⟩ := in_cons h22
  obtain ⟨x24, y24, e24, b24, h24⟩ := in_cons h23
  obtain ⟨x25, y25, e25, b25, h25⟩ := in_cons h24
  obtain ⟨x26, y26, e26, b26, h26⟩ := in_cons h25
  obtain ⟨x27, y27, e27, b27, h27⟩ := in_cons h26
  obtain ⟨x28, y28, e28, b28, h28⟩ := in_cons h27
  obtain ⟨x29, y29, e29, b29, h29⟩ := in_cons h28
  obtain ⟨x30, y30, e30, b30, h30⟩ := in_cons h29
  obtain ⟨x31, y31, e31, b31, h31⟩ := in_cons h30
  obtain ⟨x32, y32, e32, b32, h32⟩ := in_cons h31
  obtain ⟨x33, y33, e33, b33, h33⟩ := in_cons h32
  obtain ⟨x34, y34, e34, b34, h34⟩ := in_cons h33
  obtain ⟨x35, y35, e35, b35, h35⟩ := in_cons h34
  obtain ⟨x36, y36, e36, b36, h36⟩ := in_cons h35
  obtain ⟨x37, y37, e37, b37, h37⟩ := in_cons h36
  obtain ⟨x38, y38, e38, b38, h38⟩ := in_cons h37
  obtain ⟨x39, y39, e39, b39, h39⟩ := in_cons h38
  obtain ⟨x40, y40, e40, b40, h40⟩ := in_cons h39
  obtain ⟨x41, y41, e41, b41, h41⟩ := in_cons h40
  obtain ⟨x42, y42, e42, b42, h42⟩ := in_cons h41
  obtain ⟨x43, y43, e43, b43, h43⟩ := in_cons h42
  obtain ⟨x44, y44, e44, b44, h44⟩ := in_cons h43
  obtain ⟨x45, y45, e45, b45, h45⟩ := in_cons h44
  obtain ⟨x46, y46, e46, b46, h46⟩ := in_cons h45
  have e47 := in_nil h46
  subst e47 e46 e45 e44 e43 e42 e41 e40 e39 e38 e37 e36 e35 e34 e33 e32 e31 e30 e29 e28 e27 e26 e25 e24 e23 e22 e21 e20 e19 e18 e17 e16 e15 e14 e13 e12 e11 e10 e9 e8 e7 e6 e5 e4 e3 e2 e1 e0
  obtain ⟨l0, rfl⟩ := len1 hl
  exact pixk_mem x0 x1 x2 x3 x4 x5 x6 x7 x8 x9 x10 x11 x12 x13 x14 x15 x16 x17 x18 x19 x20 x21 x22 x23 x24 x25 x26 x27 x28 x29 x30 x31 x32 x33 x34 x35 x36 x37 x38 x39 x40 x41 x42 x43 x44 x45 x46 l0 b0 b1 b2 b3 b4 b5 b6 b7 b8 b9 b10 b11 b12 b13 b14 b15 b16 b17 b18 b19 b20 b21 b22 b23 b24 b25 b26 b27 b28 b29 b30 b31 b32 b33 b34 b35 b36 b37 b38 b39 b40 b41 b42 b43 b44 b45 b46 hp
def ct_pixk : Contracts := ctConsM 78 pixk_entry ct_smp
theorem ct_pixk_ok {X : Ctx} {ρ : Nat → Int} (hX : X.Ok ρ) (hG : X.G = G) : CtOk Try.prog X ρ GB ct_pixk := ctConsM_ok (pixk_ok hX hG) (ct_smp_ok hX hG)
def ct_fk : Contracts := ctConsM 36 fit3a_entry (ctCons 35 may_entry ct_pixk)
theorem ct_fk_ok {X : Ctx} {ρ : Nat → Int} (hX : X.Ok ρ) (hG : X.G = G) : CtOk Try.prog X ρ GB ct_fk := ctConsM_ok (fit3a_ok hX hG) (ctCons_ok (may_ok hX hG) (ct_pixk_ok hX hG))
def facek_vt : List (Int × Int) := [((-9223372036854775808), 9223372036854775807), ((-9223372036854775808), 9223372036854775807), ((-9223372036854775808), 9223372036854775807), ((-9223372036854775808), 9223372036854775807), ((-9223372036854775808), 9223372036854775807), ((-9223372036854775808), 9223372036854775807), ((-9223372036854775808), 9223372036854775807), (0, 18446744073709551615), ((-9223372036854775808), 9223372036854775807), ((-9223372036854775808), 9223372036854775807), (0, 18446744073709551615), ((-9223372036854775808), 9223372036854775807), ((-9223372036854775808), 9223372036854775807), (0, 18446744073709551615), ((-9223372036854775808), 9223372036854775807), ((-9223372036854775808), 9223372036854775807), (0, 18446744073709551615), ((-9223372036854775808), 9223372036854775807), ((-9223372036854775808), 9223372036854775807), (0, 18446744073709551615), ((-9223372036854775808), 9223372036854775807), ((-9223372036854775808), 9223372036854775807), (0, 18446744073709551615), ((-9223372036854775808), 9223372036854775807), ((-9223372036854775808), 9223372036854775807), (0, 18446744073709551615), ((-9223372036854775808), 9223372036854775807), ((-9223372036854775808), 9223372036854775807), (0, 18446744073709551615), ((-9223372036854775808), 9223372036854775807), ((-9223372036854775808), 9223372036854775807), (0, 18446744073709551615), ((-9223372036854775808), 9223372036854775807), ((-9223372036854775808), 9223372036854775807), (0, 18446744073709551615), ((-9223372036854775808), 9223372036854775807), ((-9223372036854775808), 9223372036854775807), (0, 18446744073709551615), ((-9223372036854775808), 9223372036854775807), ((-9223372036854775808), 9223372036854775807), (0, 18446744073709551615), ((-9223372036854775808), 9223372036854775807), ((-9223372036854775808), 9223372036854775807), ((-9223372036854775808), 9223372036854775807), (1, 256), (1, 256), (1, 65536)]
def facek_b : B := (.and (.and (.cmp .le (.lit (-671088640)) (.var 0)) (.and (.cmp .le (.var 0) (.lit 671088640)) (.and (.cmp .le (.lit (-671088640)) (.var 1)) (.and (.cmp .le (.var 1) (.lit 671088640)) (.and (.cmp .le (.lit (-671088640)) (.var 2)) (.and (.cmp .le (.var 2) (.lit 671088640)) (.and (.cmp .le (.lit (-671088640)) (.var 3)) (.and (.cmp .le (.var 3) (.lit 671088640)) (.and (.cmp .le (.lit (-671088640)) (.var 4)) (.and (.cmp .le (.var 4) (.lit 671088640)) (.and (.cmp .le (.lit (-671088640)) (.var 5)) (.cmp .le (.var 5) (.lit 671088640))))))))))))) (.and (.cmp .le (.lit 1) (.var 42)) (.and (.cmp .le (.var 42) (.lit 4)) (.and (.or (.cmp .le (.var 42) (.lit 0)) (.and (.cmp .le (.lit (-1125899906842624)) (.op .add (.op .mul (.var 6) (.lit 18446744073709551616)) (.var 7))) (.and (.cmp .le (.op .add (.op .mul (.var 6) (.lit 18446744073709551616)) (.var 7)) (.lit 1125899906842624)) (.and (.cmp .le (.lit (-1125899906842624)) (.op .add (.op .mul (.var 18) (.lit 18446744073709551616)) (.var 19))) (.and (.cmp .le (.op .add (.op .mul (.var 18) (.lit 18446744073709551616)) (.var 19)) (.lit 1125899906842624)) (.and (.cmp .le (.lit (-1125899906842624)) (.op .add (.op .mul (.var 30) (.lit 18446744073709551616)) (.var 31))) (.and (.cmp .le (.op .add (.op .mul (.var 30) (.lit 18446744073709551616)) (.var 31)) (.lit 1125899906842624)) (.and (.cmp .le (.lit 1) (.var 8)) (.and (.cmp .le (.var 8) (.lit 65535)) (.and (.cmp .eq (.var 20) (.var 8)) (.cmp .eq (.var 32) (.var 8)))))))))))) (.and (.or (.cmp .le (.var 42) (.lit 1)) (.and (.cmp .le (.lit (-1125899906842624)) (.op .add (.op .mul (.var 9) (.lit 18446744073709551616)) (.var 10))) (.and (.cmp .le (.op .add (.op .mul (.var 9) (.lit 18446744073709551616)) (.var 10)) (.lit 1125899906842624)) (.and (.cmp .le (.lit (-1125899906842624)) (.op .add (.op .mul (.var 21) (.lit 18446744073709551616)) (.var 22))) (.and (.cmp .le (.op .add (.op .mul (.var 21) (.lit 18446744073709551616)) (.var 22)) (.lit 1125899906842624)) (.and (.cmp .le (.lit (-1125899906842624)) (.op .add (.op .mul (.var 33) (.lit 18446744073709551616)) (.var 34))) (.and (.cmp .le (.op .add (.op .mul (.var 33) (.lit 18446744073709551616)) (.var 34)) (.lit 1125899906842624)) (.and (.cmp .le (.lit 1) (.var 11)) (.and (.cmp .le (.var 11) (.lit 65535)) (.and (.cmp .eq (.var 23) (.var 11)) (.cmp .eq (.var 35) (.var 11)))))))))))) (.and (.or (.cmp .le (.var 42) (.lit 2)) (.and (.cmp .le (.lit (-1125899906842624)) (.op .add (.op .mul (.var 12) (.lit 18446744073709551616)) (.var 13))) (.and (.cmp .le (.op .add (.op .mul (.var 12) (.lit 18446744073709551616)) (.var 13)) (.lit 1125899906842624)) (.and (.cmp .le (.lit (-1125899906842624)) (.op .add (.op .mul (.var 24) (.lit 18446744073709551616)) (.var 25))) (.and (.cmp .le (.op .add (.op .mul (.var 24) (.lit 18446744073709551616)) (.var 25)) (.lit 1125899906842624)) (.and (.cmp .le (.lit (-1125899906842624)) (.op .add (.op .mul (.var 36) (.lit 18446744073709551616)) (.var 37))) (.and (.cmp .le (.op .add (.op .mul (.var 36) (.lit 18446744073709551616)) (.var 37)) (.lit 1125899906842624)) (.and (.cmp .le (.lit 1) (.var 14)) (.and (.cmp .le (.var 14) (.lit 65535)) (.and (.cmp .eq (.var 26) (.var 14)) (.cmp .eq (.var 38) (.var 14)))))))))))) (.or (.cmp .le (.var 42) (.lit 3)) (.and (.cmp .le (.lit (-1125899906842624)) (.op .add (.op .mul (.var 15) (.lit 18446744073709551616)) (.var 16))) (.and (.cmp .le (.op .add (.op .mul (.var 15) (.lit 18446744073709551616)) (.var 16)) (.lit 1125899906842624)) (.and (.cmp .le (.lit (-1125899906842624)) (.op .add (.op .mul (.var 27) (.lit 18446744073709551616)) (.var 28))) (.and (.cmp .le (.op .add (.op .mul (.var 27) (.lit 18446744073709551616)) (.var 28)) (.lit 1125899906842624)) (.and (.cmp .le (.lit (-1125899906842624)) (.op .add (.op .mul (.var 39) (.lit 18446744073709551616)) (.var 40))) (.and (.cmp .le (.op .add (.op .mul (.var 39) (.lit 18446744073709551616)) (.var 40)) (.lit 1125899906842624)) (.and (.cmp .le (.lit 1) (.var 17)) (.and (.cmp .le (.var 17) (.lit 65535)) (.and (.cmp .eq (.var 29) (.var 17)) (.cmp .eq (.var 41) (.var 17))))))))))))))))))
def facek_pre : B := (.cmp .eq (.var 46) (.op .mul (.var 44) (.var 45)))
def facek_F : FunS := ⟨[(.ptr 1 0), (.agg [(.int .i64 (.var 0)), (.int .i64 (.var 1)), (.int .i64 (.var 2)), (.int .i64 (.var 3)), (.int .i64 (.var 4)), (.int .i64 (.var 5))]), (.agg [(.int .i64 (.var 6)), (.int .u64 (.var 7)), (.int .i64 (.var 8)), (.int .i64 (.var 9)), (.int .u64 (.var 10)), (.int .i64 (.var 11)), (.int .i64 (.var 12)), (.int .u64 (.var 13)), (.int .i64 (.var 14)), (.int .i64 (.var 15)), (.int .u64 (.var 16)), (.int .i64 (.var 17)), (.int .i64 (.var 18)), (.int .u64 (.var 19)), (.int .i64 (.var 20)), (.int .i64 (.var 21)), (.int .u64 (.var 22)), (.int .i64 (.var 23)), (.int .i64 (.var 24)), (.int .u64 (.var 25)), (.int .i64 (.var 26)), (.int .i64 (.var 27)), (.int .u64 (.var 28)), (.int .i64 (.var 29)), (.int .i64 (.var 30)), (.int .u64 (.var 31)), (.int .i64 (.var 32)), (.int .i64 (.var 33)), (.int .u64 (.var 34)), (.int .i64 (.var 35)), (.int .i64 (.var 36)), (.int .u64 (.var 37)), (.int .i64 (.var 38)), (.int .i64 (.var 39)), (.int .u64 (.var 40)), (.int .i64 (.var 41))]), (.int .i64 (.var 42)), (.int .i64 (.var 43))], [some ([.vec [.bool, .int .i64, .int .i32, .int .i32, .int .i32, .int .i32, .int .i32, .int .i32] (.var 47) (.var 46) true], vecTag + 46), some ([(.int .i64 (.var 44)), (.int .i64 (.var 45)), (.own 0 (.var 46) (some (.var 46)))], 78)], facek_b, (.int .i64 (.lit 0)), [some ([.vec [.bool, .int .i64, .int .i32, .int .i32, .int .i32, .int .i32, .int .i32, .int .i32] (.app 77 (.cons (.var 0) (.cons (.var 1) (.cons (.var 2) (.cons (.var 3) (.cons (.var 4) (.cons (.var 5) (.cons (.op .add (.op .mul (.var 6) (.lit 18446744073709551616)) (.var 7)) (.cons (.op .add (.op .mul (.var 9) (.lit 18446744073709551616)) (.var 10)) (.cons (.op .add (.op .mul (.var 12) (.lit 18446744073709551616)) (.var 13)) (.cons (.op .add (.op .mul (.var 15) (.lit 18446744073709551616)) (.var 16)) (.cons (.op .add (.op .mul (.var 18) (.lit 18446744073709551616)) (.var 19)) (.cons (.op .add (.op .mul (.var 21) (.lit 18446744073709551616)) (.var 22)) (.cons (.op .add (.op .mul (.var 24) (.lit 18446744073709551616)) (.var 25)) (.cons (.op .add (.op .mul (.var 27) (.lit 18446744073709551616)) (.var 28)) (.cons (.op .add (.op .mul (.var 30) (.lit 18446744073709551616)) (.var 31)) (.cons (.op .add (.op .mul (.var 33) (.lit 18446744073709551616)) (.var 34)) (.cons (.op .add (.op .mul (.var 36) (.lit 18446744073709551616)) (.var 37)) (.cons (.op .add (.op .mul (.var 39) (.lit 18446744073709551616)) (.var 40)) (.cons (.var 8) (.cons (.var 11) (.cons (.var 14) (.cons (.var 17) (.cons (.var 42) (.cons (.var 43) (.cons (.var 44) (.cons (.var 45) (.cons (.var 47) (.cons (.op .max (.op .max (.lit 0) (.op .fdiv (.op .sub (.op .add (.op .sub (.op .min (.op .min (.var 1) (.var 3)) (.var 5)) (.lit 128)) (.lit 256)) (.lit 1)) (.lit 256))) (.op .min (.var 45) (.op .add (.op .fdiv (.op .sub (.op .max (.op .max (.var 1) (.var 3)) (.var 5)) (.lit 128)) (.lit 256)) (.lit 1)))) .nil))))))))))))))))))))))))))))) (.var 46) true], vecTag + 46), some ([(.int .i64 (.var 44)), (.int .i64 (.var 45)), (.own 0 (.var 46) (some (.var 46)))], 78)], (.int .i64 (.lit 1)), [some ([.vec [.bool, .int .i64, .int .i32, .int .i32, .int .i32, .int .i32, .int .i32, .int .i32] (.var 47) (.var 46) true], vecTag + 46), some ([(.int .i64 (.var 44)), (.int .i64 (.var 45)), (.own 0 (.var 46) (some (.var 46)))], 78)]⟩
def facek_run (P : Program) (fs : List B) : Res SV := withCtx G GI facek_vt fs fun X => exFunM P X GB ct_fk lpNil 4000 12 facek_F
end Go.Proofs.Ytoiecphddchknaa
set_option maxRecDepth 100000
namespace Go.Proofs.Ytoiecphddchknaa
open Go Go.RowKit Sx Wi
def facekf_R (P : Program) (fs : List B) : Res SV := facek_run P fs
def facekf_f0 : List B := []
def facekf_b0 : B := (.cmp .eq (.var 46) (.op .mul (.var 44) (.var 45)))
def facekf_f1 : List B := grow facekf_b0 ++ facekf_f0
def facekf_b1 : B := (.cmp .lt (.var 42) (.lit 1))
def facekf_f2 : List B := grow facekf_b1 ++ facekf_f1
def facekf_f3 : List B := grow (B.neg facekf_b1) ++ facekf_f1
def facekf_b2 : B := (.cmp .lt (.lit 4) (.var 42))
def facekf_f4 : List B := grow facekf_b2 ++ facekf_f3
def facekf_f5 : List B := grow (B.neg facekf_b2) ++ facekf_f3
def facekf_b3 : B := (.and (.cmp .le (.lit (-671088640)) (.var 0)) (.and (.cmp .le (.var 0) (.lit 671088640)) (.and (.cmp .le (.lit (-671088640)) (.var 1)) (.and (.cmp .le (.var 1) (.lit 671088640)) (.and (.cmp .le (.lit (-671088640)) (.var 2)) (.and (.cmp .le (.var 2) (.lit 671088640)) (.and (.cmp .le (.lit (-671088640)) (.var 3)) (.and (.cmp .le (.var 3) (.lit 671088640)) (.and (.cmp .le (.lit (-671088640)) (.var 4)) (.and (.cmp .le (.var 4) (.lit 671088640)) (.and (.cmp .le (.lit (-671088640)) (.var 5)) (.cmp .le (.var 5) (.lit 671088640)))))))))))))
def facekf_f6 : List B := grow facekf_b3 ++ facekf_f5
def facekf_b4 : B := (.and (.cmp .le (.lit (-1125899906842624)) (.op .add (.op .mul (.var 6) (.lit 18446744073709551616)) (.var 7))) (.and (.cmp .le (.op .add (.op .mul (.var 6) (.lit 18446744073709551616)) (.var 7)) (.lit 1125899906842624)) (.and (.cmp .le (.lit (-1125899906842624)) (.op .add (.op .mul (.var 18) (.lit 18446744073709551616)) (.var 19))) (.and (.cmp .le (.op .add (.op .mul (.var 18) (.lit 18446744073709551616)) (.var 19)) (.lit 1125899906842624)) (.and (.cmp .le (.lit (-1125899906842624)) (.op .add (.op .mul (.var 30) (.lit 18446744073709551616)) (.var 31))) (.and (.cmp .le (.op .add (.op .mul (.var 30) (.lit 18446744073709551616)) (.var 31)) (.lit 1125899906842624)) (.and (.cmp .le (.lit 1) (.var 8)) (.and (.cmp .le (.var 8) (.lit 65535)) (.and (.cmp .eq (.var 20) (.var 8)) (.cmp .eq (.var 32) (.var 8)))))))))))
def facekf_f7 : List B := grow facekf_b4 ++ facekf_f6
def facekf_b5 : B := (.cmp .lt (.lit 1) (.var 42))
def facekf_f8 : List B := grow facekf_b5 ++ facekf_f7
def facekf_b6 : B := (.and (.cmp .le (.lit (-1125899906842624)) (.op .add (.op .mul (.var 9) (.lit 18446744073709551616)) (.var 10))) (.and (.cmp .le (.op .add (.op .mul (.var 9) (.lit 18446744073709551616)) (.var 10)) (.lit 1125899906842624)) (.and (.cmp .le (.lit (-1125899906842624)) (.op .add (.op .mul (.var 21) (.lit 18446744073709551616)) (.var 22))) (.and (.cmp .le (.op .add (.op .mul (.var 21) (.lit 18446744073709551616)) (.var 22)) (.lit 1125899906842624)) (.and (.cmp .le (.lit (-1125899906842624)) (.op .add (.op .mul (.var 33) (.lit 18446744073709551616)) (.var 34))) (.and (.cmp .le (.op .add (.op .mul (.var 33) (.lit 18446744073709551616)) (.var 34)) (.lit 1125899906842624)) (.and (.cmp .le (.lit 1) (.var 11)) (.and (.cmp .le (.var 11) (.lit 65535)) (.and (.cmp .eq (.var 23) (.var 11)) (.cmp .eq (.var 35) (.var 11)))))))))))
def facekf_f9 : List B := grow facekf_b6 ++ facekf_f8
def facekf_b7 : B := (.cmp .lt (.lit 2) (.var 42))
def facekf_f10 : List B := grow facekf_b7 ++ facekf_f9
def facekf_b8 : B := (.and (.cmp .le (.lit (-1125899906842624)) (.op .add (.op .mul (.var 12) (.lit 18446744073709551616)) (.var 13))) (.and (.cmp .le (.op .add (.op .mul (.var 12) (.lit 18446744073709551616)) (.var 13)) (.lit 1125899906842624)) (.and (.cmp .le (.lit (-1125899906842624)) (.op .add (.op .mul (.var 24) (.lit 18446744073709551616)) (.var 25))) (.and (.cmp .le (.op .add (.op .mul (.var 24) (.lit 18446744073709551616)) (.var 25)) (.lit 1125899906842624)) (.and (.cmp .le (.lit (-1125899906842624)) (.op .add (.op .mul (.var 36) (.lit 18446744073709551616)) (.var 37))) (.and (.cmp .le (.op .add (.op .mul (.var 36) (.lit 18446744073709551616)) (.var 37)) (.lit 1125899906842624)) (.and (.cmp .le (.lit 1) (.var 14)) (.and (.cmp .le (.var 14) (.lit 65535)) (.and (.cmp .eq (.var 26) (.var 14)) (.cmp .eq (.var 38) (.var 14)))))))))))
def facekf_f11 : List B := grow facekf_b8 ++ facekf_f10
def facekf_b9 : B := (.cmp .lt (.lit 3) (.var 42))
def facekf_f12 : List B := grow facekf_b9 ++ facekf_f11
def facekf_b10 : B := (.and (.cmp .le (.lit (-1125899906842624)) (.op .add (.op .mul (.var 15) (.lit 18446744073709551616)) (.var 16))) (.and (.cmp .le (.op .add (.op .mul (.var 15) (.lit 18446744073709551616)) (.var 16)) (.lit 1125899906842624)) (.and (.cmp .le (.lit (-1125899906842624)) (.op .add (.op .mul (.var 27) (.lit 18446744073709551616)) (.var 28))) (.and (.cmp .le (.op .add (.op .mul (.var 27) (.lit 18446744073709551616)) (.var 28)) (.lit 1125899906842624)) (.and (.cmp .le (.lit (-1125899906842624)) (.op .add (.op .mul (.var 39) (.lit 18446744073709551616)) (.var 40))) (.and (.cmp .le (.op .add (.op .mul (.var 39) (.lit 18446744073709551616)) (.var 40)) (.lit 1125899906842624)) (.and (.cmp .le (.lit 1) (.var 17)) (.and (.cmp .le (.var 17) (.lit 65535)) (.and (.cmp .eq (.var 29) (.var 17)) (.cmp .eq (.var 41) (.var 17)))))))))))
def facekf_f13 : List B := grow facekf_b10 ++ facekf_f12
def facekf_f14 : List B := grow (B.neg facekf_b10) ++ facekf_f12
def facekf_f15 : List B := grow (B.neg facekf_b9) ++ facekf_f11
def facekf_f16 : List B := grow (B.neg facekf_b8) ++ facekf_f10
def facekf_f17 : List B := grow (B.neg facekf_b7) ++ facekf_f9
def facekf_f18 : List B := grow (B.neg facekf_b6) ++ facekf_f8
def facekf_f19 : List B := grow (B.neg facekf_b5) ++ facekf_f7
def facekf_f20 : List B := grow (B.neg facekf_b4) ++ facekf_f6
def facekf_f21 : List B := grow (B.neg facekf_b3) ++ facekf_f5
theorem facekf_n2 : facekf_R Try.prog facekf_f2 = .ok (.tuple [(.agg []), (.bool (.lit false))]) := by kernel_rfl
theorem facekf_n4 : facekf_R Try.prog facekf_f4 = .ok (.tuple [(.agg []), (.bool (.lit false))]) := by kernel_rfl
theorem facekf_n13 : facekf_R Try.prog facekf_f13 = .ok (.tuple [(.agg []), (.bool (.lit true))]) := by kernel_rfl
theorem facekf_n14 : facekf_R Try.prog facekf_f14 = .ok (.tuple [(.agg []), (.bool (.lit false))]) := by kernel_rfl
theorem facekf_n15 : facekf_R Try.prog facekf_f15 = .ok (.tuple [(.agg []), (.bool (.lit true))]) := by kernel_rfl
theorem facekf_n16 : facekf_R Try.prog facekf_f16 = .ok (.tuple [(.agg []), (.bool (.lit false))]) := by kernel_rfl
theorem facekf_n17 : facekf_R Try.prog facekf_f17 = .ok (.tuple [(.agg []), (.bool (.lit true))]) := by kernel_rfl
theorem facekf_n18 : facekf_R Try.prog facekf_f18 = .ok (.tuple [(.agg []), (.bool (.lit false))]) := by kernel_rfl
theorem facekf_n19 : facekf_R Try.prog facekf_f19 = .ok (.tuple [(.agg []), (.bool (.lit true))]) := by kernel_rfl
theorem facekf_n20 : facekf_R Try.prog facekf_f20 = .ok (.tuple [(.agg []), (.bool (.lit false))]) := by kernel_rfl
theorem facekf_n21 : facekf_R Try.prog facekf_f21 = .ok (.tuple [(.agg []), (.bool (.lit false))]) := by kernel_rfl
end Go.Proofs.Ytoiecphddchknaa
set_option maxRecDepth 100000
namespace Go.Proofs.Ytoiecphddchknaa
open Go Go.RowKit Sx Wi
def lives_R (P : Program) (fs : List B) : Res SV := withCtx G GI [] fs (fun X => exFun P X GB ct_wt 4000 10 [])
def lives_f0 : List B := []
theorem lives_n0 : lives_R Try.prog lives_f0 = .ok (.bool (.and (.or (.and (.lit false) (.lit false)) (.and (.lit true) (.lit true))) (.and (.cmp .eq (.lit 0) (.lit 0)) (.and (.cmp .eq (.lit 0) (.lit 0)) (.and (.cmp .eq (.lit 0) (.lit 0)) (.and (.cmp .eq (.lit 0) (.lit 0)) (.and (.cmp .eq (.lit 0) (.lit 0)) (.and (.cmp .eq (.lit 0) (.lit 0)) (.cmp .eq (.lit 0) (.lit 0)))))))))) := by kernel_rfl
end Go.Proofs.Ytoiecphddchknaa
namespace Go.Proofs.Ytoiecphddchknaa
open Go Go.RowKit Sx Wi
set_option maxRecDepth 100000 in
theorem lives_any   (w : World) (hw : WOk GB w) : Known Try.prog 10 ∧ Calls Try.prog 10 #[] w (fun e w' => e = .returned (.bool true) ∧ Below w.heap.size w w') := by
  refine calls_eq (way_calls3 (ρ := rho []) (run := fun fs => lives_R Try.prog fs) (fun _ => rfl) fits (within_get trivial) gi_ok (fun X hX hG => ct_wt_ok hX hG) rfl rfl gbApart_nil ?_ w hw)
  refine way_leaf lives_n0 ?_
  exact ⟨rfl, rfl⟩
def lives_entry : Entry := fun _ args =>
  match args with
  | [] => .ok (.bool (.lit true))
  | _ => .fail 201
theorem lives_ok {X : Ctx} {ρ : Nat → Int} (hX : X.Ok ρ) (hG : X.G = G) : EntryOk Try.prog X ρ GB 10 lives_entry := by
  obtain ⟨XG, XI, XV, XF⟩ := X
  simp only at hG
  subst hG
  intro args s h α w vals hv hw
  unfold lives_entry at h
  split at h
  · cases h
    exact entry_calls hv rfl rfl (lives_any w hw)
  · cases h
set_option maxHeartbeats 4000000 in
set_option maxRecDepth 100000 in
theorem facek_mem (x0 x1 x2 x3 x4 x5 x6 x7 x8 x9 x10 x11 x12 x13 x14 x15 x16 x17 x18 x19 x20 x21 x22 x23 x24 x25 x26 x27 x28 x29 x30 x31 x32 x33 x34 x35 x36 x37 x38 x39 x40 x41 x42 x43 x44 x45 x46 C0 : Int) (b0 : (-9223372036854775808) ≤ x0 ∧ x0 ≤ 9223372036854775807) (b1 : (-9223372036854775808) ≤ x1 ∧ x1 ≤ 9223372036854775807) (b2 : (-9223372036854775808) ≤ x2 ∧ x2 ≤ 9223372036854775807) (b3 : (-9223372036854775808) ≤ x3 ∧ x3 ≤ 9223372036854775807) (b4 : (-9223372036854775808) ≤ x4 ∧ x4 ≤ 9223372036854775807) (b5 : (-9223372036854775808) ≤ x5 ∧ x5 ≤ 9223372036854775807) (b6 : (-9223372036854775808) ≤ x6 ∧ x6 ≤ 9223372036854775807) (b7 : 0 ≤ x7 ∧ x7 ≤ 18446744073709551615) (b8 : (-9223372036854775808) ≤ x8 ∧ x8 ≤ 9223372036854775807) (b9 : (-9223372036854775808) ≤ x9 ∧ x9 ≤ 9223372036854775807) (b10 : 0 ≤ x10 ∧ x10 ≤ 18446744073709551615) (b11 : (-9223372036854775808) ≤ x11 ∧ x11 ≤ 9223372036854775807) (b12 : (-9223372036854775808) ≤ x12 ∧ x12 ≤ 9223372036854775807) (b13 : 0 ≤ x13 ∧ x13 ≤ 18446744073709551615) (b14 : (-9223372036854775808) ≤ x14 ∧ x14 ≤ 9223372036854775807) (b15 : (-9223372036854775808) ≤ x15 ∧ x15 ≤ 9223372036854775807) (b16 : 0 ≤ x16 ∧ x16 ≤ 18446744073709551615) (b17 : (-9223372036854775808) ≤ x17 ∧ x17 ≤ 9223372036854775807) (b18 : (-9223372036854775808) ≤ x18 ∧ x18 ≤ 9223372036854775807) (b19 : 0 ≤ x19 ∧ x19 ≤ 18446744073709551615) (b20 : (-9223372036854775808) ≤ x20 ∧ x20 ≤ 9223372036854775807) (b21 : (-9223372036854775808) ≤ x21 ∧ x21 ≤ 9223372036854775807) (b22 : 0 ≤ x22 ∧ x22 ≤ 18446744073709551615) (b23 : (-9223372036854775808) ≤ x23 ∧ x23 ≤ 9223372036854775807) (b24 : (-9223372036854775808) ≤ x24 ∧ x24 ≤ 9223372036854775807) (b25 : 0 ≤ x25 ∧ x25 ≤ 18446744073709551615) (b26 : (-9223372036854775808) ≤ x26 ∧ x26 ≤ 9223372036854775807) (b27 : (-9223372036854775808) ≤ x27 ∧ x27 ≤ 9223372036854775807) (b28 : 0 ≤ x28 ∧ x28 ≤ 18446744073709551615) (b29 : (-9223372036854775808) ≤ x29 ∧ x29 ≤ 9223372036854775807) (b30 : (-9223372036854775808) ≤ x30 ∧ x30 ≤ 9223372036854775807) (b31 : 0 ≤ x31 ∧ x31 ≤ 18446744073709551615) (b32 : (-9223372036854775808) ≤ x32 ∧ x32 ≤ 9223372036854775807) (b33 : (-9223372036854775808) ≤ x33 ∧ x33 ≤ 9223372036854775807) (b34 : 0 ≤ x34 ∧ x34 ≤ 18446744073709551615) (b35 : (-9223372036854775808) ≤ x35 ∧ x35 ≤ 9223372036854775807) (b36 : (-9223372036854775808) ≤ x36 ∧ x36 ≤ 9223372036854775807) (b37 : 0 ≤ x37 ∧ x37 ≤ 18446744073709551615) (b38 : (-9223372036854775808) ≤ x38 ∧ x38 ≤ 9223372036854775807) (b39 : (-9223372036854775808) ≤ x39 ∧ x39 ≤ 9223372036854775807) (b40 : 0 ≤ x40 ∧ x40 ≤ 18446744073709551615) (b41 : (-9223372036854775808) ≤ x41 ∧ x41 ≤ 9223372036854775807) (b42 : (-9223372036854775808) ≤ x42 ∧ x42 ≤ 9223372036854775807) (b43 : (-9223372036854775808) ≤ x43 ∧ x43 ≤ 9223372036854775807) (b44 : 1 ≤ x44 ∧ x44 ≤ 256) (b45 : 1 ≤ x45 ∧ x45 ≤ 256) (b46 : 1 ≤ x46 ∧ x46 ≤ 65536) (hp : facek_pre.den G (rho (([x0, x1, x2, x3, x4, x5, x6, x7, x8, x9, x10, x11, x12, x13, x14, x15, x16, x17, x18, x19, x20, x21, x22, x23, x24, x25, x26, x27, x28, x29, x30, x31, x32, x33, x34, x35, x36, x37, x38, x39, x40, x41, x42, x43, x44, x45, x46] : List Int) ++ [C0])) = true) : MemFun Try.prog G GB 12 facek_F (rho (([x0, x1, x2, x3, x4, x5, x6, x7, x8, x9, x10, x11, x12, x13, x14, x15, x16, x17, x18, x19, x20, x21, x22, x23, x24, x25, x26, x27, x28, x29, x30, x31, x32, x33, x34, x35, x36, x37, x38, x39, x40, x41, x42, x43, x44, x45, x46] : List Int) ++ [C0])) := by
  refine memFun_way (lp := lpNil) (run := facek_run Try.prog) (fun _ => rfl) fits (within_app (by exact ⟨b0, b1, b2, b3, b4, b5, b6, b7, b8, b9, b10, b11, b12, b13, b14, b15, b16, b17, b18, b19, b20, b21, b22, b23, b24, b25, b26, b27, b28, b29, b30, b31, b32, b33, b34, b35, b36, b37, b38, b39, b40, b41, b42, b43, b44, b45, b46, trivial⟩)) gi_ok (fun X hX hG => ct_fk_ok hX hG) (fun X hX hG fn c hf hc => lpOk_lpNil) rfl ?_
  clear b0 b1 b2 b3 b4 b5 b6 b7 b8 b9 b10 b11 b12 b13 b14 b15 b16 b17 b18 b19 b20 b21 b22 b23 b24 b25 b26 b27 b28 b29 b30 b31 b32 b33 b34 b35 b36 b37 b38 b39 b40 b41 b42 b43 b44 b45 b46
  refine way_cut facekf_b0 (fun h0 => ?_) (fun h0 => ?_)
  rotate_left
  · skip
    refine way_bad ?_
    unfold facekf_b0 at h0; exact absurd hp (by unfold facek_pre; rw [h0]; decide)
  refine way_cut facekf_b1 (fun h1 => ?_) (fun h1 => ?_)
  · skip
    refine way_leaf facekf_n2 ?_
    unfold facekf_b0 at h0; unfold facekf_b1 at h1; clear hp h0; simp only [FunP]; refine ⟨?_, trivial⟩; show B.den G _ facek_b = _; unfold facek_b; rw [Bool.eq_false_iff]; intro h; first | (simp only [nn, List.cons_append, List.nil_append, Bool.or_eq_true, lenE, ne_eq] at *; omega) | (have hl := Bool.eq_false_iff.1 h1; clear h1; refine hl ?_; clear hl; simp only [nn, List.cons_append, List.nil_append, Bool.or_eq_true, lenE, ne_eq] at *; omega)
  refine way_cut facekf_b2 (fun h2 => ?_) (fun h2 => ?_)
  · skip
    refine way_leaf facekf_n4 ?_
    unfold facekf_b0 at h0; unfold facekf_b1 at h1; unfold facekf_b2 at h2; clear hp h0; simp only [FunP]; refine ⟨?_, trivial⟩; show B.den G _ facek_b = _; unfold facek_b; rw [Bool.eq_false_iff]; intro h; first | (simp only [nn, List.cons_append, List.nil_append, Bool.or_eq_true, lenE, ne_eq] at *; omega) | (have hl := Bool.eq_false_iff.1 h2; clear h2; refine hl ?_; clear hl; simp only [nn, List.cons_append, List.nil_append, Bool.or_eq_true, lenE, ne_eq] at *; omega)
  refine way_cut facekf_b3 (fun h3 => ?_) (fun h3 => ?_)
  rotate_left
  · skip
    refine way_leaf facekf_n21 ?_
    unfold facekf_b0 at h0; unfold facekf_b1 at h1; unfold facekf_b2 at h2; unfold facekf_b3 at h3; clear hp h0; simp only [FunP]; refine ⟨?_, trivial⟩; show B.den G _ facek_b = _; unfold facek_b; rw [Bool.eq_false_iff]; intro h; first | (simp only [nn, List.cons_append, List.nil_append, Bool.or_eq_true, lenE, ne_eq] at *; omega) | (have hl := Bool.eq_false_iff.1 h3; clear h3; refine hl ?_; clear hl; simp only [nn, List.cons_append, List.nil_append, Bool.or_eq_true, lenE, ne_eq] at *; omega)
  refine way_cut facekf_b4 (fun h4 => ?_) (fun h4 => ?_)
  rotate_left
  · skip
    refine way_leaf facekf_n20 ?_
    unfold facekf_b0 at h0; unfold facekf_b1 at h1; unfold facekf_b2 at h2; unfold facekf_b3 at h3; unfold facekf_b4 at h4; clear hp h0; simp only [FunP]; refine ⟨?_, trivial⟩; show B.den G _ facek_b = _; unfold facek_b; rw [Bool.eq_false_iff]; intro h; first | (simp only [nn, List.cons_append, List.nil_append, Bool.or_eq_true, lenE, ne_eq] at *; omega) | (have hl := Bool.eq_false_iff.1 h4; clear h4; refine hl ?_; clear hl; simp only [nn, List.cons_append, List.nil_append, Bool.or_eq_true, lenE, ne_eq] at *; omega)
  refine way_cut facekf_b5 (fun h5 => ?_) (fun h5 => ?_)
  rotate_left
  · skip
    refine way_leaf facekf_n19 ?_
    unfold facekf_b0 at h0; unfold facekf_b1 at h1; unfold facekf_b2 at h2; unfold facekf_b3 at h3; unfold facekf_b4 at h4; unfold facekf_b5 at h5; clear hp h0; simp only [FunP]; refine ⟨?_, trivial⟩; show B.den G _ facek_b = _; unfold facek_b; simp only [nn, List.cons_append, List.nil_append, Bool.or_eq_true, lenE, ne_eq] at *; (try simp only [Bool.and_eq_true, decide_eq_true_eq] at *); omega
  refine way_cut facekf_b6 (fun h6 => ?_) (fun h6 => ?_)
  rotate_left
  · skip
    refine way_leaf facekf_n18 ?_
    unfold facekf_b0 at h0; unfold facekf_b1 at h1; unfold facekf_b2 at h2; unfold facekf_b3 at h3; unfold facekf_b4 at h4; unfold facekf_b5 at h5; unfold facekf_b6 at h6; clear hp h0; simp only [FunP]; refine ⟨?_, trivial⟩; show B.den G _ facek_b = _; unfold facek_b; rw [Bool.eq_false_iff]; intro h; first | (simp only [nn, List.cons_append, List.nil_append, Bool.or_eq_true, lenE, ne_eq] at *; omega) | (have hl := Bool.eq_false_iff.1 h6; clear h6; refine hl ?_; clear hl; simp only [nn, List.cons_append, List.nil_append, Bool.or_eq_true, lenE, ne_eq] at *; omega)
  refine way_cut facekf_b7 (fun h7 => ?_) (fun h7 => ?_)
  rotate_left
  · skip
    refine way_leaf facekf_n17 ?_
    unfold facekf_b0 at h0; unfold facekf_b1 at h1; unfold facekf_b2 at h2; unfold facekf_b3 at h3; unfold facekf_b4 at h4; unfold facekf_b5 at h5; unfold facekf_b6 at h6; unfold facekf_b7 at h7; clear hp h0; simp only [FunP]; refine ⟨?_, trivial⟩; show B.den G _ facek_b = _; unfold facek_b; simp only [nn, List.cons_append, List.nil_append, Bool.or_eq_true, lenE, ne_eq] at *; (try simp only [Bool.and_eq_true, decide_eq_true_eq] at *); omega
  refine way_cut facekf_b8 (fun h8 => ?_) (fun h8 => ?_)
  rotate_left
  · skip
    refine way_leaf facekf_n16 ?_
    unfold facekf_b0 at h0; unfold facekf_b1 at h1; unfold facekf_b2 at h2; unfold facekf_b3 at h3; unfold facekf_b4 at h4; unfold facekf_b5 at h5; unfold facekf_b6 at h6; unfold facekf_b7 at h7; unfold facekf_b8 at h8; clear hp h0; simp only [FunP]; refine ⟨?_, trivial⟩; show B.den G _ facek_b = _; unfold facek_b; rw [Bool.eq_false_iff]; intro h; first | (simp only [nn, List.cons_append, List.nil_append, Bool.or_eq_true, lenE, ne_eq] at *; omega) | (have hl := Bool.eq_false_iff.1 h8; clear h8; refine hl ?_; clear hl; simp only [nn, List.cons_append, List.nil_append, Bool.or_eq_true, lenE, ne_eq] at *; omega)
  refine way_cut facekf_b9 (fun h9 => ?_) (fun h9 => ?_)
  rotate_left
  · skip
    refine way_leaf facekf_n15 ?_
    unfold facekf_b0 at h0; unfold facekf_b1 at h1; unfold facekf_b2 at h2; unfold facekf_b3 at h3; unfold facekf_b4 at h4; unfold facekf_b5 at h5; unfold facekf_b6 at h6; unfold facekf_b7 at h7; unfold facekf_b8 at h8; unfold facekf_b9 at h9; clear hp h0; simp only [FunP]; refine ⟨?_, trivial⟩; show B.den G _ facek_b = _; unfold facek_b; simp only [nn, List.cons_append, List.nil_append, Bool.or_eq_true, lenE, ne_eq] at *; (try simp only [Bool.and_eq_true, decide_eq_true_eq] at *); omega
  refine way_cut facekf_b10 (fun h10 => ?_) (fun h10 => ?_)
  · skip
    refine way_leaf facekf_n13 ?_
    unfold facekf_b0 at h0; unfold facekf_b1 at h1; unfold facekf_b2 at h2; unfold facekf_b3 at h3; unfold facekf_b4 at h4; unfold facekf_b5 at h5; unfold facekf_b6 at h6; unfold facekf_b7 at h7; unfold facekf_b8 at h8; unfold facekf_b9 at h9; unfold facekf_b10 at h10; clear hp h0; simp only [FunP]; refine ⟨?_, trivial⟩; show B.den G _ facek_b = _; unfold facek_b; simp only [nn, List.cons_append, List.nil_append, Bool.or_eq_true, lenE, ne_eq] at *; (try simp only [Bool.and_eq_true, decide_eq_true_eq] at *); omega
  refine way_leaf facekf_n14 ?_
  unfold facekf_b0 at h0; unfold facekf_b1 at h1; unfold facekf_b2 at h2; unfold facekf_b3 at h3; unfold facekf_b4 at h4; unfold facekf_b5 at h5; unfold facekf_b6 at h6; unfold facekf_b7 at h7; unfold facekf_b8 at h8; unfold facekf_b9 at h9; unfold facekf_b10 at h10; clear hp h0; simp only [FunP]; refine ⟨?_, trivial⟩; show B.den G _ facek_b = _; unfold facek_b; rw [Bool.eq_false_iff]; intro h; first | (simp only [nn, List.cons_append, List.nil_append, Bool.or_eq_true, lenE, ne_eq] at *; omega) | (have hl := Bool.eq_false_iff.1 h10; clear h10; refine hl ?_; clear hl; simp only [nn, List.cons_append, List.nil_append, Bool.or_eq_true, lenE, ne_eq] at *; omega)
def facek_entry : Ctx → List SV → Heap → Res (SV × Heap) := memEntry GB facek_vt 1 facek_pre facek_F
theorem facek_ok {X : Ctx} {ρ : Nat → Int} (hX : X.Ok ρ) (hG : X.G = G) : MemOk Try.prog X ρ GB 12 facek_entry := by
  obtain ⟨XG, XI, XV, XF⟩ := X
  simp only at hG
  subst hG
  refine memEntry_ok hX ?_
  intro xs ls hw hl hp
  unfold facek_vt at hw
  obtain ⟨x0, y0, e0, b0, h0⟩ := in_cons hw
  obtain ⟨x1, y1, e1, b1, h1⟩ := in_cons h0
  obtain ⟨x2, y2, e2, b2, h2⟩ := in_cons h1
  obtain ⟨x3, y3, e3, b3, h3⟩ := in_cons h2
  obtain ⟨x4, y4, e4, b4, h4⟩ := in_cons h3
  obtain ⟨x5, y5, e5, b5, h5⟩ := in_cons h4
  obtain ⟨x6, y6, e6, b6, h6⟩ := in_cons h5
  obtain ⟨x7, y7, e7, b7, h7⟩ := in_cons h6
  obtain ⟨x8, y8, e8, b8, h8⟩ := in_cons h7
  obtain ⟨x9, y9, e9, b9, h9⟩ := in_cons h8
  obtain ⟨x10, y10, e10, b10, h10⟩ := in_cons h9
  obtain ⟨x11, y11, e11, b11, h11⟩ := in_cons h10
  obtain ⟨x12, y12, e12, b12, h12⟩ := in_cons h11
  obtain ⟨x13, y13, e13, b13, h13⟩ := in_cons h12
  obtain ⟨x14, y14, e14, b14, h14⟩ := in_cons h13
  obtain ⟨x15, y15, e15, b15, h15⟩ := in_cons h14
  obtain ⟨x16, y16, e16, b16, h16⟩ := in_cons h15
  obtain ⟨x17, y17, e17, b17, h17⟩ := in_cons h16
  obtain ⟨x18, y18, e18, b18, h18⟩ := in_cons h17
  obtain ⟨x19, y19, e19, b19, h19⟩ := in_cons h18
  obtain ⟨x20, y20, e20, b20, h20⟩ := in_cons h19
  obtain ⟨x21, y21, e21, b21, h21⟩ := in_cons h20
  obtain ⟨x22, y22, e22, b22, h22⟩ := in_cons h21
  obtain ⟨x23, y23, e23, b23, h23⟩ := in_cons h22
  obtain ⟨x24, y24, e24, b24, h24⟩ := in_cons h23
  obtain ⟨x25, y25, e25, b25, h25⟩ := in_cons h24
  obtain ⟨x26, y26, e26, b26, h26⟩ := in_cons h25
  obtain ⟨x27, y27, e27, b27, h27⟩ := in_cons h26
  obtain ⟨x28, y28, e28, b28, h28⟩ := in_cons h27
  obtain ⟨x29, y29, e29, b29, h29⟩ := in_cons h28
  obtain ⟨x30, y30, e30, b30, h30⟩ := in_cons h29
  obtain ⟨x31, y31, e31, b31, h31⟩ := in_cons h30
  obtain ⟨x32, y32, e32, b32, h32⟩ := in_cons h31
  obtain ⟨x33, y33, e33, b33, h33⟩ := in_cons h32
  obtain ⟨x34, y34, e34, b34, h34⟩ := in_cons h33
  obtain ⟨x35, y35, e35, b35, h35⟩ := in_cons h34
  obtain ⟨x36, y36, e36, b36, h36⟩ := in_cons h35
  obtain ⟨x37, y37, e37, b37, h37⟩ := in_cons h36
  obtain ⟨x38, y38, e38, b38, h38⟩ := in_cons h37
  obtain ⟨x39, y39, e39, b39, h39⟩ := in_cons h38
  obtain ⟨x40, y40, e40, b40, h40⟩ := in_cons h39
  obtain ⟨x41, y41, e41, b41, h41⟩ := in_cons h40
  obtain ⟨x42, y42, e42, b42, h42⟩ := in_cons h41
  obtain ⟨x43, y43, e43, b43, h43⟩ := in_cons h42
  obtain ⟨x44, y44, e44, b44, h44⟩ := in_cons h43
  obtain ⟨x45, y45, e45, b45, h45⟩ := in_cons h44
  obtain ⟨x46, y46, e46, b46, h46⟩ := in_cons h45
  have e47 := in_nil h46
  subst e47 e46 e45 e44 e43 e42 e41 e40 e39 e38 e37 e36 e35 e34 e33 e32 e31 e30 e29 e28 e27 e26 e25 e24 e23 e22 e21 e20 e19 e18 e17 e16 e15 e14 e13 e12 e11 e10 e9 e8 e7 e6 e5 e4 e3 e2 e1 e0
  obtain ⟨l0, rfl⟩ := len1 hl
  exact facek_mem x0 x1 x2 x3 x4 x5 x6 x7 x8 x9 x10 x11 x12 x13 x14 x15 x16 x17 x18 x19 x20 x21 x22 x23 x24 x25 x26 x27 x28 x29 x30 x31 x32 x33 x34 x35 x36 x37 x38 x39 x40 x41 x42 x43 x44 x45 x46 l0 b0 b1 b2 b3 b4 b5 b6 b7 b8 b9 b10 b11 b12 b13 b14 b15 b16 b17 b18 b19 b20 b21 b22 b23 b24 b25 b26 b27 b28 b29 b30 b31 b32 b33 b34 b35 b36 b37 b38 b39 b40 b41 b42 b43 b44 b45 b46 hp
def ct_facek : Contracts := ctConsM 12 facek_entry ct_fk
theorem ct_facek_ok {X : Ctx} {ρ : Nat → Int} (hX : X.Ok ρ) (hG : X.G = G) : CtOk Try.prog X ρ GB ct_facek := ctConsM_ok (facek_ok hX hG) (ct_fk_ok hX hG)
def ct_law : Contracts := ctCons 10 lives_entry ct_facek
theorem ct_law_ok {X : Ctx} {ρ : Nat → Int} (hX : X.Ok ρ) (hG : X.G = G) : CtOk Try.prog X ρ GB ct_law := ctCons_ok (lives_ok hX hG) (ct_facek_ok hX hG)
end Go.Proofs.Ytoiecphddchknaa
