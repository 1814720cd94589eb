/- What is proved: the run of a function over its ways, and what is known on each. No condition. -/
import Derived.Test.YtoiecphddchknaaQa2
import Derived.Test.YtoiecphddchknaaQNn
import Derived.Test.YtoiecphddchknaaQFaf0
import Derived.Test.YtoiecphddchknaaQFaf1
import Derived.Test.YtoiecphddchknaaQFaf2
import Derived.Test.YtoiecphddchknaaQFaf3
import Derived.Test.YtoiecphddchknaaQFaf4
import Derived.Test.YtoiecphddchknaaQa4
import Derived.Test.YtoiecphddchknaaQg4
import Derived.Test.YtoiecphddchknaaProg
import Derived.Test.YtoiecphddchknaaQg3
set_option linter.unusedSimpArgs false
set_option linter.unusedVariables false
set_option maxRecDepth 100000
namespace Go.Proofs.Ytoiecphddchknaa
open Go Go.RowKit Sx Wi
def lives_R (P : Program) (fs : List B) : Res SV := withCtx G GI [] fs (fun X => exFun P X GB ct_wt 4000 10 [])
def lives_f0 : List B := []
theorem lives_n0 : lives_R Try.prog lives_f0 = .ok (.bool (.and (.or (.and (.lit false) (.lit false)) (.and (.lit true) (.lit true))) (.and (.cmp .eq (.lit 0) (.lit 0)) (.and (.cmp .eq (.lit 0) (.lit 0)) (.and (.cmp .eq (.lit 0) (.lit 0)) (.and (.cmp .eq (.lit 0) (.lit 0)) (.and (.cmp .eq (.lit 0) (.lit 0)) (.and (.cmp .eq (.lit 0) (.lit 0)) (.cmp .eq (.lit 0) (.lit 0)))))))))) := by kernel_rfl
end Go.Proofs.Ytoiecphddchknaa
namespace Go.Proofs.Ytoiecphddchknaa
open Go Go.RowKit Sx Wi
set_option maxRecDepth 100000 in
theorem lives_any   (w : World) (hw : WOk GB w) : Known Try.prog 10 ∧ Calls Try.prog 10 #[] w (fun e w' => e = .returned (.bool true) ∧ Below w.heap.size w w') := by
  refine calls_eq (way_calls3 (ρ := rho []) (run := fun fs => lives_R Try.prog fs) (fun _ => rfl) fits (within_get trivial) gi_ok (fun X hX hG => ct_wt_ok hX hG) rfl rfl gbApart_nil ?_ w hw)
  refine way_leaf lives_n0 ?_
  exact ⟨rfl, rfl⟩
def lives_entry : Entry := fun _ args =>
  match args with
  | [] => .ok (.bool (.lit true))
  | _ => .fail 201
theorem lives_ok {X : Ctx} {ρ : Nat → Int} (hX : X.Ok ρ) (hG : X.G = G) : EntryOk Try.prog X ρ GB 10 lives_entry := by
  obtain ⟨XG, XI, XV, XF⟩ := X
  simp only at hG
  subst hG
  intro args s h α w vals hv hw
  unfold lives_entry at h
  split at h
  · cases h
    exact entry_calls hv rfl rfl (lives_any w hw)
  · cases h
set_option maxHeartbeats 4000000 in
set_option maxRecDepth 100000 in
theorem face_mem (x0 x1 x2 x3 x4 x5 x6 x7 x8 x9 x10 x11 x12 x13 x14 x15 x16 x17 x18 x19 x20 x21 x22 x23 x24 x25 x26 x27 x28 x29 x30 x31 x32 x33 x34 x35 x36 x37 x38 x39 : Int) (b0 : (-9223372036854775808) ≤ x0 ∧ x0 ≤ 9223372036854775807) (b1 : (-9223372036854775808) ≤ x1 ∧ x1 ≤ 9223372036854775807) (b2 : (-9223372036854775808) ≤ x2 ∧ x2 ≤ 9223372036854775807) (b3 : (-9223372036854775808) ≤ x3 ∧ x3 ≤ 9223372036854775807) (b4 : (-9223372036854775808) ≤ x4 ∧ x4 ≤ 9223372036854775807) (b5 : (-9223372036854775808) ≤ x5 ∧ x5 ≤ 9223372036854775807) (b6 : (-170141183460469231731687303715884105728) ≤ x6 ∧ x6 ≤ 170141183460469231731687303715884105727) (b7 : (-170141183460469231731687303715884105728) ≤ x7 ∧ x7 ≤ 170141183460469231731687303715884105727) (b8 : (-170141183460469231731687303715884105728) ≤ x8 ∧ x8 ≤ 170141183460469231731687303715884105727) (b9 : (-9223372036854775808) ≤ x9 ∧ x9 ≤ 9223372036854775807) (b10 : (-9223372036854775808) ≤ x10 ∧ x10 ≤ 9223372036854775807) (b11 : (-9223372036854775808) ≤ x11 ∧ x11 ≤ 9223372036854775807) (b12 : (-9223372036854775808) ≤ x12 ∧ x12 ≤ 9223372036854775807) (b13 : (-9223372036854775808) ≤ x13 ∧ x13 ≤ 9223372036854775807) (b14 : 0 ≤ x14 ∧ x14 ≤ 18446744073709551615) (b15 : (-9223372036854775808) ≤ x15 ∧ x15 ≤ 9223372036854775807) (b16 : (-9223372036854775808) ≤ x16 ∧ x16 ≤ 9223372036854775807) (b17 : 0 ≤ x17 ∧ x17 ≤ 18446744073709551615) (b18 : (-9223372036854775808) ≤ x18 ∧ x18 ≤ 9223372036854775807) (b19 : (-9223372036854775808) ≤ x19 ∧ x19 ≤ 9223372036854775807) (b20 : 0 ≤ x20 ∧ x20 ≤ 18446744073709551615) (b21 : (-9223372036854775808) ≤ x21 ∧ x21 ≤ 9223372036854775807) (b22 : (-9223372036854775808) ≤ x22 ∧ x22 ≤ 9223372036854775807) (b23 : 0 ≤ x23 ∧ x23 ≤ 18446744073709551615) (b24 : (-9223372036854775808) ≤ x24 ∧ x24 ≤ 9223372036854775807) (b25 : (-9223372036854775808) ≤ x25 ∧ x25 ≤ 9223372036854775807) (b26 : 0 ≤ x26 ∧ x26 ≤ 18446744073709551615) (b27 : (-9223372036854775808) ≤ x27 ∧ x27 ≤ 9223372036854775807) (b28 : (-9223372036854775808) ≤ x28 ∧ x28 ≤ 9223372036854775807) (b29 : 0 ≤ x29 ∧ x29 ≤ 18446744073709551615) (b30 : (-9223372036854775808) ≤ x30 ∧ x30 ≤ 9223372036854775807) (b31 : (-9223372036854775808) ≤ x31 ∧ x31 ≤ 9223372036854775807) (b32 : 0 ≤ x32 ∧ x32 ≤ 18446744073709551615) (b33 : (-9223372036854775808) ≤ x33 ∧ x33 ≤ 9223372036854775807) (b34 : (-9223372036854775808) ≤ x34 ∧ x34 ≤ 9223372036854775807) (b35 : 0 ≤ x35 ∧ x35 ≤ 18446744073709551615) (b36 : (-9223372036854775808) ≤ x36 ∧ x36 ≤ 9223372036854775807) (b37 : (-9223372036854775808) ≤ x37 ∧ x37 ≤ 9223372036854775807) (b38 : 0 ≤ x38 ∧ x38 ≤ 18446744073709551615) (b39 : (-9223372036854775808) ≤ x39 ∧ x39 ≤ 9223372036854775807) : MemFun Try.prog G GB 12 face_F (rho ([x0, x1, x2, x3, x4, x5, x6, x7, x8, x9, x10, x11, x12, x13, x14, x15, x16, x17, x18, x19, x20, x21, x22, x23, x24, x25, x26, x27, x28, x29, x30, x31, x32, x33, x34, x35, x36, x37, x38, x39] : List Int)) := by
  refine memFun_way (lp := lpNil) (run := face_run Try.prog) (fun _ => rfl) fits (within_get ⟨b0, b1, b2, b3, b4, b5, b6, b7, b8, b9, b10, b11, b12, b13, b14, b15, b16, b17, b18, b19, b20, b21, b22, b23, b24, b25, b26, b27, b28, b29, b30, b31, b32, b33, b34, b35, b36, b37, b38, b39, trivial⟩) gi_ok (fun X hX hG => ct_pix_ok hX hG) (fun X hX hG fn c hf hc => lpOk_lpNil) rfl ?_
  refine way_cut facef_b0 (fun h0 => ?_) (fun h0 => ?_)
  · skip
    refine way_leaf facef_n1 ?_
    unfold facef_b0 at h0; clear b0 b1 b2 b3 b4 b5 b9 b10 b11 b12 b13 b14 b15 b16 b17 b18 b19 b20 b21 b22 b23 b24 b25 b26 b27 b28 b29 b30 b31 b32 b33 b34 b35 b36 b37 b38 b39; simp only [FunP]; refine ⟨?_, trivial⟩; show B.den G (rho ([x0, x1, x2, x3, x4, x5, x6, x7, x8, x9, x10, x11, x12, x13, x14, x15, x16, x17, x18, x19, x20, x21, x22, x23, x24, x25, x26, x27, x28, x29, x30, x31, x32, x33, x34, x35, x36, x37, x38, x39] : List Int)) face_b = _; unfold face_b; simp only [nn, List.cons_append, List.nil_append, lenE] at *; (try simp only [G, xG60, Ed.sg] at *); (try simp only [Bool.eq_false_iff, ne_eq, Bool.and_eq_true, decide_eq_true_eq] at *); first | omega | (refine Bool.eq_false_iff.2 (fun h => ?_); simp only [Bool.and_eq_true, decide_eq_true_eq] at h; omega)
  refine way_cut facef_b1 (fun h1 => ?_) (fun h1 => ?_)
  · skip
    refine way_leaf facef_n3 ?_
    unfold facef_b0 at h0; unfold facef_b1 at h1; clear b0 b1 b2 b3 b4 b5 b9 b10 b11 b12 b13 b14 b15 b16 b17 b18 b19 b20 b21 b22 b23 b24 b25 b26 b27 b28 b29 b30 b31 b32 b33 b34 b35 b36 b37 b38 b39; simp only [FunP]; refine ⟨?_, trivial⟩; show B.den G (rho ([x0, x1, x2, x3, x4, x5, x6, x7, x8, x9, x10, x11, x12, x13, x14, x15, x16, x17, x18, x19, x20, x21, x22, x23, x24, x25, x26, x27, x28, x29, x30, x31, x32, x33, x34, x35, x36, x37, x38, x39] : List Int)) face_b = _; unfold face_b; simp only [nn, List.cons_append, List.nil_append, lenE] at *; (try simp only [G, xG60, Ed.sg] at *); (try simp only [Bool.eq_false_iff, ne_eq, Bool.and_eq_true, decide_eq_true_eq] at *); first | omega | (refine Bool.eq_false_iff.2 (fun h => ?_); simp only [Bool.and_eq_true, decide_eq_true_eq] at h; omega)
  refine way_cut facef_b2 (fun h2 => ?_) (fun h2 => ?_)
  · skip
    refine way_leaf facef_n5 ?_
    unfold facef_b0 at h0; unfold facef_b1 at h1; unfold facef_b2 at h2; clear b0 b1 b2 b3 b4 b5 b9 b10 b11 b12 b13 b14 b15 b16 b17 b18 b19 b20 b21 b22 b23 b24 b25 b26 b27 b28 b29 b30 b31 b32 b33 b34 b35 b36 b37 b38 b39; simp only [FunP]; refine ⟨?_, trivial⟩; show B.den G (rho ([x0, x1, x2, x3, x4, x5, x6, x7, x8, x9, x10, x11, x12, x13, x14, x15, x16, x17, x18, x19, x20, x21, x22, x23, x24, x25, x26, x27, x28, x29, x30, x31, x32, x33, x34, x35, x36, x37, x38, x39] : List Int)) face_b = _; unfold face_b; simp only [nn, List.cons_append, List.nil_append, lenE] at *; (try simp only [G, xG60, Ed.sg] at *); (try simp only [Bool.eq_false_iff, ne_eq, Bool.and_eq_true, decide_eq_true_eq] at *); first | omega | (refine Bool.eq_false_iff.2 (fun h => ?_); simp only [Bool.and_eq_true, decide_eq_true_eq] at h; omega)
  refine way_cut facef_b3 (fun h3 => ?_) (fun h3 => ?_)
  · skip
    refine way_leaf facef_n7 ?_
    unfold facef_b0 at h0; unfold facef_b1 at h1; unfold facef_b2 at h2; unfold facef_b3 at h3; clear b0 b1 b2 b3 b4 b5 b9 b10 b11 b12 b13 b14 b15 b16 b17 b18 b19 b20 b21 b22 b23 b24 b25 b26 b27 b28 b29 b30 b31 b32 b33 b34 b35 b36 b37 b38 b39; simp only [FunP]; refine ⟨?_, trivial⟩; show B.den G (rho ([x0, x1, x2, x3, x4, x5, x6, x7, x8, x9, x10, x11, x12, x13, x14, x15, x16, x17, x18, x19, x20, x21, x22, x23, x24, x25, x26, x27, x28, x29, x30, x31, x32, x33, x34, x35, x36, x37, x38, x39] : List Int)) face_b = _; unfold face_b; simp only [nn, List.cons_append, List.nil_append, lenE] at *; (try simp only [G, xG60, Ed.sg] at *); (try simp only [Bool.eq_false_iff, ne_eq, Bool.and_eq_true, decide_eq_true_eq] at *); first | omega | (refine Bool.eq_false_iff.2 (fun h => ?_); simp only [Bool.and_eq_true, decide_eq_true_eq] at h; omega)
  refine way_cut facef_b4 (fun h4 => ?_) (fun h4 => ?_)
  · skip
    refine way_leaf facef_n9 ?_
    unfold facef_b0 at h0; unfold facef_b1 at h1; unfold facef_b2 at h2; unfold facef_b3 at h3; unfold facef_b4 at h4; clear b0 b1 b2 b3 b4 b5 b9 b10 b11 b12 b13 b14 b15 b16 b17 b18 b19 b20 b21 b22 b23 b24 b25 b26 b27 b28 b29 b30 b31 b32 b33 b34 b35 b36 b37 b38 b39; simp only [FunP]; refine ⟨?_, trivial⟩; show B.den G (rho ([x0, x1, x2, x3, x4, x5, x6, x7, x8, x9, x10, x11, x12, x13, x14, x15, x16, x17, x18, x19, x20, x21, x22, x23, x24, x25, x26, x27, x28, x29, x30, x31, x32, x33, x34, x35, x36, x37, x38, x39] : List Int)) face_b = _; unfold face_b; simp only [nn, List.cons_append, List.nil_append, lenE] at *; (try simp only [G, xG60, Ed.sg] at *); (try simp only [Bool.eq_false_iff, ne_eq, Bool.and_eq_true, decide_eq_true_eq] at *); first | omega | (refine Bool.eq_false_iff.2 (fun h => ?_); simp only [Bool.and_eq_true, decide_eq_true_eq] at h; omega)
  refine way_cut facef_b5 (fun h5 => ?_) (fun h5 => ?_)
  · skip
    refine way_leaf facef_n11 ?_
    unfold facef_b0 at h0; unfold facef_b1 at h1; unfold facef_b2 at h2; unfold facef_b3 at h3; unfold facef_b4 at h4; unfold facef_b5 at h5; clear b0 b1 b2 b3 b4 b5 b9 b10 b11 b12 b13 b14 b15 b16 b17 b18 b19 b20 b21 b22 b23 b24 b25 b26 b27 b28 b29 b30 b31 b32 b33 b34 b35 b36 b37 b38 b39; simp only [FunP]; refine ⟨?_, trivial⟩; show B.den G (rho ([x0, x1, x2, x3, x4, x5, x6, x7, x8, x9, x10, x11, x12, x13, x14, x15, x16, x17, x18, x19, x20, x21, x22, x23, x24, x25, x26, x27, x28, x29, x30, x31, x32, x33, x34, x35, x36, x37, x38, x39] : List Int)) face_b = _; unfold face_b; simp only [nn, List.cons_append, List.nil_append, lenE] at *; (try simp only [G, xG60, Ed.sg] at *); (try simp only [Bool.eq_false_iff, ne_eq, Bool.and_eq_true, decide_eq_true_eq] at *); first | omega | (refine Bool.eq_false_iff.2 (fun h => ?_); simp only [Bool.and_eq_true, decide_eq_true_eq] at h; omega)
  refine way_cut facef_b6 (fun h6 => ?_) (fun h6 => ?_)
  · skip
    refine way_leaf facef_n13 ?_
    unfold facef_b0 at h0; unfold facef_b1 at h1; unfold facef_b2 at h2; unfold facef_b3 at h3; unfold facef_b4 at h4; unfold facef_b5 at h5; unfold facef_b6 at h6; clear b0 b1 b2 b3 b4 b5 b9 b10 b11 b12 b13 b14 b15 b16 b17 b18 b19 b20 b21 b22 b23 b24 b25 b26 b27 b28 b29 b30 b31 b32 b33 b34 b35 b36 b37 b38 b39; simp only [FunP]; refine ⟨?_, trivial⟩; show B.den G (rho ([x0, x1, x2, x3, x4, x5, x6, x7, x8, x9, x10, x11, x12, x13, x14, x15, x16, x17, x18, x19, x20, x21, x22, x23, x24, x25, x26, x27, x28, x29, x30, x31, x32, x33, x34, x35, x36, x37, x38, x39] : List Int)) face_b = _; unfold face_b; simp only [nn, List.cons_append, List.nil_append, lenE] at *; (try simp only [G, xG60, Ed.sg] at *); (try simp only [Bool.eq_false_iff, ne_eq, Bool.and_eq_true, decide_eq_true_eq] at *); first | omega | (refine Bool.eq_false_iff.2 (fun h => ?_); simp only [Bool.and_eq_true, decide_eq_true_eq] at h; omega)
  refine way_cut facef_b7 (fun h7 => ?_) (fun h7 => ?_)
  · skip
    refine way_leaf facef_n15 ?_
    unfold facef_b0 at h0; unfold facef_b1 at h1; unfold facef_b2 at h2; unfold facef_b3 at h3; unfold facef_b4 at h4; unfold facef_b5 at h5; unfold facef_b6 at h6; unfold facef_b7 at h7; clear b0 b1 b2 b3 b4 b5 b9 b10 b11 b12 b13 b14 b15 b16 b17 b18 b19 b20 b21 b22 b23 b24 b25 b26 b27 b28 b29 b30 b31 b32 b33 b34 b35 b36 b37 b38 b39; simp only [FunP]; refine ⟨?_, trivial⟩; show B.den G (rho ([x0, x1, x2, x3, x4, x5, x6, x7, x8, x9, x10, x11, x12, x13, x14, x15, x16, x17, x18, x19, x20, x21, x22, x23, x24, x25, x26, x27, x28, x29, x30, x31, x32, x33, x34, x35, x36, x37, x38, x39] : List Int)) face_b = _; unfold face_b; simp only [nn, List.cons_append, List.nil_append, lenE] at *; (try simp only [G, xG60, Ed.sg] at *); (try simp only [Bool.eq_false_iff, ne_eq, Bool.and_eq_true, decide_eq_true_eq] at *); first | omega | (refine Bool.eq_false_iff.2 (fun h => ?_); simp only [Bool.and_eq_true, decide_eq_true_eq] at h; omega)
  refine way_cut facef_b8 (fun h8 => ?_) (fun h8 => ?_)
  · skip
    refine way_leaf facef_n17 ?_
    unfold facef_b0 at h0; unfold facef_b1 at h1; unfold facef_b2 at h2; unfold facef_b3 at h3; unfold facef_b4 at h4; unfold facef_b5 at h5; unfold facef_b6 at h6; unfold facef_b7 at h7; unfold facef_b8 at h8; clear b0 b1 b2 b3 b4 b5 b9 b10 b11 b12 b13 b14 b15 b16 b17 b18 b19 b20 b21 b22 b23 b24 b25 b26 b27 b28 b29 b30 b31 b32 b33 b34 b35 b36 b37 b38 b39; simp only [FunP]; refine ⟨?_, trivial⟩; show B.den G (rho ([x0, x1, x2, x3, x4, x5, x6, x7, x8, x9, x10, x11, x12, x13, x14, x15, x16, x17, x18, x19, x20, x21, x22, x23, x24, x25, x26, x27, x28, x29, x30, x31, x32, x33, x34, x35, x36, x37, x38, x39] : List Int)) face_b = _; unfold face_b; simp only [nn, List.cons_append, List.nil_append, lenE] at *; (try simp only [G, xG60, Ed.sg] at *); (try simp only [Bool.eq_false_iff, ne_eq, Bool.and_eq_true, decide_eq_true_eq] at *); first | omega | (refine Bool.eq_false_iff.2 (fun h => ?_); simp only [Bool.and_eq_true, decide_eq_true_eq] at h; omega)
  refine way_cut facef_b9 (fun h9 => ?_) (fun h9 => ?_)
  · skip
    refine way_leaf facef_n19 ?_
    unfold facef_b0 at h0; unfold facef_b1 at h1; unfold facef_b2 at h2; unfold facef_b3 at h3; unfold facef_b4 at h4; unfold facef_b5 at h5; unfold facef_b6 at h6; unfold facef_b7 at h7; unfold facef_b8 at h8; unfold facef_b9 at h9; clear b0 b1 b2 b3 b4 b5 b9 b10 b11 b12 b13 b14 b15 b16 b17 b18 b19 b20 b21 b22 b23 b24 b25 b26 b27 b28 b29 b30 b31 b32 b33 b34 b35 b36 b37 b38 b39; simp only [FunP]; refine ⟨?_, trivial⟩; show B.den G (rho ([x0, x1, x2, x3, x4, x5, x6, x7, x8, x9, x10, x11, x12, x13, x14, x15, x16, x17, x18, x19, x20, x21, x22, x23, x24, x25, x26, x27, x28, x29, x30, x31, x32, x33, x34, x35, x36, x37, x38, x39] : List Int)) face_b = _; unfold face_b; simp only [nn, List.cons_append, List.nil_append, lenE] at *; (try simp only [G, xG60, Ed.sg] at *); (try simp only [Bool.eq_false_iff, ne_eq, Bool.and_eq_true, decide_eq_true_eq] at *); first | omega | (refine Bool.eq_false_iff.2 (fun h => ?_); simp only [Bool.and_eq_true, decide_eq_true_eq] at h; omega)
  refine way_cut facef_b10 (fun h10 => ?_) (fun h10 => ?_)
  · skip
    refine way_leaf facef_n21 ?_
    unfold facef_b0 at h0; unfold facef_b1 at h1; unfold facef_b2 at h2; unfold facef_b3 at h3; unfold facef_b4 at h4; unfold facef_b5 at h5; unfold facef_b6 at h6; unfold facef_b7 at h7; unfold facef_b8 at h8; unfold facef_b9 at h9; unfold facef_b10 at h10; clear b0 b1 b2 b3 b4 b5 b9 b10 b11 b12 b13 b14 b15 b16 b17 b18 b19 b20 b21 b22 b23 b24 b25 b26 b27 b28 b29 b30 b31 b32 b33 b34 b35 b36 b37 b38 b39; simp only [FunP]; refine ⟨?_, trivial⟩; show B.den G (rho ([x0, x1, x2, x3, x4, x5, x6, x7, x8, x9, x10, x11, x12, x13, x14, x15, x16, x17, x18, x19, x20, x21, x22, x23, x24, x25, x26, x27, x28, x29, x30, x31, x32, x33, x34, x35, x36, x37, x38, x39] : List Int)) face_b = _; unfold face_b; simp only [nn, List.cons_append, List.nil_append, lenE] at *; (try simp only [G, xG60, Ed.sg] at *); (try simp only [Bool.eq_false_iff, ne_eq, Bool.and_eq_true, decide_eq_true_eq] at *); first | omega | (refine Bool.eq_false_iff.2 (fun h => ?_); simp only [Bool.and_eq_true, decide_eq_true_eq] at h; omega)
  refine way_cut facef_b11 (fun h11 => ?_) (fun h11 => ?_)
  · skip
    refine way_leaf facef_n23 ?_
    unfold facef_b0 at h0; unfold facef_b1 at h1; unfold facef_b2 at h2; unfold facef_b3 at h3; unfold facef_b4 at h4; unfold facef_b5 at h5; unfold facef_b6 at h6; unfold facef_b7 at h7; unfold facef_b8 at h8; unfold facef_b9 at h9; unfold facef_b10 at h10; unfold facef_b11 at h11; clear b0 b1 b2 b3 b4 b5 b9 b10 b11 b12 b13 b14 b15 b16 b17 b18 b19 b20 b21 b22 b23 b24 b25 b26 b27 b28 b29 b30 b31 b32 b33 b34 b35 b36 b37 b38 b39; simp only [FunP]; refine ⟨?_, trivial⟩; show B.den G (rho ([x0, x1, x2, x3, x4, x5, x6, x7, x8, x9, x10, x11, x12, x13, x14, x15, x16, x17, x18, x19, x20, x21, x22, x23, x24, x25, x26, x27, x28, x29, x30, x31, x32, x33, x34, x35, x36, x37, x38, x39] : List Int)) face_b = _; unfold face_b; simp only [nn, List.cons_append, List.nil_append, lenE] at *; (try simp only [G, xG60, Ed.sg] at *); (try simp only [Bool.eq_false_iff, ne_eq, Bool.and_eq_true, decide_eq_true_eq] at *); first | omega | (refine Bool.eq_false_iff.2 (fun h => ?_); simp only [Bool.and_eq_true, decide_eq_true_eq] at h; omega)
  refine way_cut facef_b12 (fun h12 => ?_) (fun h12 => ?_)
  · skip
    refine way_leaf facef_n25 ?_
    unfold facef_b0 at h0; unfold facef_b1 at h1; unfold facef_b2 at h2; unfold facef_b3 at h3; unfold facef_b4 at h4; unfold facef_b5 at h5; unfold facef_b6 at h6; unfold facef_b7 at h7; unfold facef_b8 at h8; unfold facef_b9 at h9; unfold facef_b10 at h10; unfold facef_b11 at h11; unfold facef_b12 at h12; clear b0 b1 b2 b3 b4 b5 b9 b10 b11 b12 b13 b14 b15 b16 b17 b18 b19 b20 b21 b22 b23 b24 b25 b26 b27 b28 b29 b30 b31 b32 b33 b34 b35 b36 b37 b38 b39; simp only [FunP]; refine ⟨?_, trivial⟩; show B.den G (rho ([x0, x1, x2, x3, x4, x5, x6, x7, x8, x9, x10, x11, x12, x13, x14, x15, x16, x17, x18, x19, x20, x21, x22, x23, x24, x25, x26, x27, x28, x29, x30, x31, x32, x33, x34, x35, x36, x37, x38, x39] : List Int)) face_b = _; unfold face_b; simp only [nn, List.cons_append, List.nil_append, lenE] at *; (try simp only [G, xG60, Ed.sg] at *); (try simp only [Bool.eq_false_iff, ne_eq, Bool.and_eq_true, decide_eq_true_eq] at *); first | omega | (refine Bool.eq_false_iff.2 (fun h => ?_); simp only [Bool.and_eq_true, decide_eq_true_eq] at h; omega)
  refine way_cut facef_b13 (fun h13 => ?_) (fun h13 => ?_)
  · skip
    refine way_leaf facef_n27 ?_
    unfold facef_b0 at h0; unfold facef_b1 at h1; unfold facef_b2 at h2; unfold facef_b3 at h3; unfold facef_b4 at h4; unfold facef_b5 at h5; unfold facef_b6 at h6; unfold facef_b7 at h7; unfold facef_b8 at h8; unfold facef_b9 at h9; unfold facef_b10 at h10; unfold facef_b11 at h11; unfold facef_b12 at h12; unfold facef_b13 at h13; clear b0 b1 b2 b3 b4 b5 b9 b10 b11 b12 b13 b14 b15 b16 b17 b18 b19 b20 b21 b22 b23 b24 b25 b26 b27 b28 b29 b30 b31 b32 b33 b34 b35 b36 b37 b38 b39; simp only [FunP]; refine ⟨?_, trivial⟩; show B.den G (rho ([x0, x1, x2, x3, x4, x5, x6, x7, x8, x9, x10, x11, x12, x13, x14, x15, x16, x17, x18, x19, x20, x21, x22, x23, x24, x25, x26, x27, x28, x29, x30, x31, x32, x33, x34, x35, x36, x37, x38, x39] : List Int)) face_b = _; unfold face_b; simp only [nn, List.cons_append, List.nil_append, lenE] at *; (try simp only [G, xG60, Ed.sg] at *); (try simp only [Bool.eq_false_iff, ne_eq, Bool.and_eq_true, decide_eq_true_eq] at *); first | omega | (refine Bool.eq_false_iff.2 (fun h => ?_); simp only [Bool.and_eq_true, decide_eq_true_eq] at h; omega)
  refine way_cut facef_b14 (fun h14 => ?_) (fun h14 => ?_)
  · skip
    refine way_leaf facef_n29 ?_
    unfold facef_b0 at h0; unfold facef_b1 at h1; unfold facef_b2 at h2; unfold facef_b3 at h3; unfold facef_b4 at h4; unfold facef_b5 at h5; unfold facef_b6 at h6; unfold facef_b7 at h7; unfold facef_b8 at h8; unfold facef_b9 at h9; unfold facef_b10 at h10; unfold facef_b11 at h11; unfold facef_b12 at h12; unfold facef_b13 at h13; unfold facef_b14 at h14; clear b0 b1 b2 b3 b4 b5 b9 b10 b11 b12 b13 b14 b15 b16 b17 b18 b19 b20 b21 b22 b23 b24 b25 b26 b27 b28 b29 b30 b31 b32 b33 b34 b35 b36 b37 b38 b39; simp only [FunP]; refine ⟨?_, trivial⟩; show B.den G (rho ([x0, x1, x2, x3, x4, x5, x6, x7, x8, x9, x10, x11, x12, x13, x14, x15, x16, x17, x18, x19, x20, x21, x22, x23, x24, x25, x26, x27, x28, x29, x30, x31, x32, x33, x34, x35, x36, x37, x38, x39] : List Int)) face_b = _; unfold face_b; simp only [nn, List.cons_append, List.nil_append, lenE] at *; (try simp only [G, xG60, Ed.sg] at *); (try simp only [Bool.eq_false_iff, ne_eq, Bool.and_eq_true, decide_eq_true_eq] at *); first | omega | (refine Bool.eq_false_iff.2 (fun h => ?_); simp only [Bool.and_eq_true, decide_eq_true_eq] at h; omega)
  refine way_cut facef_b15 (fun h15 => ?_) (fun h15 => ?_)
  · skip
    refine way_leaf facef_n31 ?_
    unfold facef_b0 at h0; unfold facef_b1 at h1; unfold facef_b2 at h2; unfold facef_b3 at h3; unfold facef_b4 at h4; unfold facef_b5 at h5; unfold facef_b6 at h6; unfold facef_b7 at h7; unfold facef_b8 at h8; unfold facef_b9 at h9; unfold facef_b10 at h10; unfold facef_b11 at h11; unfold facef_b12 at h12; unfold facef_b13 at h13; unfold facef_b14 at h14; unfold facef_b15 at h15; clear b0 b1 b2 b3 b4 b5 b9 b10 b11 b12 b13 b14 b15 b16 b17 b18 b19 b20 b21 b22 b23 b24 b25 b26 b27 b28 b29 b30 b31 b32 b33 b34 b35 b36 b37 b38 b39; simp only [FunP]; refine ⟨?_, trivial⟩; show B.den G (rho ([x0, x1, x2, x3, x4, x5, x6, x7, x8, x9, x10, x11, x12, x13, x14, x15, x16, x17, x18, x19, x20, x21, x22, x23, x24, x25, x26, x27, x28, x29, x30, x31, x32, x33, x34, x35, x36, x37, x38, x39] : List Int)) face_b = _; unfold face_b; simp only [nn, List.cons_append, List.nil_append, lenE] at *; (try simp only [G, xG60, Ed.sg] at *); (try simp only [Bool.eq_false_iff, ne_eq, Bool.and_eq_true, decide_eq_true_eq] at *); first | omega | (refine Bool.eq_false_iff.2 (fun h => ?_); simp only [Bool.and_eq_true, decide_eq_true_eq] at h; omega)
  refine way_cut facef_b16 (fun h16 => ?_) (fun h16 => ?_)
  · skip
    refine way_leaf facef_n33 ?_
    unfold facef_b0 at h0; unfold facef_b1 at h1; unfold facef_b2 at h2; unfold facef_b3 at h3; unfold facef_b4 at h4; unfold facef_b5 at h5; unfold facef_b6 at h6; unfold facef_b7 at h7; unfold facef_b8 at h8; unfold facef_b9 at h9; unfold facef_b10 at h10; unfold facef_b11 at h11; unfold facef_b12 at h12; unfold facef_b13 at h13; unfold facef_b14 at h14; unfold facef_b15 at h15; unfold facef_b16 at h16; clear b0 b1 b2 b3 b4 b5 b9 b10 b11 b12 b13 b14 b15 b16 b17 b18 b19 b20 b21 b22 b23 b24 b25 b26 b27 b28 b29 b30 b31 b32 b33 b34 b35 b36 b37 b38 b39; simp only [FunP]; refine ⟨?_, trivial⟩; show B.den G (rho ([x0, x1, x2, x3, x4, x5, x6, x7, x8, x9, x10, x11, x12, x13, x14, x15, x16, x17, x18, x19, x20, x21, x22, x23, x24, x25, x26, x27, x28, x29, x30, x31, x32, x33, x34, x35, x36, x37, x38, x39] : List Int)) face_b = _; unfold face_b; simp only [nn, List.cons_append, List.nil_append, lenE] at *; (try simp only [G, xG60, Ed.sg] at *); (try simp only [Bool.eq_false_iff, ne_eq, Bool.and_eq_true, decide_eq_true_eq] at *); first | omega | (refine Bool.eq_false_iff.2 (fun h => ?_); simp only [Bool.and_eq_true, decide_eq_true_eq] at h; omega)
  refine way_cut facef_b17 (fun h17 => ?_) (fun h17 => ?_)
  · skip
    refine way_leaf facef_n35 ?_
    unfold facef_b0 at h0; unfold facef_b1 at h1; unfold facef_b2 at h2; unfold facef_b3 at h3; unfold facef_b4 at h4; unfold facef_b5 at h5; unfold facef_b6 at h6; unfold facef_b7 at h7; unfold facef_b8 at h8; unfold facef_b9 at h9; unfold facef_b10 at h10; unfold facef_b11 at h11; unfold facef_b12 at h12; unfold facef_b13 at h13; unfold facef_b14 at h14; unfold facef_b15 at h15; unfold facef_b16 at h16; unfold facef_b17 at h17; clear b0 b1 b2 b3 b4 b5 b9 b10 b11 b12 b13 b14 b15 b16 b17 b18 b19 b20 b21 b22 b23 b24 b25 b26 b27 b28 b29 b30 b31 b32 b33 b34 b35 b36 b37 b38 b39; simp only [FunP]; refine ⟨?_, trivial⟩; show B.den G (rho ([x0, x1, x2, x3, x4, x5, x6, x7, x8, x9, x10, x11, x12, x13, x14, x15, x16, x17, x18, x19, x20, x21, x22, x23, x24, x25, x26, x27, x28, x29, x30, x31, x32, x33, x34, x35, x36, x37, x38, x39] : List Int)) face_b = _; unfold face_b; simp only [nn, List.cons_append, List.nil_append, lenE] at *; (try simp only [G, xG60, Ed.sg] at *); (try simp only [Bool.eq_false_iff, ne_eq, Bool.and_eq_true, decide_eq_true_eq] at *); first | omega | (refine Bool.eq_false_iff.2 (fun h => ?_); simp only [Bool.and_eq_true, decide_eq_true_eq] at h; omega)
  refine way_cut facef_b18 (fun h18 => ?_) (fun h18 => ?_)
  · skip
    refine way_leaf facef_n37 ?_
    unfold facef_b0 at h0; unfold facef_b1 at h1; unfold facef_b2 at h2; unfold facef_b3 at h3; unfold facef_b4 at h4; unfold facef_b5 at h5; unfold facef_b6 at h6; unfold facef_b7 at h7; unfold facef_b8 at h8; unfold facef_b9 at h9; unfold facef_b10 at h10; unfold facef_b11 at h11; unfold facef_b12 at h12; unfold facef_b13 at h13; unfold facef_b14 at h14; unfold facef_b15 at h15; unfold facef_b16 at h16; unfold facef_b17 at h17; unfold facef_b18 at h18; clear b0 b1 b2 b3 b4 b5 b9 b10 b11 b12 b13 b14 b15 b16 b17 b18 b19 b20 b21 b22 b23 b24 b25 b26 b27 b28 b29 b30 b31 b32 b33 b34 b35 b36 b37 b38 b39; simp only [FunP]; refine ⟨?_, trivial⟩; show B.den G (rho ([x0, x1, x2, x3, x4, x5, x6, x7, x8, x9, x10, x11, x12, x13, x14, x15, x16, x17, x18, x19, x20, x21, x22, x23, x24, x25, x26, x27, x28, x29, x30, x31, x32, x33, x34, x35, x36, x37, x38, x39] : List Int)) face_b = _; unfold face_b; simp only [nn, List.cons_append, List.nil_append, lenE] at *; (try simp only [G, xG60, Ed.sg] at *); (try simp only [Bool.eq_false_iff, ne_eq, Bool.and_eq_true, decide_eq_true_eq] at *); first | omega | (refine Bool.eq_false_iff.2 (fun h => ?_); simp only [Bool.and_eq_true, decide_eq_true_eq] at h; omega)
  refine way_cut facef_b19 (fun h19 => ?_) (fun h19 => ?_)
  · skip
    refine way_leaf facef_n39 ?_
    unfold facef_b0 at h0; unfold facef_b1 at h1; unfold facef_b2 at h2; unfold facef_b3 at h3; unfold facef_b4 at h4; unfold facef_b5 at h5; unfold facef_b6 at h6; unfold facef_b7 at h7; unfold facef_b8 at h8; unfold facef_b9 at h9; unfold facef_b10 at h10; unfold facef_b11 at h11; unfold facef_b12 at h12; unfold facef_b13 at h13; unfold facef_b14 at h14; unfold facef_b15 at h15; unfold facef_b16 at h16; unfold facef_b17 at h17; unfold facef_b18 at h18; unfold facef_b19 at h19; clear b0 b1 b2 b3 b4 b5 b9 b10 b11 b12 b13 b14 b15 b16 b17 b18 b19 b20 b21 b22 b23 b24 b25 b26 b27 b28 b29 b30 b31 b32 b33 b34 b35 b36 b37 b38 b39; simp only [FunP]; refine ⟨?_, trivial⟩; show B.den G (rho ([x0, x1, x2, x3, x4, x5, x6, x7, x8, x9, x10, x11, x12, x13, x14, x15, x16, x17, x18, x19, x20, x21, x22, x23, x24, x25, x26, x27, x28, x29, x30, x31, x32, x33, x34, x35, x36, x37, x38, x39] : List Int)) face_b = _; unfold face_b; simp only [nn, List.cons_append, List.nil_append, lenE] at *; (try simp only [G, xG60, Ed.sg] at *); (try simp only [Bool.eq_false_iff, ne_eq, Bool.and_eq_true, decide_eq_true_eq] at *); first | omega | (refine Bool.eq_false_iff.2 (fun h => ?_); simp only [Bool.and_eq_true, decide_eq_true_eq] at h; omega)
  refine way_leaf facef_n40 ?_
  unfold facef_b0 at h0; unfold facef_b1 at h1; unfold facef_b2 at h2; unfold facef_b3 at h3; unfold facef_b4 at h4; unfold facef_b5 at h5; unfold facef_b6 at h6; unfold facef_b7 at h7; unfold facef_b8 at h8; unfold facef_b9 at h9; unfold facef_b10 at h10; unfold facef_b11 at h11; unfold facef_b12 at h12; unfold facef_b13 at h13; unfold facef_b14 at h14; unfold facef_b15 at h15; unfold facef_b16 at h16; unfold facef_b17 at h17; unfold facef_b18 at h18; unfold facef_b19 at h19; clear b0 b1 b2 b3 b4 b5 b9 b10 b11 b12 b13 b14 b15 b16 b17 b18 b19 b20 b21 b22 b23 b24 b25 b26 b27 b28 b29 b30 b31 b32 b33 b34 b35 b36 b37 b38 b39; simp only [FunP]; refine ⟨?_, trivial⟩; show B.den G (rho ([x0, x1, x2, x3, x4, x5, x6, x7, x8, x9, x10, x11, x12, x13, x14, x15, x16, x17, x18, x19, x20, x21, x22, x23, x24, x25, x26, x27, x28, x29, x30, x31, x32, x33, x34, x35, x36, x37, x38, x39] : List Int)) face_b = _; unfold face_b; simp only [nn, List.cons_append, List.nil_append, lenE] at *; (try simp only [G, xG60, Ed.sg] at *); (try simp only [Bool.eq_false_iff, ne_eq, Bool.and_eq_true, decide_eq_true_eq] at *); first | omega | (refine Bool.eq_false_iff.2 (fun h => ?_); simp only [Bool.and_eq_true, decide_eq_true_eq] at h; omega)
def face_entry : Ctx → List SV → Heap → Res (SV × Heap) := memEntry GB face_vt 0 (.lit true) face_F
theorem face_ok {X : Ctx} {ρ : Nat → Int} (hX : X.Ok ρ) (hG : X.G = G) : MemOk Try.prog X ρ GB 12 face_entry := by
  obtain ⟨XG, XI, XV, XF⟩ := X
  simp only at hG
  subst hG
  refine memEntry_ok hX ?_
  intro xs ls hw hl _
  have hl' : ls = [] := List.length_eq_zero_iff.1 hl
  subst hl'
  rw [List.append_nil]
  unfold face_vt at hw
  obtain ⟨x0, y0, e0, b0, h0⟩ := in_cons hw
  obtain ⟨x1, y1, e1, b1, h1⟩ := in_cons h0
  obtain ⟨x2, y2, e2, b2, h2⟩ := in_cons h1
  obtain ⟨x3, y3, e3, b3, h3⟩ := in_cons h2
  obtain ⟨x4, y4, e4, b4, h4⟩ := in_cons h3
  obtain ⟨x5, y5, e5, b5, h5⟩ := in_cons h4
  obtain ⟨x6, y6, e6, b6, h6⟩ := in_cons h5
  obtain ⟨x7, y7, e7, b7, h7⟩ := in_cons h6
  obtain ⟨x8, y8, e8, b8, h8⟩ := in_cons h7
  obtain ⟨x9, y9, e9, b9, h9⟩ := in_cons h8
  obtain ⟨x10, y10, e10, b10, h10⟩ := in_cons h9
  obtain ⟨x11, y11, e11, b11, h11⟩ := in_cons h10
  obtain ⟨x12, y12, e12, b12, h12⟩ := in_cons h11
  obtain ⟨x13, y13, e13, b13, h13⟩ := in_cons h12
  obtain ⟨x14, y14, e14, b14, h14⟩ := in_cons h13
  obtain ⟨x15, y15, e15, b15, h15⟩ := in_cons h14
  obtain ⟨x16, y16, e16, b16, h16⟩ := in_cons h15
  obtain ⟨x17, y17, e17, b17, h17⟩ := in_cons h16
  obtain ⟨x18, y18, e18, b18, h18⟩ := in_cons h17
  obtain ⟨x19, y19, e19, b19, h19⟩ := in_cons h18
  obtain ⟨x20, y20, e20, b20, h20⟩ := in_cons h19
  obtain ⟨x21, y21, e21, b21, h21⟩ := in_cons h20
  obtain ⟨x22, y22, e22, b22, h22⟩ := in_cons h21
  obtain ⟨x23, y23, e23, b23, h23⟩ := in_cons h22
  obtain ⟨x24, y24, e24, b24, h24⟩ := in_cons h23
  obtain ⟨x25, y25, e25, b25, h25⟩ := in_cons h24
  obtain ⟨x26, y26, e26, b26, h26⟩ := in_cons h25
  obtain ⟨x27, y27, e27, b27, h27⟩ := in_cons h26
  obtain ⟨x28, y28, e28, b28, h28⟩ := in_cons h27
  obtain ⟨x29, y29, e29, b29, h29⟩ := in_cons h28
  obtain ⟨x30, y30, e30, b30, h30⟩ := in_cons h29
  obtain ⟨x31, y31, e31, b31, h31⟩ := in_cons h30
  obtain ⟨x32, y32, e32, b32, h32⟩ := in_cons h31
  obtain ⟨x33, y33, e33, b33, h33⟩ := in_cons h32
  obtain ⟨x34, y34, e34, b34, h34⟩ := in_cons h33
  obtain ⟨x35, y35, e35, b35, h35⟩ := in_cons h34
  obtain ⟨x36, y36, e36, b36, h36⟩ := in_cons h35
  obtain ⟨x37, y37, e37, b37, h37⟩ := in_cons h36
  obtain ⟨x38, y38, e38, b38, h38⟩ := in_cons h37
  obtain ⟨x39, y39, e39, b39, h39⟩ := in_cons h38
  have e40 := in_nil h39
  subst e40 e39 e38 e37 e36 e35 e34 e33 e32 e31 e30 e29 e28 e27 e26 e25 e24 e23 e22 e21 e20 e19 e18 e17 e16 e15 e14 e13 e12 e11 e10 e9 e8 e7 e6 e5 e4 e3 e2 e1 e0
  exact face_mem x0 x1 x2 x3 x4 x5 x6 x7 x8 x9 x10 x11 x12 x13 x14 x15 x16 x17 x18 x19 x20 x21 x22 x23 x24 x25 x26 x27 x28 x29 x30 x31 x32 x33 x34 x35 x36 x37 x38 x39 b0 b1 b2 b3 b4 b5 b6 b7 b8 b9 b10 b11 b12 b13 b14 b15 b16 b17 b18 b19 b20 b21 b22 b23 b24 b25 b26 b27 b28 b29 b30 b31 b32 b33 b34 b35 b36 b37 b38 b39
end Go.Proofs.Ytoiecphddchknaa
set_option maxRecDepth 100000
namespace Go.Proofs.Ytoiecphddchknaa
open Go Go.RowKit Sx Wi
def atw_R (P : Program) (fs : List B) : Res SV := withCtx G GI [((-2147483648), 2147483647), ((-2147483648), 2147483647), ((-2147483648), 2147483647), ((-1801615772808642560), 1801615772808642560), ((-1801615772808642560), 1801615772808642560), ((-1801615772808642560), 1801615772808642560)] fs fun X => exFun P X GB ct_cw 4000 124 [(.agg [(.int .i32 (.var 0)), (.int .i32 (.var 1)), (.int .i32 (.var 2))]), (.agg [(.int .i64 (.var 3)), (.int .i64 (.var 4)), (.int .i64 (.var 5))])]
def atw_f0 : List B := []
def atw_b0 : B := (.cmp .lt (.op .add (.op .add (.var 3) (.var 4)) (.var 5)) (.lit 0))
def atw_f1 : List B := grow atw_b0 ++ atw_f0
def atw_b1 : B := (.cmp .le (.op .mul (.lit 2) (.op .sub (.lit 0) (.op .add (.op .add (.var 3) (.var 4)) (.var 5)))) (.lit 9223372036854775807))
def atw_f2 : List B := grow atw_b1 ++ atw_f1
def atw_b2 : B := (.cmp .le (.lit (-9223372036854775808)) (.app 71 (.cons (.app 71 (.cons (.op .add (.op .mul (.op .sub (.lit 0) (.op .add (.op .add (.op .add (.lit 0) (.op .mul (.var 0) (.var 3))) (.op .mul (.var 1) (.var 4))) (.op .mul (.var 2) (.var 5)))) (.lit 2)) (.op .mul (.op .sub (.lit 0) (.op .add (.op .add (.var 3) (.var 4)) (.var 5))) (.lit 1))) (.cons (.lit 1) .nil))) (.cons (.op .mul (.lit 2) (.op .sub (.lit 0) (.op .add (.op .add (.var 3) (.var 4)) (.var 5)))) .nil))))
def atw_f3 : List B := grow atw_b2 ++ atw_f2
def atw_b3 : B := (.cmp .le (.app 71 (.cons (.app 71 (.cons (.op .add (.op .mul (.op .sub (.lit 0) (.op .add (.op .add (.op .add (.lit 0) (.op .mul (.var 0) (.var 3))) (.op .mul (.var 1) (.var 4))) (.op .mul (.var 2) (.var 5)))) (.lit 2)) (.op .mul (.op .sub (.lit 0) (.op .add (.op .add (.var 3) (.var 4)) (.var 5))) (.lit 1))) (.cons (.lit 1) .nil))) (.cons (.op .mul (.lit 2) (.op .sub (.lit 0) (.op .add (.op .add (.var 3) (.var 4)) (.var 5)))) .nil))) (.lit 9223372036854775807))
def atw_f4 : List B := grow atw_b3 ++ atw_f3
def atw_L0 : SV := (.int .i64 (.op .max (.lit (-2147483648)) (.op .min (.lit 2147483647) (.app 71 (.cons (.app 71 (.cons (.op .add (.op .mul (.op .sub (.lit 0) (.op .add (.op .add (.op .add (.lit 0) (.op .mul (.var 0) (.var 3))) (.op .mul (.var 1) (.var 4))) (.op .mul (.var 2) (.var 5)))) (.lit 2)) (.op .mul (.op .sub (.lit 0) (.op .add (.op .add (.var 3) (.var 4)) (.var 5))) (.lit 1))) (.cons (.lit 1) .nil))) (.cons (.op .mul (.lit 2) (.op .sub (.lit 0) (.op .add (.op .add (.var 3) (.var 4)) (.var 5)))) .nil))))))
def atw_f8 : List B := grow (B.neg atw_b0) ++ atw_f0
def atw_b4 : B := (.cmp .le (.op .mul (.lit 2) (.op .add (.op .add (.var 3) (.var 4)) (.var 5))) (.lit 9223372036854775807))
def atw_f9 : List B := grow atw_b4 ++ atw_f8
def atw_b5 : B := (.cmp .le (.lit 1) (.op .mul (.lit 2) (.op .add (.op .add (.var 3) (.var 4)) (.var 5))))
def atw_f10 : List B := grow atw_b5 ++ atw_f9
def atw_b6 : B := (.cmp .le (.lit (-9223372036854775808)) (.app 71 (.cons (.app 71 (.cons (.op .add (.op .mul (.op .add (.op .add (.op .add (.lit 0) (.op .mul (.var 0) (.var 3))) (.op .mul (.var 1) (.var 4))) (.op .mul (.var 2) (.var 5))) (.lit 2)) (.op .mul (.op .add (.op .add (.var 3) (.var 4)) (.var 5)) (.lit 1))) (.cons (.lit 1) .nil))) (.cons (.op .mul (.lit 2) (.op .add (.op .add (.var 3) (.var 4)) (.var 5))) .nil))))
def atw_f11 : List B := grow atw_b6 ++ atw_f10
def atw_b7 : B := (.cmp .le (.app 71 (.cons (.app 71 (.cons (.op .add (.op .mul (.op .add (.op .add (.op .add (.lit 0) (.op .mul (.var 0) (.var 3))) (.op .mul (.var 1) (.var 4))) (.op .mul (.var 2) (.var 5))) (.lit 2)) (.op .mul (.op .add (.op .add (.var 3) (.var 4)) (.var 5)) (.lit 1))) (.cons (.lit 1) .nil))) (.cons (.op .mul (.lit 2) (.op .add (.op .add (.var 3) (.var 4)) (.var 5))) .nil))) (.lit 9223372036854775807))
def atw_f12 : List B := grow atw_b7 ++ atw_f11
def atw_L1 : SV := (.int .i64 (.op .max (.lit (-2147483648)) (.op .min (.lit 2147483647) (.app 71 (.cons (.app 71 (.cons (.op .add (.op .mul (.op .add (.op .add (.op .add (.lit 0) (.op .mul (.var 0) (.var 3))) (.op .mul (.var 1) (.var 4))) (.op .mul (.var 2) (.var 5))) (.lit 2)) (.op .mul (.op .add (.op .add (.var 3) (.var 4)) (.var 5)) (.lit 1))) (.cons (.lit 1) .nil))) (.cons (.op .mul (.lit 2) (.op .add (.op .add (.var 3) (.var 4)) (.var 5))) .nil))))))
theorem atw_n4 : atw_R Try.prog atw_f4 = .ok atw_L0 := by kernel_rfl
theorem atw_n12 : atw_R Try.prog atw_f12 = .ok atw_L1 := by kernel_rfl
end Go.Proofs.Ytoiecphddchknaa
namespace Go.Proofs.Ytoiecphddchknaa
open Go Go.RowKit Sx Wi
set_option maxHeartbeats 1000000 in
set_option maxRecDepth 100000 in
theorem at_any (x0 x1 x2 x3 x4 x5 : Int) (b0 : (-2147483648) ≤ x0 ∧ x0 ≤ 2147483647) (b1 : (-2147483648) ≤ x1 ∧ x1 ≤ 2147483647) (b2 : (-2147483648) ≤ x2 ∧ x2 ≤ 2147483647) (b3 : (-1801615772808642560) ≤ x3 ∧ x3 ≤ 1801615772808642560) (b4 : (-1801615772808642560) ≤ x4 ∧ x4 ≤ 1801615772808642560) (b5 : (-1801615772808642560) ≤ x5 ∧ x5 ≤ 1801615772808642560) (hf : fineW x3 x4 x5) (w : World) (hw : WOk GB w) : Known Try.prog 124 ∧ Calls Try.prog 124 #[.agg #[.int .i32 x0, .int .i32 x1, .int .i32 x2], .agg #[.int .i64 x3, .int .i64 x4, .int .i64 x5]] w (fun e w' => e = .returned (.int .i64 (xG72 [x0, x1, x2, x3, x4, x5])) ∧ Below w.heap.size w w') := by
  refine calls_eq (way_calls3 (ρ := rho ([x0, x1, x2, x3, x4, x5] : List Int)) (run := fun fs => atw_R Try.prog fs) (fun _ => rfl) fits (within_get ⟨b0, b1, b2, b3, b4, b5, trivial⟩) gi_ok (fun X hX hG => ct_cw_ok hX hG) rfl rfl gbApart_nil ?_ w hw)
  refine way_cut atw_b0 (fun h0 => ?_) (fun h0 => ?_)
  · skip
    refine way_cut atw_b1 (fun h1 => ?_) (fun h1 => ?_)
    rotate_left
    · skip
      refine way_bad ?_
      unfold atw_b0 at h0; unfold atw_b1 at h1; simp only [nn] at h0 h1; rcases hf with ⟨hA, ⟨p0, p1, p2, p3⟩ | ⟨p0, p1, p2, p3⟩⟩ <;> first | (exfalso; clear h1; omega) | (have hS := togS_bd (by omega : -1125899906842624 ≤ x0 ∧ x0 ≤ 1125899906842624) (by omega : -1125899906842624 ≤ x1 ∧ x1 ≤ 1125899906842624) (by omega : -1125899906842624 ≤ x2 ∧ x2 ≤ 1125899906842624) p0 p1 p2; have hq : -9223372036854775808 ≤ G 71 [G 71 [(0 + x0 * x3 + x1 * x4 + x2 * x5) * 2 + (x3 + x4 + x5) * 1, 1], 2 * (x3 + x4 + x5)] ∧ G 71 [G 71 [(0 + x0 * x3 + x1 * x4 + x2 * x5) * 2 + (x3 + x4 + x5) * 1, 1], 2 * (x3 + x4 + x5)] ≤ 9223372036854775807 := q_bd (s := (0 + x0 * x3 + x1 * x4 + x2 * x5)) (a := (x3 + x4 + x5)) (d := 1) p3 (by decide) hS; first | with_reducible exact absurd hq.1 h1 | with_reducible exact absurd hq.2 h1) | (have hS := togS_bd' (by omega : -1125899906842624 ≤ x0 ∧ x0 ≤ 1125899906842624) (by omega : -1125899906842624 ≤ x1 ∧ x1 ≤ 1125899906842624) (by omega : -1125899906842624 ≤ x2 ∧ x2 ≤ 1125899906842624) p0 p1 p2; have hq : -9223372036854775808 ≤ G 71 [G 71 [(0 - (0 + x0 * x3 + x1 * x4 + x2 * x5)) * 2 + (0 - (x3 + x4 + x5)) * 1, 1], 2 * (0 - (x3 + x4 + x5))] ∧ G 71 [G 71 [(0 - (0 + x0 * x3 + x1 * x4 + x2 * x5)) * 2 + (0 - (x3 + x4 + x5)) * 1, 1], 2 * (0 - (x3 + x4 + x5))] ≤ 9223372036854775807 := q_bd (s := 0 - (0 + x0 * x3 + x1 * x4 + x2 * x5)) (a := 0 - (x3 + x4 + x5)) (d := 1) (by omega) (by decide) hS; first | with_reducible exact absurd hq.1 h1 | with_reducible exact absurd hq.2 h1) | (exfalso; omega)
    refine way_cut atw_b2 (fun h2 => ?_) (fun h2 => ?_)
    rotate_left
    · skip
      refine way_bad ?_
      unfold atw_b0 at h0; unfold atw_b1 at h1; unfold atw_b2 at h2; clear h1; simp only [nn] at h0 h2; rcases hf with ⟨hA, ⟨p0, p1, p2, p3⟩ | ⟨p0, p1, p2, p3⟩⟩ <;> first | (exfalso; clear h2; omega) | (have hS := togS_bd (by omega : -1125899906842624 ≤ x0 ∧ x0 ≤ 1125899906842624) (by omega : -1125899906842624 ≤ x1 ∧ x1 ≤ 1125899906842624) (by omega : -1125899906842624 ≤ x2 ∧ x2 ≤ 1125899906842624) p0 p1 p2; have hq : -9223372036854775808 ≤ G 71 [G 71 [(0 + x0 * x3 + x1 * x4 + x2 * x5) * 2 + (x3 + x4 + x5) * 1, 1], 2 * (x3 + x4 + x5)] ∧ G 71 [G 71 [(0 + x0 * x3 + x1 * x4 + x2 * x5) * 2 + (x3 + x4 + x5) * 1, 1], 2 * (x3 + x4 + x5)] ≤ 9223372036854775807 := q_bd (s := (0 + x0 * x3 + x1 * x4 + x2 * x5)) (a := (x3 + x4 + x5)) (d := 1) p3 (by decide) hS; first | with_reducible exact absurd hq.1 h2 | with_reducible exact absurd hq.2 h2) | (have hS := togS_bd' (by omega : -1125899906842624 ≤ x0 ∧ x0 ≤ 1125899906842624) (by omega : -1125899906842624 ≤ x1 ∧ x1 ≤ 1125899906842624) (by omega : -1125899906842624 ≤ x2 ∧ x2 ≤ 1125899906842624) p0 p1 p2; have hq : -9223372036854775808 ≤ G 71 [G 71 [(0 - (0 + x0 * x3 + x1 * x4 + x2 * x5)) * 2 + (0 - (x3 + x4 + x5)) * 1, 1], 2 * (0 - (x3 + x4 + x5))] ∧ G 71 [G 71 [(0 - (0 + x0 * x3 + x1 * x4 + x2 * x5)) * 2 + (0 - (x3 + x4 + x5)) * 1, 1], 2 * (0 - (x3 + x4 + x5))] ≤ 9223372036854775807 := q_bd (s := 0 - (0 + x0 * x3 + x1 * x4 + x2 * x5)) (a := 0 - (x3 + x4 + x5)) (d := 1) (by omega) (by decide) hS; first | with_reducible exact absurd hq.1 h2 | with_reducible exact absurd hq.2 h2) | (exfalso; omega)
    refine way_cut atw_b3 (fun h3 => ?_) (fun h3 => ?_)
    · skip
      refine way_leaf atw_n4 ?_
      unfold atw_b0 at h0; unfold atw_b1 at h1; unfold atw_b2 at h2; unfold atw_b3 at h3; unfold atw_L0; clear h1 h2 h3; simp only [nn] at h0; have ec : xG72 [x0, x1, x2, x3, x4, x5] = togP (0 - togS x0 x1 x2 x3 x4 x5) (0 - (x3 + x4 + x5)) 1 := (by show (if fineW x3 x4 x5 then (if x3 + x4 + x5 < 0 then _ else _) else _) = _; rw [if_pos hf, if_pos h0]); rw [ec]; refine ⟨rfl, ?_⟩; simp only [nn]; rfl
    refine way_bad ?_
    unfold atw_b0 at h0; unfold atw_b1 at h1; unfold atw_b2 at h2; unfold atw_b3 at h3; clear h1 h2; simp only [nn] at h0 h3; rcases hf with ⟨hA, ⟨p0, p1, p2, p3⟩ | ⟨p0, p1, p2, p3⟩⟩ <;> first | (exfalso; clear h3; omega) | (have hS := togS_bd (by omega : -1125899906842624 ≤ x0 ∧ x0 ≤ 1125899906842624) (by omega : -1125899906842624 ≤ x1 ∧ x1 ≤ 1125899906842624) (by omega : -1125899906842624 ≤ x2 ∧ x2 ≤ 1125899906842624) p0 p1 p2; have hq : -9223372036854775808 ≤ G 71 [G 71 [(0 + x0 * x3 + x1 * x4 + x2 * x5) * 2 + (x3 + x4 + x5) * 1, 1], 2 * (x3 + x4 + x5)] ∧ G 71 [G 71 [(0 + x0 * x3 + x1 * x4 + x2 * x5) * 2 + (x3 + x4 + x5) * 1, 1], 2 * (x3 + x4 + x5)] ≤ 9223372036854775807 := q_bd (s := (0 + x0 * x3 + x1 * x4 + x2 * x5)) (a := (x3 + x4 + x5)) (d := 1) p3 (by decide) hS; first | with_reducible exact absurd hq.1 h3 | with_reducible exact absurd hq.2 h3) | (have hS := togS_bd' (by omega : -1125899906842624 ≤ x0 ∧ x0 ≤ 1125899906842624) (by omega : -1125899906842624 ≤ x1 ∧ x1 ≤ 1125899906842624) (by omega : -1125899906842624 ≤ x2 ∧ x2 ≤ 1125899906842624) p0 p1 p2; have hq : -9223372036854775808 ≤ G 71 [G 71 [(0 - (0 + x0 * x3 + x1 * x4 + x2 * x5)) * 2 + (0 - (x3 + x4 + x5)) * 1, 1], 2 * (0 - (x3 + x4 + x5))] ∧ G 71 [G 71 [(0 - (0 + x0 * x3 + x1 * x4 + x2 * x5)) * 2 + (0 - (x3 + x4 + x5)) * 1, 1], 2 * (0 - (x3 + x4 + x5))] ≤ 9223372036854775807 := q_bd (s := 0 - (0 + x0 * x3 + x1 * x4 + x2 * x5)) (a := 0 - (x3 + x4 + x5)) (d := 1) (by omega) (by decide) hS; first | with_reducible exact absurd hq.1 h3 | with_reducible exact absurd hq.2 h3) | (exfalso; omega)
  refine way_cut atw_b4 (fun h1 => ?_) (fun h1 => ?_)
  rotate_left
  · skip
    refine way_bad ?_
    unfold atw_b0 at h0; unfold atw_b4 at h1; simp only [nn] at h0 h1; rcases hf with ⟨hA, ⟨p0, p1, p2, p3⟩ | ⟨p0, p1, p2, p3⟩⟩ <;> first | (exfalso; clear h1; omega) | (have hS := togS_bd (by omega : -1125899906842624 ≤ x0 ∧ x0 ≤ 1125899906842624) (by omega : -1125899906842624 ≤ x1 ∧ x1 ≤ 1125899906842624) (by omega : -1125899906842624 ≤ x2 ∧ x2 ≤ 1125899906842624) p0 p1 p2; have hq : -9223372036854775808 ≤ G 71 [G 71 [(0 + x0 * x3 + x1 * x4 + x2 * x5) * 2 + (x3 + x4 + x5) * 1, 1], 2 * (x3 + x4 + x5)] ∧ G 71 [G 71 [(0 + x0 * x3 + x1 * x4 + x2 * x5) * 2 + (x3 + x4 + x5) * 1, 1], 2 * (x3 + x4 + x5)] ≤ 9223372036854775807 := q_bd (s := (0 + x0 * x3 + x1 * x4 + x2 * x5)) (a := (x3 + x4 + x5)) (d := 1) p3 (by decide) hS; first | with_reducible exact absurd hq.1 h1 | with_reducible exact absurd hq.2 h1) | (have hS := togS_bd' (by omega : -1125899906842624 ≤ x0 ∧ x0 ≤ 1125899906842624) (by omega : -1125899906842624 ≤ x1 ∧ x1 ≤ 1125899906842624) (by omega : -1125899906842624 ≤ x2 ∧ x2 ≤ 1125899906842624) p0 p1 p2; have hq : -9223372036854775808 ≤ G 71 [G 71 [(0 - (0 + x0 * x3 + x1 * x4 + x2 * x5)) * 2 + (0 - (x3 + x4 + x5)) * 1, 1], 2 * (0 - (x3 + x4 + x5))] ∧ G 71 [G 71 [(0 - (0 + x0 * x3 + x1 * x4 + x2 * x5)) * 2 + (0 - (x3 + x4 + x5)) * 1, 1], 2 * (0 - (x3 + x4 + x5))] ≤ 9223372036854775807 := q_bd (s := 0 - (0 + x0 * x3 + x1 * x4 + x2 * x5)) (a := 0 - (x3 + x4 + x5)) (d := 1) (by omega) (by decide) hS; first | with_reducible exact absurd hq.1 h1 | with_reducible exact absurd hq.2 h1) | (exfalso; omega)
  refine way_cut atw_b5 (fun h2 => ?_) (fun h2 => ?_)
  rotate_left
  · skip
    refine way_bad ?_
    unfold atw_b0 at h0; unfold atw_b4 at h1; unfold atw_b5 at h2; clear h1; simp only [nn] at h0 h2; rcases hf with ⟨hA, ⟨p0, p1, p2, p3⟩ | ⟨p0, p1, p2, p3⟩⟩ <;> first | (exfalso; clear h2; omega) | (have hS := togS_bd (by omega : -1125899906842624 ≤ x0 ∧ x0 ≤ 1125899906842624) (by omega : -1125899906842624 ≤ x1 ∧ x1 ≤ 1125899906842624) (by omega : -1125899906842624 ≤ x2 ∧ x2 ≤ 1125899906842624) p0 p1 p2; have hq : -9223372036854775808 ≤ G 71 [G 71 [(0 + x0 * x3 + x1 * x4 + x2 * x5) * 2 + (x3 + x4 + x5) * 1, 1], 2 * (x3 + x4 + x5)] ∧ G 71 [G 71 [(0 + x0 * x3 + x1 * x4 + x2 * x5) * 2 + (x3 + x4 + x5) * 1, 1], 2 * (x3 + x4 + x5)] ≤ 9223372036854775807 := q_bd (s := (0 + x0 * x3 + x1 * x4 + x2 * x5)) (a := (x3 + x4 + x5)) (d := 1) p3 (by decide) hS; first | with_reducible exact absurd hq.1 h2 | with_reducible exact absurd hq.2 h2) | (have hS := togS_bd' (by omega : -1125899906842624 ≤ x0 ∧ x0 ≤ 1125899906842624) (by omega : -1125899906842624 ≤ x1 ∧ x1 ≤ 1125899906842624) (by omega : -1125899906842624 ≤ x2 ∧ x2 ≤ 1125899906842624) p0 p1 p2; have hq : -9223372036854775808 ≤ G 71 [G 71 [(0 - (0 + x0 * x3 + x1 * x4 + x2 * x5)) * 2 + (0 - (x3 + x4 + x5)) * 1, 1], 2 * (0 - (x3 + x4 + x5))] ∧ G 71 [G 71 [(0 - (0 + x0 * x3 + x1 * x4 + x2 * x5)) * 2 + (0 - (x3 + x4 + x5)) * 1, 1], 2 * (0 - (x3 + x4 + x5))] ≤ 9223372036854775807 := q_bd (s := 0 - (0 + x0 * x3 + x1 * x4 + x2 * x5)) (a := 0 - (x3 + x4 + x5)) (d := 1) (by omega) (by decide) hS; first | with_reducible exact absurd hq.1 h2 | with_reducible exact absurd hq.2 h2) | (exfalso; omega)
  refine way_cut atw_b6 (fun h3 => ?_) (fun h3 => ?_)
  rotate_left
  · skip
    refine way_bad ?_
    unfold atw_b0 at h0; unfold atw_b4 at h1; unfold atw_b5 at h2; unfold atw_b6 at h3; clear h1 h2; simp only [nn] at h0 h3; rcases hf with ⟨hA, ⟨p0, p1, p2, p3⟩ | ⟨p0, p1, p2, p3⟩⟩ <;> first | (exfalso; clear h3; omega) | (have hS := togS_bd (by omega : -1125899906842624 ≤ x0 ∧ x0 ≤ 1125899906842624) (by omega : -1125899906842624 ≤ x1 ∧ x1 ≤ 1125899906842624) (by omega : -1125899906842624 ≤ x2 ∧ x2 ≤ 1125899906842624) p0 p1 p2; have hq : -9223372036854775808 ≤ G 71 [G 71 [(0 + x0 * x3 + x1 * x4 + x2 * x5) * 2 + (x3 + x4 + x5) * 1, 1], 2 * (x3 + x4 + x5)] ∧ G 71 [G 71 [(0 + x0 * x3 + x1 * x4 + x2 * x5) * 2 + (x3 + x4 + x5) * 1, 1], 2 * (x3 + x4 + x5)] ≤ 9223372036854775807 := q_bd (s := (0 + x0 * x3 + x1 * x4 + x2 * x5)) (a := (x3 + x4 + x5)) (d := 1) p3 (by decide) hS; first | with_reducible exact absurd hq.1 h3 | with_reducible exact absurd hq.2 h3) | (have hS := togS_bd' (by omega : -1125899906842624 ≤ x0 ∧ x0 ≤ 1125899906842624) (by omega : -1125899906842624 ≤ x1 ∧ x1 ≤ 1125899906842624) (by omega : -1125899906842624 ≤ x2 ∧ x2 ≤ 1125899906842624) p0 p1 p2; have hq : -9223372036854775808 ≤ G 71 [G 71 [(0 - (0 + x0 * x3 + x1 * x4 + x2 * x5)) * 2 + (0 - (x3 + x4 + x5)) * 1, 1], 2 * (0 - (x3 + x4 + x5))] ∧ G 71 [G 71 [(0 - (0 + x0 * x3 + x1 * x4 + x2 * x5)) * 2 + (0 - (x3 + x4 + x5)) * 1, 1], 2 * (0 - (x3 + x4 + x5))] ≤ 9223372036854775807 := q_bd (s := 0 - (0 + x0 * x3 + x1 * x4 + x2 * x5)) (a := 0 - (x3 + x4 + x5)) (d := 1) (by omega) (by decide) hS; first | with_reducible exact absurd hq.1 h3 | with_reducible exact absurd hq.2 h3) | (exfalso; omega)
  refine way_cut atw_b7 (fun h4 => ?_) (fun h4 => ?_)
  · skip
    refine way_leaf atw_n12 ?_
    unfold atw_b0 at h0; unfold atw_b4 at h1; unfold atw_b5 at h2; unfold atw_b6 at h3; unfold atw_b7 at h4; unfold atw_L1; clear h1 h2 h3 h4; simp only [nn] at h0; have ec : xG72 [x0, x1, x2, x3, x4, x5] = togP (togS x0 x1 x2 x3 x4 x5) (x3 + x4 + x5) 1 := (by show (if fineW x3 x4 x5 then (if x3 + x4 + x5 < 0 then _ else _) else _) = _; rw [if_pos hf, if_neg h0]); rw [ec]; refine ⟨rfl, ?_⟩; simp only [nn]; rfl
  refine way_bad ?_
  unfold atw_b0 at h0; unfold atw_b4 at h1; unfold atw_b5 at h2; unfold atw_b6 at h3; unfold atw_b7 at h4; clear h1 h2 h3; simp only [nn] at h0 h4; rcases hf with ⟨hA, ⟨p0, p1, p2, p3⟩ | ⟨p0, p1, p2, p3⟩⟩ <;> first | (exfalso; clear h4; omega) | (have hS := togS_bd (by omega : -1125899906842624 ≤ x0 ∧ x0 ≤ 1125899906842624) (by omega : -1125899906842624 ≤ x1 ∧ x1 ≤ 1125899906842624) (by omega : -1125899906842624 ≤ x2 ∧ x2 ≤ 1125899906842624) p0 p1 p2; have hq : -9223372036854775808 ≤ G 71 [G 71 [(0 + x0 * x3 + x1 * x4 + x2 * x5) * 2 + (x3 + x4 + x5) * 1, 1], 2 * (x3 + x4 + x5)] ∧ G 71 [G 71 [(0 + x0 * x3 + x1 * x4 + x2 * x5) * 2 + (x3 + x4 + x5) * 1, 1], 2 * (x3 + x4 + x5)] ≤ 9223372036854775807 := q_bd (s := (0 + x0 * x3 + x1 * x4 + x2 * x5)) (a := (x3 + x4 + x5)) (d := 1) p3 (by decide) hS; first | with_reducible exact absurd hq.1 h4 | with_reducible exact absurd hq.2 h4) | (have hS := togS_bd' (by omega : -1125899906842624 ≤ x0 ∧ x0 ≤ 1125899906842624) (by omega : -1125899906842624 ≤ x1 ∧ x1 ≤ 1125899906842624) (by omega : -1125899906842624 ≤ x2 ∧ x2 ≤ 1125899906842624) p0 p1 p2; have hq : -9223372036854775808 ≤ G 71 [G 71 [(0 - (0 + x0 * x3 + x1 * x4 + x2 * x5)) * 2 + (0 - (x3 + x4 + x5)) * 1, 1], 2 * (0 - (x3 + x4 + x5))] ∧ G 71 [G 71 [(0 - (0 + x0 * x3 + x1 * x4 + x2 * x5)) * 2 + (0 - (x3 + x4 + x5)) * 1, 1], 2 * (0 - (x3 + x4 + x5))] ≤ 9223372036854775807 := q_bd (s := 0 - (0 + x0 * x3 + x1 * x4 + x2 * x5)) (a := 0 - (x3 + x4 + x5)) (d := 1) (by omega) (by decide) hS; first | with_reducible exact absurd hq.1 h4 | with_reducible exact absurd hq.2 h4) | (exfalso; omega)
def fineB (u v w : E) : B :=
  .and (.and (.cmp .le (.lit (-3602879701896396800)) (.op .add (.op .add u v) w)) (.cmp .le (.op .add (.op .add u v) w) (.lit 3602879701896396800)))
    (.or (.and (.cmp .le (.lit 0) u) (.and (.cmp .le (.lit 0) v) (.and (.cmp .le (.lit 0) w) (.cmp .le (.lit 1) (.op .add (.op .add u v) w)))))
      (.and (.cmp .le u (.lit 0)) (.and (.cmp .le v (.lit 0)) (.and (.cmp .le w (.lit 0)) (.cmp .le (.op .add (.op .add u v) w) (.lit (-1)))))))
theorem fineB_den {ρ : Nat → Int} (u v w : E) : (fineB u v w).den G ρ = true ↔ fineW (u.den G ρ) (v.den G ρ) (w.den G ρ) := by
  unfold fineB fineW
  simp only [B.den, E.den, cop_le, iop_add, Bool.and_eq_true, Bool.or_eq_true, decide_eq_true_eq]
def at_entry : Entry := fun X args =>
  match args with
  | [.agg [.int .i32 a, .int .i32 b, .int .i32 c], .agg [.int .i64 u, .int .i64 v, .int .i64 w]] =>
    if a.lies X (-2147483648) 2147483647 && (b.lies X (-2147483648) 2147483647 && (c.lies X (-2147483648) 2147483647 && (u.lies X (-1801615772808642560) 1801615772808642560 && (v.lies X (-1801615772808642560) 1801615772808642560 && w.lies X (-1801615772808642560) 1801615772808642560)))) then
      (Res.testW X (fineB u v w)).bind fun t => if t then .ok (.int .i64 (.app 72 (.cons a (.cons b (.cons c (.cons u (.cons v (.cons w .nil)))))))) else .fail 203
    else .fail 200
  | _ => .fail 201
theorem at_ok {X : Ctx} {ρ : Nat → Int} (hX : X.Ok ρ) (hG : X.G = G) : EntryOk Try.prog X ρ GB 124 at_entry := by
  obtain ⟨XG, XI, XV, XF⟩ := X
  simp only at hG
  subst hG
  intro args s h α w0 vals hv hw
  unfold at_entry at h
  split at h
  · split at h
    · rename_i hg
      simp only [Bool.and_eq_true] at hg
      obtain ⟨g0, g1, g2, g3, g4, g5⟩ := hg
      obtain ⟨t, ht, h⟩ := Res.bind_ok h
      have ht := Res.testW_ok hX ht
      cases t with
      | false => cases h
      | true =>
        cases h
        exact entry_calls hv rfl rfl (at_any _ _ _ _ _ _ (E.lies_in hX g0) (E.lies_in hX g1) (E.lies_in hX g2) (E.lies_in hX g3) (E.lies_in hX g4) (E.lies_in hX g5) ((fineB_den _ _ _).1 ht) w0 hw)
    · cases h
  · cases h
def ct_at : Contracts := ctCons 124 at_entry ct_cw
theorem ct_at_ok {X : Ctx} {ρ : Nat → Int} (hX : X.Ok ρ) (hG : X.G = G) : CtOk Try.prog X ρ GB ct_at := ctCons_ok (at_ok hX hG) (ct_cw_ok hX hG)
def qin_S : St := ⟨[(.yld 6), (.ptr 2 0), (.ptr 3 0), .any, (.int .i64 (.op .max (.lit 0) (.op .fdiv (.op .sub (.op .add (.op .sub (.op .min (.op .min (.var 0) (.var 2)) (.var 4)) (.lit 128)) (.lit 256)) (.lit 1)) (.lit 256)))), (.int .i64 (.op .min (.lit 12) (.op .add (.op .fdiv (.op .sub (.op .max (.op .max (.var 0) (.var 2)) (.var 4)) (.lit 128)) (.lit 256)) (.lit 1)))), .any, (.int .i64 (.op .min (.lit 12) (.op .add (.op .fdiv (.op .sub (.op .max (.op .max (.var 1) (.var 3)) (.var 5)) (.lit 128)) (.lit 256)) (.lit 1)))), (.int .i64 (.var 15)), (.int .i64 (.var 16)), .any, .any, .any, .any, .any, .any, .any, .any, .any, .any, .any, .any, .any, .any, .any, .any, .any, .any, .any, .any, .any, .any, .any, .any, .any, .any, .any, .any, .any, .any, .any, .any, .any, .any, .any, .any, .any, .any, .any, .any, .any, .any, .any, .any, .any, .any, .any, .any, .any, .any, .any, .any, .any, .any, .any, .any, .any, .any, .any, .any, .any, .any, .any, .any, .any, .any, .any, .any, .any, .any, .any, .any, .any, .any, .any, .any, .any, .any, .any, .any, .any, .any, .any, .any, .any, .any, .any, .any, .any, .any, .any, .any, .any, .any, .any, .any], [some ([.vec [.bool, .int .i64, .int .i32, .int .i32, .int .i32, .int .i32, .int .i32, .int .i32] (.var 17) (.lit 144) true], vecTag + 46), some ([(.int .i64 (.lit 12)), (.int .i64 (.lit 12)), (.own 0 (.lit 144) (some (.lit 144)))], 78), some ([(.int .i64 (.var 0)), (.int .i64 (.var 1)), (.int .i64 (.var 2)), (.int .i64 (.var 3)), (.int .i64 (.var 4)), (.int .i64 (.var 5))], 32), some ([(.ptr 1 0)], 24), some ([(.ptr 1 0)], 24), some ([(.iface 126 [(.int .i64 (.var 0)), (.int .i64 (.var 1)), (.int .i64 (.var 2)), (.int .i64 (.var 3)), (.int .i64 (.var 4)), (.int .i64 (.var 5)), (.int .i32 (.var 6)), (.int .i32 (.var 7)), (.int .i32 (.var 8)), (.int .i32 (.var 9)), (.int .i32 (.var 10)), (.int .i32 (.var 11)), (.int .i64 (.app 0 (.cons (.var 12) .nil))), (.int .u64 (.app 1 (.cons (.var 12) .nil))), (.int .i64 (.var 13)), .any, .any, .any, .any, .any, .any, .any, .any, .any, (.int .i64 (.app 0 (.cons (.var 12) .nil))), (.int .u64 (.app 1 (.cons (.var 12) .nil))), .any, .any, .any, .any, .any, .any, .any, .any, .any, .any, (.int .i64 (.app 0 (.cons (.var 12) .nil))), (.int .u64 (.app 1 (.cons (.var 12) .nil))), .any, .any, .any, .any, .any, .any, .any, .any, .any, .any, (.int .i64 (.app 0 (.cons (.var 12) .nil))), (.int .u64 (.app 1 (.cons (.var 12) .nil))), .any, .any, .any, .any, .any, .any, .any, .any, .any, .any, (.int .i64 (.lit 1)), (.int .i64 (.var 14))])], 132), some ([.any, .any, .any, (.ptr 4 0), .any, (.ptr 5 0), .any, .any, .any, .any, .any, .any, .any, .any, .any, .any, .any, .any, .any, .any, .any, .any, .any, .any, .any, .any, .any, .any, .any, .any, .any, .any, .any, .any, .any, .any, .any] ++ [loopCell (-1)], loopTag + 37), none, none, none, none, none, none, none, none, none, none, none, none, none, none, none, none, none, none, none, none, none, none, none, none, none, none, none, none, none, none, none, none, none, none, none, none, none, none, none, none, none, none, none, none, none, none, none, none, none, none, none, none, none, none, none, none, none, none, none, none]⟩
def qin_T : St := ⟨[(.yld 6), (.ptr 2 0), (.ptr 3 0), .any, (.int .i64 (.op .max (.lit 0) (.op .fdiv (.op .sub (.op .add (.op .sub (.op .min (.op .min (.var 0) (.var 2)) (.var 4)) (.lit 128)) (.lit 256)) (.lit 1)) (.lit 256)))), (.int .i64 (.op .min (.lit 12) (.op .add (.op .fdiv (.op .sub (.op .max (.op .max (.var 0) (.var 2)) (.var 4)) (.lit 128)) (.lit 256)) (.lit 1)))), .any, (.int .i64 (.op .min (.lit 12) (.op .add (.op .fdiv (.op .sub (.op .max (.op .max (.var 1) (.var 3)) (.var 5)) (.lit 128)) (.lit 256)) (.lit 1)))), (.int .i64 (.var 15)), .any, .any, .any, .any, .any, .any, .any, .any, .any, .any, .any, .any, .any, .any, .any, .any, .any, .any, .any, .any, .any, .any, .any, .any, .any, .any, .any, .any, .any, .any, .any, .any, .any, .any, .any, .any, .any, .any, .any, .any, .any, .any, .any, .any, .any, .any, .any, .any, .any, .any, .any, .any, .any, .any, .any, .any, .any, .any, .any, .any, .any, .any, .any, .any, .any, .any, .any, .any, .any, .any, .any, .any, .any, .any, .any, .any, .any, .any, .any, .any, .any, .any, .any, .any, .any, .any, .any, .any, .any, .any, .any, .any, .any, .any, .any, .any, .any], [some ([.vec [.bool, .int .i64, .int .i32, .int .i32, .int .i32, .int .i32, .int .i32, .int .i32] (.app 76 (.cons (.var 0) (.cons (.var 1) (.cons (.var 2) (.cons (.var 3) (.cons (.var 4) (.cons (.var 5) (.cons (.var 6) (.cons (.var 7) (.cons (.var 8) (.cons (.var 9) (.cons (.var 10) (.cons (.var 11) (.cons (.var 12) (.cons (.var 13) (.cons (.var 14) (.cons (.op .add (.var 15) (.lit 1)) .nil))))))))))))))))) (.lit 144) true], vecTag + 46), some ([(.int .i64 (.lit 12)), (.int .i64 (.lit 12)), (.own 0 (.lit 144) (some (.lit 144)))], 78), some ([(.int .i64 (.var 0)), (.int .i64 (.var 1)), (.int .i64 (.var 2)), (.int .i64 (.var 3)), (.int .i64 (.var 4)), (.int .i64 (.var 5))], 32), some ([(.ptr 1 0)], 24), some ([(.ptr 1 0)], 24), some ([(.iface 126 [(.int .i64 (.var 0)), (.int .i64 (.var 1)), (.int .i64 (.var 2)), (.int .i64 (.var 3)), (.int .i64 (.var 4)), (.int .i64 (.var 5)), (.int .i32 (.var 6)), (.int .i32 (.var 7)), (.int .i32 (.var 8)), (.int .i32 (.var 9)), (.int .i32 (.var 10)), (.int .i32 (.var 11)), (.int .i64 (.app 0 (.cons (.var 12) .nil))), (.int .u64 (.app 1 (.cons (.var 12) .nil))), (.int .i64 (.var 13)), .any, .any, .any, .any, .any, .any, .any, .any, .any, (.int .i64 (.app 0 (.cons (.var 12) .nil))), (.int .u64 (.app 1 (.cons (.var 12) .nil))), .any, .any, .any, .any, .any, .any, .any, .any, .any, .any, (.int .i64 (.app 0 (.cons (.var 12) .nil))), (.int .u64 (.app 1 (.cons (.var 12) .nil))), .any, .any, .any, .any, .any, .any, .any, .any, .any, .any, (.int .i64 (.app 0 (.cons (.var 12) .nil))), (.int .u64 (.app 1 (.cons (.var 12) .nil))), .any, .any, .any, .any, .any, .any, .any, .any, .any, .any, (.int .i64 (.lit 1)), (.int .i64 (.var 14))])], 132), some ([.any, .any, .any, (.ptr 4 0), .any, (.ptr 5 0), .any, .any, .any, .any, .any, .any, .any, .any, .any, .any, .any, .any, .any, .any, .any, .any, .any, .any, .any, .any, .any, .any, .any, .any, .any, .any, .any, .any, .any, .any, .any] ++ [loopCell (-1)], loopTag + 37), none, none, none, none, none, none, none, none, none, none, none, none, none, none, none, none, none, none, none, none, none, none, none, none, none, none, none, none, none, none, none, none, none, none, none, none, none, none, none, none, none, none, none, none, none, none, none, none, none, none, none, none, none, none, none, none, none, none, none, none]⟩
def qin_l : LoopS := ⟨16, 67, qin_S, .lit true, .exit 2, qin_T, .exit 2, qin_T⟩
def qin_vt : List (Int × Int) := [((-671088640), 671088640), ((-671088640), 671088640), ((-671088640), 671088640), ((-671088640), 671088640), ((-671088640), 671088640), ((-671088640), 671088640), (0, 65536), (0, 65536), (0, 65536), (0, 65536), (0, 65536), (0, 65536), ((-1125899906842624), 1125899906842624), (1, 65535), ((-9223372036854775808), 9223372036854775807), (0, 11), (0, 2700000)]
def qin_round (P : Program) (fs : List B) : Res SV := withCtx G GI qin_vt fs fun X => exRound P X GB ct_at lpNil 4000 (loopNo (bodyOf P 78) 1) qin_l
end Go.Proofs.Ytoiecphddchknaa
