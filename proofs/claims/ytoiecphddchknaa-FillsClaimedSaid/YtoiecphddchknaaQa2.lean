/- What is proved: the run of a function over its ways, and what is known on each. No condition. -/
import Derived.Test.YtoiecphddchknaaQg6
import Derived.Test.YtoiecphddchknaaQg3
import Derived.Test.YtoiecphddchknaaProg
import Derived.Test.YtoiecphddchknaaQNn
set_option linter.unusedSimpArgs false
set_option linter.unusedVariables false
set_option maxRecDepth 100000
namespace Go.Proofs.Ytoiecphddchknaa
open Go Go.RowKit Sx Wi
def sign_R (P : Program) (fs : List B) : Res SV := withCtx G GI [((-9223372036854775808), 9223372036854775807)] fs (fun X => exFun P X GB ct_w 2000 38 [(.int .i64 (.var 0))])
def sign_f0 : List B := []
def sign_b0 : B := (.cmp .lt (.var 0) (.lit 0))
def sign_f1 : List B := grow sign_b0 ++ sign_f0
def sign_f2 : List B := grow (B.neg sign_b0) ++ sign_f0
def sign_b2 : B := (.cmp .lt (.lit 0) (.var 0))
def sign_f3 : List B := grow sign_b2 ++ sign_f2
def sign_f4 : List B := grow (B.neg sign_b2) ++ sign_f2
theorem sign_n0 : sign_R Try.prog sign_f0 = .need (.cmp .lt (.var 0) (.lit 0)) := by kernel_rfl
theorem sign_n1 : sign_R Try.prog sign_f1 = .ok (.int .i64 (.lit (-1))) := by kernel_rfl
theorem sign_n2 : sign_R Try.prog sign_f2 = .need (.cmp .lt (.lit 0) (.var 0)) := by kernel_rfl
theorem sign_n3 : sign_R Try.prog sign_f3 = .ok (.int .i64 (.lit 1)) := by kernel_rfl
theorem sign_n4 : sign_R Try.prog sign_f4 = .ok (.int .i64 (.lit 0)) := by kernel_rfl
end Go.Proofs.Ytoiecphddchknaa
set_option maxRecDepth 100000
namespace Go.Proofs.Ytoiecphddchknaa
open Go Go.RowKit Sx Wi
def wcmp_R (P : Program) (fs : List B) : Res SV := withCtx G GI [((-9223372036854775808), 9223372036854775807), (0, 18446744073709551615), ((-9223372036854775808), 9223372036854775807), (0, 18446744073709551615)] fs (fun X => exFun P X GB ct_w 2000 22 [(.agg [(.int .i64 (.var 0)), (.int .u64 (.var 1))]), (.agg [(.int .i64 (.var 2)), (.int .u64 (.var 3))])])
def wcmp_f0 : List B := []
def wcmp_b0 : B := (.cmp .lt (.var 0) (.var 2))
def wcmp_f1 : List B := grow wcmp_b0 ++ wcmp_f0
def wcmp_b1 : B := (.cmp .lt (.var 1) (.var 3))
def wcmp_f2 : List B := grow wcmp_b1 ++ wcmp_f1
def wcmp_f3 : List B := grow (B.neg wcmp_b1) ++ wcmp_f1
def wcmp_b3 : B := (.cmp .lt (.var 3) (.var 1))
def wcmp_f4 : List B := grow wcmp_b3 ++ wcmp_f3
def wcmp_f5 : List B := grow (B.neg wcmp_b3) ++ wcmp_f3
def wcmp_f6 : List B := grow (B.neg wcmp_b0) ++ wcmp_f0
def wcmp_b6 : B := (.cmp .lt (.var 2) (.var 0))
def wcmp_f7 : List B := grow wcmp_b6 ++ wcmp_f6
def wcmp_b7 : B := (.cmp .lt (.var 1) (.var 3))
def wcmp_f8 : List B := grow wcmp_b7 ++ wcmp_f7
def wcmp_f9 : List B := grow (B.neg wcmp_b7) ++ wcmp_f7
def wcmp_b9 : B := (.cmp .lt (.var 3) (.var 1))
def wcmp_f10 : List B := grow wcmp_b9 ++ wcmp_f9
def wcmp_f11 : List B := grow (B.neg wcmp_b9) ++ wcmp_f9
def wcmp_f12 : List B := grow (B.neg wcmp_b6) ++ wcmp_f6
def wcmp_b12 : B := (.cmp .lt (.var 1) (.var 3))
def wcmp_f13 : List B := grow wcmp_b12 ++ wcmp_f12
def wcmp_f14 : List B := grow (B.neg wcmp_b12) ++ wcmp_f12
def wcmp_b14 : B := (.cmp .lt (.var 3) (.var 1))
def wcmp_f15 : List B := grow wcmp_b14 ++ wcmp_f14
def wcmp_f16 : List B := grow (B.neg wcmp_b14) ++ wcmp_f14
theorem wcmp_n0 : wcmp_R Try.prog wcmp_f0 = .need (.cmp .lt (.var 0) (.var 2)) := by kernel_rfl
theorem wcmp_n1 : wcmp_R Try.prog wcmp_f1 = .need (.cmp .lt (.var 1) (.var 3)) := by kernel_rfl
theorem wcmp_n2 : wcmp_R Try.prog wcmp_f2 = .ok (.int .i64 (.lit (-1))) := by kernel_rfl
theorem wcmp_n3 : wcmp_R Try.prog wcmp_f3 = .need (.cmp .lt (.var 3) (.var 1)) := by kernel_rfl
theorem wcmp_n4 : wcmp_R Try.prog wcmp_f4 = .ok (.int .i64 (.lit (-1))) := by kernel_rfl
theorem wcmp_n5 : wcmp_R Try.prog wcmp_f5 = .ok (.int .i64 (.lit (-1))) := by kernel_rfl
theorem wcmp_n6 : wcmp_R Try.prog wcmp_f6 = .need (.cmp .lt (.var 2) (.var 0)) := by kernel_rfl
theorem wcmp_n7 : wcmp_R Try.prog wcmp_f7 = .need (.cmp .lt (.var 1) (.var 3)) := by kernel_rfl
theorem wcmp_n8 : wcmp_R Try.prog wcmp_f8 = .ok (.int .i64 (.lit 1)) := by kernel_rfl
theorem wcmp_n9 : wcmp_R Try.prog wcmp_f9 = .need (.cmp .lt (.var 3) (.var 1)) := by kernel_rfl
theorem wcmp_n10 : wcmp_R Try.prog wcmp_f10 = .ok (.int .i64 (.lit 1)) := by kernel_rfl
theorem wcmp_n11 : wcmp_R Try.prog wcmp_f11 = .ok (.int .i64 (.lit 1)) := by kernel_rfl
theorem wcmp_n12 : wcmp_R Try.prog wcmp_f12 = .need (.cmp .lt (.var 1) (.var 3)) := by kernel_rfl
theorem wcmp_n13 : wcmp_R Try.prog wcmp_f13 = .ok (.int .i64 (.lit (-1))) := by kernel_rfl
theorem wcmp_n14 : wcmp_R Try.prog wcmp_f14 = .need (.cmp .lt (.var 3) (.var 1)) := by kernel_rfl
theorem wcmp_n15 : wcmp_R Try.prog wcmp_f15 = .ok (.int .i64 (.lit 1)) := by kernel_rfl
theorem wcmp_n16 : wcmp_R Try.prog wcmp_f16 = .ok (.int .i64 (.lit 0)) := by kernel_rfl
end Go.Proofs.Ytoiecphddchknaa
namespace Go.Proofs.Ytoiecphddchknaa
open Go Go.RowKit Sx Wi
set_option maxRecDepth 100000 in
theorem sign_any (x0 : Int) (b0 : (-9223372036854775808) ≤ x0 ∧ x0 ≤ 9223372036854775807) (w : World) (hw : WOk GB w) : Known Try.prog 38 ∧ Calls Try.prog 38 #[.int .i64 x0] w (fun e w' => e = .returned (.int .i64 (xG60 [x0])) ∧ Below w.heap.size w w') := by
  refine calls_eq (way_calls3 (ρ := rho [x0]) (run := fun fs => sign_R Try.prog fs) (fun _ => rfl) fits (within_get ⟨b0, trivial⟩) gi_ok (fun X hX hG => ct_w_ok hX hG) rfl rfl gbApart_nil ?_ w hw)
  refine way_need sign_n0 (fun h0 => ?_) (fun h0 => ?_)
  · skip
    refine way_leaf sign_n1 ?_
    refine ⟨rfl, ?_⟩; simp only [nn] at *; simp only [xG60]; unfold Ed.sg; split <;> (try split) <;> first | rfl | (exfalso; omega)
  refine way_need sign_n2 (fun h1 => ?_) (fun h1 => ?_)
  · skip
    refine way_leaf sign_n3 ?_
    refine ⟨rfl, ?_⟩; simp only [nn] at *; simp only [xG60]; unfold Ed.sg; split <;> (try split) <;> first | rfl | (exfalso; omega)
  refine way_leaf sign_n4 ?_
  refine ⟨rfl, ?_⟩; simp only [nn] at *; simp only [xG60]; unfold Ed.sg; split <;> (try split) <;> first | rfl | (exfalso; omega)
def sign_entry : Entry := fun X args =>
  match args with
  | [.int .i64 a0] => if a0.fits X .i64 then .ok (.int .i64 (.app 60 (.cons a0 .nil))) else .fail 200
  | _ => .fail 201
theorem sign_ok {X : Ctx} {ρ : Nat → Int} (hX : X.Ok ρ) (hG : X.G = G) : EntryOk Try.prog X ρ GB 38 sign_entry := by
  obtain ⟨XG, XI, XV, XF⟩ := X
  simp only at hG
  subst hG
  intro args s h α w vals hv hw
  unfold sign_entry at h
  split at h
  · split at h
    · rename_i hg
      try simp only [Bool.and_eq_true] at hg
      have g0 := hg
      cases h
      exact entry_calls hv rfl rfl (sign_any _ (E.fits_in hX g0) w hw)
    · cases h
  · cases h
set_option maxRecDepth 100000 in
theorem wcmp_any (x0 x1 x2 x3 : Int) (b0 : (-9223372036854775808) ≤ x0 ∧ x0 ≤ 9223372036854775807) (b1 : 0 ≤ x1 ∧ x1 ≤ 18446744073709551615) (b2 : (-9223372036854775808) ≤ x2 ∧ x2 ≤ 9223372036854775807) (b3 : 0 ≤ x3 ∧ x3 ≤ 18446744073709551615) (w : World) (hw : WOk GB w) : Known Try.prog 22 ∧ Calls Try.prog 22 #[(.agg #[.int .i64 x0, .int .u64 x1]), (.agg #[.int .i64 x2, .int .u64 x3])] w (fun e w' => e = .returned (.int .i64 (xG67 [x0, x1, x2, x3])) ∧ Below w.heap.size w w') := by
  refine calls_eq (way_calls3 (ρ := rho [x0, x1, x2, x3]) (run := fun fs => wcmp_R Try.prog fs) (fun _ => rfl) fits (within_get ⟨b0, b1, b2, b3, trivial⟩) gi_ok (fun X hX hG => ct_w_ok hX hG) rfl rfl gbApart_nil ?_ w hw)
  refine way_need wcmp_n0 (fun h0 => ?_) (fun h0 => ?_)
  · skip
    refine way_need wcmp_n1 (fun h1 => ?_) (fun h1 => ?_)
    · skip
      refine way_leaf wcmp_n2 ?_
      refine ⟨rfl, ?_⟩; simp only [nn] at *; simp only [xG67]; (repeat' split) <;> first | rfl | (exfalso; omega)
    refine way_need wcmp_n3 (fun h2 => ?_) (fun h2 => ?_)
    · skip
      refine way_leaf wcmp_n4 ?_
      refine ⟨rfl, ?_⟩; simp only [nn] at *; simp only [xG67]; (repeat' split) <;> first | rfl | (exfalso; omega)
    refine way_leaf wcmp_n5 ?_
    refine ⟨rfl, ?_⟩; simp only [nn] at *; simp only [xG67]; (repeat' split) <;> first | rfl | (exfalso; omega)
  refine way_need wcmp_n6 (fun h1 => ?_) (fun h1 => ?_)
  · skip
    refine way_need wcmp_n7 (fun h2 => ?_) (fun h2 => ?_)
    · skip
      refine way_leaf wcmp_n8 ?_
      refine ⟨rfl, ?_⟩; simp only [nn] at *; simp only [xG67]; (repeat' split) <;> first | rfl | (exfalso; omega)
    refine way_need wcmp_n9 (fun h3 => ?_) (fun h3 => ?_)
    · skip
      refine way_leaf wcmp_n10 ?_
      refine ⟨rfl, ?_⟩; simp only [nn] at *; simp only [xG67]; (repeat' split) <;> first | rfl | (exfalso; omega)
    refine way_leaf wcmp_n11 ?_
    refine ⟨rfl, ?_⟩; simp only [nn] at *; simp only [xG67]; (repeat' split) <;> first | rfl | (exfalso; omega)
  refine way_need wcmp_n12 (fun h2 => ?_) (fun h2 => ?_)
  · skip
    refine way_leaf wcmp_n13 ?_
    refine ⟨rfl, ?_⟩; simp only [nn] at *; simp only [xG67]; (repeat' split) <;> first | rfl | (exfalso; omega)
  refine way_need wcmp_n14 (fun h3 => ?_) (fun h3 => ?_)
  · skip
    refine way_leaf wcmp_n15 ?_
    refine ⟨rfl, ?_⟩; simp only [nn] at *; simp only [xG67]; (repeat' split) <;> first | rfl | (exfalso; omega)
  refine way_leaf wcmp_n16 ?_
  refine ⟨rfl, ?_⟩; simp only [nn] at *; simp only [xG67]; (repeat' split) <;> first | rfl | (exfalso; omega)
def wcmp_entry : Entry := fun X args =>
  match args with
  | [(.agg [.int .i64 a0, .int .u64 a1]), (.agg [.int .i64 a2, .int .u64 a3])] => if a0.fits X .i64 && a1.fits X .u64 && a2.fits X .i64 && a3.fits X .u64 then .ok (.int .i64 (.app 67 (.cons a0 (.cons a1 (.cons a2 (.cons a3 .nil)))))) else .fail 200
  | _ => .fail 201
theorem wcmp_ok {X : Ctx} {ρ : Nat → Int} (hX : X.Ok ρ) (hG : X.G = G) : EntryOk Try.prog X ρ GB 22 wcmp_entry := by
  obtain ⟨XG, XI, XV, XF⟩ := X
  simp only at hG
  subst hG
  intro args s h α w vals hv hw
  unfold wcmp_entry at h
  split at h
  · split at h
    · rename_i hg
      try simp only [Bool.and_eq_true] at hg
      obtain ⟨⟨⟨g0, g1⟩, g2⟩, g3⟩ := hg
      cases h
      exact entry_calls hv rfl rfl (wcmp_any _ _ _ _ (E.fits_in hX g0) (E.fits_in hX g1) (E.fits_in hX g2) (E.fits_in hX g3) w hw)
    · cases h
  · cases h
def ct_sign : Contracts := ctCons 38 sign_entry ct_w
theorem ct_sign_ok {X : Ctx} {ρ : Nat → Int} (hX : X.Ok ρ) (hG : X.G = G) : CtOk Try.prog X ρ GB ct_sign := ctCons_ok (sign_ok hX hG) (ct_w_ok hX hG)
def ct_wcmp : Contracts := ctCons 22 wcmp_entry ct_sign
theorem ct_wcmp_ok {X : Ctx} {ρ : Nat → Int} (hX : X.Ok ρ) (hG : X.G = G) : CtOk Try.prog X ρ GB ct_wcmp := ctCons_ok (wcmp_ok hX hG) (ct_sign_ok hX hG)
end Go.Proofs.Ytoiecphddchknaa
set_option maxRecDepth 100000
namespace Go.Proofs.Ytoiecphddchknaa
open Go Go.RowKit Sx Wi
def sd_R (P : Program) (fs : List B) : Res SV := withCtx G GI [((-671088640), 671088640), ((-671088640), 671088640), ((-1342177280), 1342177280), ((-1342177280), 1342177280), ((-671088640), 671088640), ((-671088640), 671088640)] fs (fun X => exFun P X GB ct_wcmp 2000 41 [(.agg [(.int .i64 (.var 0)), (.int .i64 (.var 1)), (.int .i64 (.var 2)), (.int .i64 (.var 3))]), (.agg [(.int .i64 (.var 4)), (.int .i64 (.var 5))])])
def sd_f0 : List B := []
def sd_b0 : B := (.cmp .ne (.app 60 (.cons (.op .sub (.op .mul (.var 2) (.op .sub (.var 5) (.var 1))) (.op .mul (.var 3) (.op .sub (.var 4) (.var 0)))) .nil)) (.lit 0))
def sd_f1 : List B := grow sd_b0 ++ sd_f0
def sd_f2 : List B := grow (B.neg sd_b0) ++ sd_f0
def sd_b2 : B := (.cmp .ne (.op .sub (.lit 0) (.app 60 (.cons (.var 3) .nil))) (.lit 0))
def sd_f3 : List B := grow sd_b2 ++ sd_f2
def sd_f4 : List B := grow (B.neg sd_b2) ++ sd_f2
def sd_b4 : B := (.cmp .ne (.app 60 (.cons (.var 2) .nil)) (.lit 0))
def sd_f5 : List B := grow sd_b4 ++ sd_f4
def sd_f6 : List B := grow (B.neg sd_b4) ++ sd_f4
theorem sd_n0 : sd_R Try.prog sd_f0 = .need (.cmp .ne (.app 60 (.cons (.op .sub (.op .mul (.var 2) (.op .sub (.var 5) (.var 1))) (.op .mul (.var 3) (.op .sub (.var 4) (.var 0)))) .nil)) (.lit 0)) := by kernel_rfl
theorem sd_n1 : sd_R Try.prog sd_f1 = .ok (.int .i64 (.app 60 (.cons (.op .sub (.op .mul (.var 2) (.op .sub (.var 5) (.var 1))) (.op .mul (.var 3) (.op .sub (.var 4) (.var 0)))) .nil))) := by kernel_rfl
theorem sd_n2 : sd_R Try.prog sd_f2 = .need (.cmp .ne (.op .sub (.lit 0) (.app 60 (.cons (.var 3) .nil))) (.lit 0)) := by kernel_rfl
theorem sd_n3 : sd_R Try.prog sd_f3 = .ok (.int .i64 (.op .sub (.lit 0) (.app 60 (.cons (.var 3) .nil)))) := by kernel_rfl
theorem sd_n4 : sd_R Try.prog sd_f4 = .need (.cmp .ne (.app 60 (.cons (.var 2) .nil)) (.lit 0)) := by kernel_rfl
theorem sd_n5 : sd_R Try.prog sd_f5 = .ok (.int .i64 (.app 60 (.cons (.var 2) .nil))) := by kernel_rfl
theorem sd_n6 : sd_R Try.prog sd_f6 = .ok (.int .i64 (.lit 0)) := by kernel_rfl
end Go.Proofs.Ytoiecphddchknaa
namespace Go.Proofs.Ytoiecphddchknaa
open Go Go.RowKit Sx Wi
set_option maxRecDepth 100000 in
theorem sd_any (x0 x1 x2 x3 x4 x5 : Int) (b0 : (-671088640) ≤ x0 ∧ x0 ≤ 671088640) (b1 : (-671088640) ≤ x1 ∧ x1 ≤ 671088640) (b2 : (-1342177280) ≤ x2 ∧ x2 ≤ 1342177280) (b3 : (-1342177280) ≤ x3 ∧ x3 ≤ 1342177280) (b4 : (-671088640) ≤ x4 ∧ x4 ≤ 671088640) (b5 : (-671088640) ≤ x5 ∧ x5 ≤ 671088640) (w : World) (hw : WOk GB w) : Known Try.prog 41 ∧ Calls Try.prog 41 #[(.agg #[.int .i64 x0, .int .i64 x1, .int .i64 x2, .int .i64 x3]), (.agg #[.int .i64 x4, .int .i64 x5])] w (fun e w' => e = .returned (.int .i64 (xG62 [x0, x1, x2, x3, x4, x5])) ∧ Below w.heap.size w w') := by
  refine calls_eq (way_calls3 (ρ := rho [x0, x1, x2, x3, x4, x5]) (run := fun fs => sd_R Try.prog fs) (fun _ => rfl) fits (within_get ⟨b0, b1, b2, b3, b4, b5, trivial⟩) gi_ok (fun X hX hG => ct_wcmp_ok hX hG) rfl rfl gbApart_nil ?_ w hw)
  refine way_need sd_n0 (fun h0 => ?_) (fun h0 => ?_)
  · skip
    refine way_leaf sd_n1 ?_
    refine ⟨rfl, ?_⟩; simp only [nn] at *; (try simp only [G, xG60, xG62, xG63, xG64, xG67] at *); unfold sd Ed.or3; simp_all
  refine way_need sd_n2 (fun h1 => ?_) (fun h1 => ?_)
  · skip
    refine way_leaf sd_n3 ?_
    refine ⟨rfl, ?_⟩; simp only [nn] at *; (try simp only [G, xG60, xG62, xG63, xG64, xG67] at *); unfold sd Ed.or3; simp_all
  refine way_need sd_n4 (fun h2 => ?_) (fun h2 => ?_)
  · skip
    refine way_leaf sd_n5 ?_
    refine ⟨rfl, ?_⟩; simp only [nn] at *; (try simp only [G, xG60, xG62, xG63, xG64, xG67] at *); unfold sd Ed.or3; simp_all
  refine way_leaf sd_n6 ?_
  refine ⟨rfl, ?_⟩; simp only [nn] at *; (try simp only [G, xG60, xG62, xG63, xG64, xG67] at *); unfold sd Ed.or3; simp_all
def sd_entry : Entry := fun X args =>
  match args with
  | [(.agg [.int .i64 a0, .int .i64 a1, .int .i64 a2, .int .i64 a3]), (.agg [.int .i64 a4, .int .i64 a5])] => if a0.lies X (-671088640) 671088640 && a1.lies X (-671088640) 671088640 && a2.lies X (-1342177280) 1342177280 && a3.lies X (-1342177280) 1342177280 && a4.lies X (-671088640) 671088640 && a5.lies X (-671088640) 671088640 then .ok (.int .i64 (.app 62 (.cons a0 (.cons a1 (.cons a2 (.cons a3 (.cons a4 (.cons a5 .nil)))))))) else .fail 200
  | _ => .fail 201
theorem sd_ok {X : Ctx} {ρ : Nat → Int} (hX : X.Ok ρ) (hG : X.G = G) : EntryOk Try.prog X ρ GB 41 sd_entry := by
  obtain ⟨XG, XI, XV, XF⟩ := X
  simp only at hG
  subst hG
  intro args s h α w vals hv hw
  unfold sd_entry at h
  split at h
  · split at h
    · rename_i hg
      try simp only [Bool.and_eq_true] at hg
      obtain ⟨⟨⟨⟨⟨g0, g1⟩, g2⟩, g3⟩, g4⟩, g5⟩ := hg
      cases h
      exact entry_calls hv rfl rfl (sd_any _ _ _ _ _ _ (E.lies_in hX g0) (E.lies_in hX g1) (E.lies_in hX g2) (E.lies_in hX g3) (E.lies_in hX g4) (E.lies_in hX g5) w hw)
    · cases h
  · cases h
def ct_sd : Contracts := ctCons 41 sd_entry ct_wcmp
theorem ct_sd_ok {X : Ctx} {ρ : Nat → Int} (hX : X.Ok ρ) (hG : X.G = G) : CtOk Try.prog X ρ GB ct_sd := ctCons_ok (sd_ok hX hG) (ct_wcmp_ok hX hG)
end Go.Proofs.Ytoiecphddchknaa
set_option maxRecDepth 100000
namespace Go.Proofs.Ytoiecphddchknaa
open Go Go.RowKit Sx Wi
def claim_R (P : Program) (fs : List B) : Res SV := withCtx G GI [((-9223372036854775808), 9223372036854775807), ((-9223372036854775808), 9223372036854775807), ((-9223372036854775808), 9223372036854775807), ((-9223372036854775808), 9223372036854775807), ((-9223372036854775808), 9223372036854775807), ((-9223372036854775808), 9223372036854775807), ((-9223372036854775808), 9223372036854775807), ((-9223372036854775808), 9223372036854775807)] fs (fun X => exFun P X GB ct_sd 2000 13 [(.agg [(.int .i64 (.var 0)), (.int .i64 (.var 1)), (.int .i64 (.var 2)), (.int .i64 (.var 3)), (.int .i64 (.var 4)), (.int .i64 (.var 5))]), (.agg [(.int .i64 (.var 6)), (.int .i64 (.var 7))])])
def claim_f0 : List B := []
def claim_b0 : B := (.cmp .lt (.lit 671088640) (.op .max (.var 0) (.var 1)))
def claim_f1 : List B := grow claim_b0 ++ claim_f0
def claim_f2 : List B := grow (B.neg claim_b0) ++ claim_f0
def claim_b2 : B := (.cmp .lt (.op .min (.var 0) (.var 1)) (.lit (-671088640)))
def claim_f3 : List B := grow claim_b2 ++ claim_f2
def claim_f4 : List B := grow (B.neg claim_b2) ++ claim_f2
def claim_b4 : B := (.cmp .lt (.lit 671088640) (.op .max (.var 2) (.var 3)))
def claim_f5 : List B := grow claim_b4 ++ claim_f4
def claim_f6 : List B := grow (B.neg claim_b4) ++ claim_f4
def claim_b6 : B := (.cmp .lt (.op .min (.var 2) (.var 3)) (.lit (-671088640)))
def claim_f7 : List B := grow claim_b6 ++ claim_f6
def claim_f8 : List B := grow (B.neg claim_b6) ++ claim_f6
def claim_b8 : B := (.cmp .lt (.lit 671088640) (.op .max (.var 4) (.var 5)))
def claim_f9 : List B := grow claim_b8 ++ claim_f8
def claim_f10 : List B := grow (B.neg claim_b8) ++ claim_f8
def claim_b10 : B := (.cmp .lt (.op .min (.var 4) (.var 5)) (.lit (-671088640)))
def claim_f11 : List B := grow claim_b10 ++ claim_f10
def claim_f12 : List B := grow (B.neg claim_b10) ++ claim_f10
def claim_b12 : B := (.cmp .eq (.app 60 (.cons (.op .sub (.op .mul (.op .sub (.var 2) (.var 0)) (.op .sub (.var 5) (.var 1))) (.op .mul (.op .sub (.var 3) (.var 1)) (.op .sub (.var 4) (.var 0)))) .nil)) (.lit 0))
def claim_f13 : List B := grow claim_b12 ++ claim_f12
def claim_f14 : List B := grow (B.neg claim_b12) ++ claim_f12
def claim_b14 : B := (.cmp .lt (.lit 671088640) (.op .max (.var 6) (.var 7)))
def claim_f15 : List B := grow claim_b14 ++ claim_f14
def claim_f16 : List B := grow (B.neg claim_b14) ++ claim_f14
def claim_b16 : B := (.cmp .lt (.op .min (.var 6) (.var 7)) (.lit (-671088640)))
def claim_f17 : List B := grow claim_b16 ++ claim_f16
def claim_f18 : List B := grow (B.neg claim_b16) ++ claim_f16
def claim_b18 : B := (.cmp .ne (.app 62 (.cons (.var 2) (.cons (.var 3) (.cons (.op .sub (.var 4) (.var 2)) (.cons (.op .sub (.var 5) (.var 3)) (.cons (.var 6) (.cons (.var 7) .nil))))))) (.app 60 (.cons (.op .sub (.op .mul (.op .sub (.var 2) (.var 0)) (.op .sub (.var 5) (.var 1))) (.op .mul (.op .sub (.var 3) (.var 1)) (.op .sub (.var 4) (.var 0)))) .nil)))
def claim_f19 : List B := grow claim_b18 ++ claim_f18
def claim_f20 : List B := grow (B.neg claim_b18) ++ claim_f18
def claim_b20 : B := (.cmp .ne (.app 62 (.cons (.var 4) (.cons (.var 5) (.cons (.op .sub (.var 0) (.var 4)) (.cons (.op .sub (.var 1) (.var 5)) (.cons (.var 6) (.cons (.var 7) .nil))))))) (.app 60 (.cons (.op .sub (.op .mul (.op .sub (.var 2) (.var 0)) (.op .sub (.var 5) (.var 1))) (.op .mul (.op .sub (.var 3) (.var 1)) (.op .sub (.var 4) (.var 0)))) .nil)))
def claim_f21 : List B := grow claim_b20 ++ claim_f20
def claim_f22 : List B := grow (B.neg claim_b20) ++ claim_f20
def claim_b22 : B := (.cmp .ne (.app 62 (.cons (.var 0) (.cons (.var 1) (.cons (.op .sub (.var 2) (.var 0)) (.cons (.op .sub (.var 3) (.var 1)) (.cons (.var 6) (.cons (.var 7) .nil))))))) (.app 60 (.cons (.op .sub (.op .mul (.op .sub (.var 2) (.var 0)) (.op .sub (.var 5) (.var 1))) (.op .mul (.op .sub (.var 3) (.var 1)) (.op .sub (.var 4) (.var 0)))) .nil)))
def claim_f23 : List B := grow claim_b22 ++ claim_f22
def claim_f24 : List B := grow (B.neg claim_b22) ++ claim_f22
theorem claim_n0 : claim_R Try.prog claim_f0 = .need (.cmp .lt (.lit 671088640) (.op .max (.var 0) (.var 1))) := by kernel_rfl
theorem claim_n1 : claim_R Try.prog claim_f1 = .ok (.int .i64 (.lit 0)) := by kernel_rfl
theorem claim_n2 : claim_R Try.prog claim_f2 = .need (.cmp .lt (.op .min (.var 0) (.var 1)) (.lit (-671088640))) := by kernel_rfl
theorem claim_n3 : claim_R Try.prog claim_f3 = .ok (.int .i64 (.lit 0)) := by kernel_rfl
theorem claim_n4 : claim_R Try.prog claim_f4 = .need (.cmp .lt (.lit 671088640) (.op .max (.var 2) (.var 3))) := by kernel_rfl
theorem claim_n5 : claim_R Try.prog claim_f5 = .ok (.int .i64 (.lit 0)) := by kernel_rfl
theorem claim_n6 : claim_R Try.prog claim_f6 = .need (.cmp .lt (.op .min (.var 2) (.var 3)) (.lit (-671088640))) := by kernel_rfl
theorem claim_n7 : claim_R Try.prog claim_f7 = .ok (.int .i64 (.lit 0)) := by kernel_rfl
theorem claim_n8 : claim_R Try.prog claim_f8 = .need (.cmp .lt (.lit 671088640) (.op .max (.var 4) (.var 5))) := by kernel_rfl
theorem claim_n9 : claim_R Try.prog claim_f9 = .ok (.int .i64 (.lit 0)) := by kernel_rfl
theorem claim_n10 : claim_R Try.prog claim_f10 = .need (.cmp .lt (.op .min (.var 4) (.var 5)) (.lit (-671088640))) := by kernel_rfl
theorem claim_n11 : claim_R Try.prog claim_f11 = .ok (.int .i64 (.lit 0)) := by kernel_rfl
theorem claim_n12 : claim_R Try.prog claim_f12 = .need (.cmp .eq (.app 60 (.cons (.op .sub (.op .mul (.op .sub (.var 2) (.var 0)) (.op .sub (.var 5) (.var 1))) (.op .mul (.op .sub (.var 3) (.var 1)) (.op .sub (.var 4) (.var 0)))) .nil)) (.lit 0)) := by kernel_rfl
theorem claim_n13 : claim_R Try.prog claim_f13 = .ok (.int .i64 (.lit 0)) := by kernel_rfl
theorem claim_n14 : claim_R Try.prog claim_f14 = .need (.cmp .lt (.lit 671088640) (.op .max (.var 6) (.var 7))) := by kernel_rfl
theorem claim_n15 : claim_R Try.prog claim_f15 = .ok (.int .i64 (.lit 0)) := by kernel_rfl
theorem claim_n16 : claim_R Try.prog claim_f16 = .need (.cmp .lt (.op .min (.var 6) (.var 7)) (.lit (-671088640))) := by kernel_rfl
theorem claim_n17 : claim_R Try.prog claim_f17 = .ok (.int .i64 (.lit 0)) := by kernel_rfl
theorem claim_n18 : claim_R Try.prog claim_f18 = .need (.cmp .ne (.app 62 (.cons (.var 2) (.cons (.var 3) (.cons (.op .sub (.var 4) (.var 2)) (.cons (.op .sub (.var 5) (.var 3)) (.cons (.var 6) (.cons (.var 7) .nil))))))) (.app 60 (.cons (.op .sub (.op .mul (.op .sub (.var 2) (.var 0)) (.op .sub (.var 5) (.var 1))) (.op .mul (.op .sub (.var 3) (.var 1)) (.op .sub (.var 4) (.var 0)))) .nil))) := by kernel_rfl
theorem claim_n19 : claim_R Try.prog claim_f19 = .ok (.int .i64 (.lit 0)) := by kernel_rfl
theorem claim_n20 : claim_R Try.prog claim_f20 = .need (.cmp .ne (.app 62 (.cons (.var 4) (.cons (.var 5) (.cons (.op .sub (.var 0) (.var 4)) (.cons (.op .sub (.var 1) (.var 5)) (.cons (.var 6) (.cons (.var 7) .nil))))))) (.app 60 (.cons (.op .sub (.op .mul (.op .sub (.var 2) (.var 0)) (.op .sub (.var 5) (.var 1))) (.op .mul (.op .sub (.var 3) (.var 1)) (.op .sub (.var 4) (.var 0)))) .nil))) := by kernel_rfl
theorem claim_n21 : claim_R Try.prog claim_f21 = .ok (.int .i64 (.lit 0)) := by kernel_rfl
theorem claim_n22 : claim_R Try.prog claim_f22 = .need (.cmp .ne (.app 62 (.cons (.var 0) (.cons (.var 1) (.cons (.op .sub (.var 2) (.var 0)) (.cons (.op .sub (.var 3) (.var 1)) (.cons (.var 6) (.cons (.var 7) .nil))))))) (.app 60 (.cons (.op .sub (.op .mul (.op .sub (.var 2) (.var 0)) (.op .sub (.var 5) (.var 1))) (.op .mul (.op .sub (.var 3) (.var 1)) (.op .sub (.var 4) (.var 0)))) .nil))) := by kernel_rfl
theorem claim_n23 : claim_R Try.prog claim_f23 = .ok (.int .i64 (.lit 0)) := by kernel_rfl
theorem claim_n24 : claim_R Try.prog claim_f24 = .ok (.int .i64 (.app 60 (.cons (.op .sub (.op .mul (.op .sub (.var 2) (.var 0)) (.op .sub (.var 5) (.var 1))) (.op .mul (.op .sub (.var 3) (.var 1)) (.op .sub (.var 4) (.var 0)))) .nil))) := by kernel_rfl
end Go.Proofs.Ytoiecphddchknaa
set_option maxRecDepth 100000
namespace Go.Proofs.Ytoiecphddchknaa
open Go Go.RowKit Sx Wi
def wt_R (P : Program) (fs : List B) : Res SV := withCtx G GI [((-9223372036854775808), 9223372036854775807), ((-9223372036854775808), 9223372036854775807), ((-9223372036854775808), 9223372036854775807), ((-9223372036854775808), 9223372036854775807), ((-9223372036854775808), 9223372036854775807), ((-9223372036854775808), 9223372036854775807), ((-9223372036854775808), 9223372036854775807), ((-9223372036854775808), 9223372036854775807)] fs (fun X => exFun P X GB ct_sd 2000 16 [(.agg [(.int .i64 (.var 0)), (.int .i64 (.var 1)), (.int .i64 (.var 2)), (.int .i64 (.var 3)), (.int .i64 (.var 4)), (.int .i64 (.var 5))]), (.agg [(.int .i64 (.var 6)), (.int .i64 (.var 7))])])
def wt_f0 : List B := []
def wt_b0 : B := (.cmp .lt (.lit 671088640) (.op .max (.var 0) (.var 1)))
def wt_f1 : List B := grow wt_b0 ++ wt_f0
def wt_f2 : List B := grow (B.neg wt_b0) ++ wt_f0
def wt_b2 : B := (.cmp .lt (.op .min (.var 0) (.var 1)) (.lit (-671088640)))
def wt_f3 : List B := grow wt_b2 ++ wt_f2
def wt_f4 : List B := grow (B.neg wt_b2) ++ wt_f2
def wt_b4 : B := (.cmp .lt (.lit 671088640) (.op .max (.var 2) (.var 3)))
def wt_f5 : List B := grow wt_b4 ++ wt_f4
def wt_f6 : List B := grow (B.neg wt_b4) ++ wt_f4
def wt_b6 : B := (.cmp .lt (.op .min (.var 2) (.var 3)) (.lit (-671088640)))
def wt_f7 : List B := grow wt_b6 ++ wt_f6
def wt_f8 : List B := grow (B.neg wt_b6) ++ wt_f6
def wt_b8 : B := (.cmp .lt (.lit 671088640) (.op .max (.var 4) (.var 5)))
def wt_f9 : List B := grow wt_b8 ++ wt_f8
def wt_f10 : List B := grow (B.neg wt_b8) ++ wt_f8
def wt_b10 : B := (.cmp .lt (.op .min (.var 4) (.var 5)) (.lit (-671088640)))
def wt_f11 : List B := grow wt_b10 ++ wt_f10
def wt_f12 : List B := grow (B.neg wt_b10) ++ wt_f10
def wt_b12 : B := (.cmp .lt (.lit 671088640) (.op .max (.var 6) (.var 7)))
def wt_f13 : List B := grow wt_b12 ++ wt_f12
def wt_f14 : List B := grow (B.neg wt_b12) ++ wt_f12
def wt_b14 : B := (.cmp .lt (.op .min (.var 6) (.var 7)) (.lit (-671088640)))
def wt_f15 : List B := grow wt_b14 ++ wt_f14
def wt_f16 : List B := grow (B.neg wt_b14) ++ wt_f14
theorem wt_n0 : wt_R Try.prog wt_f0 = .need (.cmp .lt (.lit 671088640) (.op .max (.var 0) (.var 1))) := by kernel_rfl
theorem wt_n1 : wt_R Try.prog wt_f1 = .ok (.agg [(.int .i64 (.lit 0)), (.int .i64 (.lit 0)), (.int .i64 (.lit 0))]) := by kernel_rfl
theorem wt_n2 : wt_R Try.prog wt_f2 = .need (.cmp .lt (.op .min (.var 0) (.var 1)) (.lit (-671088640))) := by kernel_rfl
theorem wt_n3 : wt_R Try.prog wt_f3 = .ok (.agg [(.int .i64 (.lit 0)), (.int .i64 (.lit 0)), (.int .i64 (.lit 0))]) := by kernel_rfl
theorem wt_n4 : wt_R Try.prog wt_f4 = .need (.cmp .lt (.lit 671088640) (.op .max (.var 2) (.var 3))) := by kernel_rfl
theorem wt_n5 : wt_R Try.prog wt_f5 = .ok (.agg [(.int .i64 (.lit 0)), (.int .i64 (.lit 0)), (.int .i64 (.lit 0))]) := by kernel_rfl
theorem wt_n6 : wt_R Try.prog wt_f6 = .need (.cmp .lt (.op .min (.var 2) (.var 3)) (.lit (-671088640))) := by kernel_rfl
theorem wt_n7 : wt_R Try.prog wt_f7 = .ok (.agg [(.int .i64 (.lit 0)), (.int .i64 (.lit 0)), (.int .i64 (.lit 0))]) := by kernel_rfl
theorem wt_n8 : wt_R Try.prog wt_f8 = .need (.cmp .lt (.lit 671088640) (.op .max (.var 4) (.var 5))) := by kernel_rfl
theorem wt_n9 : wt_R Try.prog wt_f9 = .ok (.agg [(.int .i64 (.lit 0)), (.int .i64 (.lit 0)), (.int .i64 (.lit 0))]) := by kernel_rfl
theorem wt_n10 : wt_R Try.prog wt_f10 = .need (.cmp .lt (.op .min (.var 4) (.var 5)) (.lit (-671088640))) := by kernel_rfl
theorem wt_n11 : wt_R Try.prog wt_f11 = .ok (.agg [(.int .i64 (.lit 0)), (.int .i64 (.lit 0)), (.int .i64 (.lit 0))]) := by kernel_rfl
theorem wt_n12 : wt_R Try.prog wt_f12 = .need (.cmp .lt (.lit 671088640) (.op .max (.var 6) (.var 7))) := by kernel_rfl
theorem wt_n13 : wt_R Try.prog wt_f13 = .ok (.agg [(.int .i64 (.lit 0)), (.int .i64 (.lit 0)), (.int .i64 (.lit 0))]) := by kernel_rfl
theorem wt_n14 : wt_R Try.prog wt_f14 = .need (.cmp .lt (.op .min (.var 6) (.var 7)) (.lit (-671088640))) := by kernel_rfl
theorem wt_n15 : wt_R Try.prog wt_f15 = .ok (.agg [(.int .i64 (.lit 0)), (.int .i64 (.lit 0)), (.int .i64 (.lit 0))]) := by kernel_rfl
theorem wt_n16 : wt_R Try.prog wt_f16 = .ok (.agg [(.int .i64 (.op .sub (.op .mul (.op .sub (.var 4) (.var 2)) (.op .sub (.var 7) (.var 3))) (.op .mul (.op .sub (.var 5) (.var 3)) (.op .sub (.var 6) (.var 2))))), (.int .i64 (.op .sub (.op .mul (.op .sub (.var 0) (.var 4)) (.op .sub (.var 7) (.var 5))) (.op .mul (.op .sub (.var 1) (.var 5)) (.op .sub (.var 6) (.var 4))))), (.int .i64 (.op .sub (.op .mul (.op .sub (.var 2) (.var 0)) (.op .sub (.var 7) (.var 1))) (.op .mul (.op .sub (.var 3) (.var 1)) (.op .sub (.var 6) (.var 0)))))]) := by kernel_rfl
end Go.Proofs.Ytoiecphddchknaa
namespace Go.Proofs.Ytoiecphddchknaa
open Go Go.RowKit Sx Wi
set_option maxHeartbeats 1000000 in
set_option maxRecDepth 100000 in
theorem claim_any (x0 x1 x2 x3 x4 x5 x6 x7 : Int) (b0 : (-9223372036854775808) ≤ x0 ∧ x0 ≤ 9223372036854775807) (b1 : (-9223372036854775808) ≤ x1 ∧ x1 ≤ 9223372036854775807) (b2 : (-9223372036854775808) ≤ x2 ∧ x2 ≤ 9223372036854775807) (b3 : (-9223372036854775808) ≤ x3 ∧ x3 ≤ 9223372036854775807) (b4 : (-9223372036854775808) ≤ x4 ∧ x4 ≤ 9223372036854775807) (b5 : (-9223372036854775808) ≤ x5 ∧ x5 ≤ 9223372036854775807) (b6 : (-9223372036854775808) ≤ x6 ∧ x6 ≤ 9223372036854775807) (b7 : (-9223372036854775808) ≤ x7 ∧ x7 ≤ 9223372036854775807) (w : World) (hw : WOk GB w) : Known Try.prog 13 ∧ Calls Try.prog 13 #[(.agg #[.int .i64 x0, .int .i64 x1, .int .i64 x2, .int .i64 x3, .int .i64 x4, .int .i64 x5]), (.agg #[.int .i64 x6, .int .i64 x7])] w (fun e w' => e = .returned (.int .i64 (xG63 [x0, x1, x2, x3, x4, x5, x6, x7])) ∧ Below w.heap.size w w') := by
  refine calls_eq (way_calls3 (ρ := rho [x0, x1, x2, x3, x4, x5, x6, x7]) (run := fun fs => claim_R Try.prog fs) (fun _ => rfl) fits (within_get ⟨b0, b1, b2, b3, b4, b5, b6, b7, trivial⟩) gi_ok (fun X hX hG => ct_sd_ok hX hG) rfl rfl gbApart_nil ?_ w hw)
  refine way_need claim_n0 (fun h0 => ?_) (fun h0 => ?_)
  · skip
    refine way_leaf claim_n1 ?_
    refine ⟨rfl, ?_⟩; simp only [nn] at *; (try simp only [G, xG60, xG62, xG63, xG64, xG67] at *); congr 1; rw [claim_alt]; unfold Ed.ok Ed.cross; dsimp only; (repeat' split) <;> first | rfl | (exfalso; omega) | contradiction | (simp_all; done)
  refine way_need claim_n2 (fun h1 => ?_) (fun h1 => ?_)
  · skip
    refine way_leaf claim_n3 ?_
    refine ⟨rfl, ?_⟩; simp only [nn] at *; (try simp only [G, xG60, xG62, xG63, xG64, xG67] at *); congr 1; rw [claim_alt]; unfold Ed.ok Ed.cross; dsimp only; (repeat' split) <;> first | rfl | (exfalso; omega) | contradiction | (simp_all; done)
  refine way_need claim_n4 (fun h2 => ?_) (fun h2 => ?_)
  · skip
    refine way_leaf claim_n5 ?_
    refine ⟨rfl, ?_⟩; simp only [nn] at *; (try simp only [G, xG60, xG62, xG63, xG64, xG67] at *); congr 1; rw [claim_alt]; unfold Ed.ok Ed.cross; dsimp only; (repeat' split) <;> first | rfl | (exfalso; omega) | contradiction | (simp_all; done)
  refine way_need claim_n6 (fun h3 => ?_) (fun h3 => ?_)
  · skip
    refine way_leaf claim_n7 ?_
    refine ⟨rfl, ?_⟩; simp only [nn] at *; (try simp only [G, xG60, xG62, xG63, xG64, xG67] at *); congr 1; rw [claim_alt]; unfold Ed.ok Ed.cross; dsimp only; (repeat' split) <;> first | rfl | (exfalso; omega) | contradiction | (simp_all; done)
  refine way_need claim_n8 (fun h4 => ?_) (fun h4 => ?_)
  · skip
    refine way_leaf claim_n9 ?_
    refine ⟨rfl, ?_⟩; simp only [nn] at *; (try simp only [G, xG60, xG62, xG63, xG64, xG67] at *); congr 1; rw [claim_alt]; unfold Ed.ok Ed.cross; dsimp only; (repeat' split) <;> first | rfl | (exfalso; omega) | contradiction | (simp_all; done)
  refine way_need claim_n10 (fun h5 => ?_) (fun h5 => ?_)
  · skip
    refine way_leaf claim_n11 ?_
    refine ⟨rfl, ?_⟩; simp only [nn] at *; (try simp only [G, xG60, xG62, xG63, xG64, xG67] at *); congr 1; rw [claim_alt]; unfold Ed.ok Ed.cross; dsimp only; (repeat' split) <;> first | rfl | (exfalso; omega) | contradiction | (simp_all; done)
  refine way_need claim_n12 (fun h6 => ?_) (fun h6 => ?_)
  · skip
    refine way_leaf claim_n13 ?_
    refine ⟨rfl, ?_⟩; simp only [nn] at *; (try simp only [G, xG60, xG62, xG63, xG64, xG67] at *); congr 1; rw [claim_alt]; unfold Ed.ok Ed.cross; dsimp only; (repeat' split) <;> first | rfl | (exfalso; omega) | contradiction | (simp_all; done)
  refine way_need claim_n14 (fun h7 => ?_) (fun h7 => ?_)
  · skip
    refine way_leaf claim_n15 ?_
    refine ⟨rfl, ?_⟩; simp only [nn] at *; (try simp only [G, xG60, xG62, xG63, xG64, xG67] at *); congr 1; rw [claim_alt]; unfold Ed.ok Ed.cross; dsimp only; (repeat' split) <;> first | rfl | (exfalso; omega) | contradiction | (simp_all; done)
  refine way_need claim_n16 (fun h8 => ?_) (fun h8 => ?_)
  · skip
    refine way_leaf claim_n17 ?_
    refine ⟨rfl, ?_⟩; simp only [nn] at *; (try simp only [G, xG60, xG62, xG63, xG64, xG67] at *); congr 1; rw [claim_alt]; unfold Ed.ok Ed.cross; dsimp only; (repeat' split) <;> first | rfl | (exfalso; omega) | contradiction | (simp_all; done)
  refine way_need claim_n18 (fun h9 => ?_) (fun h9 => ?_)
  · skip
    refine way_leaf claim_n19 ?_
    refine ⟨rfl, ?_⟩; simp only [nn] at *; (try simp only [G, xG60, xG62, xG63, xG64, xG67] at *); congr 1; rw [claim_alt]; unfold Ed.ok Ed.cross; dsimp only; (repeat' split) <;> first | rfl | (exfalso; omega) | contradiction | (simp_all; done)
  refine way_need claim_n20 (fun h10 => ?_) (fun h10 => ?_)
  · skip
    refine way_leaf claim_n21 ?_
    refine ⟨rfl, ?_⟩; simp only [nn] at *; (try simp only [G, xG60, xG62, xG63, xG64, xG67] at *); congr 1; rw [claim_alt]; unfold Ed.ok Ed.cross; dsimp only; (repeat' split) <;> first | rfl | (exfalso; omega) | contradiction | (simp_all; done)
  refine way_need claim_n22 (fun h11 => ?_) (fun h11 => ?_)
  · skip
    refine way_leaf claim_n23 ?_
    refine ⟨rfl, ?_⟩; simp only [nn] at *; (try simp only [G, xG60, xG62, xG63, xG64, xG67] at *); congr 1; rw [claim_alt]; unfold Ed.ok Ed.cross; dsimp only; (repeat' split) <;> first | rfl | (exfalso; omega) | contradiction | (simp_all; done)
  refine way_leaf claim_n24 ?_
  refine ⟨rfl, ?_⟩; simp only [nn] at *; (try simp only [G, xG60, xG62, xG63, xG64, xG67] at *); congr 1; rw [claim_alt]; unfold Ed.ok Ed.cross; dsimp only; (repeat' split) <;> first | rfl | (exfalso; omega) | contradiction | (simp_all; done)
def claim_entry : Entry := fun X args =>
  match args with
  | [(.agg [.int .i64 a0, .int .i64 a1, .int .i64 a2, .int .i64 a3, .int .i64 a4, .int .i64 a5]), (.agg [.int .i64 a6, .int .i64 a7])] => if a0.fits X .i64 && a1.fits X .i64 && a2.fits X .i64 && a3.fits X .i64 && a4.fits X .i64 && a5.fits X .i64 && a6.fits X .i64 && a7.fits X .i64 then .ok (.int .i64 (.app 63 (.cons a0 (.cons a1 (.cons a2 (.cons a3 (.cons a4 (.cons a5 (.cons a6 (.cons a7 .nil)))))))))) else .fail 200
  | _ => .fail 201
theorem claim_ok {X : Ctx} {ρ : Nat → Int} (hX : X.Ok ρ) (hG : X.G = G) : EntryOk Try.prog X ρ GB 13 claim_entry := by
  obtain ⟨XG, XI, XV, XF⟩ := X
  simp only at hG
  subst hG
  intro args s h α w vals hv hw
  unfold claim_entry at h
  split at h
  · split at h
    · rename_i hg
      try simp only [Bool.and_eq_true] at hg
      obtain ⟨⟨⟨⟨⟨⟨⟨g0, g1⟩, g2⟩, g3⟩, g4⟩, g5⟩, g6⟩, g7⟩ := hg
      cases h
      exact entry_calls hv rfl rfl (claim_any _ _ _ _ _ _ _ _ (E.fits_in hX g0) (E.fits_in hX g1) (E.fits_in hX g2) (E.fits_in hX g3) (E.fits_in hX g4) (E.fits_in hX g5) (E.fits_in hX g6) (E.fits_in hX g7) w hw)
    · cases h
  · cases h
set_option maxRecDepth 100000 in
theorem wt_any (x0 x1 x2 x3 x4 x5 x6 x7 : Int) (b0 : (-9223372036854775808) ≤ x0 ∧ x0 ≤ 9223372036854775807) (b1 : (-9223372036854775808) ≤ x1 ∧ x1 ≤ 9223372036854775807) (b2 : (-9223372036854775808) ≤ x2 ∧ x2 ≤ 9223372036854775807) (b3 : (-9223372036854775808) ≤ x3 ∧ x3 ≤ 9223372036854775807) (b4 : (-9223372036854775808) ≤ x4 ∧ x4 ≤ 9223372036854775807) (b5 : (-9223372036854775808) ≤ x5 ∧ x5 ≤ 9223372036854775807) (b6 : (-9223372036854775808) ≤ x6 ∧ x6 ≤ 9223372036854775807) (b7 : (-9223372036854775808) ≤ x7 ∧ x7 ≤ 9223372036854775807) (w : World) (hw : WOk GB w) : Known Try.prog 16 ∧ Calls Try.prog 16 #[(.agg #[.int .i64 x0, .int .i64 x1, .int .i64 x2, .int .i64 x3, .int .i64 x4, .int .i64 x5]), (.agg #[.int .i64 x6, .int .i64 x7])] w (fun e w' => e = .returned (.agg #[.int .i64 (xG64 0 [x0, x1, x2, x3, x4, x5, x6, x7]), .int .i64 (xG64 1 [x0, x1, x2, x3, x4, x5, x6, x7]), .int .i64 (xG64 2 [x0, x1, x2, x3, x4, x5, x6, x7])]) ∧ Below w.heap.size w w') := by
  refine calls_eq (way_calls3 (ρ := rho [x0, x1, x2, x3, x4, x5, x6, x7]) (run := fun fs => wt_R Try.prog fs) (fun _ => rfl) fits (within_get ⟨b0, b1, b2, b3, b4, b5, b6, b7, trivial⟩) gi_ok (fun X hX hG => ct_sd_ok hX hG) rfl rfl gbApart_nil ?_ w hw)
  refine way_need wt_n0 (fun h0 => ?_) (fun h0 => ?_)
  · skip
    refine way_leaf wt_n1 ?_
    refine ⟨rfl, ?_⟩; simp only [nn] at *; (try simp only [G, xG60, xG62, xG63, xG64, xG67] at *); first | (have hk : ¬ okAt ⟨x0, x1⟩ ⟨x2, x3⟩ ⟨x4, x5⟩ ⟨x6, x7⟩ := (by unfold okAt Ed.ok; dsimp only; omega); simp only [wt, if_neg hk]) | (have hk : okAt ⟨x0, x1⟩ ⟨x2, x3⟩ ⟨x4, x5⟩ ⟨x6, x7⟩ := (by unfold okAt Ed.ok; dsimp only; omega); simp only [wt, if_pos hk, Ed.cross]; rfl)
  refine way_need wt_n2 (fun h1 => ?_) (fun h1 => ?_)
  · skip
    refine way_leaf wt_n3 ?_
    refine ⟨rfl, ?_⟩; simp only [nn] at *; (try simp only [G, xG60, xG62, xG63, xG64, xG67] at *); first | (have hk : ¬ okAt ⟨x0, x1⟩ ⟨x2, x3⟩ ⟨x4, x5⟩ ⟨x6, x7⟩ := (by unfold okAt Ed.ok; dsimp only; omega); simp only [wt, if_neg hk]) | (have hk : okAt ⟨x0, x1⟩ ⟨x2, x3⟩ ⟨x4, x5⟩ ⟨x6, x7⟩ := (by unfold okAt Ed.ok; dsimp only; omega); simp only [wt, if_pos hk, Ed.cross]; rfl)
  refine way_need wt_n4 (fun h2 => ?_) (fun h2 => ?_)
  · skip
    refine way_leaf wt_n5 ?_
    refine ⟨rfl, ?_⟩; simp only [nn] at *; (try simp only [G, xG60, xG62, xG63, xG64, xG67] at *); first | (have hk : ¬ okAt ⟨x0, x1⟩ ⟨x2, x3⟩ ⟨x4, x5⟩ ⟨x6, x7⟩ := (by unfold okAt Ed.ok; dsimp only; omega); simp only [wt, if_neg hk]) | (have hk : okAt ⟨x0, x1⟩ ⟨x2, x3⟩ ⟨x4, x5⟩ ⟨x6, x7⟩ := (by unfold okAt Ed.ok; dsimp only; omega); simp only [wt, if_pos hk, Ed.cross]; rfl)
  refine way_need wt_n6 (fun h3 => ?_) (fun h3 => ?_)
  · skip
    refine way_leaf wt_n7 ?_
    refine ⟨rfl, ?_⟩; simp only [nn] at *; (try simp only [G, xG60, xG62, xG63, xG64, xG67] at *); first | (have hk : ¬ okAt ⟨x0, x1⟩ ⟨x2, x3⟩ ⟨x4, x5⟩ ⟨x6, x7⟩ := (by unfold okAt Ed.ok; dsimp only; omega); simp only [wt, if_neg hk]) | (have hk : okAt ⟨x0, x1⟩ ⟨x2, x3⟩ ⟨x4, x5⟩ ⟨x6, x7⟩ := (by unfold okAt Ed.ok; dsimp only; omega); simp only [wt, if_pos hk, Ed.cross]; rfl)
  refine way_need wt_n8 (fun h4 => ?_) (fun h4 => ?_)
  · skip
    refine way_leaf wt_n9 ?_
    refine ⟨rfl, ?_⟩; simp only [nn] at *; (try simp only [G, xG60, xG62, xG63, xG64, xG67] at *); first | (have hk : ¬ okAt ⟨x0, x1⟩ ⟨x2, x3⟩ ⟨x4, x5⟩ ⟨x6, x7⟩ := (by unfold okAt Ed.ok; dsimp only; omega); simp only [wt, if_neg hk]) | (have hk : okAt ⟨x0, x1⟩ ⟨x2, x3⟩ ⟨x4, x5⟩ ⟨x6, x7⟩ := (by unfold okAt Ed.ok; dsimp only; omega); simp only [wt, if_pos hk, Ed.cross]; rfl)
  refine way_need wt_n10 (fun h5 => ?_) (fun h5 => ?_)
  · skip
    refine way_leaf wt_n11 ?_
    refine ⟨rfl, ?_⟩; simp only [nn] at *; (try simp only [G, xG60, xG62, xG63, xG64, xG67] at *); first | (have hk : ¬ okAt ⟨x0, x1⟩ ⟨x2, x3⟩ ⟨x4, x5⟩ ⟨x6, x7⟩ := (by unfold okAt Ed.ok; dsimp only; omega); simp only [wt, if_neg hk]) | (have hk : okAt ⟨x0, x1⟩ ⟨x2, x3⟩ ⟨x4, x5⟩ ⟨x6, x7⟩ := (by unfold okAt Ed.ok; dsimp only; omega); simp only [wt, if_pos hk, Ed.cross]; rfl)
  refine way_need wt_n12 (fun h6 => ?_) (fun h6 => ?_)
  · skip
    refine way_leaf wt_n13 ?_
    refine ⟨rfl, ?_⟩; simp only [nn] at *; (try simp only [G, xG60, xG62, xG63, xG64, xG67] at *); first | (have hk : ¬ okAt ⟨x0, x1⟩ ⟨x2, x3⟩ ⟨x4, x5⟩ ⟨x6, x7⟩ := (by unfold okAt Ed.ok; dsimp only; omega); simp only [wt, if_neg hk]) | (have hk : okAt ⟨x0, x1⟩ ⟨x2, x3⟩ ⟨x4, x5⟩ ⟨x6, x7⟩ := (by unfold okAt Ed.ok; dsimp only; omega); simp only [wt, if_pos hk, Ed.cross]; rfl)
  refine way_need wt_n14 (fun h7 => ?_) (fun h7 => ?_)
  · skip
    refine way_leaf wt_n15 ?_
    refine ⟨rfl, ?_⟩; simp only [nn] at *; (try simp only [G, xG60, xG62, xG63, xG64, xG67] at *); first | (have hk : ¬ okAt ⟨x0, x1⟩ ⟨x2, x3⟩ ⟨x4, x5⟩ ⟨x6, x7⟩ := (by unfold okAt Ed.ok; dsimp only; omega); simp only [wt, if_neg hk]) | (have hk : okAt ⟨x0, x1⟩ ⟨x2, x3⟩ ⟨x4, x5⟩ ⟨x6, x7⟩ := (by unfold okAt Ed.ok; dsimp only; omega); simp only [wt, if_pos hk, Ed.cross]; rfl)
  refine way_leaf wt_n16 ?_
  refine ⟨rfl, ?_⟩; simp only [nn] at *; (try simp only [G, xG60, xG62, xG63, xG64, xG67] at *); first | (have hk : ¬ okAt ⟨x0, x1⟩ ⟨x2, x3⟩ ⟨x4, x5⟩ ⟨x6, x7⟩ := (by unfold okAt Ed.ok; dsimp only; omega); simp only [wt, if_neg hk]) | (have hk : okAt ⟨x0, x1⟩ ⟨x2, x3⟩ ⟨x4, x5⟩ ⟨x6, x7⟩ := (by unfold okAt Ed.ok; dsimp only; omega); simp only [wt, if_pos hk, Ed.cross]; rfl)
def wt_entry : Entry := fun X args =>
  match args with
  | [(.agg [.int .i64 a0, .int .i64 a1, .int .i64 a2, .int .i64 a3, .int .i64 a4, .int .i64 a5]), (.agg [.int .i64 a6, .int .i64 a7])] => if a0.fits X .i64 && a1.fits X .i64 && a2.fits X .i64 && a3.fits X .i64 && a4.fits X .i64 && a5.fits X .i64 && a6.fits X .i64 && a7.fits X .i64 then .ok (.agg [.int .i64 (.app 64 (.cons a0 (.cons a1 (.cons a2 (.cons a3 (.cons a4 (.cons a5 (.cons a6 (.cons a7 .nil))))))))), .int .i64 (.app 65 (.cons a0 (.cons a1 (.cons a2 (.cons a3 (.cons a4 (.cons a5 (.cons a6 (.cons a7 .nil))))))))), .int .i64 (.app 66 (.cons a0 (.cons a1 (.cons a2 (.cons a3 (.cons a4 (.cons a5 (.cons a6 (.cons a7 .nil)))))))))]) else .fail 200
  | _ => .fail 201
theorem wt_ok {X : Ctx} {ρ : Nat → Int} (hX : X.Ok ρ) (hG : X.G = G) : EntryOk Try.prog X ρ GB 16 wt_entry := by
  obtain ⟨XG, XI, XV, XF⟩ := X
  simp only at hG
  subst hG
  intro args s h α w vals hv hw
  unfold wt_entry at h
  split at h
  · split at h
    · rename_i hg
      try simp only [Bool.and_eq_true] at hg
      obtain ⟨⟨⟨⟨⟨⟨⟨g0, g1⟩, g2⟩, g3⟩, g4⟩, g5⟩, g6⟩, g7⟩ := hg
      cases h
      exact entry_calls hv rfl rfl (wt_any _ _ _ _ _ _ _ _ (E.fits_in hX g0) (E.fits_in hX g1) (E.fits_in hX g2) (E.fits_in hX g3) (E.fits_in hX g4) (E.fits_in hX g5) (E.fits_in hX g6) (E.fits_in hX g7) w hw)
    · cases h
  · cases h
def ct_claim : Contracts := ctCons 13 claim_entry ct_sd
theorem ct_claim_ok {X : Ctx} {ρ : Nat → Int} (hX : X.Ok ρ) (hG : X.G = G) : CtOk Try.prog X ρ GB ct_claim := ctCons_ok (claim_ok hX hG) (ct_sd_ok hX hG)
def ct_wt : Contracts := ctCons 16 wt_entry ct_claim
theorem ct_wt_ok {X : Ctx} {ρ : Nat → Int} (hX : X.Ok ρ) (hG : X.G = G) : CtOk Try.prog X ρ GB ct_wt := ctCons_ok (wt_ok hX hG) (ct_claim_ok hX hG)
theorem lex_lt {x y : Int} (h : x < y) : xG67 [hi x, lo x, hi y, lo y] = -1 := by
  unfold hi lo; simp only [xG67]
  by_cases a : x / 18446744073709551616 < y / 18446744073709551616
  · rw [if_pos a]
  · rw [if_neg a, if_neg (by omega), if_pos (by omega)]
theorem lex_eq (x : Int) : xG67 [hi x, lo x, hi x, lo x] = 0 := by
  simp only [xG67]
  rw [if_neg (by omega), if_neg (by omega), if_neg (by omega), if_neg (by omega)]
theorem lex_gt {x y : Int} (h : y < x) : xG67 [hi x, lo x, hi y, lo y] = 1 := by
  unfold hi lo; simp only [xG67]
  by_cases a : y / 18446744073709551616 < x / 18446744073709551616
  · rw [if_neg (by omega), if_pos a]
  · rw [if_neg (by omega), if_neg a, if_neg (by omega), if_pos (by omega)]
theorem lex_sg (x y : Int) : xG67 [hi x, lo x, hi y, lo y] = xG60 [x - y] := by
  rcases Int.lt_trichotomy x y with h | h | h
  · rw [lex_lt h]; simp only [xG60]; unfold Ed.sg; rw [if_pos (by omega)]
  · subst h; rw [lex_eq]; simp only [xG60]; unfold Ed.sg; rw [if_neg (by omega), if_neg (by omega)]
  · rw [lex_gt h]; simp only [xG60]; unfold Ed.sg; rw [if_neg (by omega), if_pos (by omega)]
def wside (f : E) : Option Bool :=
  match f with
  | .lit n => some (decide (0 ≤ n))
  | _ => none
def wcmp2_entry : Entry := fun X args =>
  match args with
  | [.agg [.int .i64 a, .int .u64 b], .agg [.int .i64 c, .int .u64 d]] => match wide? X a b, wide? X c d with
    | some e, some f => if bigE X e && bigE X f then match wside f with
        | some true => (Res.test X (.cmp .lt f e)).bind fun u => if u then .ok (.int .i64 (.lit 1)) else .ok (.int .i64 (.app 60 (.cons (.op .sub e f) .nil)))
        | some false => (Res.test X (.cmp .lt e f)).bind fun t => if t then .ok (.int .i64 (.lit (-1))) else .ok (.int .i64 (.app 60 (.cons (.op .sub e f) .nil)))
        | none => (Res.test X (.cmp .lt e f)).bind fun t => if t then .ok (.int .i64 (.lit (-1))) else (Res.test X (.cmp .lt f e)).bind fun u => if u then .ok (.int .i64 (.lit 1)) else .ok (.int .i64 (.lit 0))
      else .fail 200
    | _, _ => .fail 202
  | _ => .fail 201
theorem wcmp2_ok {X : Ctx} {ρ : Nat → Int} (hX : X.Ok ρ) (hG : X.G = G) : EntryOk Try.prog X ρ GB 22 wcmp2_entry := by
  obtain ⟨XG, XI, XV, XF⟩ := X
  simp only at hG
  subst hG
  intro args s h α w vals hv hw
  unfold wcmp2_entry at h
  split at h
  · split at h
    · rename_i a b c d _ _ e f he hf
      split at h
      · rename_i hg
        simp only [Bool.and_eq_true] at hg
        obtain ⟨e1, e2⟩ := wide?_den hX rfl he
        obtain ⟨f1, f2⟩ := wide?_den hX rfl hf
        have be := bigE_in hX hg.1
        have bf := bigE_in hX hg.2
        have k := wcmp_any (hi (e.den G ρ)) (lo (e.den G ρ)) (hi (f.den G ρ)) (lo (f.den G ρ)) (hi_bd _ be) (by have := lo_word (e.den G ρ); unfold Word at this; omega) (hi_bd _ bf) (by have := lo_word (f.den G ρ); unfold Word at this; omega) w hw
        have ks : xG67 [hi (e.den G ρ), lo (e.den G ρ), hi (f.den G ρ), lo (f.den G ρ)] = xG60 [e.den G ρ - f.den G ρ] := lex_sg _ _
        split at h
        · obtain ⟨u, hu, h⟩ := Res.bind_ok h
          have hu := Res.test_ok hX hu
          cases u with
          | true =>
            simp only [if_true] at h
            have hgt : f.den G ρ < e.den G ρ := of_decide_eq_true hu
            rw [lex_gt hgt, ← e1, ← e2, ← f1, ← f2] at k
            cases h
            exact entry_calls hv rfl rfl k
          | false =>
            simp only [Bool.false_eq_true, if_false] at h
            rw [ks, ← e1, ← e2, ← f1, ← f2] at k
            cases h
            exact entry_calls hv rfl rfl k
        · obtain ⟨t, ht, h⟩ := Res.bind_ok h
          have ht := Res.test_ok hX ht
          cases t with
          | true =>
            simp only [if_true] at h
            have hlt : e.den G ρ < f.den G ρ := of_decide_eq_true ht
            rw [lex_lt hlt, ← e1, ← e2, ← f1, ← f2] at k
            cases h
            exact entry_calls hv rfl rfl k
          | false =>
            simp only [Bool.false_eq_true, if_false] at h
            rw [ks, ← e1, ← e2, ← f1, ← f2] at k
            cases h
            exact entry_calls hv rfl rfl k
        · skip
          obtain ⟨t, ht, h⟩ := Res.bind_ok h
          have ht := Res.test_ok hX ht
          cases t with
          | true =>
            simp only [if_true] at h
            have hlt : e.den G ρ < f.den G ρ := of_decide_eq_true ht
            rw [lex_lt hlt, ← e1, ← e2, ← f1, ← f2] at k
            cases h
            exact entry_calls hv rfl rfl k
          | false =>
            simp only [Bool.false_eq_true, if_false] at h
            have hge : ¬ e.den G ρ < f.den G ρ := of_decide_eq_false ht
            obtain ⟨u, hu, h⟩ := Res.bind_ok h
            have hu := Res.test_ok hX hu
            cases u with
            | true =>
              simp only [if_true] at h
              have hgt : f.den G ρ < e.den G ρ := of_decide_eq_true hu
              rw [lex_gt hgt, ← e1, ← e2, ← f1, ← f2] at k
              cases h
              exact entry_calls hv rfl rfl k
            | false =>
              simp only [Bool.false_eq_true, if_false] at h
              have hle : ¬ f.den G ρ < e.den G ρ := of_decide_eq_false hu
              have heq : e.den G ρ = f.den G ρ := by omega
              have hz := lex_eq (e.den G ρ)
              have hz' : xG67 [hi (e.den G ρ), lo (e.den G ρ), hi (f.den G ρ), lo (f.den G ρ)] = 0 := by rw [← heq]; exact hz
              rw [hz', ← e1, ← e2, ← f1, ← f2] at k
              cases h
              exact entry_calls hv rfl rfl k
      · cases h
    · cases h
  · cases h
def ct_cw : Contracts := ctCons 22 wcmp2_entry ct_wt
theorem ct_cw_ok {X : Ctx} {ρ : Nat → Int} (hX : X.Ok ρ) (hG : X.G = G) : CtOk Try.prog X ρ GB ct_cw := ctCons_ok (wcmp2_ok hX hG) (ct_wt_ok hX hG)
end Go.Proofs.Ytoiecphddchknaa
