/- What is proved: the run of a function over its ways, and what is known on each. No condition. -/
import Derived.Test.YtnhhphdhkgjbhaaQg9
import Derived.Test.YtnhhphdhkgjbhaaQg2
import Derived.Test.YtnhhphdhkgjbhaaQg4
set_option linter.unusedSimpArgs false
set_option linter.unusedVariables false
set_option maxRecDepth 100000
namespace Go.Proofs.Ytnhhphdhkgjbhaa
open Go Go.RowKit Sx Wi
def ofc_R (P : Program) (fs : List B) : Res SV := withCtx G GI [((-9223372036854775808), 9223372036854775807)] fs (fun X => exFun P X GB ct_nearest 3000 26 [.int .i64 (.var 0)])
def ofc_f0 : List B := []
def ofc_b0 : B := (.cmp .lt (.var 0) (.lit 0))
def ofc_f1 : List B := grow ofc_b0 ++ ofc_f0
def ofc_f2 : List B := grow (B.neg ofc_b0) ++ ofc_f0
theorem ofc_n1 : ofc_R Try.prog ofc_f1 = .ok (.agg [(.int .i64 (.lit (-1))), (.int .u64 (.wrap .u64 (.var 0)))]) := by kernel_rfl
theorem ofc_n2 : ofc_R Try.prog ofc_f2 = .ok (.agg [(.int .i64 (.lit 0)), (.int .u64 (.var 0))]) := by kernel_rfl
end Go.Proofs.Ytnhhphdhkgjbhaa
set_option maxRecDepth 100000
namespace Go.Proofs.Ytnhhphdhkgjbhaa
open Go Go.RowKit Sx Wi
def intc_R (P : Program) (fs : List B) : Res SV := withCtx G GI [((-170141183460469231731687303715884105728), 170141183460469231731687303715884105727)] fs (fun X => exFun P X GB ct_nearest 3000 46 [.agg [.int .i64 (.app 0 (.cons (.var 0) .nil)), .int .u64 (.app 1 (.cons (.var 0) .nil))]])
def intc_f0 : List B := []
def intc_b0 : B := (.cmp .lt (.var 0) (.lit 0))
def intc_f1 : List B := grow intc_b0 ++ intc_f0
def intc_b1 : B := (.cmp .lt (.op .sub (.lit 0) (.var 0)) (.lit 9223372036854775808))
def intc_f2 : List B := grow intc_b1 ++ intc_f1
def intc_f3 : List B := grow (B.neg intc_b1) ++ intc_f1
def intc_b3 : B := (.cmp .lt (.lit 9223372036854775808) (.op .sub (.lit 0) (.var 0)))
def intc_f4 : List B := grow intc_b3 ++ intc_f3
def intc_f5 : List B := grow (B.neg intc_b3) ++ intc_f3
def intc_f6 : List B := grow (B.neg intc_b0) ++ intc_f0
def intc_b6 : B := (.cmp .lt (.var 0) (.lit 9223372036854775807))
def intc_f7 : List B := grow intc_b6 ++ intc_f6
def intc_f8 : List B := grow (B.neg intc_b6) ++ intc_f6
def intc_b8 : B := (.cmp .lt (.lit 9223372036854775807) (.var 0))
def intc_f9 : List B := grow intc_b8 ++ intc_f8
def intc_f10 : List B := grow (B.neg intc_b8) ++ intc_f8
theorem intc_n2 : intc_R Try.prog intc_f2 = .ok (.tuple [(.int .i64 (.wrap .i64 (.app 1 (.cons (.var 0) .nil)))), (.bool (.lit true))]) := by kernel_rfl
theorem intc_n4 : intc_R Try.prog intc_f4 = .ok (.tuple [(.int .i64 (.lit 0)), (.bool (.lit false))]) := by kernel_rfl
theorem intc_n5 : intc_R Try.prog intc_f5 = .ok (.tuple [(.int .i64 (.wrap .i64 (.app 1 (.cons (.var 0) .nil)))), (.bool (.lit true))]) := by kernel_rfl
theorem intc_n7 : intc_R Try.prog intc_f7 = .ok (.tuple [(.int .i64 (.app 1 (.cons (.var 0) .nil))), (.bool (.lit true))]) := by kernel_rfl
theorem intc_n9 : intc_R Try.prog intc_f9 = .ok (.tuple [(.int .i64 (.lit 0)), (.bool (.lit false))]) := by kernel_rfl
theorem intc_n10 : intc_R Try.prog intc_f10 = .ok (.tuple [(.int .i64 (.app 1 (.cons (.var 0) .nil))), (.bool (.lit true))]) := by kernel_rfl
end Go.Proofs.Ytnhhphdhkgjbhaa
set_option maxRecDepth 100000
namespace Go.Proofs.Ytnhhphdhkgjbhaa
open Go Go.RowKit Sx Wi
def addc_R (P : Program) (fs : List B) : Res SV := withCtx G GI [((-85070591730234615865843651857942052864), 85070591730234615865843651857942052864), ((-85070591730234615865843651857942052864), 85070591730234615865843651857942052864)] fs (fun X => exFun P X GB ct_nearest 3000 29 [.agg [.int .i64 (.app 0 (.cons (.var 0) .nil)), .int .u64 (.app 1 (.cons (.var 0) .nil))], .agg [.int .i64 (.app 0 (.cons (.var 1) .nil)), .int .u64 (.app 1 (.cons (.var 1) .nil))]])
def addc_f0 : List B := []
def addc_b0 : B := (.cmp .lt (.var 0) (.lit 0))
def addc_f1 : List B := grow addc_b0 ++ addc_f0
def addc_b1 : B := (.cmp .lt (.var 1) (.lit 0))
def addc_f2 : List B := grow addc_b1 ++ addc_f1
def addc_f3 : List B := grow (B.neg addc_b1) ++ addc_f1
def addc_b3 : B := (.cmp .lt (.op .sub (.lit 0) (.var 0)) (.var 1))
def addc_f4 : List B := grow addc_b3 ++ addc_f3
def addc_b4 : B := (.cmp .le (.lit 0) (.op .sub (.var 1) (.op .sub (.lit 0) (.var 0))))
def addc_f5 : List B := grow addc_b4 ++ addc_f4
def addc_f6 : List B := grow (B.neg addc_b4) ++ addc_f4
def addc_f7 : List B := grow (B.neg addc_b3) ++ addc_f3
def addc_b7 : B := (.cmp .lt (.var 1) (.op .sub (.lit 0) (.var 0)))
def addc_f8 : List B := grow addc_b7 ++ addc_f7
def addc_b8 : B := (.cmp .le (.lit 0) (.op .sub (.op .sub (.lit 0) (.var 0)) (.var 1)))
def addc_f9 : List B := grow addc_b8 ++ addc_f8
def addc_f10 : List B := grow (B.neg addc_b8) ++ addc_f8
def addc_f11 : List B := grow (B.neg addc_b7) ++ addc_f7
def addc_b11 : B := (.cmp .le (.lit 0) (.op .sub (.op .sub (.lit 0) (.var 0)) (.var 1)))
def addc_f12 : List B := grow addc_b11 ++ addc_f11
def addc_f13 : List B := grow (B.neg addc_b11) ++ addc_f11
def addc_f14 : List B := grow (B.neg addc_b0) ++ addc_f0
def addc_b14 : B := (.cmp .lt (.var 1) (.lit 0))
def addc_f15 : List B := grow addc_b14 ++ addc_f14
def addc_b15 : B := (.cmp .lt (.var 0) (.op .sub (.lit 0) (.var 1)))
def addc_f16 : List B := grow addc_b15 ++ addc_f15
def addc_b16 : B := (.cmp .le (.lit 0) (.op .sub (.op .sub (.lit 0) (.var 1)) (.var 0)))
def addc_f17 : List B := grow addc_b16 ++ addc_f16
def addc_f18 : List B := grow (B.neg addc_b16) ++ addc_f16
def addc_f19 : List B := grow (B.neg addc_b15) ++ addc_f15
def addc_b19 : B := (.cmp .lt (.op .sub (.lit 0) (.var 1)) (.var 0))
def addc_f20 : List B := grow addc_b19 ++ addc_f19
def addc_b20 : B := (.cmp .le (.lit 0) (.op .sub (.var 0) (.op .sub (.lit 0) (.var 1))))
def addc_f21 : List B := grow addc_b20 ++ addc_f20
def addc_f22 : List B := grow (B.neg addc_b20) ++ addc_f20
def addc_f23 : List B := grow (B.neg addc_b19) ++ addc_f19
def addc_b23 : B := (.cmp .le (.lit 0) (.op .sub (.var 0) (.op .sub (.lit 0) (.var 1))))
def addc_f24 : List B := grow addc_b23 ++ addc_f23
def addc_f25 : List B := grow (B.neg addc_b23) ++ addc_f23
def addc_f26 : List B := grow (B.neg addc_b14) ++ addc_f14
def addc_b26 : B := (.cmp .le (.op .add (.var 0) (.var 1)) (.lit 170141183460469231731687303715884105727))
def addc_f27 : List B := grow addc_b26 ++ addc_f26
def addc_f28 : List B := grow (B.neg addc_b26) ++ addc_f26
theorem addc_n2 : addc_R Try.prog addc_f2 = .ok (.tuple [(.agg [(.int .i64 (.app 0 (.cons (.op .sub (.lit 0) (.op .add (.op .sub (.lit 0) (.var 0)) (.op .sub (.lit 0) (.var 1)))) .nil))), (.int .u64 (.app 1 (.cons (.op .sub (.lit 0) (.op .add (.op .sub (.lit 0) (.var 0)) (.op .sub (.lit 0) (.var 1)))) .nil)))]), (.int .i64 (.lit 0))]) := by kernel_rfl
theorem addc_n5 : addc_R Try.prog addc_f5 = .ok (.tuple [(.agg [(.int .i64 (.app 0 (.cons (.op .sub (.var 1) (.op .sub (.lit 0) (.var 0))) .nil))), (.int .u64 (.app 1 (.cons (.op .sub (.var 1) (.op .sub (.lit 0) (.var 0))) .nil)))]), (.int .i64 (.lit 0))]) := by kernel_rfl
theorem addc_n9 : addc_R Try.prog addc_f9 = .ok (.tuple [(.agg [(.int .i64 (.app 0 (.cons (.op .sub (.lit 0) (.op .sub (.op .sub (.lit 0) (.var 0)) (.var 1))) .nil))), (.int .u64 (.app 1 (.cons (.op .sub (.lit 0) (.op .sub (.op .sub (.lit 0) (.var 0)) (.var 1))) .nil)))]), (.int .i64 (.lit 0))]) := by kernel_rfl
theorem addc_n12 : addc_R Try.prog addc_f12 = .ok (.tuple [(.agg [(.int .i64 (.app 0 (.cons (.op .sub (.lit 0) (.op .sub (.op .sub (.lit 0) (.var 0)) (.var 1))) .nil))), (.int .u64 (.app 1 (.cons (.op .sub (.lit 0) (.op .sub (.op .sub (.lit 0) (.var 0)) (.var 1))) .nil)))]), (.int .i64 (.lit 0))]) := by kernel_rfl
theorem addc_n17 : addc_R Try.prog addc_f17 = .ok (.tuple [(.agg [(.int .i64 (.app 0 (.cons (.op .sub (.lit 0) (.op .sub (.op .sub (.lit 0) (.var 1)) (.var 0))) .nil))), (.int .u64 (.app 1 (.cons (.op .sub (.lit 0) (.op .sub (.op .sub (.lit 0) (.var 1)) (.var 0))) .nil)))]), (.int .i64 (.lit 0))]) := by kernel_rfl
theorem addc_n21 : addc_R Try.prog addc_f21 = .ok (.tuple [(.agg [(.int .i64 (.app 0 (.cons (.op .sub (.var 0) (.op .sub (.lit 0) (.var 1))) .nil))), (.int .u64 (.app 1 (.cons (.op .sub (.var 0) (.op .sub (.lit 0) (.var 1))) .nil)))]), (.int .i64 (.lit 0))]) := by kernel_rfl
theorem addc_n24 : addc_R Try.prog addc_f24 = .ok (.tuple [(.agg [(.int .i64 (.app 0 (.cons (.op .sub (.var 0) (.op .sub (.lit 0) (.var 1))) .nil))), (.int .u64 (.app 1 (.cons (.op .sub (.var 0) (.op .sub (.lit 0) (.var 1))) .nil)))]), (.int .i64 (.lit 0))]) := by kernel_rfl
theorem addc_n27 : addc_R Try.prog addc_f27 = .ok (.tuple [(.agg [(.int .i64 (.app 0 (.cons (.op .add (.var 0) (.var 1)) .nil))), (.int .u64 (.app 1 (.cons (.op .add (.var 0) (.var 1)) .nil)))]), (.int .i64 (.lit 0))]) := by kernel_rfl
theorem addc_n28 : addc_R Try.prog addc_f28 = .ok (.tuple [(.agg [(.int .i64 (.lit 0)), (.int .u64 (.lit 0))]), (.int .i64 (.lit 11))]) := by kernel_rfl
end Go.Proofs.Ytnhhphdhkgjbhaa
set_option maxRecDepth 100000
namespace Go.Proofs.Ytnhhphdhkgjbhaa
open Go Go.RowKit Sx Wi
def nearc_R (P : Program) (fs : List B) : Res SV := withCtx G GI [((-85070591730234615865843651857942052864), 85070591730234615865843651857942052864), ((-9223372036854775808), 9223372036854775807)] fs (fun X => exFun P X GB ct_nearest 3000 45 [.agg [.int .i64 (.app 0 (.cons (.var 0) .nil)), .int .u64 (.app 1 (.cons (.var 0) .nil))], .int .i64 (.var 1)])
def nearc_f0 : List B := []
def nearc_b0 : B := (.cmp .lt (.var 1) (.lit 1))
def nearc_f1 : List B := grow nearc_b0 ++ nearc_f0
def nearc_f2 : List B := grow (B.neg nearc_b0) ++ nearc_f0
def nearc_b2 : B := (.cmp .lt (.var 0) (.lit 0))
def nearc_f3 : List B := grow nearc_b2 ++ nearc_f2
def nearc_b3 : B := (.cmp .le (.op .add (.op .mul (.lit 2) (.op .sub (.lit 0) (.op .sub (.lit 0) (.var 0)))) (.var 1)) (.lit 0))
def nearc_f4 : List B := grow nearc_b3 ++ nearc_f3
def nearc_f5 : List B := grow (B.neg nearc_b3) ++ nearc_f3
def nearc_f6 : List B := grow (B.neg nearc_b2) ++ nearc_f2
theorem nearc_n1 : nearc_R Try.prog nearc_f1 = .ok (.tuple [(.agg [(.int .i64 (.lit 0)), (.int .u64 (.lit 0))]), (.int .i64 (.lit 1))]) := by kernel_rfl
theorem nearc_n4 : nearc_R Try.prog nearc_f4 = .ok (.tuple [(.agg [(.int .i64 (.app 0 (.cons (.op .sub (.lit 0) (.op .max (.app 2 (.cons (.op .sub (.lit 0) (.op .sub (.lit 0) (.var 0))) (.cons (.var 1) .nil))) (.op .sub (.lit 0) (.app 2 (.cons (.op .sub (.lit 0) (.op .sub (.lit 0) (.var 0))) (.cons (.var 1) .nil)))))) .nil))), (.int .u64 (.app 1 (.cons (.op .sub (.lit 0) (.op .max (.app 2 (.cons (.op .sub (.lit 0) (.op .sub (.lit 0) (.var 0))) (.cons (.var 1) .nil))) (.op .sub (.lit 0) (.app 2 (.cons (.op .sub (.lit 0) (.op .sub (.lit 0) (.var 0))) (.cons (.var 1) .nil)))))) .nil)))]), (.int .i64 (.lit 0))]) := by kernel_rfl
theorem nearc_n5 : nearc_R Try.prog nearc_f5 = .ok (.tuple [(.agg [(.int .i64 (.app 0 (.cons (.op .max (.app 2 (.cons (.op .sub (.lit 0) (.op .sub (.lit 0) (.var 0))) (.cons (.var 1) .nil))) (.op .sub (.lit 0) (.app 2 (.cons (.op .sub (.lit 0) (.op .sub (.lit 0) (.var 0))) (.cons (.var 1) .nil))))) .nil))), (.int .u64 (.app 1 (.cons (.op .max (.app 2 (.cons (.op .sub (.lit 0) (.op .sub (.lit 0) (.var 0))) (.cons (.var 1) .nil))) (.op .sub (.lit 0) (.app 2 (.cons (.op .sub (.lit 0) (.op .sub (.lit 0) (.var 0))) (.cons (.var 1) .nil))))) .nil)))]), (.int .i64 (.lit 0))]) := by kernel_rfl
theorem nearc_n6 : nearc_R Try.prog nearc_f6 = .ok (.tuple [(.agg [(.int .i64 (.app 0 (.cons (.op .max (.app 2 (.cons (.var 0) (.cons (.var 1) .nil))) (.op .sub (.lit 0) (.app 2 (.cons (.var 0) (.cons (.var 1) .nil))))) .nil))), (.int .u64 (.app 1 (.cons (.op .max (.app 2 (.cons (.var 0) (.cons (.var 1) .nil))) (.op .sub (.lit 0) (.app 2 (.cons (.var 0) (.cons (.var 1) .nil))))) .nil)))]), (.int .i64 (.lit 0))]) := by kernel_rfl
end Go.Proofs.Ytnhhphdhkgjbhaa
namespace Go.Proofs.Ytnhhphdhkgjbhaa
open Go Go.RowKit Sx Nu Wi
set_option maxHeartbeats 4000000 in
set_option maxRecDepth 100000 in
theorem ofc_any (x0 : Int) (b0 : (-9223372036854775808) ≤ x0 ∧ x0 ≤ 9223372036854775807) (w : World) (hw : WOk GB w) : Known Try.prog 26 ∧ Calls Try.prog 26 #[.int .i64 x0] w (fun e w' => e = .returned (.agg #[.int .i64 (hi x0), .int .u64 (lo x0)]) ∧ Below w.heap.size w w') := by
  refine calls_eq (way_calls3 (ρ := rho [x0]) (run := ofc_R Try.prog) (fun _ => rfl) (by kernel_rfl) (within_get ⟨b0, trivial⟩) gi_ok (fun X hX hG => ct_nearest_ok hX hG) rfl rfl gbApart_nil ?_ w hw)
  refine way_cut (.cmp .lt (.var 0) (.lit 0)) (fun h0 => ?_) (fun h0 => ?_)
  · skip
    refine way_leaf ofc_n1 ?_
    refine ⟨rfl, ?_⟩; simp only [nm, digL, dgE, dgP, dgP1, List.cons_append, List.nil_append, List.append_nil] at *; rw [show hi x0 = -1 by unfold hi; omega, ← show IntKind.u64.wrap x0 = lo x0 from IntKind.wrap_u64 x0] <;> rfl
  refine way_leaf ofc_n2 ?_
  refine ⟨rfl, ?_⟩; simp only [nm, digL, dgE, dgP, dgP1, List.cons_append, List.nil_append, List.append_nil] at *; rw [show hi x0 = 0 by unfold hi; omega, show lo x0 = x0 by unfold lo; omega] <;> rfl
set_option maxHeartbeats 4000000 in
set_option maxRecDepth 100000 in
theorem intc_any (x0 : Int) (b0 : (-170141183460469231731687303715884105728) ≤ x0 ∧ x0 ≤ 170141183460469231731687303715884105727) (w : World) (hw : WOk GB w) : Known Try.prog 46 ∧ Calls Try.prog 46 #[.agg #[.int .i64 (hi x0), .int .u64 (lo x0)]] w (fun e w' => e = .returned ((if -9223372036854775808 ≤ x0 ∧ x0 ≤ 9223372036854775807 then .tuple #[.int .i64 x0, .bool true] else .tuple #[.int .i64 0, .bool false])) ∧ Below w.heap.size w w') := by
  refine calls_eq (way_calls3 (ρ := rho [x0]) (run := intc_R Try.prog) (fun _ => rfl) (by kernel_rfl) (within_get ⟨b0, trivial⟩) gi_ok (fun X hX hG => ct_nearest_ok hX hG) rfl rfl gbApart_nil ?_ w hw)
  refine way_cut (.cmp .lt (.var 0) (.lit 0)) (fun h0 => ?_) (fun h0 => ?_)
  · skip
    refine way_cut (.cmp .lt (.op .sub (.lit 0) (.var 0)) (.lit 9223372036854775808)) (fun h1 => ?_) (fun h1 => ?_)
    · skip
      refine way_leaf intc_n2 ?_
      refine ⟨rfl, ?_⟩; simp only [nm, digL, dgE, dgP, dgP1, List.cons_append, List.nil_append, List.append_nil] at *; rw [if_pos (by omega)]; rw [show IntKind.i64.wrap (lo x0) = x0 by simp only [IntKind.wrap_i64, lo]; omega] <;> rfl
    refine way_cut (.cmp .lt (.lit 9223372036854775808) (.op .sub (.lit 0) (.var 0))) (fun h2 => ?_) (fun h2 => ?_)
    · skip
      refine way_leaf intc_n4 ?_
      refine ⟨rfl, ?_⟩; simp only [nm, digL, dgE, dgP, dgP1, List.cons_append, List.nil_append, List.append_nil] at *; rw [if_neg (by omega)] <;> rfl
    refine way_leaf intc_n5 ?_
    refine ⟨rfl, ?_⟩; simp only [nm, digL, dgE, dgP, dgP1, List.cons_append, List.nil_append, List.append_nil] at *; rw [if_pos (by omega)]; rw [show IntKind.i64.wrap (lo x0) = x0 by simp only [IntKind.wrap_i64, lo]; omega] <;> rfl
  refine way_cut (.cmp .lt (.var 0) (.lit 9223372036854775807)) (fun h1 => ?_) (fun h1 => ?_)
  · skip
    refine way_leaf intc_n7 ?_
    refine ⟨rfl, ?_⟩; simp only [nm, digL, dgE, dgP, dgP1, List.cons_append, List.nil_append, List.append_nil] at *; rw [if_pos (by omega)]; rw [show lo x0 = x0 by unfold lo; omega] <;> rfl
  refine way_cut (.cmp .lt (.lit 9223372036854775807) (.var 0)) (fun h2 => ?_) (fun h2 => ?_)
  · skip
    refine way_leaf intc_n9 ?_
    refine ⟨rfl, ?_⟩; simp only [nm, digL, dgE, dgP, dgP1, List.cons_append, List.nil_append, List.append_nil] at *; rw [if_neg (by omega)] <;> rfl
  refine way_leaf intc_n10 ?_
  refine ⟨rfl, ?_⟩; simp only [nm, digL, dgE, dgP, dgP1, List.cons_append, List.nil_append, List.append_nil] at *; rw [if_pos (by omega)]; rw [show lo x0 = x0 by unfold lo; omega] <;> rfl
set_option maxHeartbeats 4000000 in
set_option maxRecDepth 100000 in
theorem addc_any (x0 x1 : Int) (b0 : (-85070591730234615865843651857942052864) ≤ x0 ∧ x0 ≤ 85070591730234615865843651857942052864) (b1 : (-85070591730234615865843651857942052864) ≤ x1 ∧ x1 ≤ 85070591730234615865843651857942052864) (w : World) (hw : WOk GB w) : Known Try.prog 29 ∧ Calls Try.prog 29 #[.agg #[.int .i64 (hi x0), .int .u64 (lo x0)], .agg #[.int .i64 (hi x1), .int .u64 (lo x1)]] w (fun e w' => e = .returned (tellV (x0 + x1)) ∧ Below w.heap.size w w') := by
  refine calls_eq (way_calls3 (ρ := rho [x0, x1]) (run := addc_R Try.prog) (fun _ => rfl) (by kernel_rfl) (within_get ⟨b0, b1, trivial⟩) gi_ok (fun X hX hG => ct_nearest_ok hX hG) rfl rfl gbApart_nil ?_ w hw)
  refine way_cut (.cmp .lt (.var 0) (.lit 0)) (fun h0 => ?_) (fun h0 => ?_)
  · skip
    refine way_cut (.cmp .lt (.var 1) (.lit 0)) (fun h1 => ?_) (fun h1 => ?_)
    · skip
      refine way_leaf addc_n2 ?_
      refine ⟨rfl, ?_⟩; have e : (0 - ((0 - x0) + (0 - x1))) = (x0 + x1) := (by omega); have r : -170141183460469231731687303715884105728 ≤ (x0 + x1) ∧ (x0 + x1) ≤ 170141183460469231731687303715884105727 := (by simp only [nm, digL, dgE, dgP, dgP1, List.cons_append, List.nil_append, List.append_nil] at *; omega); unfold tellV; rw [if_pos r]; show Value.tuple #[Value.agg #[Value.int .i64 (hi (0 - ((0 - x0) + (0 - x1)))), Value.int .u64 (lo (0 - ((0 - x0) + (0 - x1))))], Value.int .i64 0] = _; rw [e]
    refine way_cut (.cmp .lt (.op .sub (.lit 0) (.var 0)) (.var 1)) (fun h2 => ?_) (fun h2 => ?_)
    · skip
      refine way_cut (.cmp .le (.lit 0) (.op .sub (.var 1) (.op .sub (.lit 0) (.var 0)))) (fun h3 => ?_) (fun h3 => ?_)
      · skip
        refine way_leaf addc_n5 ?_
        refine ⟨rfl, ?_⟩; have e : (x1 - (0 - x0)) = (x0 + x1) := (by omega); have r : -170141183460469231731687303715884105728 ≤ (x0 + x1) ∧ (x0 + x1) ≤ 170141183460469231731687303715884105727 := (by simp only [nm, digL, dgE, dgP, dgP1, List.cons_append, List.nil_append, List.append_nil] at *; omega); unfold tellV; rw [if_pos r]; show Value.tuple #[Value.agg #[Value.int .i64 (hi (x1 - (0 - x0))), Value.int .u64 (lo (x1 - (0 - x0)))], Value.int .i64 0] = _; rw [e]
      refine way_bad ?_
      exfalso; simp only [nm, digL, dgE, dgP, dgP1, List.cons_append, List.nil_append, List.append_nil] at *; omega
    refine way_cut (.cmp .lt (.var 1) (.op .sub (.lit 0) (.var 0))) (fun h3 => ?_) (fun h3 => ?_)
    · skip
      refine way_cut (.cmp .le (.lit 0) (.op .sub (.op .sub (.lit 0) (.var 0)) (.var 1))) (fun h4 => ?_) (fun h4 => ?_)
      · skip
        refine way_leaf addc_n9 ?_
        refine ⟨rfl, ?_⟩; have e : (0 - ((0 - x0) - x1)) = (x0 + x1) := (by omega); have r : -170141183460469231731687303715884105728 ≤ (x0 + x1) ∧ (x0 + x1) ≤ 170141183460469231731687303715884105727 := (by simp only [nm, digL, dgE, dgP, dgP1, List.cons_append, List.nil_append, List.append_nil] at *; omega); unfold tellV; rw [if_pos r]; show Value.tuple #[Value.agg #[Value.int .i64 (hi (0 - ((0 - x0) - x1))), Value.int .u64 (lo (0 - ((0 - x0) - x1)))], Value.int .i64 0] = _; rw [e]
      refine way_bad ?_
      exfalso; simp only [nm, digL, dgE, dgP, dgP1, List.cons_append, List.nil_append, List.append_nil] at *; omega
    refine way_cut (.cmp .le (.lit 0) (.op .sub (.op .sub (.lit 0) (.var 0)) (.var 1))) (fun h4 => ?_) (fun h4 => ?_)
    · skip
      refine way_leaf addc_n12 ?_
      refine ⟨rfl, ?_⟩; have e : (0 - ((0 - x0) - x1)) = (x0 + x1) := (by omega); have r : -170141183460469231731687303715884105728 ≤ (x0 + x1) ∧ (x0 + x1) ≤ 170141183460469231731687303715884105727 := (by simp only [nm, digL, dgE, dgP, dgP1, List.cons_append, List.nil_append, List.append_nil] at *; omega); unfold tellV; rw [if_pos r]; show Value.tuple #[Value.agg #[Value.int .i64 (hi (0 - ((0 - x0) - x1))), Value.int .u64 (lo (0 - ((0 - x0) - x1)))], Value.int .i64 0] = _; rw [e]
    refine way_bad ?_
    exfalso; simp only [nm, digL, dgE, dgP, dgP1, List.cons_append, List.nil_append, List.append_nil] at *; omega
  refine way_cut (.cmp .lt (.var 1) (.lit 0)) (fun h1 => ?_) (fun h1 => ?_)
  rotate_left
  · skip
    refine way_cut (.cmp .le (.op .add (.var 0) (.var 1)) (.lit 170141183460469231731687303715884105727)) (fun h2 => ?_) (fun h2 => ?_)
    · skip
      refine way_leaf addc_n27 ?_
      refine ⟨rfl, ?_⟩; have e : (x0 + x1) = (x0 + x1) := (by omega); have r : -170141183460469231731687303715884105728 ≤ (x0 + x1) ∧ (x0 + x1) ≤ 170141183460469231731687303715884105727 := (by simp only [nm, digL, dgE, dgP, dgP1, List.cons_append, List.nil_append, List.append_nil] at *; omega); unfold tellV; rw [if_pos r]; show Value.tuple #[Value.agg #[Value.int .i64 (hi (x0 + x1)), Value.int .u64 (lo (x0 + x1))], Value.int .i64 0] = _; rw [e]
    refine way_leaf addc_n28 ?_
    refine ⟨rfl, ?_⟩; simp only [nm, digL, dgE, dgP, dgP1, List.cons_append, List.nil_append, List.append_nil] at *; unfold tellV; rw [if_neg (by omega)] <;> rfl
  refine way_cut (.cmp .lt (.var 0) (.op .sub (.lit 0) (.var 1))) (fun h2 => ?_) (fun h2 => ?_)
  · skip
    refine way_cut (.cmp .le (.lit 0) (.op .sub (.op .sub (.lit 0) (.var 1)) (.var 0))) (fun h3 => ?_) (fun h3 => ?_)
    · skip
      refine way_leaf addc_n17 ?_
      refine ⟨rfl, ?_⟩; have e : (0 - ((0 - x1) - x0)) = (x0 + x1) := (by omega); have r : -170141183460469231731687303715884105728 ≤ (x0 + x1) ∧ (x0 + x1) ≤ 170141183460469231731687303715884105727 := (by simp only [nm, digL, dgE, dgP, dgP1, List.cons_append, List.nil_append, List.append_nil] at *; omega); unfold tellV; rw [if_pos r]; show Value.tuple #[Value.agg #[Value.int .i64 (hi (0 - ((0 - x1) - x0))), Value.int .u64 (lo (0 - ((0 - x1) - x0)))], Value.int .i64 0] = _; rw [e]
    refine way_bad ?_
    exfalso; simp only [nm, digL, dgE, dgP, dgP1, List.cons_append, List.nil_append, List.append_nil] at *; omega
  refine way_cut (.cmp .lt (.op .sub (.lit 0) (.var 1)) (.var 0)) (fun h3 => ?_) (fun h3 => ?_)
  · skip
    refine way_cut (.cmp .le (.lit 0) (.op .sub (.var 0) (.op .sub (.lit 0) (.var 1)))) (fun h4 => ?_) (fun h4 => ?_)
    · skip
      refine way_leaf addc_n21 ?_
      refine ⟨rfl, ?_⟩; have e : (x0 - (0 - x1)) = (x0 + x1) := (by omega); have r : -170141183460469231731687303715884105728 ≤ (x0 + x1) ∧ (x0 + x1) ≤ 170141183460469231731687303715884105727 := (by simp only [nm, digL, dgE, dgP, dgP1, List.cons_append, List.nil_append, List.append_nil] at *; omega); unfold tellV; rw [if_pos r]; show Value.tuple #[Value.agg #[Value.int .i64 (hi (x0 - (0 - x1))), Value.int .u64 (lo (x0 - (0 - x1)))], Value.int .i64 0] = _; rw [e]
    refine way_bad ?_
    exfalso; simp only [nm, digL, dgE, dgP, dgP1, List.cons_append, List.nil_append, List.append_nil] at *; omega
  refine way_cut (.cmp .le (.lit 0) (.op .sub (.var 0) (.op .sub (.lit 0) (.var 1)))) (fun h4 => ?_) (fun h4 => ?_)
  · skip
    refine way_leaf addc_n24 ?_
    refine ⟨rfl, ?_⟩; have e : (x0 - (0 - x1)) = (x0 + x1) := (by omega); have r : -170141183460469231731687303715884105728 ≤ (x0 + x1) ∧ (x0 + x1) ≤ 170141183460469231731687303715884105727 := (by simp only [nm, digL, dgE, dgP, dgP1, List.cons_append, List.nil_append, List.append_nil] at *; omega); unfold tellV; rw [if_pos r]; show Value.tuple #[Value.agg #[Value.int .i64 (hi (x0 - (0 - x1))), Value.int .u64 (lo (x0 - (0 - x1)))], Value.int .i64 0] = _; rw [e]
  refine way_bad ?_
  exfalso; simp only [nm, digL, dgE, dgP, dgP1, List.cons_append, List.nil_append, List.append_nil] at *; omega
set_option maxHeartbeats 4000000 in
set_option maxRecDepth 100000 in
theorem nearc_any (x0 x1 : Int) (b0 : (-85070591730234615865843651857942052864) ≤ x0 ∧ x0 ≤ 85070591730234615865843651857942052864) (b1 : (-9223372036854775808) ≤ x1 ∧ x1 ≤ 9223372036854775807) (w : World) (hw : WOk GB w) : Known Try.prog 45 ∧ Calls Try.prog 45 #[.agg #[.int .i64 (hi x0), .int .u64 (lo x0)], .int .i64 x1] w (fun e w' => e = .returned ((if x1 < 1 then .tuple #[.agg #[.int .i64 0, .int .u64 0], .int .i64 1] else .tuple #[.agg #[.int .i64 (hi (Fx.near x0 x1)), .int .u64 (lo (Fx.near x0 x1))], .int .i64 0])) ∧ Below w.heap.size w w') := by
  refine calls_eq (way_calls3 (ρ := rho [x0, x1]) (run := nearc_R Try.prog) (fun _ => rfl) (by kernel_rfl) (within_get ⟨b0, b1, trivial⟩) gi_ok (fun X hX hG => ct_nearest_ok hX hG) rfl rfl gbApart_nil ?_ w hw)
  refine way_cut (.cmp .lt (.var 1) (.lit 1)) (fun h0 => ?_) (fun h0 => ?_)
  · skip
    refine way_leaf nearc_n1 ?_
    refine ⟨rfl, ?_⟩; simp only [nm, digL, dgE, dgP, dgP1, List.cons_append, List.nil_append, List.append_nil] at *; rw [if_pos (by omega)] <;> rfl
  refine way_cut (.cmp .lt (.var 0) (.lit 0)) (fun h1 => ?_) (fun h1 => ?_)
  rotate_left
  · skip
    refine way_leaf nearc_n6 ?_
    refine ⟨rfl, ?_⟩; have e : (max (Fx.near x0 x1) (0 - (Fx.near x0 x1))) = Fx.near x0 x1 := (by simp only [nm, digL, dgE, dgP, dgP1, List.cons_append, List.nil_append, List.append_nil] at *; (try rw [show 0 - (0 - x0) = x0 by omega] at *); obtain ⟨l1, l2⟩ := near_le x0 x1 (by omega); have l3 := near_up x0 x1 (by omega); omega); have hd : ¬ x1 < 1 := (by simp only [nm, digL, dgE, dgP, dgP1, List.cons_append, List.nil_append, List.append_nil] at *; omega); simp only [nm, digL, dgE, dgP, dgP1, List.cons_append, List.nil_append, List.append_nil] at *; rw [if_neg hd, e] <;> rfl
  refine way_cut (.cmp .le (.op .add (.op .mul (.lit 2) (.op .sub (.lit 0) (.op .sub (.lit 0) (.var 0)))) (.var 1)) (.lit 0)) (fun h2 => ?_) (fun h2 => ?_)
  · skip
    refine way_leaf nearc_n4 ?_
    refine ⟨rfl, ?_⟩; have e : (0 - (max (Fx.near (0 - (0 - x0)) x1) (0 - (Fx.near (0 - (0 - x0)) x1)))) = Fx.near x0 x1 := (by simp only [nm, digL, dgE, dgP, dgP1, List.cons_append, List.nil_append, List.append_nil] at *; (try rw [show 0 - (0 - x0) = x0 by omega] at *); obtain ⟨l1, l2⟩ := near_le x0 x1 (by omega); have l3 := near_up x0 x1 (by omega); omega); have hd : ¬ x1 < 1 := (by simp only [nm, digL, dgE, dgP, dgP1, List.cons_append, List.nil_append, List.append_nil] at *; omega); simp only [nm, digL, dgE, dgP, dgP1, List.cons_append, List.nil_append, List.append_nil] at *; rw [if_neg hd, e] <;> rfl
  refine way_leaf nearc_n5 ?_
  refine ⟨rfl, ?_⟩; have e : (max (Fx.near (0 - (0 - x0)) x1) (0 - (Fx.near (0 - (0 - x0)) x1))) = Fx.near x0 x1 := (by simp only [nm, digL, dgE, dgP, dgP1, List.cons_append, List.nil_append, List.append_nil] at *; (try rw [show 0 - (0 - x0) = x0 by omega] at *); obtain ⟨l1, l2⟩ := near_le x0 x1 (by omega); have l3 := near_up x0 x1 (by omega); omega); have hd : ¬ x1 < 1 := (by simp only [nm, digL, dgE, dgP, dgP1, List.cons_append, List.nil_append, List.append_nil] at *; omega); simp only [nm, digL, dgE, dgP, dgP1, List.cons_append, List.nil_append, List.append_nil] at *; rw [if_neg hd, e] <;> rfl
def ofc_entry : Entry := fun X args =>
  match args with
  | [.int .i64 a] => if a.fits X .i64 then .ok (W2 a) else .fail 230
  | _ => .fail 201
set_option maxRecDepth 100000 in
theorem ofc_ok {X : Ctx} {ρ : Nat → Int} (hX : X.Ok ρ) (hG : X.G = G) : EntryOk Try.prog X ρ GB 26 ofc_entry := by
  obtain ⟨XG, XI, XV, XF⟩ := X
  simp only at hG
  subst hG
  intro args s h α w vals hv hw
  unfold ofc_entry at h
  split at h
  · split at h
    · rename_i hg
      cases h
      exact entry_calls hv rfl rfl (ofc_any _ (E.fits_in hX hg) w hw)
    · cases h
  · cases h
def intc_entry : Entry := fun X args =>
  match args with
  | [.agg [.int .i64 p, .int .u64 q]] => match wide? p q with
    | some a => if bigE X a then (Res.test X (inB a (-9223372036854775808) 9223372036854775807)).bind fun t => if t then .ok (.tuple [.int .i64 a, .bool (.lit true)]) else .ok (.tuple [.int .i64 (.lit 0), .bool (.lit false)]) else .fail 231
    | none => .fail 232
  | _ => .fail 201
set_option maxRecDepth 100000 in
theorem intc_ok {X : Ctx} {ρ : Nat → Int} (hX : X.Ok ρ) (hG : X.G = G) : EntryOk Try.prog X ρ GB 46 intc_entry := by
  obtain ⟨XG, XI, XV, XF⟩ := X
  simp only at hG
  subst hG
  intro args s h α w vals hv hw
  unfold intc_entry at h
  split at h
  · rename_i p q
    split at h
    · rename_i a ha
      obtain ⟨d1, d2⟩ := wide?_den (ρ := ρ) ha
      split at h
      · rename_i hg
        have g : Big (a.den G ρ) := bigE_in hX hg
        have k := intc_any (a.den G ρ) (by unfold Big at g; omega) w hw
        have e : SV.denL G ρ [.agg [.int .i64 p, .int .u64 q]] = [.agg #[.int .i64 (hi (a.den G ρ)), .int .u64 (lo (a.den G ρ))]] := by simp only [SV.denL, SV.den, d1, d2]
        rw [← show (SV.denL G ρ [.agg [.int .i64 p, .int .u64 q]]).toArray = #[.agg #[.int .i64 (hi (a.den G ρ)), .int .u64 (lo (a.den G ρ))]] from by rw [e]] at k
        replace h := Res.bind_ok h; obtain ⟨t, ht, h⟩ := h
        have ht := Res.test_ok hX ht
        cases t with
        | true =>
          have gt := inB_den ht
          cases h
          rw [if_pos gt] at k
          exact entry_calls hv rfl rfl k
        | false =>
          have gt : ¬ (-9223372036854775808 ≤ a.den G ρ ∧ a.den G ρ ≤ 9223372036854775807) := by
            intro z
            simp only [inB, B.den, cop_le, E.den] at ht
            rw [decide_eq_true z.1, decide_eq_true z.2] at ht
            cases ht
          cases h
          rw [if_neg gt] at k
          exact entry_calls hv rfl rfl k
      · cases h
    · cases h
  · cases h
def addc_entry : Entry := fun X args =>
  match args with
  | [.agg [.int .i64 p, .int .u64 q], .agg [.int .i64 r, .int .u64 t]] => match wide? p q, wide? r t with
    | some a, some b => (Res.test X (inB a (-85070591730234615865843651857942052864) 85070591730234615865843651857942052864)).bind fun x => (Res.test X (inB b (-85070591730234615865843651857942052864) 85070591730234615865843651857942052864)).bind fun y => if x && y then (Res.test X (inB (.op .add a b) (-170141183460469231731687303715884105728) 170141183460469231731687303715884105727)).bind fun z => if z then .ok (.tuple [W2 (.op .add a b), .int .i64 (.lit 0)]) else .ok (.tuple [.agg [.int .i64 (.lit 0), .int .u64 (.lit 0)], .int .i64 (.lit 11)]) else .fail 233
    | _, _ => .fail 234
  | _ => .fail 201
set_option maxRecDepth 100000 in
theorem addc_ok {X : Ctx} {ρ : Nat → Int} (hX : X.Ok ρ) (hG : X.G = G) : EntryOk Try.prog X ρ GB 29 addc_entry := by
  obtain ⟨XG, XI, XV, XF⟩ := X
  simp only at hG
  subst hG
  intro args s h α w vals hv hw
  unfold addc_entry at h
  split at h
  · rename_i p q r t
    split at h
    · rename_i a b ha hb
      obtain ⟨d1, d2⟩ := wide?_den (ρ := ρ) ha
      obtain ⟨d3, d4⟩ := wide?_den (ρ := ρ) hb
      replace h := Res.bind_ok h; obtain ⟨x, hx, h⟩ := h
      replace h := Res.bind_ok h; obtain ⟨y, hy, h⟩ := h
      have hx := Res.test_ok hX hx
      have hy := Res.test_ok hX hy
      split at h
      · rename_i hg
        simp only [Bool.and_eq_true] at hg
        obtain ⟨rfl, rfl⟩ := hg
        have k := addc_any (a.den G ρ) (b.den G ρ) (inB_den hx) (inB_den hy) w hw
        have e : SV.denL G ρ [.agg [.int .i64 p, .int .u64 q], .agg [.int .i64 r, .int .u64 t]] = [.agg #[.int .i64 (hi (a.den G ρ)), .int .u64 (lo (a.den G ρ))], .agg #[.int .i64 (hi (b.den G ρ)), .int .u64 (lo (b.den G ρ))]] := by simp only [SV.denL, SV.den, d1, d2, d3, d4]
        rw [← show (SV.denL G ρ [.agg [.int .i64 p, .int .u64 q], .agg [.int .i64 r, .int .u64 t]]).toArray = #[.agg #[.int .i64 (hi (a.den G ρ)), .int .u64 (lo (a.den G ρ))], .agg #[.int .i64 (hi (b.den G ρ)), .int .u64 (lo (b.den G ρ))]] from by rw [e]] at k
        unfold tellV at k
        replace h := Res.bind_ok h; obtain ⟨z, hz, h⟩ := h
        have hz := Res.test_ok hX hz
        cases z with
        | true =>
          have gz : -170141183460469231731687303715884105728 ≤ a.den G ρ + b.den G ρ ∧ a.den G ρ + b.den G ρ ≤ 170141183460469231731687303715884105727 := inB_den hz
          cases h
          rw [if_pos gz] at k
          exact entry_calls hv rfl rfl k
        | false =>
          have gz : ¬ (-170141183460469231731687303715884105728 ≤ a.den G ρ + b.den G ρ ∧ a.den G ρ + b.den G ρ ≤ 170141183460469231731687303715884105727) := by
            intro z
            simp only [inB, B.den, cop_le, E.den, iop_add] at hz
            rw [decide_eq_true z.1, decide_eq_true z.2] at hz
            cases hz
          cases h
          rw [if_neg gz] at k
          exact entry_calls hv rfl rfl k
      · cases h
    · cases h
  · cases h
def nearc_entry : Entry := fun X args =>
  match args with
  | [.agg [.int .i64 p, .int .u64 q], .int .i64 d] => match wide? p q with
    | some a => (Res.test X (inB a (-85070591730234615865843651857942052864) 85070591730234615865843651857942052864)).bind fun x => if x && d.fits X .i64 then (Res.test X (.cmp .lt d (.lit 1))).bind fun z => if z then .ok (.tuple [.agg [.int .i64 (.lit 0), .int .u64 (.lit 0)], .int .i64 (.lit 1)]) else .ok (.tuple [W2 (.app 2 (.cons a (.cons d .nil))), .int .i64 (.lit 0)]) else .fail 235
    | none => .fail 236
  | _ => .fail 201
set_option maxRecDepth 100000 in
theorem nearc_ok {X : Ctx} {ρ : Nat → Int} (hX : X.Ok ρ) (hG : X.G = G) : EntryOk Try.prog X ρ GB 45 nearc_entry := by
  obtain ⟨XG, XI, XV, XF⟩ := X
  simp only at hG
  subst hG
  intro args s h α w vals hv hw
  unfold nearc_entry at h
  split at h
  · rename_i p q d
    split at h
    · rename_i a ha
      obtain ⟨d1, d2⟩ := wide?_den (ρ := ρ) ha
      replace h := Res.bind_ok h; obtain ⟨x, hx, h⟩ := h
      have hx := Res.test_ok hX hx
      split at h
      · rename_i hg
        simp only [Bool.and_eq_true] at hg
        obtain ⟨rfl, hd⟩ := hg
        have k := nearc_any (a.den G ρ) (d.den G ρ) (inB_den hx) (E.fits_in hX hd) w hw
        have e : SV.denL G ρ [.agg [.int .i64 p, .int .u64 q], .int .i64 d] = [.agg #[.int .i64 (hi (a.den G ρ)), .int .u64 (lo (a.den G ρ))], .int .i64 (d.den G ρ)] := by simp only [SV.denL, SV.den, d1, d2]
        rw [← show (SV.denL G ρ [.agg [.int .i64 p, .int .u64 q], .int .i64 d]).toArray = #[.agg #[.int .i64 (hi (a.den G ρ)), .int .u64 (lo (a.den G ρ))], .int .i64 (d.den G ρ)] from by rw [e]] at k
        replace h := Res.bind_ok h; obtain ⟨z, hz, h⟩ := h
        have hz := Res.test_ok hX hz
        cases z with
        | true =>
          simp only [B.den, cop_lt, decide_eq_true_eq, E.den] at hz
          cases h
          rw [if_pos hz] at k
          exact entry_calls hv rfl rfl k
        | false =>
          simp only [B.den, cop_lt, decide_eq_false_iff_not, E.den] at hz
          cases h
          rw [if_neg hz] at k
          exact entry_calls hv rfl rfl k
      · cases h
    · cases h
  · cases h
def ct_ofc : Contracts := ctCons 26 ofc_entry ct_nearest
theorem ct_ofc_ok {X : Ctx} {ρ : Nat → Int} (hX : X.Ok ρ) (hG : X.G = G) : CtOk Try.prog X ρ GB ct_ofc := ctCons_ok (ofc_ok hX hG) (ct_nearest_ok hX hG)
def ct_intc : Contracts := ctCons 46 intc_entry ct_ofc
theorem ct_intc_ok {X : Ctx} {ρ : Nat → Int} (hX : X.Ok ρ) (hG : X.G = G) : CtOk Try.prog X ρ GB ct_intc := ctCons_ok (intc_ok hX hG) (ct_ofc_ok hX hG)
def ct_addc : Contracts := ctCons 29 addc_entry ct_intc
theorem ct_addc_ok {X : Ctx} {ρ : Nat → Int} (hX : X.Ok ρ) (hG : X.G = G) : CtOk Try.prog X ρ GB ct_addc := ctCons_ok (addc_ok hX hG) (ct_intc_ok hX hG)
def ct_nearc : Contracts := ctCons 45 nearc_entry ct_addc
theorem ct_nearc_ok {X : Ctx} {ρ : Nat → Int} (hX : X.Ok ρ) (hG : X.G = G) : CtOk Try.prog X ρ GB ct_nearc := ctCons_ok (nearc_ok hX hG) (ct_addc_ok hX hG)
end Go.Proofs.Ytnhhphdhkgjbhaa
set_option maxRecDepth 100000
namespace Go.Proofs.Ytnhhphdhkgjbhaa
open Go Go.RowKit Sx Wi
def mulc_R (P : Program) (fs : List B) : Res SV := withCtx G GI [((-9223372036854775808), 9223372036854775807), ((-9223372036854775808), 9223372036854775807)] fs (fun X => exFun P X GB ct_nearc 3000 30 [.int .i64 (.var 0), .int .i64 (.var 1)])
def mulc_f0 : List B := []
def mulc_b0 : B := (.cmp .lt (.var 0) (.lit 0))
def mulc_f1 : List B := grow mulc_b0 ++ mulc_f0
def mulc_b1 : B := (.cmp .lt (.var 1) (.lit 0))
def mulc_f2 : List B := grow mulc_b1 ++ mulc_f1
def mulc_f3 : List B := grow (B.neg mulc_b1) ++ mulc_f1
def mulc_f4 : List B := grow (B.neg mulc_b0) ++ mulc_f0
def mulc_b4 : B := (.cmp .lt (.var 1) (.lit 0))
def mulc_f5 : List B := grow mulc_b4 ++ mulc_f4
def mulc_f6 : List B := grow (B.neg mulc_b4) ++ mulc_f4
theorem mulc_n2 : mulc_R Try.prog mulc_f2 = .ok (.agg [(.int .i64 (.app 0 (.cons (.op .mul (.op .sub (.lit 0) (.var 0)) (.op .sub (.lit 0) (.var 1))) .nil))), (.int .u64 (.app 1 (.cons (.op .mul (.op .sub (.lit 0) (.var 0)) (.op .sub (.lit 0) (.var 1))) .nil)))]) := by kernel_rfl
theorem mulc_n3 : mulc_R Try.prog mulc_f3 = .ok (.agg [(.int .i64 (.app 0 (.cons (.op .sub (.lit 0) (.op .mul (.op .sub (.lit 0) (.var 0)) (.var 1))) .nil))), (.int .u64 (.app 1 (.cons (.op .sub (.lit 0) (.op .mul (.op .sub (.lit 0) (.var 0)) (.var 1))) .nil)))]) := by kernel_rfl
theorem mulc_n5 : mulc_R Try.prog mulc_f5 = .ok (.agg [(.int .i64 (.app 0 (.cons (.op .sub (.lit 0) (.op .mul (.var 0) (.op .sub (.lit 0) (.var 1)))) .nil))), (.int .u64 (.app 1 (.cons (.op .sub (.lit 0) (.op .mul (.var 0) (.op .sub (.lit 0) (.var 1)))) .nil)))]) := by kernel_rfl
theorem mulc_n6 : mulc_R Try.prog mulc_f6 = .ok (.agg [(.int .i64 (.app 0 (.cons (.op .mul (.var 0) (.var 1)) .nil))), (.int .u64 (.app 1 (.cons (.op .mul (.var 0) (.var 1)) .nil)))]) := by kernel_rfl
end Go.Proofs.Ytnhhphdhkgjbhaa
namespace Go.Proofs.Ytnhhphdhkgjbhaa
open Go Go.RowKit Sx Nu Wi
set_option maxHeartbeats 4000000 in
set_option maxRecDepth 100000 in
theorem mulc_any (x0 x1 : Int) (b0 : (-9223372036854775808) ≤ x0 ∧ x0 ≤ 9223372036854775807) (b1 : (-9223372036854775808) ≤ x1 ∧ x1 ≤ 9223372036854775807) (w : World) (hw : WOk GB w) : Known Try.prog 30 ∧ Calls Try.prog 30 #[.int .i64 x0, .int .i64 x1] w (fun e w' => e = .returned (.agg #[.int .i64 (hi (x0 * x1)), .int .u64 (lo (x0 * x1))]) ∧ Below w.heap.size w w') := by
  refine calls_eq (way_calls3 (ρ := rho [x0, x1]) (run := mulc_R Try.prog) (fun _ => rfl) (by kernel_rfl) (within_get ⟨b0, b1, trivial⟩) gi_ok (fun X hX hG => ct_nearc_ok hX hG) rfl rfl gbApart_nil ?_ w hw)
  refine way_cut (.cmp .lt (.var 0) (.lit 0)) (fun h0 => ?_) (fun h0 => ?_)
  · skip
    refine way_cut (.cmp .lt (.var 1) (.lit 0)) (fun h1 => ?_) (fun h1 => ?_)
    · skip
      refine way_leaf mulc_n2 ?_
      refine ⟨rfl, ?_⟩; have e : ((0 - x0) * (0 - x1)) = x0 * x1 := (by grind); show Value.agg #[Value.int .i64 (hi ((0 - x0) * (0 - x1))), Value.int .u64 (lo ((0 - x0) * (0 - x1)))] = _; rw [e]
    refine way_leaf mulc_n3 ?_
    refine ⟨rfl, ?_⟩; have e : (0 - ((0 - x0) * x1)) = x0 * x1 := (by grind); show Value.agg #[Value.int .i64 (hi (0 - ((0 - x0) * x1))), Value.int .u64 (lo (0 - ((0 - x0) * x1)))] = _; rw [e]
  refine way_cut (.cmp .lt (.var 1) (.lit 0)) (fun h1 => ?_) (fun h1 => ?_)
  · skip
    refine way_leaf mulc_n5 ?_
    refine ⟨rfl, ?_⟩; have e : (0 - (x0 * (0 - x1))) = x0 * x1 := (by grind); show Value.agg #[Value.int .i64 (hi (0 - (x0 * (0 - x1)))), Value.int .u64 (lo (0 - (x0 * (0 - x1))))] = _; rw [e]
  refine way_leaf mulc_n6 ?_
  refine ⟨rfl, ?_⟩; have e : (x0 * x1) = x0 * x1 := (by grind); show Value.agg #[Value.int .i64 (hi (x0 * x1)), Value.int .u64 (lo (x0 * x1))] = _; rw [e]
def mulc_entry : Entry := fun X args =>
  match args with
  | [.int .i64 a, .int .i64 n] => if a.fits X .i64 && n.fits X .i64 then .ok (W2 (.op .mul a n)) else .fail 237
  | _ => .fail 201
set_option maxRecDepth 100000 in
theorem mulc_ok {X : Ctx} {ρ : Nat → Int} (hX : X.Ok ρ) (hG : X.G = G) : EntryOk Try.prog X ρ GB 30 mulc_entry := by
  obtain ⟨XG, XI, XV, XF⟩ := X
  simp only at hG
  subst hG
  intro args s h α w vals hv hw
  unfold mulc_entry at h
  split at h
  · split at h
    · rename_i hg
      simp only [Bool.and_eq_true] at hg
      cases h
      exact entry_calls hv rfl rfl (mulc_any _ _ (E.fits_in hX hg.1) (E.fits_in hX hg.2) w hw)
    · cases h
  · cases h
def ct_mulc : Contracts := ctCons 30 mulc_entry ct_nearc
theorem ct_mulc_ok {X : Ctx} {ρ : Nat → Int} (hX : X.Ok ρ) (hG : X.G = G) : CtOk Try.prog X ρ GB ct_mulc := ctCons_ok (mulc_ok hX hG) (ct_nearc_ok hX hG)
end Go.Proofs.Ytnhhphdhkgjbhaa
