/- What is proved: the run of a function over its ways, and what is known on each. No condition. -/
import Derived.Test.YtoiecphddchknaaQg6
import Derived.Test.YtoiecphddchknaaQg3
import Derived.Test.YtoiecphddchknaaProg
set_option linter.unusedSimpArgs false
set_option linter.unusedVariables false
set_option maxRecDepth 100000
namespace Go.Proofs.Ytoiecphddchknaa
open Go Go.RowKit Sx Wi
def wcmp_R (P : Program) (fs : List B) : Res SV := withCtx G GI [((-9223372036854775808), 9223372036854775807), (0, 18446744073709551615), ((-9223372036854775808), 9223372036854775807), (0, 18446744073709551615)] fs (fun X => exFun P X GB ct_w 2000 22 [(.agg [(.int .i64 (.var 0)), (.int .u64 (.var 1))]), (.agg [(.int .i64 (.var 2)), (.int .u64 (.var 3))])])
def wcmp_f0 : List B := []
def wcmp_b0 : B := (.cmp .lt (.var 0) (.var 2))
def wcmp_f1 : List B := grow wcmp_b0 ++ wcmp_f0
def wcmp_b1 : B := (.cmp .lt (.var 1) (.var 3))
def wcmp_f2 : List B := grow wcmp_b1 ++ wcmp_f1
def wcmp_f3 : List B := grow (B.neg wcmp_b1) ++ wcmp_f1
def wcmp_b3 : B := (.cmp .lt (.var 3) (.var 1))
def wcmp_f4 : List B := grow wcmp_b3 ++ wcmp_f3
def wcmp_f5 : List B := grow (B.neg wcmp_b3) ++ wcmp_f3
def wcmp_f6 : List B := grow (B.neg wcmp_b0) ++ wcmp_f0
def wcmp_b6 : B := (.cmp .lt (.var 2) (.var 0))
def wcmp_f7 : List B := grow wcmp_b6 ++ wcmp_f6
def wcmp_b7 : B := (.cmp .lt (.var 1) (.var 3))
def wcmp_f8 : List B := grow wcmp_b7 ++ wcmp_f7
def wcmp_f9 : List B := grow (B.neg wcmp_b7) ++ wcmp_f7
def wcmp_b9 : B := (.cmp .lt (.var 3) (.var 1))
def wcmp_f10 : List B := grow wcmp_b9 ++ wcmp_f9
def wcmp_f11 : List B := grow (B.neg wcmp_b9) ++ wcmp_f9
def wcmp_f12 : List B := grow (B.neg wcmp_b6) ++ wcmp_f6
def wcmp_b12 : B := (.cmp .lt (.var 1) (.var 3))
def wcmp_f13 : List B := grow wcmp_b12 ++ wcmp_f12
def wcmp_f14 : List B := grow (B.neg wcmp_b12) ++ wcmp_f12
def wcmp_b14 : B := (.cmp .lt (.var 3) (.var 1))
def wcmp_f15 : List B := grow wcmp_b14 ++ wcmp_f14
def wcmp_f16 : List B := grow (B.neg wcmp_b14) ++ wcmp_f14
theorem wcmp_n0 : wcmp_R Try.prog wcmp_f0 = .need (.cmp .lt (.var 0) (.var 2)) := by kernel_rfl
theorem wcmp_n1 : wcmp_R Try.prog wcmp_f1 = .need (.cmp .lt (.var 1) (.var 3)) := by kernel_rfl
theorem wcmp_n2 : wcmp_R Try.prog wcmp_f2 = .ok (.int .i64 (.lit (-1))) := by kernel_rfl
theorem wcmp_n3 : wcmp_R Try.prog wcmp_f3 = .need (.cmp .lt (.var 3) (.var 1)) := by kernel_rfl
theorem wcmp_n4 : wcmp_R Try.prog wcmp_f4 = .ok (.int .i64 (.lit (-1))) := by kernel_rfl
theorem wcmp_n5 : wcmp_R Try.prog wcmp_f5 = .ok (.int .i64 (.lit (-1))) := by kernel_rfl
theorem wcmp_n6 : wcmp_R Try.prog wcmp_f6 = .need (.cmp .lt (.var 2) (.var 0)) := by kernel_rfl
theorem wcmp_n7 : wcmp_R Try.prog wcmp_f7 = .need (.cmp .lt (.var 1) (.var 3)) := by kernel_rfl
theorem wcmp_n8 : wcmp_R Try.prog wcmp_f8 = .ok (.int .i64 (.lit 1)) := by kernel_rfl
theorem wcmp_n9 : wcmp_R Try.prog wcmp_f9 = .need (.cmp .lt (.var 3) (.var 1)) := by kernel_rfl
theorem wcmp_n10 : wcmp_R Try.prog wcmp_f10 = .ok (.int .i64 (.lit 1)) := by kernel_rfl
theorem wcmp_n11 : wcmp_R Try.prog wcmp_f11 = .ok (.int .i64 (.lit 1)) := by kernel_rfl
theorem wcmp_n12 : wcmp_R Try.prog wcmp_f12 = .need (.cmp .lt (.var 1) (.var 3)) := by kernel_rfl
theorem wcmp_n13 : wcmp_R Try.prog wcmp_f13 = .ok (.int .i64 (.lit (-1))) := by kernel_rfl
theorem wcmp_n14 : wcmp_R Try.prog wcmp_f14 = .need (.cmp .lt (.var 3) (.var 1)) := by kernel_rfl
theorem wcmp_n15 : wcmp_R Try.prog wcmp_f15 = .ok (.int .i64 (.lit 1)) := by kernel_rfl
theorem wcmp_n16 : wcmp_R Try.prog wcmp_f16 = .ok (.int .i64 (.lit 0)) := by kernel_rfl
end Go.Proofs.Ytoiecphddchknaa
