/- What is proved: the run of a function over its ways, and what is known on each. No condition. -/
import Derived.Test.YtoiecphddchknaaQCb
set_option linter.unusedSimpArgs false
set_option linter.unusedVariables false
set_option maxRecDepth 100000
namespace Go.Proofs.Ytoiecphddchknaa
open Go Go.RowKit Sx Wi
def wt_R (P : Program) (fs : List B) : Res SV := withCtx G GI [((-9223372036854775808), 9223372036854775807), ((-9223372036854775808), 9223372036854775807), ((-9223372036854775808), 9223372036854775807), ((-9223372036854775808), 9223372036854775807), ((-9223372036854775808), 9223372036854775807), ((-9223372036854775808), 9223372036854775807), ((-9223372036854775808), 9223372036854775807), ((-9223372036854775808), 9223372036854775807)] fs (fun X => exFun P X GB ct_sd 2000 16 [(.agg [(.int .i64 (.var 0)), (.int .i64 (.var 1)), (.int .i64 (.var 2)), (.int .i64 (.var 3)), (.int .i64 (.var 4)), (.int .i64 (.var 5))]), (.agg [(.int .i64 (.var 6)), (.int .i64 (.var 7))])])
def wt_f0 : List B := []
def wt_b0 : B := (.cmp .lt (.lit 671088640) (.op .max (.var 0) (.var 1)))
def wt_f1 : List B := grow wt_b0 ++ wt_f0
def wt_f2 : List B := grow (B.neg wt_b0) ++ wt_f0
def wt_b2 : B := (.cmp .lt (.op .min (.var 0) (.var 1)) (.lit (-671088640)))
def wt_f3 : List B := grow wt_b2 ++ wt_f2
def wt_f4 : List B := grow (B.neg wt_b2) ++ wt_f2
def wt_b4 : B := (.cmp .lt (.lit 671088640) (.op .max (.var 2) (.var 3)))
def wt_f5 : List B := grow wt_b4 ++ wt_f4
def wt_f6 : List B := grow (B.neg wt_b4) ++ wt_f4
def wt_b6 : B := (.cmp .lt (.op .min (.var 2) (.var 3)) (.lit (-671088640)))
def wt_f7 : List B := grow wt_b6 ++ wt_f6
def wt_f8 : List B := grow (B.neg wt_b6) ++ wt_f6
def wt_b8 : B := (.cmp .lt (.lit 671088640) (.op .max (.var 4) (.var 5)))
def wt_f9 : List B := grow wt_b8 ++ wt_f8
def wt_f10 : List B := grow (B.neg wt_b8) ++ wt_f8
def wt_b10 : B := (.cmp .lt (.op .min (.var 4) (.var 5)) (.lit (-671088640)))
def wt_f11 : List B := grow wt_b10 ++ wt_f10
def wt_f12 : List B := grow (B.neg wt_b10) ++ wt_f10
def wt_b12 : B := (.cmp .lt (.lit 671088640) (.op .max (.var 6) (.var 7)))
def wt_f13 : List B := grow wt_b12 ++ wt_f12
def wt_f14 : List B := grow (B.neg wt_b12) ++ wt_f12
def wt_b14 : B := (.cmp .lt (.op .min (.var 6) (.var 7)) (.lit (-671088640)))
def wt_f15 : List B := grow wt_b14 ++ wt_f14
def wt_f16 : List B := grow (B.neg wt_b14) ++ wt_f14
theorem wt_n0 : wt_R Try.prog wt_f0 = .need (.cmp .lt (.lit 671088640) (.op .max (.var 0) (.var 1))) := by kernel_rfl
theorem wt_n1 : wt_R Try.prog wt_f1 = .ok (.agg [(.int .i64 (.lit 0)), (.int .i64 (.lit 0)), (.int .i64 (.lit 0))]) := by kernel_rfl
theorem wt_n2 : wt_R Try.prog wt_f2 = .need (.cmp .lt (.op .min (.var 0) (.var 1)) (.lit (-671088640))) := by kernel_rfl
theorem wt_n3 : wt_R Try.prog wt_f3 = .ok (.agg [(.int .i64 (.lit 0)), (.int .i64 (.lit 0)), (.int .i64 (.lit 0))]) := by kernel_rfl
theorem wt_n4 : wt_R Try.prog wt_f4 = .need (.cmp .lt (.lit 671088640) (.op .max (.var 2) (.var 3))) := by kernel_rfl
theorem wt_n5 : wt_R Try.prog wt_f5 = .ok (.agg [(.int .i64 (.lit 0)), (.int .i64 (.lit 0)), (.int .i64 (.lit 0))]) := by kernel_rfl
theorem wt_n6 : wt_R Try.prog wt_f6 = .need (.cmp .lt (.op .min (.var 2) (.var 3)) (.lit (-671088640))) := by kernel_rfl
theorem wt_n7 : wt_R Try.prog wt_f7 = .ok (.agg [(.int .i64 (.lit 0)), (.int .i64 (.lit 0)), (.int .i64 (.lit 0))]) := by kernel_rfl
theorem wt_n8 : wt_R Try.prog wt_f8 = .need (.cmp .lt (.lit 671088640) (.op .max (.var 4) (.var 5))) := by kernel_rfl
theorem wt_n9 : wt_R Try.prog wt_f9 = .ok (.agg [(.int .i64 (.lit 0)), (.int .i64 (.lit 0)), (.int .i64 (.lit 0))]) := by kernel_rfl
theorem wt_n10 : wt_R Try.prog wt_f10 = .need (.cmp .lt (.op .min (.var 4) (.var 5)) (.lit (-671088640))) := by kernel_rfl
theorem wt_n11 : wt_R Try.prog wt_f11 = .ok (.agg [(.int .i64 (.lit 0)), (.int .i64 (.lit 0)), (.int .i64 (.lit 0))]) := by kernel_rfl
theorem wt_n12 : wt_R Try.prog wt_f12 = .need (.cmp .lt (.lit 671088640) (.op .max (.var 6) (.var 7))) := by kernel_rfl
theorem wt_n13 : wt_R Try.prog wt_f13 = .ok (.agg [(.int .i64 (.lit 0)), (.int .i64 (.lit 0)), (.int .i64 (.lit 0))]) := by kernel_rfl
theorem wt_n14 : wt_R Try.prog wt_f14 = .need (.cmp .lt (.op .min (.var 6) (.var 7)) (.lit (-671088640))) := by kernel_rfl
theorem wt_n15 : wt_R Try.prog wt_f15 = .ok (.agg [(.int .i64 (.lit 0)), (.int .i64 (.lit 0)), (.int .i64 (.lit 0))]) := by kernel_rfl
theorem wt_n16 : wt_R Try.prog wt_f16 = .ok (.agg [(.int .i64 (.op .sub (.op .mul (.op .sub (.var 4) (.var 2)) (.op .sub (.var 7) (.var 3))) (.op .mul (.op .sub (.var 5) (.var 3)) (.op .sub (.var 6) (.var 2))))), (.int .i64 (.op .sub (.op .mul (.op .sub (.var 0) (.var 4)) (.op .sub (.var 7) (.var 5))) (.op .mul (.op .sub (.var 1) (.var 5)) (.op .sub (.var 6) (.var 4))))), (.int .i64 (.op .sub (.op .mul (.op .sub (.var 2) (.var 0)) (.op .sub (.var 7) (.var 1))) (.op .mul (.op .sub (.var 3) (.var 1)) (.op .sub (.var 6) (.var 0)))))]) := by kernel_rfl
end Go.Proofs.Ytoiecphddchknaa
