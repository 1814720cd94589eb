/- What is proved: the run of a function over its ways, and what is known on each. No condition. -/
import Derived.Test.YtoiecphddchknaaQCb
set_option linter.unusedSimpArgs false
set_option linter.unusedVariables false
set_option maxRecDepth 100000
namespace Go.Proofs.Ytoiecphddchknaa
open Go Go.RowKit Sx Wi
def claim_R (P : Program) (fs : List B) : Res SV := withCtx G GI [((-9223372036854775808), 9223372036854775807), ((-9223372036854775808), 9223372036854775807), ((-9223372036854775808), 9223372036854775807), ((-9223372036854775808), 9223372036854775807), ((-9223372036854775808), 9223372036854775807), ((-9223372036854775808), 9223372036854775807), ((-9223372036854775808), 9223372036854775807), ((-9223372036854775808), 9223372036854775807)] fs (fun X => exFun P X GB ct_sd 2000 13 [(.agg [(.int .i64 (.var 0)), (.int .i64 (.var 1)), (.int .i64 (.var 2)), (.int .i64 (.var 3)), (.int .i64 (.var 4)), (.int .i64 (.var 5))]), (.agg [(.int .i64 (.var 6)), (.int .i64 (.var 7))])])
def claim_f0 : List B := []
def claim_b0 : B := (.cmp .lt (.lit 671088640) (.op .max (.var 0) (.var 1)))
def claim_f1 : List B := grow claim_b0 ++ claim_f0
def claim_f2 : List B := grow (B.neg claim_b0) ++ claim_f0
def claim_b2 : B := (.cmp .lt (.op .min (.var 0) (.var 1)) (.lit (-671088640)))
def claim_f3 : List B := grow claim_b2 ++ claim_f2
def claim_f4 : List B := grow (B.neg claim_b2) ++ claim_f2
def claim_b4 : B := (.cmp .lt (.lit 671088640) (.op .max (.var 2) (.var 3)))
def claim_f5 : List B := grow claim_b4 ++ claim_f4
def claim_f6 : List B := grow (B.neg claim_b4) ++ claim_f4
def claim_b6 : B := (.cmp .lt (.op .min (.var 2) (.var 3)) (.lit (-671088640)))
def claim_f7 : List B := grow claim_b6 ++ claim_f6
def claim_f8 : List B := grow (B.neg claim_b6) ++ claim_f6
def claim_b8 : B := (.cmp .lt (.lit 671088640) (.op .max (.var 4) (.var 5)))
def claim_f9 : List B := grow claim_b8 ++ claim_f8
def claim_f10 : List B := grow (B.neg claim_b8) ++ claim_f8
def claim_b10 : B := (.cmp .lt (.op .min (.var 4) (.var 5)) (.lit (-671088640)))
def claim_f11 : List B := grow claim_b10 ++ claim_f10
def claim_f12 : List B := grow (B.neg claim_b10) ++ claim_f10
def claim_b12 : B := (.cmp .eq (.app 60 (.cons (.op .sub (.op .mul (.op .sub (.var 2) (.var 0)) (.op .sub (.var 5) (.var 1))) (.op .mul (.op .sub (.var 3) (.var 1)) (.op .sub (.var 4) (.var 0)))) .nil)) (.lit 0))
def claim_f13 : List B := grow claim_b12 ++ claim_f12
def claim_f14 : List B := grow (B.neg claim_b12) ++ claim_f12
def claim_b14 : B := (.cmp .lt (.lit 671088640) (.op .max (.var 6) (.var 7)))
def claim_f15 : List B := grow claim_b14 ++ claim_f14
def claim_f16 : List B := grow (B.neg claim_b14) ++ claim_f14
def claim_b16 : B := (.cmp .lt (.op .min (.var 6) (.var 7)) (.lit (-671088640)))
def claim_f17 : List B := grow claim_b16 ++ claim_f16
def claim_f18 : List B := grow (B.neg claim_b16) ++ claim_f16
def claim_b18 : B := (.cmp .ne (.app 62 (.cons (.var 2) (.cons (.var 3) (.cons (.op .sub (.var 4) (.var 2)) (.cons (.op .sub (.var 5) (.var 3)) (.cons (.var 6) (.cons (.var 7) .nil))))))) (.app 60 (.cons (.op .sub (.op .mul (.op .sub (.var 2) (.var 0)) (.op .sub (.var 5) (.var 1))) (.op .mul (.op .sub (.var 3) (.var 1)) (.op .sub (.var 4) (.var 0)))) .nil)))
def claim_f19 : List B := grow claim_b18 ++ claim_f18
def claim_f20 : List B := grow (B.neg claim_b18) ++ claim_f18
def claim_b20 : B := (.cmp .ne (.app 62 (.cons (.var 4) (.cons (.var 5) (.cons (.op .sub (.var 0) (.var 4)) (.cons (.op .sub (.var 1) (.var 5)) (.cons (.var 6) (.cons (.var 7) .nil))))))) (.app 60 (.cons (.op .sub (.op .mul (.op .sub (.var 2) (.var 0)) (.op .sub (.var 5) (.var 1))) (.op .mul (.op .sub (.var 3) (.var 1)) (.op .sub (.var 4) (.var 0)))) .nil)))
def claim_f21 : List B := grow claim_b20 ++ claim_f20
def claim_f22 : List B := grow (B.neg claim_b20) ++ claim_f20
def claim_b22 : B := (.cmp .ne (.app 62 (.cons (.var 0) (.cons (.var 1) (.cons (.op .sub (.var 2) (.var 0)) (.cons (.op .sub (.var 3) (.var 1)) (.cons (.var 6) (.cons (.var 7) .nil))))))) (.app 60 (.cons (.op .sub (.op .mul (.op .sub (.var 2) (.var 0)) (.op .sub (.var 5) (.var 1))) (.op .mul (.op .sub (.var 3) (.var 1)) (.op .sub (.var 4) (.var 0)))) .nil)))
def claim_f23 : List B := grow claim_b22 ++ claim_f22
def claim_f24 : List B := grow (B.neg claim_b22) ++ claim_f22
theorem claim_n0 : claim_R Try.prog claim_f0 = .need (.cmp .lt (.lit 671088640) (.op .max (.var 0) (.var 1))) := by kernel_rfl
theorem claim_n1 : claim_R Try.prog claim_f1 = .ok (.int .i64 (.lit 0)) := by kernel_rfl
theorem claim_n2 : claim_R Try.prog claim_f2 = .need (.cmp .lt (.op .min (.var 0) (.var 1)) (.lit (-671088640))) := by kernel_rfl
theorem claim_n3 : claim_R Try.prog claim_f3 = .ok (.int .i64 (.lit 0)) := by kernel_rfl
theorem claim_n4 : claim_R Try.prog claim_f4 = .need (.cmp .lt (.lit 671088640) (.op .max (.var 2) (.var 3))) := by kernel_rfl
theorem claim_n5 : claim_R Try.prog claim_f5 = .ok (.int .i64 (.lit 0)) := by kernel_rfl
theorem claim_n6 : claim_R Try.prog claim_f6 = .need (.cmp .lt (.op .min (.var 2) (.var 3)) (.lit (-671088640))) := by kernel_rfl
theorem claim_n7 : claim_R Try.prog claim_f7 = .ok (.int .i64 (.lit 0)) := by kernel_rfl
theorem claim_n8 : claim_R Try.prog claim_f8 = .need (.cmp .lt (.lit 671088640) (.op .max (.var 4) (.var 5))) := by kernel_rfl
theorem claim_n9 : claim_R Try.prog claim_f9 = .ok (.int .i64 (.lit 0)) := by kernel_rfl
theorem claim_n10 : claim_R Try.prog claim_f10 = .need (.cmp .lt (.op .min (.var 4) (.var 5)) (.lit (-671088640))) := by kernel_rfl
theorem claim_n11 : claim_R Try.prog claim_f11 = .ok (.int .i64 (.lit 0)) := by kernel_rfl
theorem claim_n12 : claim_R Try.prog claim_f12 = .need (.cmp .eq (.app 60 (.cons (.op .sub (.op .mul (.op .sub (.var 2) (.var 0)) (.op .sub (.var 5) (.var 1))) (.op .mul (.op .sub (.var 3) (.var 1)) (.op .sub (.var 4) (.var 0)))) .nil)) (.lit 0)) := by kernel_rfl
theorem claim_n13 : claim_R Try.prog claim_f13 = .ok (.int .i64 (.lit 0)) := by kernel_rfl
theorem claim_n14 : claim_R Try.prog claim_f14 = .need (.cmp .lt (.lit 671088640) (.op .max (.var 6) (.var 7))) := by kernel_rfl
theorem claim_n15 : claim_R Try.prog claim_f15 = .ok (.int .i64 (.lit 0)) := by kernel_rfl
theorem claim_n16 : claim_R Try.prog claim_f16 = .need (.cmp .lt (.op .min (.var 6) (.var 7)) (.lit (-671088640))) := by kernel_rfl
theorem claim_n17 : claim_R Try.prog claim_f17 = .ok (.int .i64 (.lit 0)) := by kernel_rfl
theorem claim_n18 : claim_R Try.prog claim_f18 = .need (.cmp .ne (.app 62 (.cons (.var 2) (.cons (.var 3) (.cons (.op .sub (.var 4) (.var 2)) (.cons (.op .sub (.var 5) (.var 3)) (.cons (.var 6) (.cons (.var 7) .nil))))))) (.app 60 (.cons (.op .sub (.op .mul (.op .sub (.var 2) (.var 0)) (.op .sub (.var 5) (.var 1))) (.op .mul (.op .sub (.var 3) (.var 1)) (.op .sub (.var 4) (.var 0)))) .nil))) := by kernel_rfl
theorem claim_n19 : claim_R Try.prog claim_f19 = .ok (.int .i64 (.lit 0)) := by kernel_rfl
theorem claim_n20 : claim_R Try.prog claim_f20 = .need (.cmp .ne (.app 62 (.cons (.var 4) (.cons (.var 5) (.cons (.op .sub (.var 0) (.var 4)) (.cons (.op .sub (.var 1) (.var 5)) (.cons (.var 6) (.cons (.var 7) .nil))))))) (.app 60 (.cons (.op .sub (.op .mul (.op .sub (.var 2) (.var 0)) (.op .sub (.var 5) (.var 1))) (.op .mul (.op .sub (.var 3) (.var 1)) (.op .sub (.var 4) (.var 0)))) .nil))) := by kernel_rfl
theorem claim_n21 : claim_R Try.prog claim_f21 = .ok (.int .i64 (.lit 0)) := by kernel_rfl
theorem claim_n22 : claim_R Try.prog claim_f22 = .need (.cmp .ne (.app 62 (.cons (.var 0) (.cons (.var 1) (.cons (.op .sub (.var 2) (.var 0)) (.cons (.op .sub (.var 3) (.var 1)) (.cons (.var 6) (.cons (.var 7) .nil))))))) (.app 60 (.cons (.op .sub (.op .mul (.op .sub (.var 2) (.var 0)) (.op .sub (.var 5) (.var 1))) (.op .mul (.op .sub (.var 3) (.var 1)) (.op .sub (.var 4) (.var 0)))) .nil))) := by kernel_rfl
theorem claim_n23 : claim_R Try.prog claim_f23 = .ok (.int .i64 (.lit 0)) := by kernel_rfl
theorem claim_n24 : claim_R Try.prog claim_f24 = .ok (.int .i64 (.app 60 (.cons (.op .sub (.op .mul (.op .sub (.var 2) (.var 0)) (.op .sub (.var 5) (.var 1))) (.op .mul (.op .sub (.var 3) (.var 1)) (.op .sub (.var 4) (.var 0)))) .nil))) := by kernel_rfl
end Go.Proofs.Ytoiecphddchknaa
