/- What is proved: the run of a function over its ways, and what is known on each. No condition. -/
import Derived.Test.YtoiecphddchknaaQCa
set_option linter.unusedSimpArgs false
set_option linter.unusedVariables false
set_option maxRecDepth 100000
namespace Go.Proofs.Ytoiecphddchknaa
open Go Go.RowKit Sx Wi
def sd_R (P : Program) (fs : List B) : Res SV := withCtx G GI [((-671088640), 671088640), ((-671088640), 671088640), ((-1342177280), 1342177280), ((-1342177280), 1342177280), ((-671088640), 671088640), ((-671088640), 671088640)] fs (fun X => exFun P X GB ct_wcmp 2000 41 [(.agg [(.int .i64 (.var 0)), (.int .i64 (.var 1)), (.int .i64 (.var 2)), (.int .i64 (.var 3))]), (.agg [(.int .i64 (.var 4)), (.int .i64 (.var 5))])])
def sd_f0 : List B := []
def sd_b0 : B := (.cmp .ne (.app 60 (.cons (.op .sub (.op .mul (.var 2) (.op .sub (.var 5) (.var 1))) (.op .mul (.var 3) (.op .sub (.var 4) (.var 0)))) .nil)) (.lit 0))
def sd_f1 : List B := grow sd_b0 ++ sd_f0
def sd_f2 : List B := grow (B.neg sd_b0) ++ sd_f0
def sd_b2 : B := (.cmp .ne (.op .sub (.lit 0) (.app 60 (.cons (.var 3) .nil))) (.lit 0))
def sd_f3 : List B := grow sd_b2 ++ sd_f2
def sd_f4 : List B := grow (B.neg sd_b2) ++ sd_f2
def sd_b4 : B := (.cmp .ne (.app 60 (.cons (.var 2) .nil)) (.lit 0))
def sd_f5 : List B := grow sd_b4 ++ sd_f4
def sd_f6 : List B := grow (B.neg sd_b4) ++ sd_f4
theorem sd_n0 : sd_R Try.prog sd_f0 = .need (.cmp .ne (.app 60 (.cons (.op .sub (.op .mul (.var 2) (.op .sub (.var 5) (.var 1))) (.op .mul (.var 3) (.op .sub (.var 4) (.var 0)))) .nil)) (.lit 0)) := by kernel_rfl
theorem sd_n1 : sd_R Try.prog sd_f1 = .ok (.int .i64 (.app 60 (.cons (.op .sub (.op .mul (.var 2) (.op .sub (.var 5) (.var 1))) (.op .mul (.var 3) (.op .sub (.var 4) (.var 0)))) .nil))) := by kernel_rfl
theorem sd_n2 : sd_R Try.prog sd_f2 = .need (.cmp .ne (.op .sub (.lit 0) (.app 60 (.cons (.var 3) .nil))) (.lit 0)) := by kernel_rfl
theorem sd_n3 : sd_R Try.prog sd_f3 = .ok (.int .i64 (.op .sub (.lit 0) (.app 60 (.cons (.var 3) .nil)))) := by kernel_rfl
theorem sd_n4 : sd_R Try.prog sd_f4 = .need (.cmp .ne (.app 60 (.cons (.var 2) .nil)) (.lit 0)) := by kernel_rfl
theorem sd_n5 : sd_R Try.prog sd_f5 = .ok (.int .i64 (.app 60 (.cons (.var 2) .nil))) := by kernel_rfl
theorem sd_n6 : sd_R Try.prog sd_f6 = .ok (.int .i64 (.lit 0)) := by kernel_rfl
end Go.Proofs.Ytoiecphddchknaa
