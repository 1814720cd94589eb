/- What is proved: the run of a function over its ways, and what is known on each. No condition. -/
import Derived.Test.YtnffpaenalccaaaDoorQCa
import Derived.Test.YtnffpaenalccaaaDoorQPn
import Derived.Test.YtnffpaenalccaaaDoorQg2
import Derived.Test.YtnffpaenalccaaaDoorProg
set_option linter.unusedSimpArgs false
set_option linter.unusedVariables false
set_option maxRecDepth 100000
namespace Go.Proofs.YtnffpaenalccaaaDoor
open Go Go.RowKit Sx Wi
def rratio_R (P : Program) (fs : List B) : Res SV := withCtx G GI [((-9223372036854775808), 9223372036854775807), ((-9223372036854775808), 9223372036854775807)] fs (fun X => exFun P X GB ct_hold 4000 26 [(.int .i64 (.var 0)), (.int .i64 (.var 1))])
def rratio_f0 : List B := []
def rratio_b0 : B := (.cmp .eq (.var 1) (.lit 0))
def rratio_f1 : List B := grow rratio_b0 ++ rratio_f0
def rratio_f2 : List B := grow (B.neg rratio_b0) ++ rratio_f0
def rratio_b2 : B := (.cmp .lt (.var 0) (.lit 0))
def rratio_f3 : List B := grow rratio_b2 ++ rratio_f2
def rratio_b3 : B := (.cmp .lt (.var 1) (.lit 0))
def rratio_f4 : List B := grow rratio_b3 ++ rratio_f3
def rratio_f5 : List B := grow (B.neg rratio_b3) ++ rratio_f3
def rratio_f6 : List B := grow (B.neg rratio_b2) ++ rratio_f2
def rratio_b6 : B := (.cmp .lt (.var 1) (.lit 0))
def rratio_f7 : List B := grow rratio_b6 ++ rratio_f6
def rratio_f8 : List B := grow (B.neg rratio_b6) ++ rratio_f6
theorem rratio_n1 : rratio_R Tryd.prog rratio_f1 = .ok (.tuple [(.int .i32 (.lit 0)), (.int .i64 (.lit 12))]) := by kernel_rfl
theorem rratio_n4 : rratio_R Tryd.prog rratio_f4 = .ok (.tuple [(.int .i32 (.op .max (.lit (-2147483648)) (.op .min (.lit 2147483647) (.app 2 (.cons (.op .mul (.op .sub (.lit 0) (.var 0)) (.lit 65536)) (.cons (.op .sub (.lit 0) (.var 1)) .nil)))))), (.int .i64 (.lit 0))]) := by kernel_rfl
theorem rratio_n5 : rratio_R Tryd.prog rratio_f5 = .ok (.tuple [(.int .i32 (.op .max (.lit (-2147483648)) (.op .min (.lit 2147483647) (.app 2 (.cons (.op .sub (.lit 0) (.op .mul (.op .sub (.lit 0) (.var 0)) (.lit 65536))) (.cons (.var 1) .nil)))))), (.int .i64 (.lit 0))]) := by kernel_rfl
theorem rratio_n7 : rratio_R Tryd.prog rratio_f7 = .ok (.tuple [(.int .i32 (.op .max (.lit (-2147483648)) (.op .min (.lit 2147483647) (.app 2 (.cons (.op .sub (.lit 0) (.op .mul (.var 0) (.lit 65536))) (.cons (.op .sub (.lit 0) (.var 1)) .nil)))))), (.int .i64 (.lit 0))]) := by kernel_rfl
theorem rratio_n8 : rratio_R Tryd.prog rratio_f8 = .ok (.tuple [(.int .i32 (.op .max (.lit (-2147483648)) (.op .min (.lit 2147483647) (.app 2 (.cons (.op .mul (.var 0) (.lit 65536)) (.cons (.var 1) .nil)))))), (.int .i64 (.lit 0))]) := by kernel_rfl
end Go.Proofs.YtnffpaenalccaaaDoor
