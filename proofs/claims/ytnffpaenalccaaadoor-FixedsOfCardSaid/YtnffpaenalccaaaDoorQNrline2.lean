/- What is proved: what the run of a function comes to, on some of its ways. No condition. -/
import Derived.Test.YtnffpaenalccaaaDoorQNrline0
set_option linter.unusedSimpArgs false
set_option linter.unusedVariables false
set_option maxRecDepth 100000
namespace Go.Proofs.YtnffpaenalccaaaDoor
open Go Go.RowKit Sx Wi
theorem rline_n154 : rline_R Tryd.prog rline_f154 = .ok (.tuple [(.int .i32 (.op .max (.lit (-2147483648)) (.op .min (.lit 2147483647) (.app 2 (.cons (.op .sub (.op .mul (.var 3) (.op .sub (.var 2) (.var 1))) (.op .mul (.op .sub (.var 0) (.var 1)) (.op .sub (.lit 0) (.op .sub (.var 4) (.var 3))))) (.cons (.op .sub (.var 2) (.var 1)) .nil)))))), (.int .i64 (.lit 0))]) := by kernel_rfl
theorem rline_n161 : rline_R Tryd.prog rline_f161 = .ok (.tuple [(.int .i32 (.op .max (.lit (-2147483648)) (.op .min (.lit 2147483647) (.app 2 (.cons (.op .sub (.op .mul (.var 3) (.op .sub (.var 2) (.var 1))) (.op .mul (.op .sub (.var 0) (.var 1)) (.op .sub (.lit 0) (.op .sub (.var 4) (.var 3))))) (.cons (.op .sub (.var 2) (.var 1)) .nil)))))), (.int .i64 (.lit 0))]) := by kernel_rfl
theorem rline_n167 : rline_R Tryd.prog rline_f167 = .ok (.tuple [(.int .i32 (.op .max (.lit (-2147483648)) (.op .min (.lit 2147483647) (.app 2 (.cons (.op .add (.op .mul (.var 3) (.op .sub (.var 2) (.var 1))) (.op .mul (.op .sub (.var 0) (.var 1)) (.op .sub (.var 4) (.var 3)))) (.cons (.op .sub (.var 2) (.var 1)) .nil)))))), (.int .i64 (.lit 0))]) := by kernel_rfl
end Go.Proofs.YtnffpaenalccaaaDoor
