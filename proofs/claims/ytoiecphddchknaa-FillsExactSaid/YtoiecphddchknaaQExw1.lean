/- What is proved: what the run of a function comes to, on some of its ways. No condition. -/
import Derived.Test.YtoiecphddchknaaQExw0
set_option linter.unusedSimpArgs false
set_option linter.unusedVariables false
set_option maxRecDepth 100000
namespace Go.Proofs.Ytoiecphddchknaa
open Go Go.RowKit Sx Wi
theorem exaw_n2 : exaw_R Try.prog exaw_f2 = .ok (.agg [(.int .i64 (.op .add (.var 41) (.lit 1))), (.int .i64 (.var 41))]) := by kernel_rfl
theorem exaw_n7 : exaw_R Try.prog exaw_f7 = .ok (.agg [(.int .i64 (.op .add (.var 41) (.lit 1))), (.int .i64 (.var 41))]) := by kernel_rfl
theorem exaw_n10 : exaw_R Try.prog exaw_f10 = .ok (.agg [(.int .i64 (.op .add (.var 41) (.lit 1))), (.int .i64 (.var 41))]) := by kernel_rfl
theorem exaw_n14 : exaw_R Try.prog exaw_f14 = .ok (.agg [(.int .i64 (.op .add (.var 41) (.lit 1))), (.int .i64 (.var 41))]) := by kernel_rfl
end Go.Proofs.Ytoiecphddchknaa
