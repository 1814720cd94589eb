/- What is proved: what the run of a function comes to, on some of its ways. No condition. -/
import Derived.Test.YtoiecphddchknaaQExw0
set_option linter.unusedSimpArgs false
set_option linter.unusedVariables false
set_option maxRecDepth 100000
namespace Go.Proofs.Ytoiecphddchknaa
open Go Go.RowKit Sx Wi
theorem exaw_n17 : exaw_R Try.prog exaw_f17 = .ok (.agg [(.int .i64 (.op .add (.var 41) (.lit 1))), (.int .i64 (.var 41))]) := by kernel_rfl
theorem exaw_n18 : exaw_R Try.prog exaw_f18 = .ok (.agg [(.int .i64 (.op .add (.var 41) (.lit 1))), (.int .i64 (.var 41))]) := by kernel_rfl
theorem exaw_n22 : exaw_R Try.prog exaw_f22 = .ok (.agg [(.int .i64 (.op .add (.var 41) (.lit 1))), (.int .i64 (.var 41))]) := by kernel_rfl
theorem exaw_n25 : exaw_R Try.prog exaw_f25 = .ok (.agg [(.int .i64 (.op .add (.var 41) (.lit 1))), (.int .i64 (.var 41))]) := by kernel_rfl
end Go.Proofs.Ytoiecphddchknaa
