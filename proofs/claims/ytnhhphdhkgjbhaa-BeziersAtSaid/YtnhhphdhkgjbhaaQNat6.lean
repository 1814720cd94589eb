/- What is proved: what the run of a function comes to, on some of its ways. No condition. -/
import Derived.Test.YtnhhphdhkgjbhaaQNat0
set_option linter.unusedSimpArgs false
set_option linter.unusedVariables false
set_option maxRecDepth 100000
namespace Go.Proofs.Ytnhhphdhkgjbhaa
open Go Go.RowKit Sx Wi
theorem at_n65 : at_R Try.prog at_f65 = .ok (.tuple [(.agg [(.int .i64 (.lit 0)), (.int .i64 (.lit 0))]), (.int .i64 (.lit 1))]) := by kernel_rfl
theorem at_n67 : at_R Try.prog at_f67 = .ok (.tuple [(.agg [(.int .i64 (.lit 0)), (.int .i64 (.lit 0))]), (.int .i64 (.lit 1))]) := by kernel_rfl
theorem at_n69 : at_R Try.prog at_f69 = .ok (.tuple [(.agg [(.int .i64 (.lit 0)), (.int .i64 (.lit 0))]), (.int .i64 (.lit 1))]) := by kernel_rfl
theorem at_n71 : at_R Try.prog at_f71 = .ok (.tuple [(.agg [(.int .i64 (.lit 0)), (.int .i64 (.lit 0))]), (.int .i64 (.lit 1))]) := by kernel_rfl
theorem at_n76 : at_R Try.prog at_f76 = .ok (.tuple [(.agg [(.int .i64 at_E0), (.int .i64 at_E1)]), (.int .i64 (.lit 0))]) := by kernel_rfl
theorem at_n77 : at_R Try.prog at_f77 = .ok (.tuple [(.agg [(.int .i64 at_E0), (.int .i64 (.lit 0))]), (.int .i64 (.lit 0))]) := by kernel_rfl
end Go.Proofs.Ytnhhphdhkgjbhaa
