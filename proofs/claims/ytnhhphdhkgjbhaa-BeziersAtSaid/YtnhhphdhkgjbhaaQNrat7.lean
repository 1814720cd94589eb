/- What is proved: what the run of a function comes to, on some of its ways. No condition. -/
import Derived.Test.YtnhhphdhkgjbhaaQNrat0
set_option linter.unusedSimpArgs false
set_option linter.unusedVariables false
set_option maxRecDepth 100000
namespace Go.Proofs.Ytnhhphdhkgjbhaa
open Go Go.RowKit Sx Wi
theorem rat_n114 : rat_R Try.prog rat_f114 = .ok (.tuple [(.agg [(.int .i64 (.lit 0)), (.int .i64 (.lit 0))]), (.int .i64 (.lit 1))]) := by kernel_rfl
theorem rat_n115 : rat_R Try.prog rat_f115 = .ok (.tuple [(.agg [(.int .i64 (.lit 0)), (.int .i64 (.lit 0))]), (.int .i64 (.lit 1))]) := by kernel_rfl
theorem rat_n116 : rat_R Try.prog rat_f116 = .ok (.tuple [(.agg [(.int .i64 (.lit 0)), (.int .i64 (.lit 0))]), (.int .i64 (.lit 1))]) := by kernel_rfl
theorem rat_n117 : rat_R Try.prog rat_f117 = .ok (.tuple [(.agg [(.int .i64 (.lit 0)), (.int .i64 (.lit 0))]), (.int .i64 (.lit 1))]) := by kernel_rfl
theorem rat_n118 : rat_R Try.prog rat_f118 = .ok (.tuple [(.agg [(.int .i64 (.lit 0)), (.int .i64 (.lit 0))]), (.int .i64 (.lit 1))]) := by kernel_rfl
theorem rat_n119 : rat_R Try.prog rat_f119 = .ok (.tuple [(.agg [(.int .i64 (.lit 0)), (.int .i64 (.lit 0))]), (.int .i64 (.lit 1))]) := by kernel_rfl
end Go.Proofs.Ytnhhphdhkgjbhaa
