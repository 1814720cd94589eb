/- What is proved: what the run of a function comes to, on some of its ways. No condition. -/
import Derived.Test.YtnhhphdhkgjbhaaQNrat0
set_option linter.unusedSimpArgs false
set_option linter.unusedVariables false
set_option maxRecDepth 100000
namespace Go.Proofs.Ytnhhphdhkgjbhaa
open Go Go.RowKit Sx Wi
theorem rat_n4 : rat_R Try.prog rat_f4 = .ok (.tuple [(.agg [(.int .i64 (.lit 0)), (.int .i64 (.lit 0))]), (.int .i64 (.lit 1))]) := by kernel_rfl
theorem rat_n7 : rat_R Try.prog rat_f7 = .ok (.tuple [(.agg [(.int .i64 (.lit 0)), (.int .i64 (.lit 0))]), (.int .i64 (.lit 1))]) := by kernel_rfl
theorem rat_n12 : rat_R Try.prog rat_f12 = .ok (.tuple [(.agg [(.int .i64 (.lit 0)), (.int .i64 (.lit 0))]), (.int .i64 (.lit 1))]) := by kernel_rfl
theorem rat_n17 : rat_R Try.prog rat_f17 = .ok (.tuple [(.agg [(.int .i64 (.lit 0)), (.int .i64 (.lit 0))]), (.int .i64 (.lit 1))]) := by kernel_rfl
theorem rat_n22 : rat_R Try.prog rat_f22 = .ok (.tuple [(.agg [(.int .i64 (.lit 0)), (.int .i64 (.lit 0))]), (.int .i64 (.lit 1))]) := by kernel_rfl
theorem rat_n27 : rat_R Try.prog rat_f27 = .ok (.tuple [(.agg [(.int .i64 (.lit 0)), (.int .i64 (.lit 0))]), (.int .i64 (.lit 1))]) := by kernel_rfl
end Go.Proofs.Ytnhhphdhkgjbhaa
