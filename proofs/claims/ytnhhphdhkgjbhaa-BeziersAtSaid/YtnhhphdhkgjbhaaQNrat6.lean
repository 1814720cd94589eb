/- What is proved: what the run of a function comes to, on some of its ways. No condition. -/
import Derived.Test.YtnhhphdhkgjbhaaQNrat0
set_option linter.unusedSimpArgs false
set_option linter.unusedVariables false
set_option maxRecDepth 100000
namespace Go.Proofs.Ytnhhphdhkgjbhaa
open Go Go.RowKit Sx Wi
theorem rat_n108 : rat_R Try.prog rat_f108 = .ok (.tuple [(.agg [(.int .i64 (.lit 0)), (.int .i64 (.lit 0))]), (.int .i64 (.lit 1))]) := by kernel_rfl
theorem rat_n109 : rat_R Try.prog rat_f109 = .ok (.tuple [(.agg [(.int .i64 (.lit 0)), (.int .i64 (.lit 0))]), (.int .i64 (.lit 1))]) := by kernel_rfl
theorem rat_n110 : rat_R Try.prog rat_f110 = .ok (.tuple [(.agg [(.int .i64 (.lit 0)), (.int .i64 (.lit 0))]), (.int .i64 (.lit 1))]) := by kernel_rfl
theorem rat_n111 : rat_R Try.prog rat_f111 = .ok (.tuple [(.agg [(.int .i64 (.lit 0)), (.int .i64 (.lit 0))]), (.int .i64 (.lit 1))]) := by kernel_rfl
theorem rat_n112 : rat_R Try.prog rat_f112 = .ok (.tuple [(.agg [(.int .i64 (.lit 0)), (.int .i64 (.lit 0))]), (.int .i64 (.lit 1))]) := by kernel_rfl
theorem rat_n113 : rat_R Try.prog rat_f113 = .ok (.tuple [(.agg [(.int .i64 (.lit 0)), (.int .i64 (.lit 0))]), (.int .i64 (.lit 1))]) := by kernel_rfl
end Go.Proofs.Ytnhhphdhkgjbhaa
