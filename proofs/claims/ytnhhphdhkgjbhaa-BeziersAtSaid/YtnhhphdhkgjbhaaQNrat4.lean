/- What is proved: what the run of a function comes to, on some of its ways. No condition. -/
import Derived.Test.YtnhhphdhkgjbhaaQNrat0
set_option linter.unusedSimpArgs false
set_option linter.unusedVariables false
set_option maxRecDepth 100000
namespace Go.Proofs.Ytnhhphdhkgjbhaa
open Go Go.RowKit Sx Wi
theorem rat_n92 : rat_R Try.prog rat_f92 = .ok (.tuple [(.agg [(.int .i64 rat_E0), (.int .i64 rat_E1)]), (.int .i64 (.lit 0))]) := by kernel_rfl
theorem rat_n93 : rat_R Try.prog rat_f93 = .ok (.tuple [(.agg [(.int .i64 rat_E0), (.int .i64 (.lit 0))]), (.int .i64 (.lit 0))]) := by kernel_rfl
theorem rat_n94 : rat_R Try.prog rat_f94 = .ok (.tuple [(.agg [(.int .i64 rat_E0), (.int .i64 (.lit 0))]), (.int .i64 (.lit 0))]) := by kernel_rfl
theorem rat_n97 : rat_R Try.prog rat_f97 = .ok (.tuple [(.agg [(.int .i64 (.lit 0)), (.int .i64 rat_E1)]), (.int .i64 (.lit 0))]) := by kernel_rfl
theorem rat_n98 : rat_R Try.prog rat_f98 = .ok (.tuple [(.agg [(.int .i64 (.lit 0)), (.int .i64 (.lit 0))]), (.int .i64 (.lit 0))]) := by kernel_rfl
theorem rat_n99 : rat_R Try.prog rat_f99 = .ok (.tuple [(.agg [(.int .i64 (.lit 0)), (.int .i64 (.lit 0))]), (.int .i64 (.lit 0))]) := by kernel_rfl
end Go.Proofs.Ytnhhphdhkgjbhaa
