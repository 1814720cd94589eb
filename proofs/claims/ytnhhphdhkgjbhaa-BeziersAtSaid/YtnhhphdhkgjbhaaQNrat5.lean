/- What is proved: what the run of a function comes to, on some of its ways. No condition. -/
import Derived.Test.YtnhhphdhkgjbhaaQNrat0
set_option linter.unusedSimpArgs false
set_option linter.unusedVariables false
set_option maxRecDepth 100000
namespace Go.Proofs.Ytnhhphdhkgjbhaa
open Go Go.RowKit Sx Wi
theorem rat_n102 : rat_R Try.prog rat_f102 = .ok (.tuple [(.agg [(.int .i64 (.lit 0)), (.int .i64 rat_E1)]), (.int .i64 (.lit 0))]) := by kernel_rfl
theorem rat_n103 : rat_R Try.prog rat_f103 = .ok (.tuple [(.agg [(.int .i64 (.lit 0)), (.int .i64 (.lit 0))]), (.int .i64 (.lit 0))]) := by kernel_rfl
theorem rat_n104 : rat_R Try.prog rat_f104 = .ok (.tuple [(.agg [(.int .i64 (.lit 0)), (.int .i64 (.lit 0))]), (.int .i64 (.lit 0))]) := by kernel_rfl
theorem rat_n105 : rat_R Try.prog rat_f105 = .ok (.tuple [(.agg [(.int .i64 (.lit 0)), (.int .i64 (.lit 0))]), (.int .i64 (.lit 1))]) := by kernel_rfl
theorem rat_n106 : rat_R Try.prog rat_f106 = .ok (.tuple [(.agg [(.int .i64 (.lit 0)), (.int .i64 (.lit 0))]), (.int .i64 (.lit 1))]) := by kernel_rfl
theorem rat_n107 : rat_R Try.prog rat_f107 = .ok (.tuple [(.agg [(.int .i64 (.lit 0)), (.int .i64 (.lit 0))]), (.int .i64 (.lit 1))]) := by kernel_rfl
end Go.Proofs.Ytnhhphdhkgjbhaa
