/- What is proved: what the run of a function comes to, on some of its ways. No condition. -/
import Derived.Test.YtnhhphdhkgjbhaaQNat0
set_option linter.unusedSimpArgs false
set_option linter.unusedVariables false
set_option maxRecDepth 100000
namespace Go.Proofs.Ytnhhphdhkgjbhaa
open Go Go.RowKit Sx Wi
theorem at_n78 : at_R Try.prog at_f78 = .ok (.tuple [(.agg [(.int .i64 at_E0), (.int .i64 (.lit 0))]), (.int .i64 (.lit 0))]) := by kernel_rfl
theorem at_n81 : at_R Try.prog at_f81 = .ok (.tuple [(.agg [(.int .i64 (.lit 0)), (.int .i64 at_E1)]), (.int .i64 (.lit 0))]) := by kernel_rfl
theorem at_n82 : at_R Try.prog at_f82 = .ok (.tuple [(.agg [(.int .i64 (.lit 0)), (.int .i64 (.lit 0))]), (.int .i64 (.lit 0))]) := by kernel_rfl
theorem at_n83 : at_R Try.prog at_f83 = .ok (.tuple [(.agg [(.int .i64 (.lit 0)), (.int .i64 (.lit 0))]), (.int .i64 (.lit 0))]) := by kernel_rfl
theorem at_n86 : at_R Try.prog at_f86 = .ok (.tuple [(.agg [(.int .i64 (.lit 0)), (.int .i64 at_E1)]), (.int .i64 (.lit 0))]) := by kernel_rfl
theorem at_n87 : at_R Try.prog at_f87 = .ok (.tuple [(.agg [(.int .i64 (.lit 0)), (.int .i64 (.lit 0))]), (.int .i64 (.lit 0))]) := by kernel_rfl
end Go.Proofs.Ytnhhphdhkgjbhaa
