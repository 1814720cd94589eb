/- What is proved: what the run of a function comes to, on some of its ways. No condition. -/
import Derived.Test.YtnhhphdhkgjbhaaNedge0
set_option linter.unusedVariables false
set_option maxRecDepth 100000
namespace Go.Proofs.Ytnhhphdhkgjbhaa
open Go Go.RowKit Sx Wi
theorem edge_n24 : exFun Try.prog (Ctx.more ⟨G, GI, [((-9223372036854775808), 9223372036854775807), ((-9223372036854775808), 9223372036854775807), ((-9223372036854775808), 9223372036854775807), ((-9223372036854775808), 9223372036854775807), ((-9223372036854775808), 9223372036854775807), ((-9223372036854775808), 9223372036854775807), ((-9223372036854775808), 9223372036854775807), ((-9223372036854775808), 9223372036854775807), ((-9223372036854775808), 9223372036854775807), ((-9223372036854775808), 9223372036854775807)], edge_f24⟩) GB ct_w 4000 10 [(.agg [(.int .i64 (.var 0)), (.int .i64 (.var 1)), (.int .i64 (.var 2)), (.int .i64 (.var 3)), (.int .i64 (.var 4)), (.int .i64 (.var 5)), (.int .i64 (.var 6)), (.int .i64 (.var 7))]), (.int .i64 (.var 8)), (.int .i64 (.var 9))] = .ok (.tuple [(.agg [(.int .i64 (.lit 0)), (.int .i64 (.lit 0))]), (.int .i64 (.lit 1))]) := by kernel_rfl
end Go.Proofs.Ytnhhphdhkgjbhaa
