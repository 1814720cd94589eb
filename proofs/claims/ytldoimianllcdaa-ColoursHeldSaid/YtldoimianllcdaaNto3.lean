/- What is proved: what the run of a function comes to, on some of its ways. No condition. -/
import Derived.Test.YtldoimianllcdaaNto0
set_option linter.unusedVariables false
set_option maxRecDepth 100000
namespace Go.Proofs.Ytldoimianllcdaa
open Go Go.RowKit Sx Wi
theorem to_n24 : exFun Try.prog (Ctx.more ⟨G, GI, [(0, 255), (0, 255), ((-2147483648), 2147483647), ((-2147483648), 2147483647), ((-2147483648), 2147483647), ((-2147483648), 2147483647)], to_f24⟩) GB ct_w 4000 9 [(.int .u8 (.var 0)), (.int .u8 (.var 1)), (.agg [(.int .i32 (.var 2)), (.int .i32 (.var 3)), (.int .i32 (.var 4)), (.int .i32 (.var 5))])] = .ok (.agg [(.int .i32 (.lit 0)), (.int .i32 (.lit 0)), (.int .i32 (.lit 0)), (.int .i32 (.lit 0))]) := by kernel_rfl
end Go.Proofs.Ytldoimianllcdaa
