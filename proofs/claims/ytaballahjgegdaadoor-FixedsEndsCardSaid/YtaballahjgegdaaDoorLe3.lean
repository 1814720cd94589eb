/- What is proved: what the run of a function comes to, on some of its ways. No condition. -/
import Derived.Test.YtaballahjgegdaaDoorLe0
set_option linter.unusedVariables false
set_option maxRecDepth 100000
namespace Go.Proofs.YtaballahjgegdaaDoor
open Go Go.RowKit Sx Wi
theorem fixedsEnds_n24 : exFun Tryd.prog ⟨G, GI, [((-2147483648), 2147483647), ((-2147483648), 2147483647), ((-2147483648), 2147483647), ((-2147483648), 2147483647), ((-2147483648), 2147483647), ((-2147483648), 2147483647)], fixedsEnds_f24⟩ GB ct_ftrunc 4000 5 [(.agg [(.int .i32 (.var 0)), (.int .i32 (.var 1))]), (.agg [(.int .i32 (.var 2)), (.int .i32 (.var 3))]), (.agg [(.int .i32 (.var 4)), (.int .i32 (.var 5))])] = .need (.cmp .lt (.var 3) (.var 2)) := by kernel_rfl
theorem fixedsEnds_n25 : exFun Tryd.prog ⟨G, GI, [((-2147483648), 2147483647), ((-2147483648), 2147483647), ((-2147483648), 2147483647), ((-2147483648), 2147483647), ((-2147483648), 2147483647), ((-2147483648), 2147483647)], fixedsEnds_f25⟩ GB ct_ftrunc 4000 5 [(.agg [(.int .i32 (.var 0)), (.int .i32 (.var 1))]), (.agg [(.int .i32 (.var 2)), (.int .i32 (.var 3))]), (.agg [(.int .i32 (.var 4)), (.int .i32 (.var 5))])] = .ok (.bool (.lit true)) := by kernel_rfl
theorem fixedsEnds_n26 : exFun Tryd.prog ⟨G, GI, [((-2147483648), 2147483647), ((-2147483648), 2147483647), ((-2147483648), 2147483647), ((-2147483648), 2147483647), ((-2147483648), 2147483647), ((-2147483648), 2147483647)], fixedsEnds_f26⟩ GB ct_ftrunc 4000 5 [(.agg [(.int .i32 (.var 0)), (.int .i32 (.var 1))]), (.agg [(.int .i32 (.var 2)), (.int .i32 (.var 3))]), (.agg [(.int .i32 (.var 4)), (.int .i32 (.var 5))])] = .ok (.bool (.lit false)) := by kernel_rfl
end Go.Proofs.YtaballahjgegdaaDoor
