/- What is proved: what the run of a function comes to, on some of its ways. No condition. -/
import Derived.Test.YtaballahjgegdaaDoorLs0
set_option linter.unusedVariables false
set_option maxRecDepth 100000
namespace Go.Proofs.YtaballahjgegdaaDoor
open Go Go.RowKit Sx Wi
theorem fixedsSigns_n84 : exFun Tryd.prog ⟨G, GI, [((-2147483648), 2147483647), ((-2147483648), 2147483647), (0, 65535)], fixedsSigns_f84⟩ GB ct_ftrunc 4000 6 [(.int .i32 (.var 0)), (.int .i32 (.var 1)), (.int .u16 (.var 2))] = .need (.cmp .ne (.bit .and .i64 (.op .mul (.var 0) (.var 1)) (.lit 65535)) (.lit 32768)) := by kernel_rfl
theorem fixedsSigns_n85 : exFun Tryd.prog ⟨G, GI, [((-2147483648), 2147483647), ((-2147483648), 2147483647), (0, 65535)], fixedsSigns_f85⟩ GB ct_ftrunc 4000 6 [(.int .i32 (.var 0)), (.int .i32 (.var 1)), (.int .u16 (.var 2))] = .ok (.bool (.lit true)) := by kernel_rfl
theorem fixedsSigns_n86 : exFun Tryd.prog ⟨G, GI, [((-2147483648), 2147483647), ((-2147483648), 2147483647), (0, 65535)], fixedsSigns_f86⟩ GB ct_ftrunc 4000 6 [(.int .i32 (.var 0)), (.int .i32 (.var 1)), (.int .u16 (.var 2))] = .ok (.bool (.lit true)) := by kernel_rfl
theorem fixedsSigns_n87 : exFun Tryd.prog ⟨G, GI, [((-2147483648), 2147483647), ((-2147483648), 2147483647), (0, 65535)], fixedsSigns_f87⟩ GB ct_ftrunc 4000 6 [(.int .i32 (.var 0)), (.int .i32 (.var 1)), (.int .u16 (.var 2))] = .ok (.bool (.lit false)) := by kernel_rfl
theorem fixedsSigns_n88 : exFun Tryd.prog ⟨G, GI, [((-2147483648), 2147483647), ((-2147483648), 2147483647), (0, 65535)], fixedsSigns_f88⟩ GB ct_ftrunc 4000 6 [(.int .i32 (.var 0)), (.int .i32 (.var 1)), (.int .u16 (.var 2))] = .ok (.bool (.lit false)) := by kernel_rfl
end Go.Proofs.YtaballahjgegdaaDoor
