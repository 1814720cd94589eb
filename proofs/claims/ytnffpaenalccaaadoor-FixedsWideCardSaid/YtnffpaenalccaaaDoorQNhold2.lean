/- What is proved: what the run of a function comes to, on some of its ways. No condition. -/
import Derived.Test.YtnffpaenalccaaaDoorQNhold0
set_option linter.unusedSimpArgs false
set_option linter.unusedVariables false
set_option maxRecDepth 100000
namespace Go.Proofs.YtnffpaenalccaaaDoor
open Go Go.RowKit Sx Wi
theorem hold_n23 : hold_R Tryd.prog hold_f23 = .ok (.int .i32 (.op .sub (.lit 0) (.op .max (.app 2 (.cons (.op .sub (.lit 0) (.var 1)) (.cons (.var 3) .nil))) (.op .sub (.lit 0) (.app 2 (.cons (.op .sub (.lit 0) (.var 1)) (.cons (.var 3) .nil))))))) := by kernel_rfl
theorem hold_n24 : hold_R Tryd.prog hold_f24 = .ok (.int .i32 (.op .sub (.lit 0) (.op .max (.app 2 (.cons (.op .sub (.lit 0) (.var 1)) (.cons (.var 3) .nil))) (.op .sub (.lit 0) (.app 2 (.cons (.op .sub (.lit 0) (.var 1)) (.cons (.var 3) .nil))))))) := by kernel_rfl
theorem hold_n26 : hold_R Tryd.prog hold_f26 = .ok (.int .i32 (.op .max (.app 2 (.cons (.op .sub (.lit 0) (.var 1)) (.cons (.var 3) .nil))) (.op .sub (.lit 0) (.app 2 (.cons (.op .sub (.lit 0) (.var 1)) (.cons (.var 3) .nil)))))) := by kernel_rfl
theorem hold_n28 : hold_R Tryd.prog hold_f28 = .ok (.int .i32 (.lit 2147483647)) := by kernel_rfl
theorem hold_n29 : hold_R Tryd.prog hold_f29 = .ok (.int .i32 (.op .max (.app 2 (.cons (.op .sub (.lit 0) (.var 1)) (.cons (.var 3) .nil))) (.op .sub (.lit 0) (.app 2 (.cons (.op .sub (.lit 0) (.var 1)) (.cons (.var 3) .nil)))))) := by kernel_rfl
theorem hold_n31 : hold_R Tryd.prog hold_f31 = .ok (.int .i32 (.op .max (.app 2 (.cons (.var 1) (.cons (.var 3) .nil))) (.op .sub (.lit 0) (.app 2 (.cons (.var 1) (.cons (.var 3) .nil)))))) := by kernel_rfl
theorem hold_n33 : hold_R Tryd.prog hold_f33 = .ok (.int .i32 (.lit 2147483647)) := by kernel_rfl
theorem hold_n34 : hold_R Tryd.prog hold_f34 = .ok (.int .i32 (.op .max (.app 2 (.cons (.var 1) (.cons (.var 3) .nil))) (.op .sub (.lit 0) (.app 2 (.cons (.var 1) (.cons (.var 3) .nil)))))) := by kernel_rfl
end Go.Proofs.YtnffpaenalccaaaDoor
