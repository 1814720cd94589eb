/- What is proved: what the run of a function comes to, on some of its ways. No condition. -/
import Derived.Test.YtnffpaenalccaaaDoorQNhold0
set_option linter.unusedSimpArgs false
set_option linter.unusedVariables false
set_option maxRecDepth 100000
namespace Go.Proofs.YtnffpaenalccaaaDoor
open Go Go.RowKit Sx Wi
theorem hold_n3 : hold_R Tryd.prog hold_f3 = .ok (.int .i32 (.op .max (.app 2 (.cons (.var 1) (.cons (.var 3) .nil))) (.op .sub (.lit 0) (.app 2 (.cons (.var 1) (.cons (.var 3) .nil)))))) := by kernel_rfl
theorem hold_n5 : hold_R Tryd.prog hold_f5 = .ok (.int .i32 (.lit 2147483647)) := by kernel_rfl
theorem hold_n6 : hold_R Tryd.prog hold_f6 = .ok (.int .i32 (.op .max (.app 2 (.cons (.var 1) (.cons (.var 3) .nil))) (.op .sub (.lit 0) (.app 2 (.cons (.var 1) (.cons (.var 3) .nil)))))) := by kernel_rfl
theorem hold_n9 : hold_R Tryd.prog hold_f9 = .ok (.int .i32 (.lit (-2147483648))) := by kernel_rfl
theorem hold_n11 : hold_R Tryd.prog hold_f11 = .ok (.int .i32 (.op .sub (.lit 0) (.op .max (.app 2 (.cons (.op .sub (.lit 0) (.var 1)) (.cons (.var 3) .nil))) (.op .sub (.lit 0) (.app 2 (.cons (.op .sub (.lit 0) (.var 1)) (.cons (.var 3) .nil))))))) := by kernel_rfl
theorem hold_n12 : hold_R Tryd.prog hold_f12 = .ok (.int .i32 (.op .sub (.lit 0) (.op .max (.app 2 (.cons (.op .sub (.lit 0) (.var 1)) (.cons (.var 3) .nil))) (.op .sub (.lit 0) (.app 2 (.cons (.op .sub (.lit 0) (.var 1)) (.cons (.var 3) .nil))))))) := by kernel_rfl
theorem hold_n14 : hold_R Tryd.prog hold_f14 = .ok (.int .i32 (.op .max (.app 2 (.cons (.op .sub (.lit 0) (.var 1)) (.cons (.var 3) .nil))) (.op .sub (.lit 0) (.app 2 (.cons (.op .sub (.lit 0) (.var 1)) (.cons (.var 3) .nil)))))) := by kernel_rfl
theorem hold_n16 : hold_R Tryd.prog hold_f16 = .ok (.int .i32 (.lit 2147483647)) := by kernel_rfl
theorem hold_n17 : hold_R Tryd.prog hold_f17 = .ok (.int .i32 (.op .max (.app 2 (.cons (.op .sub (.lit 0) (.var 1)) (.cons (.var 3) .nil))) (.op .sub (.lit 0) (.app 2 (.cons (.op .sub (.lit 0) (.var 1)) (.cons (.var 3) .nil)))))) := by kernel_rfl
theorem hold_n21 : hold_R Tryd.prog hold_f21 = .ok (.int .i32 (.lit (-2147483648))) := by kernel_rfl
end Go.Proofs.YtnffpaenalccaaaDoor
