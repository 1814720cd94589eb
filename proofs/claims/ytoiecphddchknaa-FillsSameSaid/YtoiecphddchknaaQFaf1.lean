/- What is proved: what the run of a function comes to, on some of its ways. No condition. -/
import Derived.Test.YtoiecphddchknaaQFaf0
set_option linter.unusedSimpArgs false
set_option linter.unusedVariables false
set_option maxRecDepth 100000
namespace Go.Proofs.Ytoiecphddchknaa
open Go Go.RowKit Sx Wi
theorem facef_n1 : facef_R Try.prog facef_f1 = .ok (.tuple [(.agg []), (.bool (.lit false))]) := by kernel_rfl
theorem facef_n3 : facef_R Try.prog facef_f3 = .ok (.tuple [(.agg []), (.bool (.lit false))]) := by kernel_rfl
theorem facef_n5 : facef_R Try.prog facef_f5 = .ok (.tuple [(.agg []), (.bool (.lit false))]) := by kernel_rfl
theorem facef_n7 : facef_R Try.prog facef_f7 = .ok (.tuple [(.agg []), (.bool (.lit false))]) := by kernel_rfl
theorem facef_n9 : facef_R Try.prog facef_f9 = .ok (.tuple [(.agg []), (.bool (.lit false))]) := by kernel_rfl
theorem facef_n11 : facef_R Try.prog facef_f11 = .ok (.tuple [(.agg []), (.bool (.lit false))]) := by kernel_rfl
end Go.Proofs.Ytoiecphddchknaa
