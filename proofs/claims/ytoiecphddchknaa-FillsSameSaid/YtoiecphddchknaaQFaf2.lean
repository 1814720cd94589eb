/- What is proved: what the run of a function comes to, on some of its ways. No condition. -/
import Derived.Test.YtoiecphddchknaaQFaf0
set_option linter.unusedSimpArgs false
set_option linter.unusedVariables false
set_option maxRecDepth 100000
namespace Go.Proofs.Ytoiecphddchknaa
open Go Go.RowKit Sx Wi
theorem facef_n13 : facef_R Try.prog facef_f13 = .ok (.tuple [(.agg []), (.bool (.lit false))]) := by kernel_rfl
theorem facef_n15 : facef_R Try.prog facef_f15 = .ok (.tuple [(.agg []), (.bool (.lit false))]) := by kernel_rfl
theorem facef_n17 : facef_R Try.prog facef_f17 = .ok (.tuple [(.agg []), (.bool (.lit false))]) := by kernel_rfl
theorem facef_n19 : facef_R Try.prog facef_f19 = .ok (.tuple [(.agg []), (.bool (.lit false))]) := by kernel_rfl
theorem facef_n21 : facef_R Try.prog facef_f21 = .ok (.tuple [(.agg []), (.bool (.lit false))]) := by kernel_rfl
theorem facef_n23 : facef_R Try.prog facef_f23 = .ok (.tuple [(.agg []), (.bool (.lit false))]) := by kernel_rfl
end Go.Proofs.Ytoiecphddchknaa
