/- What is proved: what the run of a function comes to, on some of its ways. No condition. -/
import Derived.Test.YtoiecphddchknaaQFaf0
set_option linter.unusedSimpArgs false
set_option linter.unusedVariables false
set_option maxRecDepth 100000
namespace Go.Proofs.Ytoiecphddchknaa
open Go Go.RowKit Sx Wi
theorem facef_n25 : facef_R Try.prog facef_f25 = .ok (.tuple [(.agg []), (.bool (.lit false))]) := by kernel_rfl
theorem facef_n27 : facef_R Try.prog facef_f27 = .ok (.tuple [(.agg []), (.bool (.lit false))]) := by kernel_rfl
theorem facef_n29 : facef_R Try.prog facef_f29 = .ok (.tuple [(.agg []), (.bool (.lit false))]) := by kernel_rfl
theorem facef_n31 : facef_R Try.prog facef_f31 = .ok (.tuple [(.agg []), (.bool (.lit false))]) := by kernel_rfl
theorem facef_n33 : facef_R Try.prog facef_f33 = .ok (.tuple [(.agg []), (.bool (.lit false))]) := by kernel_rfl
theorem facef_n35 : facef_R Try.prog facef_f35 = .ok (.tuple [(.agg []), (.bool (.lit false))]) := by kernel_rfl
end Go.Proofs.Ytoiecphddchknaa
