/- What is proved: what the run of a function comes to, on some of its ways. No condition. -/
import Derived.Test.YtoiecphddchknaaQFaf0
set_option linter.unusedSimpArgs false
set_option linter.unusedVariables false
set_option maxRecDepth 100000
namespace Go.Proofs.Ytoiecphddchknaa
open Go Go.RowKit Sx Wi
theorem facef_n37 : facef_R Try.prog facef_f37 = .ok (.tuple [(.agg []), (.bool (.lit false))]) := by kernel_rfl
theorem facef_n39 : facef_R Try.prog facef_f39 = .ok (.tuple [(.agg []), (.bool (.lit false))]) := by kernel_rfl
theorem facef_n40 : facef_R Try.prog facef_f40 = .ok (.tuple [(.agg []), (.bool (.lit true))]) := by kernel_rfl
end Go.Proofs.Ytoiecphddchknaa
