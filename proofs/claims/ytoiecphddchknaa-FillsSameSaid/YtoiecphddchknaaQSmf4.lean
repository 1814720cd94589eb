/- What is proved: what the run of a function comes to, on some of its ways. No condition. -/
import Derived.Test.YtoiecphddchknaaQa9
set_option linter.unusedSimpArgs false
set_option linter.unusedVariables false
set_option maxRecDepth 100000
namespace Go.Proofs.Ytoiecphddchknaa
open Go Go.RowKit Sx Wi
theorem smf_n27 : smf_R Try.prog smf_f27 = .ok (.tuple [(.agg []), (.bool (.lit true))]) := by kernel_rfl
theorem smf_n28 : smf_R Try.prog smf_f28 = .ok (.tuple [(.agg []), (.bool (.lit true))]) := by kernel_rfl
theorem smf_n29 : smf_R Try.prog smf_f29 = .ok (.tuple [(.agg []), (.bool (.lit true))]) := by kernel_rfl
theorem smf_n30 : smf_R Try.prog smf_f30 = .ok (.tuple [(.agg []), (.bool (.lit true))]) := by kernel_rfl
end Go.Proofs.Ytoiecphddchknaa
