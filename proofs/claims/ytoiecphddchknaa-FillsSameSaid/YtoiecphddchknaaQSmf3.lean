/- What is proved: what the run of a function comes to, on some of its ways. No condition. -/
import Derived.Test.YtoiecphddchknaaQa9
set_option linter.unusedSimpArgs false
set_option linter.unusedVariables false
set_option maxRecDepth 100000
namespace Go.Proofs.Ytoiecphddchknaa
open Go Go.RowKit Sx Wi
theorem smf_n20 : smf_R Try.prog smf_f20 = .ok (.tuple [(.agg []), (.bool (.lit true))]) := by kernel_rfl
theorem smf_n21 : smf_R Try.prog smf_f21 = .ok (.tuple [(.agg []), (.bool (.lit true))]) := by kernel_rfl
theorem smf_n22 : smf_R Try.prog smf_f22 = .ok (.tuple [(.agg []), (.bool (.lit true))]) := by kernel_rfl
theorem smf_n23 : smf_R Try.prog smf_f23 = .ok (.tuple [(.agg []), (.bool (.lit true))]) := by kernel_rfl
end Go.Proofs.Ytoiecphddchknaa
