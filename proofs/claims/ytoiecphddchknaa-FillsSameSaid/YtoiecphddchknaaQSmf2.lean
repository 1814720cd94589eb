/- What is proved: what the run of a function comes to, on some of its ways. No condition. -/
import Derived.Test.YtoiecphddchknaaQa9
set_option linter.unusedSimpArgs false
set_option linter.unusedVariables false
set_option maxRecDepth 100000
namespace Go.Proofs.Ytoiecphddchknaa
open Go Go.RowKit Sx Wi
theorem smf_n12 : smf_R Try.prog smf_f12 = .ok (.tuple [(.agg []), (.bool (.lit true))]) := by kernel_rfl
theorem smf_n13 : smf_R Try.prog smf_f13 = .ok (.tuple [(.agg []), (.bool (.lit true))]) := by kernel_rfl
theorem smf_n14 : smf_R Try.prog smf_f14 = .ok (.tuple [(.agg []), (.bool (.lit true))]) := by kernel_rfl
theorem smf_n15 : smf_R Try.prog smf_f15 = .ok (.tuple [(.agg []), (.bool (.lit true))]) := by kernel_rfl
end Go.Proofs.Ytoiecphddchknaa
