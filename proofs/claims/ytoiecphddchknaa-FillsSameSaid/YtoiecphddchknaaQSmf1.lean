/- What is proved: what the run of a function comes to, on some of its ways. No condition. -/
import Derived.Test.YtoiecphddchknaaQa9
set_option linter.unusedSimpArgs false
set_option linter.unusedVariables false
set_option maxRecDepth 100000
namespace Go.Proofs.Ytoiecphddchknaa
open Go Go.RowKit Sx Wi
theorem smf_n5 : smf_R Try.prog smf_f5 = .ok (.tuple [(.agg []), (.bool (.lit true))]) := by kernel_rfl
theorem smf_n6 : smf_R Try.prog smf_f6 = .ok (.tuple [(.agg []), (.bool (.lit true))]) := by kernel_rfl
theorem smf_n7 : smf_R Try.prog smf_f7 = .ok (.tuple [(.agg []), (.bool (.lit true))]) := by kernel_rfl
theorem smf_n8 : smf_R Try.prog smf_f8 = .ok (.tuple [(.agg []), (.bool (.lit true))]) := by kernel_rfl
end Go.Proofs.Ytoiecphddchknaa
