/- What is proved: what the run of a function comes to, on some of its ways. No condition. -/
import Derived.Test.YtoiecphddchknaaQa8
set_option linter.unusedSimpArgs false
set_option linter.unusedVariables false
set_option maxRecDepth 100000
namespace Go.Proofs.Ytoiecphddchknaa
open Go Go.RowKit Sx Wi
theorem facetf_n11 : facetf_R Try.prog facetf_f11 = .ok (.tuple [(.agg []), (.bool (.lit false))]) := by kernel_rfl
theorem facetf_n13 : facetf_R Try.prog facetf_f13 = .ok (.tuple [(.agg []), (.bool (.lit false))]) := by kernel_rfl
theorem facetf_n15 : facetf_R Try.prog facetf_f15 = .ok (.tuple [(.agg []), (.bool (.lit false))]) := by kernel_rfl
theorem facetf_n17 : facetf_R Try.prog facetf_f17 = .ok (.tuple [(.agg []), (.bool (.lit false))]) := by kernel_rfl
theorem facetf_n19 : facetf_R Try.prog facetf_f19 = .ok (.tuple [(.agg []), (.bool (.lit false))]) := by kernel_rfl
end Go.Proofs.Ytoiecphddchknaa
