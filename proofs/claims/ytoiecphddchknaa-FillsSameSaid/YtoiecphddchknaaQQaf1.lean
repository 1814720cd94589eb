/- What is proved: what the run of a function comes to, on some of its ways. No condition. -/
import Derived.Test.YtoiecphddchknaaQa8
set_option linter.unusedSimpArgs false
set_option linter.unusedVariables false
set_option maxRecDepth 100000
namespace Go.Proofs.Ytoiecphddchknaa
open Go Go.RowKit Sx Wi
theorem facetf_n1 : facetf_R Try.prog facetf_f1 = .ok (.tuple [(.agg []), (.bool (.lit false))]) := by kernel_rfl
theorem facetf_n3 : facetf_R Try.prog facetf_f3 = .ok (.tuple [(.agg []), (.bool (.lit false))]) := by kernel_rfl
theorem facetf_n5 : facetf_R Try.prog facetf_f5 = .ok (.tuple [(.agg []), (.bool (.lit false))]) := by kernel_rfl
theorem facetf_n7 : facetf_R Try.prog facetf_f7 = .ok (.tuple [(.agg []), (.bool (.lit false))]) := by kernel_rfl
theorem facetf_n9 : facetf_R Try.prog facetf_f9 = .ok (.tuple [(.agg []), (.bool (.lit false))]) := by kernel_rfl
end Go.Proofs.Ytoiecphddchknaa
