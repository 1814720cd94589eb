/- What is proved: what the run of a function comes to, on some of its ways. No condition. -/
import Derived.Test.YtoiecphddchknaaQa8
set_option linter.unusedSimpArgs false
set_option linter.unusedVariables false
set_option maxRecDepth 100000
namespace Go.Proofs.Ytoiecphddchknaa
open Go Go.RowKit Sx Wi
theorem facetf_n21 : facetf_R Try.prog facetf_f21 = .ok (.tuple [(.agg []), (.bool (.lit false))]) := by kernel_rfl
theorem facetf_n23 : facetf_R Try.prog facetf_f23 = .ok (.tuple [(.agg []), (.bool (.lit false))]) := by kernel_rfl
theorem facetf_n25 : facetf_R Try.prog facetf_f25 = .ok (.tuple [(.agg []), (.bool (.lit false))]) := by kernel_rfl
theorem facetf_n27 : facetf_R Try.prog facetf_f27 = .ok (.tuple [(.agg []), (.bool (.lit false))]) := by kernel_rfl
theorem facetf_n29 : facetf_R Try.prog facetf_f29 = .ok (.tuple [(.agg []), (.bool (.lit false))]) := by kernel_rfl
end Go.Proofs.Ytoiecphddchknaa
