/- What is proved: what the run of a function comes to, on some of its ways. No condition. -/
import Derived.Test.YtoiecphddchknaaQa8
set_option linter.unusedSimpArgs false
set_option linter.unusedVariables false
set_option maxRecDepth 100000
namespace Go.Proofs.Ytoiecphddchknaa
open Go Go.RowKit Sx Wi
theorem facetf_n31 : facetf_R Try.prog facetf_f31 = .ok (.tuple [(.agg []), (.bool (.lit false))]) := by kernel_rfl
theorem facetf_n32 : facetf_R Try.prog facetf_f32 = .ok (.tuple [(.agg []), (.bool (.lit true))]) := by kernel_rfl
end Go.Proofs.Ytoiecphddchknaa
