/- What is proved: the run of a function over its ways, and what is known on each. No condition. -/
import Derived.Test.YtoiecphddchknaaQPo0
set_option linter.unusedSimpArgs false
set_option linter.unusedVariables false
set_option maxRecDepth 100000
namespace Go.Proofs.Ytoiecphddchknaa
open Go Go.RowKit Sx Wi
def pixf_R (P : Program) (fs : List B) : Res SV := pix_run P fs
def pixf_f0 : List B := []
theorem pixf_n0 : pixf_R Try.prog pixf_f0 = .ok (.tuple [(.agg []), (.bool (.lit true))]) := by kernel_rfl
end Go.Proofs.Ytoiecphddchknaa
