/- What is proved: the run of a function over its ways, and what is known on each. No condition. -/
import Derived.Test.YthiehfhphgkaeaaQLd
set_option linter.unusedSimpArgs false
set_option linter.unusedVariables false
set_option maxRecDepth 100000
namespace Go.Proofs.Ythiehfhphgkaeaa
open Go Go.RowKit Sx Wi
def linek3_R (P : Program) (fs : List B) : Res SV := linek_run3 P fs
def linek3_f0 : List B := []
theorem linek3_n0 : linek3_R Try.prog linek3_f0 = .ok (.tuple [(.agg []), (.bool (.lit true))]) := by kernel_rfl
end Go.Proofs.Ythiehfhphgkaeaa
