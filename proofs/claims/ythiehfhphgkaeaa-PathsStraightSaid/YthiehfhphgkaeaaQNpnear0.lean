/- What is proved: the run of a function over its ways, and what is known on each. No condition. -/
import Derived.Test.YthiehfhphgkaeaaQg6
import Derived.Test.YthiehfhphgkaeaaQg3
import Derived.Test.YthiehfhphgkaeaaProg
set_option linter.unusedSimpArgs false
set_option linter.unusedVariables false
set_option maxRecDepth 100000
namespace Go.Proofs.Ythiehfhphgkaeaa
open Go Go.RowKit Sx Wi
def pnear_R (P : Program) (fs : List B) : Res SV := withCtx G GI [((-4503599627370496), 4503599627370496), (1, 262144)] fs (fun X => exFun P X GB ct_w 4000 29 [(.int .i64 (.var 0)), (.int .i64 (.var 1))])
def pnear_f0 : List B := []
theorem pnear_n0 : pnear_R Try.prog pnear_f0 = .ok (.int .i64 (.app 2 (.cons (.var 0) (.cons (.op .mul (.var 1) (.lit 256)) .nil)))) := by kernel_rfl
end Go.Proofs.Ythiehfhphgkaeaa
