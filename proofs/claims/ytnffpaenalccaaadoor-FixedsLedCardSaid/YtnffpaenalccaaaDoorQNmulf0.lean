/- What is proved: the run of a function over its ways, and what is known on each. No condition. -/
import Derived.Test.YtnffpaenalccaaaDoorQg4
import Derived.Test.YtnffpaenalccaaaDoorQg2
import Derived.Test.YtnffpaenalccaaaDoorProg
set_option linter.unusedSimpArgs false
set_option linter.unusedVariables false
set_option maxRecDepth 100000
namespace Go.Proofs.YtnffpaenalccaaaDoor
open Go Go.RowKit Sx Wi
def mulf_R (P : Program) (fs : List B) : Res SV := withCtx G GI [((-2147483648), 2147483647), ((-2147483648), 2147483647)] fs (fun X => exFun P X GB ct_w 3000 15 [(.int .i32 (.var 0)), (.int .i32 (.var 1))])
def mulf_f0 : List B := []
theorem mulf_n0 : mulf_R Tryd.prog mulf_f0 = .ok (.int .i32 (.op .max (.lit (-2147483648)) (.op .min (.lit 2147483647) (.app 2 (.cons (.op .mul (.var 0) (.var 1)) (.cons (.lit 65536) .nil)))))) := by kernel_rfl
end Go.Proofs.YtnffpaenalccaaaDoor
