/- What is proved: the run of a function over its ways, and what is known on each. No condition. -/
import Derived.Test.YtnffpaenalccaaaDoorQg4
import Derived.Test.YtnffpaenalccaaaDoorQg2
import Derived.Test.YtnffpaenalccaaaDoorProg
set_option linter.unusedSimpArgs false
set_option linter.unusedVariables false
set_option maxRecDepth 100000
namespace Go.Proofs.YtnffpaenalccaaaDoor
open Go Go.RowKit Sx Wi
def fceil_R (P : Program) (fs : List B) : Res SV := withCtx G GI [((-2147483648), 2147483647)] fs (fun X => exFun P X GB ct_w 3000 19 [(.int .i32 (.var 0))])
def fceil_f0 : List B := []
theorem fceil_n0 : fceil_R Tryd.prog fceil_f0 = .ok (.int .i32 (.op .max (.lit (-2147483648)) (.op .min (.lit 2147483647) (.bit .andNot .i64 (.op .add (.var 0) (.lit 65535)) (.lit 65535))))) := by kernel_rfl
end Go.Proofs.YtnffpaenalccaaaDoor
