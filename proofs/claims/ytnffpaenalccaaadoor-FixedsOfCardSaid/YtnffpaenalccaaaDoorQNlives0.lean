/- What is proved: the run of a function over its ways, and what is known on each. No condition. -/
import Derived.Test.YtnffpaenalccaaaDoorQg4
import Derived.Test.YtnffpaenalccaaaDoorQg2
import Derived.Test.YtnffpaenalccaaaDoorProg
set_option linter.unusedSimpArgs false
set_option linter.unusedVariables false
set_option maxRecDepth 100000
namespace Go.Proofs.YtnffpaenalccaaaDoor
open Go Go.RowKit Sx Wi
def lives_R (P : Program) (fs : List B) : Res SV := withCtx G GI [] fs (fun X => exFun P X GB ct_w 3000 8 [])
def lives_f0 : List B := []
theorem lives_n0 : lives_R Tryd.prog lives_f0 = .ok (.bool (.cmp .eq (.lit 2147483647) (.lit 2147483647))) := by kernel_rfl
end Go.Proofs.YtnffpaenalccaaaDoor
