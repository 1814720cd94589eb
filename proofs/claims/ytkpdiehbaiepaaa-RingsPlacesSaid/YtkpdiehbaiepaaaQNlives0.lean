/- What is proved: the run of a function over its ways, and what is known on each. No condition. -/
import Derived.Test.YtkpdiehbaiepaaaQg6
import Derived.Test.YtkpdiehbaiepaaaQg3
import Derived.Test.YtkpdiehbaiepaaaProg
set_option linter.unusedSimpArgs false
set_option linter.unusedVariables false
set_option maxRecDepth 100000
namespace Go.Proofs.Ytkpdiehbaiepaaa
open Go Go.RowKit Sx Wi
def lives_R (P : Program) (fs : List B) : Res SV := withCtx G GI [] fs (fun X => exFun P X GB ct_w 3000 14 [])
def lives_f0 : List B := []
theorem lives_n0 : lives_R Try.prog lives_f0 = .ok (.bool (.cmp .eq (.lit 1) (.lit 1))) := by kernel_rfl
end Go.Proofs.Ytkpdiehbaiepaaa
