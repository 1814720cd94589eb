/- What is proved: the run of a function over its ways, and what is known on each. No condition. -/
import Derived.Test.YtldoimianllcdaaNx
import Derived.Test.YtldoimianllcdaaTo
import Derived.Test.YtldoimianllcdaaProg
set_option linter.unusedVariables false
set_option maxRecDepth 100000
namespace Go.Proofs.Ytldoimianllcdaa
open Go Go.RowKit Sx Wi
def lives_f0 : List B := []
theorem lives_n0 : exFun Try.prog (Ctx.more ⟨G, GI, [], lives_f0⟩) GB ct_w 4000 17 [] = .ok (.bool (.cmp .eq (.lit 0) (.lit 0))) := by kernel_rfl
end Go.Proofs.Ytldoimianllcdaa
