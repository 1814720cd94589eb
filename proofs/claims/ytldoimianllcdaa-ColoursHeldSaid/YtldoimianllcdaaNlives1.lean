/- What is proved: what the run of a function comes to, on some of its ways. No condition. -/
import Derived.Test.YtldoimianllcdaaNlives0
set_option linter.unusedVariables false
set_option maxRecDepth 100000
namespace Go.Proofs.Ytldoimianllcdaa
open Go Go.RowKit Sx Wi
theorem lives_n0 : exFun Try.prog (Ctx.more ⟨G, GI, [], lives_f0⟩) GB ct_w 4000 17 [] = .ok (.bool (.cmp .eq (.lit 0) (.lit 0))) := by kernel_rfl
end Go.Proofs.Ytldoimianllcdaa
