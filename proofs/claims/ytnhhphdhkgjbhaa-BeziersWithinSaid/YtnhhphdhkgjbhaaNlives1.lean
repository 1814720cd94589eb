/- What is proved: what the run of a function comes to, on some of its ways. No condition. -/
import Derived.Test.YtnhhphdhkgjbhaaNlives0
set_option linter.unusedVariables false
set_option maxRecDepth 100000
namespace Go.Proofs.Ytnhhphdhkgjbhaa
open Go Go.RowKit Sx Wi
theorem lives_n0 : exFun Try.prog (Ctx.more ⟨G, GI, [], lives_f0⟩) GB ct_w 3000 12 [] = .ok (.bool (.cmp .eq (.lit 1) (.lit 1))) := by kernel_rfl
end Go.Proofs.Ytnhhphdhkgjbhaa
