/- What is proved: what the run of a function comes to, on some of its ways. No condition. -/
import Derived.Test.YtaballahjgegdaaDoorLw0
set_option linter.unusedVariables false
set_option maxRecDepth 100000
namespace Go.Proofs.YtaballahjgegdaaDoor
open Go Go.RowKit Sx Wi
theorem fixedsWhole_n150 : exFun Tryd.prog ⟨G, GI, [((-2147483648), 2147483647)], fixedsWhole_f150⟩ GB ct_ftrunc 4000 4 [(.int .i32 (.var 0))] = .ok (.bool (.lit true)) := by kernel_rfl
end Go.Proofs.YtaballahjgegdaaDoor
