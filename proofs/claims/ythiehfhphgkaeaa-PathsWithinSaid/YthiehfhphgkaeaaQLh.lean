/- What is proved: lives(): its run. No condition but the numbers' own bounds. -/
import Derived.Test.YthiehfhphgkaeaaQLe
set_option linter.unusedSimpArgs false
set_option linter.unusedVariables false
namespace Go.Proofs.Ythiehfhphgkaeaa
open Go Go.RowKit Sx Wi
def lives_F : FunS := ⟨[], heapOf GB, .lit true, (.bool (.lit true)), heapOf GB, (.bool (.lit true)), heapOf GB⟩
def lives_run (P : Program) (fs : List B) : Res SV := withCtx G GI [] fs fun X => exFunM P X GB ct_lines lpNil 4000 11 lives_F
end Go.Proofs.Ythiehfhphgkaeaa
