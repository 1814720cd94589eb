/- What is proved: the run of a function over its ways, and what is known on each: no theorem, the words alone. No condition. -/
import Derived.Test.YtnhhphdhkgjbhaaNx
import Derived.Test.YtnhhphdhkgjbhaaProg
set_option linter.unusedVariables false
set_option maxRecDepth 100000
namespace Go.Proofs.Ytnhhphdhkgjbhaa
open Go Go.RowKit Sx Wi
def lives_f0 : List B := []
end Go.Proofs.Ytnhhphdhkgjbhaa
