/- What is proved: the run of a function over its ways, and what is known on each: no theorem, the words alone. No condition. -/
import Derived.Test.YtldoimianllcdaaNx
import Derived.Test.YtldoimianllcdaaTo
import Derived.Test.YtldoimianllcdaaProg
set_option linter.unusedVariables false
set_option maxRecDepth 100000
namespace Go.Proofs.Ytldoimianllcdaa
open Go Go.RowKit Sx Wi
def lives_f0 : List B := []
end Go.Proofs.Ytldoimianllcdaa
