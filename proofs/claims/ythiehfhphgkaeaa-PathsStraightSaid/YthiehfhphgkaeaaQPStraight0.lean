/- What is proved: the law Straight: its states. No condition but the numbers' own bounds. -/
import Derived.Test.YthiehfhphgkaeaaQLi
set_option linter.unusedSimpArgs false
set_option linter.unusedVariables false
namespace Go.Proofs.Ythiehfhphgkaeaa
open Go Go.RowKit Sx Wi
def pathsStraight_lp : Loops := lpNil
def pathsStraight_run (P : Program) (fs : List B) : Res SV := withCtx G GI [(-2147483648, 2147483647), (-2147483648, 2147483647), (-32768, 32767), (-32768, 32767)] fs fun X => exFunL P X GB ct_lv pathsStraight_lp 4000 6 [(.int .i32 (.var 0)), (.int .i32 (.var 1)), (.agg [(.int .i16 (.var 2)), (.int .i16 (.var 3))])]
end Go.Proofs.Ythiehfhphgkaeaa
