/- What is proved: the run of a function over its ways, and what is known on each. No condition. -/
import Derived.Test.YtnffpaenalccaaaDoorQCa
import Derived.Test.YtnffpaenalccaaaDoorQPn
import Derived.Test.YtnffpaenalccaaaDoorQg2
import Derived.Test.YtnffpaenalccaaaDoorProg
set_option linter.unusedSimpArgs false
set_option linter.unusedVariables false
set_option maxRecDepth 100000
namespace Go.Proofs.YtnffpaenalccaaaDoor
open Go Go.RowKit Sx Wi
def rsat_R (P : Program) (fs : List B) : Res SV := withCtx G GI [((-9223372036854775808), 9223372036854775807)] fs (fun X => exFun P X GB ct_hold 4000 28 [(.int .i64 (.var 0))])
def rsat_f0 : List B := []
def rsat_b0 : B := (.cmp .lt (.var 0) (.lit 0))
def rsat_f1 : List B := grow rsat_b0 ++ rsat_f0
def rsat_f2 : List B := grow (B.neg rsat_b0) ++ rsat_f0
theorem rsat_n1 : rsat_R Tryd.prog rsat_f1 = .ok (.int .i32 (.op .max (.lit (-2147483648)) (.op .min (.lit 2147483647) (.app 2 (.cons (.op .sub (.lit 0) (.op .sub (.lit 0) (.var 0))) (.cons (.lit 1) .nil)))))) := by kernel_rfl
theorem rsat_n2 : rsat_R Tryd.prog rsat_f2 = .ok (.int .i32 (.op .max (.lit (-2147483648)) (.op .min (.lit 2147483647) (.app 2 (.cons (.var 0) (.cons (.lit 1) .nil)))))) := by kernel_rfl
end Go.Proofs.YtnffpaenalccaaaDoor
