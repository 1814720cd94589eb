/- What is proved: the run of a function over its ways, and what is known on each. No condition. -/
import Derived.Test.YtnffpaenalccaaaDoorQg4
import Derived.Test.YtnffpaenalccaaaDoorQg2
import Derived.Test.YtnffpaenalccaaaDoorProg
set_option linter.unusedSimpArgs false
set_option linter.unusedVariables false
set_option maxRecDepth 100000
namespace Go.Proofs.YtnffpaenalccaaaDoor
open Go Go.RowKit Sx Wi
def ftrunc_R (P : Program) (fs : List B) : Res SV := withCtx G GI [((-2147483648), 2147483647)] fs (fun X => exFun P X GB ct_w 3000 23 [(.int .i32 (.var 0))])
def ftrunc_f0 : List B := []
def ftrunc_b0 : B := (.cmp .lt (.var 0) (.lit 0))
def ftrunc_f1 : List B := grow ftrunc_b0 ++ ftrunc_f0
def ftrunc_f2 : List B := grow (B.neg ftrunc_b0) ++ ftrunc_f0
theorem ftrunc_n1 : ftrunc_R Tryd.prog ftrunc_f1 = .ok (.int .i32 (.op .max (.lit (-2147483648)) (.op .min (.lit 2147483647) (.bit .andNot .i64 (.op .add (.var 0) (.lit 65535)) (.lit 65535))))) := by kernel_rfl
theorem ftrunc_n2 : ftrunc_R Tryd.prog ftrunc_f2 = .ok (.int .i32 (.op .max (.lit (-2147483648)) (.op .min (.lit 2147483647) (.bit .andNot .i64 (.var 0) (.lit 65535))))) := by kernel_rfl
end Go.Proofs.YtnffpaenalccaaaDoor
