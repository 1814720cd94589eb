/- What is proved: the run of a function over its ways, and what is known on each. No condition. -/
import Derived.Test.YtnffpaenalccaaaDoorQRf
set_option linter.unusedSimpArgs false
set_option linter.unusedVariables false
set_option maxRecDepth 100000
namespace Go.Proofs.YtnffpaenalccaaaDoor
open Go Go.RowKit Sx Wi
def fixedsLed_R (P : Program) (fs : List B) : Res SV := withCtx G GI [((-2147483648), 2147483647), ((-2147483648), 2147483647), ((-2147483648), 2147483647), ((-2147483648), 2147483647), ((-2147483648), 2147483647)] fs (fun X => exFun P X GB ct_rround 4000 3 [(.int .i32 (.var 0)), (.agg [(.int .i32 (.var 1)), (.int .i32 (.var 2))]), (.agg [(.int .i32 (.var 3)), (.int .i32 (.var 4))])])
def fixedsLed_f0 : List B := []
def fixedsLed_b0 : B := (.cmp .eq (.op .sub (.var 2) (.var 1)) (.lit 0))
def fixedsLed_f1 : List B := grow fixedsLed_b0 ++ fixedsLed_f0
def fixedsLed_f2 : List B := grow (B.neg fixedsLed_b0) ++ fixedsLed_f0
theorem fixedsLed_n1 : fixedsLed_R Tryd.prog fixedsLed_f1 = .ok (.bool (.lit true)) := by kernel_rfl
theorem fixedsLed_n2 : fixedsLed_R Tryd.prog fixedsLed_f2 = .ok (.bool (.lit true)) := by kernel_rfl
end Go.Proofs.YtnffpaenalccaaaDoor
