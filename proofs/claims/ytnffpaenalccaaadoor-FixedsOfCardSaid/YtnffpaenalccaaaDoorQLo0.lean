/- What is proved: the run of a function over its ways, and what is known on each. No condition. -/
import Derived.Test.YtnffpaenalccaaaDoorQRf
set_option linter.unusedSimpArgs false
set_option linter.unusedVariables false
set_option maxRecDepth 100000
namespace Go.Proofs.YtnffpaenalccaaaDoor
open Go Go.RowKit Sx Wi
def fixedsOf_R (P : Program) (fs : List B) : Res SV := withCtx G GI [((-2147483648), 2147483647), ((-2147483648), 2147483647)] fs (fun X => exFun P X GB ct_rround 4000 4 [(.int .i32 (.var 0)), (.int .i32 (.var 1))])
def fixedsOf_f0 : List B := []
def fixedsOf_b0 : B := (.cmp .eq (.var 1) (.lit 0))
def fixedsOf_f1 : List B := grow fixedsOf_b0 ++ fixedsOf_f0
def fixedsOf_b1 : B := (.cmp .eq (.app 9 (.cons (.var 0) .nil)) (.wrap .i32 (.op .mul (.op .quo (.var 0) (.lit 65536)) (.lit 65536))))
def fixedsOf_f2 : List B := grow fixedsOf_b1 ++ fixedsOf_f1
def fixedsOf_f3 : List B := grow (B.neg fixedsOf_b1) ++ fixedsOf_f1
def fixedsOf_f4 : List B := grow (B.neg fixedsOf_b0) ++ fixedsOf_f0
def fixedsOf_b4 : B := (.cmp .eq (.app 9 (.cons (.var 0) .nil)) (.wrap .i32 (.op .mul (.op .quo (.var 0) (.lit 65536)) (.lit 65536))))
def fixedsOf_f5 : List B := grow fixedsOf_b4 ++ fixedsOf_f4
def fixedsOf_f6 : List B := grow (B.neg fixedsOf_b4) ++ fixedsOf_f4
theorem fixedsOf_n2 : fixedsOf_R Tryd.prog fixedsOf_f2 = .ok (.bool (.lit true)) := by kernel_rfl
theorem fixedsOf_n3 : fixedsOf_R Tryd.prog fixedsOf_f3 = .ok (.bool (.lit false)) := by kernel_rfl
theorem fixedsOf_n5 : fixedsOf_R Tryd.prog fixedsOf_f5 = .ok (.bool (.lit true)) := by kernel_rfl
theorem fixedsOf_n6 : fixedsOf_R Tryd.prog fixedsOf_f6 = .ok (.bool (.lit false)) := by kernel_rfl
end Go.Proofs.YtnffpaenalccaaaDoor
