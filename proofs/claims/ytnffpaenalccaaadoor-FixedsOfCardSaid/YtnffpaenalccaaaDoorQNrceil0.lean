/- What is proved: the run of a function over its ways, and what is known on each. No condition. -/
import Derived.Test.YtnffpaenalccaaaDoorQCa
import Derived.Test.YtnffpaenalccaaaDoorQPn
import Derived.Test.YtnffpaenalccaaaDoorQg2
import Derived.Test.YtnffpaenalccaaaDoorProg
set_option linter.unusedSimpArgs false
set_option linter.unusedVariables false
set_option maxRecDepth 100000
namespace Go.Proofs.YtnffpaenalccaaaDoor
open Go Go.RowKit Sx Wi
def rceil_R (P : Program) (fs : List B) : Res SV := withCtx G GI [((-2147483648), 2147483647)] fs (fun X => exFun P X GB ct_hold 4000 20 [(.int .i32 (.var 0))])
def rceil_f0 : List B := []
def rceil_b0 : B := (.cmp .lt (.op .sub (.lit 0) (.var 0)) (.op .mul (.op .quo (.op .sub (.lit 0) (.var 0)) (.lit 65536)) (.lit 65536)))
def rceil_f1 : List B := grow rceil_b0 ++ rceil_f0
def rceil_b1 : B := (.cmp .lt (.op .sub (.lit 0) (.op .sub (.op .mul (.op .quo (.op .sub (.lit 0) (.var 0)) (.lit 65536)) (.lit 65536)) (.lit 65536))) (.lit 0))
def rceil_f2 : List B := grow rceil_b1 ++ rceil_f1
def rceil_f3 : List B := grow (B.neg rceil_b1) ++ rceil_f1
def rceil_f4 : List B := grow (B.neg rceil_b0) ++ rceil_f0
def rceil_b4 : B := (.cmp .lt (.op .sub (.lit 0) (.op .mul (.op .quo (.op .sub (.lit 0) (.var 0)) (.lit 65536)) (.lit 65536))) (.lit 0))
def rceil_f5 : List B := grow rceil_b4 ++ rceil_f4
def rceil_f6 : List B := grow (B.neg rceil_b4) ++ rceil_f4
theorem rceil_n2 : rceil_R Tryd.prog rceil_f2 = .ok (.int .i32 (.op .max (.lit (-2147483648)) (.op .min (.lit 2147483647) (.app 2 (.cons (.op .sub (.lit 0) (.op .sub (.lit 0) (.op .sub (.lit 0) (.op .sub (.op .mul (.op .quo (.op .sub (.lit 0) (.var 0)) (.lit 65536)) (.lit 65536)) (.lit 65536))))) (.cons (.lit 1) .nil)))))) := by kernel_rfl
theorem rceil_n3 : rceil_R Tryd.prog rceil_f3 = .ok (.int .i32 (.op .max (.lit (-2147483648)) (.op .min (.lit 2147483647) (.app 2 (.cons (.op .sub (.lit 0) (.op .sub (.op .mul (.op .quo (.op .sub (.lit 0) (.var 0)) (.lit 65536)) (.lit 65536)) (.lit 65536))) (.cons (.lit 1) .nil)))))) := by kernel_rfl
theorem rceil_n5 : rceil_R Tryd.prog rceil_f5 = .ok (.int .i32 (.op .max (.lit (-2147483648)) (.op .min (.lit 2147483647) (.app 2 (.cons (.op .sub (.lit 0) (.op .sub (.lit 0) (.op .sub (.lit 0) (.op .mul (.op .quo (.op .sub (.lit 0) (.var 0)) (.lit 65536)) (.lit 65536))))) (.cons (.lit 1) .nil)))))) := by kernel_rfl
theorem rceil_n6 : rceil_R Tryd.prog rceil_f6 = .ok (.int .i32 (.op .max (.lit (-2147483648)) (.op .min (.lit 2147483647) (.app 2 (.cons (.op .sub (.lit 0) (.op .mul (.op .quo (.op .sub (.lit 0) (.var 0)) (.lit 65536)) (.lit 65536))) (.cons (.lit 1) .nil)))))) := by kernel_rfl
end Go.Proofs.YtnffpaenalccaaaDoor
