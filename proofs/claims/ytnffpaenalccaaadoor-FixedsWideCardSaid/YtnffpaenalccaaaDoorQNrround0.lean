/- What is proved: the run of a function over its ways, and what is known on each. No condition. -/
import Derived.Test.YtnffpaenalccaaaDoorQCa
import Derived.Test.YtnffpaenalccaaaDoorQPn
import Derived.Test.YtnffpaenalccaaaDoorQg2
import Derived.Test.YtnffpaenalccaaaDoorProg
set_option linter.unusedSimpArgs false
set_option linter.unusedVariables false
set_option maxRecDepth 100000
namespace Go.Proofs.YtnffpaenalccaaaDoor
open Go Go.RowKit Sx Wi
def rround_R (P : Program) (fs : List B) : Res SV := withCtx G GI [((-2147483648), 2147483647)] fs (fun X => exFun P X GB ct_hold 4000 22 [(.int .i32 (.var 0))])
def rround_f0 : List B := []
def rround_b0 : B := (.cmp .lt (.op .add (.var 0) (.lit 32768)) (.op .mul (.op .quo (.op .add (.var 0) (.lit 32768)) (.lit 65536)) (.lit 65536)))
def rround_f1 : List B := grow rround_b0 ++ rround_f0
def rround_b1 : B := (.cmp .lt (.op .sub (.op .mul (.op .quo (.op .add (.var 0) (.lit 32768)) (.lit 65536)) (.lit 65536)) (.lit 65536)) (.lit 0))
def rround_f2 : List B := grow rround_b1 ++ rround_f1
def rround_f3 : List B := grow (B.neg rround_b1) ++ rround_f1
def rround_f4 : List B := grow (B.neg rround_b0) ++ rround_f0
def rround_b4 : B := (.cmp .lt (.op .mul (.op .quo (.op .add (.var 0) (.lit 32768)) (.lit 65536)) (.lit 65536)) (.lit 0))
def rround_f5 : List B := grow rround_b4 ++ rround_f4
def rround_f6 : List B := grow (B.neg rround_b4) ++ rround_f4
theorem rround_n2 : rround_R Tryd.prog rround_f2 = .ok (.int .i32 (.op .max (.lit (-2147483648)) (.op .min (.lit 2147483647) (.app 2 (.cons (.op .sub (.lit 0) (.op .sub (.lit 0) (.op .sub (.op .mul (.op .quo (.op .add (.var 0) (.lit 32768)) (.lit 65536)) (.lit 65536)) (.lit 65536)))) (.cons (.lit 1) .nil)))))) := by kernel_rfl
theorem rround_n3 : rround_R Tryd.prog rround_f3 = .ok (.int .i32 (.op .max (.lit (-2147483648)) (.op .min (.lit 2147483647) (.app 2 (.cons (.op .sub (.op .mul (.op .quo (.op .add (.var 0) (.lit 32768)) (.lit 65536)) (.lit 65536)) (.lit 65536)) (.cons (.lit 1) .nil)))))) := by kernel_rfl
theorem rround_n5 : rround_R Tryd.prog rround_f5 = .ok (.int .i32 (.op .max (.lit (-2147483648)) (.op .min (.lit 2147483647) (.app 2 (.cons (.op .sub (.lit 0) (.op .sub (.lit 0) (.op .mul (.op .quo (.op .add (.var 0) (.lit 32768)) (.lit 65536)) (.lit 65536)))) (.cons (.lit 1) .nil)))))) := by kernel_rfl
theorem rround_n6 : rround_R Tryd.prog rround_f6 = .ok (.int .i32 (.op .max (.lit (-2147483648)) (.op .min (.lit 2147483647) (.app 2 (.cons (.op .mul (.op .quo (.op .add (.var 0) (.lit 32768)) (.lit 65536)) (.lit 65536)) (.cons (.lit 1) .nil)))))) := by kernel_rfl
end Go.Proofs.YtnffpaenalccaaaDoor
