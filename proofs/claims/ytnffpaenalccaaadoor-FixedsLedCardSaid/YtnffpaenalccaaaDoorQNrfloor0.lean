/- What is proved: the run of a function over its ways, and what is known on each. No condition. -/
import Derived.Test.YtnffpaenalccaaaDoorQCa
import Derived.Test.YtnffpaenalccaaaDoorQPn
import Derived.Test.YtnffpaenalccaaaDoorQg2
import Derived.Test.YtnffpaenalccaaaDoorProg
set_option linter.unusedSimpArgs false
set_option linter.unusedVariables false
set_option maxRecDepth 100000
namespace Go.Proofs.YtnffpaenalccaaaDoor
open Go Go.RowKit Sx Wi
def rfloor_R (P : Program) (fs : List B) : Res SV := withCtx G GI [((-2147483648), 2147483647)] fs (fun X => exFun P X GB ct_hold 4000 18 [(.int .i32 (.var 0))])
def rfloor_f0 : List B := []
def rfloor_b0 : B := (.cmp .lt (.var 0) (.op .mul (.op .quo (.var 0) (.lit 65536)) (.lit 65536)))
def rfloor_f1 : List B := grow rfloor_b0 ++ rfloor_f0
def rfloor_b1 : B := (.cmp .lt (.op .sub (.op .mul (.op .quo (.var 0) (.lit 65536)) (.lit 65536)) (.lit 65536)) (.lit 0))
def rfloor_f2 : List B := grow rfloor_b1 ++ rfloor_f1
def rfloor_f3 : List B := grow (B.neg rfloor_b1) ++ rfloor_f1
def rfloor_f4 : List B := grow (B.neg rfloor_b0) ++ rfloor_f0
def rfloor_b4 : B := (.cmp .lt (.op .mul (.op .quo (.var 0) (.lit 65536)) (.lit 65536)) (.lit 0))
def rfloor_f5 : List B := grow rfloor_b4 ++ rfloor_f4
def rfloor_f6 : List B := grow (B.neg rfloor_b4) ++ rfloor_f4
theorem rfloor_n2 : rfloor_R Tryd.prog rfloor_f2 = .ok (.int .i32 (.op .max (.lit (-2147483648)) (.op .min (.lit 2147483647) (.app 2 (.cons (.op .sub (.lit 0) (.op .sub (.lit 0) (.op .sub (.op .mul (.op .quo (.var 0) (.lit 65536)) (.lit 65536)) (.lit 65536)))) (.cons (.lit 1) .nil)))))) := by kernel_rfl
theorem rfloor_n3 : rfloor_R Tryd.prog rfloor_f3 = .ok (.int .i32 (.op .max (.lit (-2147483648)) (.op .min (.lit 2147483647) (.app 2 (.cons (.op .sub (.op .mul (.op .quo (.var 0) (.lit 65536)) (.lit 65536)) (.lit 65536)) (.cons (.lit 1) .nil)))))) := by kernel_rfl
theorem rfloor_n5 : rfloor_R Tryd.prog rfloor_f5 = .ok (.int .i32 (.op .max (.lit (-2147483648)) (.op .min (.lit 2147483647) (.app 2 (.cons (.op .sub (.lit 0) (.op .sub (.lit 0) (.op .mul (.op .quo (.var 0) (.lit 65536)) (.lit 65536)))) (.cons (.lit 1) .nil)))))) := by kernel_rfl
theorem rfloor_n6 : rfloor_R Tryd.prog rfloor_f6 = .ok (.int .i32 (.op .max (.lit (-2147483648)) (.op .min (.lit 2147483647) (.app 2 (.cons (.op .mul (.op .quo (.var 0) (.lit 65536)) (.lit 65536)) (.cons (.lit 1) .nil)))))) := by kernel_rfl
end Go.Proofs.YtnffpaenalccaaaDoor
