/- What is proved: the run of a function over its ways, and what is known on each. No condition. -/
import Derived.Test.YtnffpaenalccaaaDoorQCa
import Derived.Test.YtnffpaenalccaaaDoorQPn
import Derived.Test.YtnffpaenalccaaaDoorQg2
import Derived.Test.YtnffpaenalccaaaDoorProg
set_option linter.unusedSimpArgs false
set_option linter.unusedVariables false
set_option maxRecDepth 100000
namespace Go.Proofs.YtnffpaenalccaaaDoor
open Go Go.RowKit Sx Wi
def rmul_R (P : Program) (fs : List B) : Res SV := withCtx G GI [((-2147483648), 2147483647), ((-2147483648), 2147483647)] fs (fun X => exFun P X GB ct_hold 4000 16 [(.int .i32 (.var 0)), (.int .i32 (.var 1))])
def rmul_f0 : List B := []
def rmul_b0 : B := (.cmp .lt (.var 0) (.lit 0))
def rmul_f1 : List B := grow rmul_b0 ++ rmul_f0
def rmul_b1 : B := (.cmp .lt (.var 1) (.lit 0))
def rmul_f2 : List B := grow rmul_b1 ++ rmul_f1
def rmul_f3 : List B := grow (B.neg rmul_b1) ++ rmul_f1
def rmul_f4 : List B := grow (B.neg rmul_b0) ++ rmul_f0
def rmul_b4 : B := (.cmp .lt (.var 1) (.lit 0))
def rmul_f5 : List B := grow rmul_b4 ++ rmul_f4
def rmul_f6 : List B := grow (B.neg rmul_b4) ++ rmul_f4
theorem rmul_n2 : rmul_R Tryd.prog rmul_f2 = .ok (.int .i32 (.op .max (.lit (-2147483648)) (.op .min (.lit 2147483647) (.app 2 (.cons (.op .mul (.op .sub (.lit 0) (.var 0)) (.op .sub (.lit 0) (.var 1))) (.cons (.lit 65536) .nil)))))) := by kernel_rfl
theorem rmul_n3 : rmul_R Tryd.prog rmul_f3 = .ok (.int .i32 (.op .max (.lit (-2147483648)) (.op .min (.lit 2147483647) (.app 2 (.cons (.op .sub (.lit 0) (.op .mul (.op .sub (.lit 0) (.var 0)) (.var 1))) (.cons (.lit 65536) .nil)))))) := by kernel_rfl
theorem rmul_n5 : rmul_R Tryd.prog rmul_f5 = .ok (.int .i32 (.op .max (.lit (-2147483648)) (.op .min (.lit 2147483647) (.app 2 (.cons (.op .sub (.lit 0) (.op .mul (.var 0) (.op .sub (.lit 0) (.var 1)))) (.cons (.lit 65536) .nil)))))) := by kernel_rfl
theorem rmul_n6 : rmul_R Tryd.prog rmul_f6 = .ok (.int .i32 (.op .max (.lit (-2147483648)) (.op .min (.lit 2147483647) (.app 2 (.cons (.op .mul (.var 0) (.var 1)) (.cons (.lit 65536) .nil)))))) := by kernel_rfl
end Go.Proofs.YtnffpaenalccaaaDoor
