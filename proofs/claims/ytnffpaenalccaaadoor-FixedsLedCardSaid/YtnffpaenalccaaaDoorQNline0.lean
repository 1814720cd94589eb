/- What is proved: the run of a function over its ways, and what is known on each. No condition. -/
import Derived.Test.YtnffpaenalccaaaDoorQg4
import Derived.Test.YtnffpaenalccaaaDoorQg2
import Derived.Test.YtnffpaenalccaaaDoorProg
set_option linter.unusedSimpArgs false
set_option linter.unusedVariables false
set_option maxRecDepth 100000
namespace Go.Proofs.YtnffpaenalccaaaDoor
open Go Go.RowKit Sx Wi
def line_R (P : Program) (fs : List B) : Res SV := withCtx G GI [((-2147483648), 2147483647), ((-2147483648), 2147483647), ((-2147483648), 2147483647), ((-2147483648), 2147483647), ((-2147483648), 2147483647)] fs (fun X => exFun P X GB ct_w 3000 6 [(.int .i32 (.var 0)), (.agg [(.int .i32 (.var 1)), (.int .i32 (.var 2))]), (.agg [(.int .i32 (.var 3)), (.int .i32 (.var 4))])])
def line_f0 : List B := []
def line_b0 : B := (.cmp .eq (.op .sub (.var 2) (.var 1)) (.lit 0))
def line_f1 : List B := grow line_b0 ++ line_f0
def line_f2 : List B := grow (B.neg line_b0) ++ line_f0
def line_b2 : B := (.cmp .lt (.op .sub (.var 2) (.var 1)) (.lit 0))
def line_f3 : List B := grow line_b2 ++ line_f2
def line_b3 : B := (.cmp .le (.lit (-9223372036854775808)) (.app 2 (.cons (.op .add (.op .mul (.op .sub (.lit 0) (.op .sub (.var 0) (.var 1))) (.op .sub (.var 4) (.var 3))) (.op .mul (.var 3) (.op .sub (.lit 0) (.op .sub (.var 2) (.var 1))))) (.cons (.op .sub (.lit 0) (.op .sub (.var 2) (.var 1))) .nil))))
def line_f4 : List B := grow line_b3 ++ line_f3
def line_b4 : B := (.cmp .le (.app 2 (.cons (.op .add (.op .mul (.op .sub (.lit 0) (.op .sub (.var 0) (.var 1))) (.op .sub (.var 4) (.var 3))) (.op .mul (.var 3) (.op .sub (.lit 0) (.op .sub (.var 2) (.var 1))))) (.cons (.op .sub (.lit 0) (.op .sub (.var 2) (.var 1))) .nil))) (.lit 9223372036854775807))
def line_f5 : List B := grow line_b4 ++ line_f4
def line_f6 : List B := grow (B.neg line_b4) ++ line_f4
def line_f7 : List B := grow (B.neg line_b3) ++ line_f3
def line_f8 : List B := grow (B.neg line_b2) ++ line_f2
def line_b8 : B := (.cmp .le (.lit (-9223372036854775808)) (.app 2 (.cons (.op .add (.op .mul (.op .sub (.var 0) (.var 1)) (.op .sub (.var 4) (.var 3))) (.op .mul (.var 3) (.op .sub (.var 2) (.var 1)))) (.cons (.op .sub (.var 2) (.var 1)) .nil))))
def line_f9 : List B := grow line_b8 ++ line_f8
def line_b9 : B := (.cmp .le (.app 2 (.cons (.op .add (.op .mul (.op .sub (.var 0) (.var 1)) (.op .sub (.var 4) (.var 3))) (.op .mul (.var 3) (.op .sub (.var 2) (.var 1)))) (.cons (.op .sub (.var 2) (.var 1)) .nil))) (.lit 9223372036854775807))
def line_f10 : List B := grow line_b9 ++ line_f9
def line_f11 : List B := grow (B.neg line_b9) ++ line_f9
def line_f12 : List B := grow (B.neg line_b8) ++ line_f8
theorem line_n1 : line_R Tryd.prog line_f1 = .ok (.tuple [(.int .i32 (.lit 0)), (.int .i64 (.lit 12))]) := by kernel_rfl
theorem line_n5 : line_R Tryd.prog line_f5 = .ok (.tuple [(.int .i32 (.op .max (.lit (-2147483648)) (.op .min (.lit 2147483647) (.app 2 (.cons (.op .add (.op .mul (.op .sub (.lit 0) (.op .sub (.var 0) (.var 1))) (.op .sub (.var 4) (.var 3))) (.op .mul (.var 3) (.op .sub (.lit 0) (.op .sub (.var 2) (.var 1))))) (.cons (.op .sub (.lit 0) (.op .sub (.var 2) (.var 1))) .nil)))))), (.int .i64 (.lit 0))]) := by kernel_rfl
theorem line_n6 : line_R Tryd.prog line_f6 = .ok (.tuple [(.int .i32 (.lit 2147483647)), (.int .i64 (.lit 0))]) := by kernel_rfl
theorem line_n7 : line_R Tryd.prog line_f7 = .ok (.tuple [(.int .i32 (.lit (-2147483648))), (.int .i64 (.lit 0))]) := by kernel_rfl
theorem line_n10 : line_R Tryd.prog line_f10 = .ok (.tuple [(.int .i32 (.op .max (.lit (-2147483648)) (.op .min (.lit 2147483647) (.app 2 (.cons (.op .add (.op .mul (.op .sub (.var 0) (.var 1)) (.op .sub (.var 4) (.var 3))) (.op .mul (.var 3) (.op .sub (.var 2) (.var 1)))) (.cons (.op .sub (.var 2) (.var 1)) .nil)))))), (.int .i64 (.lit 0))]) := by kernel_rfl
theorem line_n11 : line_R Tryd.prog line_f11 = .ok (.tuple [(.int .i32 (.lit 2147483647)), (.int .i64 (.lit 0))]) := by kernel_rfl
theorem line_n12 : line_R Tryd.prog line_f12 = .ok (.tuple [(.int .i32 (.lit (-2147483648))), (.int .i64 (.lit 0))]) := by kernel_rfl
end Go.Proofs.YtnffpaenalccaaaDoor
