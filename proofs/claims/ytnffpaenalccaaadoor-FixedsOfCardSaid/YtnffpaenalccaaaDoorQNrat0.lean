/- What is proved: the run of a function over its ways, and what is known on each. No condition. -/
import Derived.Test.YtnffpaenalccaaaDoorQg4
import Derived.Test.YtnffpaenalccaaaDoorQg2
import Derived.Test.YtnffpaenalccaaaDoorProg
set_option linter.unusedSimpArgs false
set_option linter.unusedVariables false
set_option maxRecDepth 100000
namespace Go.Proofs.YtnffpaenalccaaaDoor
open Go Go.RowKit Sx Wi
def rat_R (P : Program) (fs : List B) : Res SV := withCtx G GI [((-9223372036854775808), 9223372036854775807), ((-9223372036854775808), 9223372036854775807)] fs (fun X => exFun P X GB ct_w 3000 25 [(.int .i64 (.var 0)), (.int .i64 (.var 1))])
def rat_f0 : List B := []
def rat_b0 : B := (.cmp .eq (.var 1) (.lit 0))
def rat_f1 : List B := grow rat_b0 ++ rat_f0
def rat_f2 : List B := grow (B.neg rat_b0) ++ rat_f0
def rat_b2 : B := (.cmp .eq (.var 1) (.lit (-9223372036854775808)))
def rat_f3 : List B := grow rat_b2 ++ rat_f2
def rat_f4 : List B := grow (B.neg rat_b2) ++ rat_f2
def rat_b4 : B := (.cmp .lt (.var 1) (.lit 0))
def rat_f5 : List B := grow rat_b4 ++ rat_f4
def rat_b5 : B := (.cmp .le (.lit (-9223372036854775808)) (.app 2 (.cons (.op .mul (.var 0) (.lit (-65536))) (.cons (.op .sub (.lit 0) (.var 1)) .nil))))
def rat_f6 : List B := grow rat_b5 ++ rat_f5
def rat_b6 : B := (.cmp .le (.app 2 (.cons (.op .mul (.var 0) (.lit (-65536))) (.cons (.op .sub (.lit 0) (.var 1)) .nil))) (.lit 9223372036854775807))
def rat_f7 : List B := grow rat_b6 ++ rat_f6
def rat_f8 : List B := grow (B.neg rat_b6) ++ rat_f6
def rat_f9 : List B := grow (B.neg rat_b5) ++ rat_f5
def rat_f10 : List B := grow (B.neg rat_b4) ++ rat_f4
def rat_b10 : B := (.cmp .le (.lit (-9223372036854775808)) (.app 2 (.cons (.op .mul (.var 0) (.lit 65536)) (.cons (.var 1) .nil))))
def rat_f11 : List B := grow rat_b10 ++ rat_f10
def rat_b11 : B := (.cmp .le (.app 2 (.cons (.op .mul (.var 0) (.lit 65536)) (.cons (.var 1) .nil))) (.lit 9223372036854775807))
def rat_f12 : List B := grow rat_b11 ++ rat_f11
def rat_f13 : List B := grow (B.neg rat_b11) ++ rat_f11
def rat_f14 : List B := grow (B.neg rat_b10) ++ rat_f10
theorem rat_n1 : rat_R Tryd.prog rat_f1 = .ok (.tuple [(.int .i32 (.lit 0)), (.int .i64 (.lit 12))]) := by kernel_rfl
theorem rat_n3 : rat_R Tryd.prog rat_f3 = .ok (.tuple [(.int .i32 (.op .max (.lit (-2147483648)) (.op .min (.lit 2147483647) (.app 2 (.cons (.op .mul (.var 0) (.lit (-32768))) (.cons (.lit 4611686018427387904) .nil)))))), (.int .i64 (.lit 0))]) := by kernel_rfl
theorem rat_n7 : rat_R Tryd.prog rat_f7 = .ok (.tuple [(.int .i32 (.op .max (.lit (-2147483648)) (.op .min (.lit 2147483647) (.app 2 (.cons (.op .mul (.var 0) (.lit (-65536))) (.cons (.op .sub (.lit 0) (.var 1)) .nil)))))), (.int .i64 (.lit 0))]) := by kernel_rfl
theorem rat_n8 : rat_R Tryd.prog rat_f8 = .ok (.tuple [(.int .i32 (.lit 2147483647)), (.int .i64 (.lit 0))]) := by kernel_rfl
theorem rat_n9 : rat_R Tryd.prog rat_f9 = .ok (.tuple [(.int .i32 (.lit (-2147483648))), (.int .i64 (.lit 0))]) := by kernel_rfl
theorem rat_n12 : rat_R Tryd.prog rat_f12 = .ok (.tuple [(.int .i32 (.op .max (.lit (-2147483648)) (.op .min (.lit 2147483647) (.app 2 (.cons (.op .mul (.var 0) (.lit 65536)) (.cons (.var 1) .nil)))))), (.int .i64 (.lit 0))]) := by kernel_rfl
theorem rat_n13 : rat_R Tryd.prog rat_f13 = .ok (.tuple [(.int .i32 (.lit 2147483647)), (.int .i64 (.lit 0))]) := by kernel_rfl
theorem rat_n14 : rat_R Tryd.prog rat_f14 = .ok (.tuple [(.int .i32 (.lit (-2147483648))), (.int .i64 (.lit 0))]) := by kernel_rfl
end Go.Proofs.YtnffpaenalccaaaDoor
