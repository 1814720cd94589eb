/- What is proved: the run of a function over its ways, and what is known on each. No condition. -/
import Derived.Test.YtkpdiehbaiepaaaQg6
import Derived.Test.YtkpdiehbaiepaaaQg3
import Derived.Test.YtkpdiehbaiepaaaProg
set_option linter.unusedSimpArgs false
set_option linter.unusedVariables false
set_option maxRecDepth 100000
namespace Go.Proofs.Ytkpdiehbaiepaaa
open Go Go.RowKit Sx Wi
def edge_R (P : Program) (fs : List B) : Res SV := withCtx G GI [((-9223372036854775808), 9223372036854775807), ((-9223372036854775808), 9223372036854775807), ((-9223372036854775808), 9223372036854775807), ((-9223372036854775808), 9223372036854775807), ((-9223372036854775808), 9223372036854775807), ((-9223372036854775808), 9223372036854775807), ((-9223372036854775808), 9223372036854775807), ((-9223372036854775808), 9223372036854775807), ((-9223372036854775808), 9223372036854775807), ((-9223372036854775808), 9223372036854775807)] fs (fun X => exFun P X GB ct_w 4000 95 [(.agg [(.int .i64 (.var 0)), (.int .i64 (.var 1)), (.int .i64 (.var 2)), (.int .i64 (.var 3)), (.int .i64 (.var 4)), (.int .i64 (.var 5)), (.int .i64 (.var 6)), (.int .i64 (.var 7))]), (.int .i64 (.var 8)), (.int .i64 (.var 9))])
def edge_f0 : List B := []
def edge_b0 : B := (.cmp .le (.lit 0) (.var 9))
def edge_f1 : List B := grow edge_b0 ++ edge_f0
def edge_b1 : B := (.cmp .le (.var 9) (.lit 6))
def edge_f2 : List B := grow edge_b1 ++ edge_f1
def edge_b2 : B := (.cmp .le (.lit 0) (.var 8))
def edge_f3 : List B := grow edge_b2 ++ edge_f2
def edge_b3 : B := (.cmp .lt (.op .shl (.lit 1) (.var 9)) (.var 8))
def edge_f4 : List B := grow edge_b3 ++ edge_f3
def edge_f5 : List B := grow (B.neg edge_b3) ++ edge_f3
def edge_b5 : B := (.cmp .lt (.lit 1099511627776) (.op .max (.op .max (.op .max (.var 0) (.wrap .i64 (.op .sub (.lit 0) (.var 0)))) (.var 1)) (.wrap .i64 (.op .sub (.lit 0) (.var 1)))))
def edge_f6 : List B := grow edge_b5 ++ edge_f5
def edge_f7 : List B := grow (B.neg edge_b5) ++ edge_f5
def edge_b7 : B := (.cmp .lt (.op .min (.var 0) (.var 1)) (.lit (-1099511627776)))
def edge_f8 : List B := grow edge_b7 ++ edge_f7
def edge_f9 : List B := grow (B.neg edge_b7) ++ edge_f7
def edge_b9 : B := (.cmp .lt (.lit 1099511627776) (.op .max (.op .max (.op .max (.var 2) (.wrap .i64 (.op .sub (.lit 0) (.var 2)))) (.var 3)) (.wrap .i64 (.op .sub (.lit 0) (.var 3)))))
def edge_f10 : List B := grow edge_b9 ++ edge_f9
def edge_f11 : List B := grow (B.neg edge_b9) ++ edge_f9
def edge_b11 : B := (.cmp .lt (.op .min (.var 2) (.var 3)) (.lit (-1099511627776)))
def edge_f12 : List B := grow edge_b11 ++ edge_f11
def edge_f13 : List B := grow (B.neg edge_b11) ++ edge_f11
def edge_b13 : B := (.cmp .lt (.lit 1099511627776) (.op .max (.op .max (.op .max (.var 4) (.wrap .i64 (.op .sub (.lit 0) (.var 4)))) (.var 5)) (.wrap .i64 (.op .sub (.lit 0) (.var 5)))))
def edge_f14 : List B := grow edge_b13 ++ edge_f13
def edge_f15 : List B := grow (B.neg edge_b13) ++ edge_f13
def edge_b15 : B := (.cmp .lt (.op .min (.var 4) (.var 5)) (.lit (-1099511627776)))
def edge_f16 : List B := grow edge_b15 ++ edge_f15
def edge_f17 : List B := grow (B.neg edge_b15) ++ edge_f15
def edge_b17 : B := (.cmp .lt (.lit 1099511627776) (.op .max (.op .max (.op .max (.var 6) (.wrap .i64 (.op .sub (.lit 0) (.var 6)))) (.var 7)) (.wrap .i64 (.op .sub (.lit 0) (.var 7)))))
def edge_f18 : List B := grow edge_b17 ++ edge_f17
def edge_f19 : List B := grow (B.neg edge_b17) ++ edge_f17
def edge_b19 : B := (.cmp .lt (.op .min (.var 6) (.var 7)) (.lit (-1099511627776)))
def edge_f20 : List B := grow edge_b19 ++ edge_f19
def edge_f21 : List B := grow (B.neg edge_b19) ++ edge_f19
def edge_f22 : List B := grow (B.neg edge_b2) ++ edge_f2
def edge_f23 : List B := grow (B.neg edge_b1) ++ edge_f1
def edge_f24 : List B := grow (B.neg edge_b0) ++ edge_f0
theorem edge_n4 : edge_R Try.prog edge_f4 = .ok (.tuple [(.agg [(.int .i64 (.lit 0)), (.int .i64 (.lit 0))]), (.int .i64 (.lit 1))]) := by kernel_rfl
theorem edge_n6 : edge_R Try.prog edge_f6 = .ok (.tuple [(.agg [(.int .i64 (.lit 0)), (.int .i64 (.lit 0))]), (.int .i64 (.lit 1))]) := by kernel_rfl
theorem edge_n8 : edge_R Try.prog edge_f8 = .ok (.tuple [(.agg [(.int .i64 (.lit 0)), (.int .i64 (.lit 0))]), (.int .i64 (.lit 1))]) := by kernel_rfl
theorem edge_n10 : edge_R Try.prog edge_f10 = .ok (.tuple [(.agg [(.int .i64 (.lit 0)), (.int .i64 (.lit 0))]), (.int .i64 (.lit 1))]) := by kernel_rfl
theorem edge_n12 : edge_R Try.prog edge_f12 = .ok (.tuple [(.agg [(.int .i64 (.lit 0)), (.int .i64 (.lit 0))]), (.int .i64 (.lit 1))]) := by kernel_rfl
theorem edge_n14 : edge_R Try.prog edge_f14 = .ok (.tuple [(.agg [(.int .i64 (.lit 0)), (.int .i64 (.lit 0))]), (.int .i64 (.lit 1))]) := by kernel_rfl
theorem edge_n16 : edge_R Try.prog edge_f16 = .ok (.tuple [(.agg [(.int .i64 (.lit 0)), (.int .i64 (.lit 0))]), (.int .i64 (.lit 1))]) := by kernel_rfl
theorem edge_n18 : edge_R Try.prog edge_f18 = .ok (.tuple [(.agg [(.int .i64 (.lit 0)), (.int .i64 (.lit 0))]), (.int .i64 (.lit 1))]) := by kernel_rfl
theorem edge_n20 : edge_R Try.prog edge_f20 = .ok (.tuple [(.agg [(.int .i64 (.lit 0)), (.int .i64 (.lit 0))]), (.int .i64 (.lit 1))]) := by kernel_rfl
theorem edge_n21 : edge_R Try.prog edge_f21 = .ok (.tuple [(.agg [(.int .i64 (.app 2 (.cons (.op .add (.op .add (.op .add (.op .add (.lit 0) (.op .mul (.var 0) (.op .mul (.op .mul (.op .sub (.op .shl (.lit 1) (.var 9)) (.var 8)) (.op .sub (.op .shl (.lit 1) (.var 9)) (.var 8))) (.op .sub (.op .shl (.lit 1) (.var 9)) (.var 8))))) (.op .mul (.var 2) (.op .mul (.op .mul (.op .mul (.lit 3) (.op .sub (.op .shl (.lit 1) (.var 9)) (.var 8))) (.op .sub (.op .shl (.lit 1) (.var 9)) (.var 8))) (.var 8)))) (.op .mul (.var 4) (.op .mul (.op .mul (.op .mul (.lit 3) (.op .sub (.op .shl (.lit 1) (.var 9)) (.var 8))) (.var 8)) (.var 8)))) (.op .mul (.var 6) (.op .mul (.op .mul (.var 8) (.var 8)) (.var 8)))) (.cons (.op .shl (.lit 256) (.op .mul (.lit 3) (.var 9))) .nil)))), (.int .i64 (.app 2 (.cons (.op .add (.op .add (.op .add (.op .add (.lit 0) (.op .mul (.var 1) (.op .mul (.op .mul (.op .sub (.op .shl (.lit 1) (.var 9)) (.var 8)) (.op .sub (.op .shl (.lit 1) (.var 9)) (.var 8))) (.op .sub (.op .shl (.lit 1) (.var 9)) (.var 8))))) (.op .mul (.var 3) (.op .mul (.op .mul (.op .mul (.lit 3) (.op .sub (.op .shl (.lit 1) (.var 9)) (.var 8))) (.op .sub (.op .shl (.lit 1) (.var 9)) (.var 8))) (.var 8)))) (.op .mul (.var 5) (.op .mul (.op .mul (.op .mul (.lit 3) (.op .sub (.op .shl (.lit 1) (.var 9)) (.var 8))) (.var 8)) (.var 8)))) (.op .mul (.var 7) (.op .mul (.op .mul (.var 8) (.var 8)) (.var 8)))) (.cons (.op .shl (.lit 256) (.op .mul (.lit 3) (.var 9))) .nil))))]), (.int .i64 (.lit 0))]) := by kernel_rfl
theorem edge_n22 : edge_R Try.prog edge_f22 = .ok (.tuple [(.agg [(.int .i64 (.lit 0)), (.int .i64 (.lit 0))]), (.int .i64 (.lit 1))]) := by kernel_rfl
theorem edge_n23 : edge_R Try.prog edge_f23 = .ok (.tuple [(.agg [(.int .i64 (.lit 0)), (.int .i64 (.lit 0))]), (.int .i64 (.lit 1))]) := by kernel_rfl
theorem edge_n24 : edge_R Try.prog edge_f24 = .ok (.tuple [(.agg [(.int .i64 (.lit 0)), (.int .i64 (.lit 0))]), (.int .i64 (.lit 1))]) := by kernel_rfl
end Go.Proofs.Ytkpdiehbaiepaaa
