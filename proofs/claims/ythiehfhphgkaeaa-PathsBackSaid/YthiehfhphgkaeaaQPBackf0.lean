/- What is proved: the run of a function over its ways, and what is known on each. No condition. -/
import Derived.Test.YthiehfhphgkaeaaQPBack0
set_option linter.unusedSimpArgs false
set_option linter.unusedVariables false
set_option maxRecDepth 100000
namespace Go.Proofs.Ythiehfhphgkaeaa
open Go Go.RowKit Sx Wi
def pathsBack_R (P : Program) (fs : List B) : Res SV := pathsBack_run P fs
def pathsBack_f0 : List B := []
def pathsBack_b0 : B := (.cmp .ne (.op .add (.op .shl (.lit 1) (.app 43 (.cons (.var 0) (.cons (.var 1) (.cons (.var 2) (.cons (.var 3) (.cons (.var 4) (.cons (.var 5) (.cons (.var 6) (.cons (.var 7) .nil)))))))))) (.lit 1)) (.op .add (.op .shl (.lit 1) (.app 43 (.cons (.var 6) (.cons (.var 7) (.cons (.var 4) (.cons (.var 5) (.cons (.var 2) (.cons (.var 3) (.cons (.var 0) (.cons (.var 1) .nil)))))))))) (.lit 1)))
def pathsBack_f1 : List B := grow pathsBack_b0 ++ pathsBack_f0
def pathsBack_f2 : List B := grow (B.neg pathsBack_b0) ++ pathsBack_f0
def pathsBack_b2 : B := (.cmp .eq (.op .add (.op .shl (.lit 1) (.app 43 (.cons (.var 0) (.cons (.var 1) (.cons (.var 2) (.cons (.var 3) (.cons (.var 4) (.cons (.var 5) (.cons (.var 6) (.cons (.var 7) .nil)))))))))) (.lit 1)) (.lit 2))
def pathsBack_f3 : List B := grow pathsBack_b2 ++ pathsBack_f2
def pathsBack_f4 : List B := grow (B.neg pathsBack_b2) ++ pathsBack_f2
def pathsBack_b4 : B := (.cmp .eq (.op .add (.op .shl (.lit 1) (.app 43 (.cons (.var 0) (.cons (.var 1) (.cons (.var 2) (.cons (.var 3) (.cons (.var 4) (.cons (.var 5) (.cons (.var 6) (.cons (.var 7) .nil)))))))))) (.lit 1)) (.lit 3))
def pathsBack_f5 : List B := grow pathsBack_b4 ++ pathsBack_f4
def pathsBack_f6 : List B := grow (B.neg pathsBack_b4) ++ pathsBack_f4
def pathsBack_b6 : B := (.cmp .eq (.op .add (.op .shl (.lit 1) (.app 43 (.cons (.var 0) (.cons (.var 1) (.cons (.var 2) (.cons (.var 3) (.cons (.var 4) (.cons (.var 5) (.cons (.var 6) (.cons (.var 7) .nil)))))))))) (.lit 1)) (.lit 5))
def pathsBack_f7 : List B := grow pathsBack_b6 ++ pathsBack_f6
def pathsBack_f8 : List B := grow (B.neg pathsBack_b6) ++ pathsBack_f6
def pathsBack_b8 : B := (.cmp .eq (.op .add (.op .shl (.lit 1) (.app 43 (.cons (.var 0) (.cons (.var 1) (.cons (.var 2) (.cons (.var 3) (.cons (.var 4) (.cons (.var 5) (.cons (.var 6) (.cons (.var 7) .nil)))))))))) (.lit 1)) (.lit 9))
def pathsBack_f9 : List B := grow pathsBack_b8 ++ pathsBack_f8
def pathsBack_f10 : List B := grow (B.neg pathsBack_b8) ++ pathsBack_f8
def pathsBack_b10 : B := (.cmp .eq (.op .add (.op .shl (.lit 1) (.app 43 (.cons (.var 0) (.cons (.var 1) (.cons (.var 2) (.cons (.var 3) (.cons (.var 4) (.cons (.var 5) (.cons (.var 6) (.cons (.var 7) .nil)))))))))) (.lit 1)) (.lit 17))
def pathsBack_f11 : List B := grow pathsBack_b10 ++ pathsBack_f10
def pathsBack_f12 : List B := grow (B.neg pathsBack_b10) ++ pathsBack_f10
def pathsBack_b12 : B := (.cmp .eq (.op .add (.op .shl (.lit 1) (.app 43 (.cons (.var 0) (.cons (.var 1) (.cons (.var 2) (.cons (.var 3) (.cons (.var 4) (.cons (.var 5) (.cons (.var 6) (.cons (.var 7) .nil)))))))))) (.lit 1)) (.lit 33))
def pathsBack_f13 : List B := grow pathsBack_b12 ++ pathsBack_f12
def pathsBack_f14 : List B := grow (B.neg pathsBack_b12) ++ pathsBack_f12
def pathsBack_b14 : B := (.cmp .eq (.op .add (.op .shl (.lit 1) (.app 43 (.cons (.var 0) (.cons (.var 1) (.cons (.var 2) (.cons (.var 3) (.cons (.var 4) (.cons (.var 5) (.cons (.var 6) (.cons (.var 7) .nil)))))))))) (.lit 1)) (.lit 65))
def pathsBack_f15 : List B := grow pathsBack_b14 ++ pathsBack_f14
def pathsBack_f16 : List B := grow (B.neg pathsBack_b14) ++ pathsBack_f14
theorem pathsBack_n1 : pathsBack_R Try.prog pathsBack_f1 = .ok (.bool (.lit false)) := by kernel_rfl
theorem pathsBack_n3 : pathsBack_R Try.prog pathsBack_f3 = .ok (.bool (.lit true)) := by kernel_rfl
theorem pathsBack_n5 : pathsBack_R Try.prog pathsBack_f5 = .ok (.bool (.lit true)) := by kernel_rfl
theorem pathsBack_n7 : pathsBack_R Try.prog pathsBack_f7 = .ok (.bool (.lit true)) := by kernel_rfl
theorem pathsBack_n9 : pathsBack_R Try.prog pathsBack_f9 = .ok (.bool (.lit true)) := by kernel_rfl
theorem pathsBack_n11 : pathsBack_R Try.prog pathsBack_f11 = .ok (.bool (.lit true)) := by kernel_rfl
theorem pathsBack_n13 : pathsBack_R Try.prog pathsBack_f13 = .ok (.bool (.lit true)) := by kernel_rfl
theorem pathsBack_n15 : pathsBack_R Try.prog pathsBack_f15 = .ok (.bool (.lit true)) := by kernel_rfl
theorem pathsBack_n16 : pathsBack_R Try.prog pathsBack_f16 = .ok (.bool (.lit false)) := by kernel_rfl
end Go.Proofs.Ythiehfhphgkaeaa
