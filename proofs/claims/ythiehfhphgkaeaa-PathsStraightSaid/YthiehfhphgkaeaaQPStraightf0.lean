/- What is proved: the run of a function over its ways, and what is known on each. No condition. -/
import Derived.Test.YthiehfhphgkaeaaQPStraight0
set_option linter.unusedSimpArgs false
set_option linter.unusedVariables false
set_option maxRecDepth 100000
namespace Go.Proofs.Ythiehfhphgkaeaa
open Go Go.RowKit Sx Wi
def pathsStraight_R (P : Program) (fs : List B) : Res SV := pathsStraight_run P fs
def pathsStraight_f0 : List B := []
def pathsStraight_b0 : B := (.cmp .lt (.lit 1073741824) (.var 0))
def pathsStraight_f1 : List B := grow pathsStraight_b0 ++ pathsStraight_f0
def pathsStraight_f2 : List B := grow (B.neg pathsStraight_b0) ++ pathsStraight_f0
def pathsStraight_b2 : B := (.cmp .lt (.var 0) (.lit (-1073741824)))
def pathsStraight_f3 : List B := grow pathsStraight_b2 ++ pathsStraight_f2
def pathsStraight_f4 : List B := grow (B.neg pathsStraight_b2) ++ pathsStraight_f2
def pathsStraight_b4 : B := (.cmp .lt (.lit 1073741824) (.var 1))
def pathsStraight_f5 : List B := grow pathsStraight_b4 ++ pathsStraight_f4
def pathsStraight_f6 : List B := grow (B.neg pathsStraight_b4) ++ pathsStraight_f4
def pathsStraight_b6 : B := (.cmp .lt (.var 1) (.lit (-1073741824)))
def pathsStraight_f7 : List B := grow pathsStraight_b6 ++ pathsStraight_f6
def pathsStraight_f8 : List B := grow (B.neg pathsStraight_b6) ++ pathsStraight_f6
def pathsStraight_b8 : B := (.cmp .ne (.op .add (.op .shl (.lit 1) (.app 43 (.cons (.var 0) (.cons (.var 1) (.cons (.op .add (.var 0) (.var 2)) (.cons (.op .add (.var 1) (.var 3)) (.cons (.op .add (.var 0) (.op .mul (.lit 2) (.var 2))) (.cons (.op .add (.var 1) (.op .mul (.lit 2) (.var 3))) (.cons (.op .add (.var 0) (.op .mul (.lit 3) (.var 2))) (.cons (.op .add (.var 1) (.op .mul (.lit 3) (.var 3))) .nil)))))))))) (.lit 1)) (.lit 2))
def pathsStraight_f9 : List B := grow pathsStraight_b8 ++ pathsStraight_f8
def pathsStraight_f10 : List B := grow (B.neg pathsStraight_b8) ++ pathsStraight_f8
def pathsStraight_b10 : B := (.cmp .ne (.app 83 (.cons (.app 44 (.cons (.var 0) (.cons (.var 1) (.cons (.op .add (.var 0) (.var 2)) (.cons (.op .add (.var 1) (.var 3)) (.cons (.op .add (.var 0) (.op .mul (.lit 2) (.var 2))) (.cons (.op .add (.var 1) (.op .mul (.lit 2) (.var 3))) (.cons (.op .add (.var 0) (.op .mul (.lit 3) (.var 2))) (.cons (.op .add (.var 1) (.op .mul (.lit 3) (.var 3))) .nil))))))))) (.cons (.lit 0) (.cons (.lit 0) .nil)))) (.app 83 (.cons (.app 91 (.cons (.app 91 (.cons (.lit 0) (.cons (.app 2 (.cons (.var 0) (.cons (.lit 256) .nil))) (.cons (.app 2 (.cons (.var 1) (.cons (.lit 256) .nil))) .nil)))) (.cons (.app 2 (.cons (.op .add (.var 0) (.op .mul (.lit 3) (.var 2))) (.cons (.lit 256) .nil))) (.cons (.app 2 (.cons (.op .add (.var 1) (.op .mul (.lit 3) (.var 3))) (.cons (.lit 256) .nil))) .nil)))) (.cons (.lit 0) (.cons (.lit 0) .nil)))))
def pathsStraight_f11 : List B := grow pathsStraight_b10 ++ pathsStraight_f10
def pathsStraight_f12 : List B := grow (B.neg pathsStraight_b10) ++ pathsStraight_f10
def pathsStraight_b12 : B := (.cmp .ne (.app 83 (.cons (.app 44 (.cons (.var 0) (.cons (.var 1) (.cons (.op .add (.var 0) (.var 2)) (.cons (.op .add (.var 1) (.var 3)) (.cons (.op .add (.var 0) (.op .mul (.lit 2) (.var 2))) (.cons (.op .add (.var 1) (.op .mul (.lit 2) (.var 3))) (.cons (.op .add (.var 0) (.op .mul (.lit 3) (.var 2))) (.cons (.op .add (.var 1) (.op .mul (.lit 3) (.var 3))) .nil))))))))) (.cons (.lit 0) (.cons (.lit 1) .nil)))) (.app 83 (.cons (.app 91 (.cons (.app 91 (.cons (.lit 0) (.cons (.app 2 (.cons (.var 0) (.cons (.lit 256) .nil))) (.cons (.app 2 (.cons (.var 1) (.cons (.lit 256) .nil))) .nil)))) (.cons (.app 2 (.cons (.op .add (.var 0) (.op .mul (.lit 3) (.var 2))) (.cons (.lit 256) .nil))) (.cons (.app 2 (.cons (.op .add (.var 1) (.op .mul (.lit 3) (.var 3))) (.cons (.lit 256) .nil))) .nil)))) (.cons (.lit 0) (.cons (.lit 1) .nil)))))
def pathsStraight_f13 : List B := grow pathsStraight_b12 ++ pathsStraight_f12
def pathsStraight_f14 : List B := grow (B.neg pathsStraight_b12) ++ pathsStraight_f12
def pathsStraight_b14 : B := (.cmp .ne (.app 83 (.cons (.app 44 (.cons (.var 0) (.cons (.var 1) (.cons (.op .add (.var 0) (.var 2)) (.cons (.op .add (.var 1) (.var 3)) (.cons (.op .add (.var 0) (.op .mul (.lit 2) (.var 2))) (.cons (.op .add (.var 1) (.op .mul (.lit 2) (.var 3))) (.cons (.op .add (.var 0) (.op .mul (.lit 3) (.var 2))) (.cons (.op .add (.var 1) (.op .mul (.lit 3) (.var 3))) .nil))))))))) (.cons (.lit 1) (.cons (.lit 0) .nil)))) (.app 83 (.cons (.app 91 (.cons (.app 91 (.cons (.lit 0) (.cons (.app 2 (.cons (.var 0) (.cons (.lit 256) .nil))) (.cons (.app 2 (.cons (.var 1) (.cons (.lit 256) .nil))) .nil)))) (.cons (.app 2 (.cons (.op .add (.var 0) (.op .mul (.lit 3) (.var 2))) (.cons (.lit 256) .nil))) (.cons (.app 2 (.cons (.op .add (.var 1) (.op .mul (.lit 3) (.var 3))) (.cons (.lit 256) .nil))) .nil)))) (.cons (.lit 1) (.cons (.lit 0) .nil)))))
def pathsStraight_f15 : List B := grow pathsStraight_b14 ++ pathsStraight_f14
def pathsStraight_f16 : List B := grow (B.neg pathsStraight_b14) ++ pathsStraight_f14
def pathsStraight_b16 : B := (.cmp .ne (.app 83 (.cons (.app 44 (.cons (.var 0) (.cons (.var 1) (.cons (.op .add (.var 0) (.var 2)) (.cons (.op .add (.var 1) (.var 3)) (.cons (.op .add (.var 0) (.op .mul (.lit 2) (.var 2))) (.cons (.op .add (.var 1) (.op .mul (.lit 2) (.var 3))) (.cons (.op .add (.var 0) (.op .mul (.lit 3) (.var 2))) (.cons (.op .add (.var 1) (.op .mul (.lit 3) (.var 3))) .nil))))))))) (.cons (.lit 1) (.cons (.lit 1) .nil)))) (.app 83 (.cons (.app 91 (.cons (.app 91 (.cons (.lit 0) (.cons (.app 2 (.cons (.var 0) (.cons (.lit 256) .nil))) (.cons (.app 2 (.cons (.var 1) (.cons (.lit 256) .nil))) .nil)))) (.cons (.app 2 (.cons (.op .add (.var 0) (.op .mul (.lit 3) (.var 2))) (.cons (.lit 256) .nil))) (.cons (.app 2 (.cons (.op .add (.var 1) (.op .mul (.lit 3) (.var 3))) (.cons (.lit 256) .nil))) .nil)))) (.cons (.lit 1) (.cons (.lit 1) .nil)))))
def pathsStraight_f17 : List B := grow pathsStraight_b16 ++ pathsStraight_f16
def pathsStraight_f18 : List B := grow (B.neg pathsStraight_b16) ++ pathsStraight_f16
theorem pathsStraight_n1 : pathsStraight_R Try.prog pathsStraight_f1 = .ok (.bool (.lit true)) := by kernel_rfl
theorem pathsStraight_n3 : pathsStraight_R Try.prog pathsStraight_f3 = .ok (.bool (.lit true)) := by kernel_rfl
theorem pathsStraight_n5 : pathsStraight_R Try.prog pathsStraight_f5 = .ok (.bool (.lit true)) := by kernel_rfl
theorem pathsStraight_n7 : pathsStraight_R Try.prog pathsStraight_f7 = .ok (.bool (.lit true)) := by kernel_rfl
theorem pathsStraight_n9 : pathsStraight_R Try.prog pathsStraight_f9 = .ok (.bool (.lit false)) := by kernel_rfl
theorem pathsStraight_n11 : pathsStraight_R Try.prog pathsStraight_f11 = .ok (.bool (.lit false)) := by kernel_rfl
theorem pathsStraight_n13 : pathsStraight_R Try.prog pathsStraight_f13 = .ok (.bool (.lit false)) := by kernel_rfl
theorem pathsStraight_n15 : pathsStraight_R Try.prog pathsStraight_f15 = .ok (.bool (.lit false)) := by kernel_rfl
theorem pathsStraight_n17 : pathsStraight_R Try.prog pathsStraight_f17 = .ok (.bool (.lit false)) := by kernel_rfl
theorem pathsStraight_n18 : pathsStraight_R Try.prog pathsStraight_f18 = .ok (.bool (.lit true)) := by kernel_rfl
end Go.Proofs.Ythiehfhphgkaeaa
