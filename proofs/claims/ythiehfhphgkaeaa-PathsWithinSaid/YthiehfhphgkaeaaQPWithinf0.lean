/- What is proved: the run of a function over its ways, and what is known on each. No condition. -/
import Derived.Test.YthiehfhphgkaeaaQPWithin0
set_option linter.unusedSimpArgs false
set_option linter.unusedVariables false
set_option maxRecDepth 100000
namespace Go.Proofs.Ythiehfhphgkaeaa
open Go Go.RowKit Sx Wi
def pathsWithin_R (P : Program) (fs : List B) : Res SV := pathsWithin_run P fs
def pathsWithin_f0 : List B := []
def pathsWithin_b0 : B := (.cmp .eq (.app 83 (.cons (.app 44 (.cons (.var 0) (.cons (.var 1) (.cons (.var 2) (.cons (.var 3) (.cons (.var 4) (.cons (.var 5) (.cons (.var 6) (.cons (.var 7) .nil))))))))) (.cons (.lit 0) (.cons (.lit 0) .nil)))) (.app 83 (.cons (.app 91 (.cons (.app 91 (.cons (.lit 0) (.cons (.app 2 (.cons (.var 0) (.cons (.lit 256) .nil))) (.cons (.app 2 (.cons (.var 1) (.cons (.lit 256) .nil))) .nil)))) (.cons (.app 2 (.cons (.var 6) (.cons (.lit 256) .nil))) (.cons (.app 2 (.cons (.var 7) (.cons (.lit 256) .nil))) .nil)))) (.cons (.lit 0) (.cons (.lit 0) .nil)))))
def pathsWithin_f1 : List B := grow pathsWithin_b0 ++ pathsWithin_f0
def pathsWithin_b1 : B := (.cmp .eq (.app 83 (.cons (.app 44 (.cons (.var 0) (.cons (.var 1) (.cons (.var 2) (.cons (.var 3) (.cons (.var 4) (.cons (.var 5) (.cons (.var 6) (.cons (.var 7) .nil))))))))) (.cons (.lit 0) (.cons (.lit 1) .nil)))) (.app 83 (.cons (.app 91 (.cons (.app 91 (.cons (.lit 0) (.cons (.app 2 (.cons (.var 0) (.cons (.lit 256) .nil))) (.cons (.app 2 (.cons (.var 1) (.cons (.lit 256) .nil))) .nil)))) (.cons (.app 2 (.cons (.var 6) (.cons (.lit 256) .nil))) (.cons (.app 2 (.cons (.var 7) (.cons (.lit 256) .nil))) .nil)))) (.cons (.lit 0) (.cons (.lit 1) .nil)))))
def pathsWithin_f2 : List B := grow pathsWithin_b1 ++ pathsWithin_f1
def pathsWithin_b2 : B := (.cmp .lt (.op .sub (.op .add (.op .shl (.lit 1) (.app 43 (.cons (.var 0) (.cons (.var 1) (.cons (.var 2) (.cons (.var 3) (.cons (.var 4) (.cons (.var 5) (.cons (.var 6) (.cons (.var 7) .nil)))))))))) (.lit 1)) (.lit 1)) (.op .add (.op .shl (.lit 1) (.app 43 (.cons (.var 0) (.cons (.var 1) (.cons (.var 2) (.cons (.var 3) (.cons (.var 4) (.cons (.var 5) (.cons (.var 6) (.cons (.var 7) .nil)))))))))) (.lit 1)))
def pathsWithin_f3 : List B := grow pathsWithin_b2 ++ pathsWithin_f2
def pathsWithin_b3 : B := (.cmp .eq (.app 83 (.cons (.app 44 (.cons (.var 0) (.cons (.var 1) (.cons (.var 2) (.cons (.var 3) (.cons (.var 4) (.cons (.var 5) (.cons (.var 6) (.cons (.var 7) .nil))))))))) (.cons (.op .sub (.op .add (.op .shl (.lit 1) (.app 43 (.cons (.var 0) (.cons (.var 1) (.cons (.var 2) (.cons (.var 3) (.cons (.var 4) (.cons (.var 5) (.cons (.var 6) (.cons (.var 7) .nil)))))))))) (.lit 1)) (.lit 1)) (.cons (.lit 0) .nil)))) (.app 83 (.cons (.app 91 (.cons (.app 91 (.cons (.lit 0) (.cons (.app 2 (.cons (.var 0) (.cons (.lit 256) .nil))) (.cons (.app 2 (.cons (.var 1) (.cons (.lit 256) .nil))) .nil)))) (.cons (.app 2 (.cons (.var 6) (.cons (.lit 256) .nil))) (.cons (.app 2 (.cons (.var 7) (.cons (.lit 256) .nil))) .nil)))) (.cons (.lit 1) (.cons (.lit 0) .nil)))))
def pathsWithin_f4 : List B := grow pathsWithin_b3 ++ pathsWithin_f3
def pathsWithin_b4 : B := (.cmp .eq (.app 83 (.cons (.app 44 (.cons (.var 0) (.cons (.var 1) (.cons (.var 2) (.cons (.var 3) (.cons (.var 4) (.cons (.var 5) (.cons (.var 6) (.cons (.var 7) .nil))))))))) (.cons (.op .sub (.op .add (.op .shl (.lit 1) (.app 43 (.cons (.var 0) (.cons (.var 1) (.cons (.var 2) (.cons (.var 3) (.cons (.var 4) (.cons (.var 5) (.cons (.var 6) (.cons (.var 7) .nil)))))))))) (.lit 1)) (.lit 1)) (.cons (.lit 1) .nil)))) (.app 83 (.cons (.app 91 (.cons (.app 91 (.cons (.lit 0) (.cons (.app 2 (.cons (.var 0) (.cons (.lit 256) .nil))) (.cons (.app 2 (.cons (.var 1) (.cons (.lit 256) .nil))) .nil)))) (.cons (.app 2 (.cons (.var 6) (.cons (.lit 256) .nil))) (.cons (.app 2 (.cons (.var 7) (.cons (.lit 256) .nil))) .nil)))) (.cons (.lit 1) (.cons (.lit 1) .nil)))))
def pathsWithin_f5 : List B := grow pathsWithin_b4 ++ pathsWithin_f4
def pathsWithin_f6 : List B := grow (B.neg pathsWithin_b4) ++ pathsWithin_f4
def pathsWithin_f7 : List B := grow (B.neg pathsWithin_b3) ++ pathsWithin_f3
def pathsWithin_f8 : List B := grow (B.neg pathsWithin_b2) ++ pathsWithin_f2
def pathsWithin_f9 : List B := grow (B.neg pathsWithin_b1) ++ pathsWithin_f1
def pathsWithin_f10 : List B := grow (B.neg pathsWithin_b0) ++ pathsWithin_f0
theorem pathsWithin_n5 : pathsWithin_R Try.prog pathsWithin_f5 = .ok (.bool (.lit true)) := by kernel_rfl
theorem pathsWithin_n6 : pathsWithin_R Try.prog pathsWithin_f6 = .ok (.bool (.lit false)) := by kernel_rfl
theorem pathsWithin_n7 : pathsWithin_R Try.prog pathsWithin_f7 = .ok (.bool (.lit false)) := by kernel_rfl
theorem pathsWithin_n9 : pathsWithin_R Try.prog pathsWithin_f9 = .ok (.bool (.lit false)) := by kernel_rfl
theorem pathsWithin_n10 : pathsWithin_R Try.prog pathsWithin_f10 = .ok (.bool (.lit false)) := by kernel_rfl
end Go.Proofs.Ythiehfhphgkaeaa
