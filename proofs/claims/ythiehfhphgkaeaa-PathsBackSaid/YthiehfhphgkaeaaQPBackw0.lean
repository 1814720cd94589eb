/- What is proved: the run of a function over its ways, and what is known on each. No condition. -/
import Derived.Test.YthiehfhphgkaeaaQPBack0
set_option linter.unusedSimpArgs false
set_option linter.unusedVariables false
set_option maxRecDepth 100000
namespace Go.Proofs.Ythiehfhphgkaeaa
open Go Go.RowKit Sx Wi
def pathsBackw_R (P : Program) (fs : List B) : Res SV := pathsBack_round P fs
def pathsBackw_f0 : List B := []
def pathsBackw_b0 : B := (.cmp .lt (.var 8) (.op .add (.op .shl (.lit 1) (.app 43 (.cons (.var 0) (.cons (.var 1) (.cons (.var 2) (.cons (.var 3) (.cons (.var 4) (.cons (.var 5) (.cons (.var 6) (.cons (.var 7) .nil)))))))))) (.lit 1)))
def pathsBackw_f1 : List B := grow pathsBackw_b0 ++ pathsBackw_f0
def pathsBackw_b1 : B := (.cmp .le (.lit 0) (.op .sub (.op .sub (.op .add (.op .shl (.lit 1) (.app 43 (.cons (.var 0) (.cons (.var 1) (.cons (.var 2) (.cons (.var 3) (.cons (.var 4) (.cons (.var 5) (.cons (.var 6) (.cons (.var 7) .nil)))))))))) (.lit 1)) (.lit 1)) (.var 8)))
def pathsBackw_f2 : List B := grow pathsBackw_b1 ++ pathsBackw_f1
def pathsBackw_b2 : B := (.cmp .lt (.op .sub (.op .sub (.op .add (.op .shl (.lit 1) (.app 43 (.cons (.var 0) (.cons (.var 1) (.cons (.var 2) (.cons (.var 3) (.cons (.var 4) (.cons (.var 5) (.cons (.var 6) (.cons (.var 7) .nil)))))))))) (.lit 1)) (.lit 1)) (.var 8)) (.op .add (.op .shl (.lit 1) (.app 43 (.cons (.var 6) (.cons (.var 7) (.cons (.var 4) (.cons (.var 5) (.cons (.var 2) (.cons (.var 3) (.cons (.var 0) (.cons (.var 1) .nil)))))))))) (.lit 1)))
def pathsBackw_f3 : List B := grow pathsBackw_b2 ++ pathsBackw_f2
def pathsBackw_b3 : B := (.cmp .ne (.app 83 (.cons (.app 44 (.cons (.var 0) (.cons (.var 1) (.cons (.var 2) (.cons (.var 3) (.cons (.var 4) (.cons (.var 5) (.cons (.var 6) (.cons (.var 7) .nil))))))))) (.cons (.var 8) (.cons (.lit 0) .nil)))) (.app 83 (.cons (.app 44 (.cons (.var 6) (.cons (.var 7) (.cons (.var 4) (.cons (.var 5) (.cons (.var 2) (.cons (.var 3) (.cons (.var 0) (.cons (.var 1) .nil))))))))) (.cons (.op .sub (.op .sub (.op .add (.op .shl (.lit 1) (.app 43 (.cons (.var 0) (.cons (.var 1) (.cons (.var 2) (.cons (.var 3) (.cons (.var 4) (.cons (.var 5) (.cons (.var 6) (.cons (.var 7) .nil)))))))))) (.lit 1)) (.lit 1)) (.var 8)) (.cons (.lit 0) .nil)))))
def pathsBackw_f4 : List B := grow pathsBackw_b3 ++ pathsBackw_f3
def pathsBackw_f5 : List B := grow (B.neg pathsBackw_b3) ++ pathsBackw_f3
def pathsBackw_b5 : B := (.cmp .ne (.app 83 (.cons (.app 44 (.cons (.var 0) (.cons (.var 1) (.cons (.var 2) (.cons (.var 3) (.cons (.var 4) (.cons (.var 5) (.cons (.var 6) (.cons (.var 7) .nil))))))))) (.cons (.var 8) (.cons (.lit 1) .nil)))) (.app 83 (.cons (.app 44 (.cons (.var 6) (.cons (.var 7) (.cons (.var 4) (.cons (.var 5) (.cons (.var 2) (.cons (.var 3) (.cons (.var 0) (.cons (.var 1) .nil))))))))) (.cons (.op .sub (.op .sub (.op .add (.op .shl (.lit 1) (.app 43 (.cons (.var 0) (.cons (.var 1) (.cons (.var 2) (.cons (.var 3) (.cons (.var 4) (.cons (.var 5) (.cons (.var 6) (.cons (.var 7) .nil)))))))))) (.lit 1)) (.lit 1)) (.var 8)) (.cons (.lit 1) .nil)))))
def pathsBackw_f6 : List B := grow pathsBackw_b5 ++ pathsBackw_f5
def pathsBackw_f7 : List B := grow (B.neg pathsBackw_b5) ++ pathsBackw_f5
def pathsBackw_f8 : List B := grow (B.neg pathsBackw_b2) ++ pathsBackw_f2
def pathsBackw_f9 : List B := grow (B.neg pathsBackw_b1) ++ pathsBackw_f1
def pathsBackw_f10 : List B := grow (B.neg pathsBackw_b0) ++ pathsBackw_f0
theorem pathsBackw_n7 : pathsBackw_R Try.prog pathsBackw_f7 = .ok (.agg [(.int .i64 (.op .add (.var 8) (.lit 1))), (.int .i64 (.var 8))]) := by kernel_rfl
theorem pathsBackw_n10 : pathsBackw_R Try.prog pathsBackw_f10 = .ok (.tuple [(.agg []), (.bool (.lit true))]) := by kernel_rfl
end Go.Proofs.Ythiehfhphgkaeaa
