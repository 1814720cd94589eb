/- What is proved: the run of a function over its ways, and what is known on each. No condition. -/
import Derived.Test.YthiehfhphgkaeaaQPWithin0
set_option linter.unusedSimpArgs false
set_option linter.unusedVariables false
set_option maxRecDepth 100000
namespace Go.Proofs.Ythiehfhphgkaeaa
open Go Go.RowKit Sx Wi
def pathsWithinw_R (P : Program) (fs : List B) : Res SV := pathsWithin_round P fs
def pathsWithinw_f0 : List B := []
def pathsWithinw_b0 : B := (.cmp .lt (.var 8) (.op .add (.op .shl (.lit 1) (.app 43 (.cons (.var 0) (.cons (.var 1) (.cons (.var 2) (.cons (.var 3) (.cons (.var 4) (.cons (.var 5) (.cons (.var 6) (.cons (.var 7) .nil)))))))))) (.lit 1)))
def pathsWithinw_f1 : List B := grow pathsWithinw_b0 ++ pathsWithinw_f0
def pathsWithinw_b1 : B := (.cmp .lt (.app 83 (.cons (.app 44 (.cons (.var 0) (.cons (.var 1) (.cons (.var 2) (.cons (.var 3) (.cons (.var 4) (.cons (.var 5) (.cons (.var 6) (.cons (.var 7) .nil))))))))) (.cons (.var 8) (.cons (.lit 0) .nil)))) (.app 83 (.cons (.app 91 (.cons (.app 91 (.cons (.lit 0) (.cons (.app 2 (.cons (.op .min (.op .min (.op .min (.var 0) (.var 2)) (.var 4)) (.var 6)) (.cons (.lit 256) .nil))) (.cons (.app 2 (.cons (.op .min (.op .min (.op .min (.var 1) (.var 3)) (.var 5)) (.var 7)) (.cons (.lit 256) .nil))) .nil)))) (.cons (.app 2 (.cons (.op .max (.op .max (.op .max (.var 0) (.var 2)) (.var 4)) (.var 6)) (.cons (.lit 256) .nil))) (.cons (.app 2 (.cons (.op .max (.op .max (.op .max (.var 1) (.var 3)) (.var 5)) (.var 7)) (.cons (.lit 256) .nil))) .nil)))) (.cons (.lit 0) (.cons (.lit 0) .nil)))))
def pathsWithinw_f2 : List B := grow pathsWithinw_b1 ++ pathsWithinw_f1
def pathsWithinw_f3 : List B := grow (B.neg pathsWithinw_b1) ++ pathsWithinw_f1
def pathsWithinw_b3 : B := (.cmp .lt (.app 83 (.cons (.app 44 (.cons (.var 0) (.cons (.var 1) (.cons (.var 2) (.cons (.var 3) (.cons (.var 4) (.cons (.var 5) (.cons (.var 6) (.cons (.var 7) .nil))))))))) (.cons (.var 8) (.cons (.lit 1) .nil)))) (.app 83 (.cons (.app 91 (.cons (.app 91 (.cons (.lit 0) (.cons (.app 2 (.cons (.op .min (.op .min (.op .min (.var 0) (.var 2)) (.var 4)) (.var 6)) (.cons (.lit 256) .nil))) (.cons (.app 2 (.cons (.op .min (.op .min (.op .min (.var 1) (.var 3)) (.var 5)) (.var 7)) (.cons (.lit 256) .nil))) .nil)))) (.cons (.app 2 (.cons (.op .max (.op .max (.op .max (.var 0) (.var 2)) (.var 4)) (.var 6)) (.cons (.lit 256) .nil))) (.cons (.app 2 (.cons (.op .max (.op .max (.op .max (.var 1) (.var 3)) (.var 5)) (.var 7)) (.cons (.lit 256) .nil))) .nil)))) (.cons (.lit 0) (.cons (.lit 1) .nil)))))
def pathsWithinw_f4 : List B := grow pathsWithinw_b3 ++ pathsWithinw_f3
def pathsWithinw_f5 : List B := grow (B.neg pathsWithinw_b3) ++ pathsWithinw_f3
def pathsWithinw_b5 : B := (.cmp .lt (.app 83 (.cons (.app 91 (.cons (.app 91 (.cons (.lit 0) (.cons (.app 2 (.cons (.op .min (.op .min (.op .min (.var 0) (.var 2)) (.var 4)) (.var 6)) (.cons (.lit 256) .nil))) (.cons (.app 2 (.cons (.op .min (.op .min (.op .min (.var 1) (.var 3)) (.var 5)) (.var 7)) (.cons (.lit 256) .nil))) .nil)))) (.cons (.app 2 (.cons (.op .max (.op .max (.op .max (.var 0) (.var 2)) (.var 4)) (.var 6)) (.cons (.lit 256) .nil))) (.cons (.app 2 (.cons (.op .max (.op .max (.op .max (.var 1) (.var 3)) (.var 5)) (.var 7)) (.cons (.lit 256) .nil))) .nil)))) (.cons (.lit 1) (.cons (.lit 0) .nil)))) (.app 83 (.cons (.app 44 (.cons (.var 0) (.cons (.var 1) (.cons (.var 2) (.cons (.var 3) (.cons (.var 4) (.cons (.var 5) (.cons (.var 6) (.cons (.var 7) .nil))))))))) (.cons (.var 8) (.cons (.lit 0) .nil)))))
def pathsWithinw_f6 : List B := grow pathsWithinw_b5 ++ pathsWithinw_f5
def pathsWithinw_f7 : List B := grow (B.neg pathsWithinw_b5) ++ pathsWithinw_f5
def pathsWithinw_b7 : B := (.cmp .lt (.app 83 (.cons (.app 91 (.cons (.app 91 (.cons (.lit 0) (.cons (.app 2 (.cons (.op .min (.op .min (.op .min (.var 0) (.var 2)) (.var 4)) (.var 6)) (.cons (.lit 256) .nil))) (.cons (.app 2 (.cons (.op .min (.op .min (.op .min (.var 1) (.var 3)) (.var 5)) (.var 7)) (.cons (.lit 256) .nil))) .nil)))) (.cons (.app 2 (.cons (.op .max (.op .max (.op .max (.var 0) (.var 2)) (.var 4)) (.var 6)) (.cons (.lit 256) .nil))) (.cons (.app 2 (.cons (.op .max (.op .max (.op .max (.var 1) (.var 3)) (.var 5)) (.var 7)) (.cons (.lit 256) .nil))) .nil)))) (.cons (.lit 1) (.cons (.lit 1) .nil)))) (.app 83 (.cons (.app 44 (.cons (.var 0) (.cons (.var 1) (.cons (.var 2) (.cons (.var 3) (.cons (.var 4) (.cons (.var 5) (.cons (.var 6) (.cons (.var 7) .nil))))))))) (.cons (.var 8) (.cons (.lit 1) .nil)))))
def pathsWithinw_f8 : List B := grow pathsWithinw_b7 ++ pathsWithinw_f7
def pathsWithinw_f9 : List B := grow (B.neg pathsWithinw_b7) ++ pathsWithinw_f7
def pathsWithinw_f10 : List B := grow (B.neg pathsWithinw_b0) ++ pathsWithinw_f0
theorem pathsWithinw_n9 : pathsWithinw_R Try.prog pathsWithinw_f9 = .ok (.agg [(.int .i64 (.op .add (.var 8) (.lit 1))), (.int .i64 (.var 8))]) := by kernel_rfl
theorem pathsWithinw_n10 : pathsWithinw_R Try.prog pathsWithinw_f10 = .ok (.tuple [(.agg []), (.bool (.lit true))]) := by kernel_rfl
end Go.Proofs.Ythiehfhphgkaeaa
