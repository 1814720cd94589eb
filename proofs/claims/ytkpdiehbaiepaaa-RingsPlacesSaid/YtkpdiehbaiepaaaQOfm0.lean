/- What is proved: the run of a function over its ways, and what is known on each. No condition. -/
import Derived.Test.YtkpdiehbaiepaaaQg12
set_option linter.unusedSimpArgs false
set_option linter.unusedVariables false
set_option maxRecDepth 100000
namespace Go.Proofs.Ytkpdiehbaiepaaa
open Go Go.RowKit Sx Wi
def ofout_R (P : Program) (fs : List B) : Res SV := of2_round P fs
def ofout_f0 : List B := []
def ofout_b0 : B := (.cmp .lt (.var 34) (.op .sub (.op .shl (.lit 1) (.var 32)) (.lit 1)))
def ofout_f1 : List B := grow ofout_b0 ++ ofout_f0
def ofout_f2 : List B := grow (B.neg ofout_b0) ++ ofout_f0
theorem ofout_n1 : ofout_R Try.prog ofout_f1 = .ok (.agg [(.int .i64 (.op .add (.var 34) (.lit 1))), (.int .i64 (.var 34)), (.int .i64 (.op .mul (.op .mul (.lit 2) (.var 34)) (.op .sub (.op .shl (.lit 1) (.var 32)) (.lit 2)))), (.int .i64 (.var 35)), (.int .i64 (.app 41 (.cons (.var 0) (.cons (.var 1) (.cons (.var 2) (.cons (.var 3) (.cons (.var 4) (.cons (.var 5) (.cons (.var 6) (.cons (.var 7) (.cons (.var 8) (.cons (.var 9) (.cons (.var 10) (.cons (.var 11) (.cons (.var 12) (.cons (.var 13) (.cons (.var 14) (.cons (.var 15) (.cons (.var 16) (.cons (.var 17) (.cons (.var 18) (.cons (.var 19) (.cons (.var 20) (.cons (.var 21) (.cons (.var 22) (.cons (.var 23) (.cons (.var 24) (.cons (.var 25) (.cons (.var 26) (.cons (.var 27) (.cons (.var 28) (.cons (.var 29) (.cons (.var 30) (.cons (.var 31) (.cons (.var 32) (.cons (.op .add (.var 34) (.lit 1)) .nil)))))))))))))))))))))))))))))))))))), (.int .i64 (.var 36)), (.int .i64 (.op .mul (.op .mul (.lit 2) (.var 34)) (.op .sub (.op .shl (.lit 1) (.var 32)) (.lit 2)))), (.int .i64 (.var 35))]) := by kernel_rfl
theorem ofout_n2 : ofout_R Try.prog ofout_f2 = .ok (.tuple [(.agg [(.int .i64 (.var 35)), (.int .i64 (.op .mul (.op .mul (.lit 2) (.op .sub (.op .shl (.lit 1) (.var 32)) (.lit 2))) (.op .sub (.op .shl (.lit 1) (.var 32)) (.lit 2)))), (.int .i64 (.var 36)), (.int .i64 (.app 41 (.cons (.var 0) (.cons (.var 1) (.cons (.var 2) (.cons (.var 3) (.cons (.var 4) (.cons (.var 5) (.cons (.var 6) (.cons (.var 7) (.cons (.var 8) (.cons (.var 9) (.cons (.var 10) (.cons (.var 11) (.cons (.var 12) (.cons (.var 13) (.cons (.var 14) (.cons (.var 15) (.cons (.var 16) (.cons (.var 17) (.cons (.var 18) (.cons (.var 19) (.cons (.var 20) (.cons (.var 21) (.cons (.var 22) (.cons (.var 23) (.cons (.var 24) (.cons (.var 25) (.cons (.var 26) (.cons (.var 27) (.cons (.var 28) (.cons (.var 29) (.cons (.var 30) (.cons (.var 31) (.cons (.var 32) (.cons (.op .sub (.op .shl (.lit 1) (.var 32)) (.lit 1)) .nil)))))))))))))))))))))))))))))))))))), (.int .i64 (.var 35)), (.int .i64 (.op .mul (.op .mul (.lit 2) (.op .sub (.op .shl (.lit 1) (.var 32)) (.lit 2))) (.op .sub (.op .shl (.lit 1) (.var 32)) (.lit 2))))]), (.bool (.lit true))]) := by kernel_rfl
end Go.Proofs.Ytkpdiehbaiepaaa
