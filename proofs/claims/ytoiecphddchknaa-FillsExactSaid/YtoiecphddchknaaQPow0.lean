/- What is proved: the run of a function over its ways, and what is known on each. No condition. -/
import Derived.Test.YtoiecphddchknaaQPo0
set_option linter.unusedSimpArgs false
set_option linter.unusedVariables false
set_option maxRecDepth 100000
namespace Go.Proofs.Ytoiecphddchknaa
open Go Go.RowKit Sx Wi
def pouw_R (P : Program) (fs : List B) : Res SV := pou_round P fs
def pouw_f0 : List B := []
def pouw_b0 : B := (.cmp .lt (.var 11) (.op .min (.lit 12) (.op .add (.op .fdiv (.op .sub (.op .max (.op .max (.var 1) (.var 3)) (.var 5)) (.lit 128)) (.lit 256)) (.lit 1))))
def pouw_f1 : List B := grow pouw_b0 ++ pouw_f0
def pouw_L0 : SV := (.agg [(.int .i64 (.op .add (.var 11) (.lit 1))), (.int .i64 (.var 11)), (.int .i64 (.app 73 (.cons (.var 0) (.cons (.var 1) (.cons (.var 2) (.cons (.var 3) (.cons (.var 4) (.cons (.var 5) (.cons (.var 6) (.cons (.var 7) (.cons (.var 8) (.cons (.var 9) (.cons (.var 10) (.cons (.op .add (.var 11) (.lit 1)) .nil)))))))))))))), (.int .i64 (.var 12))])
def pouw_f2 : List B := grow (B.neg pouw_b0) ++ pouw_f0
def pouw_L1 : SV := (.tuple [(.agg [(.int .i64 (.var 12)), (.int .i64 (.app 73 (.cons (.var 0) (.cons (.var 1) (.cons (.var 2) (.cons (.var 3) (.cons (.var 4) (.cons (.var 5) (.cons (.var 6) (.cons (.var 7) (.cons (.var 8) (.cons (.var 9) (.cons (.var 10) (.cons (.op .max (.op .max (.lit 0) (.op .fdiv (.op .sub (.op .add (.op .sub (.op .min (.op .min (.var 1) (.var 3)) (.var 5)) (.lit 128)) (.lit 256)) (.lit 1)) (.lit 256))) (.op .min (.lit 12) (.op .add (.op .fdiv (.op .sub (.op .max (.op .max (.var 1) (.var 3)) (.var 5)) (.lit 128)) (.lit 256)) (.lit 1)))) .nil))))))))))))))]), (.bool (.lit true))])
theorem pouw_n1 : pouw_R Try.prog pouw_f1 = .ok pouw_L0 := by kernel_rfl
theorem pouw_n2 : pouw_R Try.prog pouw_f2 = .ok pouw_L1 := by kernel_rfl
end Go.Proofs.Ytoiecphddchknaa
