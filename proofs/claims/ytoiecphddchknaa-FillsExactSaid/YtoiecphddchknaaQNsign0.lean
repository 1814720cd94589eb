/- What is proved: the run of a function over its ways, and what is known on each. No condition. -/
import Derived.Test.YtoiecphddchknaaQg6
import Derived.Test.YtoiecphddchknaaQg3
import Derived.Test.YtoiecphddchknaaProg
set_option linter.unusedSimpArgs false
set_option linter.unusedVariables false
set_option maxRecDepth 100000
namespace Go.Proofs.Ytoiecphddchknaa
open Go Go.RowKit Sx Wi
def sign_R (P : Program) (fs : List B) : Res SV := withCtx G GI [((-9223372036854775808), 9223372036854775807)] fs (fun X => exFun P X GB ct_w 2000 38 [(.int .i64 (.var 0))])
def sign_f0 : List B := []
def sign_b0 : B := (.cmp .lt (.var 0) (.lit 0))
def sign_f1 : List B := grow sign_b0 ++ sign_f0
def sign_f2 : List B := grow (B.neg sign_b0) ++ sign_f0
def sign_b2 : B := (.cmp .lt (.lit 0) (.var 0))
def sign_f3 : List B := grow sign_b2 ++ sign_f2
def sign_f4 : List B := grow (B.neg sign_b2) ++ sign_f2
theorem sign_n0 : sign_R Try.prog sign_f0 = .need (.cmp .lt (.var 0) (.lit 0)) := by kernel_rfl
theorem sign_n1 : sign_R Try.prog sign_f1 = .ok (.int .i64 (.lit (-1))) := by kernel_rfl
theorem sign_n2 : sign_R Try.prog sign_f2 = .need (.cmp .lt (.lit 0) (.var 0)) := by kernel_rfl
theorem sign_n3 : sign_R Try.prog sign_f3 = .ok (.int .i64 (.lit 1)) := by kernel_rfl
theorem sign_n4 : sign_R Try.prog sign_f4 = .ok (.int .i64 (.lit 0)) := by kernel_rfl
end Go.Proofs.Ytoiecphddchknaa
