/- What is proved: the run of a function over its ways, and what is known on each. No condition. -/
import Derived.Test.YtoiecphddchknaaQCc
set_option linter.unusedSimpArgs false
set_option linter.unusedVariables false
set_option maxRecDepth 100000
namespace Go.Proofs.Ytoiecphddchknaa
open Go Go.RowKit Sx Wi
def lives_R (P : Program) (fs : List B) : Res SV := withCtx G GI [] fs (fun X => exFun P X GB ct_wt 4000 10 [])
def lives_f0 : List B := []
theorem lives_n0 : lives_R Try.prog lives_f0 = .ok (.bool (.and (.or (.and (.lit false) (.lit false)) (.and (.lit true) (.lit true))) (.and (.cmp .eq (.lit 0) (.lit 0)) (.and (.cmp .eq (.lit 0) (.lit 0)) (.and (.cmp .eq (.lit 0) (.lit 0)) (.and (.cmp .eq (.lit 0) (.lit 0)) (.and (.cmp .eq (.lit 0) (.lit 0)) (.and (.cmp .eq (.lit 0) (.lit 0)) (.cmp .eq (.lit 0) (.lit 0)))))))))) := by kernel_rfl
end Go.Proofs.Ytoiecphddchknaa
