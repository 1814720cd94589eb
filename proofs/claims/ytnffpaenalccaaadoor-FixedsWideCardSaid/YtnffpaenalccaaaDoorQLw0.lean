/- What is proved: the run of a function over its ways, and what is known on each. No condition. -/
import Derived.Test.YtnffpaenalccaaaDoorQRf
set_option linter.unusedSimpArgs false
set_option linter.unusedVariables false
set_option maxRecDepth 100000
namespace Go.Proofs.YtnffpaenalccaaaDoor
open Go Go.RowKit Sx Wi
def fixedsWide_R (P : Program) (fs : List B) : Res SV := withCtx G GI [((-9223372036854775808), 9223372036854775807), ((-9223372036854775808), 9223372036854775807)] fs (fun X => exFun P X GB ct_rround 4000 5 [(.int .i64 (.var 0)), (.int .i64 (.var 1))])
def fixedsWide_f0 : List B := []
def fixedsWide_b0 : B := (.cmp .eq (.var 1) (.lit 0))
def fixedsWide_f1 : List B := grow fixedsWide_b0 ++ fixedsWide_f0
def fixedsWide_f2 : List B := grow (B.neg fixedsWide_b0) ++ fixedsWide_f0
def fixedsWide_b2 : B := (.cmp .le (.lit (-9223372036854775808)) (.app 2 (.cons (.op .mul (.var 1) (.lit 65536)) (.cons (.lit 1) .nil))))
def fixedsWide_f3 : List B := grow fixedsWide_b2 ++ fixedsWide_f2
def fixedsWide_b3 : B := (.cmp .le (.app 2 (.cons (.op .mul (.var 1) (.lit 65536)) (.cons (.lit 1) .nil))) (.lit 9223372036854775807))
def fixedsWide_f4 : List B := grow fixedsWide_b3 ++ fixedsWide_f3
def fixedsWide_b4 : B := (.cmp .eq (.op .max (.lit (-2147483648)) (.op .min (.lit 2147483647) (.app 2 (.cons (.op .mul (.var 1) (.lit 65536)) (.cons (.lit 1) .nil))))) (.op .max (.lit (-2147483648)) (.op .min (.lit 2147483647) (.op .mul (.var 1) (.lit 65536)))))
def fixedsWide_f5 : List B := grow fixedsWide_b4 ++ fixedsWide_f4
def fixedsWide_f6 : List B := grow (B.neg fixedsWide_b4) ++ fixedsWide_f4
def fixedsWide_f7 : List B := grow (B.neg fixedsWide_b3) ++ fixedsWide_f3
def fixedsWide_b7 : B := (.cmp .eq (.lit 2147483647) (.op .max (.lit (-2147483648)) (.op .min (.lit 2147483647) (.op .mul (.var 1) (.lit 65536)))))
def fixedsWide_f8 : List B := grow fixedsWide_b7 ++ fixedsWide_f7
def fixedsWide_f9 : List B := grow (B.neg fixedsWide_b7) ++ fixedsWide_f7
def fixedsWide_f10 : List B := grow (B.neg fixedsWide_b2) ++ fixedsWide_f2
def fixedsWide_b10 : B := (.cmp .eq (.lit (-2147483648)) (.op .max (.lit (-2147483648)) (.op .min (.lit 2147483647) (.op .mul (.var 1) (.lit 65536)))))
def fixedsWide_f11 : List B := grow fixedsWide_b10 ++ fixedsWide_f10
def fixedsWide_f12 : List B := grow (B.neg fixedsWide_b10) ++ fixedsWide_f10
theorem fixedsWide_n1 : fixedsWide_R Tryd.prog fixedsWide_f1 = .ok (.bool (.lit true)) := by kernel_rfl
theorem fixedsWide_n5 : fixedsWide_R Tryd.prog fixedsWide_f5 = .ok (.bool (.lit true)) := by kernel_rfl
theorem fixedsWide_n6 : fixedsWide_R Tryd.prog fixedsWide_f6 = .ok (.bool (.lit false)) := by kernel_rfl
theorem fixedsWide_n8 : fixedsWide_R Tryd.prog fixedsWide_f8 = .ok (.bool (.lit true)) := by kernel_rfl
theorem fixedsWide_n9 : fixedsWide_R Tryd.prog fixedsWide_f9 = .ok (.bool (.lit false)) := by kernel_rfl
theorem fixedsWide_n11 : fixedsWide_R Tryd.prog fixedsWide_f11 = .ok (.bool (.lit true)) := by kernel_rfl
theorem fixedsWide_n12 : fixedsWide_R Tryd.prog fixedsWide_f12 = .ok (.bool (.lit false)) := by kernel_rfl
end Go.Proofs.YtnffpaenalccaaaDoor
