/- What is proved: the run of a function over its ways, and what is known on each. No condition. -/
import Derived.Test.YtoiecphddchknaaQEx0
set_option linter.unusedSimpArgs false
set_option linter.unusedVariables false
set_option maxRecDepth 100000
namespace Go.Proofs.Ytoiecphddchknaa
open Go Go.RowKit Sx Wi
def exaf_R (P : Program) (fs : List B) : Res SV := exa_run P fs
def exaf_f0 : List B := []
def exaf_b0 : B := (.and (.cmp .le (.lit (-671088640)) (.var 0)) (.and (.cmp .le (.var 0) (.lit 671088640)) (.and (.cmp .le (.lit (-671088640)) (.var 1)) (.and (.cmp .le (.var 1) (.lit 671088640)) (.and (.cmp .le (.lit (-671088640)) (.var 2)) (.and (.cmp .le (.var 2) (.lit 671088640)) (.and (.cmp .le (.lit (-671088640)) (.var 3)) (.and (.cmp .le (.var 3) (.lit 671088640)) (.and (.cmp .le (.lit (-671088640)) (.var 4)) (.and (.cmp .le (.var 4) (.lit 671088640)) (.and (.cmp .le (.lit (-671088640)) (.var 5)) (.and (.cmp .le (.var 5) (.lit 671088640)) (.and (.cmp .le (.lit 1) (.var 9)) (.and (.cmp .le (.var 9) (.lit 65535)) (.and (.cmp .eq (.var 10) (.var 9)) (.and (.cmp .eq (.var 11) (.var 9)) (.and (.cmp .le (.lit (-1125899906842624)) (.var 6)) (.and (.cmp .le (.var 6) (.lit 1125899906842624)) (.and (.cmp .le (.lit (-1125899906842624)) (.var 7)) (.and (.cmp .le (.var 7) (.lit 1125899906842624)) (.and (.cmp .le (.lit (-1125899906842624)) (.var 8)) (.cmp .le (.var 8) (.lit 1125899906842624)))))))))))))))))))))))
def exaf_f1 : List B := grow exaf_b0 ++ exaf_f0
def exaf_f2 : List B := grow (B.neg exaf_b0) ++ exaf_f0
theorem exaf_n1 : exaf_R Try.prog exaf_f1 = .ok (.bool (.lit true)) := by kernel_rfl
theorem exaf_n2 : exaf_R Try.prog exaf_f2 = .ok (.bool (.lit true)) := by kernel_rfl
end Go.Proofs.Ytoiecphddchknaa
