/- What is proved: the run of a function over its ways, and what is known on each: no theorem, the words alone. No condition. -/
import Derived.Test.YtldoimianllcdaaCa
import Derived.Test.YtldoimianllcdaaTl
set_option linter.unusedVariables false
set_option maxRecDepth 100000
namespace Go.Proofs.Ytldoimianllcdaa
open Go Go.RowKit Sx Wi
def coloursMix_f0 : List B := []
def coloursMix_b0 : B := (.cmp .le (.op .min (.var 0) (.var 1)) (.wrap .u8 (.op .add (.var 0) (.op .fdiv (.op .add (.op .mul (.op .sub (.var 1) (.var 0)) (.op .min (.op .max (.var 2) (.lit 0)) (.lit 16))) (.lit 8)) (.lit 16)))))
def coloursMix_f1 : List B := grow coloursMix_b0 ++ coloursMix_f0
def coloursMix_b1 : B := (.cmp .le (.wrap .u8 (.op .add (.var 0) (.op .fdiv (.op .add (.op .mul (.op .sub (.var 1) (.var 0)) (.op .min (.op .max (.var 2) (.lit 0)) (.lit 16))) (.lit 8)) (.lit 16)))) (.op .max (.var 0) (.var 1)))
def coloursMix_f2 : List B := grow coloursMix_b1 ++ coloursMix_f1
def coloursMix_b2 : B := (.cmp .le (.op .max (.op .sub (.var 1) (.wrap .u8 (.op .add (.var 0) (.op .fdiv (.op .add (.op .mul (.op .sub (.var 1) (.var 0)) (.op .min (.op .max (.op .add (.op .max (.lit 0) (.op .min (.lit 16) (.var 2))) (.op .rem (.var 3) (.lit 17))) (.lit 0)) (.lit 16))) (.lit 8)) (.lit 16))))) (.op .sub (.lit 0) (.op .sub (.var 1) (.wrap .u8 (.op .add (.var 0) (.op .fdiv (.op .add (.op .mul (.op .sub (.var 1) (.var 0)) (.op .min (.op .max (.op .add (.op .max (.lit 0) (.op .min (.lit 16) (.var 2))) (.op .rem (.var 3) (.lit 17))) (.lit 0)) (.lit 16))) (.lit 8)) (.lit 16))))))) (.op .max (.op .sub (.var 1) (.wrap .u8 (.op .add (.var 0) (.op .fdiv (.op .add (.op .mul (.op .sub (.var 1) (.var 0)) (.op .min (.op .max (.var 2) (.lit 0)) (.lit 16))) (.lit 8)) (.lit 16))))) (.op .sub (.lit 0) (.op .sub (.var 1) (.wrap .u8 (.op .add (.var 0) (.op .fdiv (.op .add (.op .mul (.op .sub (.var 1) (.var 0)) (.op .min (.op .max (.var 2) (.lit 0)) (.lit 16))) (.lit 8)) (.lit 16))))))))
def coloursMix_f3 : List B := grow coloursMix_b2 ++ coloursMix_f2
def coloursMix_b3 : B := (.cmp .eq (.wrap .u8 (.op .add (.var 0) (.op .fdiv (.op .add (.op .mul (.op .sub (.var 1) (.var 0)) (.lit 16)) (.lit 8)) (.lit 16)))) (.var 1))
def coloursMix_f4 : List B := grow coloursMix_b3 ++ coloursMix_f3
def coloursMix_f5 : List B := grow (B.neg coloursMix_b3) ++ coloursMix_f3
def coloursMix_f6 : List B := grow (B.neg coloursMix_b2) ++ coloursMix_f2
def coloursMix_f7 : List B := grow (B.neg coloursMix_b1) ++ coloursMix_f1
def coloursMix_f8 : List B := grow (B.neg coloursMix_b0) ++ coloursMix_f0
end Go.Proofs.Ytldoimianllcdaa
