/- What is proved: the run of a function over its ways, and what is known on each: no theorem, the words alone. No condition. -/
import Derived.Test.YtnhhphdhkgjbhaaCa
import Derived.Test.YtnhhphdhkgjbhaaBl
set_option linter.unusedVariables false
set_option maxRecDepth 100000
namespace Go.Proofs.Ytnhhphdhkgjbhaa
open Go Go.RowKit Sx Wi
def beziersWithin_f0 : List B := []
def beziersWithin_b0 : B := (.and (.cmp .le (.lit 0) (.var 10)) (.and (.cmp .le (.var 10) (.lit 6)) (.and (.cmp .le (.lit 0) (.var 8)) (.and (.cmp .le (.var 8) (.op .shl (.lit 1) (.var 10))) (.and (.cmp .le (.lit (-1099511627776)) (.var 0)) (.and (.cmp .le (.var 0) (.lit 1099511627776)) (.and (.cmp .le (.lit (-1099511627776)) (.var 1)) (.and (.cmp .le (.var 1) (.lit 1099511627776)) (.and (.cmp .le (.lit (-1099511627776)) (.var 2)) (.and (.cmp .le (.var 2) (.lit 1099511627776)) (.and (.cmp .le (.lit (-1099511627776)) (.var 3)) (.and (.cmp .le (.var 3) (.lit 1099511627776)) (.and (.cmp .le (.lit (-1099511627776)) (.var 4)) (.and (.cmp .le (.var 4) (.lit 1099511627776)) (.and (.cmp .le (.lit (-1099511627776)) (.var 5)) (.and (.cmp .le (.var 5) (.lit 1099511627776)) (.and (.cmp .le (.lit (-1099511627776)) (.var 6)) (.and (.cmp .le (.var 6) (.lit 1099511627776)) (.and (.cmp .le (.lit (-1099511627776)) (.var 7)) (.cmp .le (.var 7) (.lit 1099511627776)))))))))))))))))))))
def beziersWithin_f1 : List B := grow beziersWithin_b0 ++ beziersWithin_f0
def beziersWithin_b1 : B := (.cmp .ne (.app 10 (.cons (.var 0) (.cons (.var 2) (.cons (.var 4) (.cons (.var 6) (.cons (.lit 0) (.cons (.var 10) .nil))))))) (.op .fdiv (.op .add (.var 0) (.lit 128)) (.lit 256)))
def beziersWithin_f2 : List B := grow beziersWithin_b1 ++ beziersWithin_f1
def beziersWithin_f3 : List B := grow (B.neg beziersWithin_b1) ++ beziersWithin_f1
def beziersWithin_b3 : B := (.cmp .ne (.app 10 (.cons (.var 1) (.cons (.var 3) (.cons (.var 5) (.cons (.var 7) (.cons (.lit 0) (.cons (.var 10) .nil))))))) (.op .fdiv (.op .add (.var 1) (.lit 128)) (.lit 256)))
def beziersWithin_f4 : List B := grow beziersWithin_b3 ++ beziersWithin_f3
def beziersWithin_f5 : List B := grow (B.neg beziersWithin_b3) ++ beziersWithin_f3
def beziersWithin_b5 : B := (.cmp .ne (.app 10 (.cons (.var 0) (.cons (.var 2) (.cons (.var 4) (.cons (.var 6) (.cons (.op .shl (.lit 1) (.var 10)) (.cons (.var 10) .nil))))))) (.op .fdiv (.op .add (.var 6) (.lit 128)) (.lit 256)))
def beziersWithin_f6 : List B := grow beziersWithin_b5 ++ beziersWithin_f5
def beziersWithin_f7 : List B := grow (B.neg beziersWithin_b5) ++ beziersWithin_f5
def beziersWithin_b7 : B := (.cmp .ne (.app 10 (.cons (.var 1) (.cons (.var 3) (.cons (.var 5) (.cons (.var 7) (.cons (.op .shl (.lit 1) (.var 10)) (.cons (.var 10) .nil))))))) (.op .fdiv (.op .add (.var 7) (.lit 128)) (.lit 256)))
def beziersWithin_f8 : List B := grow beziersWithin_b7 ++ beziersWithin_f7
def beziersWithin_f9 : List B := grow (B.neg beziersWithin_b7) ++ beziersWithin_f7
def beziersWithin_b9 : B := (.cmp .le (.op .fdiv (.op .min (.op .min (.op .min (.var 0) (.var 2)) (.var 4)) (.var 6)) (.lit 256)) (.app 10 (.cons (.var 0) (.cons (.var 2) (.cons (.var 4) (.cons (.var 6) (.cons (.var 8) (.cons (.var 10) .nil))))))))
def beziersWithin_f10 : List B := grow beziersWithin_b9 ++ beziersWithin_f9
def beziersWithin_b10 : B := (.cmp .le (.app 10 (.cons (.var 0) (.cons (.var 2) (.cons (.var 4) (.cons (.var 6) (.cons (.var 8) (.cons (.var 10) .nil))))))) (.op .add (.op .fdiv (.op .max (.op .max (.op .max (.var 0) (.var 2)) (.var 4)) (.var 6)) (.lit 256)) (.lit 1)))
def beziersWithin_f11 : List B := grow beziersWithin_b10 ++ beziersWithin_f10
def beziersWithin_b11 : B := (.cmp .le (.op .fdiv (.op .min (.op .min (.op .min (.var 1) (.var 3)) (.var 5)) (.var 7)) (.lit 256)) (.app 10 (.cons (.var 1) (.cons (.var 3) (.cons (.var 5) (.cons (.var 7) (.cons (.var 8) (.cons (.var 10) .nil))))))))
def beziersWithin_f12 : List B := grow beziersWithin_b11 ++ beziersWithin_f11
def beziersWithin_b12 : B := (.cmp .le (.app 10 (.cons (.var 1) (.cons (.var 3) (.cons (.var 5) (.cons (.var 7) (.cons (.var 8) (.cons (.var 10) .nil))))))) (.op .add (.op .fdiv (.op .max (.op .max (.op .max (.var 1) (.var 3)) (.var 5)) (.var 7)) (.lit 256)) (.lit 1)))
def beziersWithin_f13 : List B := grow beziersWithin_b12 ++ beziersWithin_f12
def beziersWithin_f14 : List B := grow (B.neg beziersWithin_b12) ++ beziersWithin_f12
def beziersWithin_f15 : List B := grow (B.neg beziersWithin_b11) ++ beziersWithin_f11
def beziersWithin_f16 : List B := grow (B.neg beziersWithin_b10) ++ beziersWithin_f10
def beziersWithin_f17 : List B := grow (B.neg beziersWithin_b9) ++ beziersWithin_f9
def beziersWithin_f18 : List B := grow (B.neg beziersWithin_b0) ++ beziersWithin_f0
end Go.Proofs.Ytnhhphdhkgjbhaa
