/- What is proved: the run of a function over its ways, and what is known on each: no theorem, the words alone. No condition. -/
import Derived.Test.YtnhhphdhkgjbhaaCa
import Derived.Test.YtnhhphdhkgjbhaaBl
set_option linter.unusedVariables false
set_option maxRecDepth 100000
namespace Go.Proofs.Ytnhhphdhkgjbhaa
open Go Go.RowKit Sx Wi
def beziersBack_f0 : List B := []
def beziersBack_b0 : B := (.cmp .lt (.var 10) (.lit 0))
def beziersBack_f1 : List B := grow beziersBack_b0 ++ beziersBack_f0
def beziersBack_f2 : List B := grow (B.neg beziersBack_b0) ++ beziersBack_f0
def beziersBack_b2 : B := (.cmp .lt (.lit 6) (.var 10))
def beziersBack_f3 : List B := grow beziersBack_b2 ++ beziersBack_f2
def beziersBack_f4 : List B := grow (B.neg beziersBack_b2) ++ beziersBack_f2
def beziersBack_b4 : B := (.cmp .lt (.var 8) (.lit 0))
def beziersBack_f5 : List B := grow beziersBack_b4 ++ beziersBack_f4
def beziersBack_f6 : List B := grow (B.neg beziersBack_b4) ++ beziersBack_f4
def beziersBack_b6 : B := (.cmp .lt (.op .shl (.lit 1) (.var 10)) (.var 8))
def beziersBack_f7 : List B := grow beziersBack_b6 ++ beziersBack_f6
def beziersBack_f8 : List B := grow (B.neg beziersBack_b6) ++ beziersBack_f6
def beziersBack_b8 : B := (.and (.cmp .le (.lit 0) (.var 10)) (.and (.cmp .le (.var 10) (.lit 6)) (.and (.cmp .le (.lit 0) (.var 8)) (.and (.cmp .le (.var 8) (.op .shl (.lit 1) (.var 10))) (.and (.cmp .le (.lit (-1099511627776)) (.var 0)) (.and (.cmp .le (.var 0) (.lit 1099511627776)) (.and (.cmp .le (.lit (-1099511627776)) (.var 1)) (.and (.cmp .le (.var 1) (.lit 1099511627776)) (.and (.cmp .le (.lit (-1099511627776)) (.var 2)) (.and (.cmp .le (.var 2) (.lit 1099511627776)) (.and (.cmp .le (.lit (-1099511627776)) (.var 3)) (.and (.cmp .le (.var 3) (.lit 1099511627776)) (.and (.cmp .le (.lit (-1099511627776)) (.var 4)) (.and (.cmp .le (.var 4) (.lit 1099511627776)) (.and (.cmp .le (.lit (-1099511627776)) (.var 5)) (.and (.cmp .le (.var 5) (.lit 1099511627776)) (.and (.cmp .le (.lit (-1099511627776)) (.var 6)) (.and (.cmp .le (.var 6) (.lit 1099511627776)) (.and (.cmp .le (.lit (-1099511627776)) (.var 7)) (.cmp .le (.var 7) (.lit 1099511627776)))))))))))))))))))))
def beziersBack_f9 : List B := grow beziersBack_b8 ++ beziersBack_f8
def beziersBack_b9 : B := (.and (.cmp .le (.lit 0) (.var 10)) (.and (.cmp .le (.var 10) (.lit 6)) (.and (.cmp .le (.lit 0) (.op .sub (.op .shl (.lit 1) (.var 10)) (.var 8))) (.and (.cmp .le (.op .sub (.op .shl (.lit 1) (.var 10)) (.var 8)) (.op .shl (.lit 1) (.var 10))) (.and (.cmp .le (.lit (-1099511627776)) (.var 6)) (.and (.cmp .le (.var 6) (.lit 1099511627776)) (.and (.cmp .le (.lit (-1099511627776)) (.var 7)) (.and (.cmp .le (.var 7) (.lit 1099511627776)) (.and (.cmp .le (.lit (-1099511627776)) (.var 4)) (.and (.cmp .le (.var 4) (.lit 1099511627776)) (.and (.cmp .le (.lit (-1099511627776)) (.var 5)) (.and (.cmp .le (.var 5) (.lit 1099511627776)) (.and (.cmp .le (.lit (-1099511627776)) (.var 2)) (.and (.cmp .le (.var 2) (.lit 1099511627776)) (.and (.cmp .le (.lit (-1099511627776)) (.var 3)) (.and (.cmp .le (.var 3) (.lit 1099511627776)) (.and (.cmp .le (.lit (-1099511627776)) (.var 0)) (.and (.cmp .le (.var 0) (.lit 1099511627776)) (.and (.cmp .le (.lit (-1099511627776)) (.var 1)) (.cmp .le (.var 1) (.lit 1099511627776)))))))))))))))))))))
def beziersBack_f10 : List B := grow beziersBack_b9 ++ beziersBack_f9
def beziersBack_b10 : B := (.cmp .eq (.app 10 (.cons (.var 0) (.cons (.var 2) (.cons (.var 4) (.cons (.var 6) (.cons (.var 8) (.cons (.var 10) .nil))))))) (.app 10 (.cons (.var 6) (.cons (.var 4) (.cons (.var 2) (.cons (.var 0) (.cons (.op .sub (.op .shl (.lit 1) (.var 10)) (.var 8)) (.cons (.var 10) .nil))))))))
def beziersBack_f11 : List B := grow beziersBack_b10 ++ beziersBack_f10
def beziersBack_b11 : B := (.cmp .eq (.app 10 (.cons (.var 1) (.cons (.var 3) (.cons (.var 5) (.cons (.var 7) (.cons (.var 8) (.cons (.var 10) .nil))))))) (.app 10 (.cons (.var 7) (.cons (.var 5) (.cons (.var 3) (.cons (.var 1) (.cons (.op .sub (.op .shl (.lit 1) (.var 10)) (.var 8)) (.cons (.var 10) .nil))))))))
def beziersBack_f12 : List B := grow beziersBack_b11 ++ beziersBack_f11
def beziersBack_f13 : List B := grow (B.neg beziersBack_b11) ++ beziersBack_f11
def beziersBack_f14 : List B := grow (B.neg beziersBack_b10) ++ beziersBack_f10
def beziersBack_f15 : List B := grow (B.neg beziersBack_b9) ++ beziersBack_f9
def beziersBack_b15 : B := (.cmp .eq (.app 10 (.cons (.var 0) (.cons (.var 2) (.cons (.var 4) (.cons (.var 6) (.cons (.var 8) (.cons (.var 10) .nil))))))) (.lit 0))
def beziersBack_f16 : List B := grow beziersBack_b15 ++ beziersBack_f15
def beziersBack_b16 : B := (.cmp .eq (.app 10 (.cons (.var 1) (.cons (.var 3) (.cons (.var 5) (.cons (.var 7) (.cons (.var 8) (.cons (.var 10) .nil))))))) (.lit 0))
def beziersBack_f17 : List B := grow beziersBack_b16 ++ beziersBack_f16
def beziersBack_f18 : List B := grow (B.neg beziersBack_b16) ++ beziersBack_f16
def beziersBack_f19 : List B := grow (B.neg beziersBack_b15) ++ beziersBack_f15
def beziersBack_f20 : List B := grow (B.neg beziersBack_b8) ++ beziersBack_f8
def beziersBack_b20 : B := (.and (.cmp .le (.lit 0) (.var 10)) (.and (.cmp .le (.var 10) (.lit 6)) (.and (.cmp .le (.lit 0) (.op .sub (.op .shl (.lit 1) (.var 10)) (.var 8))) (.and (.cmp .le (.op .sub (.op .shl (.lit 1) (.var 10)) (.var 8)) (.op .shl (.lit 1) (.var 10))) (.and (.cmp .le (.lit (-1099511627776)) (.var 6)) (.and (.cmp .le (.var 6) (.lit 1099511627776)) (.and (.cmp .le (.lit (-1099511627776)) (.var 7)) (.and (.cmp .le (.var 7) (.lit 1099511627776)) (.and (.cmp .le (.lit (-1099511627776)) (.var 4)) (.and (.cmp .le (.var 4) (.lit 1099511627776)) (.and (.cmp .le (.lit (-1099511627776)) (.var 5)) (.and (.cmp .le (.var 5) (.lit 1099511627776)) (.and (.cmp .le (.lit (-1099511627776)) (.var 2)) (.and (.cmp .le (.var 2) (.lit 1099511627776)) (.and (.cmp .le (.lit (-1099511627776)) (.var 3)) (.and (.cmp .le (.var 3) (.lit 1099511627776)) (.and (.cmp .le (.lit (-1099511627776)) (.var 0)) (.and (.cmp .le (.var 0) (.lit 1099511627776)) (.and (.cmp .le (.lit (-1099511627776)) (.var 1)) (.cmp .le (.var 1) (.lit 1099511627776)))))))))))))))))))))
def beziersBack_f21 : List B := grow beziersBack_b20 ++ beziersBack_f20
def beziersBack_b21 : B := (.cmp .eq (.app 10 (.cons (.var 0) (.cons (.var 2) (.cons (.var 4) (.cons (.var 6) (.cons (.var 8) (.cons (.var 10) .nil))))))) (.app 10 (.cons (.var 6) (.cons (.var 4) (.cons (.var 2) (.cons (.var 0) (.cons (.op .sub (.op .shl (.lit 1) (.var 10)) (.var 8)) (.cons (.var 10) .nil))))))))
def beziersBack_f22 : List B := grow beziersBack_b21 ++ beziersBack_f21
def beziersBack_b22 : B := (.cmp .eq (.app 10 (.cons (.var 1) (.cons (.var 3) (.cons (.var 5) (.cons (.var 7) (.cons (.var 8) (.cons (.var 10) .nil))))))) (.app 10 (.cons (.var 7) (.cons (.var 5) (.cons (.var 3) (.cons (.var 1) (.cons (.op .sub (.op .shl (.lit 1) (.var 10)) (.var 8)) (.cons (.var 10) .nil))))))))
def beziersBack_f23 : List B := grow beziersBack_b22 ++ beziersBack_f22
def beziersBack_f24 : List B := grow (B.neg beziersBack_b22) ++ beziersBack_f22
def beziersBack_f25 : List B := grow (B.neg beziersBack_b21) ++ beziersBack_f21
def beziersBack_f26 : List B := grow (B.neg beziersBack_b20) ++ beziersBack_f20
end Go.Proofs.Ytnhhphdhkgjbhaa
