/- What is proved: the run of a function over its ways, and what is known on each: no theorem, the words alone. No condition. -/
import Derived.Test.YtldoimianllcdaaNx
import Derived.Test.YtldoimianllcdaaTo
import Derived.Test.YtldoimianllcdaaProg
set_option linter.unusedVariables false
set_option maxRecDepth 100000
namespace Go.Proofs.Ytldoimianllcdaa
open Go Go.RowKit Sx Wi
def to_f0 : List B := []
def to_b0 : B := (.cmp .eq (.var 1) (.lit 0))
def to_f1 : List B := grow to_b0 ++ to_f0
def to_b1 : B := (.cmp .eq (.var 0) (.lit 0))
def to_f2 : List B := grow to_b1 ++ to_f1
def to_f3 : List B := grow (B.neg to_b1) ++ to_f1
def to_b3 : B := (.cmp .eq (.var 0) (.lit 1))
def to_f4 : List B := grow to_b3 ++ to_f3
def to_f5 : List B := grow (B.neg to_b3) ++ to_f3
def to_b5 : B := (.cmp .eq (.var 0) (.lit 2))
def to_f6 : List B := grow to_b5 ++ to_f5
def to_f7 : List B := grow (B.neg to_b5) ++ to_f5
def to_f8 : List B := grow (B.neg to_b0) ++ to_f0
def to_b8 : B := (.cmp .eq (.var 1) (.lit 1))
def to_f9 : List B := grow to_b8 ++ to_f8
def to_b9 : B := (.cmp .eq (.var 0) (.lit 0))
def to_f10 : List B := grow to_b9 ++ to_f9
def to_f11 : List B := grow (B.neg to_b9) ++ to_f9
def to_b11 : B := (.cmp .eq (.var 0) (.lit 1))
def to_f12 : List B := grow to_b11 ++ to_f11
def to_f13 : List B := grow (B.neg to_b11) ++ to_f11
def to_b13 : B := (.cmp .eq (.var 0) (.lit 2))
def to_f14 : List B := grow to_b13 ++ to_f13
def to_f15 : List B := grow (B.neg to_b13) ++ to_f13
def to_f16 : List B := grow (B.neg to_b8) ++ to_f8
def to_b16 : B := (.cmp .eq (.var 1) (.lit 2))
def to_f17 : List B := grow to_b16 ++ to_f16
def to_b17 : B := (.cmp .eq (.var 0) (.lit 0))
def to_f18 : List B := grow to_b17 ++ to_f17
def to_f19 : List B := grow (B.neg to_b17) ++ to_f17
def to_b19 : B := (.cmp .eq (.var 0) (.lit 1))
def to_f20 : List B := grow to_b19 ++ to_f19
def to_f21 : List B := grow (B.neg to_b19) ++ to_f19
def to_b21 : B := (.cmp .eq (.var 0) (.lit 2))
def to_f22 : List B := grow to_b21 ++ to_f21
def to_f23 : List B := grow (B.neg to_b21) ++ to_f21
def to_f24 : List B := grow (B.neg to_b16) ++ to_f16
end Go.Proofs.Ytldoimianllcdaa
