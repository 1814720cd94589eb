/- What is proved: the run of a function over its ways, and what is known on each. No condition. -/
import Derived.Test.YtoiecphddchknaaQa4
set_option linter.unusedSimpArgs false
set_option linter.unusedVariables false
set_option maxRecDepth 100000
namespace Go.Proofs.Ytoiecphddchknaa
open Go Go.RowKit Sx Wi
def facef_R (P : Program) (fs : List B) : Res SV := face_run P fs
def facef_f0 : List B := []
def facef_b0 : B := (.cmp .lt (.lit 671088640) (.op .max (.var 0) (.var 1)))
def facef_f1 : List B := grow facef_b0 ++ facef_f0
def facef_f2 : List B := grow (B.neg facef_b0) ++ facef_f0
def facef_b1 : B := (.cmp .lt (.op .min (.var 0) (.var 1)) (.lit (-671088640)))
def facef_f3 : List B := grow facef_b1 ++ facef_f2
def facef_f4 : List B := grow (B.neg facef_b1) ++ facef_f2
def facef_b2 : B := (.cmp .lt (.lit 671088640) (.op .max (.var 2) (.var 3)))
def facef_f5 : List B := grow facef_b2 ++ facef_f4
def facef_f6 : List B := grow (B.neg facef_b2) ++ facef_f4
def facef_b3 : B := (.cmp .lt (.op .min (.var 2) (.var 3)) (.lit (-671088640)))
def facef_f7 : List B := grow facef_b3 ++ facef_f6
def facef_f8 : List B := grow (B.neg facef_b3) ++ facef_f6
def facef_b4 : B := (.cmp .lt (.lit 671088640) (.op .max (.var 4) (.var 5)))
def facef_f9 : List B := grow facef_b4 ++ facef_f8
def facef_f10 : List B := grow (B.neg facef_b4) ++ facef_f8
def facef_b5 : B := (.cmp .lt (.op .min (.var 4) (.var 5)) (.lit (-671088640)))
def facef_f11 : List B := grow facef_b5 ++ facef_f10
def facef_f12 : List B := grow (B.neg facef_b5) ++ facef_f10
def facef_b6 : B := (.cmp .lt (.var 9) (.lit 1))
def facef_f13 : List B := grow facef_b6 ++ facef_f12
def facef_f14 : List B := grow (B.neg facef_b6) ++ facef_f12
def facef_b7 : B := (.cmp .lt (.lit 65535) (.var 9))
def facef_f15 : List B := grow facef_b7 ++ facef_f14
def facef_f16 : List B := grow (B.neg facef_b7) ++ facef_f14
def facef_b8 : B := (.cmp .lt (.lit 1125899906842624) (.var 6))
def facef_f17 : List B := grow facef_b8 ++ facef_f16
def facef_f18 : List B := grow (B.neg facef_b8) ++ facef_f16
def facef_b9 : B := (.cmp .lt (.var 6) (.lit (-1125899906842624)))
def facef_f19 : List B := grow facef_b9 ++ facef_f18
def facef_f20 : List B := grow (B.neg facef_b9) ++ facef_f18
def facef_b10 : B := (.cmp .ne (.var 11) (.var 9))
def facef_f21 : List B := grow facef_b10 ++ facef_f20
def facef_f22 : List B := grow (B.neg facef_b10) ++ facef_f20
def facef_b11 : B := (.cmp .lt (.var 11) (.lit 1))
def facef_f23 : List B := grow facef_b11 ++ facef_f22
def facef_f24 : List B := grow (B.neg facef_b11) ++ facef_f22
def facef_b12 : B := (.cmp .lt (.lit 65535) (.var 11))
def facef_f25 : List B := grow facef_b12 ++ facef_f24
def facef_f26 : List B := grow (B.neg facef_b12) ++ facef_f24
def facef_b13 : B := (.cmp .lt (.lit 1125899906842624) (.var 7))
def facef_f27 : List B := grow facef_b13 ++ facef_f26
def facef_f28 : List B := grow (B.neg facef_b13) ++ facef_f26
def facef_b14 : B := (.cmp .lt (.var 7) (.lit (-1125899906842624)))
def facef_f29 : List B := grow facef_b14 ++ facef_f28
def facef_f30 : List B := grow (B.neg facef_b14) ++ facef_f28
def facef_b15 : B := (.cmp .ne (.var 12) (.var 9))
def facef_f31 : List B := grow facef_b15 ++ facef_f30
def facef_f32 : List B := grow (B.neg facef_b15) ++ facef_f30
def facef_b16 : B := (.cmp .lt (.var 12) (.lit 1))
def facef_f33 : List B := grow facef_b16 ++ facef_f32
def facef_f34 : List B := grow (B.neg facef_b16) ++ facef_f32
def facef_b17 : B := (.cmp .lt (.lit 65535) (.var 12))
def facef_f35 : List B := grow facef_b17 ++ facef_f34
def facef_f36 : List B := grow (B.neg facef_b17) ++ facef_f34
def facef_b18 : B := (.cmp .lt (.lit 1125899906842624) (.var 8))
def facef_f37 : List B := grow facef_b18 ++ facef_f36
def facef_f38 : List B := grow (B.neg facef_b18) ++ facef_f36
def facef_b19 : B := (.cmp .lt (.var 8) (.lit (-1125899906842624)))
def facef_f39 : List B := grow facef_b19 ++ facef_f38
def facef_f40 : List B := grow (B.neg facef_b19) ++ facef_f38
end Go.Proofs.Ytoiecphddchknaa
