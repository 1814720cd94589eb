/- What is proved: the run of a function over its ways, and what is known on each: no theorem, the words alone. No condition. -/
import Derived.Test.YtaballahjgegdaaDoorCa
set_option linter.unusedVariables false
set_option maxRecDepth 100000
namespace Go.Proofs.YtaballahjgegdaaDoor
open Go Go.RowKit Sx Wi
def fixedsEnds_f0 : List B := []
def fixedsEnds_b0 : B := (.cmp .eq (.var 0) (.var 1))
def fixedsEnds_f1 : List B := grow fixedsEnds_b0 ++ fixedsEnds_f0
def fixedsEnds_f2 : List B := grow (B.neg fixedsEnds_b0) ++ fixedsEnds_f0
def fixedsEnds_b2 : B := (.cmp .eq (.op .sub (.var 1) (.var 0)) (.lit 0))
def fixedsEnds_f3 : List B := grow fixedsEnds_b2 ++ fixedsEnds_f2
def fixedsEnds_f4 : List B := grow (B.neg fixedsEnds_b2) ++ fixedsEnds_f2
def fixedsEnds_b4 : B := (.cmp .ne (.app 4 (.cons (.var 0) (.cons (.var 0) (.cons (.var 1) (.cons (.var 2) (.cons (.var 3) .nil)))))) (.var 2))
def fixedsEnds_f5 : List B := grow fixedsEnds_b4 ++ fixedsEnds_f4
def fixedsEnds_f6 : List B := grow (B.neg fixedsEnds_b4) ++ fixedsEnds_f4
def fixedsEnds_b6 : B := (.cmp .ne (.app 4 (.cons (.var 1) (.cons (.var 0) (.cons (.var 1) (.cons (.var 2) (.cons (.var 3) .nil)))))) (.var 3))
def fixedsEnds_f7 : List B := grow fixedsEnds_b6 ++ fixedsEnds_f6
def fixedsEnds_f8 : List B := grow (B.neg fixedsEnds_b6) ++ fixedsEnds_f6
def fixedsEnds_b8 : B := (.cmp .ne (.app 4 (.cons (.var 4) (.cons (.var 0) (.cons (.var 1) (.cons (.var 0) (.cons (.var 1) .nil)))))) (.var 4))
def fixedsEnds_f9 : List B := grow fixedsEnds_b8 ++ fixedsEnds_f8
def fixedsEnds_f10 : List B := grow (B.neg fixedsEnds_b8) ++ fixedsEnds_f8
def fixedsEnds_b10 : B := (.cmp .eq (.app 4 (.cons (.op .min (.var 4) (.var 5)) (.cons (.var 0) (.cons (.var 1) (.cons (.var 2) (.cons (.var 3) .nil)))))) (.app 4 (.cons (.op .max (.var 4) (.var 5)) (.cons (.var 0) (.cons (.var 1) (.cons (.var 2) (.cons (.var 3) .nil)))))))
def fixedsEnds_f11 : List B := grow fixedsEnds_b10 ++ fixedsEnds_f10
def fixedsEnds_f12 : List B := grow (B.neg fixedsEnds_b10) ++ fixedsEnds_f10
def fixedsEnds_b12 : B := (.cmp .lt (.app 4 (.cons (.op .min (.var 4) (.var 5)) (.cons (.var 0) (.cons (.var 1) (.cons (.var 2) (.cons (.var 3) .nil)))))) (.app 4 (.cons (.op .max (.var 4) (.var 5)) (.cons (.var 0) (.cons (.var 1) (.cons (.var 2) (.cons (.var 3) .nil)))))))
def fixedsEnds_f13 : List B := grow fixedsEnds_b12 ++ fixedsEnds_f12
def fixedsEnds_b13 : B := (.cmp .lt (.var 0) (.var 1))
def fixedsEnds_f14 : List B := grow fixedsEnds_b13 ++ fixedsEnds_f13
def fixedsEnds_b14 : B := (.cmp .le (.var 2) (.var 3))
def fixedsEnds_f15 : List B := grow fixedsEnds_b14 ++ fixedsEnds_f14
def fixedsEnds_f16 : List B := grow (B.neg fixedsEnds_b14) ++ fixedsEnds_f14
def fixedsEnds_f17 : List B := grow (B.neg fixedsEnds_b13) ++ fixedsEnds_f13
def fixedsEnds_b17 : B := (.cmp .lt (.var 3) (.var 2))
def fixedsEnds_f18 : List B := grow fixedsEnds_b17 ++ fixedsEnds_f17
def fixedsEnds_f19 : List B := grow (B.neg fixedsEnds_b17) ++ fixedsEnds_f17
def fixedsEnds_f20 : List B := grow (B.neg fixedsEnds_b12) ++ fixedsEnds_f12
def fixedsEnds_b20 : B := (.cmp .le (.var 1) (.var 0))
def fixedsEnds_f21 : List B := grow fixedsEnds_b20 ++ fixedsEnds_f20
def fixedsEnds_b21 : B := (.cmp .le (.var 2) (.var 3))
def fixedsEnds_f22 : List B := grow fixedsEnds_b21 ++ fixedsEnds_f21
def fixedsEnds_f23 : List B := grow (B.neg fixedsEnds_b21) ++ fixedsEnds_f21
def fixedsEnds_f24 : List B := grow (B.neg fixedsEnds_b20) ++ fixedsEnds_f20
def fixedsEnds_b24 : B := (.cmp .lt (.var 3) (.var 2))
def fixedsEnds_f25 : List B := grow fixedsEnds_b24 ++ fixedsEnds_f24
def fixedsEnds_f26 : List B := grow (B.neg fixedsEnds_b24) ++ fixedsEnds_f24
end Go.Proofs.YtaballahjgegdaaDoor
