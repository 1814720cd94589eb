/- What is proved: the run of a function over its ways, and what is known on each. No condition. -/
import Derived.Test.YtnffpaenalccaaaDoorQg10
import Derived.Test.YtnffpaenalccaaaDoorQg2
set_option linter.unusedSimpArgs false
set_option linter.unusedVariables false
set_option maxRecDepth 100000
namespace Go.Proofs.YtnffpaenalccaaaDoor
open Go Go.RowKit Sx Wi
def hold_R (P : Program) (fs : List B) : Res SV := withCtx G GI [(0, 1), (0, 1496577676626844588240573268701473812127674924007424), (0, 1), (1, 1496577676626844588240573268701473812127674924007424)] fs (fun X => exFun P X GB ct_intc 4000 36 [.agg (.bool (.cmp .ne (.var 0) (.lit 0)) :: digL (.var 1)), .agg (.bool (.cmp .ne (.var 2) (.lit 0)) :: digL (.var 3))])
def hold_f0 : List B := []
def hold_b0 : B := (.cmp .ne (.var 0) (.lit 0))
def hold_f1 : List B := grow hold_b0 ++ hold_f0
def hold_b1 : B := (.cmp .ne (.var 2) (.lit 0))
def hold_f2 : List B := grow hold_b1 ++ hold_f1
def hold_b2 : B := (.cmp .lt (.op .max (.app 2 (.cons (.var 1) (.cons (.var 3) .nil))) (.op .sub (.lit 0) (.app 2 (.cons (.var 1) (.cons (.var 3) .nil))))) (.lit 2147483647))
def hold_f3 : List B := grow hold_b2 ++ hold_f2
def hold_f4 : List B := grow (B.neg hold_b2) ++ hold_f2
def hold_b4 : B := (.cmp .lt (.lit 2147483647) (.op .max (.app 2 (.cons (.var 1) (.cons (.var 3) .nil))) (.op .sub (.lit 0) (.app 2 (.cons (.var 1) (.cons (.var 3) .nil))))))
def hold_f5 : List B := grow hold_b4 ++ hold_f4
def hold_f6 : List B := grow (B.neg hold_b4) ++ hold_f4
def hold_f7 : List B := grow (B.neg hold_b1) ++ hold_f1
def hold_b7 : B := (.cmp .le (.op .add (.op .mul (.lit 2) (.op .sub (.lit 0) (.var 1))) (.var 3)) (.lit 0))
def hold_f8 : List B := grow hold_b7 ++ hold_f7
def hold_b8 : B := (.cmp .lt (.lit 2147483648) (.op .max (.app 2 (.cons (.op .sub (.lit 0) (.var 1)) (.cons (.var 3) .nil))) (.op .sub (.lit 0) (.app 2 (.cons (.op .sub (.lit 0) (.var 1)) (.cons (.var 3) .nil))))))
def hold_f9 : List B := grow hold_b8 ++ hold_f8
def hold_f10 : List B := grow (B.neg hold_b8) ++ hold_f8
def hold_b10 : B := (.cmp .lt (.op .max (.app 2 (.cons (.op .sub (.lit 0) (.var 1)) (.cons (.var 3) .nil))) (.op .sub (.lit 0) (.app 2 (.cons (.op .sub (.lit 0) (.var 1)) (.cons (.var 3) .nil))))) (.lit 2147483648))
def hold_f11 : List B := grow hold_b10 ++ hold_f10
def hold_f12 : List B := grow (B.neg hold_b10) ++ hold_f10
def hold_f13 : List B := grow (B.neg hold_b7) ++ hold_f7
def hold_b13 : B := (.cmp .lt (.op .max (.app 2 (.cons (.op .sub (.lit 0) (.var 1)) (.cons (.var 3) .nil))) (.op .sub (.lit 0) (.app 2 (.cons (.op .sub (.lit 0) (.var 1)) (.cons (.var 3) .nil))))) (.lit 2147483647))
def hold_f14 : List B := grow hold_b13 ++ hold_f13
def hold_f15 : List B := grow (B.neg hold_b13) ++ hold_f13
def hold_b15 : B := (.cmp .lt (.lit 2147483647) (.op .max (.app 2 (.cons (.op .sub (.lit 0) (.var 1)) (.cons (.var 3) .nil))) (.op .sub (.lit 0) (.app 2 (.cons (.op .sub (.lit 0) (.var 1)) (.cons (.var 3) .nil))))))
def hold_f16 : List B := grow hold_b15 ++ hold_f15
def hold_f17 : List B := grow (B.neg hold_b15) ++ hold_f15
def hold_f18 : List B := grow (B.neg hold_b0) ++ hold_f0
def hold_b18 : B := (.cmp .ne (.var 2) (.lit 0))
def hold_f19 : List B := grow hold_b18 ++ hold_f18
def hold_b19 : B := (.cmp .le (.op .add (.op .mul (.lit 2) (.op .sub (.lit 0) (.var 1))) (.var 3)) (.lit 0))
def hold_f20 : List B := grow hold_b19 ++ hold_f19
def hold_b20 : B := (.cmp .lt (.lit 2147483648) (.op .max (.app 2 (.cons (.op .sub (.lit 0) (.var 1)) (.cons (.var 3) .nil))) (.op .sub (.lit 0) (.app 2 (.cons (.op .sub (.lit 0) (.var 1)) (.cons (.var 3) .nil))))))
def hold_f21 : List B := grow hold_b20 ++ hold_f20
def hold_f22 : List B := grow (B.neg hold_b20) ++ hold_f20
def hold_b22 : B := (.cmp .lt (.op .max (.app 2 (.cons (.op .sub (.lit 0) (.var 1)) (.cons (.var 3) .nil))) (.op .sub (.lit 0) (.app 2 (.cons (.op .sub (.lit 0) (.var 1)) (.cons (.var 3) .nil))))) (.lit 2147483648))
def hold_f23 : List B := grow hold_b22 ++ hold_f22
def hold_f24 : List B := grow (B.neg hold_b22) ++ hold_f22
def hold_f25 : List B := grow (B.neg hold_b19) ++ hold_f19
def hold_b25 : B := (.cmp .lt (.op .max (.app 2 (.cons (.op .sub (.lit 0) (.var 1)) (.cons (.var 3) .nil))) (.op .sub (.lit 0) (.app 2 (.cons (.op .sub (.lit 0) (.var 1)) (.cons (.var 3) .nil))))) (.lit 2147483647))
def hold_f26 : List B := grow hold_b25 ++ hold_f25
def hold_f27 : List B := grow (B.neg hold_b25) ++ hold_f25
def hold_b27 : B := (.cmp .lt (.lit 2147483647) (.op .max (.app 2 (.cons (.op .sub (.lit 0) (.var 1)) (.cons (.var 3) .nil))) (.op .sub (.lit 0) (.app 2 (.cons (.op .sub (.lit 0) (.var 1)) (.cons (.var 3) .nil))))))
def hold_f28 : List B := grow hold_b27 ++ hold_f27
def hold_f29 : List B := grow (B.neg hold_b27) ++ hold_f27
def hold_f30 : List B := grow (B.neg hold_b18) ++ hold_f18
def hold_b30 : B := (.cmp .lt (.op .max (.app 2 (.cons (.var 1) (.cons (.var 3) .nil))) (.op .sub (.lit 0) (.app 2 (.cons (.var 1) (.cons (.var 3) .nil))))) (.lit 2147483647))
def hold_f31 : List B := grow hold_b30 ++ hold_f30
def hold_f32 : List B := grow (B.neg hold_b30) ++ hold_f30
def hold_b32 : B := (.cmp .lt (.lit 2147483647) (.op .max (.app 2 (.cons (.var 1) (.cons (.var 3) .nil))) (.op .sub (.lit 0) (.app 2 (.cons (.var 1) (.cons (.var 3) .nil))))))
def hold_f33 : List B := grow hold_b32 ++ hold_f32
def hold_f34 : List B := grow (B.neg hold_b32) ++ hold_f32
end Go.Proofs.YtnffpaenalccaaaDoor
