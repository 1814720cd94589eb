/- What is proved: the run of a function over its ways, and what is known on each. No condition. -/
import Derived.Test.YthiehfhphgkaeaaQLh
set_option linter.unusedSimpArgs false
set_option linter.unusedVariables false
set_option maxRecDepth 100000
namespace Go.Proofs.Ythiehfhphgkaeaa
open Go Go.RowKit Sx Wi
def lives_R (P : Program) (fs : List B) : Res SV := lives_run P fs
def lives_f0 : List B := []
def lives_b0 : B := (.cmp .ne (.app 83 (.cons (.app 91 (.cons (.app 91 (.cons (.app 91 (.cons (.lit 0) (.cons (.app 2 (.cons (.lit 0) (.cons (.lit 256) .nil))) (.cons (.app 2 (.cons (.lit 0) (.cons (.lit 256) .nil))) .nil)))) (.cons (.app 2 (.cons (.lit 65536) (.cons (.lit 256) .nil))) (.cons (.app 2 (.cons (.lit 0) (.cons (.lit 256) .nil))) .nil)))) (.cons (.app 2 (.cons (.lit 65536) (.cons (.lit 256) .nil))) (.cons (.app 2 (.cons (.lit 65536) (.cons (.lit 256) .nil))) .nil)))) (.cons (.lit 0) (.cons (.lit 0) .nil)))) (.lit 0))
def lives_f1 : List B := grow lives_b0 ++ lives_f0
def lives_f2 : List B := grow (B.neg lives_b0) ++ lives_f0
def lives_b2 : B := (.cmp .ne (.app 83 (.cons (.app 91 (.cons (.app 91 (.cons (.app 91 (.cons (.lit 0) (.cons (.app 2 (.cons (.lit 0) (.cons (.lit 256) .nil))) (.cons (.app 2 (.cons (.lit 0) (.cons (.lit 256) .nil))) .nil)))) (.cons (.app 2 (.cons (.lit 65536) (.cons (.lit 256) .nil))) (.cons (.app 2 (.cons (.lit 0) (.cons (.lit 256) .nil))) .nil)))) (.cons (.app 2 (.cons (.lit 65536) (.cons (.lit 256) .nil))) (.cons (.app 2 (.cons (.lit 65536) (.cons (.lit 256) .nil))) .nil)))) (.cons (.lit 0) (.cons (.lit 1) .nil)))) (.lit 0))
def lives_f3 : List B := grow lives_b2 ++ lives_f2
def lives_f4 : List B := grow (B.neg lives_b2) ++ lives_f2
def lives_b4 : B := (.cmp .ne (.app 83 (.cons (.app 91 (.cons (.app 91 (.cons (.app 91 (.cons (.lit 0) (.cons (.app 2 (.cons (.lit 0) (.cons (.lit 256) .nil))) (.cons (.app 2 (.cons (.lit 0) (.cons (.lit 256) .nil))) .nil)))) (.cons (.app 2 (.cons (.lit 65536) (.cons (.lit 256) .nil))) (.cons (.app 2 (.cons (.lit 0) (.cons (.lit 256) .nil))) .nil)))) (.cons (.app 2 (.cons (.lit 65536) (.cons (.lit 256) .nil))) (.cons (.app 2 (.cons (.lit 65536) (.cons (.lit 256) .nil))) .nil)))) (.cons (.lit 1) (.cons (.lit 0) .nil)))) (.lit 256))
def lives_f5 : List B := grow lives_b4 ++ lives_f4
def lives_f6 : List B := grow (B.neg lives_b4) ++ lives_f4
def lives_b6 : B := (.cmp .ne (.app 83 (.cons (.app 91 (.cons (.app 91 (.cons (.app 91 (.cons (.lit 0) (.cons (.app 2 (.cons (.lit 0) (.cons (.lit 256) .nil))) (.cons (.app 2 (.cons (.lit 0) (.cons (.lit 256) .nil))) .nil)))) (.cons (.app 2 (.cons (.lit 65536) (.cons (.lit 256) .nil))) (.cons (.app 2 (.cons (.lit 0) (.cons (.lit 256) .nil))) .nil)))) (.cons (.app 2 (.cons (.lit 65536) (.cons (.lit 256) .nil))) (.cons (.app 2 (.cons (.lit 65536) (.cons (.lit 256) .nil))) .nil)))) (.cons (.lit 1) (.cons (.lit 1) .nil)))) (.lit 0))
def lives_f7 : List B := grow lives_b6 ++ lives_f6
def lives_f8 : List B := grow (B.neg lives_b6) ++ lives_f6
def lives_b8 : B := (.cmp .ne (.app 83 (.cons (.app 91 (.cons (.app 91 (.cons (.app 91 (.cons (.lit 0) (.cons (.app 2 (.cons (.lit 0) (.cons (.lit 256) .nil))) (.cons (.app 2 (.cons (.lit 0) (.cons (.lit 256) .nil))) .nil)))) (.cons (.app 2 (.cons (.lit 65536) (.cons (.lit 256) .nil))) (.cons (.app 2 (.cons (.lit 0) (.cons (.lit 256) .nil))) .nil)))) (.cons (.app 2 (.cons (.lit 65536) (.cons (.lit 256) .nil))) (.cons (.app 2 (.cons (.lit 65536) (.cons (.lit 256) .nil))) .nil)))) (.cons (.lit 2) (.cons (.lit 0) .nil)))) (.lit 256))
def lives_f9 : List B := grow lives_b8 ++ lives_f8
def lives_f10 : List B := grow (B.neg lives_b8) ++ lives_f8
def lives_b10 : B := (.cmp .ne (.app 83 (.cons (.app 91 (.cons (.app 91 (.cons (.app 91 (.cons (.lit 0) (.cons (.app 2 (.cons (.lit 0) (.cons (.lit 256) .nil))) (.cons (.app 2 (.cons (.lit 0) (.cons (.lit 256) .nil))) .nil)))) (.cons (.app 2 (.cons (.lit 65536) (.cons (.lit 256) .nil))) (.cons (.app 2 (.cons (.lit 0) (.cons (.lit 256) .nil))) .nil)))) (.cons (.app 2 (.cons (.lit 65536) (.cons (.lit 256) .nil))) (.cons (.app 2 (.cons (.lit 65536) (.cons (.lit 256) .nil))) .nil)))) (.cons (.lit 2) (.cons (.lit 1) .nil)))) (.lit 256))
def lives_f11 : List B := grow lives_b10 ++ lives_f10
def lives_f12 : List B := grow (B.neg lives_b10) ++ lives_f10
def lives_b12 : B := (.cmp .ne (.app 83 (.cons (.app 44 (.cons (.lit 0) (.cons (.lit 0) (.cons (.lit 0) (.cons (.lit 65536) (.cons (.lit 65536) (.cons (.lit 65536) (.cons (.lit 65536) (.cons (.lit 0) .nil))))))))) (.cons (.lit 0) (.cons (.lit 0) .nil)))) (.lit 0))
def lives_f13 : List B := grow lives_b12 ++ lives_f12
def lives_f14 : List B := grow (B.neg lives_b12) ++ lives_f12
def lives_b14 : B := (.cmp .ne (.app 83 (.cons (.app 44 (.cons (.lit 0) (.cons (.lit 0) (.cons (.lit 0) (.cons (.lit 65536) (.cons (.lit 65536) (.cons (.lit 65536) (.cons (.lit 65536) (.cons (.lit 0) .nil))))))))) (.cons (.lit 0) (.cons (.lit 1) .nil)))) (.lit 0))
def lives_f15 : List B := grow lives_b14 ++ lives_f14
def lives_f16 : List B := grow (B.neg lives_b14) ++ lives_f14
def lives_b16 : B := (.cmp .ne (.app 83 (.cons (.app 44 (.cons (.lit 0) (.cons (.lit 0) (.cons (.lit 0) (.cons (.lit 65536) (.cons (.lit 65536) (.cons (.lit 65536) (.cons (.lit 65536) (.cons (.lit 0) .nil))))))))) (.cons (.lit 1) (.cons (.lit 0) .nil)))) (.lit 40))
def lives_f17 : List B := grow lives_b16 ++ lives_f16
def lives_f18 : List B := grow (B.neg lives_b16) ++ lives_f16
def lives_b18 : B := (.cmp .ne (.app 83 (.cons (.app 44 (.cons (.lit 0) (.cons (.lit 0) (.cons (.lit 0) (.cons (.lit 65536) (.cons (.lit 65536) (.cons (.lit 65536) (.cons (.lit 65536) (.cons (.lit 0) .nil))))))))) (.cons (.lit 1) (.cons (.lit 1) .nil)))) (.lit 144))
def lives_f19 : List B := grow lives_b18 ++ lives_f18
def lives_f20 : List B := grow (B.neg lives_b18) ++ lives_f18
def lives_b20 : B := (.cmp .ne (.app 83 (.cons (.app 44 (.cons (.lit 0) (.cons (.lit 0) (.cons (.lit 0) (.cons (.lit 65536) (.cons (.lit 65536) (.cons (.lit 65536) (.cons (.lit 65536) (.cons (.lit 0) .nil))))))))) (.cons (.lit 2) (.cons (.lit 0) .nil)))) (.lit 128))
def lives_f21 : List B := grow lives_b20 ++ lives_f20
def lives_f22 : List B := grow (B.neg lives_b20) ++ lives_f20
def lives_b22 : B := (.cmp .ne (.app 83 (.cons (.app 44 (.cons (.lit 0) (.cons (.lit 0) (.cons (.lit 0) (.cons (.lit 65536) (.cons (.lit 65536) (.cons (.lit 65536) (.cons (.lit 65536) (.cons (.lit 0) .nil))))))))) (.cons (.lit 2) (.cons (.lit 1) .nil)))) (.lit 192))
def lives_f23 : List B := grow lives_b22 ++ lives_f22
def lives_f24 : List B := grow (B.neg lives_b22) ++ lives_f22
def lives_b24 : B := (.cmp .ne (.app 83 (.cons (.app 44 (.cons (.lit 0) (.cons (.lit 0) (.cons (.lit 0) (.cons (.lit 65536) (.cons (.lit 65536) (.cons (.lit 65536) (.cons (.lit 65536) (.cons (.lit 0) .nil))))))))) (.cons (.lit 3) (.cons (.lit 0) .nil)))) (.lit 216))
def lives_f25 : List B := grow lives_b24 ++ lives_f24
def lives_f26 : List B := grow (B.neg lives_b24) ++ lives_f24
def lives_b26 : B := (.cmp .ne (.app 83 (.cons (.app 44 (.cons (.lit 0) (.cons (.lit 0) (.cons (.lit 0) (.cons (.lit 65536) (.cons (.lit 65536) (.cons (.lit 65536) (.cons (.lit 65536) (.cons (.lit 0) .nil))))))))) (.cons (.lit 3) (.cons (.lit 1) .nil)))) (.lit 144))
def lives_f27 : List B := grow lives_b26 ++ lives_f26
def lives_f28 : List B := grow (B.neg lives_b26) ++ lives_f26
def lives_b28 : B := (.cmp .ne (.app 83 (.cons (.app 44 (.cons (.lit 0) (.cons (.lit 0) (.cons (.lit 0) (.cons (.lit 65536) (.cons (.lit 65536) (.cons (.lit 65536) (.cons (.lit 65536) (.cons (.lit 0) .nil))))))))) (.cons (.lit 4) (.cons (.lit 0) .nil)))) (.lit 256))
def lives_f29 : List B := grow lives_b28 ++ lives_f28
def lives_f30 : List B := grow (B.neg lives_b28) ++ lives_f28
def lives_b30 : B := (.cmp .ne (.app 83 (.cons (.app 44 (.cons (.lit 0) (.cons (.lit 0) (.cons (.lit 0) (.cons (.lit 65536) (.cons (.lit 65536) (.cons (.lit 65536) (.cons (.lit 65536) (.cons (.lit 0) .nil))))))))) (.cons (.lit 4) (.cons (.lit 1) .nil)))) (.lit 0))
def lives_f31 : List B := grow lives_b30 ++ lives_f30
def lives_f32 : List B := grow (B.neg lives_b30) ++ lives_f30
theorem lives_n32 : lives_R Try.prog lives_f32 = .ok (.tuple [(.agg []), (.bool (.lit true))]) := by kernel_rfl
end Go.Proofs.Ythiehfhphgkaeaa
