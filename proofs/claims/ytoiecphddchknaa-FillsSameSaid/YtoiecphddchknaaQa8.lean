/- What is proved: a facet whose corners have one number, on a fresh board: its run. No condition but the numbers' own bounds. -/
import Derived.Test.YtoiecphddchknaaQa7
set_option linter.unusedSimpArgs false
set_option linter.unusedVariables false
namespace Go.Proofs.Ytoiecphddchknaa
open Go Go.RowKit Sx Wi
def ct_pxf : Contracts := ctConsM 78 pxf_entry ct_at
theorem ct_pxf_ok {X : Ctx} {ρ : Nat → Int} (hX : X.Ok ρ) (hG : X.G = G) : CtOk Try.prog X ρ GB ct_pxf := ctConsM_ok (pxf_ok hX hG) (ct_at_ok hX hG)
def facet_vt : List (Int × Int) := [((-9223372036854775808), 9223372036854775807), ((-9223372036854775808), 9223372036854775807), ((-9223372036854775808), 9223372036854775807), ((-9223372036854775808), 9223372036854775807), ((-9223372036854775808), 9223372036854775807), ((-9223372036854775808), 9223372036854775807), ((-2147483648), 2147483647), ((-2147483648), 2147483647), ((-2147483648), 2147483647), ((-2147483648), 2147483647), ((-2147483648), 2147483647), ((-2147483648), 2147483647), ((-170141183460469231731687303715884105728), 170141183460469231731687303715884105727), ((-9223372036854775808), 9223372036854775807), ((-9223372036854775808), 9223372036854775807)]
def facet_b : B := (.and (.cmp .le (.lit (-671088640)) (.var 0)) (.and (.cmp .le (.var 0) (.lit 671088640)) (.and (.cmp .le (.lit (-671088640)) (.var 1)) (.and (.cmp .le (.var 1) (.lit 671088640)) (.and (.cmp .le (.lit (-671088640)) (.var 2)) (.and (.cmp .le (.var 2) (.lit 671088640)) (.and (.cmp .le (.lit (-671088640)) (.var 3)) (.and (.cmp .le (.var 3) (.lit 671088640)) (.and (.cmp .le (.lit (-671088640)) (.var 4)) (.and (.cmp .le (.var 4) (.lit 671088640)) (.and (.cmp .le (.lit (-671088640)) (.var 5)) (.and (.cmp .le (.var 5) (.lit 671088640)) (.and (.cmp .le (.lit 0) (.var 6)) (.and (.cmp .le (.var 6) (.lit 65536)) (.and (.cmp .le (.lit 0) (.var 7)) (.and (.cmp .le (.var 7) (.lit 65536)) (.and (.cmp .le (.lit 0) (.var 8)) (.and (.cmp .le (.var 8) (.lit 65536)) (.and (.cmp .le (.lit 0) (.var 9)) (.and (.cmp .le (.var 9) (.lit 65536)) (.and (.cmp .le (.lit 0) (.var 10)) (.and (.cmp .le (.var 10) (.lit 65536)) (.and (.cmp .le (.lit 0) (.var 11)) (.and (.cmp .le (.var 11) (.lit 65536)) (.and (.cmp .le (.lit 1) (.var 13)) (.and (.cmp .le (.var 13) (.lit 65535)) (.and (.cmp .le (.lit (-1125899906842624)) (.var 12)) (.cmp .le (.var 12) (.lit 1125899906842624)))))))))))))))))))))))))))))
def facet_F : FunS := ⟨[(.ptr 1 0), (.agg [(.int .i64 (.var 0)), (.int .i64 (.var 1)), (.int .i64 (.var 2)), (.int .i64 (.var 3)), (.int .i64 (.var 4)), (.int .i64 (.var 5)), (.int .i32 (.var 6)), (.int .i32 (.var 7)), (.int .i32 (.var 8)), (.int .i32 (.var 9)), (.int .i32 (.var 10)), (.int .i32 (.var 11))]), (.agg [(.int .i64 (.app 0 (.cons (.var 12) .nil))), (.int .u64 (.app 1 (.cons (.var 12) .nil))), (.int .i64 (.var 13)), (.int .i64 (.app 0 (.cons (.var 12) .nil))), (.int .u64 (.app 1 (.cons (.var 12) .nil))), (.int .i64 (.var 13)), (.int .i64 (.app 0 (.cons (.var 12) .nil))), (.int .u64 (.app 1 (.cons (.var 12) .nil))), (.int .i64 (.var 13)), (.int .i64 (.app 0 (.cons (.var 12) .nil))), (.int .u64 (.app 1 (.cons (.var 12) .nil))), (.int .i64 (.var 13)), (.int .i64 (.app 0 (.cons (.var 12) .nil))), (.int .u64 (.app 1 (.cons (.var 12) .nil))), (.int .i64 (.var 13)), (.int .i64 (.app 0 (.cons (.var 12) .nil))), (.int .u64 (.app 1 (.cons (.var 12) .nil))), (.int .i64 (.var 13)), (.int .i64 (.app 0 (.cons (.var 12) .nil))), (.int .u64 (.app 1 (.cons (.var 12) .nil))), (.int .i64 (.var 13)), (.int .i64 (.app 0 (.cons (.var 12) .nil))), (.int .u64 (.app 1 (.cons (.var 12) .nil))), (.int .i64 (.var 13)), (.int .i64 (.app 0 (.cons (.var 12) .nil))), (.int .u64 (.app 1 (.cons (.var 12) .nil))), (.int .i64 (.var 13)), (.int .i64 (.app 0 (.cons (.var 12) .nil))), (.int .u64 (.app 1 (.cons (.var 12) .nil))), (.int .i64 (.var 13)), (.int .i64 (.app 0 (.cons (.var 12) .nil))), (.int .u64 (.app 1 (.cons (.var 12) .nil))), (.int .i64 (.var 13)), (.int .i64 (.app 0 (.cons (.var 12) .nil))), (.int .u64 (.app 1 (.cons (.var 12) .nil))), (.int .i64 (.var 13)), (.int .i64 (.app 0 (.cons (.var 12) .nil))), (.int .u64 (.app 1 (.cons (.var 12) .nil))), (.int .i64 (.var 13)), (.int .i64 (.app 0 (.cons (.var 12) .nil))), (.int .u64 (.app 1 (.cons (.var 12) .nil))), (.int .i64 (.var 13)), (.int .i64 (.app 0 (.cons (.var 12) .nil))), (.int .u64 (.app 1 (.cons (.var 12) .nil))), (.int .i64 (.var 13)), (.int .i64 (.app 0 (.cons (.var 12) .nil))), (.int .u64 (.app 1 (.cons (.var 12) .nil))), (.int .i64 (.var 13))]), (.int .i64 (.lit 1)), (.int .i64 (.var 14))], [some ([.vec [.bool, .int .i64, .int .i32, .int .i32, .int .i32, .int .i32, .int .i32, .int .i32] (repE (.lit 144) [.bool, .int .i64, .int .i32, .int .i32, .int .i32, .int .i32, .int .i32, .int .i32]) (.lit 144) true], vecTag + 46), some ([(.int .i64 (.lit 12)), (.int .i64 (.lit 12)), (.own 0 (.lit 144) (some (.lit 144)))], 78)], facet_b, (.int .i64 (.lit 0)), [some ([.vec [.bool, .int .i64, .int .i32, .int .i32, .int .i32, .int .i32, .int .i32, .int .i32] (.app 76 (.cons (.var 0) (.cons (.var 1) (.cons (.var 2) (.cons (.var 3) (.cons (.var 4) (.cons (.var 5) (.cons (.var 6) (.cons (.var 7) (.cons (.var 8) (.cons (.var 9) (.cons (.var 10) (.cons (.var 11) (.cons (.var 12) (.cons (.var 13) (.cons (.var 14) (.cons (.op .max (.op .max (.lit 0) (.op .fdiv (.op .sub (.op .add (.op .sub (.op .min (.op .min (.var 1) (.var 3)) (.var 5)) (.lit 128)) (.lit 256)) (.lit 1)) (.lit 256))) (.op .min (.lit 12) (.op .add (.op .fdiv (.op .sub (.op .max (.op .max (.var 1) (.var 3)) (.var 5)) (.lit 128)) (.lit 256)) (.lit 1)))) .nil))))))))))))))))) (.lit 144) true], vecTag + 46), some ([(.int .i64 (.lit 12)), (.int .i64 (.lit 12)), (.own 0 (.lit 144) (some (.lit 144)))], 78)], (.int .i64 (.lit 1)), [some ([.vec [.bool, .int .i64, .int .i32, .int .i32, .int .i32, .int .i32, .int .i32, .int .i32] (repE (.lit 144) [.bool, .int .i64, .int .i32, .int .i32, .int .i32, .int .i32, .int .i32, .int .i32]) (.lit 144) true], vecTag + 46), some ([(.int .i64 (.lit 12)), (.int .i64 (.lit 12)), (.own 0 (.lit 144) (some (.lit 144)))], 78)]⟩
def facet_run (P : Program) (fs : List B) : Res SV := withCtx G GI facet_vt fs fun X => exFunM P X GB ct_pxf lpNil 4000 26 facet_F
end Go.Proofs.Ytoiecphddchknaa
set_option maxRecDepth 100000
namespace Go.Proofs.Ytoiecphddchknaa
open Go Go.RowKit Sx Wi
def facetf_R (P : Program) (fs : List B) : Res SV := facet_run P fs
def facetf_f0 : List B := []
def facetf_b0 : B := (.cmp .lt (.lit 671088640) (.op .max (.var 0) (.var 1)))
def facetf_f1 : List B := grow facetf_b0 ++ facetf_f0
def facetf_f2 : List B := grow (B.neg facetf_b0) ++ facetf_f0
def facetf_b1 : B := (.cmp .lt (.op .min (.var 0) (.var 1)) (.lit (-671088640)))
def facetf_f3 : List B := grow facetf_b1 ++ facetf_f2
def facetf_f4 : List B := grow (B.neg facetf_b1) ++ facetf_f2
def facetf_b2 : B := (.cmp .lt (.lit 671088640) (.op .max (.var 2) (.var 3)))
def facetf_f5 : List B := grow facetf_b2 ++ facetf_f4
def facetf_f6 : List B := grow (B.neg facetf_b2) ++ facetf_f4
def facetf_b3 : B := (.cmp .lt (.op .min (.var 2) (.var 3)) (.lit (-671088640)))
def facetf_f7 : List B := grow facetf_b3 ++ facetf_f6
def facetf_f8 : List B := grow (B.neg facetf_b3) ++ facetf_f6
def facetf_b4 : B := (.cmp .lt (.lit 671088640) (.op .max (.var 4) (.var 5)))
def facetf_f9 : List B := grow facetf_b4 ++ facetf_f8
def facetf_f10 : List B := grow (B.neg facetf_b4) ++ facetf_f8
def facetf_b5 : B := (.cmp .lt (.op .min (.var 4) (.var 5)) (.lit (-671088640)))
def facetf_f11 : List B := grow facetf_b5 ++ facetf_f10
def facetf_f12 : List B := grow (B.neg facetf_b5) ++ facetf_f10
def facetf_b6 : B := (.cmp .lt (.op .min (.var 6) (.var 9)) (.lit 0))
def facetf_f13 : List B := grow facetf_b6 ++ facetf_f12
def facetf_f14 : List B := grow (B.neg facetf_b6) ++ facetf_f12
def facetf_b7 : B := (.cmp .lt (.lit 65536) (.op .max (.var 6) (.var 9)))
def facetf_f15 : List B := grow facetf_b7 ++ facetf_f14
def facetf_f16 : List B := grow (B.neg facetf_b7) ++ facetf_f14
def facetf_b8 : B := (.cmp .lt (.op .min (.var 7) (.var 10)) (.lit 0))
def facetf_f17 : List B := grow facetf_b8 ++ facetf_f16
def facetf_f18 : List B := grow (B.neg facetf_b8) ++ facetf_f16
def facetf_b9 : B := (.cmp .lt (.lit 65536) (.op .max (.var 7) (.var 10)))
def facetf_f19 : List B := grow facetf_b9 ++ facetf_f18
def facetf_f20 : List B := grow (B.neg facetf_b9) ++ facetf_f18
def facetf_b10 : B := (.cmp .lt (.op .min (.var 8) (.var 11)) (.lit 0))
def facetf_f21 : List B := grow facetf_b10 ++ facetf_f20
def facetf_f22 : List B := grow (B.neg facetf_b10) ++ facetf_f20
def facetf_b11 : B := (.cmp .lt (.lit 65536) (.op .max (.var 8) (.var 11)))
def facetf_f23 : List B := grow facetf_b11 ++ facetf_f22
def facetf_f24 : List B := grow (B.neg facetf_b11) ++ facetf_f22
def facetf_b12 : B := (.cmp .lt (.var 13) (.lit 1))
def facetf_f25 : List B := grow facetf_b12 ++ facetf_f24
def facetf_f26 : List B := grow (B.neg facetf_b12) ++ facetf_f24
def facetf_b13 : B := (.cmp .lt (.lit 65535) (.var 13))
def facetf_f27 : List B := grow facetf_b13 ++ facetf_f26
def facetf_f28 : List B := grow (B.neg facetf_b13) ++ facetf_f26
def facetf_b14 : B := (.cmp .lt (.lit 1125899906842624) (.var 12))
def facetf_f29 : List B := grow facetf_b14 ++ facetf_f28
def facetf_f30 : List B := grow (B.neg facetf_b14) ++ facetf_f28
def facetf_b15 : B := (.cmp .lt (.var 12) (.lit (-1125899906842624)))
def facetf_f31 : List B := grow facetf_b15 ++ facetf_f30
def facetf_f32 : List B := grow (B.neg facetf_b15) ++ facetf_f30
end Go.Proofs.Ytoiecphddchknaa
