/- What is proved: may numbers be: the run. No condition but the numbers' own bounds. -/
import Derived.Test.YtoiecphddchknaaQa2
import Derived.Test.YtoiecphddchknaaQg4
import Derived.Test.YtoiecphddchknaaQg6
import Derived.Test.YtoiecphddchknaaQg3
import Derived.Test.YtoiecphddchknaaQNn
import Derived.Test.YtoiecphddchknaaProg
set_option linter.unusedSimpArgs false
set_option linter.unusedVariables false
namespace Go.Proofs.Ytoiecphddchknaa
open Go Go.RowKit Sx Wi
def fit3_vt : List (Int × Int) := [((-9223372036854775808), 9223372036854775807), (0, 18446744073709551615), ((-9223372036854775808), 9223372036854775807), ((-9223372036854775808), 9223372036854775807), (0, 18446744073709551615), ((-9223372036854775808), 9223372036854775807), ((-9223372036854775808), 9223372036854775807), (0, 18446744073709551615), ((-9223372036854775808), 9223372036854775807)]
def fit3_b : B := (.and (.cmp .le (.lit (-1125899906842624)) (.op .add (.op .mul (.var 0) (.lit 18446744073709551616)) (.var 1))) (.and (.cmp .le (.op .add (.op .mul (.var 0) (.lit 18446744073709551616)) (.var 1)) (.lit 1125899906842624)) (.and (.cmp .le (.lit (-1125899906842624)) (.op .add (.op .mul (.var 3) (.lit 18446744073709551616)) (.var 4))) (.and (.cmp .le (.op .add (.op .mul (.var 3) (.lit 18446744073709551616)) (.var 4)) (.lit 1125899906842624)) (.and (.cmp .le (.lit (-1125899906842624)) (.op .add (.op .mul (.var 6) (.lit 18446744073709551616)) (.var 7))) (.and (.cmp .le (.op .add (.op .mul (.var 6) (.lit 18446744073709551616)) (.var 7)) (.lit 1125899906842624)) (.and (.cmp .le (.lit 1) (.var 2)) (.and (.cmp .le (.var 2) (.lit 65535)) (.and (.cmp .eq (.var 5) (.var 2)) (.cmp .eq (.var 8) (.var 2)))))))))))
def fit3_F : FunS := ⟨[.slice 0 0 3 3], [some ([(.int .i64 (.var 0)), (.int .u64 (.var 1)), (.int .i64 (.var 2)), (.int .i64 (.var 3)), (.int .u64 (.var 4)), (.int .i64 (.var 5)), (.int .i64 (.var 6)), (.int .u64 (.var 7)), (.int .i64 (.var 8))], 37)], .lit true, .bool fit3_b, [some ([(.int .i64 (.var 0)), (.int .u64 (.var 1)), (.int .i64 (.var 2)), (.int .i64 (.var 3)), (.int .u64 (.var 4)), (.int .i64 (.var 5)), (.int .i64 (.var 6)), (.int .u64 (.var 7)), (.int .i64 (.var 8))], 37)], .bool fit3_b, [some ([(.int .i64 (.var 0)), (.int .u64 (.var 1)), (.int .i64 (.var 2)), (.int .i64 (.var 3)), (.int .u64 (.var 4)), (.int .i64 (.var 5)), (.int .i64 (.var 6)), (.int .u64 (.var 7)), (.int .i64 (.var 8))], 37)]⟩
def fit3_run (P : Program) (fs : List B) : Res SV := withCtx G GI fit3_vt fs fun X => exFunM P X GB ct_cw lpNil 4000 36 fit3_F
end Go.Proofs.Ytoiecphddchknaa
set_option maxRecDepth 100000
namespace Go.Proofs.Ytoiecphddchknaa
open Go Go.RowKit Sx Wi
def fit3w_R (P : Program) (fs : List B) : Res SV := fit3_run P fs
def fit3w_f0 : List B := []
def fit3w_b0 : B := (.cmp .lt (.var 2) (.lit 1))
def fit3w_f1 : List B := grow fit3w_b0 ++ fit3w_f0
def fit3w_L0 : SV := (.tuple [(.agg [(.bool (.lit false)), (.bool (.and (.cmp .le (.lit (-1125899906842624)) (.op .add (.op .mul (.var 0) (.lit 18446744073709551616)) (.var 1))) (.and (.cmp .le (.op .add (.op .mul (.var 0) (.lit 18446744073709551616)) (.var 1)) (.lit 1125899906842624)) (.and (.cmp .le (.lit (-1125899906842624)) (.op .add (.op .mul (.var 3) (.lit 18446744073709551616)) (.var 4))) (.and (.cmp .le (.op .add (.op .mul (.var 3) (.lit 18446744073709551616)) (.var 4)) (.lit 1125899906842624)) (.and (.cmp .le (.lit (-1125899906842624)) (.op .add (.op .mul (.var 6) (.lit 18446744073709551616)) (.var 7))) (.and (.cmp .le (.op .add (.op .mul (.var 6) (.lit 18446744073709551616)) (.var 7)) (.lit 1125899906842624)) (.and (.cmp .le (.lit 1) (.var 2)) (.and (.cmp .le (.var 2) (.lit 65535)) (.and (.cmp .eq (.var 5) (.var 2)) (.cmp .eq (.var 8) (.var 2))))))))))))]), (.bool (.lit true))])
def fit3w_f2 : List B := grow (B.neg fit3w_b0) ++ fit3w_f0
def fit3w_b1 : B := (.cmp .lt (.lit 65535) (.var 2))
def fit3w_f3 : List B := grow fit3w_b1 ++ fit3w_f2
def fit3w_f4 : List B := grow (B.neg fit3w_b1) ++ fit3w_f2
def fit3w_b2 : B := (.cmp .lt (.lit 1125899906842624) (.op .add (.op .mul (.var 0) (.lit 18446744073709551616)) (.var 1)))
def fit3w_f5 : List B := grow fit3w_b2 ++ fit3w_f4
def fit3w_f6 : List B := grow (B.neg fit3w_b2) ++ fit3w_f4
def fit3w_b3 : B := (.cmp .lt (.op .add (.op .mul (.var 0) (.lit 18446744073709551616)) (.var 1)) (.lit (-1125899906842624)))
def fit3w_f7 : List B := grow fit3w_b3 ++ fit3w_f6
def fit3w_f8 : List B := grow (B.neg fit3w_b3) ++ fit3w_f6
def fit3w_b4 : B := (.cmp .ne (.var 5) (.var 2))
def fit3w_f9 : List B := grow fit3w_b4 ++ fit3w_f8
def fit3w_f10 : List B := grow (B.neg fit3w_b4) ++ fit3w_f8
def fit3w_b5 : B := (.cmp .lt (.var 5) (.lit 1))
def fit3w_f11 : List B := grow fit3w_b5 ++ fit3w_f10
def fit3w_f12 : List B := grow (B.neg fit3w_b5) ++ fit3w_f10
def fit3w_b6 : B := (.cmp .lt (.lit 65535) (.var 5))
def fit3w_f13 : List B := grow fit3w_b6 ++ fit3w_f12
def fit3w_f14 : List B := grow (B.neg fit3w_b6) ++ fit3w_f12
def fit3w_b7 : B := (.cmp .lt (.lit 1125899906842624) (.op .add (.op .mul (.var 3) (.lit 18446744073709551616)) (.var 4)))
def fit3w_f15 : List B := grow fit3w_b7 ++ fit3w_f14
def fit3w_f16 : List B := grow (B.neg fit3w_b7) ++ fit3w_f14
def fit3w_b8 : B := (.cmp .lt (.op .add (.op .mul (.var 3) (.lit 18446744073709551616)) (.var 4)) (.lit (-1125899906842624)))
def fit3w_f17 : List B := grow fit3w_b8 ++ fit3w_f16
def fit3w_f18 : List B := grow (B.neg fit3w_b8) ++ fit3w_f16
def fit3w_b9 : B := (.cmp .ne (.var 8) (.var 2))
def fit3w_f19 : List B := grow fit3w_b9 ++ fit3w_f18
def fit3w_f20 : List B := grow (B.neg fit3w_b9) ++ fit3w_f18
def fit3w_b10 : B := (.cmp .lt (.var 8) (.lit 1))
def fit3w_f21 : List B := grow fit3w_b10 ++ fit3w_f20
def fit3w_f22 : List B := grow (B.neg fit3w_b10) ++ fit3w_f20
def fit3w_b11 : B := (.cmp .lt (.lit 65535) (.var 8))
def fit3w_f23 : List B := grow fit3w_b11 ++ fit3w_f22
def fit3w_f24 : List B := grow (B.neg fit3w_b11) ++ fit3w_f22
def fit3w_b12 : B := (.cmp .lt (.lit 1125899906842624) (.op .add (.op .mul (.var 6) (.lit 18446744073709551616)) (.var 7)))
def fit3w_f25 : List B := grow fit3w_b12 ++ fit3w_f24
def fit3w_f26 : List B := grow (B.neg fit3w_b12) ++ fit3w_f24
def fit3w_b13 : B := (.cmp .lt (.op .add (.op .mul (.var 6) (.lit 18446744073709551616)) (.var 7)) (.lit (-1125899906842624)))
def fit3w_f27 : List B := grow fit3w_b13 ++ fit3w_f26
def fit3w_f28 : List B := grow (B.neg fit3w_b13) ++ fit3w_f26
def fit3w_L1 : SV := (.tuple [(.agg [(.bool (.lit true)), (.bool (.and (.cmp .le (.lit (-1125899906842624)) (.op .add (.op .mul (.var 0) (.lit 18446744073709551616)) (.var 1))) (.and (.cmp .le (.op .add (.op .mul (.var 0) (.lit 18446744073709551616)) (.var 1)) (.lit 1125899906842624)) (.and (.cmp .le (.lit (-1125899906842624)) (.op .add (.op .mul (.var 3) (.lit 18446744073709551616)) (.var 4))) (.and (.cmp .le (.op .add (.op .mul (.var 3) (.lit 18446744073709551616)) (.var 4)) (.lit 1125899906842624)) (.and (.cmp .le (.lit (-1125899906842624)) (.op .add (.op .mul (.var 6) (.lit 18446744073709551616)) (.var 7))) (.and (.cmp .le (.op .add (.op .mul (.var 6) (.lit 18446744073709551616)) (.var 7)) (.lit 1125899906842624)) (.and (.cmp .le (.lit 1) (.var 2)) (.and (.cmp .le (.var 2) (.lit 65535)) (.and (.cmp .eq (.var 5) (.var 2)) (.cmp .eq (.var 8) (.var 2))))))))))))]), (.bool (.lit true))])
theorem fit3w_n1 : fit3w_R Try.prog fit3w_f1 = .ok fit3w_L0 := by kernel_rfl
theorem fit3w_n3 : fit3w_R Try.prog fit3w_f3 = .ok fit3w_L0 := by kernel_rfl
theorem fit3w_n5 : fit3w_R Try.prog fit3w_f5 = .ok fit3w_L0 := by kernel_rfl
theorem fit3w_n7 : fit3w_R Try.prog fit3w_f7 = .ok fit3w_L0 := by kernel_rfl
theorem fit3w_n9 : fit3w_R Try.prog fit3w_f9 = .ok fit3w_L0 := by kernel_rfl
theorem fit3w_n11 : fit3w_R Try.prog fit3w_f11 = .ok fit3w_L0 := by kernel_rfl
theorem fit3w_n13 : fit3w_R Try.prog fit3w_f13 = .ok fit3w_L0 := by kernel_rfl
theorem fit3w_n15 : fit3w_R Try.prog fit3w_f15 = .ok fit3w_L0 := by kernel_rfl
theorem fit3w_n17 : fit3w_R Try.prog fit3w_f17 = .ok fit3w_L0 := by kernel_rfl
theorem fit3w_n19 : fit3w_R Try.prog fit3w_f19 = .ok fit3w_L0 := by kernel_rfl
theorem fit3w_n21 : fit3w_R Try.prog fit3w_f21 = .ok fit3w_L0 := by kernel_rfl
theorem fit3w_n23 : fit3w_R Try.prog fit3w_f23 = .ok fit3w_L0 := by kernel_rfl
theorem fit3w_n25 : fit3w_R Try.prog fit3w_f25 = .ok fit3w_L0 := by kernel_rfl
theorem fit3w_n27 : fit3w_R Try.prog fit3w_f27 = .ok fit3w_L0 := by kernel_rfl
theorem fit3w_n28 : fit3w_R Try.prog fit3w_f28 = .ok fit3w_L1 := by kernel_rfl
end Go.Proofs.Ytoiecphddchknaa
namespace Go.Proofs.Ytoiecphddchknaa
open Go Go.RowKit Sx Wi
theorem side_pos {a b p : Ed.D} (h : Ed.side a b p = 1) : 0 ≤ Ed.cross a b p := by
  unfold Ed.side Ed.or3 at h
  rcases Ed.sg_cases (Ed.cross a b p) with ⟨e, q⟩ | ⟨e, q⟩ | ⟨e, q⟩
  · rw [e, if_pos (by omega)] at h; omega
  · omega
  · omega
theorem side_neg {a b p : Ed.D} (h : Ed.side a b p = -1) : Ed.cross a b p ≤ 0 := by
  unfold Ed.side Ed.or3 at h
  rcases Ed.sg_cases (Ed.cross a b p) with ⟨e, q⟩ | ⟨e, q⟩ | ⟨e, q⟩
  · omega
  · omega
  · rw [e, if_pos (by omega)] at h; omega
theorem claim_w {a b c d e f x y : Int} (h : xG63 [a, b, c, d, e, f, x, y] ≠ 0) :
    (-3602879701896396800 ≤ xG64 0 [a, b, c, d, e, f, x, y] + xG64 1 [a, b, c, d, e, f, x, y] + xG64 2 [a, b, c, d, e, f, x, y] ∧ xG64 0 [a, b, c, d, e, f, x, y] + xG64 1 [a, b, c, d, e, f, x, y] + xG64 2 [a, b, c, d, e, f, x, y] ≤ 3602879701896396800) ∧
    ((0 ≤ xG64 0 [a, b, c, d, e, f, x, y] ∧ 0 ≤ xG64 1 [a, b, c, d, e, f, x, y] ∧ 0 ≤ xG64 2 [a, b, c, d, e, f, x, y] ∧ 1 ≤ xG64 0 [a, b, c, d, e, f, x, y] + xG64 1 [a, b, c, d, e, f, x, y] + xG64 2 [a, b, c, d, e, f, x, y]) ∨
     (xG64 0 [a, b, c, d, e, f, x, y] ≤ 0 ∧ xG64 1 [a, b, c, d, e, f, x, y] ≤ 0 ∧ xG64 2 [a, b, c, d, e, f, x, y] ≤ 0 ∧ xG64 0 [a, b, c, d, e, f, x, y] + xG64 1 [a, b, c, d, e, f, x, y] + xG64 2 [a, b, c, d, e, f, x, y] ≤ -1)) := by
  replace h : Ed.claim ⟨a, b⟩ ⟨c, d⟩ ⟨e, f⟩ ⟨x, y⟩ ≠ 0 := h
  show (_ ≤ wt ⟨a, b⟩ ⟨c, d⟩ ⟨e, f⟩ ⟨x, y⟩ 0 + wt ⟨a, b⟩ ⟨c, d⟩ ⟨e, f⟩ ⟨x, y⟩ 1 + wt ⟨a, b⟩ ⟨c, d⟩ ⟨e, f⟩ ⟨x, y⟩ 2 ∧ wt ⟨a, b⟩ ⟨c, d⟩ ⟨e, f⟩ ⟨x, y⟩ 0 + wt ⟨a, b⟩ ⟨c, d⟩ ⟨e, f⟩ ⟨x, y⟩ 1 + wt ⟨a, b⟩ ⟨c, d⟩ ⟨e, f⟩ ⟨x, y⟩ 2 ≤ _) ∧ ((0 ≤ wt ⟨a, b⟩ ⟨c, d⟩ ⟨e, f⟩ ⟨x, y⟩ 0 ∧ 0 ≤ wt ⟨a, b⟩ ⟨c, d⟩ ⟨e, f⟩ ⟨x, y⟩ 1 ∧ 0 ≤ wt ⟨a, b⟩ ⟨c, d⟩ ⟨e, f⟩ ⟨x, y⟩ 2 ∧ 1 ≤ wt ⟨a, b⟩ ⟨c, d⟩ ⟨e, f⟩ ⟨x, y⟩ 0 + wt ⟨a, b⟩ ⟨c, d⟩ ⟨e, f⟩ ⟨x, y⟩ 1 + wt ⟨a, b⟩ ⟨c, d⟩ ⟨e, f⟩ ⟨x, y⟩ 2) ∨ (wt ⟨a, b⟩ ⟨c, d⟩ ⟨e, f⟩ ⟨x, y⟩ 0 ≤ 0 ∧ wt ⟨a, b⟩ ⟨c, d⟩ ⟨e, f⟩ ⟨x, y⟩ 1 ≤ 0 ∧ wt ⟨a, b⟩ ⟨c, d⟩ ⟨e, f⟩ ⟨x, y⟩ 2 ≤ 0 ∧ wt ⟨a, b⟩ ⟨c, d⟩ ⟨e, f⟩ ⟨x, y⟩ 0 + wt ⟨a, b⟩ ⟨c, d⟩ ⟨e, f⟩ ⟨x, y⟩ 1 + wt ⟨a, b⟩ ⟨c, d⟩ ⟨e, f⟩ ⟨x, y⟩ 2 ≤ -1))
  generalize (⟨a, b⟩ : Ed.D) = A at *
  generalize (⟨c, d⟩ : Ed.D) = B at *
  generalize (⟨e, f⟩ : Ed.D) = C at *
  generalize (⟨x, y⟩ : Ed.D) = p at *
  unfold Ed.claim at h
  split at h
  · exact absurd rfl h
  rename_i h0
  have hp : Ed.ok p := by
    by_cases q : Ed.ok p
    · exact q
    · exact absurd (Or.inr q) h0
  have ha0 : Ed.sg (Ed.area A B C) ≠ 0 := fun q => h0 (Or.inl q)
  have hok : Ed.ok A ∧ Ed.ok B ∧ Ed.ok C := by
    by_cases q : Ed.ok A ∧ Ed.ok B ∧ Ed.ok C
    · exact q
    · exact absurd (by unfold Ed.area; rw [if_neg q]; rfl) ha0
  have har : Ed.area A B C = Ed.cross A B C := by unfold Ed.area; rw [if_pos hok]
  have hbd := area_bd A B C
  rw [har] at h ha0 hbd
  split at h
  case isFalse => exact absurd rfl h
  rename_i hs
  obtain ⟨s0, s1, s2⟩ := hs
  have hk : okAt A B C p := ⟨hok, hp⟩
  have w0 : wt A B C p 0 = Ed.cross B C p := by unfold wt; rw [if_pos hk]; rfl
  have w1 : wt A B C p 1 = Ed.cross C A p := by unfold wt; rw [if_pos hk]; rfl
  have w2 : wt A B C p 2 = Ed.cross A B p := by unfold wt; rw [if_pos hk]; rfl
  have hsum := Ed.cross_sum A B C p
  rw [w0, w1, w2]
  rcases Ed.sg_cases (Ed.cross A B C) with ⟨q, r⟩ | ⟨q, r⟩ | ⟨q, r⟩
  · rw [q] at s0 s1 s2
    have t0 := side_neg s0; have t1 := side_neg s1; have t2 := side_neg s2
    exact ⟨by omega, .inr ⟨t0, t1, t2, by omega⟩⟩
  · exact absurd q ha0
  · rw [q] at s0 s1 s2
    have t0 := side_pos s0; have t1 := side_pos s1; have t2 := side_pos s2
    exact ⟨by omega, .inl ⟨t0, t1, t2, by omega⟩⟩
theorem fq_le {n d k : Int} (hd : 1 ≤ d) (h : n ≤ k * d) : fq n d ≤ k := by
  unfold fq; rw [if_pos hd, Int.fdiv_eq_ediv_of_nonneg _ (by omega)]
  exact Int.le_of_lt_add_one (Int.ediv_lt_of_lt_mul (by omega) (by rw [Int.add_mul]; omega))
theorem fq_ge {n d k : Int} (hd : 1 ≤ d) (h : k * d ≤ n) : k ≤ fq n d := by
  unfold fq; rw [if_pos hd, Int.fdiv_eq_ediv_of_nonneg _ (by omega)]
  exact Int.le_ediv_of_mul_le (by omega) h
theorem q_bd {s a d : Int} (ha : 1 ≤ a) (hd : 1 ≤ d ∧ d ≤ 65535) (hs : -1125899906842624 * a ≤ s ∧ s ≤ 1125899906842624 * a) : -9223372036854775808 ≤ fq (fq (s * 2 + a * d) d) (2 * a) ∧ fq (fq (s * 2 + a * d) d) (2 * a) ≤ 9223372036854775807 := by
  have had1 : a * d ≤ a * 65535 := Int.mul_le_mul_of_nonneg_left hd.2 (by omega)
  have had0 : 0 ≤ a * d := Int.mul_nonneg (by omega) (by omega)
  have hb := fq_bd (s * 2 + a * d) d
  have h1 : fq (s * 2 + a * d) d ≤ 4503599627370496 * (2 * a) := by omega
  have h2 : -4503599627370496 * (2 * a) ≤ fq (s * 2 + a * d) d := by omega
  have g1 := fq_le (d := 2 * a) (by omega) h1
  have g2 := fq_ge (d := 2 * a) (by omega) h2
  omega
theorem mulw {n w : Int} (hn : -1125899906842624 ≤ n ∧ n ≤ 1125899906842624) (hw : 0 ≤ w) : -1125899906842624 * w ≤ n * w ∧ n * w ≤ 1125899906842624 * w :=
  ⟨Int.mul_le_mul_of_nonneg_right hn.1 hw, Int.mul_le_mul_of_nonneg_right hn.2 hw⟩
theorem togS_bd {n0 n1 n2 w0 w1 w2 : Int} (h0 : -1125899906842624 ≤ n0 ∧ n0 ≤ 1125899906842624) (h1 : -1125899906842624 ≤ n1 ∧ n1 ≤ 1125899906842624) (h2 : -1125899906842624 ≤ n2 ∧ n2 ≤ 1125899906842624) (g0 : 0 ≤ w0) (g1 : 0 ≤ w1) (g2 : 0 ≤ w2) :
    -1125899906842624 * (w0 + w1 + w2) ≤ 0 + n0 * w0 + n1 * w1 + n2 * w2 ∧ 0 + n0 * w0 + n1 * w1 + n2 * w2 ≤ 1125899906842624 * (w0 + w1 + w2) := by
  have a0 := mulw h0 g0; have a1 := mulw h1 g1; have a2 := mulw h2 g2
  omega
theorem togS_bd' {n0 n1 n2 w0 w1 w2 : Int} (h0 : -1125899906842624 ≤ n0 ∧ n0 ≤ 1125899906842624) (h1 : -1125899906842624 ≤ n1 ∧ n1 ≤ 1125899906842624) (h2 : -1125899906842624 ≤ n2 ∧ n2 ≤ 1125899906842624) (g0 : w0 ≤ 0) (g1 : w1 ≤ 0) (g2 : w2 ≤ 0) :
    -1125899906842624 * (0 - (w0 + w1 + w2)) ≤ 0 - (0 + n0 * w0 + n1 * w1 + n2 * w2) ∧ 0 - (0 + n0 * w0 + n1 * w1 + n2 * w2) ≤ 1125899906842624 * (0 - (w0 + w1 + w2)) := by
  have a0 := mulw h0 (show 0 ≤ -w0 by omega); have a1 := mulw h1 (show 0 ≤ -w1 by omega); have a2 := mulw h2 (show 0 ≤ -w2 by omega)
  rw [Int.mul_neg, Int.mul_neg, Int.mul_neg] at a0 a1 a2
  omega
theorem leftP_bd (a b c : Int) (h : (-671088640 ≤ a ∧ a ≤ 671088640) ∧ (-671088640 ≤ b ∧ b ≤ 671088640) ∧ (-671088640 ≤ c ∧ c ≤ 671088640)) : 0 ≤ leftP a b c ∧ leftP a b c ≤ 2700000 := by
  unfold leftP
  rw [Int.fdiv_eq_ediv_of_nonneg _ (by decide)]
  omega
theorem rightP_bd (m a b c : Int) : rightP m a b c ≤ m := by unfold rightP; omega
theorem tog3_facts {n0 n1 n2 d w0 w1 w2 : Int} (b0 : -1125899906842624 ≤ n0 ∧ n0 ≤ 1125899906842624) (b1 : -1125899906842624 ≤ n1 ∧ n1 ≤ 1125899906842624) (b2 : -1125899906842624 ≤ n2 ∧ n2 ≤ 1125899906842624) (bd : 1 ≤ d ∧ d ≤ 65535) (hf : fineW w0 w1 w2) :
    ((w0 + w1 + w2) < 0 → 2 * (0 - (w0 + w1 + w2)) ≤ 9223372036854775807 ∧ -9223372036854775808 ≤ G 71 [G 71 [(0 - (0 + n0 * w0 + n1 * w1 + n2 * w2)) * 2 + (0 - (w0 + w1 + w2)) * d, d], 2 * (0 - (w0 + w1 + w2))] ∧ G 71 [G 71 [(0 - (0 + n0 * w0 + n1 * w1 + n2 * w2)) * 2 + (0 - (w0 + w1 + w2)) * d, d], 2 * (0 - (w0 + w1 + w2))] ≤ 9223372036854775807) ∧ (¬ (w0 + w1 + w2) < 0 → 2 * (w0 + w1 + w2) ≤ 9223372036854775807 ∧ 1 ≤ 2 * (w0 + w1 + w2) ∧ -9223372036854775808 ≤ G 71 [G 71 [(0 + n0 * w0 + n1 * w1 + n2 * w2) * 2 + (w0 + w1 + w2) * d, d], 2 * (w0 + w1 + w2)] ∧ G 71 [G 71 [(0 + n0 * w0 + n1 * w1 + n2 * w2) * 2 + (w0 + w1 + w2) * d, d], 2 * (w0 + w1 + w2)] ≤ 9223372036854775807) := by
  obtain ⟨hA, ⟨p0, p1, p2, p3⟩ | ⟨p0, p1, p2, p3⟩⟩ := hf
  · refine ⟨fun h => by omega, fun _ => ⟨by omega, by omega, ?_⟩⟩
    have hS := togS_bd b0 b1 b2 p0 p1 p2
    exact q_bd (s := (0 + n0 * w0 + n1 * w1 + n2 * w2)) (a := (w0 + w1 + w2)) (d := d) p3 bd hS
  · refine ⟨fun _ => ⟨by omega, ?_⟩, fun h => by omega⟩
    have hS := togS_bd' b0 b1 b2 p0 p1 p2
    exact q_bd (s := (0 - (0 + n0 * w0 + n1 * w1 + n2 * w2))) (a := (0 - (w0 + w1 + w2))) (d := d) (by omega) bd hS
theorem tog3_neg {n0 n1 n2 d w0 w1 w2 : Int} (h : (w0 + w1 + w2) < 0) : max (-2147483648) (min 2147483647 (G 71 [G 71 [(0 - (0 + n0 * w0 + n1 * w1 + n2 * w2)) * 2 + (0 - (w0 + w1 + w2)) * d, d], 2 * (0 - (w0 + w1 + w2))])) = G 70 [n0, n1, n2, d, w0, w1, w2] := by
  show _ = (if (w0 + w1 + w2) < 0 then _ else _)
  rw [if_pos h]; rfl
theorem tog3_pos {n0 n1 n2 d w0 w1 w2 : Int} (h : ¬ (w0 + w1 + w2) < 0) : max (-2147483648) (min 2147483647 (G 71 [G 71 [(0 + n0 * w0 + n1 * w1 + n2 * w2) * 2 + (w0 + w1 + w2) * d, d], 2 * (w0 + w1 + w2)])) = G 70 [n0, n1, n2, d, w0, w1, w2] := by
  show _ = (if (w0 + w1 + w2) < 0 then _ else _)
  rw [if_neg h]; rfl
theorem tog4_facts {n0 n1 n2 n3 d w0 w1 w2 w3 : Int} (b0 : -1125899906842624 ≤ n0 ∧ n0 ≤ 1125899906842624) (b1 : -1125899906842624 ≤ n1 ∧ n1 ≤ 1125899906842624) (b2 : -1125899906842624 ≤ n2 ∧ n2 ≤ 1125899906842624) (b3 : -1125899906842624 ≤ n3 ∧ n3 ≤ 1125899906842624) (bd : 1 ≤ d ∧ d ≤ 65535) (p0 : 0 ≤ w0) (p1 : 0 ≤ w1) (p2 : 0 ≤ w2) (p3 : 0 ≤ w3) (hp : 1 ≤ (w0 + w1 + w2 + w3)) : -9223372036854775808 ≤ G 71 [G 71 [(0 + n0 * w0 + n1 * w1 + n2 * w2 + n3 * w3) * 2 + (w0 + w1 + w2 + w3) * d, d], 2 * (w0 + w1 + w2 + w3)] ∧ G 71 [G 71 [(0 + n0 * w0 + n1 * w1 + n2 * w2 + n3 * w3) * 2 + (w0 + w1 + w2 + w3) * d, d], 2 * (w0 + w1 + w2 + w3)] ≤ 9223372036854775807 := by
  have a0 := mulw b0 p0; have a1 := mulw b1 p1; have a2 := mulw b2 p2; have a3 := mulw b3 p3
  exact q_bd (s := (0 + n0 * w0 + n1 * w1 + n2 * w2 + n3 * w3)) (a := (w0 + w1 + w2 + w3)) (d := d) hp bd (by omega)
theorem tog4_val {n0 n1 n2 n3 d w0 w1 w2 w3 : Int} : max (-2147483648) (min 2147483647 (G 71 [G 71 [(0 + n0 * w0 + n1 * w1 + n2 * w2 + n3 * w3) * 2 + (w0 + w1 + w2 + w3) * d, d], 2 * (w0 + w1 + w2 + w3)])) = G 73 [n0, n1, n2, n3, d, w0, w1, w2, w3] := rfl
theorem in_cons {p : Int × Int} {l : List (Int × Int)} {xs : List Int} (h : within (p :: l) xs) : ∃ x ys, xs = x :: ys ∧ (p.1 ≤ x ∧ x ≤ p.2) ∧ within l ys := by
  cases xs with
  | nil => exact h.elim
  | cons x ys => exact ⟨x, ys, rfl, h.1, h.2⟩
theorem in_nil {xs : List Int} (h : within [] xs) : xs = [] := by
  cases xs with
  | nil => rfl
  | cons x ys => exact h.elim
theorem len1 {α : Type} {xs : List α} (h : xs.length = 1) : ∃ a, xs = [a] := by
  match xs, h with
  | [a], _ => exact ⟨a, rfl⟩
theorem kfine {a b c d e f x y : Int} (h : ¬ G 63 [a, b, c, d, e, f, x, y] = 0) :
    (-3602879701896396800 ≤ G 64 [a, b, c, d, e, f, x, y] + G 65 [a, b, c, d, e, f, x, y] + G 66 [a, b, c, d, e, f, x, y] ∧ G 64 [a, b, c, d, e, f, x, y] + G 65 [a, b, c, d, e, f, x, y] + G 66 [a, b, c, d, e, f, x, y] ≤ 3602879701896396800) ∧ ((0 ≤ G 64 [a, b, c, d, e, f, x, y] ∧ 0 ≤ G 65 [a, b, c, d, e, f, x, y] ∧ 0 ≤ G 66 [a, b, c, d, e, f, x, y] ∧ 1 ≤ G 64 [a, b, c, d, e, f, x, y] + G 65 [a, b, c, d, e, f, x, y] + G 66 [a, b, c, d, e, f, x, y]) ∨ (G 64 [a, b, c, d, e, f, x, y] ≤ 0 ∧ G 65 [a, b, c, d, e, f, x, y] ≤ 0 ∧ G 66 [a, b, c, d, e, f, x, y] ≤ 0 ∧ G 64 [a, b, c, d, e, f, x, y] + G 65 [a, b, c, d, e, f, x, y] + G 66 [a, b, c, d, e, f, x, y] ≤ -1)) := claim_w h
theorem idx_lt {y x w h n : Int} (hn : n = w * h) (hy : 0 ≤ y ∧ y < h) (hw : 0 ≤ w) (hx : x < w) : y * w + x < n := by
  have h1 := Int.mul_le_mul_of_nonneg_right (show y + 1 ≤ h by omega) hw
  rw [Int.add_mul, Int.one_mul] at h1
  rw [hn, Int.mul_comm w h]
  omega
set_option maxHeartbeats 4000000 in
set_option maxRecDepth 100000 in
theorem fit3_mem (x0 x1 x2 x3 x4 x5 x6 x7 x8 : Int) (b0 : (-9223372036854775808) ≤ x0 ∧ x0 ≤ 9223372036854775807) (b1 : 0 ≤ x1 ∧ x1 ≤ 18446744073709551615) (b2 : (-9223372036854775808) ≤ x2 ∧ x2 ≤ 9223372036854775807) (b3 : (-9223372036854775808) ≤ x3 ∧ x3 ≤ 9223372036854775807) (b4 : 0 ≤ x4 ∧ x4 ≤ 18446744073709551615) (b5 : (-9223372036854775808) ≤ x5 ∧ x5 ≤ 9223372036854775807) (b6 : (-9223372036854775808) ≤ x6 ∧ x6 ≤ 9223372036854775807) (b7 : 0 ≤ x7 ∧ x7 ≤ 18446744073709551615) (b8 : (-9223372036854775808) ≤ x8 ∧ x8 ≤ 9223372036854775807) : MemFun Try.prog G GB 36 fit3_F (rho ([x0, x1, x2, x3, x4, x5, x6, x7, x8] : List Int)) := by
  refine memFun_way (lp := lpNil) (run := fit3_run Try.prog) (fun _ => rfl) fits (within_get ⟨b0, b1, b2, b3, b4, b5, b6, b7, b8, trivial⟩) gi_ok (fun X hX hG => ct_cw_ok hX hG) (fun X hX hG fn c hf hc => lpOk_lpNil) rfl ?_
  clear b0 b1 b2 b3 b4 b5 b6 b7 b8
  refine way_cut fit3w_b0 (fun h0 => ?_) (fun h0 => ?_)
  · skip
    refine way_leaf fit3w_n1 ?_
    unfold fit3w_b0 at h0; simp only [FunP]; refine ⟨rfl, ?_⟩; simp only [AgreeSV]; refine ⟨?_, trivial⟩; show false = B.den G (rho ([x0, x1, x2, x3, x4, x5, x6, x7, x8] : List Int)) fit3_b; refine Eq.symm ?_; unfold fit3_b; rw [Bool.eq_false_iff]; intro h; simp only [nn, List.cons_append, List.nil_append, lenE, ne_eq] at *; (try simp only [Bool.and_eq_true, decide_eq_true_eq] at *); omega
  refine way_cut fit3w_b1 (fun h1 => ?_) (fun h1 => ?_)
  · skip
    refine way_leaf fit3w_n3 ?_
    unfold fit3w_b0 at h0; unfold fit3w_b1 at h1; simp only [FunP]; refine ⟨rfl, ?_⟩; simp only [AgreeSV]; refine ⟨?_, trivial⟩; show false = B.den G (rho ([x0, x1, x2, x3, x4, x5, x6, x7, x8] : List Int)) fit3_b; refine Eq.symm ?_; unfold fit3_b; rw [Bool.eq_false_iff]; intro h; simp only [nn, List.cons_append, List.nil_append, lenE, ne_eq] at *; (try simp only [Bool.and_eq_true, decide_eq_true_eq] at *); omega
  refine way_cut fit3w_b2 (fun h2 => ?_) (fun h2 => ?_)
  · skip
    refine way_leaf fit3w_n5 ?_
    unfold fit3w_b0 at h0; unfold fit3w_b1 at h1; unfold fit3w_b2 at h2; simp only [FunP]; refine ⟨rfl, ?_⟩; simp only [AgreeSV]; refine ⟨?_, trivial⟩; show false = B.den G (rho ([x0, x1, x2, x3, x4, x5, x6, x7, x8] : List Int)) fit3_b; refine Eq.symm ?_; unfold fit3_b; rw [Bool.eq_false_iff]; intro h; simp only [nn, List.cons_append, List.nil_append, lenE, ne_eq] at *; (try simp only [Bool.and_eq_true, decide_eq_true_eq] at *); omega
  refine way_cut fit3w_b3 (fun h3 => ?_) (fun h3 => ?_)
  · skip
    refine way_leaf fit3w_n7 ?_
    unfold fit3w_b0 at h0; unfold fit3w_b1 at h1; unfold fit3w_b2 at h2; unfold fit3w_b3 at h3; simp only [FunP]; refine ⟨rfl, ?_⟩; simp only [AgreeSV]; refine ⟨?_, trivial⟩; show false = B.den G (rho ([x0, x1, x2, x3, x4, x5, x6, x7, x8] : List Int)) fit3_b; refine Eq.symm ?_; unfold fit3_b; rw [Bool.eq_false_iff]; intro h; simp only [nn, List.cons_append, List.nil_append, lenE, ne_eq] at *; (try simp only [Bool.and_eq_true, decide_eq_true_eq] at *); omega
  refine way_cut fit3w_b4 (fun h4 => ?_) (fun h4 => ?_)
  · skip
    refine way_leaf fit3w_n9 ?_
    unfold fit3w_b0 at h0; unfold fit3w_b1 at h1; unfold fit3w_b2 at h2; unfold fit3w_b3 at h3; unfold fit3w_b4 at h4; simp only [FunP]; refine ⟨rfl, ?_⟩; simp only [AgreeSV]; refine ⟨?_, trivial⟩; show false = B.den G (rho ([x0, x1, x2, x3, x4, x5, x6, x7, x8] : List Int)) fit3_b; refine Eq.symm ?_; unfold fit3_b; rw [Bool.eq_false_iff]; intro h; simp only [nn, List.cons_append, List.nil_append, lenE, ne_eq] at *; (try simp only [Bool.and_eq_true, decide_eq_true_eq] at *); omega
  refine way_cut fit3w_b5 (fun h5 => ?_) (fun h5 => ?_)
  · skip
    refine way_leaf fit3w_n11 ?_
    unfold fit3w_b0 at h0; unfold fit3w_b1 at h1; unfold fit3w_b2 at h2; unfold fit3w_b3 at h3; unfold fit3w_b4 at h4; unfold fit3w_b5 at h5; simp only [FunP]; refine ⟨rfl, ?_⟩; simp only [AgreeSV]; refine ⟨?_, trivial⟩; show false = B.den G (rho ([x0, x1, x2, x3, x4, x5, x6, x7, x8] : List Int)) fit3_b; refine Eq.symm ?_; unfold fit3_b; rw [Bool.eq_false_iff]; intro h; simp only [nn, List.cons_append, List.nil_append, lenE, ne_eq] at *; (try simp only [Bool.and_eq_true, decide_eq_true_eq] at *); omega
  refine way_cut fit3w_b6 (fun h6 => ?_) (fun h6 => ?_)
  · skip
    refine way_leaf fit3w_n13 ?_
    unfold fit3w_b0 at h0; unfold fit3w_b1 at h1; unfold fit3w_b2 at h2; unfold fit3w_b3 at h3; unfold fit3w_b4 at h4; unfold fit3w_b5 at h5; unfold fit3w_b6 at h6; simp only [FunP]; refine ⟨rfl, ?_⟩; simp only [AgreeSV]; refine ⟨?_, trivial⟩; show false = B.den G (rho ([x0, x1, x2, x3, x4, x5, x6, x7, x8] : List Int)) fit3_b; refine Eq.symm ?_; unfold fit3_b; rw [Bool.eq_false_iff]; intro h; simp only [nn, List.cons_append, List.nil_append, lenE, ne_eq] at *; (try simp only [Bool.and_eq_true, decide_eq_true_eq] at *); omega
  refine way_cut fit3w_b7 (fun h7 => ?_) (fun h7 => ?_)
  · skip
    refine way_leaf fit3w_n15 ?_
    unfold fit3w_b0 at h0; unfold fit3w_b1 at h1; unfold fit3w_b2 at h2; unfold fit3w_b3 at h3; unfold fit3w_b4 at h4; unfold fit3w_b5 at h5; unfold fit3w_b6 at h6; unfold fit3w_b7 at h7; simp only [FunP]; refine ⟨rfl, ?_⟩; simp only [AgreeSV]; refine ⟨?_, trivial⟩; show false = B.den G (rho ([x0, x1, x2, x3, x4, x5, x6, x7, x8] : List Int)) fit3_b; refine Eq.symm ?_; unfold fit3_b; rw [Bool.eq_false_iff]; intro h; simp only [nn, List.cons_append, List.nil_append, lenE, ne_eq] at *; (try simp only [Bool.and_eq_true, decide_eq_true_eq] at *); omega
  refine way_cut fit3w_b8 (fun h8 => ?_) (fun h8 => ?_)
  · skip
    refine way_leaf fit3w_n17 ?_
    unfold fit3w_b0 at h0; unfold fit3w_b1 at h1; unfold fit3w_b2 at h2; unfold fit3w_b3 at h3; unfold fit3w_b4 at h4; unfold fit3w_b5 at h5; unfold fit3w_b6 at h6; unfold fit3w_b7 at h7; unfold fit3w_b8 at h8; simp only [FunP]; refine ⟨rfl, ?_⟩; simp only [AgreeSV]; refine ⟨?_, trivial⟩; show false = B.den G (rho ([x0, x1, x2, x3, x4, x5, x6, x7, x8] : List Int)) fit3_b; refine Eq.symm ?_; unfold fit3_b; rw [Bool.eq_false_iff]; intro h; simp only [nn, List.cons_append, List.nil_append, lenE, ne_eq] at *; (try simp only [Bool.and_eq_true, decide_eq_true_eq] at *); omega
  refine way_cut fit3w_b9 (fun h9 => ?_) (fun h9 => ?_)
  · skip
    refine way_leaf fit3w_n19 ?_
    unfold fit3w_b0 at h0; unfold fit3w_b1 at h1; unfold fit3w_b2 at h2; unfold fit3w_b3 at h3; unfold fit3w_b4 at h4; unfold fit3w_b5 at h5; unfold fit3w_b6 at h6; unfold fit3w_b7 at h7; unfold fit3w_b8 at h8; unfold fit3w_b9 at h9; simp only [FunP]; refine ⟨rfl, ?_⟩; simp only [AgreeSV]; refine ⟨?_, trivial⟩; show false = B.den G (rho ([x0, x1, x2, x3, x4, x5, x6, x7, x8] : List Int)) fit3_b; refine Eq.symm ?_; unfold fit3_b; rw [Bool.eq_false_iff]; intro h; simp only [nn, List.cons_append, List.nil_append, lenE, ne_eq] at *; (try simp only [Bool.and_eq_true, decide_eq_true_eq] at *); omega
  refine way_cut fit3w_b10 (fun h10 => ?_) (fun h10 => ?_)
  · skip
    refine way_leaf fit3w_n21 ?_
    unfold fit3w_b0 at h0; unfold fit3w_b1 at h1; unfold fit3w_b2 at h2; unfold fit3w_b3 at h3; unfold fit3w_b4 at h4; unfold fit3w_b5 at h5; unfold fit3w_b6 at h6; unfold fit3w_b7 at h7; unfold fit3w_b8 at h8; unfold fit3w_b9 at h9; unfold fit3w_b10 at h10; simp only [FunP]; refine ⟨rfl, ?_⟩; simp only [AgreeSV]; refine ⟨?_, trivial⟩; show false = B.den G (rho ([x0, x1, x2, x3, x4, x5, x6, x7, x8] : List Int)) fit3_b; refine Eq.symm ?_; unfold fit3_b; rw [Bool.eq_false_iff]; intro h; simp only [nn, List.cons_append, List.nil_append, lenE, ne_eq] at *; (try simp only [Bool.and_eq_true, decide_eq_true_eq] at *); omega
  refine way_cut fit3w_b11 (fun h11 => ?_) (fun h11 => ?_)
  · skip
    refine way_leaf fit3w_n23 ?_
    unfold fit3w_b0 at h0; unfold fit3w_b1 at h1; unfold fit3w_b2 at h2; unfold fit3w_b3 at h3; unfold fit3w_b4 at h4; unfold fit3w_b5 at h5; unfold fit3w_b6 at h6; unfold fit3w_b7 at h7; unfold fit3w_b8 at h8; unfold fit3w_b9 at h9; unfold fit3w_b10 at h10; unfold fit3w_b11 at h11; simp only [FunP]; refine ⟨rfl, ?_⟩; simp only [AgreeSV]; refine ⟨?_, trivial⟩; show false = B.den G (rho ([x0, x1, x2, x3, x4, x5, x6, x7, x8] : List Int)) fit3_b; refine Eq.symm ?_; unfold fit3_b; rw [Bool.eq_false_iff]; intro h; simp only [nn, List.cons_append, List.nil_append, lenE, ne_eq] at *; (try simp only [Bool.and_eq_true, decide_eq_true_eq] at *); omega
  refine way_cut fit3w_b12 (fun h12 => ?_) (fun h12 => ?_)
  · skip
    refine way_leaf fit3w_n25 ?_
    unfold fit3w_b0 at h0; unfold fit3w_b1 at h1; unfold fit3w_b2 at h2; unfold fit3w_b3 at h3; unfold fit3w_b4 at h4; unfold fit3w_b5 at h5; unfold fit3w_b6 at h6; unfold fit3w_b7 at h7; unfold fit3w_b8 at h8; unfold fit3w_b9 at h9; unfold fit3w_b10 at h10; unfold fit3w_b11 at h11; unfold fit3w_b12 at h12; simp only [FunP]; refine ⟨rfl, ?_⟩; simp only [AgreeSV]; refine ⟨?_, trivial⟩; show false = B.den G (rho ([x0, x1, x2, x3, x4, x5, x6, x7, x8] : List Int)) fit3_b; refine Eq.symm ?_; unfold fit3_b; rw [Bool.eq_false_iff]; intro h; simp only [nn, List.cons_append, List.nil_append, lenE, ne_eq] at *; (try simp only [Bool.and_eq_true, decide_eq_true_eq] at *); omega
  refine way_cut fit3w_b13 (fun h13 => ?_) (fun h13 => ?_)
  · skip
    refine way_leaf fit3w_n27 ?_
    unfold fit3w_b0 at h0; unfold fit3w_b1 at h1; unfold fit3w_b2 at h2; unfold fit3w_b3 at h3; unfold fit3w_b4 at h4; unfold fit3w_b5 at h5; unfold fit3w_b6 at h6; unfold fit3w_b7 at h7; unfold fit3w_b8 at h8; unfold fit3w_b9 at h9; unfold fit3w_b10 at h10; unfold fit3w_b11 at h11; unfold fit3w_b12 at h12; unfold fit3w_b13 at h13; simp only [FunP]; refine ⟨rfl, ?_⟩; simp only [AgreeSV]; refine ⟨?_, trivial⟩; show false = B.den G (rho ([x0, x1, x2, x3, x4, x5, x6, x7, x8] : List Int)) fit3_b; refine Eq.symm ?_; unfold fit3_b; rw [Bool.eq_false_iff]; intro h; simp only [nn, List.cons_append, List.nil_append, lenE, ne_eq] at *; (try simp only [Bool.and_eq_true, decide_eq_true_eq] at *); omega
  refine way_leaf fit3w_n28 ?_
  unfold fit3w_b0 at h0; unfold fit3w_b1 at h1; unfold fit3w_b2 at h2; unfold fit3w_b3 at h3; unfold fit3w_b4 at h4; unfold fit3w_b5 at h5; unfold fit3w_b6 at h6; unfold fit3w_b7 at h7; unfold fit3w_b8 at h8; unfold fit3w_b9 at h9; unfold fit3w_b10 at h10; unfold fit3w_b11 at h11; unfold fit3w_b12 at h12; unfold fit3w_b13 at h13; simp only [FunP]; refine ⟨rfl, ?_⟩; simp only [AgreeSV]; refine ⟨?_, trivial⟩; show true = B.den G (rho ([x0, x1, x2, x3, x4, x5, x6, x7, x8] : List Int)) fit3_b; refine Eq.symm ?_; unfold fit3_b; simp only [nn, List.cons_append, List.nil_append, lenE, ne_eq] at *; (try simp only [Bool.and_eq_true, decide_eq_true_eq] at *); omega
def fit3_entry : Ctx → List SV → Heap → Res (SV × Heap) := memEntry GB fit3_vt 0 (.lit true) fit3_F
theorem fit3_ok {X : Ctx} {ρ : Nat → Int} (hX : X.Ok ρ) (hG : X.G = G) : MemOk Try.prog X ρ GB 36 fit3_entry := by
  obtain ⟨XG, XI, XV, XF⟩ := X
  simp only at hG
  subst hG
  refine memEntry_ok hX ?_
  intro xs ls hw hl hp
  unfold fit3_vt at hw
  obtain ⟨x0, y0, e0, b0, h0⟩ := in_cons hw
  obtain ⟨x1, y1, e1, b1, h1⟩ := in_cons h0
  obtain ⟨x2, y2, e2, b2, h2⟩ := in_cons h1
  obtain ⟨x3, y3, e3, b3, h3⟩ := in_cons h2
  obtain ⟨x4, y4, e4, b4, h4⟩ := in_cons h3
  obtain ⟨x5, y5, e5, b5, h5⟩ := in_cons h4
  obtain ⟨x6, y6, e6, b6, h6⟩ := in_cons h5
  obtain ⟨x7, y7, e7, b7, h7⟩ := in_cons h6
  obtain ⟨x8, y8, e8, b8, h8⟩ := in_cons h7
  have e9 := in_nil h8
  subst e9 e8 e7 e6 e5 e4 e3 e2 e1 e0
  have hl' : ls = [] := List.length_eq_zero_iff.1 hl
  subst hl'
  rw [List.append_nil]
  exact fit3_mem x0 x1 x2 x3 x4 x5 x6 x7 x8 b0 b1 b2 b3 b4 b5 b6 b7 b8
def memAsk (g : Ctx → List SV → Heap → Res (SV × Heap)) : Ctx → List SV → Heap → Res (SV × Heap) := fun X args σ =>
  (g X args σ).bind fun r => match r.1 with
    | .bool b => (Res.testW X b).bind fun t => .ok (.bool (.lit t), r.2)
    | _ => .ok r
theorem memAsk_ok {P : Program} {X : Ctx} {ρ : Nat → Int} {gb : Globs} {f : FuncId} {g : Ctx → List SV → Heap → Res (SV × Heap)} (hX : X.Ok ρ) (hg : MemOk P X ρ gb f g) : MemOk P X ρ gb f (memAsk g) := by
  intro args σ s σ' e α w vals hW hv
  unfold memAsk at e
  obtain ⟨r, hr, e⟩ := Res.bind_ok e
  obtain ⟨s0, σ0⟩ := r
  obtain ⟨hk, hc⟩ := hg args σ s0 σ0 hr α w vals hW hv
  refine ⟨hk, hc.mono ?_⟩
  rintro en w' ⟨v, α', rfl, rv, q⟩
  simp only at e
  split at e
  · rename_i _ b
    obtain ⟨t, ht, e⟩ := Res.bind_ok e
    have ht := Res.testW_ok hX ht
    cases e
    refine ⟨v, α', rfl, ?_, q⟩
    simp only [SV.R, B.den] at rv ⊢
    rw [rv, ht]
  · cases e; exact ⟨v, α', rfl, rv, q⟩
def fit3a_entry : Ctx → List SV → Heap → Res (SV × Heap) := memAsk fit3_entry
theorem fit3a_ok {X : Ctx} {ρ : Nat → Int} (hX : X.Ok ρ) (hG : X.G = G) : MemOk Try.prog X ρ GB 36 fit3a_entry := memAsk_ok hX (fit3_ok hX hG)
end Go.Proofs.Ytoiecphddchknaa
set_option maxRecDepth 100000
namespace Go.Proofs.Ytoiecphddchknaa
open Go Go.RowKit Sx Wi
def may_R (P : Program) (fs : List B) : Res SV := withCtx G GI [((-9223372036854775808), 9223372036854775807), ((-9223372036854775808), 9223372036854775807), ((-9223372036854775808), 9223372036854775807), ((-9223372036854775808), 9223372036854775807), ((-9223372036854775808), 9223372036854775807), ((-9223372036854775808), 9223372036854775807)] fs (fun X => exFun P X GB ct_cw 2000 35 [(.agg [(.int .i64 (.var 0)), (.int .i64 (.var 1)), (.int .i64 (.var 2)), (.int .i64 (.var 3)), (.int .i64 (.var 4)), (.int .i64 (.var 5))])])
def may_f0 : List B := []
def may_b0 : B := (.cmp .lt (.lit 671088640) (.op .max (.var 0) (.var 1)))
def may_f1 : List B := grow may_b0 ++ may_f0
def may_f2 : List B := grow (B.neg may_b0) ++ may_f0
def may_b2 : B := (.cmp .lt (.op .min (.var 0) (.var 1)) (.lit (-671088640)))
def may_f3 : List B := grow may_b2 ++ may_f2
def may_f4 : List B := grow (B.neg may_b2) ++ may_f2
def may_b4 : B := (.cmp .lt (.lit 671088640) (.op .max (.var 2) (.var 3)))
def may_f5 : List B := grow may_b4 ++ may_f4
def may_f6 : List B := grow (B.neg may_b4) ++ may_f4
def may_b6 : B := (.cmp .lt (.op .min (.var 2) (.var 3)) (.lit (-671088640)))
def may_f7 : List B := grow may_b6 ++ may_f6
def may_f8 : List B := grow (B.neg may_b6) ++ may_f6
def may_b8 : B := (.cmp .lt (.lit 671088640) (.op .max (.var 4) (.var 5)))
def may_f9 : List B := grow may_b8 ++ may_f8
def may_f10 : List B := grow (B.neg may_b8) ++ may_f8
def may_b10 : B := (.cmp .lt (.op .min (.var 4) (.var 5)) (.lit (-671088640)))
def may_f11 : List B := grow may_b10 ++ may_f10
def may_f12 : List B := grow (B.neg may_b10) ++ may_f10
theorem may_n0 : may_R Try.prog may_f0 = .need (.cmp .lt (.lit 671088640) (.op .max (.var 0) (.var 1))) := by kernel_rfl
theorem may_n1 : may_R Try.prog may_f1 = .ok (.bool (.lit false)) := by kernel_rfl
theorem may_n2 : may_R Try.prog may_f2 = .need (.cmp .lt (.op .min (.var 0) (.var 1)) (.lit (-671088640))) := by kernel_rfl
theorem may_n3 : may_R Try.prog may_f3 = .ok (.bool (.lit false)) := by kernel_rfl
theorem may_n4 : may_R Try.prog may_f4 = .need (.cmp .lt (.lit 671088640) (.op .max (.var 2) (.var 3))) := by kernel_rfl
theorem may_n5 : may_R Try.prog may_f5 = .ok (.bool (.lit false)) := by kernel_rfl
theorem may_n6 : may_R Try.prog may_f6 = .need (.cmp .lt (.op .min (.var 2) (.var 3)) (.lit (-671088640))) := by kernel_rfl
theorem may_n7 : may_R Try.prog may_f7 = .ok (.bool (.lit false)) := by kernel_rfl
theorem may_n8 : may_R Try.prog may_f8 = .need (.cmp .lt (.lit 671088640) (.op .max (.var 4) (.var 5))) := by kernel_rfl
theorem may_n9 : may_R Try.prog may_f9 = .ok (.bool (.lit false)) := by kernel_rfl
theorem may_n10 : may_R Try.prog may_f10 = .need (.cmp .lt (.op .min (.var 4) (.var 5)) (.lit (-671088640))) := by kernel_rfl
theorem may_n11 : may_R Try.prog may_f11 = .ok (.bool (.lit false)) := by kernel_rfl
theorem may_n12 : may_R Try.prog may_f12 = .ok (.bool (.lit true)) := by kernel_rfl
end Go.Proofs.Ytoiecphddchknaa
namespace Go.Proofs.Ytoiecphddchknaa
open Go Go.RowKit Sx Wi
set_option maxRecDepth 100000 in
theorem may_any (x0 x1 x2 x3 x4 x5 : Int) (b0 : (-9223372036854775808) ≤ x0 ∧ x0 ≤ 9223372036854775807) (b1 : (-9223372036854775808) ≤ x1 ∧ x1 ≤ 9223372036854775807) (b2 : (-9223372036854775808) ≤ x2 ∧ x2 ≤ 9223372036854775807) (b3 : (-9223372036854775808) ≤ x3 ∧ x3 ≤ 9223372036854775807) (b4 : (-9223372036854775808) ≤ x4 ∧ x4 ≤ 9223372036854775807) (b5 : (-9223372036854775808) ≤ x5 ∧ x5 ≤ 9223372036854775807) (w : World) (hw : WOk GB w) : Known Try.prog 35 ∧ Calls Try.prog 35 #[(.agg #[.int .i64 x0, .int .i64 x1, .int .i64 x2, .int .i64 x3, .int .i64 x4, .int .i64 x5])] w (fun e w' => e = .returned (if -671088640 ≤ x0 ∧ x0 ≤ 671088640 ∧ -671088640 ≤ x1 ∧ x1 ≤ 671088640 ∧ -671088640 ≤ x2 ∧ x2 ≤ 671088640 ∧ -671088640 ≤ x3 ∧ x3 ≤ 671088640 ∧ -671088640 ≤ x4 ∧ x4 ≤ 671088640 ∧ -671088640 ≤ x5 ∧ x5 ≤ 671088640 then .bool true else .bool false) ∧ Below w.heap.size w w') := by
  refine calls_eq (way_calls3 (ρ := rho [x0, x1, x2, x3, x4, x5]) (run := fun fs => may_R Try.prog fs) (fun _ => rfl) fits (within_get ⟨b0, b1, b2, b3, b4, b5, trivial⟩) gi_ok (fun X hX hG => ct_cw_ok hX hG) rfl rfl gbApart_nil ?_ w hw)
  refine way_need may_n0 (fun h0 => ?_) (fun h0 => ?_)
  · skip
    refine way_leaf may_n1 ?_
    refine ⟨rfl, ?_⟩; simp only [nn, List.cons_append, List.nil_append, lenE, ne_eq] at *; (try simp only [Bool.and_eq_true, decide_eq_true_eq] at *); first | (rw [if_pos (by omega)]) | (rw [if_neg (by omega)])
  refine way_need may_n2 (fun h1 => ?_) (fun h1 => ?_)
  · skip
    refine way_leaf may_n3 ?_
    refine ⟨rfl, ?_⟩; simp only [nn, List.cons_append, List.nil_append, lenE, ne_eq] at *; (try simp only [Bool.and_eq_true, decide_eq_true_eq] at *); first | (rw [if_pos (by omega)]) | (rw [if_neg (by omega)])
  refine way_need may_n4 (fun h2 => ?_) (fun h2 => ?_)
  · skip
    refine way_leaf may_n5 ?_
    refine ⟨rfl, ?_⟩; simp only [nn, List.cons_append, List.nil_append, lenE, ne_eq] at *; (try simp only [Bool.and_eq_true, decide_eq_true_eq] at *); first | (rw [if_pos (by omega)]) | (rw [if_neg (by omega)])
  refine way_need may_n6 (fun h3 => ?_) (fun h3 => ?_)
  · skip
    refine way_leaf may_n7 ?_
    refine ⟨rfl, ?_⟩; simp only [nn, List.cons_append, List.nil_append, lenE, ne_eq] at *; (try simp only [Bool.and_eq_true, decide_eq_true_eq] at *); first | (rw [if_pos (by omega)]) | (rw [if_neg (by omega)])
  refine way_need may_n8 (fun h4 => ?_) (fun h4 => ?_)
  · skip
    refine way_leaf may_n9 ?_
    refine ⟨rfl, ?_⟩; simp only [nn, List.cons_append, List.nil_append, lenE, ne_eq] at *; (try simp only [Bool.and_eq_true, decide_eq_true_eq] at *); first | (rw [if_pos (by omega)]) | (rw [if_neg (by omega)])
  refine way_need may_n10 (fun h5 => ?_) (fun h5 => ?_)
  · skip
    refine way_leaf may_n11 ?_
    refine ⟨rfl, ?_⟩; simp only [nn, List.cons_append, List.nil_append, lenE, ne_eq] at *; (try simp only [Bool.and_eq_true, decide_eq_true_eq] at *); first | (rw [if_pos (by omega)]) | (rw [if_neg (by omega)])
  refine way_leaf may_n12 ?_
  refine ⟨rfl, ?_⟩; simp only [nn, List.cons_append, List.nil_append, lenE, ne_eq] at *; (try simp only [Bool.and_eq_true, decide_eq_true_eq] at *); first | (rw [if_pos (by omega)]) | (rw [if_neg (by omega)])
theorem may_iff {ρ : Nat → Int} {a0 a1 a2 a3 a4 a5 : E} : B.den G ρ (.and (.cmp .le (.lit (-671088640)) a0) (.and (.cmp .le a0 (.lit 671088640)) (.and (.cmp .le (.lit (-671088640)) a1) (.and (.cmp .le a1 (.lit 671088640)) (.and (.cmp .le (.lit (-671088640)) a2) (.and (.cmp .le a2 (.lit 671088640)) (.and (.cmp .le (.lit (-671088640)) a3) (.and (.cmp .le a3 (.lit 671088640)) (.and (.cmp .le (.lit (-671088640)) a4) (.and (.cmp .le a4 (.lit 671088640)) (.and (.cmp .le (.lit (-671088640)) a5) (.cmp .le a5 (.lit 671088640))))))))))))) = true ↔ -671088640 ≤ (E.den G ρ a0) ∧ (E.den G ρ a0) ≤ 671088640 ∧ -671088640 ≤ (E.den G ρ a1) ∧ (E.den G ρ a1) ≤ 671088640 ∧ -671088640 ≤ (E.den G ρ a2) ∧ (E.den G ρ a2) ≤ 671088640 ∧ -671088640 ≤ (E.den G ρ a3) ∧ (E.den G ρ a3) ≤ 671088640 ∧ -671088640 ≤ (E.den G ρ a4) ∧ (E.den G ρ a4) ≤ 671088640 ∧ -671088640 ≤ (E.den G ρ a5) ∧ (E.den G ρ a5) ≤ 671088640 := by
  simp only [E.den, B.den, cop_le, Bool.and_eq_true, decide_eq_true_eq]
def may_entry : Entry := fun X args =>
  match args with
  | [(.agg [.int .i64 a0, .int .i64 a1, .int .i64 a2, .int .i64 a3, .int .i64 a4, .int .i64 a5])] => if a0.fits X .i64 && a1.fits X .i64 && a2.fits X .i64 && a3.fits X .i64 && a4.fits X .i64 && a5.fits X .i64 then (Res.testW X (.and (.cmp .le (.lit (-671088640)) a0) (.and (.cmp .le a0 (.lit 671088640)) (.and (.cmp .le (.lit (-671088640)) a1) (.and (.cmp .le a1 (.lit 671088640)) (.and (.cmp .le (.lit (-671088640)) a2) (.and (.cmp .le a2 (.lit 671088640)) (.and (.cmp .le (.lit (-671088640)) a3) (.and (.cmp .le a3 (.lit 671088640)) (.and (.cmp .le (.lit (-671088640)) a4) (.and (.cmp .le a4 (.lit 671088640)) (.and (.cmp .le (.lit (-671088640)) a5) (.cmp .le a5 (.lit 671088640)))))))))))))).bind fun t => if t then .ok (.bool (.lit true)) else .ok (.bool (.lit false)) else .fail 200
  | _ => .fail 201
theorem may_ok {X : Ctx} {ρ : Nat → Int} (hX : X.Ok ρ) (hG : X.G = G) : EntryOk Try.prog X ρ GB 35 may_entry := by
  obtain ⟨XG, XI, XV, XF⟩ := X
  simp only at hG
  subst hG
  intro args s h α w vals hv hw
  unfold may_entry at h
  split at h
  · split at h
    · rename_i hg
      try simp only [Bool.and_eq_true] at hg
      obtain ⟨⟨⟨⟨⟨g0, g1⟩, g2⟩, g3⟩, g4⟩, g5⟩ := hg
      obtain ⟨t, ht, h⟩ := Res.bind_ok h
      have ht := Res.testW_ok hX ht
      have k := may_any _ _ _ _ _ _ (E.fits_in hX g0) (E.fits_in hX g1) (E.fits_in hX g2) (E.fits_in hX g3) (E.fits_in hX g4) (E.fits_in hX g5) w hw
      cases t with
      | true =>
        cases h
        rw [if_pos (may_iff.1 ht)] at k
        exact entry_calls hv rfl rfl k
      | false =>
        cases h
        rw [if_neg (fun q => by have := may_iff.2 q; rw [ht] at this; cases this)] at k
        exact entry_calls hv rfl rfl k
    · cases h
  · cases h
def tog3_vt : List (Int × Int) := [((-9223372036854775808), 9223372036854775807), (0, 18446744073709551615), ((-9223372036854775808), 9223372036854775807), (0, 18446744073709551615), ((-9223372036854775808), 9223372036854775807), (0, 18446744073709551615), ((-9223372036854775808), 9223372036854775807), ((-1801615772808642560), 1801615772808642560), ((-1801615772808642560), 1801615772808642560), ((-1801615772808642560), 1801615772808642560)]
def tog3_pre : B := (.and (.cmp .le (.lit (-1125899906842624)) (.op .add (.op .mul (.var 0) (.lit 18446744073709551616)) (.var 1))) (.and (.cmp .le (.op .add (.op .mul (.var 0) (.lit 18446744073709551616)) (.var 1)) (.lit 1125899906842624)) (.and (.cmp .le (.lit (-1125899906842624)) (.op .add (.op .mul (.var 2) (.lit 18446744073709551616)) (.var 3))) (.and (.cmp .le (.op .add (.op .mul (.var 2) (.lit 18446744073709551616)) (.var 3)) (.lit 1125899906842624)) (.and (.cmp .le (.lit (-1125899906842624)) (.op .add (.op .mul (.var 4) (.lit 18446744073709551616)) (.var 5))) (.and (.cmp .le (.op .add (.op .mul (.var 4) (.lit 18446744073709551616)) (.var 5)) (.lit 1125899906842624)) (.and (.cmp .le (.lit 1) (.var 6)) (.and (.cmp .le (.var 6) (.lit 65535)) (.and (.and (.cmp .le (.lit (-3602879701896396800)) (.op .add (.op .add (.var 7) (.var 8)) (.var 9))) (.cmp .le (.op .add (.op .add (.var 7) (.var 8)) (.var 9)) (.lit 3602879701896396800))) (.or (.and (.cmp .le (.lit 0) (.var 7)) (.and (.cmp .le (.lit 0) (.var 8)) (.and (.cmp .le (.lit 0) (.var 9)) (.cmp .le (.lit 1) (.op .add (.op .add (.var 7) (.var 8)) (.var 9)))))) (.and (.cmp .le (.var 7) (.lit 0)) (.and (.cmp .le (.var 8) (.lit 0)) (.and (.cmp .le (.var 9) (.lit 0)) (.cmp .le (.op .add (.op .add (.var 7) (.var 8)) (.var 9)) (.lit (-1))))))))))))))))
def tog3_F : FunS := ⟨[.slice 0 0 3 3, .slice 1 0 3 3, (.int .i64 (.var 6))], [some ([(.int .i64 (.var 0)), (.int .u64 (.var 1)), (.int .i64 (.var 2)), (.int .u64 (.var 3)), (.int .i64 (.var 4)), (.int .u64 (.var 5))], 35), some ([(.int .i64 (.var 7)), (.int .i64 (.var 8)), (.int .i64 (.var 9))], 51)], .lit true, (.int .i32 (.app 70 (.cons (.op .add (.op .mul (.var 0) (.lit 18446744073709551616)) (.var 1)) (.cons (.op .add (.op .mul (.var 2) (.lit 18446744073709551616)) (.var 3)) (.cons (.op .add (.op .mul (.var 4) (.lit 18446744073709551616)) (.var 5)) (.cons (.var 6) (.cons (.var 7) (.cons (.var 8) (.cons (.var 9) .nil))))))))), [some ([(.int .i64 (.var 0)), (.int .u64 (.var 1)), (.int .i64 (.var 2)), (.int .u64 (.var 3)), (.int .i64 (.var 4)), (.int .u64 (.var 5))], 35), some ([(.int .i64 (.var 7)), (.int .i64 (.var 8)), (.int .i64 (.var 9))], 51)], (.int .i32 (.app 70 (.cons (.op .add (.op .mul (.var 0) (.lit 18446744073709551616)) (.var 1)) (.cons (.op .add (.op .mul (.var 2) (.lit 18446744073709551616)) (.var 3)) (.cons (.op .add (.op .mul (.var 4) (.lit 18446744073709551616)) (.var 5)) (.cons (.var 6) (.cons (.var 7) (.cons (.var 8) (.cons (.var 9) .nil))))))))), [some ([(.int .i64 (.var 0)), (.int .u64 (.var 1)), (.int .i64 (.var 2)), (.int .u64 (.var 3)), (.int .i64 (.var 4)), (.int .u64 (.var 5))], 35), some ([(.int .i64 (.var 7)), (.int .i64 (.var 8)), (.int .i64 (.var 9))], 51)]⟩
def tog3_run (P : Program) (fs : List B) : Res SV := withCtx G GI tog3_vt fs fun X => exFunM P X GB ct_cw lpNil 4000 120 tog3_F
end Go.Proofs.Ytoiecphddchknaa
set_option maxRecDepth 100000
namespace Go.Proofs.Ytoiecphddchknaa
open Go Go.RowKit Sx Wi
def tog3w_R (P : Program) (fs : List B) : Res SV := tog3_run P fs
def tog3w_f0 : List B := []
def tog3w_b0 : B := (.and (.cmp .le (.lit (-1125899906842624)) (.op .add (.op .mul (.var 0) (.lit 18446744073709551616)) (.var 1))) (.and (.cmp .le (.op .add (.op .mul (.var 0) (.lit 18446744073709551616)) (.var 1)) (.lit 1125899906842624)) (.and (.cmp .le (.lit (-1125899906842624)) (.op .add (.op .mul (.var 2) (.lit 18446744073709551616)) (.var 3))) (.and (.cmp .le (.op .add (.op .mul (.var 2) (.lit 18446744073709551616)) (.var 3)) (.lit 1125899906842624)) (.and (.cmp .le (.lit (-1125899906842624)) (.op .add (.op .mul (.var 4) (.lit 18446744073709551616)) (.var 5))) (.and (.cmp .le (.op .add (.op .mul (.var 4) (.lit 18446744073709551616)) (.var 5)) (.lit 1125899906842624)) (.and (.cmp .le (.lit 1) (.var 6)) (.and (.cmp .le (.var 6) (.lit 65535)) (.and (.and (.cmp .le (.lit (-3602879701896396800)) (.op .add (.op .add (.var 7) (.var 8)) (.var 9))) (.cmp .le (.op .add (.op .add (.var 7) (.var 8)) (.var 9)) (.lit 3602879701896396800))) (.or (.and (.cmp .le (.lit 0) (.var 7)) (.and (.cmp .le (.lit 0) (.var 8)) (.and (.cmp .le (.lit 0) (.var 9)) (.cmp .le (.lit 1) (.op .add (.op .add (.var 7) (.var 8)) (.var 9)))))) (.and (.cmp .le (.var 7) (.lit 0)) (.and (.cmp .le (.var 8) (.lit 0)) (.and (.cmp .le (.var 9) (.lit 0)) (.cmp .le (.op .add (.op .add (.var 7) (.var 8)) (.var 9)) (.lit (-1))))))))))))))))
def tog3w_f1 : List B := grow tog3w_b0 ++ tog3w_f0
def tog3w_b1 : B := (.cmp .lt (.op .add (.op .add (.var 7) (.var 8)) (.var 9)) (.lit 0))
def tog3w_f2 : List B := grow tog3w_b1 ++ tog3w_f1
def tog3w_b2 : B := (.cmp .le (.op .mul (.lit 2) (.op .sub (.lit 0) (.op .add (.op .add (.var 7) (.var 8)) (.var 9)))) (.lit 9223372036854775807))
def tog3w_f3 : List B := grow tog3w_b2 ++ tog3w_f2
def tog3w_b3 : B := (.cmp .le (.lit (-9223372036854775808)) (.app 71 (.cons (.app 71 (.cons (.op .add (.op .mul (.op .sub (.lit 0) (.op .add (.op .add (.op .add (.lit 0) (.op .mul (.op .add (.op .mul (.var 0) (.lit 18446744073709551616)) (.var 1)) (.var 7))) (.op .mul (.op .add (.op .mul (.var 2) (.lit 18446744073709551616)) (.var 3)) (.var 8))) (.op .mul (.op .add (.op .mul (.var 4) (.lit 18446744073709551616)) (.var 5)) (.var 9)))) (.lit 2)) (.op .mul (.op .sub (.lit 0) (.op .add (.op .add (.var 7) (.var 8)) (.var 9))) (.var 6))) (.cons (.var 6) .nil))) (.cons (.op .mul (.lit 2) (.op .sub (.lit 0) (.op .add (.op .add (.var 7) (.var 8)) (.var 9)))) .nil))))
def tog3w_f4 : List B := grow tog3w_b3 ++ tog3w_f3
def tog3w_b4 : B := (.cmp .le (.app 71 (.cons (.app 71 (.cons (.op .add (.op .mul (.op .sub (.lit 0) (.op .add (.op .add (.op .add (.lit 0) (.op .mul (.op .add (.op .mul (.var 0) (.lit 18446744073709551616)) (.var 1)) (.var 7))) (.op .mul (.op .add (.op .mul (.var 2) (.lit 18446744073709551616)) (.var 3)) (.var 8))) (.op .mul (.op .add (.op .mul (.var 4) (.lit 18446744073709551616)) (.var 5)) (.var 9)))) (.lit 2)) (.op .mul (.op .sub (.lit 0) (.op .add (.op .add (.var 7) (.var 8)) (.var 9))) (.var 6))) (.cons (.var 6) .nil))) (.cons (.op .mul (.lit 2) (.op .sub (.lit 0) (.op .add (.op .add (.var 7) (.var 8)) (.var 9)))) .nil))) (.lit 9223372036854775807))
def tog3w_f5 : List B := grow tog3w_b4 ++ tog3w_f4
def tog3w_L0 : SV := (.tuple [(.agg [(.int .i64 (.op .max (.lit (-2147483648)) (.op .min (.lit 2147483647) (.app 71 (.cons (.app 71 (.cons (.op .add (.op .mul (.op .sub (.lit 0) (.op .add (.op .add (.op .add (.lit 0) (.op .mul (.op .add (.op .mul (.var 0) (.lit 18446744073709551616)) (.var 1)) (.var 7))) (.op .mul (.op .add (.op .mul (.var 2) (.lit 18446744073709551616)) (.var 3)) (.var 8))) (.op .mul (.op .add (.op .mul (.var 4) (.lit 18446744073709551616)) (.var 5)) (.var 9)))) (.lit 2)) (.op .mul (.op .sub (.lit 0) (.op .add (.op .add (.var 7) (.var 8)) (.var 9))) (.var 6))) (.cons (.var 6) .nil))) (.cons (.op .mul (.lit 2) (.op .sub (.lit 0) (.op .add (.op .add (.var 7) (.var 8)) (.var 9)))) .nil)))))), (.int .i64 (.app 70 (.cons (.op .add (.op .mul (.var 0) (.lit 18446744073709551616)) (.var 1)) (.cons (.op .add (.op .mul (.var 2) (.lit 18446744073709551616)) (.var 3)) (.cons (.op .add (.op .mul (.var 4) (.lit 18446744073709551616)) (.var 5)) (.cons (.var 6) (.cons (.var 7) (.cons (.var 8) (.cons (.var 9) .nil)))))))))]), (.bool (.lit true))])
def tog3w_f9 : List B := grow (B.neg tog3w_b1) ++ tog3w_f1
def tog3w_b5 : B := (.cmp .le (.op .mul (.lit 2) (.op .add (.op .add (.var 7) (.var 8)) (.var 9))) (.lit 9223372036854775807))
def tog3w_f10 : List B := grow tog3w_b5 ++ tog3w_f9
def tog3w_b6 : B := (.cmp .le (.lit 1) (.op .mul (.lit 2) (.op .add (.op .add (.var 7) (.var 8)) (.var 9))))
def tog3w_f11 : List B := grow tog3w_b6 ++ tog3w_f10
def tog3w_b7 : B := (.cmp .le (.lit (-9223372036854775808)) (.app 71 (.cons (.app 71 (.cons (.op .add (.op .mul (.op .add (.op .add (.op .add (.lit 0) (.op .mul (.op .add (.op .mul (.var 0) (.lit 18446744073709551616)) (.var 1)) (.var 7))) (.op .mul (.op .add (.op .mul (.var 2) (.lit 18446744073709551616)) (.var 3)) (.var 8))) (.op .mul (.op .add (.op .mul (.var 4) (.lit 18446744073709551616)) (.var 5)) (.var 9))) (.lit 2)) (.op .mul (.op .add (.op .add (.var 7) (.var 8)) (.var 9)) (.var 6))) (.cons (.var 6) .nil))) (.cons (.op .mul (.lit 2) (.op .add (.op .add (.var 7) (.var 8)) (.var 9))) .nil))))
def tog3w_f12 : List B := grow tog3w_b7 ++ tog3w_f11
def tog3w_b8 : B := (.cmp .le (.app 71 (.cons (.app 71 (.cons (.op .add (.op .mul (.op .add (.op .add (.op .add (.lit 0) (.op .mul (.op .add (.op .mul (.var 0) (.lit 18446744073709551616)) (.var 1)) (.var 7))) (.op .mul (.op .add (.op .mul (.var 2) (.lit 18446744073709551616)) (.var 3)) (.var 8))) (.op .mul (.op .add (.op .mul (.var 4) (.lit 18446744073709551616)) (.var 5)) (.var 9))) (.lit 2)) (.op .mul (.op .add (.op .add (.var 7) (.var 8)) (.var 9)) (.var 6))) (.cons (.var 6) .nil))) (.cons (.op .mul (.lit 2) (.op .add (.op .add (.var 7) (.var 8)) (.var 9))) .nil))) (.lit 9223372036854775807))
def tog3w_f13 : List B := grow tog3w_b8 ++ tog3w_f12
def tog3w_L1 : SV := (.tuple [(.agg [(.int .i64 (.op .max (.lit (-2147483648)) (.op .min (.lit 2147483647) (.app 71 (.cons (.app 71 (.cons (.op .add (.op .mul (.op .add (.op .add (.op .add (.lit 0) (.op .mul (.op .add (.op .mul (.var 0) (.lit 18446744073709551616)) (.var 1)) (.var 7))) (.op .mul (.op .add (.op .mul (.var 2) (.lit 18446744073709551616)) (.var 3)) (.var 8))) (.op .mul (.op .add (.op .mul (.var 4) (.lit 18446744073709551616)) (.var 5)) (.var 9))) (.lit 2)) (.op .mul (.op .add (.op .add (.var 7) (.var 8)) (.var 9)) (.var 6))) (.cons (.var 6) .nil))) (.cons (.op .mul (.lit 2) (.op .add (.op .add (.var 7) (.var 8)) (.var 9))) .nil)))))), (.int .i64 (.app 70 (.cons (.op .add (.op .mul (.var 0) (.lit 18446744073709551616)) (.var 1)) (.cons (.op .add (.op .mul (.var 2) (.lit 18446744073709551616)) (.var 3)) (.cons (.op .add (.op .mul (.var 4) (.lit 18446744073709551616)) (.var 5)) (.cons (.var 6) (.cons (.var 7) (.cons (.var 8) (.cons (.var 9) .nil)))))))))]), (.bool (.lit true))])
theorem tog3w_n5 : tog3w_R Try.prog tog3w_f5 = .ok tog3w_L0 := by kernel_rfl
theorem tog3w_n13 : tog3w_R Try.prog tog3w_f13 = .ok tog3w_L1 := by kernel_rfl
end Go.Proofs.Ytoiecphddchknaa
namespace Go.Proofs.Ytoiecphddchknaa
open Go Go.RowKit Sx Wi
set_option maxHeartbeats 1000000 in
set_option maxRecDepth 100000 in
theorem tog3_mem (x0 x1 x2 x3 x4 x5 x6 x7 x8 x9 : Int) (b0 : (-9223372036854775808) ≤ x0 ∧ x0 ≤ 9223372036854775807) (b1 : 0 ≤ x1 ∧ x1 ≤ 18446744073709551615) (b2 : (-9223372036854775808) ≤ x2 ∧ x2 ≤ 9223372036854775807) (b3 : 0 ≤ x3 ∧ x3 ≤ 18446744073709551615) (b4 : (-9223372036854775808) ≤ x4 ∧ x4 ≤ 9223372036854775807) (b5 : 0 ≤ x5 ∧ x5 ≤ 18446744073709551615) (b6 : (-9223372036854775808) ≤ x6 ∧ x6 ≤ 9223372036854775807) (b7 : (-1801615772808642560) ≤ x7 ∧ x7 ≤ 1801615772808642560) (b8 : (-1801615772808642560) ≤ x8 ∧ x8 ≤ 1801615772808642560) (b9 : (-1801615772808642560) ≤ x9 ∧ x9 ≤ 1801615772808642560) (hp : tog3_pre.den G (rho ([x0, x1, x2, x3, x4, x5, x6, x7, x8, x9] : List Int)) = true) : MemFun Try.prog G GB 120 tog3_F (rho ([x0, x1, x2, x3, x4, x5, x6, x7, x8, x9] : List Int)) := by
  have hq := hp
  unfold tog3_pre at hq
  simp only [nn, List.cons_append, List.nil_append, Bool.or_eq_true, lenE, ne_eq] at hq
  obtain ⟨p0, p1, p2, p3, p4, p5, p6, p7, hf⟩ := hq
  have hk := tog3_facts (n0 := (x0 * 18446744073709551616 + x1)) (n1 := (x2 * 18446744073709551616 + x3)) (n2 := (x4 * 18446744073709551616 + x5)) (d := x6) ⟨p0, p1⟩ ⟨p2, p3⟩ ⟨p4, p5⟩ ⟨p6, p7⟩ (show fineW x7 x8 x9 from hf)
  clear p0 p1 p2 p3 p4 p5 p6 p7 hf
  refine memFun_way (lp := lpNil) (run := tog3_run Try.prog) (fun _ => rfl) fits (within_get ⟨b0, b1, b2, b3, b4, b5, b6, b7, b8, b9, trivial⟩) gi_ok (fun X hX hG => ct_cw_ok hX hG) (fun X hX hG fn c hf hc => lpOk_lpNil) rfl ?_
  refine way_cut tog3w_b0 (fun h0 => ?_) (fun h0 => ?_)
  rotate_left
  · skip
    refine way_bad ?_
    unfold tog3w_b0 at h0; exact absurd hp (by unfold tog3_pre; rw [h0]; decide)
  refine way_cut tog3w_b1 (fun h1 => ?_) (fun h1 => ?_)
  · skip
    refine way_cut tog3w_b2 (fun h2 => ?_) (fun h2 => ?_)
    rotate_left
    · skip
      refine way_bad ?_
      unfold tog3w_b0 at h0; unfold tog3w_b1 at h1; unfold tog3w_b2 at h2; clear hp h0; simp only [nn, List.cons_append, List.nil_append, Bool.or_eq_true, lenE, ne_eq] at h1 h2; first | with_reducible exact absurd (hk.1 h1).1 h2 | with_reducible exact absurd (hk.1 h1).2.1 h2 | with_reducible exact absurd (hk.1 h1).2.2 h2 | with_reducible exact absurd (hk.2 h1).1 h2 | with_reducible exact absurd (hk.2 h1).2.1 h2 | with_reducible exact absurd (hk.2 h1).2.2.1 h2 | with_reducible exact absurd (hk.2 h1).2.2.2 h2
    refine way_cut tog3w_b3 (fun h3 => ?_) (fun h3 => ?_)
    rotate_left
    · skip
      refine way_bad ?_
      unfold tog3w_b0 at h0; unfold tog3w_b1 at h1; unfold tog3w_b2 at h2; unfold tog3w_b3 at h3; clear hp h0; simp only [nn, List.cons_append, List.nil_append, Bool.or_eq_true, lenE, ne_eq] at h1 h2 h3; first | with_reducible exact absurd (hk.1 h1).1 h3 | with_reducible exact absurd (hk.1 h1).2.1 h3 | with_reducible exact absurd (hk.1 h1).2.2 h3 | with_reducible exact absurd (hk.2 h1).1 h3 | with_reducible exact absurd (hk.2 h1).2.1 h3 | with_reducible exact absurd (hk.2 h1).2.2.1 h3 | with_reducible exact absurd (hk.2 h1).2.2.2 h3
    refine way_cut tog3w_b4 (fun h4 => ?_) (fun h4 => ?_)
    · skip
      refine way_leaf tog3w_n5 ?_
      unfold tog3w_b0 at h0; unfold tog3w_b1 at h1; unfold tog3w_b2 at h2; unfold tog3w_b3 at h3; unfold tog3w_b4 at h4; unfold tog3w_L0; clear hp h0 hk; simp only [nn, List.cons_append, List.nil_append, Bool.or_eq_true, lenE, ne_eq] at h1; simp only [FunP]; refine ⟨rfl, ?_⟩; simp only [AgreeSV]; simp only [nn, List.cons_append, List.nil_append, Bool.or_eq_true, lenE, ne_eq]; (repeat' refine And.intro ?_ ?_) <;> first | with_reducible exact tog3_neg h1 | with_reducible trivial
    refine way_bad ?_
    unfold tog3w_b0 at h0; unfold tog3w_b1 at h1; unfold tog3w_b2 at h2; unfold tog3w_b3 at h3; unfold tog3w_b4 at h4; clear hp h0; simp only [nn, List.cons_append, List.nil_append, Bool.or_eq_true, lenE, ne_eq] at h1 h2 h3 h4; first | with_reducible exact absurd (hk.1 h1).1 h4 | with_reducible exact absurd (hk.1 h1).2.1 h4 | with_reducible exact absurd (hk.1 h1).2.2 h4 | with_reducible exact absurd (hk.2 h1).1 h4 | with_reducible exact absurd (hk.2 h1).2.1 h4 | with_reducible exact absurd (hk.2 h1).2.2.1 h4 | with_reducible exact absurd (hk.2 h1).2.2.2 h4
  refine way_cut tog3w_b5 (fun h2 => ?_) (fun h2 => ?_)
  rotate_left
  · skip
    refine way_bad ?_
    unfold tog3w_b0 at h0; unfold tog3w_b1 at h1; unfold tog3w_b5 at h2; clear hp h0; simp only [nn, List.cons_append, List.nil_append, Bool.or_eq_true, lenE, ne_eq] at h1 h2; first | with_reducible exact absurd (hk.1 h1).1 h2 | with_reducible exact absurd (hk.1 h1).2.1 h2 | with_reducible exact absurd (hk.1 h1).2.2 h2 | with_reducible exact absurd (hk.2 h1).1 h2 | with_reducible exact absurd (hk.2 h1).2.1 h2 | with_reducible exact absurd (hk.2 h1).2.2.1 h2 | with_reducible exact absurd (hk.2 h1).2.2.2 h2
  refine way_cut tog3w_b6 (fun h3 => ?_) (fun h3 => ?_)
  rotate_left
  · skip
    refine way_bad ?_
    unfold tog3w_b0 at h0; unfold tog3w_b1 at h1; unfold tog3w_b5 at h2; unfold tog3w_b6 at h3; clear hp h0; simp only [nn, List.cons_append, List.nil_append, Bool.or_eq_true, lenE, ne_eq] at h1 h2 h3; first | with_reducible exact absurd (hk.1 h1).1 h3 | with_reducible exact absurd (hk.1 h1).2.1 h3 | with_reducible exact absurd (hk.1 h1).2.2 h3 | with_reducible exact absurd (hk.2 h1).1 h3 | with_reducible exact absurd (hk.2 h1).2.1 h3 | with_reducible exact absurd (hk.2 h1).2.2.1 h3 | with_reducible exact absurd (hk.2 h1).2.2.2 h3
  refine way_cut tog3w_b7 (fun h4 => ?_) (fun h4 => ?_)
  rotate_left
  · skip
    refine way_bad ?_
    unfold tog3w_b0 at h0; unfold tog3w_b1 at h1; unfold tog3w_b5 at h2; unfold tog3w_b6 at h3; unfold tog3w_b7 at h4; clear hp h0; simp only [nn, List.cons_append, List.nil_append, Bool.or_eq_true, lenE, ne_eq] at h1 h2 h3 h4; first | with_reducible exact absurd (hk.1 h1).1 h4 | with_reducible exact absurd (hk.1 h1).2.1 h4 | with_reducible exact absurd (hk.1 h1).2.2 h4 | with_reducible exact absurd (hk.2 h1).1 h4 | with_reducible exact absurd (hk.2 h1).2.1 h4 | with_reducible exact absurd (hk.2 h1).2.2.1 h4 | with_reducible exact absurd (hk.2 h1).2.2.2 h4
  refine way_cut tog3w_b8 (fun h5 => ?_) (fun h5 => ?_)
  · skip
    refine way_leaf tog3w_n13 ?_
    unfold tog3w_b0 at h0; unfold tog3w_b1 at h1; unfold tog3w_b5 at h2; unfold tog3w_b6 at h3; unfold tog3w_b7 at h4; unfold tog3w_b8 at h5; unfold tog3w_L1; clear hp h0 hk; simp only [nn, List.cons_append, List.nil_append, Bool.or_eq_true, lenE, ne_eq] at h1; simp only [FunP]; refine ⟨rfl, ?_⟩; simp only [AgreeSV]; simp only [nn, List.cons_append, List.nil_append, Bool.or_eq_true, lenE, ne_eq]; (repeat' refine And.intro ?_ ?_) <;> first | with_reducible exact tog3_pos h1 | with_reducible trivial
  refine way_bad ?_
  unfold tog3w_b0 at h0; unfold tog3w_b1 at h1; unfold tog3w_b5 at h2; unfold tog3w_b6 at h3; unfold tog3w_b7 at h4; unfold tog3w_b8 at h5; clear hp h0; simp only [nn, List.cons_append, List.nil_append, Bool.or_eq_true, lenE, ne_eq] at h1 h2 h3 h4 h5; first | with_reducible exact absurd (hk.1 h1).1 h5 | with_reducible exact absurd (hk.1 h1).2.1 h5 | with_reducible exact absurd (hk.1 h1).2.2 h5 | with_reducible exact absurd (hk.2 h1).1 h5 | with_reducible exact absurd (hk.2 h1).2.1 h5 | with_reducible exact absurd (hk.2 h1).2.2.1 h5 | with_reducible exact absurd (hk.2 h1).2.2.2 h5
def tog3_entry : Ctx → List SV → Heap → Res (SV × Heap) := memEntry GB tog3_vt 0 tog3_pre tog3_F
theorem tog3_ok {X : Ctx} {ρ : Nat → Int} (hX : X.Ok ρ) (hG : X.G = G) : MemOk Try.prog X ρ GB 120 tog3_entry := by
  obtain ⟨XG, XI, XV, XF⟩ := X
  simp only at hG
  subst hG
  refine memEntry_ok hX ?_
  intro xs ls hw hl hp
  unfold tog3_vt at hw
  obtain ⟨x0, y0, e0, b0, h0⟩ := in_cons hw
  obtain ⟨x1, y1, e1, b1, h1⟩ := in_cons h0
  obtain ⟨x2, y2, e2, b2, h2⟩ := in_cons h1
  obtain ⟨x3, y3, e3, b3, h3⟩ := in_cons h2
  obtain ⟨x4, y4, e4, b4, h4⟩ := in_cons h3
  obtain ⟨x5, y5, e5, b5, h5⟩ := in_cons h4
  obtain ⟨x6, y6, e6, b6, h6⟩ := in_cons h5
  obtain ⟨x7, y7, e7, b7, h7⟩ := in_cons h6
  obtain ⟨x8, y8, e8, b8, h8⟩ := in_cons h7
  obtain ⟨x9, y9, e9, b9, h9⟩ := in_cons h8
  have e10 := in_nil h9
  subst e10 e9 e8 e7 e6 e5 e4 e3 e2 e1 e0
  have hl' : ls = [] := List.length_eq_zero_iff.1 hl
  subst hl'
  rw [List.append_nil]
  exact tog3_mem x0 x1 x2 x3 x4 x5 x6 x7 x8 x9 b0 b1 b2 b3 b4 b5 b6 b7 b8 b9 (by rw [List.append_nil] at hp; exact hp)
def tog4_vt : List (Int × Int) := [((-9223372036854775808), 9223372036854775807), (0, 18446744073709551615), ((-9223372036854775808), 9223372036854775807), (0, 18446744073709551615), ((-9223372036854775808), 9223372036854775807), (0, 18446744073709551615), ((-9223372036854775808), 9223372036854775807), (0, 18446744073709551615), ((-9223372036854775808), 9223372036854775807), (0, 4294967296), (0, 4294967296), (0, 4294967296), (0, 4294967296)]
def tog4_pre : B := (.and (.cmp .le (.lit (-1125899906842624)) (.op .add (.op .mul (.var 0) (.lit 18446744073709551616)) (.var 1))) (.and (.cmp .le (.op .add (.op .mul (.var 0) (.lit 18446744073709551616)) (.var 1)) (.lit 1125899906842624)) (.and (.cmp .le (.lit (-1125899906842624)) (.op .add (.op .mul (.var 2) (.lit 18446744073709551616)) (.var 3))) (.and (.cmp .le (.op .add (.op .mul (.var 2) (.lit 18446744073709551616)) (.var 3)) (.lit 1125899906842624)) (.and (.cmp .le (.lit (-1125899906842624)) (.op .add (.op .mul (.var 4) (.lit 18446744073709551616)) (.var 5))) (.and (.cmp .le (.op .add (.op .mul (.var 4) (.lit 18446744073709551616)) (.var 5)) (.lit 1125899906842624)) (.and (.cmp .le (.lit (-1125899906842624)) (.op .add (.op .mul (.var 6) (.lit 18446744073709551616)) (.var 7))) (.and (.cmp .le (.op .add (.op .mul (.var 6) (.lit 18446744073709551616)) (.var 7)) (.lit 1125899906842624)) (.and (.cmp .le (.lit 1) (.var 8)) (.and (.cmp .le (.var 8) (.lit 65535)) (.cmp .le (.lit 1) (.op .add (.op .add (.op .add (.var 9) (.var 10)) (.var 11)) (.var 12)))))))))))))
def tog4_F : FunS := ⟨[.slice 0 0 4 4, .slice 1 0 4 4, (.int .i64 (.var 8))], [some ([(.int .i64 (.var 0)), (.int .u64 (.var 1)), (.int .i64 (.var 2)), (.int .u64 (.var 3)), (.int .i64 (.var 4)), (.int .u64 (.var 5)), (.int .i64 (.var 6)), (.int .u64 (.var 7))], 35), some ([(.int .i64 (.var 9)), (.int .i64 (.var 10)), (.int .i64 (.var 11)), (.int .i64 (.var 12))], 2)], .lit true, (.int .i32 (.app 73 (.cons (.op .add (.op .mul (.var 0) (.lit 18446744073709551616)) (.var 1)) (.cons (.op .add (.op .mul (.var 2) (.lit 18446744073709551616)) (.var 3)) (.cons (.op .add (.op .mul (.var 4) (.lit 18446744073709551616)) (.var 5)) (.cons (.op .add (.op .mul (.var 6) (.lit 18446744073709551616)) (.var 7)) (.cons (.var 8) (.cons (.var 9) (.cons (.var 10) (.cons (.var 11) (.cons (.var 12) .nil))))))))))), [some ([(.int .i64 (.var 0)), (.int .u64 (.var 1)), (.int .i64 (.var 2)), (.int .u64 (.var 3)), (.int .i64 (.var 4)), (.int .u64 (.var 5)), (.int .i64 (.var 6)), (.int .u64 (.var 7))], 35), some ([(.int .i64 (.var 9)), (.int .i64 (.var 10)), (.int .i64 (.var 11)), (.int .i64 (.var 12))], 2)], (.int .i32 (.app 73 (.cons (.op .add (.op .mul (.var 0) (.lit 18446744073709551616)) (.var 1)) (.cons (.op .add (.op .mul (.var 2) (.lit 18446744073709551616)) (.var 3)) (.cons (.op .add (.op .mul (.var 4) (.lit 18446744073709551616)) (.var 5)) (.cons (.op .add (.op .mul (.var 6) (.lit 18446744073709551616)) (.var 7)) (.cons (.var 8) (.cons (.var 9) (.cons (.var 10) (.cons (.var 11) (.cons (.var 12) .nil))))))))))), [some ([(.int .i64 (.var 0)), (.int .u64 (.var 1)), (.int .i64 (.var 2)), (.int .u64 (.var 3)), (.int .i64 (.var 4)), (.int .u64 (.var 5)), (.int .i64 (.var 6)), (.int .u64 (.var 7))], 35), some ([(.int .i64 (.var 9)), (.int .i64 (.var 10)), (.int .i64 (.var 11)), (.int .i64 (.var 12))], 2)]⟩
def tog4_run (P : Program) (fs : List B) : Res SV := withCtx G GI tog4_vt fs fun X => exFunM P X GB ct_cw lpNil 4000 120 tog4_F
end Go.Proofs.Ytoiecphddchknaa
