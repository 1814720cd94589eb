/- What is proved: the run of a function over its ways, and what is known on each. No condition. -/
import Derived.Test.YtoiecphddchknaaQa9
import Derived.Test.YtoiecphddchknaaQa4
import Derived.Test.YtoiecphddchknaaQg4
import Derived.Test.YtoiecphddchknaaQa7
set_option linter.unusedSimpArgs false
set_option linter.unusedVariables false
set_option maxRecDepth 100000
namespace Go.Proofs.Ytoiecphddchknaa
open Go Go.RowKit Sx Wi
def smw198_R (P : Program) (fs : List B) : Res SV := sm_round198 P fs
def smw198_f0 : List B := []
def smw198_b0 : B := (.cmp .lt (.var 4) (.lit 144))
def smw198_f1 : List B := grow smw198_b0 ++ smw198_f0
def smw198_b1 : B := (.cmp .ne (.app 88 (.cons (.var 5) (.cons (.op .add (.op .mul (.op .quo (.var 4) (.lit 12)) (.lit 12)) (.op .rem (.var 4) (.lit 12))) (.cons (.lit 0) .nil)))) (.lit 0))
def smw198_f2 : List B := grow smw198_b1 ++ smw198_f1
def smw198_b2 : B := (.cmp .ne (.var 2) (.lit 0))
def smw198_f4 : List B := grow (B.neg smw198_b2) ++ smw198_f2
def smw198_b3 : B := (.cmp .ne (.app 82 (.cons (.var 5) (.cons (.op .add (.op .mul (.op .quo (.var 4) (.lit 12)) (.lit 12)) (.op .rem (.var 4) (.lit 12))) (.cons (.lit 4) .nil)))) (.var 3))
def smw198_f6 : List B := grow (B.neg smw198_b3) ++ smw198_f4
def smw198_b4 : B := (.cmp .ne (.app 82 (.cons (.var 5) (.cons (.op .add (.op .mul (.op .quo (.var 4) (.lit 12)) (.lit 12)) (.op .rem (.var 4) (.lit 12))) (.cons (.lit 5) .nil)))) (.lit 0))
def smw198_f8 : List B := grow (B.neg smw198_b4) ++ smw198_f6
def smw198_b5 : B := (.cmp .ne (.app 82 (.cons (.var 5) (.cons (.op .add (.op .mul (.op .quo (.var 4) (.lit 12)) (.lit 12)) (.op .rem (.var 4) (.lit 12))) (.cons (.lit 6) .nil)))) (.lit 0))
def smw198_f10 : List B := grow (B.neg smw198_b5) ++ smw198_f8
def smw198_b6 : B := (.cmp .ne (.app 82 (.cons (.var 5) (.cons (.op .add (.op .mul (.op .quo (.var 4) (.lit 12)) (.lit 12)) (.op .rem (.var 4) (.lit 12))) (.cons (.lit 7) .nil)))) (.lit 0))
def smw198_f12 : List B := grow (B.neg smw198_b6) ++ smw198_f10
def smw198_b7 : B := (.cmp .ne (.app 83 (.cons (.var 5) (.cons (.op .add (.op .mul (.op .quo (.var 4) (.lit 12)) (.lit 12)) (.op .rem (.var 4) (.lit 12))) (.cons (.lit 1) .nil)))) (.var 0))
def smw198_f14 : List B := grow (B.neg smw198_b7) ++ smw198_f12
def smw198_b8 : B := (.cmp .ne (.app 82 (.cons (.var 5) (.cons (.op .add (.op .mul (.op .quo (.var 4) (.lit 12)) (.lit 12)) (.op .rem (.var 4) (.lit 12))) (.cons (.lit 2) .nil)))) (.lit 0))
def smw198_f16 : List B := grow (B.neg smw198_b8) ++ smw198_f14
def smw198_b9 : B := (.cmp .ne (.app 82 (.cons (.var 5) (.cons (.op .add (.op .mul (.op .quo (.var 4) (.lit 12)) (.lit 12)) (.op .rem (.var 4) (.lit 12))) (.cons (.lit 3) .nil)))) (.lit 0))
def smw198_f18 : List B := grow (B.neg smw198_b9) ++ smw198_f16
def smw198_b10 : B := (.cmp .ne (.app 88 (.cons (.var 6) (.cons (.op .add (.op .mul (.op .quo (.var 4) (.lit 12)) (.lit 12)) (.op .rem (.var 4) (.lit 12))) (.cons (.lit 0) .nil)))) (.lit 0))
def smw198_f19 : List B := grow smw198_b10 ++ smw198_f18
def smw198_b11 : B := (.cmp .ne (.app 82 (.cons (.var 6) (.cons (.op .add (.op .mul (.op .quo (.var 4) (.lit 12)) (.lit 12)) (.op .rem (.var 4) (.lit 12))) (.cons (.lit 4) .nil)))) (.var 3))
def smw198_f21 : List B := grow (B.neg smw198_b11) ++ smw198_f19
def smw198_b12 : B := (.cmp .ne (.app 82 (.cons (.var 6) (.cons (.op .add (.op .mul (.op .quo (.var 4) (.lit 12)) (.lit 12)) (.op .rem (.var 4) (.lit 12))) (.cons (.lit 5) .nil)))) (.lit 0))
def smw198_f23 : List B := grow (B.neg smw198_b12) ++ smw198_f21
def smw198_b13 : B := (.cmp .ne (.app 82 (.cons (.var 6) (.cons (.op .add (.op .mul (.op .quo (.var 4) (.lit 12)) (.lit 12)) (.op .rem (.var 4) (.lit 12))) (.cons (.lit 6) .nil)))) (.lit 0))
def smw198_f25 : List B := grow (B.neg smw198_b13) ++ smw198_f23
def smw198_b14 : B := (.cmp .ne (.app 82 (.cons (.var 6) (.cons (.op .add (.op .mul (.op .quo (.var 4) (.lit 12)) (.lit 12)) (.op .rem (.var 4) (.lit 12))) (.cons (.lit 7) .nil)))) (.lit 0))
def smw198_f27 : List B := grow (B.neg smw198_b14) ++ smw198_f25
def smw198_b15 : B := (.cmp .ne (.app 83 (.cons (.var 6) (.cons (.op .add (.op .mul (.op .quo (.var 4) (.lit 12)) (.lit 12)) (.op .rem (.var 4) (.lit 12))) (.cons (.lit 1) .nil)))) (.var 1))
def smw198_f29 : List B := grow (B.neg smw198_b15) ++ smw198_f27
def smw198_L0 : SV := (.agg [(.int .i64 (.var 2)), (.int .i64 (.var 2)), (.int .i64 (.var 3)), (.int .i64 (.var 3)), (.int .i64 (.op .add (.var 4) (.lit 1))), (.int .i64 (.var 4)), (.int .i64 (.var 0)), (.int .i64 (.var 0)), (.int .i64 (.var 1)), (.int .i64 (.var 1)), (.int .i64 (.var 5)), (.int .i64 (.var 5)), (.int .i64 (.var 6)), (.int .i64 (.var 6))])
def smw198_f30 : List B := grow (B.neg smw198_b10) ++ smw198_f18
def smw198_f31 : List B := grow (B.neg smw198_b1) ++ smw198_f1
def smw198_f32 : List B := grow smw198_b10 ++ smw198_f31
def smw198_f34 : List B := grow (B.neg smw198_b11) ++ smw198_f32
def smw198_f36 : List B := grow (B.neg smw198_b12) ++ smw198_f34
def smw198_f38 : List B := grow (B.neg smw198_b13) ++ smw198_f36
def smw198_f40 : List B := grow (B.neg smw198_b14) ++ smw198_f38
def smw198_f42 : List B := grow (B.neg smw198_b15) ++ smw198_f40
def smw198_f43 : List B := grow (B.neg smw198_b10) ++ smw198_f31
def smw198_f44 : List B := grow (B.neg smw198_b0) ++ smw198_f0
end Go.Proofs.Ytoiecphddchknaa
set_option maxRecDepth 100000
namespace Go.Proofs.Ytoiecphddchknaa
open Go Go.RowKit Sx Wi
theorem smw198_n29 : smw198_R Try.prog smw198_f29 = .ok smw198_L0 := by kernel_rfl
theorem smw198_n30 : smw198_R Try.prog smw198_f30 = .ok smw198_L0 := by kernel_rfl
theorem smw198_n42 : smw198_R Try.prog smw198_f42 = .ok smw198_L0 := by kernel_rfl
end Go.Proofs.Ytoiecphddchknaa
set_option maxRecDepth 100000
namespace Go.Proofs.Ytoiecphddchknaa
open Go Go.RowKit Sx Wi
theorem smw198_n43 : smw198_R Try.prog smw198_f43 = .ok smw198_L0 := by kernel_rfl
theorem smw198_n44 : smw198_R Try.prog smw198_f44 = .ok (.tuple [(.agg []), (.bool (.lit true))]) := by kernel_rfl
end Go.Proofs.Ytoiecphddchknaa
set_option maxRecDepth 100000
namespace Go.Proofs.Ytoiecphddchknaa
open Go Go.RowKit Sx Wi
def smw199_R (P : Program) (fs : List B) : Res SV := sm_round199 P fs
def smw199_f0 : List B := []
def smw199_b0 : B := (.cmp .lt (.var 4) (.lit 144))
def smw199_f1 : List B := grow smw199_b0 ++ smw199_f0
def smw199_b1 : B := (.cmp .ne (.app 88 (.cons (.var 5) (.cons (.op .add (.op .mul (.op .quo (.var 4) (.lit 12)) (.lit 12)) (.op .rem (.var 4) (.lit 12))) (.cons (.lit 0) .nil)))) (.lit 0))
def smw199_f2 : List B := grow smw199_b1 ++ smw199_f1
def smw199_b2 : B := (.cmp .ne (.var 2) (.lit 0))
def smw199_f4 : List B := grow (B.neg smw199_b2) ++ smw199_f2
def smw199_b3 : B := (.cmp .ne (.app 82 (.cons (.var 5) (.cons (.op .add (.op .mul (.op .quo (.var 4) (.lit 12)) (.lit 12)) (.op .rem (.var 4) (.lit 12))) (.cons (.lit 4) .nil)))) (.var 3))
def smw199_f6 : List B := grow (B.neg smw199_b3) ++ smw199_f4
def smw199_b4 : B := (.cmp .ne (.app 82 (.cons (.var 5) (.cons (.op .add (.op .mul (.op .quo (.var 4) (.lit 12)) (.lit 12)) (.op .rem (.var 4) (.lit 12))) (.cons (.lit 5) .nil)))) (.lit 0))
def smw199_f8 : List B := grow (B.neg smw199_b4) ++ smw199_f6
def smw199_b5 : B := (.cmp .ne (.app 82 (.cons (.var 5) (.cons (.op .add (.op .mul (.op .quo (.var 4) (.lit 12)) (.lit 12)) (.op .rem (.var 4) (.lit 12))) (.cons (.lit 6) .nil)))) (.lit 0))
def smw199_f10 : List B := grow (B.neg smw199_b5) ++ smw199_f8
def smw199_b6 : B := (.cmp .ne (.app 82 (.cons (.var 5) (.cons (.op .add (.op .mul (.op .quo (.var 4) (.lit 12)) (.lit 12)) (.op .rem (.var 4) (.lit 12))) (.cons (.lit 7) .nil)))) (.lit 0))
def smw199_f12 : List B := grow (B.neg smw199_b6) ++ smw199_f10
def smw199_b7 : B := (.cmp .ne (.app 83 (.cons (.var 5) (.cons (.op .add (.op .mul (.op .quo (.var 4) (.lit 12)) (.lit 12)) (.op .rem (.var 4) (.lit 12))) (.cons (.lit 1) .nil)))) (.var 0))
def smw199_f14 : List B := grow (B.neg smw199_b7) ++ smw199_f12
def smw199_b8 : B := (.cmp .ne (.app 82 (.cons (.var 5) (.cons (.op .add (.op .mul (.op .quo (.var 4) (.lit 12)) (.lit 12)) (.op .rem (.var 4) (.lit 12))) (.cons (.lit 2) .nil)))) (.lit 0))
def smw199_f16 : List B := grow (B.neg smw199_b8) ++ smw199_f14
def smw199_b9 : B := (.cmp .ne (.app 82 (.cons (.var 5) (.cons (.op .add (.op .mul (.op .quo (.var 4) (.lit 12)) (.lit 12)) (.op .rem (.var 4) (.lit 12))) (.cons (.lit 3) .nil)))) (.lit 0))
def smw199_f18 : List B := grow (B.neg smw199_b9) ++ smw199_f16
def smw199_b10 : B := (.cmp .ne (.app 88 (.cons (.var 6) (.cons (.op .add (.op .mul (.op .quo (.var 4) (.lit 12)) (.lit 12)) (.op .rem (.var 4) (.lit 12))) (.cons (.lit 0) .nil)))) (.lit 0))
def smw199_f19 : List B := grow smw199_b10 ++ smw199_f18
def smw199_b11 : B := (.cmp .ne (.app 82 (.cons (.var 6) (.cons (.op .add (.op .mul (.op .quo (.var 4) (.lit 12)) (.lit 12)) (.op .rem (.var 4) (.lit 12))) (.cons (.lit 4) .nil)))) (.var 3))
def smw199_f21 : List B := grow (B.neg smw199_b11) ++ smw199_f19
def smw199_b12 : B := (.cmp .ne (.app 82 (.cons (.var 6) (.cons (.op .add (.op .mul (.op .quo (.var 4) (.lit 12)) (.lit 12)) (.op .rem (.var 4) (.lit 12))) (.cons (.lit 5) .nil)))) (.lit 0))
def smw199_f23 : List B := grow (B.neg smw199_b12) ++ smw199_f21
def smw199_b13 : B := (.cmp .ne (.app 82 (.cons (.var 6) (.cons (.op .add (.op .mul (.op .quo (.var 4) (.lit 12)) (.lit 12)) (.op .rem (.var 4) (.lit 12))) (.cons (.lit 6) .nil)))) (.lit 0))
def smw199_f25 : List B := grow (B.neg smw199_b13) ++ smw199_f23
def smw199_b14 : B := (.cmp .ne (.app 82 (.cons (.var 6) (.cons (.op .add (.op .mul (.op .quo (.var 4) (.lit 12)) (.lit 12)) (.op .rem (.var 4) (.lit 12))) (.cons (.lit 7) .nil)))) (.lit 0))
def smw199_f27 : List B := grow (B.neg smw199_b14) ++ smw199_f25
def smw199_b15 : B := (.cmp .ne (.app 83 (.cons (.var 6) (.cons (.op .add (.op .mul (.op .quo (.var 4) (.lit 12)) (.lit 12)) (.op .rem (.var 4) (.lit 12))) (.cons (.lit 1) .nil)))) (.var 1))
def smw199_f29 : List B := grow (B.neg smw199_b15) ++ smw199_f27
def smw199_L0 : SV := (.agg [(.int .i64 (.var 2)), (.int .i64 (.var 2)), (.int .i64 (.var 3)), (.int .i64 (.var 3)), (.int .i64 (.op .add (.var 4) (.lit 1))), (.int .i64 (.var 4)), (.int .i64 (.var 0)), (.int .i64 (.var 0)), (.int .i64 (.var 1)), (.int .i64 (.var 1)), (.int .i64 (.var 5)), (.int .i64 (.var 5)), (.int .i64 (.var 6)), (.int .i64 (.var 6))])
def smw199_f30 : List B := grow (B.neg smw199_b10) ++ smw199_f18
def smw199_f31 : List B := grow (B.neg smw199_b1) ++ smw199_f1
def smw199_f32 : List B := grow smw199_b10 ++ smw199_f31
def smw199_f34 : List B := grow (B.neg smw199_b11) ++ smw199_f32
def smw199_f36 : List B := grow (B.neg smw199_b12) ++ smw199_f34
def smw199_f38 : List B := grow (B.neg smw199_b13) ++ smw199_f36
def smw199_f40 : List B := grow (B.neg smw199_b14) ++ smw199_f38
def smw199_f42 : List B := grow (B.neg smw199_b15) ++ smw199_f40
def smw199_f43 : List B := grow (B.neg smw199_b10) ++ smw199_f31
def smw199_f44 : List B := grow (B.neg smw199_b0) ++ smw199_f0
end Go.Proofs.Ytoiecphddchknaa
set_option maxRecDepth 100000
namespace Go.Proofs.Ytoiecphddchknaa
open Go Go.RowKit Sx Wi
theorem smw199_n29 : smw199_R Try.prog smw199_f29 = .ok smw199_L0 := by kernel_rfl
theorem smw199_n30 : smw199_R Try.prog smw199_f30 = .ok smw199_L0 := by kernel_rfl
theorem smw199_n42 : smw199_R Try.prog smw199_f42 = .ok smw199_L0 := by kernel_rfl
end Go.Proofs.Ytoiecphddchknaa
set_option maxRecDepth 100000
namespace Go.Proofs.Ytoiecphddchknaa
open Go Go.RowKit Sx Wi
theorem smw199_n43 : smw199_R Try.prog smw199_f43 = .ok smw199_L0 := by kernel_rfl
theorem smw199_n44 : smw199_R Try.prog smw199_f44 = .ok (.tuple [(.agg []), (.bool (.lit true))]) := by kernel_rfl
end Go.Proofs.Ytoiecphddchknaa
namespace Go.Proofs.Ytoiecphddchknaa
open Go Go.RowKit Sx Wi
def zrow8 : List Int := [0, 0, 0, 0, 0, 0, 0, 0]
def colP (xs : List Int) (y x : Int) : Int :=
  let w := fun j => xG64 j (xs.take 6 ++ [x * 256 + 128, y * 256 + 128])
  xG70 [xs.getD 6 0, xs.getD 7 0, xs.getD 8 0, xs.getD 9 0, w 0, w 1, w 2]
def isC (xs : List Int) (y x : Int) : Prop := xG63 (xs.take 6 ++ [x * 256 + 128, y * 256 + 128]) ≠ 0
def Fine (xs : List Int) (L : List (List Int)) : Prop :=
  L.length = 144 ∧ ∀ k, k < 144 → L.getD k [] = zrow8 ∨ (isC xs ((k / 12 : Nat) : Int) ((k % 12 : Nat) : Int) ∧ L.getD k [] = [1, xs.getD 10 0, 0, 0, colP xs ((k / 12 : Nat) : Int) ((k % 12 : Nat) : Int), 0, 0, 0])
theorem fine_start (xs : List Int) : Fine xs (Lc.dec (wG 96 [144, 0, 0, 0, 0, 0, 0, 0, 0])) := by
  have e : wG 96 [144, 0, 0, 0, 0, 0, 0, 0, 0] = Lc.enc (List.replicate 144 zrow8) := wlists 96 _ (by decide) (by decide)
  rw [e, Lc.dec_enc]
  refine ⟨by simp, fun k hk => .inl ?_⟩
  rw [List.getD_eq_getElem?_getD, List.getElem?_replicate, if_pos hk]
  rfl
theorem fine_step {xs : List Int} {C : Int} (h : Fine xs (Lc.dec C)) {y x : Int} (hy : 0 ≤ y ∧ y ≤ 11) (hx : 0 ≤ x ∧ x ≤ 11) : Fine xs (Lc.dec (stepC xs C y x)) := by
  by_cases hc : xG63 (xs.take 6 ++ [x * 256 + 128, y * 256 + 128]) = 0
  · have e : stepC xs C y x = C := if_pos hc
    rw [e]; exact h
  · have e : stepC xs C y x = wG 92 [C, y * 12 + x, 1, xs.getD 10 0, 0, 0, colP xs y x, 0, 0, 0] := if_neg hc
    have e2 : wG 92 [C, y * 12 + x, 1, xs.getD 10 0, 0, 0, colP xs y x, 0, 0, 0] = Lc.enc ((Lc.dec C).set (y * 12 + x).toNat [1, xs.getD 10 0, 0, 0, colP xs y x, 0, 0, 0]) := wlists 92 _ (by decide) (by decide)
    rw [e, e2, Lc.dec_enc]
    obtain ⟨h1, h2⟩ := h
    refine ⟨by rw [List.length_set]; exact h1, fun k hk => ?_⟩
    by_cases hk2 : (y * 12 + x).toNat = k
    · refine .inr ?_
      have q1 : ((k / 12 : Nat) : Int) = y := by omega
      have q2 : ((k % 12 : Nat) : Int) = x := by omega
      rw [q1, q2]
      refine ⟨hc, ?_⟩
      rw [hk2, List.getD_eq_getElem?_getD, List.getElem?_set_self (by omega)]
      rfl
    · have e3 : ((Lc.dec C).set (y * 12 + x).toNat [1, xs.getD 10 0, 0, 0, colP xs y x, 0, 0, 0]).getD k [] = (Lc.dec C).getD k [] := by
        rw [List.getD_eq_getElem?_getD, List.getElem?_set_ne hk2, ← List.getD_eq_getElem?_getD]
      rw [e3]; exact h2 k hk
theorem lefts_nn (xs : List Int) : 0 ≤ lefts xs := by unfold lefts leftP; omega
theorem tops_nn (xs : List Int) : 0 ≤ tops xs := by unfold tops leftP; omega
theorem rights_le (xs : List Int) : rights xs ≤ 12 := by unfold rights rightP; omega
theorem ends_le (xs : List Int) : ends xs ≤ 12 := by unfold ends rightP; omega
theorem fine_row {xs : List Int} {C : Int} (h : Fine xs (Lc.dec C)) {y : Int} (hy : 0 ≤ y ∧ y ≤ 11) : ∀ j : Nat, j ≤ (rights xs - lefts xs).toNat → Fine xs (Lc.dec (rowC xs C y j))
  | 0, _ => h
  | j + 1, hj => by
    have := lefts_nn xs; have := rights_le xs
    exact fine_step (fine_row h hy j (by omega)) hy ⟨by omega, by omega⟩
theorem fine_board (xs : List Int) : ∀ i : Nat, i ≤ (ends xs - tops xs).toNat → Fine xs (Lc.dec (boardC xs i))
  | 0, _ => fine_start xs
  | i + 1, hi => by
    have := tops_nn xs; have := ends_le xs
    exact fine_row (fine_board xs i (by omega)) ⟨by omega, by omega⟩ _ (Nat.le_refl _)
theorem q_near {s a d : Int} (ha : 1 ≤ a) (hd : 1 ≤ d) : -(a * d) ≤ (s - a * d * fq (fq (s * 2 + a * d) d) (2 * a)) * 2 ∧ (s - a * d * fq (fq (s * 2 + a * d) d) (2 * a)) * 2 < a * d := by
  have e1 : fq (s * 2 + a * d) d = (s * 2 + a * d) / d := by unfold fq; rw [if_pos hd, Int.fdiv_eq_ediv_of_nonneg _ (by omega)]
  have e2 : fq (fq (s * 2 + a * d) d) (2 * a) = (s * 2 + a * d) / d / (2 * a) := by
    rw [e1]; unfold fq; rw [if_pos (by omega), Int.fdiv_eq_ediv_of_nonneg _ (by omega)]
  rw [e2, Int.ediv_ediv_of_nonneg (by omega)]
  have hp : 0 < d * (2 * a) := Int.mul_pos (by omega) (by omega)
  have h1 := Int.emod_add_mul_ediv (s * 2 + a * d) (d * (2 * a))
  have h2 := Int.emod_nonneg (s * 2 + a * d) (show d * (2 * a) ≠ 0 by omega)
  have h3 := Int.emod_lt_of_pos (s * 2 + a * d) hp
  generalize (s * 2 + a * d) / (d * (2 * a)) = q at *
  have e3 : d * (2 * a) * q = 2 * (a * d * q) := by grind
  have e4 : d * (2 * a) = 2 * (a * d) := by grind
  rw [e3, e4] at h1
  rw [e4] at h2 h3
  generalize a * d * q = u at *
  omega
theorem wrap32 {n : Int} (h1 : -2147483648 ≤ n) (h2 : n ≤ 2147483647) : IntKind.i32.wrap n = n := by
  simp only [IntKind.wrap, IntKind.bits, IntKind.signed, Bool.true_and, decide_eq_true_eq, show (2 : Int) ^ 32 = 4294967296 from rfl, show (2 : Int) ^ (32 - 1) = 2147483648 from rfl]
  omega
theorem rd88 (C i j : Int) : G 88 [C, i, j] = (((Lc.dec C).getD i.toNat []).getD j.toNat 0) := gl_ok 88 _ (by decide) (by decide)
theorem rd82 (C i j : Int) : G 82 [C, i, j] = IntKind.i32.wrap (((Lc.dec C).getD i.toNat []).getD j.toNat 0) := gl_ok 82 _ (by decide) (by decide)
def nearH (n d : Int) : Int := max (-2147483648) (min 2147483647 (Fx.near n d))
theorem togP_same {n a d : Int} (ha : 1 ≤ a) (hd : 1 ≤ d) : togP (n * a) a d = nearH n d := by
  have e : fq (fq (n * a * 2 + a * d) d) (2 * a) = Fx.near n d := by
    refine (Fx.near_uniq n d _ (by omega) ?_ ?_).symm
    all_goals
      obtain ⟨h1, h2⟩ := q_near (s := n * a) ha hd
      generalize fq (fq (n * a * 2 + a * d) d) (2 * a) = q at *
      have e1 : (n * a - a * d * q) * 2 = a * (2 * n - 2 * (q * d)) := by grind
      rw [e1] at h1 h2
      have e2 : -(a * d) = a * (-d) := by rw [Int.mul_neg]
      rw [e2] at h1
      have k1 := Int.le_of_mul_le_mul_left h1 (show 0 < a by omega)
      have k2 := Int.lt_of_mul_lt_mul_left h2 (show 0 ≤ a by omega)
      omega
  unfold togP nearH
  rw [e]
theorem togS_same (n w0 w1 w2 : Int) : togS n n n w0 w1 w2 = n * (w0 + w1 + w2) := by unfold togS; grind
theorem xG70_same {n d w0 w1 w2 : Int} (hd : 1 ≤ d) (h : w0 + w1 + w2 ≠ 0) : xG70 [n, n, n, d, w0, w1, w2] = nearH n d := by
  show (if w0 + w1 + w2 < 0 then _ else _) = _
  split
  · rw [togS_same, ← togP_same (n := n) (a := 0 - (w0 + w1 + w2)) (by omega) hd]
    congr 1
    grind
  · rw [togS_same, togP_same (by omega) hd]
def Told (L : List (List Int)) (fr w : Int) : Prop := ∀ k, k < 144 → L.getD k [] = zrow8 ∨ ∃ u v, L.getD k [] = [1, fr, u, v, w, 0, 0, 0]
def Told0 (L : List (List Int)) (fr w : Int) : Prop := ∀ k, k < 144 → L.getD k [] = zrow8 ∨ L.getD k [] = [1, fr, 0, 0, w, 0, 0, 0]
theorem told0_blank (fr w : Int) : Told0 (Lc.dec (wG 96 [144, 0, 0, 0, 0, 0, 0, 0, 0])) fr w := fun k hk => .inl (fresh_start 0 k (Nat.zero_le _) hk)
theorem told_blank (fr w : Int) : Told (Lc.dec (wG 96 [144, 0, 0, 0, 0, 0, 0, 0, 0])) fr w := fun k hk => .inl (fresh_start 0 k (Nat.zero_le _) hk)
theorem told_face (x0 x1 x2 x3 x4 x5 n d fr : Int) (hd : 1 ≤ d) : ∀ i : Nat, i ≤ (ends [x0, x1, x2, x3, x4, x5, n, n, n, d, fr] - tops [x0, x1, x2, x3, x4, x5, n, n, n, d, fr]).toNat → Told0 (Lc.dec (boardC [x0, x1, x2, x3, x4, x5, n, n, n, d, fr] i)) fr (nearH n d) := by
  intro i hi k hk
  rcases (fine_board _ i hi).2 k hk with h | ⟨h1, h2⟩
  · exact .inl h
  · refine .inr ?_
    rw [h2]
    have e : colP [x0, x1, x2, x3, x4, x5, n, n, n, d, fr] ((k / 12 : Nat) : Int) ((k % 12 : Nat) : Int) = nearH n d := by
      refine xG70_same hd ?_
      have hw := claim_w h1
      rcases hw.2 with ⟨_, _, _, q⟩ | ⟨_, _, _, q⟩
      · intro z; exact absurd (Int.le_trans q (Int.le_of_eq z)) (show ¬ (1 : Int) ≤ 0 by decide)
      · intro z; exact absurd (Int.le_trans (Int.le_of_eq z.symm) q) (show ¬ (0 : Int) ≤ -1 by decide)
    rw [e]
    rfl
theorem told_stepF {xs : List Int} {C y x : Int} (hd : 1 ≤ xs.getD 13 0) (h : Told (Lc.dec C) (xs.getD 14 0) (nearH (xs.getD 12 0) (xs.getD 13 0))) (hL : (Lc.dec C).length = 144) :
    Told (Lc.dec (stepF xs C y x)) (xs.getD 14 0) (nearH (xs.getD 12 0) (xs.getD 13 0)) ∧ (Lc.dec (stepF xs C y x)).length = 144 := by
  by_cases hc : xG63 (xs.take 6 ++ [x * 256 + 128, y * 256 + 128]) = 0
  · have e : stepF xs C y x = C := if_pos hc
    rw [e]; exact ⟨h, hL⟩
  · have e : ∃ u v, stepF xs C y x = wG 92 [C, y * 12 + x, 1, xs.getD 14 0, u, v, togP (corS (xs.getD 12 0) u v) (corA u v) (xs.getD 13 0), 0, 0, 0] := ⟨_, _, if_neg hc⟩
    obtain ⟨u, v, e⟩ := e
    have e2 : ∀ r, wG 92 (C :: (y * 12 + x) :: r) = Lc.enc ((Lc.dec C).set (y * 12 + x).toNat r) := fun r => wlists 92 _ (by decide) (by decide)
    have e3 : togP (corS (xs.getD 12 0) u v) (corA u v) (xs.getD 13 0) = nearH (xs.getD 12 0) (xs.getD 13 0) := by
      rw [corS_eq, corA_eq]; exact togP_same (by decide) hd
    rw [e, e2, Lc.dec_enc, e3]
    refine ⟨fun k hk => ?_, by rw [List.length_set]; exact hL⟩
    by_cases hk2 : (y * 12 + x).toNat = k
    · refine .inr ⟨u, v, ?_⟩
      rw [hk2, List.getD_eq_getElem?_getD, List.getElem?_set_self (by omega)]
      rfl
    · rw [List.getD_eq_getElem?_getD, List.getElem?_set_ne hk2, ← List.getD_eq_getElem?_getD]
      exact h k hk
theorem told_rowF {xs : List Int} {C y : Int} (hd : 1 ≤ xs.getD 13 0) (h : Told (Lc.dec C) (xs.getD 14 0) (nearH (xs.getD 12 0) (xs.getD 13 0))) (hL : (Lc.dec C).length = 144) :
    ∀ j : Nat, Told (Lc.dec (rowF xs C y j)) (xs.getD 14 0) (nearH (xs.getD 12 0) (xs.getD 13 0)) ∧ (Lc.dec (rowF xs C y j)).length = 144
  | 0 => ⟨h, hL⟩
  | j + 1 => told_stepF hd (told_rowF hd h hL j).1 (told_rowF hd h hL j).2
theorem told_boardF {xs : List Int} (hd : 1 ≤ xs.getD 13 0) :
    ∀ i : Nat, Told (Lc.dec (boardF xs i)) (xs.getD 14 0) (nearH (xs.getD 12 0) (xs.getD 13 0)) ∧ (Lc.dec (boardF xs i)).length = 144
  | 0 => ⟨told_blank _ _, (fine_start xs).1⟩
  | i + 1 => told_rowF hd (told_boardF hd i).1 (told_boardF hd i).2 _
theorem told_facet (x0 x1 x2 x3 x4 x5 x6 x7 x8 x9 x10 x11 n d fr : Int) (hd : 1 ≤ d) (i : Nat) : Told (Lc.dec (boardF [x0, x1, x2, x3, x4, x5, x6, x7, x8, x9, x10, x11, n, d, fr] i)) fr (nearH n d) :=
  (told_boardF (xs := [x0, x1, x2, x3, x4, x5, x6, x7, x8, x9, x10, x11, n, d, fr]) hd i).1
theorem wrap64i {n : Int} (h : -9223372036854775808 ≤ n ∧ n ≤ 9223372036854775807) : IntKind.i64.wrap n = n := by
  simp only [IntKind.wrap, IntKind.bits, IntKind.signed, Bool.true_and, decide_eq_true_eq, show (2 : Int) ^ 64 = 18446744073709551616 from rfl, show (2 : Int) ^ (64 - 1) = 9223372036854775808 from rfl]
  omega
theorem rd83 (C i j : Int) : G 83 [C, i, j] = IntKind.i64.wrap (((Lc.dec C).getD i.toNat []).getD j.toNat 0) := gl_ok 83 _ (by decide) (by decide)
theorem idx12 {i : Int} (hi : 0 ≤ i ∧ i < 144) : (Int.tdiv i 12 * 12 + Int.tmod i 12).toNat = i.toNat := by
  have hq : Int.tdiv i 12 = ((i.toNat / 12 : Nat) : Int) := by rw [Int.tdiv_eq_ediv_of_nonneg hi.1]; omega
  have hr : Int.tmod i 12 = ((i.toNat % 12 : Nat) : Int) := by rw [Int.tmod_eq_emod_of_nonneg hi.1]; omega
  rw [hq, hr]; omega
theorem told_read {C fr w i : Int} (hi : 0 ≤ i ∧ i < 144) (hf : -9223372036854775808 ≤ fr ∧ fr ≤ 9223372036854775807) (hw : -2147483648 ≤ w ∧ w ≤ 2147483647) (h : Told (Lc.dec C) fr w) (hn : ¬ G 88 [C, Int.tdiv i 12 * 12 + Int.tmod i 12, 0] = 0) :
    G 82 [C, Int.tdiv i 12 * 12 + Int.tmod i 12, 4] = w ∧ G 82 [C, Int.tdiv i 12 * 12 + Int.tmod i 12, 5] = 0 ∧ G 82 [C, Int.tdiv i 12 * 12 + Int.tmod i 12, 6] = 0 ∧ G 82 [C, Int.tdiv i 12 * 12 + Int.tmod i 12, 7] = 0 ∧ G 83 [C, Int.tdiv i 12 * 12 + Int.tmod i 12, 1] = fr := by
  rw [rd88, idx12 hi] at hn
  simp only [rd82, rd83, idx12 hi]
  rcases h i.toNat (by omega) with e | ⟨u, v, e⟩
  · rw [e] at hn; exact absurd rfl hn
  · rw [e]
    exact ⟨wrap32 (n := w) hw.1 hw.2, rfl, rfl, rfl, wrap64i (n := fr) hf⟩
theorem told0_read {C fr w i : Int} (hi : 0 ≤ i ∧ i < 144) (hf : -9223372036854775808 ≤ fr ∧ fr ≤ 9223372036854775807) (hw : -2147483648 ≤ w ∧ w ≤ 2147483647) (h : Told0 (Lc.dec C) fr w) (hn : ¬ G 88 [C, Int.tdiv i 12 * 12 + Int.tmod i 12, 0] = 0) :
    (¬ ∀ k, k < 144 → (Lc.dec C).getD k [] = zrow8) ∧ G 82 [C, Int.tdiv i 12 * 12 + Int.tmod i 12, 4] = w ∧ G 82 [C, Int.tdiv i 12 * 12 + Int.tmod i 12, 5] = 0 ∧ G 82 [C, Int.tdiv i 12 * 12 + Int.tmod i 12, 6] = 0 ∧ G 82 [C, Int.tdiv i 12 * 12 + Int.tmod i 12, 7] = 0 ∧ G 83 [C, Int.tdiv i 12 * 12 + Int.tmod i 12, 1] = fr ∧ G 82 [C, Int.tdiv i 12 * 12 + Int.tmod i 12, 2] = 0 ∧ G 82 [C, Int.tdiv i 12 * 12 + Int.tmod i 12, 3] = 0 := by
  rw [rd88, idx12 hi] at hn
  simp only [rd82, rd83, idx12 hi]
  rcases h i.toNat (by omega) with e | e
  · rw [e] at hn; exact absurd rfl hn
  · refine ⟨fun q => ?_, ?_⟩
    · rw [q i.toNat (by omega)] at hn; exact absurd rfl hn
    · rw [e]
      exact ⟨wrap32 (n := w) hw.1 hw.2, rfl, rfl, rfl, wrap64i (n := fr) hf, rfl, rfl⟩
theorem blank_all : ∀ k, k < 144 → (Lc.dec (wG 96 [144, 0, 0, 0, 0, 0, 0, 0, 0])).getD k [] = zrow8 := fun k hk => fresh_start 0 k (Nat.zero_le _) hk
end Go.Proofs.Ytoiecphddchknaa
