/- What is proved: a list of triangles of colours, laid one behind the other, read pixel by pixel, in plain Lean. No condition but those that are stated. -/
import Derived.Test.YtoiecphddchknaaQa8
import Derived.Test.YtoiecphddchknaaQNn
set_option linter.unusedSimpArgs false
set_option linter.unusedVariables false
namespace Go.Proofs.Ytoiecphddchknaa
open Go Go.RowKit Sx Wi
def fks : List CK := [.int .i64, .int .i64, .int .i64, .int .i64, .int .i64, .int .i64, .int .i64, .int .u64, .int .i64, .int .i64, .int .u64, .int .i64, .int .i64, .int .u64, .int .i64, .int .i64, .int .u64, .int .i64, .int .i64, .int .u64, .int .i64, .int .i64, .int .u64, .int .i64, .int .i64, .int .u64, .int .i64, .int .i64, .int .u64, .int .i64, .int .i64, .int .u64, .int .i64, .int .i64, .int .u64, .int .i64, .int .i64, .int .u64, .int .i64, .int .i64, .int .u64, .int .i64, .int .i64, .int .i64]
def Rows (ks : List CK) (L : Int) : Prop := ∀ r, r ∈ Lc.dec L → r.length = ks.length ∧ ∀ (i : Nat) (k : CK), ks[i]? = some k → CKhas k (r.getD i 0)
theorem rows_at {ks : List CK} {L : Int} (h : Rows ks L) {i : Nat} (hi : i < (Lc.dec L).length) : ((Lc.dec L).getD i []).length = ks.length ∧ ∀ (j : Nat) (k : CK), ks[j]? = some k → CKhas k (((Lc.dec L).getD i []).getD j 0) := by
  refine h _ ?_
  rw [List.getD_eq_getElem?_getD, List.getElem?_eq_getElem hi]
  exact List.getElem_mem _
theorem rd83A {ks : List CK} {L : Int} (h : Rows ks L) {i : Int} (hi : 0 ≤ i ∧ i.toNat < (Lc.dec L).length) (j : Nat) (e : ks[j]? = some (.int .i64)) : G 83 [L, i, (j : Int)] = ((Lc.dec L).getD i.toNat []).getD j 0 := by
  have q : G 83 [L, i, (j : Int)] = IntKind.i64.wrap (((Lc.dec L).getD i.toNat []).getD (j : Int).toNat 0) := gl_ok 83 _ (by decide) (by decide)
  have b := (rows_at h hi.2).2 j _ e
  rw [q, Int.toNat_natCast]
  exact wrap_in _ _ b.1 b.2
theorem rd87A {ks : List CK} {L : Int} (h : Rows ks L) {i : Int} (hi : 0 ≤ i ∧ i.toNat < (Lc.dec L).length) (j : Nat) (e : ks[j]? = some (.int .u64)) : G 87 [L, i, (j : Int)] = ((Lc.dec L).getD i.toNat []).getD j 0 := by
  have q : G 87 [L, i, (j : Int)] = IntKind.u64.wrap (((Lc.dec L).getD i.toNat []).getD (j : Int).toNat 0) := gl_ok 87 _ (by decide) (by decide)
  have b := (rows_at h hi.2).2 j _ e
  rw [q, Int.toNat_natCast]
  exact wrap_in _ _ b.1 b.2
theorem rd88A (C i : Int) (j : Nat) : G 88 [C, i, (j : Int)] = (((Lc.dec C).getD i.toNat []).getD j 0) := gl_ok 88 _ (by decide) (by decide)
theorem faceOk_iff (r : List Int) : faceOk r ↔ (-671088640 ≤ r.getD 0 0 ∧ r.getD 0 0 ≤ 671088640 ∧ -671088640 ≤ r.getD 1 0 ∧ r.getD 1 0 ≤ 671088640 ∧ -671088640 ≤ r.getD 2 0 ∧ r.getD 2 0 ≤ 671088640 ∧ -671088640 ≤ r.getD 3 0 ∧ r.getD 3 0 ≤ 671088640 ∧ -671088640 ≤ r.getD 4 0 ∧ r.getD 4 0 ≤ 671088640 ∧ -671088640 ≤ r.getD 5 0 ∧ r.getD 5 0 ≤ 671088640) ∧ 1 ≤ r.getD 42 0 ∧ r.getD 42 0 ≤ 4 ∧ (r.getD 42 0 ≤ 0 ∨ (-1125899906842624 ≤ r.getD 6 0 * 18446744073709551616 + r.getD 7 0 ∧ r.getD 6 0 * 18446744073709551616 + r.getD 7 0 ≤ 1125899906842624 ∧ -1125899906842624 ≤ r.getD 18 0 * 18446744073709551616 + r.getD 19 0 ∧ r.getD 18 0 * 18446744073709551616 + r.getD 19 0 ≤ 1125899906842624 ∧ -1125899906842624 ≤ r.getD 30 0 * 18446744073709551616 + r.getD 31 0 ∧ r.getD 30 0 * 18446744073709551616 + r.getD 31 0 ≤ 1125899906842624 ∧ 1 ≤ r.getD 8 0 ∧ r.getD 8 0 ≤ 65535 ∧ r.getD 20 0 = r.getD 8 0 ∧ r.getD 32 0 = r.getD 8 0)) ∧ (r.getD 42 0 ≤ 1 ∨ (-1125899906842624 ≤ r.getD 9 0 * 18446744073709551616 + r.getD 10 0 ∧ r.getD 9 0 * 18446744073709551616 + r.getD 10 0 ≤ 1125899906842624 ∧ -1125899906842624 ≤ r.getD 21 0 * 18446744073709551616 + r.getD 22 0 ∧ r.getD 21 0 * 18446744073709551616 + r.getD 22 0 ≤ 1125899906842624 ∧ -1125899906842624 ≤ r.getD 33 0 * 18446744073709551616 + r.getD 34 0 ∧ r.getD 33 0 * 18446744073709551616 + r.getD 34 0 ≤ 1125899906842624 ∧ 1 ≤ r.getD 11 0 ∧ r.getD 11 0 ≤ 65535 ∧ r.getD 23 0 = r.getD 11 0 ∧ r.getD 35 0 = r.getD 11 0)) ∧ (r.getD 42 0 ≤ 2 ∨ (-1125899906842624 ≤ r.getD 12 0 * 18446744073709551616 + r.getD 13 0 ∧ r.getD 12 0 * 18446744073709551616 + r.getD 13 0 ≤ 1125899906842624 ∧ -1125899906842624 ≤ r.getD 24 0 * 18446744073709551616 + r.getD 25 0 ∧ r.getD 24 0 * 18446744073709551616 + r.getD 25 0 ≤ 1125899906842624 ∧ -1125899906842624 ≤ r.getD 36 0 * 18446744073709551616 + r.getD 37 0 ∧ r.getD 36 0 * 18446744073709551616 + r.getD 37 0 ≤ 1125899906842624 ∧ 1 ≤ r.getD 14 0 ∧ r.getD 14 0 ≤ 65535 ∧ r.getD 26 0 = r.getD 14 0 ∧ r.getD 38 0 = r.getD 14 0)) ∧ (r.getD 42 0 ≤ 3 ∨ (-1125899906842624 ≤ r.getD 15 0 * 18446744073709551616 + r.getD 16 0 ∧ r.getD 15 0 * 18446744073709551616 + r.getD 16 0 ≤ 1125899906842624 ∧ -1125899906842624 ≤ r.getD 27 0 * 18446744073709551616 + r.getD 28 0 ∧ r.getD 27 0 * 18446744073709551616 + r.getD 28 0 ≤ 1125899906842624 ∧ -1125899906842624 ≤ r.getD 39 0 * 18446744073709551616 + r.getD 40 0 ∧ r.getD 39 0 * 18446744073709551616 + r.getD 40 0 ≤ 1125899906842624 ∧ 1 ≤ r.getD 17 0 ∧ r.getD 17 0 ≤ 65535 ∧ r.getD 29 0 = r.getD 17 0 ∧ r.getD 41 0 = r.getD 17 0)) := by
  constructor
  · rintro ⟨hm, h1, h4, hj⟩
    have m0 := hm 0 (by decide)
    have m1 := hm 1 (by decide)
    have m2 := hm 2 (by decide)
    have m3 := hm 3 (by decide)
    have m4 := hm 4 (by decide)
    have m5 := hm 5 (by decide)
    refine ⟨by omega, h1, h4, ?_, ?_, ?_, ?_⟩
    · by_cases z : r.getD 42 0 ≤ 0
      · exact .inl z
      · have g := hj 0 (by decide) (by omega)
        unfold fitD fitN n128 at g
        simp only [Nat.reduceMul, Nat.reduceAdd] at g
        exact .inr (by omega)
    · by_cases z : r.getD 42 0 ≤ 1
      · exact .inl z
      · have g := hj 1 (by decide) (by omega)
        unfold fitD fitN n128 at g
        simp only [Nat.reduceMul, Nat.reduceAdd] at g
        exact .inr (by omega)
    · by_cases z : r.getD 42 0 ≤ 2
      · exact .inl z
      · have g := hj 2 (by decide) (by omega)
        unfold fitD fitN n128 at g
        simp only [Nat.reduceMul, Nat.reduceAdd] at g
        exact .inr (by omega)
    · by_cases z : r.getD 42 0 ≤ 3
      · exact .inl z
      · have g := hj 3 (by decide) (by omega)
        unfold fitD fitN n128 at g
        simp only [Nat.reduceMul, Nat.reduceAdd] at g
        exact .inr (by omega)
  · rintro ⟨hm, h1, h4, g0, g1, g2, g3⟩
    refine ⟨fun k hk => ?_, h1, h4, fun j hj hjk => ?_⟩
    · obtain rfl | rfl | rfl | rfl | rfl | rfl : k = 0 ∨ k = 1 ∨ k = 2 ∨ k = 3 ∨ k = 4 ∨ k = 5 := by omega
      all_goals omega
    · unfold fitD fitN n128
      obtain rfl | rfl | rfl | rfl : j = 0 ∨ j = 1 ∨ j = 2 ∨ j = 3 := by omega
      · have g := g0.resolve_left (by omega)
        clear g0 g1 g2 g3 hm
        simp only [Nat.reduceMul, Nat.reduceAdd]
        omega
      · have g := g1.resolve_left (by omega)
        clear g0 g1 g2 g3 hm
        simp only [Nat.reduceMul, Nat.reduceAdd]
        omega
      · have g := g2.resolve_left (by omega)
        clear g0 g1 g2 g3 hm
        simp only [Nat.reduceMul, Nat.reduceAdd]
        omega
      · have g := g3.resolve_left (by omega)
        clear g0 g1 g2 g3 hm
        simp only [Nat.reduceMul, Nat.reduceAdd]
        omega
theorem take6 {r : List Int} (h : 6 ≤ r.length) : r.take 6 = [r.getD 0 0, r.getD 1 0, r.getD 2 0, r.getD 3 0, r.getD 4 0, r.getD 5 0] := by
  match r, h with
  | a :: b :: c :: d :: e :: f :: l, _ => rfl
theorem xG40_succ (L i : Int) (hi : 0 ≤ i) : G 40 [L, i + 1] = layFace ((Lc.dec L).getD i.toNat []) i 12 12 (G 40 [L, i]) := by
  show layFaces (Lc.dec L) 12 12 _ (i + 1).toNat = _
  rw [show (i + 1).toNat = i.toNat + 1 by omega]
  show layFace ((Lc.dec L).getD i.toNat []) ((i.toNat : Nat) : Int) 12 12 _ = _
  rw [Int.toNat_of_nonneg hi]
  rfl
theorem xG41_succ (L i : Int) (hi : 0 ≤ i) : G 41 [L, i + 1] = G 92 [G 41 [L, i], i, if faceOk ((Lc.dec L).getD i.toNat []) then 1 else 0] := by
  have e : G 92 [G 41 [L, i], i, if faceOk ((Lc.dec L).getD i.toNat []) then 1 else 0] = Lc.enc ((Lc.dec (G 41 [L, i])).set i.toNat [if faceOk ((Lc.dec L).getD i.toNat []) then 1 else 0]) := gl_ok 92 _ (by decide) (by decide)
  rw [e]
  show Lc.enc (oks (Lc.dec L) (i + 1).toNat) = Lc.enc ((Lc.dec (Lc.enc (oks (Lc.dec L) i.toNat))).set _ _)
  rw [Lc.dec_enc, show (i + 1).toNat = i.toNat + 1 by omega]
  rfl
theorem face_iff {L i : Int} (hL : Rows fks L) (hi : 0 ≤ i ∧ i.toNat < (Lc.dec L).length) : faceOk ((Lc.dec L).getD i.toNat []) ↔ (-671088640 ≤ G 83 [L, i, 0] ∧ G 83 [L, i, 0] ≤ 671088640 ∧ -671088640 ≤ G 83 [L, i, 1] ∧ G 83 [L, i, 1] ≤ 671088640 ∧ -671088640 ≤ G 83 [L, i, 2] ∧ G 83 [L, i, 2] ≤ 671088640 ∧ -671088640 ≤ G 83 [L, i, 3] ∧ G 83 [L, i, 3] ≤ 671088640 ∧ -671088640 ≤ G 83 [L, i, 4] ∧ G 83 [L, i, 4] ≤ 671088640 ∧ -671088640 ≤ G 83 [L, i, 5] ∧ G 83 [L, i, 5] ≤ 671088640) ∧ 1 ≤ G 83 [L, i, 42] ∧ G 83 [L, i, 42] ≤ 4 ∧ (G 83 [L, i, 42] ≤ 0 ∨ (-1125899906842624 ≤ G 83 [L, i, 6] * 18446744073709551616 + G 87 [L, i, 7] ∧ G 83 [L, i, 6] * 18446744073709551616 + G 87 [L, i, 7] ≤ 1125899906842624 ∧ -1125899906842624 ≤ G 83 [L, i, 18] * 18446744073709551616 + G 87 [L, i, 19] ∧ G 83 [L, i, 18] * 18446744073709551616 + G 87 [L, i, 19] ≤ 1125899906842624 ∧ -1125899906842624 ≤ G 83 [L, i, 30] * 18446744073709551616 + G 87 [L, i, 31] ∧ G 83 [L, i, 30] * 18446744073709551616 + G 87 [L, i, 31] ≤ 1125899906842624 ∧ 1 ≤ G 83 [L, i, 8] ∧ G 83 [L, i, 8] ≤ 65535 ∧ G 83 [L, i, 20] = G 83 [L, i, 8] ∧ G 83 [L, i, 32] = G 83 [L, i, 8])) ∧ (G 83 [L, i, 42] ≤ 1 ∨ (-1125899906842624 ≤ G 83 [L, i, 9] * 18446744073709551616 + G 87 [L, i, 10] ∧ G 83 [L, i, 9] * 18446744073709551616 + G 87 [L, i, 10] ≤ 1125899906842624 ∧ -1125899906842624 ≤ G 83 [L, i, 21] * 18446744073709551616 + G 87 [L, i, 22] ∧ G 83 [L, i, 21] * 18446744073709551616 + G 87 [L, i, 22] ≤ 1125899906842624 ∧ -1125899906842624 ≤ G 83 [L, i, 33] * 18446744073709551616 + G 87 [L, i, 34] ∧ G 83 [L, i, 33] * 18446744073709551616 + G 87 [L, i, 34] ≤ 1125899906842624 ∧ 1 ≤ G 83 [L, i, 11] ∧ G 83 [L, i, 11] ≤ 65535 ∧ G 83 [L, i, 23] = G 83 [L, i, 11] ∧ G 83 [L, i, 35] = G 83 [L, i, 11])) ∧ (G 83 [L, i, 42] ≤ 2 ∨ (-1125899906842624 ≤ G 83 [L, i, 12] * 18446744073709551616 + G 87 [L, i, 13] ∧ G 83 [L, i, 12] * 18446744073709551616 + G 87 [L, i, 13] ≤ 1125899906842624 ∧ -1125899906842624 ≤ G 83 [L, i, 24] * 18446744073709551616 + G 87 [L, i, 25] ∧ G 83 [L, i, 24] * 18446744073709551616 + G 87 [L, i, 25] ≤ 1125899906842624 ∧ -1125899906842624 ≤ G 83 [L, i, 36] * 18446744073709551616 + G 87 [L, i, 37] ∧ G 83 [L, i, 36] * 18446744073709551616 + G 87 [L, i, 37] ≤ 1125899906842624 ∧ 1 ≤ G 83 [L, i, 14] ∧ G 83 [L, i, 14] ≤ 65535 ∧ G 83 [L, i, 26] = G 83 [L, i, 14] ∧ G 83 [L, i, 38] = G 83 [L, i, 14])) ∧ (G 83 [L, i, 42] ≤ 3 ∨ (-1125899906842624 ≤ G 83 [L, i, 15] * 18446744073709551616 + G 87 [L, i, 16] ∧ G 83 [L, i, 15] * 18446744073709551616 + G 87 [L, i, 16] ≤ 1125899906842624 ∧ -1125899906842624 ≤ G 83 [L, i, 27] * 18446744073709551616 + G 87 [L, i, 28] ∧ G 83 [L, i, 27] * 18446744073709551616 + G 87 [L, i, 28] ≤ 1125899906842624 ∧ -1125899906842624 ≤ G 83 [L, i, 39] * 18446744073709551616 + G 87 [L, i, 40] ∧ G 83 [L, i, 39] * 18446744073709551616 + G 87 [L, i, 40] ≤ 1125899906842624 ∧ 1 ≤ G 83 [L, i, 17] ∧ G 83 [L, i, 17] ≤ 65535 ∧ G 83 [L, i, 29] = G 83 [L, i, 17] ∧ G 83 [L, i, 41] = G 83 [L, i, 17])) := by
  have a0 := rd83A hL hi 0 rfl
  have a1 := rd83A hL hi 1 rfl
  have a2 := rd83A hL hi 2 rfl
  have a3 := rd83A hL hi 3 rfl
  have a4 := rd83A hL hi 4 rfl
  have a5 := rd83A hL hi 5 rfl
  have a6 := rd83A hL hi 6 rfl
  have a7 := rd87A hL hi 7 rfl
  have a8 := rd83A hL hi 8 rfl
  have a9 := rd83A hL hi 9 rfl
  have a10 := rd87A hL hi 10 rfl
  have a11 := rd83A hL hi 11 rfl
  have a12 := rd83A hL hi 12 rfl
  have a13 := rd87A hL hi 13 rfl
  have a14 := rd83A hL hi 14 rfl
  have a15 := rd83A hL hi 15 rfl
  have a16 := rd87A hL hi 16 rfl
  have a17 := rd83A hL hi 17 rfl
  have a18 := rd83A hL hi 18 rfl
  have a19 := rd87A hL hi 19 rfl
  have a20 := rd83A hL hi 20 rfl
  have a21 := rd83A hL hi 21 rfl
  have a22 := rd87A hL hi 22 rfl
  have a23 := rd83A hL hi 23 rfl
  have a24 := rd83A hL hi 24 rfl
  have a25 := rd87A hL hi 25 rfl
  have a26 := rd83A hL hi 26 rfl
  have a27 := rd83A hL hi 27 rfl
  have a28 := rd87A hL hi 28 rfl
  have a29 := rd83A hL hi 29 rfl
  have a30 := rd83A hL hi 30 rfl
  have a31 := rd87A hL hi 31 rfl
  have a32 := rd83A hL hi 32 rfl
  have a33 := rd83A hL hi 33 rfl
  have a34 := rd87A hL hi 34 rfl
  have a35 := rd83A hL hi 35 rfl
  have a36 := rd83A hL hi 36 rfl
  have a37 := rd87A hL hi 37 rfl
  have a38 := rd83A hL hi 38 rfl
  have a39 := rd83A hL hi 39 rfl
  have a40 := rd87A hL hi 40 rfl
  have a41 := rd83A hL hi 41 rfl
  have a42 := rd83A hL hi 42 rfl
  simp only [show ((0 : Nat) : Int) = 0 from rfl, show ((1 : Nat) : Int) = 1 from rfl, show ((2 : Nat) : Int) = 2 from rfl, show ((3 : Nat) : Int) = 3 from rfl, show ((4 : Nat) : Int) = 4 from rfl, show ((5 : Nat) : Int) = 5 from rfl, show ((6 : Nat) : Int) = 6 from rfl, show ((7 : Nat) : Int) = 7 from rfl, show ((8 : Nat) : Int) = 8 from rfl, show ((9 : Nat) : Int) = 9 from rfl, show ((10 : Nat) : Int) = 10 from rfl, show ((11 : Nat) : Int) = 11 from rfl, show ((12 : Nat) : Int) = 12 from rfl, show ((13 : Nat) : Int) = 13 from rfl, show ((14 : Nat) : Int) = 14 from rfl, show ((15 : Nat) : Int) = 15 from rfl, show ((16 : Nat) : Int) = 16 from rfl, show ((17 : Nat) : Int) = 17 from rfl, show ((18 : Nat) : Int) = 18 from rfl, show ((19 : Nat) : Int) = 19 from rfl, show ((20 : Nat) : Int) = 20 from rfl, show ((21 : Nat) : Int) = 21 from rfl, show ((22 : Nat) : Int) = 22 from rfl, show ((23 : Nat) : Int) = 23 from rfl, show ((24 : Nat) : Int) = 24 from rfl, show ((25 : Nat) : Int) = 25 from rfl, show ((26 : Nat) : Int) = 26 from rfl, show ((27 : Nat) : Int) = 27 from rfl, show ((28 : Nat) : Int) = 28 from rfl, show ((29 : Nat) : Int) = 29 from rfl, show ((30 : Nat) : Int) = 30 from rfl, show ((31 : Nat) : Int) = 31 from rfl, show ((32 : Nat) : Int) = 32 from rfl, show ((33 : Nat) : Int) = 33 from rfl, show ((34 : Nat) : Int) = 34 from rfl, show ((35 : Nat) : Int) = 35 from rfl, show ((36 : Nat) : Int) = 36 from rfl, show ((37 : Nat) : Int) = 37 from rfl, show ((38 : Nat) : Int) = 38 from rfl, show ((39 : Nat) : Int) = 39 from rfl, show ((40 : Nat) : Int) = 40 from rfl, show ((41 : Nat) : Int) = 41 from rfl, show ((42 : Nat) : Int) = 42 from rfl] at a0 a1 a2 a3 a4 a5 a6 a7 a8 a9 a10 a11 a12 a13 a14 a15 a16 a17 a18 a19 a20 a21 a22 a23 a24 a25 a26 a27 a28 a29 a30 a31 a32 a33 a34 a35 a36 a37 a38 a39 a40 a41 a42
  rw [faceOk_iff, a0, a1, a2, a3, a4, a5, a6, a7, a8, a9, a10, a11, a12, a13, a14, a15, a16, a17, a18, a19, a20, a21, a22, a23, a24, a25, a26, a27, a28, a29, a30, a31, a32, a33, a34, a35, a36, a37, a38, a39, a40, a41, a42]
theorem cl_yes {L i : Int} (hL : Rows fks L) (hi : 0 ≤ i ∧ i.toNat < (Lc.dec L).length) (h : (-671088640 ≤ G 83 [L, i, 0] ∧ G 83 [L, i, 0] ≤ 671088640 ∧ -671088640 ≤ G 83 [L, i, 1] ∧ G 83 [L, i, 1] ≤ 671088640 ∧ -671088640 ≤ G 83 [L, i, 2] ∧ G 83 [L, i, 2] ≤ 671088640 ∧ -671088640 ≤ G 83 [L, i, 3] ∧ G 83 [L, i, 3] ≤ 671088640 ∧ -671088640 ≤ G 83 [L, i, 4] ∧ G 83 [L, i, 4] ≤ 671088640 ∧ -671088640 ≤ G 83 [L, i, 5] ∧ G 83 [L, i, 5] ≤ 671088640) ∧ 1 ≤ G 83 [L, i, 42] ∧ G 83 [L, i, 42] ≤ 4 ∧ (G 83 [L, i, 42] ≤ 0 ∨ (-1125899906842624 ≤ G 83 [L, i, 6] * 18446744073709551616 + G 87 [L, i, 7] ∧ G 83 [L, i, 6] * 18446744073709551616 + G 87 [L, i, 7] ≤ 1125899906842624 ∧ -1125899906842624 ≤ G 83 [L, i, 18] * 18446744073709551616 + G 87 [L, i, 19] ∧ G 83 [L, i, 18] * 18446744073709551616 + G 87 [L, i, 19] ≤ 1125899906842624 ∧ -1125899906842624 ≤ G 83 [L, i, 30] * 18446744073709551616 + G 87 [L, i, 31] ∧ G 83 [L, i, 30] * 18446744073709551616 + G 87 [L, i, 31] ≤ 1125899906842624 ∧ 1 ≤ G 83 [L, i, 8] ∧ G 83 [L, i, 8] ≤ 65535 ∧ G 83 [L, i, 20] = G 83 [L, i, 8] ∧ G 83 [L, i, 32] = G 83 [L, i, 8])) ∧ (G 83 [L, i, 42] ≤ 1 ∨ (-1125899906842624 ≤ G 83 [L, i, 9] * 18446744073709551616 + G 87 [L, i, 10] ∧ G 83 [L, i, 9] * 18446744073709551616 + G 87 [L, i, 10] ≤ 1125899906842624 ∧ -1125899906842624 ≤ G 83 [L, i, 21] * 18446744073709551616 + G 87 [L, i, 22] ∧ G 83 [L, i, 21] * 18446744073709551616 + G 87 [L, i, 22] ≤ 1125899906842624 ∧ -1125899906842624 ≤ G 83 [L, i, 33] * 18446744073709551616 + G 87 [L, i, 34] ∧ G 83 [L, i, 33] * 18446744073709551616 + G 87 [L, i, 34] ≤ 1125899906842624 ∧ 1 ≤ G 83 [L, i, 11] ∧ G 83 [L, i, 11] ≤ 65535 ∧ G 83 [L, i, 23] = G 83 [L, i, 11] ∧ G 83 [L, i, 35] = G 83 [L, i, 11])) ∧ (G 83 [L, i, 42] ≤ 2 ∨ (-1125899906842624 ≤ G 83 [L, i, 12] * 18446744073709551616 + G 87 [L, i, 13] ∧ G 83 [L, i, 12] * 18446744073709551616 + G 87 [L, i, 13] ≤ 1125899906842624 ∧ -1125899906842624 ≤ G 83 [L, i, 24] * 18446744073709551616 + G 87 [L, i, 25] ∧ G 83 [L, i, 24] * 18446744073709551616 + G 87 [L, i, 25] ≤ 1125899906842624 ∧ -1125899906842624 ≤ G 83 [L, i, 36] * 18446744073709551616 + G 87 [L, i, 37] ∧ G 83 [L, i, 36] * 18446744073709551616 + G 87 [L, i, 37] ≤ 1125899906842624 ∧ 1 ≤ G 83 [L, i, 14] ∧ G 83 [L, i, 14] ≤ 65535 ∧ G 83 [L, i, 26] = G 83 [L, i, 14] ∧ G 83 [L, i, 38] = G 83 [L, i, 14])) ∧ (G 83 [L, i, 42] ≤ 3 ∨ (-1125899906842624 ≤ G 83 [L, i, 15] * 18446744073709551616 + G 87 [L, i, 16] ∧ G 83 [L, i, 15] * 18446744073709551616 + G 87 [L, i, 16] ≤ 1125899906842624 ∧ -1125899906842624 ≤ G 83 [L, i, 27] * 18446744073709551616 + G 87 [L, i, 28] ∧ G 83 [L, i, 27] * 18446744073709551616 + G 87 [L, i, 28] ≤ 1125899906842624 ∧ -1125899906842624 ≤ G 83 [L, i, 39] * 18446744073709551616 + G 87 [L, i, 40] ∧ G 83 [L, i, 39] * 18446744073709551616 + G 87 [L, i, 40] ≤ 1125899906842624 ∧ 1 ≤ G 83 [L, i, 17] ∧ G 83 [L, i, 17] ≤ 65535 ∧ G 83 [L, i, 29] = G 83 [L, i, 17] ∧ G 83 [L, i, 41] = G 83 [L, i, 17]))) : G 77 [G 83 [L, i, 0], G 83 [L, i, 1], G 83 [L, i, 2], G 83 [L, i, 3], G 83 [L, i, 4], G 83 [L, i, 5], G 83 [L, i, 6] * 18446744073709551616 + G 87 [L, i, 7], G 83 [L, i, 9] * 18446744073709551616 + G 87 [L, i, 10], G 83 [L, i, 12] * 18446744073709551616 + G 87 [L, i, 13], G 83 [L, i, 15] * 18446744073709551616 + G 87 [L, i, 16], G 83 [L, i, 18] * 18446744073709551616 + G 87 [L, i, 19], G 83 [L, i, 21] * 18446744073709551616 + G 87 [L, i, 22], G 83 [L, i, 24] * 18446744073709551616 + G 87 [L, i, 25], G 83 [L, i, 27] * 18446744073709551616 + G 87 [L, i, 28], G 83 [L, i, 30] * 18446744073709551616 + G 87 [L, i, 31], G 83 [L, i, 33] * 18446744073709551616 + G 87 [L, i, 34], G 83 [L, i, 36] * 18446744073709551616 + G 87 [L, i, 37], G 83 [L, i, 39] * 18446744073709551616 + G 87 [L, i, 40], G 83 [L, i, 8], G 83 [L, i, 11], G 83 [L, i, 14], G 83 [L, i, 17], G 83 [L, i, 42], i, 12, 12, G 40 [L, i], max (max 0 (Int.fdiv (min (min (G 83 [L, i, 1]) (G 83 [L, i, 3])) (G 83 [L, i, 5]) - 128 + 256 - 1) 256)) (min 12 (Int.fdiv (max (max (G 83 [L, i, 1]) (G 83 [L, i, 3])) (G 83 [L, i, 5]) - 128) 256 + 1))] = G 40 [L, i + 1] ∧ G 92 [G 41 [L, i], i, 1] = G 41 [L, i + 1] := by
  have hok := (face_iff hL hi).2 h
  clear h
  rw [xG40_succ L i hi.1, xG41_succ L i hi.1, if_pos hok]
  refine ⟨?_, rfl⟩
  have a0 := rd83A hL hi 0 rfl
  have a1 := rd83A hL hi 1 rfl
  have a2 := rd83A hL hi 2 rfl
  have a3 := rd83A hL hi 3 rfl
  have a4 := rd83A hL hi 4 rfl
  have a5 := rd83A hL hi 5 rfl
  have a6 := rd83A hL hi 6 rfl
  have a7 := rd87A hL hi 7 rfl
  have a8 := rd83A hL hi 8 rfl
  have a9 := rd83A hL hi 9 rfl
  have a10 := rd87A hL hi 10 rfl
  have a11 := rd83A hL hi 11 rfl
  have a12 := rd83A hL hi 12 rfl
  have a13 := rd87A hL hi 13 rfl
  have a14 := rd83A hL hi 14 rfl
  have a15 := rd83A hL hi 15 rfl
  have a16 := rd87A hL hi 16 rfl
  have a17 := rd83A hL hi 17 rfl
  have a18 := rd83A hL hi 18 rfl
  have a19 := rd87A hL hi 19 rfl
  have a20 := rd83A hL hi 20 rfl
  have a21 := rd83A hL hi 21 rfl
  have a22 := rd87A hL hi 22 rfl
  have a23 := rd83A hL hi 23 rfl
  have a24 := rd83A hL hi 24 rfl
  have a25 := rd87A hL hi 25 rfl
  have a26 := rd83A hL hi 26 rfl
  have a27 := rd83A hL hi 27 rfl
  have a28 := rd87A hL hi 28 rfl
  have a29 := rd83A hL hi 29 rfl
  have a30 := rd83A hL hi 30 rfl
  have a31 := rd87A hL hi 31 rfl
  have a32 := rd83A hL hi 32 rfl
  have a33 := rd83A hL hi 33 rfl
  have a34 := rd87A hL hi 34 rfl
  have a35 := rd83A hL hi 35 rfl
  have a36 := rd83A hL hi 36 rfl
  have a37 := rd87A hL hi 37 rfl
  have a38 := rd83A hL hi 38 rfl
  have a39 := rd83A hL hi 39 rfl
  have a40 := rd87A hL hi 40 rfl
  have a41 := rd83A hL hi 41 rfl
  have a42 := rd83A hL hi 42 rfl
  simp only [show ((0 : Nat) : Int) = 0 from rfl, show ((1 : Nat) : Int) = 1 from rfl, show ((2 : Nat) : Int) = 2 from rfl, show ((3 : Nat) : Int) = 3 from rfl, show ((4 : Nat) : Int) = 4 from rfl, show ((5 : Nat) : Int) = 5 from rfl, show ((6 : Nat) : Int) = 6 from rfl, show ((7 : Nat) : Int) = 7 from rfl, show ((8 : Nat) : Int) = 8 from rfl, show ((9 : Nat) : Int) = 9 from rfl, show ((10 : Nat) : Int) = 10 from rfl, show ((11 : Nat) : Int) = 11 from rfl, show ((12 : Nat) : Int) = 12 from rfl, show ((13 : Nat) : Int) = 13 from rfl, show ((14 : Nat) : Int) = 14 from rfl, show ((15 : Nat) : Int) = 15 from rfl, show ((16 : Nat) : Int) = 16 from rfl, show ((17 : Nat) : Int) = 17 from rfl, show ((18 : Nat) : Int) = 18 from rfl, show ((19 : Nat) : Int) = 19 from rfl, show ((20 : Nat) : Int) = 20 from rfl, show ((21 : Nat) : Int) = 21 from rfl, show ((22 : Nat) : Int) = 22 from rfl, show ((23 : Nat) : Int) = 23 from rfl, show ((24 : Nat) : Int) = 24 from rfl, show ((25 : Nat) : Int) = 25 from rfl, show ((26 : Nat) : Int) = 26 from rfl, show ((27 : Nat) : Int) = 27 from rfl, show ((28 : Nat) : Int) = 28 from rfl, show ((29 : Nat) : Int) = 29 from rfl, show ((30 : Nat) : Int) = 30 from rfl, show ((31 : Nat) : Int) = 31 from rfl, show ((32 : Nat) : Int) = 32 from rfl, show ((33 : Nat) : Int) = 33 from rfl, show ((34 : Nat) : Int) = 34 from rfl, show ((35 : Nat) : Int) = 35 from rfl, show ((36 : Nat) : Int) = 36 from rfl, show ((37 : Nat) : Int) = 37 from rfl, show ((38 : Nat) : Int) = 38 from rfl, show ((39 : Nat) : Int) = 39 from rfl, show ((40 : Nat) : Int) = 40 from rfl, show ((41 : Nat) : Int) = 41 from rfl, show ((42 : Nat) : Int) = 42 from rfl] at a0 a1 a2 a3 a4 a5 a6 a7 a8 a9 a10 a11 a12 a13 a14 a15 a16 a17 a18 a19 a20 a21 a22 a23 a24 a25 a26 a27 a28 a29 a30 a31 a32 a33 a34 a35 a36 a37 a38 a39 a40 a41 a42
  have hlen : 6 ≤ ((Lc.dec L).getD i.toNat []).length := by rw [(rows_at hL hi.2).1]; decide
  have e : layFace ((Lc.dec L).getD i.toNat []) i 12 12 (G 40 [L, i]) = boardK (faceXs ((Lc.dec L).getD i.toNat []) i 12 12) (G 40 [L, i]) (max (topsK (faceXs ((Lc.dec L).getD i.toNat []) i 12 12)) (endsK (faceXs ((Lc.dec L).getD i.toNat []) i 12 12)) - topsK (faceXs ((Lc.dec L).getD i.toNat []) i 12 12)).toNat := if_pos hok
  rw [e]
  have ex : faceXs ((Lc.dec L).getD i.toNat []) i 12 12 = [G 83 [L, i, 0], G 83 [L, i, 1], G 83 [L, i, 2], G 83 [L, i, 3], G 83 [L, i, 4], G 83 [L, i, 5], G 83 [L, i, 6] * 18446744073709551616 + G 87 [L, i, 7], G 83 [L, i, 9] * 18446744073709551616 + G 87 [L, i, 10], G 83 [L, i, 12] * 18446744073709551616 + G 87 [L, i, 13], G 83 [L, i, 15] * 18446744073709551616 + G 87 [L, i, 16], G 83 [L, i, 18] * 18446744073709551616 + G 87 [L, i, 19], G 83 [L, i, 21] * 18446744073709551616 + G 87 [L, i, 22], G 83 [L, i, 24] * 18446744073709551616 + G 87 [L, i, 25], G 83 [L, i, 27] * 18446744073709551616 + G 87 [L, i, 28], G 83 [L, i, 30] * 18446744073709551616 + G 87 [L, i, 31], G 83 [L, i, 33] * 18446744073709551616 + G 87 [L, i, 34], G 83 [L, i, 36] * 18446744073709551616 + G 87 [L, i, 37], G 83 [L, i, 39] * 18446744073709551616 + G 87 [L, i, 40], G 83 [L, i, 8], G 83 [L, i, 11], G 83 [L, i, 14], G 83 [L, i, 17], G 83 [L, i, 42], i, 12, 12] := by
    unfold faceXs n128
    rw [take6 hlen, a0, a1, a2, a3, a4, a5, a6, a7, a8, a9, a10, a11, a12, a13, a14, a15, a16, a17, a18, a19, a21, a22, a24, a25, a27, a28, a30, a31, a33, a34, a36, a37, a39, a40, a42]
    rfl
  rw [ex]
  rfl
theorem cl_no {L i : Int} (hL : Rows fks L) (hi : 0 ≤ i ∧ i.toNat < (Lc.dec L).length) (h : ¬ ((-671088640 ≤ G 83 [L, i, 0] ∧ G 83 [L, i, 0] ≤ 671088640 ∧ -671088640 ≤ G 83 [L, i, 1] ∧ G 83 [L, i, 1] ≤ 671088640 ∧ -671088640 ≤ G 83 [L, i, 2] ∧ G 83 [L, i, 2] ≤ 671088640 ∧ -671088640 ≤ G 83 [L, i, 3] ∧ G 83 [L, i, 3] ≤ 671088640 ∧ -671088640 ≤ G 83 [L, i, 4] ∧ G 83 [L, i, 4] ≤ 671088640 ∧ -671088640 ≤ G 83 [L, i, 5] ∧ G 83 [L, i, 5] ≤ 671088640) ∧ 1 ≤ G 83 [L, i, 42] ∧ G 83 [L, i, 42] ≤ 4 ∧ (G 83 [L, i, 42] ≤ 0 ∨ (-1125899906842624 ≤ G 83 [L, i, 6] * 18446744073709551616 + G 87 [L, i, 7] ∧ G 83 [L, i, 6] * 18446744073709551616 + G 87 [L, i, 7] ≤ 1125899906842624 ∧ -1125899906842624 ≤ G 83 [L, i, 18] * 18446744073709551616 + G 87 [L, i, 19] ∧ G 83 [L, i, 18] * 18446744073709551616 + G 87 [L, i, 19] ≤ 1125899906842624 ∧ -1125899906842624 ≤ G 83 [L, i, 30] * 18446744073709551616 + G 87 [L, i, 31] ∧ G 83 [L, i, 30] * 18446744073709551616 + G 87 [L, i, 31] ≤ 1125899906842624 ∧ 1 ≤ G 83 [L, i, 8] ∧ G 83 [L, i, 8] ≤ 65535 ∧ G 83 [L, i, 20] = G 83 [L, i, 8] ∧ G 83 [L, i, 32] = G 83 [L, i, 8])) ∧ (G 83 [L, i, 42] ≤ 1 ∨ (-1125899906842624 ≤ G 83 [L, i, 9] * 18446744073709551616 + G 87 [L, i, 10] ∧ G 83 [L, i, 9] * 18446744073709551616 + G 87 [L, i, 10] ≤ 1125899906842624 ∧ -1125899906842624 ≤ G 83 [L, i, 21] * 18446744073709551616 + G 87 [L, i, 22] ∧ G 83 [L, i, 21] * 18446744073709551616 + G 87 [L, i, 22] ≤ 1125899906842624 ∧ -1125899906842624 ≤ G 83 [L, i, 33] * 18446744073709551616 + G 87 [L, i, 34] ∧ G 83 [L, i, 33] * 18446744073709551616 + G 87 [L, i, 34] ≤ 1125899906842624 ∧ 1 ≤ G 83 [L, i, 11] ∧ G 83 [L, i, 11] ≤ 65535 ∧ G 83 [L, i, 23] = G 83 [L, i, 11] ∧ G 83 [L, i, 35] = G 83 [L, i, 11])) ∧ (G 83 [L, i, 42] ≤ 2 ∨ (-1125899906842624 ≤ G 83 [L, i, 12] * 18446744073709551616 + G 87 [L, i, 13] ∧ G 83 [L, i, 12] * 18446744073709551616 + G 87 [L, i, 13] ≤ 1125899906842624 ∧ -1125899906842624 ≤ G 83 [L, i, 24] * 18446744073709551616 + G 87 [L, i, 25] ∧ G 83 [L, i, 24] * 18446744073709551616 + G 87 [L, i, 25] ≤ 1125899906842624 ∧ -1125899906842624 ≤ G 83 [L, i, 36] * 18446744073709551616 + G 87 [L, i, 37] ∧ G 83 [L, i, 36] * 18446744073709551616 + G 87 [L, i, 37] ≤ 1125899906842624 ∧ 1 ≤ G 83 [L, i, 14] ∧ G 83 [L, i, 14] ≤ 65535 ∧ G 83 [L, i, 26] = G 83 [L, i, 14] ∧ G 83 [L, i, 38] = G 83 [L, i, 14])) ∧ (G 83 [L, i, 42] ≤ 3 ∨ (-1125899906842624 ≤ G 83 [L, i, 15] * 18446744073709551616 + G 87 [L, i, 16] ∧ G 83 [L, i, 15] * 18446744073709551616 + G 87 [L, i, 16] ≤ 1125899906842624 ∧ -1125899906842624 ≤ G 83 [L, i, 27] * 18446744073709551616 + G 87 [L, i, 28] ∧ G 83 [L, i, 27] * 18446744073709551616 + G 87 [L, i, 28] ≤ 1125899906842624 ∧ -1125899906842624 ≤ G 83 [L, i, 39] * 18446744073709551616 + G 87 [L, i, 40] ∧ G 83 [L, i, 39] * 18446744073709551616 + G 87 [L, i, 40] ≤ 1125899906842624 ∧ 1 ≤ G 83 [L, i, 17] ∧ G 83 [L, i, 17] ≤ 65535 ∧ G 83 [L, i, 29] = G 83 [L, i, 17] ∧ G 83 [L, i, 41] = G 83 [L, i, 17])))) : G 40 [L, i] = G 40 [L, i + 1] ∧ G 92 [G 41 [L, i], i, 0] = G 41 [L, i + 1] := by
  have hok : ¬ faceOk ((Lc.dec L).getD i.toNat []) := fun q => h ((face_iff hL hi).1 q)
  rw [xG40_succ L i hi.1, xG41_succ L i hi.1, if_neg hok]
  exact ⟨(if_neg hok).symm, rfl⟩
theorem oks_get (L : List (List Int)) : ∀ m : Nat, m ≤ L.length → (oks L m).length = L.length ∧ ∀ k, k < m → (oks L m).getD k [] = [if faceOk (L.getD k []) then 1 else 0]
  | 0, _ => ⟨by simp [oks], fun k hk => by omega⟩
  | m + 1, hm => by
    obtain ⟨h1, h2⟩ := oks_get L m (by omega)
    unfold oks
    refine ⟨by rw [List.length_set]; exact h1, fun k hk => ?_⟩
    by_cases z : m = k
    · subst z
      rw [List.getD_eq_getElem?_getD, List.getElem?_set_self (by omega)]
      rfl
    · rw [List.getD_eq_getElem?_getD, List.getElem?_set_ne z, ← List.getD_eq_getElem?_getD]
      exact h2 k (by omega)
theorem ok_read {L n i : Int} (hn : n = ((Lc.dec L).length : Int)) (hi : 0 ≤ i ∧ i.toNat < (Lc.dec L).length) : G 88 [G 41 [L, n], i, 0] = if faceOk ((Lc.dec L).getD i.toNat []) then 1 else 0 := by
  have e := rd88A (G 41 [L, n]) i 0
  have e2 : Lc.dec (G 41 [L, n]) = oks (Lc.dec L) (Lc.dec L).length := by
    show Lc.dec (Lc.enc (oks (Lc.dec L) n.toNat)) = _
    rw [Lc.dec_enc, hn, Int.toNat_natCast]
  rw [e2, (oks_get (Lc.dec L) _ (Nat.le_refl _)).2 i.toNat hi.2] at e
  exact e
theorem last_succ {L x y i : Int} (hi : 0 ≤ i ∧ i < 30) : G 42 [L, x, y, i + 1] = if faceOk ((Lc.dec L).getD i.toNat []) ∧ xG63 (((Lc.dec L).getD i.toNat []).take 6 ++ [x, y]) ≠ 0 then i else G 42 [L, x, y, i] := by
  show lastF (Lc.dec L) x y (min 30 (i + 1).toNat) = if _ then i else lastF (Lc.dec L) x y (min 30 i.toNat)
  rw [show min 30 (i + 1).toNat = i.toNat + 1 by omega, show min 30 i.toNat = i.toNat by omega]
  show (if _ then ((i.toNat : Nat) : Int) else _) = _
  rw [Int.toNat_of_nonneg hi.1]
theorem claim_row {L i : Int} (hL : Rows fks L) (hi : 0 ≤ i ∧ i.toNat < (Lc.dec L).length) (x y : Int) : G 63 [G 83 [L, i, 0], G 83 [L, i, 1], G 83 [L, i, 2], G 83 [L, i, 3], G 83 [L, i, 4], G 83 [L, i, 5], x, y] = xG63 (((Lc.dec L).getD i.toNat []).take 6 ++ [x, y]) := by
  have a0 : G 83 [L, i, 0] = _ := rd83A hL hi 0 rfl
  have a1 : G 83 [L, i, 1] = _ := rd83A hL hi 1 rfl
  have a2 : G 83 [L, i, 2] = _ := rd83A hL hi 2 rfl
  have a3 : G 83 [L, i, 3] = _ := rd83A hL hi 3 rfl
  have a4 : G 83 [L, i, 4] = _ := rd83A hL hi 4 rfl
  have a5 : G 83 [L, i, 5] = _ := rd83A hL hi 5 rfl
  have hlen : 6 ≤ ((Lc.dec L).getD i.toNat []).length := by rw [(rows_at hL hi.2).1]; decide
  rw [take6 hlen, a0, a1, a2, a3, a4, a5]
  rfl
theorem last_yes {L n i x y : Int} (hL : Rows fks L) (hn : n = ((Lc.dec L).length : Int)) (hi : 0 ≤ i ∧ i < n) (h30 : n ≤ 30) (h1 : ¬ G 88 [G 41 [L, n], i, 0] = 0) (h2 : ¬ G 63 [G 83 [L, i, 0], G 83 [L, i, 1], G 83 [L, i, 2], G 83 [L, i, 3], G 83 [L, i, 4], G 83 [L, i, 5], x, y] = 0) : i = G 42 [L, x, y, i + 1] := by
  have hi' : 0 ≤ i ∧ i.toNat < (Lc.dec L).length := by omega
  rw [ok_read hn hi'] at h1
  rw [claim_row hL hi'] at h2
  rw [last_succ ⟨hi.1, by omega⟩, if_pos ⟨by by_cases q : faceOk ((Lc.dec L).getD i.toNat []); exact q; rw [if_neg q] at h1; exact absurd rfl h1, h2⟩]
theorem last_no1 {L n i x y : Int} (hL : Rows fks L) (hn : n = ((Lc.dec L).length : Int)) (hi : 0 ≤ i ∧ i < n) (h30 : n ≤ 30) (h1 : G 88 [G 41 [L, n], i, 0] = 0) : G 42 [L, x, y, i] = G 42 [L, x, y, i + 1] := by
  have hi' : 0 ≤ i ∧ i.toNat < (Lc.dec L).length := by omega
  rw [ok_read hn hi'] at h1
  rw [last_succ ⟨hi.1, by omega⟩, if_neg (fun q => by rw [if_pos q.1] at h1; exact absurd h1 (by decide))]
theorem last_no2 {L n i x y : Int} (hL : Rows fks L) (hn : n = ((Lc.dec L).length : Int)) (hi : 0 ≤ i ∧ i < n) (h30 : n ≤ 30) (h2 : G 63 [G 83 [L, i, 0], G 83 [L, i, 1], G 83 [L, i, 2], G 83 [L, i, 3], G 83 [L, i, 4], G 83 [L, i, 5], x, y] = 0) : G 42 [L, x, y, i] = G 42 [L, x, y, i + 1] := by
  have hi' : 0 ≤ i ∧ i.toNat < (Lc.dec L).length := by omega
  rw [claim_row hL hi'] at h2
  rw [last_succ ⟨hi.1, by omega⟩, if_neg (fun q => q.2 h2)]
theorem cl_pix {L n i : Int} (hL : Rows fks L) (hn : n = ((Lc.dec L).length : Int)) (hi : 0 ≤ i ∧ i < 144) (h30 : n ≤ 30) :
    (G 42 [L, Int.tmod i 12 * 256 + 128, Int.tdiv i 12 * 256 + 128, n] < 0 ∧ G 88 [G 40 [L, n], Int.tdiv i 12 * 12 + Int.tmod i 12, 0] = 0) ∨
    (0 ≤ G 42 [L, Int.tmod i 12 * 256 + 128, Int.tdiv i 12 * 256 + 128, n] ∧ ¬ G 88 [G 40 [L, n], Int.tdiv i 12 * 12 + Int.tmod i 12, 0] = 0 ∧ G 83 [G 40 [L, n], Int.tdiv i 12 * 12 + Int.tmod i 12, 1] = G 42 [L, Int.tmod i 12 * 256 + 128, Int.tdiv i 12 * 256 + 128, n]) := by
  have hq : Int.tdiv i 12 = ((i.toNat / 12 : Nat) : Int) := by rw [Int.tdiv_eq_ediv_of_nonneg hi.1]; omega
  have hr : Int.tmod i 12 = ((i.toNat % 12 : Nat) : Int) := by rw [Int.tmod_eq_emod_of_nonneg hi.1]; omega
  have hk : (Int.tdiv i 12 * 12 + Int.tmod i 12).toNat = i.toNat := by rw [hq, hr]; omega
  have e0 : wG 96 [144, 0, 0, 0, 0, 0, 0, 0, 0] = Lc.enc (List.replicate 144 [0, 0, 0, 0, 0, 0, 0, 0]) := wlists 96 _ (by decide) (by decide)
  have hp := faces_pix (Lc.dec L) (wG 96 [144, 0, 0, 0, 0, 0, 0, 0, 0]) (fun r h => (hL r h).1) (by rw [e0, Lc.dec_enc]; simp) (fun k hk => by rw [e0, Lc.dec_enc, List.getD_eq_getElem?_getD, List.getElem?_replicate, if_pos hk]; rfl) (Lc.dec L).length (Nat.le_refl _)
  have eb : G 40 [L, n] = layFaces (Lc.dec L) 12 12 (wG 96 [144, 0, 0, 0, 0, 0, 0, 0, 0]) (Lc.dec L).length := by
    show layFaces (Lc.dec L) 12 12 _ n.toNat = _
    rw [hn, Int.toNat_natCast]
  have el : G 42 [L, Int.tmod i 12 * 256 + 128, Int.tdiv i 12 * 256 + 128, n] = lastF (Lc.dec L) (((i.toNat % 12 : Nat) : Int) * 256 + 128) (((i.toNat / 12 : Nat) : Int) * 256 + 128) (Lc.dec L).length := by
    show lastF (Lc.dec L) _ _ (min 30 n.toNat) = _
    rw [hq, hr, show min 30 n.toNat = (Lc.dec L).length by omega]
  have hb := lastF_bd (Lc.dec L) (((i.toNat % 12 : Nat) : Int) * 256 + 128) (((i.toNat / 12 : Nat) : Int) * 256 + 128) (Lc.dec L).length
  have r0 := rd88A (G 40 [L, n]) (Int.tdiv i 12 * 12 + Int.tmod i 12) 0
  have r1 : G 83 [G 40 [L, n], Int.tdiv i 12 * 12 + Int.tmod i 12, 1] = IntKind.i64.wrap (((Lc.dec (G 40 [L, n])).getD (Int.tdiv i 12 * 12 + Int.tmod i 12).toNat []).getD 1 0) := gl_ok 83 _ (by decide) (by decide)
  rw [el]
  replace r0 : G 88 [G 40 [L, n], Int.tdiv i 12 * 12 + Int.tmod i 12, 0] = ((Lc.dec (G 40 [L, n])).getD (Int.tdiv i 12 * 12 + Int.tmod i 12).toNat []).getD 0 0 := r0
  rw [r0, r1, hk, eb]
  rcases hp.2 i.toNat (by omega) with ⟨h1, h2⟩ | ⟨h1, c0, c1, c2, c3, h2⟩
  · exact .inl ⟨by omega, by rw [h2]; rfl⟩
  · refine .inr ⟨h1, by rw [h2]; exact (by decide : ¬ (1 : Int) = 0), ?_⟩
    rw [h2]
    exact wrap_in .i64 _ (by show -9223372036854775808 ≤ lastF _ _ _ _; omega) (by show lastF _ _ _ _ ≤ 9223372036854775807; omega)
def cl_rho1 (n L : Int) (i : Nat) : Nat → Int := rho ([n] ++ [(i : Int), L, G 40 [L, (i : Int)], G 41 [L, (i : Int)]])
def cl_rho2 (n L : Int) (i : Nat) : Nat → Int := rho ([n] ++ [(i : Int), L])
def cl_rho3 (n L : Int) (i0 k : Nat) : Nat → Int := rho ([n, (i0 : Int)] ++ [(k : Int), G 42 [L, Int.tmod (i0 : Int) 12 * 256 + 128, Int.tdiv (i0 : Int) 12 * 256 + 128, (k : Int)], L])
theorem cl_vars1 (n L : Int) (h0 : 0 ≤ n) (h30 : n ≤ 30) (i : Nat) (hi : (i : Int) ≤ n) : ∀ k q, cl_vt1[k]? = some q → q.1 ≤ cl_rho1 n L i k ∧ cl_rho1 n L i k ≤ q.2 := by
  unfold cl_rho1 cl_vt1
  exact within_app (xs := [n, (i : Int)]) (by exact ⟨⟨h0, h30⟩, by omega, trivial⟩)
theorem cl_vars2 (n L : Int) (h0 : 0 ≤ n) (h30 : n ≤ 30) (i : Nat) (hi : i ≤ 144) : ∀ k q, cl_vt2[k]? = some q → q.1 ≤ cl_rho2 n L i k ∧ cl_rho2 n L i k ≤ q.2 := by
  unfold cl_rho2 cl_vt2
  exact within_app (xs := [n, (i : Int)]) (by exact ⟨⟨h0, h30⟩, by omega, trivial⟩)
theorem cl_vars3 (n L : Int) (h0 : 0 ≤ n) (h30 : n ≤ 30) (i0 : Nat) (h144 : i0 < 144) (k : Nat) (hk : (k : Int) ≤ n) : ∀ j q, cl_vt3[j]? = some q → q.1 ≤ cl_rho3 n L i0 k j ∧ cl_rho3 n L i0 k j ≤ q.2 := by
  unfold cl_rho3 cl_vt3
  exact within_app (xs := [n, (i0 : Int), (k : Int), G 42 [L, Int.tmod (i0 : Int) 12 * 256 + 128, Int.tdiv (i0 : Int) 12 * 256 + 128, (k : Int)]]) (by exact ⟨⟨h0, h30⟩, by omega, by omega, xG42_bd [L, Int.tmod (i0 : Int) 12 * 256 + 128, Int.tdiv (i0 : Int) 12 * 256 + 128, (k : Int)], trivial⟩)
theorem last_zero (L x y : Int) : G 42 [L, x, y, 0] = -1 := by
  show lastF (Lc.dec L) x y (min 30 (0 : Int).toNat) = -1
  rfl
theorem ok_zero {L n : Int} (hn : n = ((Lc.dec L).length : Int)) : G 96 [n, 0] = G 41 [L, 0] := by
  have e : G 96 [n, 0] = Lc.enc (List.replicate n.toNat [0]) := gl_ok 96 _ (by decide) (by decide)
  rw [e, hn, Int.toNat_natCast]
  rfl
set_option maxHeartbeats 2000000 in
set_option maxRecDepth 100000 in
theorem cl_way1 (n L : Int) (hL : Rows fks L) (hn : n = ((Lc.dec L).length : Int)) (h30 : n ≤ 30) (h0n : 0 ≤ n) (i : Nat) (hi : (i : Int) ≤ n) : Sx.Way (cl_round1 Try.prog) G (cl_rho1 n L i) (RoundP G (cl_rho1 n L) (rho [n, L]) 1 (.lit true) (fun i => (i : Int) ≤ n) (fun i => n.toNat - i) i) [] := by
  refine way_cut cl_w1n_b0 (fun h0 => ?_) (fun h0 => ?_)
  rotate_left
  · skip
    refine way_leaf cl_w1n_n4 ?_
    unfold cl_w1n_b0 at h0; simp only [nn, cl_rho1, cl_rho2, cl_rho3, List.cons_append, List.nil_append, Bool.or_eq_true, lenE, ne_eq] at h0; have e : (i : Int) = n := (by omega); clear h0; simp only [RoundP]; refine ⟨rfl, low_app (by simp), ?_⟩; simp only [AgreeSV]; simp only [nn, cl_rho1, cl_rho2, cl_rho3, List.cons_append, List.nil_append, Bool.or_eq_true, lenE, ne_eq]; rw [e]; (repeat' refine And.intro ?_ ?_) <;> first | with_reducible rfl | with_reducible trivial
  refine way_cut cl_w1n_b1 (fun h1 => ?_) (fun h1 => ?_)
  · skip
    refine way_leaf cl_w1n_n2 ?_
    unfold cl_w1n_b0 at h0; unfold cl_w1n_b1 at h1; unfold cl_w1n_L0; have hi' : 0 ≤ (i : Int) ∧ (i : Int).toNat < (Lc.dec L).length := (by have h0' := h0; simp only [nn, cl_rho1, cl_rho2, cl_rho3, List.cons_append, List.nil_append, Bool.or_eq_true, lenE, ne_eq] at h0'; omega); have q := cl_yes hL hi' (by have h1' := h1; simp only [nn, cl_rho1, cl_rho2, cl_rho3, List.cons_append, List.nil_append, Bool.or_eq_true, lenE, ne_eq] at h1'; exact h1'); have hm : n.toNat - (i + 1) < n.toNat - i := (by omega); have hg : ((i + 1 : Nat) : Int) ≤ n := (by omega); clear h0 h1 hi'; simp only [RoundP]; refine ⟨i + 1, hg, hm, low_app (by simp), ?_⟩; simp only [AgreeSV]; clear hm hg; simp only [nn, Int.natCast_add, Int.cast_ofNat_Int, Int.natCast_one, cl_rho1, cl_rho2, cl_rho3, List.cons_append, List.nil_append, Bool.or_eq_true, lenE, ne_eq]; (repeat' refine And.intro ?_ ?_) <;> first | with_reducible exact q.1 | with_reducible exact q.2 | with_reducible rfl | with_reducible trivial
  refine way_leaf cl_w1n_n3 ?_
  unfold cl_w1n_b0 at h0; unfold cl_w1n_b1 at h1; have hi' : 0 ≤ (i : Int) ∧ (i : Int).toNat < (Lc.dec L).length := (by have h0' := h0; simp only [nn, cl_rho1, cl_rho2, cl_rho3, List.cons_append, List.nil_append, Bool.or_eq_true, lenE, ne_eq] at h0'; omega); have q := cl_no hL hi' (fun z => by refine absurd ?_ (Bool.eq_false_iff.1 h1); simp only [nn, cl_rho1, cl_rho2, cl_rho3, List.cons_append, List.nil_append, Bool.or_eq_true, lenE, ne_eq]; exact z); have hm : n.toNat - (i + 1) < n.toNat - i := (by omega); have hg : ((i + 1 : Nat) : Int) ≤ n := (by omega); clear h0 h1 hi'; simp only [RoundP]; refine ⟨i + 1, hg, hm, low_app (by simp), ?_⟩; simp only [AgreeSV]; clear hm hg; simp only [nn, Int.natCast_add, Int.cast_ofNat_Int, Int.natCast_one, cl_rho1, cl_rho2, cl_rho3, List.cons_append, List.nil_append, Bool.or_eq_true, lenE, ne_eq]; (repeat' refine And.intro ?_ ?_) <;> first | with_reducible exact q.1 | with_reducible exact q.2 | with_reducible rfl | with_reducible trivial
end Go.Proofs.Ytoiecphddchknaa
set_option maxRecDepth 100000
namespace Go.Proofs.Ytoiecphddchknaa
open Go Go.RowKit Sx Wi
def cl_w2n_R (P : Program) (fs : List B) : Res SV := cl_round2 P fs
def cl_w2n_f0 : List B := []
def cl_w2n_b0 : B := (.cmp .lt (.var 1) (.lit 144))
def cl_w2n_f1 : List B := grow cl_w2n_b0 ++ cl_w2n_f0
def cl_w2n_b1 : B := (.cmp .eq (.app 88 (.cons (.app 40 (.cons (.var 2) (.cons (.var 0) .nil))) (.cons (.op .add (.op .mul (.op .quo (.var 1) (.lit 12)) (.lit 12)) (.op .rem (.var 1) (.lit 12))) (.cons (.lit 0) .nil)))) (.lit 0))
def cl_w2n_f2 : List B := grow cl_w2n_b1 ++ cl_w2n_f1
def cl_w2n_b2 : B := (.cmp .le (.lit 0) (.app 42 (.cons (.var 2) (.cons (.op .add (.op .mul (.op .rem (.var 1) (.lit 12)) (.lit 256)) (.lit 128)) (.cons (.op .add (.op .mul (.op .quo (.var 1) (.lit 12)) (.lit 256)) (.lit 128)) (.cons (.var 0) .nil))))))
def cl_w2n_f4 : List B := grow (B.neg cl_w2n_b2) ++ cl_w2n_f2
def cl_w2n_L0 : SV := (.agg [(.int .i64 (.op .add (.var 1) (.lit 1))), (.int .i64 (.var 1)), (.int .i64 (.var 2)), (.int .i64 (.var 2)), (.int .i64 (.app 40 (.cons (.var 2) (.cons (.var 0) .nil)))), (.int .i64 (.app 40 (.cons (.var 2) (.cons (.var 0) .nil)))), (.int .i64 (.app 41 (.cons (.var 2) (.cons (.var 0) .nil)))), (.int .i64 (.app 41 (.cons (.var 2) (.cons (.var 0) .nil))))])
def cl_w2n_f5 : List B := grow (B.neg cl_w2n_b1) ++ cl_w2n_f1
def cl_w2n_b3 : B := (.cmp .lt (.app 42 (.cons (.var 2) (.cons (.op .add (.op .mul (.op .rem (.var 1) (.lit 12)) (.lit 256)) (.lit 128)) (.cons (.op .add (.op .mul (.op .quo (.var 1) (.lit 12)) (.lit 256)) (.lit 128)) (.cons (.var 0) .nil))))) (.lit 0))
def cl_w2n_f7 : List B := grow (B.neg cl_w2n_b3) ++ cl_w2n_f5
def cl_w2n_b4 : B := (.cmp .ne (.app 83 (.cons (.app 40 (.cons (.var 2) (.cons (.var 0) .nil))) (.cons (.op .add (.op .mul (.op .quo (.var 1) (.lit 12)) (.lit 12)) (.op .rem (.var 1) (.lit 12))) (.cons (.lit 1) .nil)))) (.app 42 (.cons (.var 2) (.cons (.op .add (.op .mul (.op .rem (.var 1) (.lit 12)) (.lit 256)) (.lit 128)) (.cons (.op .add (.op .mul (.op .quo (.var 1) (.lit 12)) (.lit 256)) (.lit 128)) (.cons (.var 0) .nil))))))
def cl_w2n_f9 : List B := grow (B.neg cl_w2n_b4) ++ cl_w2n_f7
def cl_w2n_f10 : List B := grow (B.neg cl_w2n_b0) ++ cl_w2n_f0
theorem cl_w2n_n4 : cl_w2n_R Try.prog cl_w2n_f4 = .ok cl_w2n_L0 := by kernel_rfl
theorem cl_w2n_n9 : cl_w2n_R Try.prog cl_w2n_f9 = .ok cl_w2n_L0 := by kernel_rfl
theorem cl_w2n_n10 : cl_w2n_R Try.prog cl_w2n_f10 = .ok (.tuple [(.agg [(.int .i64 (.var 2)), (.int .i64 (.var 1))]), (.bool (.lit true))]) := by kernel_rfl
end Go.Proofs.Ytoiecphddchknaa
set_option maxRecDepth 100000
namespace Go.Proofs.Ytoiecphddchknaa
open Go Go.RowKit Sx Wi
def cl_w3n_R (P : Program) (fs : List B) : Res SV := cl_round3 P fs
def cl_w3n_f0 : List B := []
def cl_w3n_b0 : B := (.cmp .lt (.var 2) (.var 0))
def cl_w3n_f1 : List B := grow cl_w3n_b0 ++ cl_w3n_f0
def cl_w3n_b1 : B := (.cmp .ne (.app 88 (.cons (.app 41 (.cons (.var 4) (.cons (.var 0) .nil))) (.cons (.var 2) (.cons (.lit 0) .nil)))) (.lit 0))
def cl_w3n_f2 : List B := grow cl_w3n_b1 ++ cl_w3n_f1
def cl_w3n_b2 : B := (.cmp .ne (.app 63 (.cons (.app 83 (.cons (.var 4) (.cons (.var 2) (.cons (.lit 0) .nil)))) (.cons (.app 83 (.cons (.var 4) (.cons (.var 2) (.cons (.lit 1) .nil)))) (.cons (.app 83 (.cons (.var 4) (.cons (.var 2) (.cons (.lit 2) .nil)))) (.cons (.app 83 (.cons (.var 4) (.cons (.var 2) (.cons (.lit 3) .nil)))) (.cons (.app 83 (.cons (.var 4) (.cons (.var 2) (.cons (.lit 4) .nil)))) (.cons (.app 83 (.cons (.var 4) (.cons (.var 2) (.cons (.lit 5) .nil)))) (.cons (.op .add (.op .mul (.op .rem (.var 1) (.lit 12)) (.lit 256)) (.lit 128)) (.cons (.op .add (.op .mul (.op .quo (.var 1) (.lit 12)) (.lit 256)) (.lit 128)) .nil))))))))) (.lit 0))
def cl_w3n_f3 : List B := grow cl_w3n_b2 ++ cl_w3n_f2
def cl_w3n_L0 : SV := (.agg [(.int .i64 (.var 2)), (.int .i64 (.var 3)), (.int .i64 (.op .add (.var 2) (.lit 1))), (.int .i64 (.var 2)), (.int .i64 (.var 4)), (.int .i64 (.var 4)), (.int .i64 (.app 40 (.cons (.var 4) (.cons (.var 0) .nil)))), (.int .i64 (.app 40 (.cons (.var 4) (.cons (.var 0) .nil)))), (.int .i64 (.app 41 (.cons (.var 4) (.cons (.var 0) .nil)))), (.int .i64 (.app 41 (.cons (.var 4) (.cons (.var 0) .nil))))])
def cl_w3n_f4 : List B := grow (B.neg cl_w3n_b2) ++ cl_w3n_f2
def cl_w3n_L1 : SV := (.agg [(.int .i64 (.var 3)), (.int .i64 (.var 3)), (.int .i64 (.op .add (.var 2) (.lit 1))), (.int .i64 (.var 2)), (.int .i64 (.var 4)), (.int .i64 (.var 4)), (.int .i64 (.app 40 (.cons (.var 4) (.cons (.var 0) .nil)))), (.int .i64 (.app 40 (.cons (.var 4) (.cons (.var 0) .nil)))), (.int .i64 (.app 41 (.cons (.var 4) (.cons (.var 0) .nil)))), (.int .i64 (.app 41 (.cons (.var 4) (.cons (.var 0) .nil))))])
def cl_w3n_f5 : List B := grow (B.neg cl_w3n_b1) ++ cl_w3n_f1
def cl_w3n_f6 : List B := grow (B.neg cl_w3n_b0) ++ cl_w3n_f0
def cl_w3n_L2 : SV := (.tuple [(.agg [(.int .i64 (.var 3)), (.int .i64 (.app 42 (.cons (.var 2) (.cons (.op .add (.op .mul (.op .rem (.var 1) (.lit 12)) (.lit 256)) (.lit 128)) (.cons (.op .add (.op .mul (.op .quo (.var 1) (.lit 12)) (.lit 256)) (.lit 128)) (.cons (.var 0) .nil)))))), (.int .i64 (.var 4)), (.int .i64 (.var 2)), (.int .i64 (.app 40 (.cons (.var 4) (.cons (.var 0) .nil)))), (.int .i64 (.app 40 (.cons (.var 2) (.cons (.var 0) .nil)))), (.int .i64 (.app 41 (.cons (.var 4) (.cons (.var 0) .nil)))), (.int .i64 (.app 41 (.cons (.var 2) (.cons (.var 0) .nil))))]), (.bool (.lit true))])
theorem cl_w3n_n3 : cl_w3n_R Try.prog cl_w3n_f3 = .ok cl_w3n_L0 := by kernel_rfl
theorem cl_w3n_n4 : cl_w3n_R Try.prog cl_w3n_f4 = .ok cl_w3n_L1 := by kernel_rfl
theorem cl_w3n_n5 : cl_w3n_R Try.prog cl_w3n_f5 = .ok cl_w3n_L1 := by kernel_rfl
theorem cl_w3n_n6 : cl_w3n_R Try.prog cl_w3n_f6 = .ok cl_w3n_L2 := by kernel_rfl
end Go.Proofs.Ytoiecphddchknaa
namespace Go.Proofs.Ytoiecphddchknaa
open Go Go.RowKit Sx Wi
set_option maxHeartbeats 2000000 in
set_option maxRecDepth 100000 in
theorem cl_way3 (n L : Int) (hL : Rows fks L) (hn : n = ((Lc.dec L).length : Int)) (h30 : n ≤ 30) (h0n : 0 ≤ n) (i0 : Nat) (h144 : i0 < 144) (k : Nat) (hk : (k : Int) ≤ n) : Sx.Way (cl_round3 Try.prog) G (cl_rho3 n L i0 k) (RoundP G (cl_rho3 n L i0) (rho ([n, (i0 : Int)] ++ [L])) 2 (.lit true) (fun k => (k : Int) ≤ n) (fun k => n.toNat - k) k) [] := by
  refine way_cut cl_w3n_b0 (fun h0 => ?_) (fun h0 => ?_)
  rotate_left
  · skip
    refine way_leaf cl_w3n_n6 ?_
    unfold cl_w3n_b0 at h0; unfold cl_w3n_L2; simp only [nn, cl_rho1, cl_rho2, cl_rho3, List.cons_append, List.nil_append, Bool.or_eq_true, lenE, ne_eq] at h0; have e : (k : Int) = n := (by omega); clear h0; simp only [RoundP]; refine ⟨rfl, low_app (by simp), ?_⟩; simp only [AgreeSV]; simp only [nn, cl_rho1, cl_rho2, cl_rho3, List.cons_append, List.nil_append, Bool.or_eq_true, lenE, ne_eq]; rw [e]; (repeat' refine And.intro ?_ ?_) <;> first | with_reducible rfl | with_reducible trivial
  refine way_cut cl_w3n_b1 (fun h1 => ?_) (fun h1 => ?_)
  rotate_left
  · skip
    refine way_leaf cl_w3n_n5 ?_
    unfold cl_w3n_b0 at h0; unfold cl_w3n_b1 at h1; unfold cl_w3n_L1; simp only [nn, cl_rho1, cl_rho2, cl_rho3, List.cons_append, List.nil_append, Bool.or_eq_true, lenE, ne_eq] at h0 h1; have hk' : 0 ≤ (k : Int) ∧ (k : Int) < n := ⟨by omega, h0⟩; have q := last_no1 (x := Int.tmod (i0 : Int) 12 * 256 + 128) (y := Int.tdiv (i0 : Int) 12 * 256 + 128) hL hn hk' h30 (by first | exact h1 | exact Classical.not_not.1 h1); have hm : n.toNat - (k + 1) < n.toNat - k := (by omega); have hg : ((k + 1 : Nat) : Int) ≤ n := (by omega); clear h0 h1 hk'; simp only [RoundP]; refine ⟨k + 1, hg, hm, low_app (by simp), ?_⟩; simp only [AgreeSV]; clear hm hg; simp only [nn, Int.natCast_add, Int.cast_ofNat_Int, Int.natCast_one, cl_rho1, cl_rho2, cl_rho3, List.cons_append, List.nil_append, Bool.or_eq_true, lenE, ne_eq]; (repeat' refine And.intro ?_ ?_) <;> first | with_reducible exact q | with_reducible rfl | with_reducible trivial
  refine way_cut cl_w3n_b2 (fun h2 => ?_) (fun h2 => ?_)
  · skip
    refine way_leaf cl_w3n_n3 ?_
    unfold cl_w3n_b0 at h0; unfold cl_w3n_b1 at h1; unfold cl_w3n_b2 at h2; unfold cl_w3n_L0; simp only [nn, cl_rho1, cl_rho2, cl_rho3, List.cons_append, List.nil_append, Bool.or_eq_true, lenE, ne_eq] at h0 h1 h2; have hk' : 0 ≤ (k : Int) ∧ (k : Int) < n := ⟨by omega, h0⟩; have q := last_yes (x := Int.tmod (i0 : Int) 12 * 256 + 128) (y := Int.tdiv (i0 : Int) 12 * 256 + 128) hL hn hk' h30 h1 h2; have hm : n.toNat - (k + 1) < n.toNat - k := (by omega); have hg : ((k + 1 : Nat) : Int) ≤ n := (by omega); clear h0 h1 h2 hk'; simp only [RoundP]; refine ⟨k + 1, hg, hm, low_app (by simp), ?_⟩; simp only [AgreeSV]; clear hm hg; simp only [nn, Int.natCast_add, Int.cast_ofNat_Int, Int.natCast_one, cl_rho1, cl_rho2, cl_rho3, List.cons_append, List.nil_append, Bool.or_eq_true, lenE, ne_eq]; (repeat' refine And.intro ?_ ?_) <;> first | with_reducible exact q | with_reducible rfl | with_reducible trivial
  refine way_leaf cl_w3n_n4 ?_
  unfold cl_w3n_b0 at h0; unfold cl_w3n_b1 at h1; unfold cl_w3n_b2 at h2; unfold cl_w3n_L1; simp only [nn, cl_rho1, cl_rho2, cl_rho3, List.cons_append, List.nil_append, Bool.or_eq_true, lenE, ne_eq] at h0 h1 h2; have hk' : 0 ≤ (k : Int) ∧ (k : Int) < n := ⟨by omega, h0⟩; have q := last_no2 (x := Int.tmod (i0 : Int) 12 * 256 + 128) (y := Int.tdiv (i0 : Int) 12 * 256 + 128) hL hn hk' h30 (by first | exact h2 | exact Classical.not_not.1 h2); have hm : n.toNat - (k + 1) < n.toNat - k := (by omega); have hg : ((k + 1 : Nat) : Int) ≤ n := (by omega); clear h0 h1 h2 hk'; simp only [RoundP]; refine ⟨k + 1, hg, hm, low_app (by simp), ?_⟩; simp only [AgreeSV]; clear hm hg; simp only [nn, Int.natCast_add, Int.cast_ofNat_Int, Int.natCast_one, cl_rho1, cl_rho2, cl_rho3, List.cons_append, List.nil_append, Bool.or_eq_true, lenE, ne_eq]; (repeat' refine And.intro ?_ ?_) <;> first | with_reducible exact q | with_reducible rfl | with_reducible trivial
theorem cl_uok3 (n L : Int) (hL : Rows fks L) (hn : n = ((Lc.dec L).length : Int)) (h30 : n ≤ 30) (h0n : 0 ≤ n) (i : Nat) : LoopUOK Try.prog G (glOf GB) (loopNo (bodyOf Try.prog 3) 2) cl_u3 (cl_rho2 n L i) := by
  intro hw _
  have e : envOf G (cl_rho2 n L i) cl_u3.es = cl_rho3 n L i 0 := by
    rw [envOf_rho]
    unfold cl_rho3
    congr 1 <;> (unfold cl_u3; simp only [List.map_cons, List.map_nil]; simp only [nn, cl_rho1, cl_rho2, cl_rho3, List.cons_append, List.nil_append, Bool.or_eq_true, lenE, ne_eq]; try rw [Int.natCast_zero, last_zero])
  have hb : (i : Int) ≤ 143 := by
    have hw' : within cl_vt3 [n, (i : Int), 0, -1] := hw
    unfold cl_vt3 at hw'
    exact hw'.2.1.2
  rw [e]
  exact ⟨n.toNat + 1, loop_rounds (ι := Nat) (ρ := cl_rho3 n L i) (ρT := cl_rho2 n L i) (m := fun k => n.toNat - k) (Good := fun k => (k : Int) ≤ n) (run := cl_round3 Try.prog) (fun _ => rfl) fits rfl gi_ok (fun k hk => cl_vars3 n L h0n h30 i (by omega) k hk) (fun _ _ X hX hG => ct_law_ok hX hG) (fun _ _ X hX hG => lpOk_lpNil) (fun k hk => cl_way3 n L hL hn h30 h0n i (by omega) k hk) (by decide) (n.toNat + 1) 0 h0n (by show n.toNat - 0 < n.toNat + 1; omega)⟩
set_option maxHeartbeats 2000000 in
set_option maxRecDepth 100000 in
theorem cl_way2 (n L : Int) (hL : Rows fks L) (hn : n = ((Lc.dec L).length : Int)) (h30 : n ≤ 30) (h0n : 0 ≤ n) (i : Nat) (hi : i ≤ 144) : Sx.Way (cl_round2 Try.prog) G (cl_rho2 n L i) (RoundP G (cl_rho2 n L) (rho [n, L]) 1 (.lit true) (fun i => i ≤ 144) (fun i => 144 - i) i) [] := by
  refine way_cut cl_w2n_b0 (fun h0 => ?_) (fun h0 => ?_)
  rotate_left
  · skip
    refine way_leaf cl_w2n_n10 ?_
    unfold cl_w2n_b0 at h0; clear h0; simp only [RoundP]; refine ⟨rfl, low_app (by simp), ?_⟩; simp only [AgreeSV]; simp only [nn, cl_rho1, cl_rho2, cl_rho3, List.cons_append, List.nil_append, Bool.or_eq_true, lenE, ne_eq]; try ((repeat' refine And.intro ?_ ?_) <;> first | with_reducible rfl | with_reducible trivial)
  refine way_cut cl_w2n_b1 (fun h1 => ?_) (fun h1 => ?_)
  · skip
    refine way_cut cl_w2n_b2 (fun h2 => ?_) (fun h2 => ?_)
    · skip
      refine way_bad ?_
      unfold cl_w2n_b0 at h0; unfold cl_w2n_b1 at h1; unfold cl_w2n_b2 at h2; simp only [nn, cl_rho1, cl_rho2, cl_rho3, List.cons_append, List.nil_append, Bool.or_eq_true, lenE, ne_eq] at h0 h1 h2; have q := cl_pix (i := (i : Int)) hL hn ⟨by omega, h0⟩ h30; clear hL hn; rcases q with ⟨q1, q2⟩ | ⟨q1, q2, q3⟩ <;> first | with_reducible exact absurd q2 h1 | with_reducible exact absurd q3 h2 | omega
    refine way_leaf cl_w2n_n4 ?_
    unfold cl_w2n_b0 at h0; unfold cl_w2n_b1 at h1; unfold cl_w2n_b2 at h2; unfold cl_w2n_L0; simp only [nn, cl_rho1, cl_rho2, cl_rho3, List.cons_append, List.nil_append, Bool.or_eq_true, lenE, ne_eq] at h0; have hm : 144 - (i + 1) < 144 - i := (by omega); have hg : i + 1 ≤ 144 := (by omega); clear h0 h1 h2; simp only [RoundP]; refine ⟨i + 1, hg, hm, low_app (by simp), ?_⟩; simp only [AgreeSV]; clear hm hg; simp only [nn, Int.natCast_add, Int.cast_ofNat_Int, Int.natCast_one, cl_rho1, cl_rho2, cl_rho3, List.cons_append, List.nil_append, Bool.or_eq_true, lenE, ne_eq]; try ((repeat' refine And.intro ?_ ?_) <;> first | with_reducible rfl | with_reducible trivial)
  refine way_cut cl_w2n_b3 (fun h2 => ?_) (fun h2 => ?_)
  · skip
    refine way_bad ?_
    unfold cl_w2n_b0 at h0; unfold cl_w2n_b1 at h1; unfold cl_w2n_b3 at h2; simp only [nn, cl_rho1, cl_rho2, cl_rho3, List.cons_append, List.nil_append, Bool.or_eq_true, lenE, ne_eq] at h0 h1 h2; have q := cl_pix (i := (i : Int)) hL hn ⟨by omega, h0⟩ h30; clear hL hn; rcases q with ⟨q1, q2⟩ | ⟨q1, q2, q3⟩ <;> first | with_reducible exact absurd q2 h1 | with_reducible exact absurd q3 h2 | omega
  refine way_cut cl_w2n_b4 (fun h3 => ?_) (fun h3 => ?_)
  · skip
    refine way_bad ?_
    unfold cl_w2n_b0 at h0; unfold cl_w2n_b1 at h1; unfold cl_w2n_b3 at h2; unfold cl_w2n_b4 at h3; simp only [nn, cl_rho1, cl_rho2, cl_rho3, List.cons_append, List.nil_append, Bool.or_eq_true, lenE, ne_eq] at h0 h1 h2 h3; have q := cl_pix (i := (i : Int)) hL hn ⟨by omega, h0⟩ h30; clear hL hn; rcases q with ⟨q1, q2⟩ | ⟨q1, q2, q3⟩ <;> first | with_reducible exact absurd q2 h1 | with_reducible exact absurd q3 h3 | omega
  refine way_leaf cl_w2n_n9 ?_
  unfold cl_w2n_b0 at h0; unfold cl_w2n_b1 at h1; unfold cl_w2n_b3 at h2; unfold cl_w2n_b4 at h3; unfold cl_w2n_L0; simp only [nn, cl_rho1, cl_rho2, cl_rho3, List.cons_append, List.nil_append, Bool.or_eq_true, lenE, ne_eq] at h0; have hm : 144 - (i + 1) < 144 - i := (by omega); have hg : i + 1 ≤ 144 := (by omega); clear h0 h1 h2 h3; simp only [RoundP]; refine ⟨i + 1, hg, hm, low_app (by simp), ?_⟩; simp only [AgreeSV]; clear hm hg; simp only [nn, Int.natCast_add, Int.cast_ofNat_Int, Int.natCast_one, cl_rho1, cl_rho2, cl_rho3, List.cons_append, List.nil_append, Bool.or_eq_true, lenE, ne_eq]; try ((repeat' refine And.intro ?_ ?_) <;> first | with_reducible rfl | with_reducible trivial)
theorem cl_loops : codeLoops (bodyOf Try.prog 3) = [loopNo (bodyOf Try.prog 3) 0, loopNo (bodyOf Try.prog 3) 1, loopNo (bodyOf Try.prog 3) 2] := by kernel_rfl
theorem cl_loops1 : codeLoops (loopNo (bodyOf Try.prog 3) 1) = [loopNo (bodyOf Try.prog 3) 2] := by kernel_rfl
set_option maxRecDepth 100000 in
theorem cl_uok1 (n L : Int) (hL : Rows fks L) (hn : n = ((Lc.dec L).length : Int)) : LoopUOK Try.prog G (glOf GB) (loopNo (bodyOf Try.prog 3) 0) cl_u1 (rho [n, L]) := by
  intro hw _
  have hb : within cl_vt1 [n, 0] := hw
  unfold cl_vt1 at hb
  obtain ⟨⟨h0n, h30⟩, _⟩ := hb
  have e : envOf G (rho [n, L]) cl_u1.es = cl_rho1 n L 0 := by
    rw [envOf_rho]
    unfold cl_rho1
    congr 1
    unfold cl_u1
    simp only [List.map_cons, List.map_nil]
    simp only [nn, List.cons_append, List.nil_append, Bool.or_eq_true, lenE, ne_eq]
    have e1 : ∀ ρ : Nat → Int, E.den G ρ (repE (.lit 144) [.bool, .int .i64, .int .i32, .int .i32, .int .i32, .int .i32, .int .i32, .int .i32]) = G 40 [L, 0] := fun ρ => rfl
    have e2 : E.den G (rho [n, L]) (repE (.var 0) [.bool]) = G 41 [L, 0] := by rw [← ok_zero hn]; rfl
    first | (rw [Int.natCast_zero, ← e1 (rho [n, L]), ← e2]; rfl) | (rw [Int.natCast_zero]; simp only [← ok_zero hn]; rfl)
  rw [e]
  exact ⟨n.toNat + 1, loop_rounds (ι := Nat) (ρ := cl_rho1 n L) (ρT := rho [n, L]) (m := fun i => n.toNat - i) (Good := fun i => (i : Int) ≤ n) (run := cl_round1 Try.prog) (fun _ => rfl) fits rfl gi_ok (fun i hi => cl_vars1 n L h0n h30 i hi) (fun _ _ X hX hG => ct_law_ok hX hG) (fun _ _ X hX hG => lpOk_lpNil) (fun i hi => cl_way1 n L hL hn h30 h0n i hi) (by decide) (n.toNat + 1) 0 h0n (by show n.toNat - 0 < n.toNat + 1; omega)⟩
set_option maxRecDepth 100000 in
theorem cl_uok2 (n L : Int) (hL : Rows fks L) (hn : n = ((Lc.dec L).length : Int)) : LoopUOK Try.prog G (glOf GB) (loopNo (bodyOf Try.prog 3) 1) cl_u2 (rho [n, L]) := by
  intro hw _
  have hb : within cl_vt2 [n, 0] := hw
  unfold cl_vt2 at hb
  obtain ⟨⟨h0n, h30⟩, _⟩ := hb
  have e : envOf G (rho [n, L]) cl_u2.es = cl_rho2 n L 0 := by
    rw [envOf_rho]
    rfl
  rw [e]
  refine ⟨145, loop_rounds (ι := Nat) (ρ := cl_rho2 n L) (ρT := rho [n, L]) (m := fun i => 144 - i) (Good := fun i => i ≤ 144) (run := cl_round2 Try.prog) (fun _ => rfl) fits rfl gi_ok (fun i hi => cl_vars2 n L h0n h30 i hi) (fun _ _ X hX hG => ct_law_ok hX hG) (fun i hi X hX hG => ?_) (fun i hi => cl_way2 n L hL hn h30 h0n i hi) (by decide) 145 0 (Nat.zero_le _) (by decide)⟩
  refine lpOk_cons (bs := [loopNo (bodyOf Try.prog 3) 2]) cl_loops1 ?_
  intro b hb
  simp only [List.mem_cons, List.mem_nil_iff, or_false] at hb
  subst hb
  refine lpAt_any hX hG (by kernel_rfl) ?_
  intro p hp'
  simp only [List.mem_cons, List.mem_nil_iff, or_false] at hp'
  subst hp'
  exact cl_uok3 n L hL hn h30 h0n i
set_option maxHeartbeats 1000000 in
set_option maxRecDepth 100000 in
theorem cl_mem (n L : Int) (b0 : 0 ≤ n ∧ n ≤ 9223372036854775807) (hL : Rows fks L) (hn : n = ((Lc.dec L).length : Int)) : MemFun Try.prog G GB 3 cl_F (rho [n, L]) := by
  refine memFun_way (lp := cl_lp) (run := cl_run Try.prog) (fun _ => rfl) fits (within_app (xs := [n]) (ls := [L]) (by exact ⟨b0, trivial⟩)) gi_ok (fun X hX hG => ct_law_ok hX hG) (fun X hX hG fn c hf hc => ?_) rfl ?_
  · refine lpOk_cons ((congrArg codeLoops (bodyOf_eq hf hc)).symm.trans cl_loops) ?_
    intro b hb
    simp only [List.mem_cons, List.mem_nil_iff, or_false] at hb
    rcases hb with rfl | rfl | rfl
    · refine lpAt_any hX hG (by kernel_rfl) ?_
      intro p hp'
      simp only [List.mem_cons, List.mem_nil_iff, or_false] at hp'
      subst hp'
      exact cl_uok1 n L hL hn
    · refine lpAt_skip (j := 10) (by kernel_rfl) (by decide) (lpAt_any hX hG (by kernel_rfl) ?_)
      intro p hp'
      simp only [List.mem_cons, List.mem_nil_iff, or_false] at hp'
      subst hp'
      exact cl_uok2 n L hL hn
    · exact lpAt_skip (j := 15) (by kernel_rfl) (by decide) (lpAt_skip (j := 15) (by kernel_rfl) (by decide) lpAt_nil)
  · skip
    refine way_cut cl_fn_b0 (fun h0 => ?_) (fun h0 => ?_)
    · skip
      refine way_leaf cl_fn_n1 ?_
      unfold cl_fn_b0 at h0; exact ⟨rfl, trivial⟩
    refine way_leaf cl_fn_n2 ?_
    unfold cl_fn_b0 at h0; exact ⟨rfl, trivial⟩
end Go.Proofs.Ytoiecphddchknaa
