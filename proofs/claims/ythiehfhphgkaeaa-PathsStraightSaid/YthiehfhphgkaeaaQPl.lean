/- What is proved: a curve's dots, read one by one, there and back, in plain Lean. No condition but those that are stated. -/
import Derived.Test.YthiehfhphgkaeaaQg6
import Derived.Test.YthiehfhphgkaeaaQg4
set_option linter.unusedSimpArgs false
set_option linter.unusedVariables false
namespace Go.Proofs.Ythiehfhphgkaeaa
open Go Go.RowKit Sx Wi
theorem bendP_le (a b c d e f g h : Int) : bendP g h e f c d a b ≤ bendP a b c d e f g h := by
  unfold bendP
  have e1 : g - 2 * e + c = c - 2 * e + g := by omega
  have e2 : h - 2 * f + d = d - 2 * f + h := by omega
  have e3 : e - 2 * c + a = a - 2 * c + e := by omega
  have e4 : f - 2 * d + b = b - 2 * d + f := by omega
  rw [e1, e2, e3, e4]
  generalize a - 2 * c + e = P; generalize b - 2 * d + f = Q; generalize c - 2 * e + g = R; generalize d - 2 * f + h = S
  refine Int.max_le.2 ⟨Int.max_le.2 ⟨Int.max_le.2 ⟨Int.max_le.2 ⟨Int.max_le.2 ⟨Int.max_le.2 ⟨Int.max_le.2 ⟨Int.max_le.2 ⟨?_, ?_⟩, ?_⟩, ?_⟩, ?_⟩, ?_⟩, ?_⟩, ?_⟩, ?_⟩ <;> omega
theorem bendP_back (a b c d e f g h : Int) : bendP g h e f c d a b = bendP a b c d e f g h :=
  Int.le_antisymm (bendP_le _ _ _ _ _ _ _ _) (bendP_le _ _ _ _ _ _ _ _)
theorem lvl_back (a b c d e f g h : Int) : xG43 [g, h, e, f, c, d, a, b] = xG43 [a, b, c, d, e, f, g, h] := by
  show levelP (3 * bendP g h e f c d a b) = levelP (3 * bendP a b c d e f g h)
  rw [bendP_back]
theorem pall_back (a b c d e f g h : Int) : pall [g, h, e, f, c, d, a, b] = pall [a, b, c, d, e, f, g, h] := by
  unfold pall; rw [lvl_back]
theorem pnum_back {a b c d i i' m : Int} (h : i' = m - i) : pnum d c b a i' m = pnum a b c d i m := by
  subst h
  unfold pnum
  congr 1
  grind
theorem near_eq (a m : Int) (hm : 0 < m) (n : Int) (hn : n = m * m * m * a) : Fx.near n (m * (m * m) * 256) = Fx.near a 256 := by
  have e := Fx.near_mul a 256 (m * m * m) (Int.mul_pos (Int.mul_pos hm hm) hm)
  rw [← e, hn]
  congr 1 <;> grind
theorem pnum_0 (a b c d m : Int) (hm : 0 < m) : pnum a b c d 0 m = Fx.near a 256 := near_eq a m hm _ (by grind)
theorem pnum_1 (a b c d m : Int) (hm : 0 < m) : pnum a b c d m m = Fx.near d 256 := near_eq d m hm _ (by grind)
theorem pnum_sum (a b c d i m : Int) : pnum a b c d i m = Fx.near (Bz.sum a b c d i m) (256 * (m * m * m)) := by
  unfold pnum Bz.sum Bz.w0 Bz.w1 Bz.w2 Bz.w3
  congr 1 <;> grind
theorem pnum_edge (a b c d i m : Int) : pnum a b c d i m = Bz.edge a b c d i m := by rw [pnum_sum]; rfl
theorem pdots_get (xs : List Int) (m : Int) (hm : 0 < m) : ∀ n a : Nat, a ≤ n → (pdots xs m n).getD a [] = prow xs m a
  | 0, a, h => by
    have : a = 0 := by omega
    subst this
    show [Fx.near (xs.getD 0 0) (1 * 256), Fx.near (xs.getD 1 0) (1 * 256)] = prow xs m ((0 : Nat) : Int)
    unfold prow
    rw [Int.natCast_zero, pnum_0 _ _ _ _ _ hm, pnum_0 _ _ _ _ _ hm]
    rfl
  | n + 1, a, h => by
    have hl := pdots_length xs m n
    show (pdots xs m n ++ [prow xs m ((n : Int) + 1)]).getD a [] = _
    rw [List.getD_eq_getElem?_getD]
    by_cases ha : a ≤ n
    · rw [List.getElem?_append_left (by omega), ← List.getD_eq_getElem?_getD]
      exact pdots_get xs m hm n a ha
    · have : a = n + 1 := by omega
      subst this
      rw [List.getElem?_append_right (by omega), hl]
      simp
theorem pat_eq (k : IntKind) {xs : List Int} {i j : Int} (h0 : 0 ≤ i) (h1 : i ≤ pall xs) : G (80 + Lc.kNo k) [G 44 xs, i, j] = k.wrap ((prow xs (pall xs) i).getD j.toNat 0) := by
  have hp := pall_bd xs
  have e1 : G 44 xs = Lc.enc (pdots xs (pall xs) (pall xs).toNat) := rfl
  rw [e1, gl_ok _ _ (by omega) (by have : Lc.kNo k < 8 := by cases k <;> decide
                                   omega), Lc.fn_rd]
  unfold Lc.rd Lc.row
  rw [Lc.dec_enc, pdots_get _ _ (by omega) _ _ (by omega), Int.toNat_of_nonneg h0]
theorem pat_back (a b c d e f g h i i' j : Int) (h0 : 0 ≤ i) (h1 : i ≤ pall [a, b, c, d, e, f, g, h]) (hi : i' = pall [a, b, c, d, e, f, g, h] - i) (hj : j = 0 ∨ j = 1) :
    G 83 [G 44 [a, b, c, d, e, f, g, h], i, j] = G 83 [G 44 [g, h, e, f, c, d, a, b], i', j] := by
  have hb := pall_back a b c d e f g h
  have q1 := pat_eq .i64 (xs := [a, b, c, d, e, f, g, h]) (i := i) (j := j) h0 h1
  have q2 := pat_eq .i64 (xs := [g, h, e, f, c, d, a, b]) (i := i') (j := j) (by omega) (by omega)
  refine q1.trans (Eq.trans ?_ q2.symm)
  rw [hb]
  have r : prow [g, h, e, f, c, d, a, b] (pall [a, b, c, d, e, f, g, h]) i' = prow [a, b, c, d, e, f, g, h] (pall [a, b, c, d, e, f, g, h]) i := by
    show [pnum g e c a i' _, pnum h f d b i' _] = [pnum a c e g i _, pnum b d f h i _]
    rw [pnum_back hi, pnum_back hi]
  rw [r]
theorem pall_cases (xs : List Int) : pall xs = 1 ∨ pall xs = 2 ∨ pall xs = 4 ∨ pall xs = 8 ∨ pall xs = 16 ∨ pall xs = 32 ∨ pall xs = 64 := by
  have h := xG43_bd xs
  unfold pall
  have : xG43 xs = 0 ∨ xG43 xs = 1 ∨ xG43 xs = 2 ∨ xG43 xs = 3 ∨ xG43 xs = 4 ∨ xG43 xs = 5 ∨ xG43 xs = 6 := by omega
  rcases this with e | e | e | e | e | e | e <;> rw [e] <;> decide
theorem pall_eq (a b c d e f g h : Int) : 1 * 2 ^ (G 43 [a, b, c, d, e, f, g, h]).toNat = pall [a, b, c, d, e, f, g, h] := rfl
theorem rd_enc (k : IntKind) (L : List (List Int)) (i j : Int) : G (80 + Lc.kNo k) [Lc.enc L, i, j] = k.wrap ((L.getD i.toNat []).getD j.toNat 0) := by
  rw [gl_ok _ _ (by omega) (by have : Lc.kNo k < 8 := by cases k <;> decide
                               omega), Lc.fn_rd]
  unfold Lc.rd Lc.row
  rw [Lc.dec_enc]
theorem enc_1 (a b : Int) : G 91 [0, a, b] = Lc.enc [[a, b]] := snoc_enc gl_ok [] [a, b]
theorem enc_2 (a b c d : Int) : G 91 [G 91 [0, a, b], c, d] = Lc.enc [[a, b], [c, d]] := by
  rw [enc_1]; exact snoc_enc gl_ok [[a, b]] [c, d]
theorem enc_3 (a b c d e f : Int) : G 91 [G 91 [G 91 [0, a, b], c, d], e, f] = Lc.enc [[a, b], [c, d], [e, f]] := by
  rw [enc_2]; exact snoc_enc gl_ok [[a, b], [c, d]] [e, f]
theorem lives_a (i j v : Int) (h : IntKind.i64.wrap (([[G 2 [0, 256], G 2 [0, 256]], [G 2 [65536, 256], G 2 [0, 256]], [G 2 [65536, 256], G 2 [65536, 256]]].getD i.toNat []).getD j.toNat 0) = v) :
    G 83 [G 91 [G 91 [G 91 [0, G 2 [0, 256], G 2 [0, 256]], G 2 [65536, 256], G 2 [0, 256]], G 2 [65536, 256], G 2 [65536, 256]], i, j] = v := by
  rw [enc_3]; exact (rd_enc .i64 _ i j).trans h
theorem lives_b (i j v : Int) (h0 : 0 ≤ i) (h1 : i ≤ pall [0, 0, 0, 65536, 65536, 65536, 65536, 0]) (h : IntKind.i64.wrap ((prow [0, 0, 0, 65536, 65536, 65536, 65536, 0] (pall [0, 0, 0, 65536, 65536, 65536, 65536, 0]) i).getD j.toNat 0) = v) :
    G 83 [G 44 [0, 0, 0, 65536, 65536, 65536, 65536, 0], i, j] = v := (pat_eq .i64 h0 h1).trans h
end Go.Proofs.Ythiehfhphgkaeaa
