/- What is proved: the border lines of two patches along one another, in plain Lean. No condition but those that are stated. -/
import Derived.Test.YtkpdiehbaiepaaaQRp
import Derived.Test.YtkpdiehbaiepaaaQg6
set_option linter.unusedSimpArgs false
set_option linter.unusedVariables false
namespace Go.Proofs.Ytkpdiehbaiepaaa
open Go Go.RowKit Sx Wi
theorem lpart_get (xs : List Int) (e : Int) (s n a : Nat) (h : a < n) : (lpart xs e s n).getD a [] = lrow xs e s a := by
  unfold lpart
  rw [List.getD_eq_getElem?_getD, List.getElem?_map, List.getElem?_range h]
  rfl
theorem line_get (xs : List Int) (e : Int) : ∀ k s a : Nat, s < k → a < (p2 e).toNat → (lineL xs e k).getD (s * (p2 e).toNat + a) [] = lrow xs e s a
  | 0, s, a, h, _ => by omega
  | k + 1, s, a, h, ha => by
    have hl := lineL_length xs e k
    show (lineL xs e k ++ lpart xs e k (p2 e).toNat).getD _ [] = _
    rw [List.getD_eq_getElem?_getD]
    by_cases hs : s < k
    · have h1 : (s + 1) * (p2 e).toNat ≤ k * (p2 e).toNat := Nat.mul_le_mul_right _ hs
      rw [Nat.succ_mul] at h1
      rw [List.getElem?_append_left (by omega), ← List.getD_eq_getElem?_getD]
      exact line_get xs e k s a hs ha
    · have : s = k := by omega
      subst this
      rw [List.getElem?_append_right (by omega), hl, Nat.add_sub_cancel_left, ← List.getD_eq_getElem?_getD]
      exact lpart_get xs e s _ a ha
theorem lat_eq {xs : List Int} {e i a j : Int} (hx : xs.length = 32) (s : Nat) (hs : s < 4) (ha : 0 ≤ a) (ha' : a < p2 e) (hi : i = s * p2 e + a) :
    G 83 [G 40 (xs ++ [e, 4]), i, j] = IntKind.i64.wrap ((lrow xs e s a).getD j.toNat 0) := by
  have e1 : G 40 (xs ++ [e, 4]) = Lc.enc (lineL xs e 4) := by
    show xG40 (xs ++ [e, 4]) = _
    unfold xG40
    have t : (xs ++ [e, 4]).take 32 = xs := by rw [← hx, List.take_left]
    have g1 : (xs ++ [e, 4]).getD 32 0 = e := by rw [List.getD_eq_getElem?_getD, List.getElem?_append_right (by omega), hx]; rfl
    have g2 : (xs ++ [e, 4]).getD 33 0 = 4 := by rw [List.getD_eq_getElem?_getD, List.getElem?_append_right (by omega), hx]; rfl
    rw [t, g1, g2]
    rfl
  rw [e1, gl_ok 83 _ (by decide) (by decide)]
  show IntKind.i64.wrap (Lc.rd (Lc.enc (lineL xs e 4)) i j) = _
  unfold Lc.rd Lc.row
  rw [Lc.dec_enc]
  have hm : (s : Int) * p2 e = ((s * (p2 e).toNat : Nat) : Int) := by rw [Int.natCast_mul, Int.toNat_of_nonneg (by omega)]
  have h2 : i.toNat = s * (p2 e).toNat + a.toNat := by omega
  have := line_get xs e 4 s a.toNat hs (by omega)
  rw [h2, this, Int.toNat_of_nonneg ha]
theorem eX_back {a b c d i i' k : Int} (h : i' = p2 k - i) : eX d c b a i' k = eX a b c d i k := by
  subst h
  unfold eX
  by_cases g : eOk a b c d i k
  · obtain ⟨h1, h2, ha, hb, hc, hd⟩ := g
    rw [if_pos (show eOk a b c d i k from ⟨h1, h2, ha, hb, hc, hd⟩), if_pos (show eOk d c b a (p2 k - i) k from ⟨h1, by omega, hd, hc, hb, ha⟩), Bz.edge_back]
  · rw [if_neg g, if_neg]
    rintro ⟨h1, h2, ha, hb, hc, hd⟩
    exact g ⟨h1, by omega, hd, hc, hb, ha⟩
theorem eX_at0 {a b c d k : Int} (h : 0 ≤ k) (h' : k ≤ 6) (ha : far a) (hb : far b) (hc : far c) (hd : far d) : eX a b c d 0 k = Bz.near a 256 := by
  have hp := p2_pos k h h'
  unfold eX
  rw [if_pos ⟨⟨h, h'⟩, ⟨by omega, by omega⟩, ha, hb, hc, hd⟩, Bz.edge_0 _ _ _ _ _ hp]
theorem tmod_turn {n i : Int} (h : 0 < i) (h' : i ≤ n) : Int.tmod (n - i) n = n - i := by
  rw [Int.tmod_eq_emod_of_nonneg (by omega)]; exact Int.emod_eq_of_lt (by omega) (by omega)
theorem tmod_turn0 {n : Int} : Int.tmod (n - 0) n = 0 := by rw [Int.sub_zero, Int.tmod_self]
end Go.Proofs.Ytkpdiehbaiepaaa
