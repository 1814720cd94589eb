/- What is proved: which of two numbers of two words is the greater one, as an entry over their numbers. The conditions are the numbers' own bounds. -/
import Derived.Test.YtoiecphddchknaaQCc
set_option linter.unusedSimpArgs false
set_option linter.unusedVariables false
namespace Go.Proofs.Ytoiecphddchknaa
open Go Go.RowKit Sx Wi
theorem lex_lt {x y : Int} (h : x < y) : xG67 [hi x, lo x, hi y, lo y] = -1 := by
  unfold hi lo; simp only [xG67]
  by_cases a : x / 18446744073709551616 < y / 18446744073709551616
  · rw [if_pos a]
  · rw [if_neg a, if_neg (by omega), if_pos (by omega)]
theorem lex_eq (x : Int) : xG67 [hi x, lo x, hi x, lo x] = 0 := by
  simp only [xG67]
  rw [if_neg (by omega), if_neg (by omega), if_neg (by omega), if_neg (by omega)]
theorem lex_gt {x y : Int} (h : y < x) : xG67 [hi x, lo x, hi y, lo y] = 1 := by
  unfold hi lo; simp only [xG67]
  by_cases a : y / 18446744073709551616 < x / 18446744073709551616
  · rw [if_neg (by omega), if_pos a]
  · rw [if_neg (by omega), if_neg a, if_neg (by omega), if_pos (by omega)]
theorem lex_sg (x y : Int) : xG67 [hi x, lo x, hi y, lo y] = xG60 [x - y] := by
  rcases Int.lt_trichotomy x y with h | h | h
  · rw [lex_lt h]; simp only [xG60]; unfold Ed.sg; rw [if_pos (by omega)]
  · subst h; rw [lex_eq]; simp only [xG60]; unfold Ed.sg; rw [if_neg (by omega), if_neg (by omega)]
  · rw [lex_gt h]; simp only [xG60]; unfold Ed.sg; rw [if_neg (by omega), if_pos (by omega)]
def wside (f : E) : Option Bool :=
  match f with
  | .lit n => some (decide (0 ≤ n))
  | _ => none
def wcmp2_entry : Entry := fun X args =>
  match args with
  | [.agg [.int .i64 a, .int .u64 b], .agg [.int .i64 c, .int .u64 d]] => match wide? a b, wide? c d with
    | some e, some f => if bigE X e && bigE X f then match wside f with
        | some true => (Res.test X (.cmp .lt f e)).bind fun u => if u then .ok (.int .i64 (.lit 1)) else .ok (.int .i64 (.app 60 (.cons (.op .sub e f) .nil)))
        | some false => (Res.test X (.cmp .lt e f)).bind fun t => if t then .ok (.int .i64 (.lit (-1))) else .ok (.int .i64 (.app 60 (.cons (.op .sub e f) .nil)))
        | none => (Res.test X (.cmp .lt e f)).bind fun t => if t then .ok (.int .i64 (.lit (-1))) else (Res.test X (.cmp .lt f e)).bind fun u => if u then .ok (.int .i64 (.lit 1)) else .ok (.int .i64 (.lit 0))
      else .fail 200
    | _, _ => .fail 202
  | _ => .fail 201
theorem wcmp2_ok {X : Ctx} {ρ : Nat → Int} (hX : X.Ok ρ) (hG : X.G = G) : EntryOk Try.prog X ρ GB 22 wcmp2_entry := by
  obtain ⟨XG, XI, XV, XF⟩ := X
  simp only at hG
  subst hG
  intro args s h α w vals hv hw
  unfold wcmp2_entry at h
  split at h
  · split at h
    · rename_i a b c d _ _ e f he hf
      split at h
      · rename_i hg
        simp only [Bool.and_eq_true] at hg
        obtain ⟨e1, e2⟩ := wide?_den (ρ := ρ) he
        obtain ⟨f1, f2⟩ := wide?_den (ρ := ρ) hf
        have be := bigE_in hX hg.1
        have bf := bigE_in hX hg.2
        have k := wcmp_any (hi (e.den G ρ)) (lo (e.den G ρ)) (hi (f.den G ρ)) (lo (f.den G ρ)) (hi_bd _ be) (by have := lo_word (e.den G ρ); unfold Word at this; omega) (hi_bd _ bf) (by have := lo_word (f.den G ρ); unfold Word at this; omega) w hw
        have ks : xG67 [hi (e.den G ρ), lo (e.den G ρ), hi (f.den G ρ), lo (f.den G ρ)] = xG60 [e.den G ρ - f.den G ρ] := lex_sg _ _
        split at h
        · obtain ⟨u, hu, h⟩ := Res.bind_ok h
          have hu := Res.test_ok hX hu
          cases u with
          | true =>
            simp only [if_true] at h
            have hgt : f.den G ρ < e.den G ρ := of_decide_eq_true hu
            rw [lex_gt hgt, ← e1, ← e2, ← f1, ← f2] at k
            cases h
            exact entry_calls hv rfl rfl k
          | false =>
            simp only [Bool.false_eq_true, if_false] at h
            rw [ks, ← e1, ← e2, ← f1, ← f2] at k
            cases h
            exact entry_calls hv rfl rfl k
        · obtain ⟨t, ht, h⟩ := Res.bind_ok h
          have ht := Res.test_ok hX ht
          cases t with
          | true =>
            simp only [if_true] at h
            have hlt : e.den G ρ < f.den G ρ := of_decide_eq_true ht
            rw [lex_lt hlt, ← e1, ← e2, ← f1, ← f2] at k
            cases h
            exact entry_calls hv rfl rfl k
          | false =>
            simp only [Bool.false_eq_true, if_false] at h
            rw [ks, ← e1, ← e2, ← f1, ← f2] at k
            cases h
            exact entry_calls hv rfl rfl k
        · skip
          obtain ⟨t, ht, h⟩ := Res.bind_ok h
          have ht := Res.test_ok hX ht
          cases t with
          | true =>
            simp only [if_true] at h
            have hlt : e.den G ρ < f.den G ρ := of_decide_eq_true ht
            rw [lex_lt hlt, ← e1, ← e2, ← f1, ← f2] at k
            cases h
            exact entry_calls hv rfl rfl k
          | false =>
            simp only [Bool.false_eq_true, if_false] at h
            have hge : ¬ e.den G ρ < f.den G ρ := of_decide_eq_false ht
            obtain ⟨u, hu, h⟩ := Res.bind_ok h
            have hu := Res.test_ok hX hu
            cases u with
            | true =>
              simp only [if_true] at h
              have hgt : f.den G ρ < e.den G ρ := of_decide_eq_true hu
              rw [lex_gt hgt, ← e1, ← e2, ← f1, ← f2] at k
              cases h
              exact entry_calls hv rfl rfl k
            | false =>
              simp only [Bool.false_eq_true, if_false] at h
              have hle : ¬ f.den G ρ < e.den G ρ := of_decide_eq_false hu
              have heq : e.den G ρ = f.den G ρ := by omega
              have hz := lex_eq (e.den G ρ)
              have hz' : xG67 [hi (e.den G ρ), lo (e.den G ρ), hi (f.den G ρ), lo (f.den G ρ)] = 0 := by rw [← heq]; exact hz
              rw [hz', ← e1, ← e2, ← f1, ← f2] at k
              cases h
              exact entry_calls hv rfl rfl k
      · cases h
    · cases h
  · cases h
def ct_cw : Contracts := ctCons 22 wcmp2_entry ct_wt
theorem ct_cw_ok {X : Ctx} {ρ : Nat → Int} (hX : X.Ok ρ) (hG : X.G = G) : CtOk Try.prog X ρ GB ct_cw := ctCons_ok (wcmp2_ok hX hG) (ct_wt_ok hX hG)
end Go.Proofs.Ytoiecphddchknaa
