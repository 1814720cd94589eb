/- What is proved: the contract of a fraction that is held, as an entry. The conditions are the numbers' own bounds. -/
import Derived.Test.YtnffpaenalccaaaDoorQPm
set_option linter.unusedSimpArgs false
set_option linter.unusedVariables false
namespace Go.Proofs.YtnffpaenalccaaaDoor
open Go Go.RowKit Sx Nu Wi
def hold_entry : Entry := fun X args =>
  match args with
  | [.agg (.bool b :: l), .agg (.bool c :: m)] => (recog X l).bind fun N => (recog X m).bind fun M => (Res.test X (inB N 0 1496577676626844588240573268701473812127674924007424)).bind fun p => (Res.test X (inB M 1 1496577676626844588240573268701473812127674924007424)).bind fun q => if p && q then (Res.test X b).bind fun s => (Res.test X c).bind fun t => .ok (.int .i32 (.op .max (.lit (-2147483648)) (.op .min (.lit 2147483647) (.app 2 (.cons (nearE s t N) (.cons M .nil)))))) else .fail 241
  | _ => .fail 201
set_option maxRecDepth 100000 in
theorem hold_ok {X : Ctx} {ρ : Nat → Int} (hX : X.Ok ρ) (hG : X.G = G) : EntryOk Tryd.prog X ρ GB 36 hold_entry := by
  obtain ⟨XG, XI, XV, XF⟩ := X
  simp only at hG
  subst hG
  intro args s h α w vals hv hw
  unfold hold_entry at h
  split at h
  · rename_i b a c d
    replace h := Res.bind_ok h; obtain ⟨N, hN, h⟩ := h
    replace h := Res.bind_ok h; obtain ⟨M, hM, h⟩ := h
    replace h := Res.bind_ok h; obtain ⟨p, hp, h⟩ := h
    replace h := Res.bind_ok h; obtain ⟨q, hq, h⟩ := h
    have hp := Res.test_ok hX hp
    have hq := Res.test_ok hX hq
    split at h
    · rename_i hg
      simp only [Bool.and_eq_true] at hg
      obtain ⟨rfl, rfl⟩ := hg
      have gN := inB_den hp
      have gM := inB_den hq
      obtain ⟨u1, d1⟩ := recog_ok hX hN
      obtain ⟨u2, d2⟩ := recog_ok hX hM
      replace h := Res.bind_ok h; obtain ⟨s1, hs1, h⟩ := h
      replace h := Res.bind_ok h; obtain ⟨s2, hs2, h⟩ := h
      have hs1 := Res.test_ok hX hs1
      have hs2 := Res.test_ok hX hs2
      cases h
      have k := hold_any (if s1 = true then 1 else 0) (N.den G ρ) (if s2 = true then 1 else 0) (M.den G ρ) (by split <;> decide) gN (by split <;> decide) gM w hw
      have eb : ∀ b : Bool, (!decide ((if b = true then (1 : Int) else 0) = 0)) = b := by intro b; cases b <;> rfl
      rw [eb, eb] at k
      have en : nearA (if s1 = true then 1 else 0) (N.den G ρ) (if s2 = true then 1 else 0) = (nearE s1 s2 N).den G ρ := by
        cases s1 <;> cases s2 <;> simp [nearA, nearE, E.mkOp_den, IOp.den, E.den]
      rw [en] at k
      refine entry_calls hv (by simp only [SV.ubdL, SV.ubd, u1, u2, Bool.and_self]) rfl ?_
      have e : SV.denL G ρ [.agg (.bool b :: a), .agg (.bool c :: d)] = [.agg (.bool s1 :: digV (N.den G ρ)).toArray, .agg (.bool s2 :: digV (M.den G ρ)).toArray] := by simp only [SV.denL, SV.den, d1, d2]; rw [show b.den G ρ = s1 from hs1, show c.den G ρ = s2 from hs2]
      rw [e]
      rw [← iop_min, ← iop_max] at k
      exact k
    · cases h
  · cases h
def ct_hold : Contracts := ctCons 36 hold_entry ct_intc
theorem ct_hold_ok {X : Ctx} {ρ : Nat → Int} (hX : X.Ok ρ) (hG : X.G = G) : CtOk Tryd.prog X ρ GB ct_hold := ctCons_ok (hold_ok hX hG) (ct_intc_ok hX hG)
theorem near_one (z : Int) : Fx.near z 1 = z := by have h := Fx.near_whole z 1 (by decide); rwa [Int.mul_one] at h
theorem t_div (x : Int) : (0 ≤ x → Int.tdiv x 65536 = x / 65536) ∧ (x < 0 → Int.tdiv x 65536 = -((0 - x) / 65536)) := by
  refine ⟨fun h => Int.tdiv_eq_ediv_of_nonneg h, fun h => ?_⟩
  have e := Int.neg_tdiv (0 - x) 65536
  rw [show -(0 - x) = x by omega] at e
  rw [e, Int.tdiv_eq_ediv_of_nonneg (by omega)]
end Go.Proofs.YtnffpaenalccaaaDoor
