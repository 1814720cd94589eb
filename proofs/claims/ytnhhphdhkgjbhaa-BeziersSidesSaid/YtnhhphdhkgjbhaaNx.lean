/- What is proved: contracts of numbers of two words, as entries over expressions. The conditions are the numbers' own bounds. -/
import Derived.Test.YtnhhphdhkgjbhaaGd
set_option linter.unusedSimpArgs false
set_option linter.unusedVariables false
namespace Go.Proofs.Ytnhhphdhkgjbhaa
open Go Go.RowKit Sx Wi

def wide? (a b : E) : Option E :=
  match a, b with
  | .app 0 (.cons e .nil), .app 1 (.cons f .nil) => if e.eqb f then some e else none
  | .lit x, .lit y => if decide (0 ≤ y) && decide (y < 18446744073709551616) then some (.lit (x * 18446744073709551616 + y)) else none
  | _, _ => none
theorem wide?_den {ρ : Nat → Int} {a b e : E} (h : wide? a b = some e) : a.den G ρ = hi (e.den G ρ) ∧ b.den G ρ = lo (e.den G ρ) := by
  unfold wide? at h
  split at h
  · split at h
    · rename_i hf
      cases h
      have := E.eqb_eq _ _ hf
      subst this
      exact ⟨rfl, rfl⟩
    · cases h
  · split at h
    · rename_i x y hf
      cases h
      simp only [Bool.and_eq_true, decide_eq_true_eq] at hf
      simp only [E.den]
      unfold hi lo
      omega
    · cases h
  · cases h
def W2 (e : E) : SV := .agg [.int .i64 (.app 0 (.cons e .nil)), .int .u64 (.app 1 (.cons e .nil))]
theorem W2_den {ρ : Nat → Int} (e : E) : (W2 e).den G ρ = .agg #[.int .i64 (hi (e.den G ρ)), .int .u64 (lo (e.den G ρ))] := rfl
def bigE (X : Ctx) (e : E) : Bool := e.lies X (-170141183460469231731687303715884105728) 170141183460469231731687303715884105727
theorem bigE_in {X : Ctx} {ρ : Nat → Int} (hX : X.Ok ρ) {e : E} (h : bigE X e = true) : Big (e.den X.G ρ) := by
  have := E.lies_in hX h
  unfold Big; omega
def wmul_entry : Entry := fun X args =>
  match args with
  | [.int .i64 a, .int .i64 n] => if a.fits X .i64 && n.fits X .i64 then .ok (W2 (.op .mul a n)) else .fail 200
  | _ => .fail 201
theorem wmul_ok {X : Ctx} {ρ : Nat → Int} (hX : X.Ok ρ) (hG : X.G = G) : EntryOk Try.prog X ρ GB 38 wmul_entry := by
  obtain ⟨XG, XI, XV, XF⟩ := X
  simp only at hG
  subst hG
  have hk : Known Try.prog 38 := ⟨_, Try.func38, by kernel_rfl, by kernel_rfl⟩
  intro args s h α w vals hv hw
  unfold wmul_entry at h
  split at h
  · split at h
    · rename_i hg
      simp only [Bool.and_eq_true] at hg
      cases h
      exact entry_calls hv rfl rfl ⟨hk, mul_any _ _ (E.fits_in hX hg.1) (E.fits_in hX hg.2) w⟩
    · cases h
  · cases h
def wof_entry : Entry := fun X args =>
  match args with
  | [.int .i64 a] => if a.fits X .i64 then .ok (W2 a) else .fail 200
  | _ => .fail 201
theorem wof_ok {X : Ctx} {ρ : Nat → Int} (hX : X.Ok ρ) (hG : X.G = G) : EntryOk Try.prog X ρ GB 49 wof_entry := by
  obtain ⟨XG, XI, XV, XF⟩ := X
  simp only at hG
  subst hG
  have hk : Known Try.prog 49 := ⟨_, Try.func49, by kernel_rfl, by kernel_rfl⟩
  intro args s h α w vals hv hw
  unfold wof_entry at h
  split at h
  · split at h
    · rename_i hg
      cases h
      exact entry_calls hv rfl rfl ⟨hk, of_any _ (E.fits_in hX hg) w⟩
    · cases h
  · cases h
def wadd_entry : Entry := fun X args =>
  match args with
  | [.agg [.int .i64 a, .int .u64 b], .agg [.int .i64 c, .int .u64 d]] => match wide? a b, wide? c d with
    | some e, some f => if bigE X e && (bigE X f && bigE X (.op .add e f)) then .ok (.tuple [W2 (.op .add e f), .int .i64 (.lit 0)]) else .fail 200
    | _, _ => .fail 202
  | _ => .fail 201
theorem wadd_ok {X : Ctx} {ρ : Nat → Int} (hX : X.Ok ρ) (hG : X.G = G) : EntryOk Try.prog X ρ GB 37 wadd_entry := by
  obtain ⟨XG, XI, XV, XF⟩ := X
  simp only at hG
  subst hG
  have hk : Known Try.prog 37 := ⟨_, Try.func37, by kernel_rfl, by kernel_rfl⟩
  intro args s h α w vals hv hw
  unfold wadd_entry at h
  split at h
  · split at h
    · rename_i a b c d _ _ e f he hf
      split at h
      · rename_i hg
        simp only [Bool.and_eq_true] at hg
        cases h
        obtain ⟨e1, e2⟩ := wide?_den (ρ := ρ) he
        obtain ⟨f1, f2⟩ := wide?_den (ρ := ρ) hf
        refine entry_calls hv rfl rfl ⟨hk, ?_⟩
        have k := add_any (e.den G ρ) (f.den G ρ) (bigE_in hX hg.1) (bigE_in hX hg.2.1) (bigE_in hX hg.2.2) w
        rw [← e1, ← e2, ← f1, ← f2] at k
        exact k
      · cases h
    · cases h
  · cases h
def wtimes_entry : Entry := fun X args =>
  match args with
  | [.agg [.int .i64 a, .int .u64 b], .int .i64 n] => match wide? a b with
    | some e => if bigE X e && (n.fits X .i64 && bigE X (.op .mul e n)) then .ok (.tuple [W2 (.op .mul e n), .int .i64 (.lit 0)]) else .fail 200
    | _ => .fail 202
  | _ => .fail 201
theorem wtimes_ok {X : Ctx} {ρ : Nat → Int} (hX : X.Ok ρ) (hG : X.G = G) : EntryOk Try.prog X ρ GB 48 wtimes_entry := by
  obtain ⟨XG, XI, XV, XF⟩ := X
  simp only at hG
  subst hG
  have hk : Known Try.prog 48 := ⟨_, Try.func48, by kernel_rfl, by kernel_rfl⟩
  intro args s h α w vals hv hw
  unfold wtimes_entry at h
  split at h
  · split at h
    · rename_i a b n _ e he
      split at h
      · rename_i hg
        simp only [Bool.and_eq_true] at hg
        cases h
        obtain ⟨e1, e2⟩ := wide?_den (ρ := ρ) he
        refine entry_calls hv rfl rfl ⟨hk, ?_⟩
        have k := times_any (e.den G ρ) (n.den G ρ) _ _ rfl rfl (bigE_in hX hg.1) (E.fits_in hX hg.2.1) (bigE_in hX hg.2.2) w
        rw [← e1, ← e2] at k
        exact k
      · cases h
    · cases h
  · cases h
def wnear_entry : Entry := fun X args =>
  match args with
  | [.agg [.int .i64 a, .int .u64 b], .int .i64 d] => match wide? a b with
    | some e => if bigE X e && d.lies X 1 9223372036854775807 then .ok (.tuple [W2 (.app 2 (.cons e (.cons d .nil))), .int .i64 (.lit 0)]) else .fail 200
    | _ => .fail 202
  | _ => .fail 201
theorem wnear_ok {X : Ctx} {ρ : Nat → Int} (hX : X.Ok ρ) (hG : X.G = G) : EntryOk Try.prog X ρ GB 39 wnear_entry := by
  obtain ⟨XG, XI, XV, XF⟩ := X
  simp only at hG
  subst hG
  have hk : Known Try.prog 39 := ⟨_, Try.func39, by kernel_rfl, by kernel_rfl⟩
  intro args s h α w vals hv hw
  unfold wnear_entry at h
  split at h
  · split at h
    · rename_i a b d _ e he
      split at h
      · rename_i hg
        simp only [Bool.and_eq_true] at hg
        cases h
        obtain ⟨e1, e2⟩ := wide?_den (ρ := ρ) he
        refine entry_calls hv rfl rfl ⟨hk, ?_⟩
        obtain ⟨d1, d2⟩ := E.lies_in hX hg.2
        have k := near_any (e.den G ρ) (d.den G ρ) (bigE_in hX hg.1) (show 0 < d.den G ρ from d1) d2 w
        rw [← e1, ← e2] at k
        exact k
      · cases h
    · cases h
  · cases h
def wint_entry : Entry := fun X args =>
  match args with
  | [.agg [.int .i64 a, .int .u64 b]] => match wide? a b with
    | some e => if bigE X e then (Res.test X (.cmp .le (.lit (-9223372036854775808)) e)).bind fun t => if t then ((Res.test X (.cmp .le e (.lit 9223372036854775807))).bind fun u => if u then .ok (.tuple [.int .i64 e, .bool (.lit true)]) else .ok (.tuple [.int .i64 (.lit 0), .bool (.lit false)])) else .ok (.tuple [.int .i64 (.lit 0), .bool (.lit false)]) else .fail 200
    | _ => .fail 202
  | _ => .fail 201
theorem wint_ok {X : Ctx} {ρ : Nat → Int} (hX : X.Ok ρ) (hG : X.G = G) : EntryOk Try.prog X ρ GB 40 wint_entry := by
  obtain ⟨XG, XI, XV, XF⟩ := X
  simp only at hG
  subst hG
  have hk : Known Try.prog 40 := ⟨_, Try.func40, by kernel_rfl, by kernel_rfl⟩
  intro args s h α w vals hv hw
  unfold wint_entry at h
  split at h
  · split at h
    · rename_i a b _ e he
      split at h
      · rename_i hg
        obtain ⟨e1, e2⟩ := wide?_den (ρ := ρ) he
        have hb := bigE_in hX hg
        obtain ⟨t, ht, h⟩ := Res.bind_ok h
        have ht := Res.test_ok hX ht
        simp only [B.den, cop_le, E.den] at ht
        have no : ¬ I64 (e.den G ρ) → s = .tuple [.int .i64 (.lit 0), .bool (.lit false)] → Known Try.prog 40 ∧ Calls Try.prog 40 vals.toArray w (fun e w' => ∃ v, e = .returned v ∧ SV.R G ρ α s v ∧ Below w.heap.size w w') := by
          rintro hn rfl
          refine entry_calls hv rfl rfl ⟨hk, ?_⟩
          have k := int_no (e.den G ρ) hn hb w
          rw [← e1, ← e2] at k
          exact k
        cases t with
        | false => cases h; exact no (by unfold I64; simp at ht; omega) rfl
        | true =>
          simp only [if_true] at h
          obtain ⟨u, hu, h⟩ := Res.bind_ok h
          have hu := Res.test_ok hX hu
          simp only [B.den, cop_le, E.den] at hu
          cases u with
          | false => cases h; exact no (by unfold I64; simp at hu; omega) rfl
          | true =>
            cases h
            refine entry_calls hv rfl rfl ⟨hk, ?_⟩
            have k := int_any (e.den G ρ) ⟨of_decide_eq_true ht, of_decide_eq_true hu⟩ w
            rw [← e1, ← e2] at k
            exact k
      · cases h
    · cases h
  · cases h
def ct_wmul : Contracts := ctCons 38 wmul_entry ctNil
theorem ct_wmul_ok {X : Ctx} {ρ : Nat → Int} (hX : X.Ok ρ) (hG : X.G = G) : CtOk Try.prog X ρ GB ct_wmul := ctCons_ok (wmul_ok hX hG) (ctNil_ok)
def ct_wof : Contracts := ctCons 49 wof_entry ct_wmul
theorem ct_wof_ok {X : Ctx} {ρ : Nat → Int} (hX : X.Ok ρ) (hG : X.G = G) : CtOk Try.prog X ρ GB ct_wof := ctCons_ok (wof_ok hX hG) (ct_wmul_ok hX hG)
def ct_wadd : Contracts := ctCons 37 wadd_entry ct_wof
theorem ct_wadd_ok {X : Ctx} {ρ : Nat → Int} (hX : X.Ok ρ) (hG : X.G = G) : CtOk Try.prog X ρ GB ct_wadd := ctCons_ok (wadd_ok hX hG) (ct_wof_ok hX hG)
def ct_wtimes : Contracts := ctCons 48 wtimes_entry ct_wadd
theorem ct_wtimes_ok {X : Ctx} {ρ : Nat → Int} (hX : X.Ok ρ) (hG : X.G = G) : CtOk Try.prog X ρ GB ct_wtimes := ctCons_ok (wtimes_ok hX hG) (ct_wadd_ok hX hG)
def ct_wnear : Contracts := ctCons 39 wnear_entry ct_wtimes
theorem ct_wnear_ok {X : Ctx} {ρ : Nat → Int} (hX : X.Ok ρ) (hG : X.G = G) : CtOk Try.prog X ρ GB ct_wnear := ctCons_ok (wnear_ok hX hG) (ct_wtimes_ok hX hG)
def ct_wint : Contracts := ctCons 40 wint_entry ct_wnear
theorem ct_wint_ok {X : Ctx} {ρ : Nat → Int} (hX : X.Ok ρ) (hG : X.G = G) : CtOk Try.prog X ρ GB ct_wint := ctCons_ok (wint_ok hX hG) (ct_wnear_ok hX hG)
def ct_w : Contracts := ct_wint
theorem ct_w_ok {X : Ctx} {ρ : Nat → Int} (hX : X.Ok ρ) (hG : X.G = G) : CtOk Try.prog X ρ GB ct_w := ct_wint_ok hX hG
end Go.Proofs.Ytnhhphdhkgjbhaa
