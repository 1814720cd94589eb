/- What is proved: the run of a function over its ways, and what is known on each. No condition. -/
import Derived.Test.YtnffpaenalccaaaDoorQg9
import Derived.Test.YtnffpaenalccaaaDoorQg2
import Derived.Test.YtnffpaenalccaaaDoorQg4
set_option linter.unusedSimpArgs false
set_option linter.unusedVariables false
set_option maxRecDepth 100000
namespace Go.Proofs.YtnffpaenalccaaaDoor
open Go Go.RowKit Sx Wi
def ofc_R (P : Program) (fs : List B) : Res SV := withCtx G GI [((-9223372036854775808), 9223372036854775807)] fs (fun X => exFun P X GB ct_nearest 3000 61 [.int .i64 (.var 0)])
def ofc_f0 : List B := []
def ofc_b0 : B := (.cmp .lt (.var 0) (.lit 0))
def ofc_f1 : List B := grow ofc_b0 ++ ofc_f0
def ofc_f2 : List B := grow (B.neg ofc_b0) ++ ofc_f0
theorem ofc_n1 : ofc_R Tryd.prog ofc_f1 = .ok (.agg [(.int .i64 (.lit (-1))), (.int .u64 (.wrap .u64 (.var 0)))]) := by kernel_rfl
theorem ofc_n2 : ofc_R Tryd.prog ofc_f2 = .ok (.agg [(.int .i64 (.lit 0)), (.int .u64 (.var 0))]) := by kernel_rfl
end Go.Proofs.YtnffpaenalccaaaDoor
set_option maxRecDepth 100000
namespace Go.Proofs.YtnffpaenalccaaaDoor
open Go Go.RowKit Sx Wi
def intc_R (P : Program) (fs : List B) : Res SV := withCtx G GI [((-170141183460469231731687303715884105728), 170141183460469231731687303715884105727)] fs (fun X => exFun P X GB ct_nearest 3000 54 [.agg [.int .i64 (.app 0 (.cons (.var 0) .nil)), .int .u64 (.app 1 (.cons (.var 0) .nil))]])
def intc_f0 : List B := []
def intc_b0 : B := (.cmp .lt (.var 0) (.lit 0))
def intc_f1 : List B := grow intc_b0 ++ intc_f0
def intc_b1 : B := (.cmp .lt (.op .sub (.lit 0) (.var 0)) (.lit 9223372036854775808))
def intc_f2 : List B := grow intc_b1 ++ intc_f1
def intc_f3 : List B := grow (B.neg intc_b1) ++ intc_f1
def intc_b3 : B := (.cmp .lt (.lit 9223372036854775808) (.op .sub (.lit 0) (.var 0)))
def intc_f4 : List B := grow intc_b3 ++ intc_f3
def intc_f5 : List B := grow (B.neg intc_b3) ++ intc_f3
def intc_f6 : List B := grow (B.neg intc_b0) ++ intc_f0
def intc_b6 : B := (.cmp .lt (.var 0) (.lit 9223372036854775807))
def intc_f7 : List B := grow intc_b6 ++ intc_f6
def intc_f8 : List B := grow (B.neg intc_b6) ++ intc_f6
def intc_b8 : B := (.cmp .lt (.lit 9223372036854775807) (.var 0))
def intc_f9 : List B := grow intc_b8 ++ intc_f8
def intc_f10 : List B := grow (B.neg intc_b8) ++ intc_f8
theorem intc_n2 : intc_R Tryd.prog intc_f2 = .ok (.tuple [(.int .i64 (.wrap .i64 (.app 1 (.cons (.var 0) .nil)))), (.bool (.lit true))]) := by kernel_rfl
theorem intc_n4 : intc_R Tryd.prog intc_f4 = .ok (.tuple [(.int .i64 (.lit 0)), (.bool (.lit false))]) := by kernel_rfl
theorem intc_n5 : intc_R Tryd.prog intc_f5 = .ok (.tuple [(.int .i64 (.wrap .i64 (.app 1 (.cons (.var 0) .nil)))), (.bool (.lit true))]) := by kernel_rfl
theorem intc_n7 : intc_R Tryd.prog intc_f7 = .ok (.tuple [(.int .i64 (.app 1 (.cons (.var 0) .nil))), (.bool (.lit true))]) := by kernel_rfl
theorem intc_n9 : intc_R Tryd.prog intc_f9 = .ok (.tuple [(.int .i64 (.lit 0)), (.bool (.lit false))]) := by kernel_rfl
theorem intc_n10 : intc_R Tryd.prog intc_f10 = .ok (.tuple [(.int .i64 (.app 1 (.cons (.var 0) .nil))), (.bool (.lit true))]) := by kernel_rfl
end Go.Proofs.YtnffpaenalccaaaDoor
namespace Go.Proofs.YtnffpaenalccaaaDoor
open Go Go.RowKit Sx Nu Wi
set_option maxHeartbeats 4000000 in
set_option maxRecDepth 100000 in
theorem ofc_any (x0 : Int) (b0 : (-9223372036854775808) ≤ x0 ∧ x0 ≤ 9223372036854775807) (w : World) (hw : WOk GB w) : Known Tryd.prog 61 ∧ Calls Tryd.prog 61 #[.int .i64 x0] w (fun e w' => e = .returned (.agg #[.int .i64 (hi x0), .int .u64 (lo x0)]) ∧ Below w.heap.size w w') := by
  refine calls_eq (way_calls3 (ρ := rho [x0]) (run := ofc_R Tryd.prog) (fun _ => rfl) (by kernel_rfl) (within_get ⟨b0, trivial⟩) gi_ok (fun X hX hG => ct_nearest_ok hX hG) rfl rfl (gbApart_one _) ?_ w hw)
  refine way_cut (.cmp .lt (.var 0) (.lit 0)) (fun h0 => ?_) (fun h0 => ?_)
  · skip
    refine way_leaf ofc_n1 ?_
    refine ⟨rfl, ?_⟩; simp only [nm, digL, dgE, dgP, dgP1, List.cons_append, List.nil_append, List.append_nil] at *; rw [show hi x0 = -1 by unfold hi; omega, ← show IntKind.u64.wrap x0 = lo x0 from IntKind.wrap_u64 x0] <;> rfl
  refine way_leaf ofc_n2 ?_
  refine ⟨rfl, ?_⟩; simp only [nm, digL, dgE, dgP, dgP1, List.cons_append, List.nil_append, List.append_nil] at *; rw [show hi x0 = 0 by unfold hi; omega, show lo x0 = x0 by unfold lo; omega] <;> rfl
set_option maxHeartbeats 4000000 in
set_option maxRecDepth 100000 in
theorem intc_any (x0 : Int) (b0 : (-170141183460469231731687303715884105728) ≤ x0 ∧ x0 ≤ 170141183460469231731687303715884105727) (w : World) (hw : WOk GB w) : Known Tryd.prog 54 ∧ Calls Tryd.prog 54 #[.agg #[.int .i64 (hi x0), .int .u64 (lo x0)]] w (fun e w' => e = .returned ((if -9223372036854775808 ≤ x0 ∧ x0 ≤ 9223372036854775807 then .tuple #[.int .i64 x0, .bool true] else .tuple #[.int .i64 0, .bool false])) ∧ Below w.heap.size w w') := by
  refine calls_eq (way_calls3 (ρ := rho [x0]) (run := intc_R Tryd.prog) (fun _ => rfl) (by kernel_rfl) (within_get ⟨b0, trivial⟩) gi_ok (fun X hX hG => ct_nearest_ok hX hG) rfl rfl (gbApart_one _) ?_ w hw)
  refine way_cut (.cmp .lt (.var 0) (.lit 0)) (fun h0 => ?_) (fun h0 => ?_)
  · skip
    refine way_cut (.cmp .lt (.op .sub (.lit 0) (.var 0)) (.lit 9223372036854775808)) (fun h1 => ?_) (fun h1 => ?_)
    · skip
      refine way_leaf intc_n2 ?_
      refine ⟨rfl, ?_⟩; simp only [nm, digL, dgE, dgP, dgP1, List.cons_append, List.nil_append, List.append_nil] at *; rw [if_pos (by omega)]; rw [show IntKind.i64.wrap (lo x0) = x0 by simp only [IntKind.wrap_i64, lo]; omega] <;> rfl
    refine way_cut (.cmp .lt (.lit 9223372036854775808) (.op .sub (.lit 0) (.var 0))) (fun h2 => ?_) (fun h2 => ?_)
    · skip
      refine way_leaf intc_n4 ?_
      refine ⟨rfl, ?_⟩; simp only [nm, digL, dgE, dgP, dgP1, List.cons_append, List.nil_append, List.append_nil] at *; rw [if_neg (by omega)] <;> rfl
    refine way_leaf intc_n5 ?_
    refine ⟨rfl, ?_⟩; simp only [nm, digL, dgE, dgP, dgP1, List.cons_append, List.nil_append, List.append_nil] at *; rw [if_pos (by omega)]; rw [show IntKind.i64.wrap (lo x0) = x0 by simp only [IntKind.wrap_i64, lo]; omega] <;> rfl
  refine way_cut (.cmp .lt (.var 0) (.lit 9223372036854775807)) (fun h1 => ?_) (fun h1 => ?_)
  · skip
    refine way_leaf intc_n7 ?_
    refine ⟨rfl, ?_⟩; simp only [nm, digL, dgE, dgP, dgP1, List.cons_append, List.nil_append, List.append_nil] at *; rw [if_pos (by omega)]; rw [show lo x0 = x0 by unfold lo; omega] <;> rfl
  refine way_cut (.cmp .lt (.lit 9223372036854775807) (.var 0)) (fun h2 => ?_) (fun h2 => ?_)
  · skip
    refine way_leaf intc_n9 ?_
    refine ⟨rfl, ?_⟩; simp only [nm, digL, dgE, dgP, dgP1, List.cons_append, List.nil_append, List.append_nil] at *; rw [if_neg (by omega)] <;> rfl
  refine way_leaf intc_n10 ?_
  refine ⟨rfl, ?_⟩; simp only [nm, digL, dgE, dgP, dgP1, List.cons_append, List.nil_append, List.append_nil] at *; rw [if_pos (by omega)]; rw [show lo x0 = x0 by unfold lo; omega] <;> rfl
def ofc_entry : Entry := fun X args =>
  match args with
  | [.int .i64 a] => if a.fits X .i64 then .ok (W2 a) else .fail 230
  | _ => .fail 201
set_option maxRecDepth 100000 in
theorem ofc_ok {X : Ctx} {ρ : Nat → Int} (hX : X.Ok ρ) (hG : X.G = G) : EntryOk Tryd.prog X ρ GB 61 ofc_entry := by
  obtain ⟨XG, XI, XV, XF⟩ := X
  simp only at hG
  subst hG
  intro args s h α w vals hv hw
  unfold ofc_entry at h
  split at h
  · split at h
    · rename_i hg
      cases h
      exact entry_calls hv rfl rfl (ofc_any _ (E.fits_in hX hg) w hw)
    · cases h
  · cases h
def intc_entry : Entry := fun X args =>
  match args with
  | [.agg [.int .i64 p, .int .u64 q]] => match wide? p q with
    | some a => if bigE X a then (Res.test X (inB a (-9223372036854775808) 9223372036854775807)).bind fun t => if t then .ok (.tuple [.int .i64 a, .bool (.lit true)]) else .ok (.tuple [.int .i64 (.lit 0), .bool (.lit false)]) else .fail 231
    | none => .fail 232
  | _ => .fail 201
set_option maxRecDepth 100000 in
theorem intc_ok {X : Ctx} {ρ : Nat → Int} (hX : X.Ok ρ) (hG : X.G = G) : EntryOk Tryd.prog X ρ GB 54 intc_entry := by
  obtain ⟨XG, XI, XV, XF⟩ := X
  simp only at hG
  subst hG
  intro args s h α w vals hv hw
  unfold intc_entry at h
  split at h
  · rename_i p q
    split at h
    · rename_i a ha
      obtain ⟨d1, d2⟩ := wide?_den (ρ := ρ) ha
      split at h
      · rename_i hg
        have g : Big (a.den G ρ) := bigE_in hX hg
        have k := intc_any (a.den G ρ) (by unfold Big at g; omega) w hw
        have e : SV.denL G ρ [.agg [.int .i64 p, .int .u64 q]] = [.agg #[.int .i64 (hi (a.den G ρ)), .int .u64 (lo (a.den G ρ))]] := by simp only [SV.denL, SV.den, d1, d2]
        rw [← show (SV.denL G ρ [.agg [.int .i64 p, .int .u64 q]]).toArray = #[.agg #[.int .i64 (hi (a.den G ρ)), .int .u64 (lo (a.den G ρ))]] from by rw [e]] at k
        replace h := Res.bind_ok h; obtain ⟨t, ht, h⟩ := h
        have ht := Res.test_ok hX ht
        cases t with
        | true =>
          have gt := inB_den ht
          cases h
          rw [if_pos gt] at k
          exact entry_calls hv rfl rfl k
        | false =>
          have gt : ¬ (-9223372036854775808 ≤ a.den G ρ ∧ a.den G ρ ≤ 9223372036854775807) := by
            intro z
            simp only [inB, B.den, cop_le, E.den] at ht
            rw [decide_eq_true z.1, decide_eq_true z.2] at ht
            cases ht
          cases h
          rw [if_neg gt] at k
          exact entry_calls hv rfl rfl k
      · cases h
    · cases h
  · cases h
def ct_ofc : Contracts := ctCons 61 ofc_entry ct_nearest
theorem ct_ofc_ok {X : Ctx} {ρ : Nat → Int} (hX : X.Ok ρ) (hG : X.G = G) : CtOk Tryd.prog X ρ GB ct_ofc := ctCons_ok (ofc_ok hX hG) (ct_nearest_ok hX hG)
def ct_intc : Contracts := ctCons 54 intc_entry ct_ofc
theorem ct_intc_ok {X : Ctx} {ρ : Nat → Int} (hX : X.Ok ρ) (hG : X.G = G) : CtOk Tryd.prog X ρ GB ct_intc := ctCons_ok (intc_ok hX hG) (ct_ofc_ok hX hG)
end Go.Proofs.YtnffpaenalccaaaDoor
