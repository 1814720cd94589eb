/- What is proved: what functions of this program return: each over all its ways. The conditions are the numbers' own bounds. -/
import Derived.Test.YtoiecphddchknaaQCa
import Derived.Test.YtoiecphddchknaaQNsd0
set_option linter.unusedSimpArgs false
set_option linter.unusedVariables false
namespace Go.Proofs.Ytoiecphddchknaa
open Go Go.RowKit Sx Wi
set_option maxRecDepth 100000 in
theorem sd_any (x0 x1 x2 x3 x4 x5 : Int) (b0 : (-671088640) ≤ x0 ∧ x0 ≤ 671088640) (b1 : (-671088640) ≤ x1 ∧ x1 ≤ 671088640) (b2 : (-1342177280) ≤ x2 ∧ x2 ≤ 1342177280) (b3 : (-1342177280) ≤ x3 ∧ x3 ≤ 1342177280) (b4 : (-671088640) ≤ x4 ∧ x4 ≤ 671088640) (b5 : (-671088640) ≤ x5 ∧ x5 ≤ 671088640) (w : World) (hw : WOk GB w) : Known Try.prog 41 ∧ Calls Try.prog 41 #[(.agg #[.int .i64 x0, .int .i64 x1, .int .i64 x2, .int .i64 x3]), (.agg #[.int .i64 x4, .int .i64 x5])] w (fun e w' => e = .returned (.int .i64 (xG62 [x0, x1, x2, x3, x4, x5])) ∧ Below w.heap.size w w') := by
  refine calls_eq (way_calls3 (ρ := rho [x0, x1, x2, x3, x4, x5]) (run := fun fs => sd_R Try.prog fs) (fun _ => rfl) fits (within_get ⟨b0, b1, b2, b3, b4, b5, trivial⟩) gi_ok (fun X hX hG => ct_wcmp_ok hX hG) rfl rfl gbApart_nil ?_ w hw)
  refine way_need sd_n0 (fun h0 => ?_) (fun h0 => ?_)
  · skip
    refine way_leaf sd_n1 ?_
    refine ⟨rfl, ?_⟩; simp only [E.den, EL.den, B.den, cop_lt, cop_le, cop_eq, cop_ne, iop_add, iop_sub, iop_mul, iop_max, iop_min, iop_quo, iop_rem, iop_fdiv, iop_shl, SV.den, SV.denL, SV.ubd, SV.ubdL, rho, List.getD_cons_zero, List.getD_cons_succ, decide_eq_true_eq, decide_eq_false_iff_not, Bool.not_eq_true', Bool.not_eq_false', Bool.and_eq_true, true_and] at *; (try simp only [G, xG60, xG62, xG63, xG64, xG67] at *); unfold sd Ed.or3; simp_all
  refine way_need sd_n2 (fun h1 => ?_) (fun h1 => ?_)
  · skip
    refine way_leaf sd_n3 ?_
    refine ⟨rfl, ?_⟩; simp only [E.den, EL.den, B.den, cop_lt, cop_le, cop_eq, cop_ne, iop_add, iop_sub, iop_mul, iop_max, iop_min, iop_quo, iop_rem, iop_fdiv, iop_shl, SV.den, SV.denL, SV.ubd, SV.ubdL, rho, List.getD_cons_zero, List.getD_cons_succ, decide_eq_true_eq, decide_eq_false_iff_not, Bool.not_eq_true', Bool.not_eq_false', Bool.and_eq_true, true_and] at *; (try simp only [G, xG60, xG62, xG63, xG64, xG67] at *); unfold sd Ed.or3; simp_all
  refine way_need sd_n4 (fun h2 => ?_) (fun h2 => ?_)
  · skip
    refine way_leaf sd_n5 ?_
    refine ⟨rfl, ?_⟩; simp only [E.den, EL.den, B.den, cop_lt, cop_le, cop_eq, cop_ne, iop_add, iop_sub, iop_mul, iop_max, iop_min, iop_quo, iop_rem, iop_fdiv, iop_shl, SV.den, SV.denL, SV.ubd, SV.ubdL, rho, List.getD_cons_zero, List.getD_cons_succ, decide_eq_true_eq, decide_eq_false_iff_not, Bool.not_eq_true', Bool.not_eq_false', Bool.and_eq_true, true_and] at *; (try simp only [G, xG60, xG62, xG63, xG64, xG67] at *); unfold sd Ed.or3; simp_all
  refine way_leaf sd_n6 ?_
  refine ⟨rfl, ?_⟩; simp only [E.den, EL.den, B.den, cop_lt, cop_le, cop_eq, cop_ne, iop_add, iop_sub, iop_mul, iop_max, iop_min, iop_quo, iop_rem, iop_fdiv, iop_shl, SV.den, SV.denL, SV.ubd, SV.ubdL, rho, List.getD_cons_zero, List.getD_cons_succ, decide_eq_true_eq, decide_eq_false_iff_not, Bool.not_eq_true', Bool.not_eq_false', Bool.and_eq_true, true_and] at *; (try simp only [G, xG60, xG62, xG63, xG64, xG67] at *); unfold sd Ed.or3; simp_all
def sd_entry : Entry := fun X args =>
  match args with
  | [(.agg [.int .i64 a0, .int .i64 a1, .int .i64 a2, .int .i64 a3]), (.agg [.int .i64 a4, .int .i64 a5])] => if a0.lies X (-671088640) 671088640 && a1.lies X (-671088640) 671088640 && a2.lies X (-1342177280) 1342177280 && a3.lies X (-1342177280) 1342177280 && a4.lies X (-671088640) 671088640 && a5.lies X (-671088640) 671088640 then .ok (.int .i64 (.app 62 (.cons a0 (.cons a1 (.cons a2 (.cons a3 (.cons a4 (.cons a5 .nil)))))))) else .fail 200
  | _ => .fail 201
theorem sd_ok {X : Ctx} {ρ : Nat → Int} (hX : X.Ok ρ) (hG : X.G = G) : EntryOk Try.prog X ρ GB 41 sd_entry := by
  obtain ⟨XG, XI, XV, XF⟩ := X
  simp only at hG
  subst hG
  intro args s h α w vals hv hw
  unfold sd_entry at h
  split at h
  · split at h
    · rename_i hg
      try simp only [Bool.and_eq_true] at hg
      obtain ⟨⟨⟨⟨⟨g0, g1⟩, g2⟩, g3⟩, g4⟩, g5⟩ := hg
      cases h
      exact entry_calls hv rfl rfl (sd_any _ _ _ _ _ _ (E.lies_in hX g0) (E.lies_in hX g1) (E.lies_in hX g2) (E.lies_in hX g3) (E.lies_in hX g4) (E.lies_in hX g5) w hw)
    · cases h
  · cases h
def ct_sd : Contracts := ctCons 41 sd_entry ct_wcmp
theorem ct_sd_ok {X : Ctx} {ρ : Nat → Int} (hX : X.Ok ρ) (hG : X.G = G) : CtOk Try.prog X ρ GB ct_sd := ctCons_ok (sd_ok hX hG) (ct_wcmp_ok hX hG)
end Go.Proofs.Ytoiecphddchknaa
