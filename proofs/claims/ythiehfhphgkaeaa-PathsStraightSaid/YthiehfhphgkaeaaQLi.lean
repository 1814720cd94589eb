/- What is proved: lives(): it is true. No condition but the numbers' own bounds. -/
import Derived.Test.YthiehfhphgkaeaaQLv0
import Derived.Test.YthiehfhphgkaeaaQPl
set_option linter.unusedSimpArgs false
set_option linter.unusedVariables false
namespace Go.Proofs.Ythiehfhphgkaeaa
open Go Go.RowKit Sx Wi
theorem lives_mem : MemFun Try.prog G GB 11 lives_F (rho []) := by
  refine memFun_way (lp := lpNil) (run := lives_run Try.prog) (fun _ => rfl) fits (within_get trivial) gi_ok (fun X hX hG => ct_lines_ok hX hG) (fun X hX hG fn c hf hc => lpOk_lpNil) rfl ?_
  refine way_cut (.cmp .ne (.app 83 (.cons (.app 91 (.cons (.app 91 (.cons (.app 91 (.cons (.lit 0) (.cons (.app 2 (.cons (.lit 0) (.cons (.lit 256) .nil))) (.cons (.app 2 (.cons (.lit 0) (.cons (.lit 256) .nil))) .nil)))) (.cons (.app 2 (.cons (.lit 65536) (.cons (.lit 256) .nil))) (.cons (.app 2 (.cons (.lit 0) (.cons (.lit 256) .nil))) .nil)))) (.cons (.app 2 (.cons (.lit 65536) (.cons (.lit 256) .nil))) (.cons (.app 2 (.cons (.lit 65536) (.cons (.lit 256) .nil))) .nil)))) (.cons (.lit 0) (.cons (.lit 0) .nil)))) (.lit 0)) (fun h0 => ?_) (fun h0 => ?_)
  · skip
    refine way_bad ?_
    exfalso; simp only [E.den, EL.den, B.den, cop_lt, cop_le, cop_eq, cop_ne, iop_add, iop_sub, iop_mul, iop_max, iop_min, iop_quo, iop_rem, iop_fdiv, iop_shl, SV.den, SV.denL, SV.ubd, SV.ubdL, rho, List.cons_append, List.nil_append, List.getD_cons_zero, List.getD_cons_succ, decide_eq_true_eq, decide_eq_false_iff_not, Bool.not_eq_true', Bool.not_eq_false', Bool.and_eq_true, true_and, lenE] at h0; with_reducible exact absurd (lives_a 0 0 0 (by decide)) h0
  refine way_cut (.cmp .ne (.app 83 (.cons (.app 91 (.cons (.app 91 (.cons (.app 91 (.cons (.lit 0) (.cons (.app 2 (.cons (.lit 0) (.cons (.lit 256) .nil))) (.cons (.app 2 (.cons (.lit 0) (.cons (.lit 256) .nil))) .nil)))) (.cons (.app 2 (.cons (.lit 65536) (.cons (.lit 256) .nil))) (.cons (.app 2 (.cons (.lit 0) (.cons (.lit 256) .nil))) .nil)))) (.cons (.app 2 (.cons (.lit 65536) (.cons (.lit 256) .nil))) (.cons (.app 2 (.cons (.lit 65536) (.cons (.lit 256) .nil))) .nil)))) (.cons (.lit 0) (.cons (.lit 1) .nil)))) (.lit 0)) (fun h1 => ?_) (fun h1 => ?_)
  · skip
    refine way_bad ?_
    exfalso; clear h0; simp only [E.den, EL.den, B.den, cop_lt, cop_le, cop_eq, cop_ne, iop_add, iop_sub, iop_mul, iop_max, iop_min, iop_quo, iop_rem, iop_fdiv, iop_shl, SV.den, SV.denL, SV.ubd, SV.ubdL, rho, List.cons_append, List.nil_append, List.getD_cons_zero, List.getD_cons_succ, decide_eq_true_eq, decide_eq_false_iff_not, Bool.not_eq_true', Bool.not_eq_false', Bool.and_eq_true, true_and, lenE] at h1; with_reducible exact absurd (lives_a 0 1 0 (by decide)) h1
  refine way_cut (.cmp .ne (.app 83 (.cons (.app 91 (.cons (.app 91 (.cons (.app 91 (.cons (.lit 0) (.cons (.app 2 (.cons (.lit 0) (.cons (.lit 256) .nil))) (.cons (.app 2 (.cons (.lit 0) (.cons (.lit 256) .nil))) .nil)))) (.cons (.app 2 (.cons (.lit 65536) (.cons (.lit 256) .nil))) (.cons (.app 2 (.cons (.lit 0) (.cons (.lit 256) .nil))) .nil)))) (.cons (.app 2 (.cons (.lit 65536) (.cons (.lit 256) .nil))) (.cons (.app 2 (.cons (.lit 65536) (.cons (.lit 256) .nil))) .nil)))) (.cons (.lit 1) (.cons (.lit 0) .nil)))) (.lit 256)) (fun h2 => ?_) (fun h2 => ?_)
  · skip
    refine way_bad ?_
    exfalso; clear h0 h1; simp only [E.den, EL.den, B.den, cop_lt, cop_le, cop_eq, cop_ne, iop_add, iop_sub, iop_mul, iop_max, iop_min, iop_quo, iop_rem, iop_fdiv, iop_shl, SV.den, SV.denL, SV.ubd, SV.ubdL, rho, List.cons_append, List.nil_append, List.getD_cons_zero, List.getD_cons_succ, decide_eq_true_eq, decide_eq_false_iff_not, Bool.not_eq_true', Bool.not_eq_false', Bool.and_eq_true, true_and, lenE] at h2; with_reducible exact absurd (lives_a 1 0 256 (by decide)) h2
  refine way_cut (.cmp .ne (.app 83 (.cons (.app 91 (.cons (.app 91 (.cons (.app 91 (.cons (.lit 0) (.cons (.app 2 (.cons (.lit 0) (.cons (.lit 256) .nil))) (.cons (.app 2 (.cons (.lit 0) (.cons (.lit 256) .nil))) .nil)))) (.cons (.app 2 (.cons (.lit 65536) (.cons (.lit 256) .nil))) (.cons (.app 2 (.cons (.lit 0) (.cons (.lit 256) .nil))) .nil)))) (.cons (.app 2 (.cons (.lit 65536) (.cons (.lit 256) .nil))) (.cons (.app 2 (.cons (.lit 65536) (.cons (.lit 256) .nil))) .nil)))) (.cons (.lit 1) (.cons (.lit 1) .nil)))) (.lit 0)) (fun h3 => ?_) (fun h3 => ?_)
  · skip
    refine way_bad ?_
    exfalso; clear h0 h1 h2; simp only [E.den, EL.den, B.den, cop_lt, cop_le, cop_eq, cop_ne, iop_add, iop_sub, iop_mul, iop_max, iop_min, iop_quo, iop_rem, iop_fdiv, iop_shl, SV.den, SV.denL, SV.ubd, SV.ubdL, rho, List.cons_append, List.nil_append, List.getD_cons_zero, List.getD_cons_succ, decide_eq_true_eq, decide_eq_false_iff_not, Bool.not_eq_true', Bool.not_eq_false', Bool.and_eq_true, true_and, lenE] at h3; with_reducible exact absurd (lives_a 1 1 0 (by decide)) h3
  refine way_cut (.cmp .ne (.app 83 (.cons (.app 91 (.cons (.app 91 (.cons (.app 91 (.cons (.lit 0) (.cons (.app 2 (.cons (.lit 0) (.cons (.lit 256) .nil))) (.cons (.app 2 (.cons (.lit 0) (.cons (.lit 256) .nil))) .nil)))) (.cons (.app 2 (.cons (.lit 65536) (.cons (.lit 256) .nil))) (.cons (.app 2 (.cons (.lit 0) (.cons (.lit 256) .nil))) .nil)))) (.cons (.app 2 (.cons (.lit 65536) (.cons (.lit 256) .nil))) (.cons (.app 2 (.cons (.lit 65536) (.cons (.lit 256) .nil))) .nil)))) (.cons (.lit 2) (.cons (.lit 0) .nil)))) (.lit 256)) (fun h4 => ?_) (fun h4 => ?_)
  · skip
    refine way_bad ?_
    exfalso; clear h0 h1 h2 h3; simp only [E.den, EL.den, B.den, cop_lt, cop_le, cop_eq, cop_ne, iop_add, iop_sub, iop_mul, iop_max, iop_min, iop_quo, iop_rem, iop_fdiv, iop_shl, SV.den, SV.denL, SV.ubd, SV.ubdL, rho, List.cons_append, List.nil_append, List.getD_cons_zero, List.getD_cons_succ, decide_eq_true_eq, decide_eq_false_iff_not, Bool.not_eq_true', Bool.not_eq_false', Bool.and_eq_true, true_and, lenE] at h4; with_reducible exact absurd (lives_a 2 0 256 (by decide)) h4
  refine way_cut (.cmp .ne (.app 83 (.cons (.app 91 (.cons (.app 91 (.cons (.app 91 (.cons (.lit 0) (.cons (.app 2 (.cons (.lit 0) (.cons (.lit 256) .nil))) (.cons (.app 2 (.cons (.lit 0) (.cons (.lit 256) .nil))) .nil)))) (.cons (.app 2 (.cons (.lit 65536) (.cons (.lit 256) .nil))) (.cons (.app 2 (.cons (.lit 0) (.cons (.lit 256) .nil))) .nil)))) (.cons (.app 2 (.cons (.lit 65536) (.cons (.lit 256) .nil))) (.cons (.app 2 (.cons (.lit 65536) (.cons (.lit 256) .nil))) .nil)))) (.cons (.lit 2) (.cons (.lit 1) .nil)))) (.lit 256)) (fun h5 => ?_) (fun h5 => ?_)
  · skip
    refine way_bad ?_
    exfalso; clear h0 h1 h2 h3 h4; simp only [E.den, EL.den, B.den, cop_lt, cop_le, cop_eq, cop_ne, iop_add, iop_sub, iop_mul, iop_max, iop_min, iop_quo, iop_rem, iop_fdiv, iop_shl, SV.den, SV.denL, SV.ubd, SV.ubdL, rho, List.cons_append, List.nil_append, List.getD_cons_zero, List.getD_cons_succ, decide_eq_true_eq, decide_eq_false_iff_not, Bool.not_eq_true', Bool.not_eq_false', Bool.and_eq_true, true_and, lenE] at h5; with_reducible exact absurd (lives_a 2 1 256 (by decide)) h5
  refine way_cut (.cmp .ne (.app 83 (.cons (.app 44 (.cons (.lit 0) (.cons (.lit 0) (.cons (.lit 0) (.cons (.lit 65536) (.cons (.lit 65536) (.cons (.lit 65536) (.cons (.lit 65536) (.cons (.lit 0) .nil))))))))) (.cons (.lit 0) (.cons (.lit 0) .nil)))) (.lit 0)) (fun h6 => ?_) (fun h6 => ?_)
  · skip
    refine way_bad ?_
    exfalso; clear h0 h1 h2 h3 h4 h5; simp only [E.den, EL.den, B.den, cop_lt, cop_le, cop_eq, cop_ne, iop_add, iop_sub, iop_mul, iop_max, iop_min, iop_quo, iop_rem, iop_fdiv, iop_shl, SV.den, SV.denL, SV.ubd, SV.ubdL, rho, List.cons_append, List.nil_append, List.getD_cons_zero, List.getD_cons_succ, decide_eq_true_eq, decide_eq_false_iff_not, Bool.not_eq_true', Bool.not_eq_false', Bool.and_eq_true, true_and, lenE] at h6; with_reducible exact absurd (lives_b 0 0 0 (by decide) (by decide) (by decide)) h6
  refine way_cut (.cmp .ne (.app 83 (.cons (.app 44 (.cons (.lit 0) (.cons (.lit 0) (.cons (.lit 0) (.cons (.lit 65536) (.cons (.lit 65536) (.cons (.lit 65536) (.cons (.lit 65536) (.cons (.lit 0) .nil))))))))) (.cons (.lit 0) (.cons (.lit 1) .nil)))) (.lit 0)) (fun h7 => ?_) (fun h7 => ?_)
  · skip
    refine way_bad ?_
    exfalso; clear h0 h1 h2 h3 h4 h5 h6; simp only [E.den, EL.den, B.den, cop_lt, cop_le, cop_eq, cop_ne, iop_add, iop_sub, iop_mul, iop_max, iop_min, iop_quo, iop_rem, iop_fdiv, iop_shl, SV.den, SV.denL, SV.ubd, SV.ubdL, rho, List.cons_append, List.nil_append, List.getD_cons_zero, List.getD_cons_succ, decide_eq_true_eq, decide_eq_false_iff_not, Bool.not_eq_true', Bool.not_eq_false', Bool.and_eq_true, true_and, lenE] at h7; with_reducible exact absurd (lives_b 0 1 0 (by decide) (by decide) (by decide)) h7
  refine way_cut (.cmp .ne (.app 83 (.cons (.app 44 (.cons (.lit 0) (.cons (.lit 0) (.cons (.lit 0) (.cons (.lit 65536) (.cons (.lit 65536) (.cons (.lit 65536) (.cons (.lit 65536) (.cons (.lit 0) .nil))))))))) (.cons (.lit 1) (.cons (.lit 0) .nil)))) (.lit 40)) (fun h8 => ?_) (fun h8 => ?_)
  · skip
    refine way_bad ?_
    exfalso; clear h0 h1 h2 h3 h4 h5 h6 h7; simp only [E.den, EL.den, B.den, cop_lt, cop_le, cop_eq, cop_ne, iop_add, iop_sub, iop_mul, iop_max, iop_min, iop_quo, iop_rem, iop_fdiv, iop_shl, SV.den, SV.denL, SV.ubd, SV.ubdL, rho, List.cons_append, List.nil_append, List.getD_cons_zero, List.getD_cons_succ, decide_eq_true_eq, decide_eq_false_iff_not, Bool.not_eq_true', Bool.not_eq_false', Bool.and_eq_true, true_and, lenE] at h8; with_reducible exact absurd (lives_b 1 0 40 (by decide) (by decide) (by decide)) h8
  refine way_cut (.cmp .ne (.app 83 (.cons (.app 44 (.cons (.lit 0) (.cons (.lit 0) (.cons (.lit 0) (.cons (.lit 65536) (.cons (.lit 65536) (.cons (.lit 65536) (.cons (.lit 65536) (.cons (.lit 0) .nil))))))))) (.cons (.lit 1) (.cons (.lit 1) .nil)))) (.lit 144)) (fun h9 => ?_) (fun h9 => ?_)
  · skip
    refine way_bad ?_
    exfalso; clear h0 h1 h2 h3 h4 h5 h6 h7 h8; simp only [E.den, EL.den, B.den, cop_lt, cop_le, cop_eq, cop_ne, iop_add, iop_sub, iop_mul, iop_max, iop_min, iop_quo, iop_rem, iop_fdiv, iop_shl, SV.den, SV.denL, SV.ubd, SV.ubdL, rho, List.cons_append, List.nil_append, List.getD_cons_zero, List.getD_cons_succ, decide_eq_true_eq, decide_eq_false_iff_not, Bool.not_eq_true', Bool.not_eq_false', Bool.and_eq_true, true_and, lenE] at h9; with_reducible exact absurd (lives_b 1 1 144 (by decide) (by decide) (by decide)) h9
  refine way_cut (.cmp .ne (.app 83 (.cons (.app 44 (.cons (.lit 0) (.cons (.lit 0) (.cons (.lit 0) (.cons (.lit 65536) (.cons (.lit 65536) (.cons (.lit 65536) (.cons (.lit 65536) (.cons (.lit 0) .nil))))))))) (.cons (.lit 2) (.cons (.lit 0) .nil)))) (.lit 128)) (fun h10 => ?_) (fun h10 => ?_)
  · skip
    refine way_bad ?_
    exfalso; clear h0 h1 h2 h3 h4 h5 h6 h7 h8 h9; simp only [E.den, EL.den, B.den, cop_lt, cop_le, cop_eq, cop_ne, iop_add, iop_sub, iop_mul, iop_max, iop_min, iop_quo, iop_rem, iop_fdiv, iop_shl, SV.den, SV.denL, SV.ubd, SV.ubdL, rho, List.cons_append, List.nil_append, List.getD_cons_zero, List.getD_cons_succ, decide_eq_true_eq, decide_eq_false_iff_not, Bool.not_eq_true', Bool.not_eq_false', Bool.and_eq_true, true_and, lenE] at h10; with_reducible exact absurd (lives_b 2 0 128 (by decide) (by decide) (by decide)) h10
  refine way_cut (.cmp .ne (.app 83 (.cons (.app 44 (.cons (.lit 0) (.cons (.lit 0) (.cons (.lit 0) (.cons (.lit 65536) (.cons (.lit 65536) (.cons (.lit 65536) (.cons (.lit 65536) (.cons (.lit 0) .nil))))))))) (.cons (.lit 2) (.cons (.lit 1) .nil)))) (.lit 192)) (fun h11 => ?_) (fun h11 => ?_)
  · skip
    refine way_bad ?_
    exfalso; clear h0 h1 h2 h3 h4 h5 h6 h7 h8 h9 h10; simp only [E.den, EL.den, B.den, cop_lt, cop_le, cop_eq, cop_ne, iop_add, iop_sub, iop_mul, iop_max, iop_min, iop_quo, iop_rem, iop_fdiv, iop_shl, SV.den, SV.denL, SV.ubd, SV.ubdL, rho, List.cons_append, List.nil_append, List.getD_cons_zero, List.getD_cons_succ, decide_eq_true_eq, decide_eq_false_iff_not, Bool.not_eq_true', Bool.not_eq_false', Bool.and_eq_true, true_and, lenE] at h11; with_reducible exact absurd (lives_b 2 1 192 (by decide) (by decide) (by decide)) h11
  refine way_cut (.cmp .ne (.app 83 (.cons (.app 44 (.cons (.lit 0) (.cons (.lit 0) (.cons (.lit 0) (.cons (.lit 65536) (.cons (.lit 65536) (.cons (.lit 65536) (.cons (.lit 65536) (.cons (.lit 0) .nil))))))))) (.cons (.lit 3) (.cons (.lit 0) .nil)))) (.lit 216)) (fun h12 => ?_) (fun h12 => ?_)
  · skip
    refine way_bad ?_
    exfalso; clear h0 h1 h2 h3 h4 h5 h6 h7 h8 h9 h10 h11; simp only [E.den, EL.den, B.den, cop_lt, cop_le, cop_eq, cop_ne, iop_add, iop_sub, iop_mul, iop_max, iop_min, iop_quo, iop_rem, iop_fdiv, iop_shl, SV.den, SV.denL, SV.ubd, SV.ubdL, rho, List.cons_append, List.nil_append, List.getD_cons_zero, List.getD_cons_succ, decide_eq_true_eq, decide_eq_false_iff_not, Bool.not_eq_true', Bool.not_eq_false', Bool.and_eq_true, true_and, lenE] at h12; with_reducible exact absurd (lives_b 3 0 216 (by decide) (by decide) (by decide)) h12
  refine way_cut (.cmp .ne (.app 83 (.cons (.app 44 (.cons (.lit 0) (.cons (.lit 0) (.cons (.lit 0) (.cons (.lit 65536) (.cons (.lit 65536) (.cons (.lit 65536) (.cons (.lit 65536) (.cons (.lit 0) .nil))))))))) (.cons (.lit 3) (.cons (.lit 1) .nil)))) (.lit 144)) (fun h13 => ?_) (fun h13 => ?_)
  · skip
    refine way_bad ?_
    exfalso; clear h0 h1 h2 h3 h4 h5 h6 h7 h8 h9 h10 h11 h12; simp only [E.den, EL.den, B.den, cop_lt, cop_le, cop_eq, cop_ne, iop_add, iop_sub, iop_mul, iop_max, iop_min, iop_quo, iop_rem, iop_fdiv, iop_shl, SV.den, SV.denL, SV.ubd, SV.ubdL, rho, List.cons_append, List.nil_append, List.getD_cons_zero, List.getD_cons_succ, decide_eq_true_eq, decide_eq_false_iff_not, Bool.not_eq_true', Bool.not_eq_false', Bool.and_eq_true, true_and, lenE] at h13; with_reducible exact absurd (lives_b 3 1 144 (by decide) (by decide) (by decide)) h13
  refine way_cut (.cmp .ne (.app 83 (.cons (.app 44 (.cons (.lit 0) (.cons (.lit 0) (.cons (.lit 0) (.cons (.lit 65536) (.cons (.lit 65536) (.cons (.lit 65536) (.cons (.lit 65536) (.cons (.lit 0) .nil))))))))) (.cons (.lit 4) (.cons (.lit 0) .nil)))) (.lit 256)) (fun h14 => ?_) (fun h14 => ?_)
  · skip
    refine way_bad ?_
    exfalso; clear h0 h1 h2 h3 h4 h5 h6 h7 h8 h9 h10 h11 h12 h13; simp only [E.den, EL.den, B.den, cop_lt, cop_le, cop_eq, cop_ne, iop_add, iop_sub, iop_mul, iop_max, iop_min, iop_quo, iop_rem, iop_fdiv, iop_shl, SV.den, SV.denL, SV.ubd, SV.ubdL, rho, List.cons_append, List.nil_append, List.getD_cons_zero, List.getD_cons_succ, decide_eq_true_eq, decide_eq_false_iff_not, Bool.not_eq_true', Bool.not_eq_false', Bool.and_eq_true, true_and, lenE] at h14; with_reducible exact absurd (lives_b 4 0 256 (by decide) (by decide) (by decide)) h14
  refine way_cut (.cmp .ne (.app 83 (.cons (.app 44 (.cons (.lit 0) (.cons (.lit 0) (.cons (.lit 0) (.cons (.lit 65536) (.cons (.lit 65536) (.cons (.lit 65536) (.cons (.lit 65536) (.cons (.lit 0) .nil))))))))) (.cons (.lit 4) (.cons (.lit 1) .nil)))) (.lit 0)) (fun h15 => ?_) (fun h15 => ?_)
  · skip
    refine way_bad ?_
    exfalso; clear h0 h1 h2 h3 h4 h5 h6 h7 h8 h9 h10 h11 h12 h13 h14; simp only [E.den, EL.den, B.den, cop_lt, cop_le, cop_eq, cop_ne, iop_add, iop_sub, iop_mul, iop_max, iop_min, iop_quo, iop_rem, iop_fdiv, iop_shl, SV.den, SV.denL, SV.ubd, SV.ubdL, rho, List.cons_append, List.nil_append, List.getD_cons_zero, List.getD_cons_succ, decide_eq_true_eq, decide_eq_false_iff_not, Bool.not_eq_true', Bool.not_eq_false', Bool.and_eq_true, true_and, lenE] at h15; with_reducible exact absurd (lives_b 4 1 0 (by decide) (by decide) (by decide)) h15
  refine way_leaf lives_n32 ?_
  exact ⟨rfl, trivial⟩
def lives_entry : Ctx → List SV → Heap → Res (SV × Heap) := memEntry GB [] 0 (.lit true) lives_F
theorem lives_ok {X : Ctx} {ρ : Nat → Int} (hX : X.Ok ρ) (hG : X.G = G) : MemOk Try.prog X ρ GB 11 lives_entry := by
  obtain ⟨XG, XI, XV, XF⟩ := X
  simp only at hG
  subst hG
  refine memEntry_ok hX ?_
  intro xs ls hw hl _
  have hl' : ls = [] := List.length_eq_zero_iff.1 hl
  subst hl'
  rw [List.append_nil]
  have e8 := in_nil hw
  subst e8
  exact lives_mem
def ct_lv : Contracts := ctConsM 11 lives_entry ct_lines
theorem ct_lv_ok {X : Ctx} {ρ : Nat → Int} (hX : X.Ok ρ) (hG : X.G = G) : CtOk Try.prog X ρ GB ct_lv := ctConsM_ok (lives_ok hX hG) (ct_lines_ok hX hG)
end Go.Proofs.Ythiehfhphgkaeaa
