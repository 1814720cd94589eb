/- What is proved: the table that the program reads is there, in a world that meets the row's condition; such a world is there. -/
import Derived.Test.YtnffpaenalccaaaDoorQLt
import Derived.Test.YtnffpaenalccaaaDoorQg4
import Derived.Test.YtnffpaenalccaaaDoorRows
import Derived.Stop.Joined
set_option linter.unusedSimpArgs false
set_option linter.unusedVariables false
namespace Go.Proofs.YtnffpaenalccaaaDoor
open Go.ChangeShapes Go.WideShapes Go.ChangeAt Go.RowKit
def laidX : List (String × DataW Unit) := [("gouache/fixeds.adds", Rows.laid_gouache_fixeds_adds)]
theorem gAdds : Tryd.prog.globalNamed "gouache/fixeds.adds" = some 0 := by kernel_rfl
theorem tAdds : (Tryd.prog.globals[0]?).map (·.type) = some 68 := by kernel_rfl
theorem uAdds : Tryd.prog.underlying 68 = some (.array 3 2) := by kernel_rfl
theorem u2 : Tryd.prog.underlying 2 = some (.int .i64) := by kernel_rfl
theorem door_met (os : Os) (args : Array Value) : laidMetH Tryd.prog laidX ((World.doorLaid Tryd.prog 400 os).forCall (fun _ _ => 0) ⟨#[], args, []⟩).memory :=
  laidMetH_of_parts3 (fuel := 8) (laidMet_of_run' 8 (by kernel_rfl) (by kernel_rfl)) (by kernel_rfl) (by kernel_rfl)
set_option maxRecDepth 100000 in
theorem wok_of {W : World} (hs : W.ShapedOpen Tryd.prog) (h : laidMetH Tryd.prog laidX W) : Sx.WOk GB W := by
  rw [MakeChecks.laidMetH_plain _ _ _ (by kernel_rfl)] at h
  obtain ⟨ps, ⟨g0, t0, cs0, f0, p0, q0, hg0, ht0, hv0, hd0, _, _⟩, _, _⟩ := h
  obtain rfl := Option.some.inj (gAdds.symm.trans hg0)
  obtain rfl := Option.some.inj (tAdds.symm.trans ht0)
  obtain ⟨cs, hh, _, _⟩ := hs.1 0 #[.int .i64 0, .int .i64 0, .int .i64 0] 68 (of_decide_eq_true (by kernel_rfl)) (by kernel_rfl)
  have hcs : cs0 = cs := by
    unfold World.var? at hv0
    rw [gAdds] at hv0
    simp only [Option.bind_some, hh, Option.some.injEq] at hv0
    exact hv0.symm
  subst hcs
  obtain ⟨xs, m1, rfl, hx1, hlen, hn3, hel⟩ := DataW.trod_array uAdds hd0
  have c2 : Tryd.prog.cellsOf 2 = 1 := by kernel_rfl
  have c75 : Tryd.prog.cellsOf 68 = 3 := by kernel_rfl
  have e0 := hel 0 (by decide)
  have e1 := hel 1 (by decide)
  have e2 := hel 2 (by decide)
  have hx1' : (Rows.laid_gouache_fixeds_adds : DataW Unit) = .agg (xs.map (·.1)) := (Prod.mk.inj hx1).1
  unfold Rows.laid_gouache_fixeds_adds at hx1'
  simp only [DataW.agg.injEq] at hx1'
  match xs, hn3, hx1', e0, e1, e2 with
  | [x0, x1, x2], _, hx1', e0, e1, e2 =>
    simp only [List.map_cons, List.map_nil, List.cons.injEq, and_true] at hx1'
    obtain ⟨k0, a0, b0, _⟩ := DataW.trod_int u2 (show DataW.trod _ Tryd.prog W 0 _ false m1 2 _ = some x0 from e0)
    obtain ⟨k1, a1, b1, _⟩ := DataW.trod_int u2 (show DataW.trod _ Tryd.prog W 0 _ false m1 2 _ = some x1 from e1)
    obtain ⟨k2, a2, b2, _⟩ := DataW.trod_int u2 (show DataW.trod _ Tryd.prog W 0 _ false m1 2 _ = some x2 from e2)
    have h0 : k0 = 0 := by rw [b0] at hx1'; simpa using hx1'.1.symm
    have h1 : k1 = 65535 := by rw [b1] at hx1'; simpa using hx1'.2.1.symm
    have h2 : k2 = 32768 := by rw [b2] at hx1'; simpa using hx1'.2.2.symm
    subst h0; subst h1; subst h2
    obtain ⟨l⟩ := cs0
    rw [c75] at hlen
    rw [c2] at a0 a1 a2
    match l, hlen, a0, a1, a2 with
    | [y0, y1, y2], _, a0, a1, a2 =>
      simp at a0 a1 a2
      subst a0; subst a1; subst a2
      intro q hq
      obtain rfl := List.mem_singleton.1 hq
      exact hh
end Go.Proofs.YtnffpaenalccaaaDoor
