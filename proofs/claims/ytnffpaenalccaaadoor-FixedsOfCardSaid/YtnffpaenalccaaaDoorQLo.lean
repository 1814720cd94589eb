/- What is proved: the law FixedsOf, over all its ways: it is true. The conditions are the numbers' own bounds. -/
import Derived.Test.YtnffpaenalccaaaDoorQg4
import Derived.Test.YtnffpaenalccaaaDoorQRf
import Derived.Test.YtnffpaenalccaaaDoorQLo0
set_option linter.unusedSimpArgs false
set_option linter.unusedVariables false
namespace Go.Proofs.YtnffpaenalccaaaDoor
open Go Go.RowKit Sx Wi
set_option maxHeartbeats 20000000 in
set_option maxRecDepth 100000 in
theorem fixedsOf_any (x0 x1 : Int) (b0 : (-2147483648) ≤ x0 ∧ x0 ≤ 2147483647) (b1 : (-2147483648) ≤ x1 ∧ x1 ≤ 2147483647) (w : World) (hw : WOk GB w) : Calls Tryd.prog 4 #[.int .i32 x0, .int .i32 x1] w (fun e w' => e = .returned (.bool true) ∧ Below w.heap.size w w') := by
  refine (calls_eq (way_calls3 (ρ := rho [x0, x1]) (run := fun fs => fixedsOf_R Tryd.prog fs) (fun _ => rfl) (by kernel_rfl) (within_get ⟨b0, b1, trivial⟩) gi_ok (fun X hX hG => ct_rround_ok hX hG) rfl gb_flat gb_apart ?_ w hw)).2
  refine way_cut (.cmp .eq (.var 1) (.lit 0)) (fun h0 => ?_) (fun h0 => ?_)
  · skip
    refine way_cut (.cmp .eq (.app 9 (.cons (.var 0) .nil)) (.wrap .i32 (.op .mul (.op .quo (.var 0) (.lit 65536)) (.lit 65536)))) (fun h1 => way_leaf fixedsOf_n2 ⟨rfl, rfl⟩) (fun h1 => ?_)
    refine way_leaf fixedsOf_n3 ?_
    simp only [nm, G, wG, xG3, xG4, xG5, xG6, xG7, xG8, xG9] at *; exfalso; have t0 := t_div x0; have hT : Fx.trunc x0 = Int.tdiv x0 65536 * 65536 := (by unfold Fx.trunc Fx.ceil Fx.floor Fx.down; rw [← sat_e, ← sat_e]; generalize Int.tdiv x0 65536 = q at *; split <;> omega); (try simp only [IntKind.wrap_i32, wrap32] at *); generalize Int.tdiv x0 65536 = q at *; omega
  refine way_cut (.cmp .eq (.app 9 (.cons (.var 0) .nil)) (.wrap .i32 (.op .mul (.op .quo (.var 0) (.lit 65536)) (.lit 65536)))) (fun h1 => way_leaf fixedsOf_n5 ⟨rfl, rfl⟩) (fun h1 => ?_)
  refine way_leaf fixedsOf_n6 ?_
  simp only [nm, G, wG, xG3, xG4, xG5, xG6, xG7, xG8, xG9] at *; exfalso; have t0 := t_div x0; have hT : Fx.trunc x0 = Int.tdiv x0 65536 * 65536 := (by unfold Fx.trunc Fx.ceil Fx.floor Fx.down; rw [← sat_e, ← sat_e]; generalize Int.tdiv x0 65536 = q at *; split <;> omega); (try simp only [IntKind.wrap_i32, wrap32] at *); generalize Int.tdiv x0 65536 = q at *; omega
end Go.Proofs.YtnffpaenalccaaaDoor
