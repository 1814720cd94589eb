/- What is proved: the law FixedsLed, over all its ways: it is true. The conditions are the numbers' own bounds. -/
import Derived.Test.YtnffpaenalccaaaDoorQRf
import Derived.Test.YtnffpaenalccaaaDoorQLl0
set_option linter.unusedSimpArgs false
set_option linter.unusedVariables false
namespace Go.Proofs.YtnffpaenalccaaaDoor
open Go Go.RowKit Sx Wi
set_option maxHeartbeats 20000000 in
set_option maxRecDepth 100000 in
theorem fixedsLed_any (x0 x1 x2 x3 x4 : Int) (b0 : (-2147483648) ≤ x0 ∧ x0 ≤ 2147483647) (b1 : (-2147483648) ≤ x1 ∧ x1 ≤ 2147483647) (b2 : (-2147483648) ≤ x2 ∧ x2 ≤ 2147483647) (b3 : (-2147483648) ≤ x3 ∧ x3 ≤ 2147483647) (b4 : (-2147483648) ≤ x4 ∧ x4 ≤ 2147483647) (w : World) (hw : WOk GB w) : Calls Tryd.prog 3 #[.int .i32 x0, (.agg #[.int .i32 x1, .int .i32 x2]), (.agg #[.int .i32 x3, .int .i32 x4])] w (fun e w' => e = .returned (.bool true) ∧ Below w.heap.size w w') := by
  refine (calls_eq (way_calls3 (ρ := rho [x0, x1, x2, x3, x4]) (run := fun fs => fixedsLed_R Tryd.prog fs) (fun _ => rfl) (by kernel_rfl) (within_get ⟨b0, b1, b2, b3, b4, trivial⟩) gi_ok (fun X hX hG => ct_rround_ok hX hG) rfl gb_flat gb_apart ?_ w hw)).2
  refine way_cut (.cmp .eq (.op .sub (.var 2) (.var 1)) (.lit 0)) (fun h0 => way_leaf fixedsLed_n1 ⟨rfl, rfl⟩) (fun h0 => ?_)
  refine way_leaf fixedsLed_n2 ?_
  exact ⟨rfl, rfl⟩
end Go.Proofs.YtnffpaenalccaaaDoor
