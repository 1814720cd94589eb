/- What is proved: the law FixedsWide, over all its ways: it is true. The conditions are the numbers' own bounds. -/
import Derived.Test.YtnffpaenalccaaaDoorQg4
import Derived.Test.YtnffpaenalccaaaDoorQRf
import Derived.Test.YtnffpaenalccaaaDoorQLw0
set_option linter.unusedSimpArgs false
set_option linter.unusedVariables false
namespace Go.Proofs.YtnffpaenalccaaaDoor
open Go Go.RowKit Sx Wi
set_option maxHeartbeats 20000000 in
set_option maxRecDepth 100000 in
theorem fixedsWide_any (x0 x1 : Int) (b0 : (-9223372036854775808) ≤ x0 ∧ x0 ≤ 9223372036854775807) (b1 : (-9223372036854775808) ≤ x1 ∧ x1 ≤ 9223372036854775807) (w : World) (hw : WOk GB w) : Calls Tryd.prog 5 #[.int .i64 x0, .int .i64 x1] w (fun e w' => e = .returned (.bool true) ∧ Below w.heap.size w w') := by
  refine (calls_eq (way_calls3 (ρ := rho [x0, x1]) (run := fun fs => fixedsWide_R Tryd.prog fs) (fun _ => rfl) (by kernel_rfl) (within_get ⟨b0, b1, trivial⟩) gi_ok (fun X hX hG => ct_rround_ok hX hG) rfl gb_flat gb_apart ?_ w hw)).2
  refine way_cut (.cmp .eq (.var 1) (.lit 0)) (fun h0 => way_leaf fixedsWide_n1 ⟨rfl, rfl⟩) (fun h0 => ?_)
  refine way_cut (.cmp .le (.lit (-9223372036854775808)) (.app 2 (.cons (.op .mul (.var 1) (.lit 65536)) (.cons (.lit 1) .nil)))) (fun h1 => ?_) (fun h1 => ?_)
  rotate_left
  · skip
    refine way_cut (.cmp .eq (.lit (-2147483648)) (.op .max (.lit (-2147483648)) (.op .min (.lit 2147483647) (.op .mul (.var 1) (.lit 65536))))) (fun h2 => way_leaf fixedsWide_n11 ⟨rfl, rfl⟩) (fun h2 => ?_)
    refine way_leaf fixedsWide_n12 ?_
    simp only [nm, G, wG, xG3, xG4, xG5, xG6, xG7, xG8, xG9] at *; exfalso; (try simp only [near_one] at *); first | exact absurd trivial ‹¬True› | omega
  refine way_cut (.cmp .le (.app 2 (.cons (.op .mul (.var 1) (.lit 65536)) (.cons (.lit 1) .nil))) (.lit 9223372036854775807)) (fun h2 => ?_) (fun h2 => ?_)
  · skip
    refine way_cut (.cmp .eq (.op .max (.lit (-2147483648)) (.op .min (.lit 2147483647) (.app 2 (.cons (.op .mul (.var 1) (.lit 65536)) (.cons (.lit 1) .nil))))) (.op .max (.lit (-2147483648)) (.op .min (.lit 2147483647) (.op .mul (.var 1) (.lit 65536))))) (fun h3 => way_leaf fixedsWide_n5 ⟨rfl, rfl⟩) (fun h3 => ?_)
    refine way_leaf fixedsWide_n6 ?_
    simp only [nm, G, wG, xG3, xG4, xG5, xG6, xG7, xG8, xG9] at *; exfalso; (try simp only [near_one] at *); first | exact absurd trivial ‹¬True› | omega
  refine way_cut (.cmp .eq (.lit 2147483647) (.op .max (.lit (-2147483648)) (.op .min (.lit 2147483647) (.op .mul (.var 1) (.lit 65536))))) (fun h3 => way_leaf fixedsWide_n8 ⟨rfl, rfl⟩) (fun h3 => ?_)
  refine way_leaf fixedsWide_n9 ?_
  simp only [nm, G, wG, xG3, xG4, xG5, xG6, xG7, xG8, xG9] at *; exfalso; (try simp only [near_one] at *); first | exact absurd trivial ‹¬True› | omega
end Go.Proofs.YtnffpaenalccaaaDoor
