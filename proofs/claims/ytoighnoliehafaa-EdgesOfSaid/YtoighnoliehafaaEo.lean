/- What is proved: the law EdgesOf, over all its ways: it is true. The conditions are the numbers' own bounds. -/
import Derived.Test.YtoighnoliehafaaCr
set_option linter.unusedSimpArgs false
set_option linter.unusedVariables false
namespace Go.Proofs.Ytoighnoliehafaa
open Go Go.RowKit Sx Ed
set_option maxRecDepth 100000 in
theorem edgesOf_tree : explore (fun fs => exFun Try.prog ⟨G, GI, [((-9223372036854775808), 9223372036854775807), ((-9223372036854775808), 9223372036854775807), ((-9223372036854775808), 9223372036854775807), ((-9223372036854775808), 9223372036854775807), ((-9223372036854775808), 9223372036854775807), ((-9223372036854775808), 9223372036854775807), ((-9223372036854775808), 9223372036854775807), ((-9223372036854775808), 9223372036854775807)], fs⟩ ct_rwt 4000 5 [(.agg [(.int .i64 (.var 0)), (.int .i64 (.var 1)), (.int .i64 (.var 2)), (.int .i64 (.var 3)), (.int .i64 (.var 4)), (.int .i64 (.var 5))]), (.agg [(.int .i64 (.var 6)), (.int .i64 (.var 7))])]) 60 [] =
 (.leaf (.bool (.lit true))) := by kernel_rfl
set_option maxRecDepth 100000 in
theorem edgesOf_any (x0 x1 x2 x3 x4 x5 x6 x7 : Int) (b0 : (-9223372036854775808) ≤ x0 ∧ x0 ≤ 9223372036854775807) (b1 : (-9223372036854775808) ≤ x1 ∧ x1 ≤ 9223372036854775807) (b2 : (-9223372036854775808) ≤ x2 ∧ x2 ≤ 9223372036854775807) (b3 : (-9223372036854775808) ≤ x3 ∧ x3 ≤ 9223372036854775807) (b4 : (-9223372036854775808) ≤ x4 ∧ x4 ≤ 9223372036854775807) (b5 : (-9223372036854775808) ≤ x5 ∧ x5 ≤ 9223372036854775807) (b6 : (-9223372036854775808) ≤ x6 ∧ x6 ≤ 9223372036854775807) (b7 : (-9223372036854775808) ≤ x7 ∧ x7 ≤ 9223372036854775807) (w : World) : Calls Try.prog 5 #[(.agg #[.int .i64 x0, .int .i64 x1, .int .i64 x2, .int .i64 x3, .int .i64 x4, .int .i64 x5]), (.agg #[.int .i64 x6, .int .i64 x7])] w (fun e w' => e = .returned (.bool true) ∧ Below w.heap.size w w') := by
  refine (calls_eq (tree_calls (ρ := rho [x0, x1, x2, x3, x4, x5, x6, x7]) edgesOf_tree (by kernel_rfl) (within_get ⟨b0, b1, b2, b3, b4, b5, b6, b7, trivial⟩) gi_ok (fun fs hf => ct_rwt_ok (X := ⟨G, GI, _, fs⟩) ⟨within_get ⟨b0, b1, b2, b3, b4, b5, b6, b7, trivial⟩, hf, gi_ok⟩ rfl) rfl ?_ w)).2
  exact ⟨rfl, rfl⟩
end Go.Proofs.Ytoighnoliehafaa
