/- What is proved: the statement BeziersEdge, for every input, with no condition. -/
import Derived.Test.YtnhhphdhkgjbhaaQLe
import Derived.Test.YtnhhphdhkgjbhaaQg3
import Derived.Test.YtnhhphdhkgjbhaaRows
import Derived.Test.YtnhhphdhkgjbhaaChecked
set_option linter.unusedSimpArgs false
set_option linter.unusedVariables false
namespace Go.Proofs.Ytnhhphdhkgjbhaa
open Go.ChangeShapes Go.WideShapes Go.ChangeAt Go.RowKit

theorem beziersEdge_own : ownKnob Try.prog.godebug = none := by kernel_rfl
theorem beziersEdge_laidOut : laidOutB Try.prog = true := by kernel_rfl
set_option maxRecDepth 100000 in
theorem beziersEdge_lifted (os : Os) (started : os.Started) (H : Type) (enc : TypeId × Value → H) :
    ReturnsInHanded {} Try.checked os 3 .any (Rows.beziersEdgeSpec.pre6 enc Try.prog Try.f3 Rows.beziersEdgeRow.domain false) (Rows.beziersEdgeSpec.post enc Try.prog Try.f3 false true false false) := by
  refine law_lifted (C := Try.checked) (B := 4) beziersEdge_own started (by kernel_rfl) Try.func3 beziersEdge_laidOut ?_ rfl Try.underlying4 rfl ?_
    (ChangeSpec.witness6 (enc := enc) (C := Try.checked) false ⟨#[], #[(.agg #[.int .i64 0, .int .i64 0, .int .i64 0, .int .i64 0, .int .i64 0, .int .i64 0, .int .i64 0, .int .i64 0]), (.agg #[.int .i64 0, .int .i64 0, .int .i64 0])], []⟩ 8 (by kernel_rfl) (by kernel_rfl) (by kernel_rfl) (by kernel_rfl)) ?_
  · intro t ht
    have hall : (Try.f3.params.toList.all fun t => Try.prog.readableRec t && decide (t < Try.prog.types.size)) = true := by kernel_rfl
    have hq := List.all_eq_true.1 hall t ht
    rw [Bool.and_eq_true, decide_eq_true_eq] at hq
    exact hq
  · intro ds hd
    obtain ⟨d0, d1, rfl⟩ := list2 (show ds.length = 2 from hd)
    rfl
  · intro W base args ds p hsz hval hA
    replace hval : ∀ (j : Nat) t v, Try.f3.params[j]? = some t → args[j]? = some v → Value.okWide Try.prog W .any base t v := hval
    obtain ⟨v0, v1, rfl⟩ := args2 (show args.size = 2 from hsz)
    rw [Try.params3] at hval
    obtain ⟨f0, rfl, f0b⟩ := open_flat (k := .i64) (n := 8) (by kernel_rfl) (by kernel_rfl) (by kernel_rfl) (hval 0 24 v0 rfl rfl)
    obtain ⟨f1, rfl, f1b⟩ := open_flat (k := .i64) (n := 3) (by kernel_rfl) (by kernel_rfl) (by kernel_rfl) (hval 1 26 v1 rfl rfl)
    exact beziersEdge_any (f0 0) (f0 1) (f0 2) (f0 3) (f0 4) (f0 5) (f0 6) (f0 7) (f1 0) (f1 1) (f1 2) (show (-9223372036854775808) ≤ f0 0 ∧ f0 0 ≤ 9223372036854775807 from f0b 0 (by decide)) (show (-9223372036854775808) ≤ f0 1 ∧ f0 1 ≤ 9223372036854775807 from f0b 1 (by decide)) (show (-9223372036854775808) ≤ f0 2 ∧ f0 2 ≤ 9223372036854775807 from f0b 2 (by decide)) (show (-9223372036854775808) ≤ f0 3 ∧ f0 3 ≤ 9223372036854775807 from f0b 3 (by decide)) (show (-9223372036854775808) ≤ f0 4 ∧ f0 4 ≤ 9223372036854775807 from f0b 4 (by decide)) (show (-9223372036854775808) ≤ f0 5 ∧ f0 5 ≤ 9223372036854775807 from f0b 5 (by decide)) (show (-9223372036854775808) ≤ f0 6 ∧ f0 6 ≤ 9223372036854775807 from f0b 6 (by decide)) (show (-9223372036854775808) ≤ f0 7 ∧ f0 7 ≤ 9223372036854775807 from f0b 7 (by decide)) (show (-9223372036854775808) ≤ f1 0 ∧ f1 0 ≤ 9223372036854775807 from f1b 0 (by decide)) (show (-9223372036854775808) ≤ f1 1 ∧ f1 1 ≤ 9223372036854775807 from f1b 1 (by decide)) (show (-9223372036854775808) ≤ f1 2 ∧ f1 2 ≤ 9223372036854775807 from f1b 2 (by decide)) W (Sx.wok_nil W)

theorem beziersEdge_holds : Rows.BeziersEdgeSaid :=
  OpenClaim.holds_of_wide 3 Try.f3 rfl rfl rfl rfl rfl rfl rfl ⟨rfl, rfl, rfl, rfl, rfl⟩ rfl rfl rfl rfl rfl (by kernel_rfl) Try.func3 (by kernel_rfl)
    (of_decide_eq_true (by kernel_rfl)) (by unfold Func.isWrapper; first | (rw [if_pos (by decide +kernel)]; kernel_rfl) | (rw [if_neg (by decide +kernel)]; exact ⟨rfl, rfl⟩))
    (fun os started H enc _ => beziersEdge_lifted os started H enc)
#print axioms beziersEdge_holds
end Go.Proofs.Ytnhhphdhkgjbhaa
