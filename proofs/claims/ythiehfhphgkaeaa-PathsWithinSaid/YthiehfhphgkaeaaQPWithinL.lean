/- What is proved: the statement PathsWithin, for every input, with no condition. -/
import Derived.Test.YthiehfhphgkaeaaQPWithinF
import Derived.Test.YthiehfhphgkaeaaQg5
import Derived.Test.YthiehfhphgkaeaaRows
import Derived.Test.YthiehfhphgkaeaaChecked
set_option linter.unusedSimpArgs false
set_option linter.unusedVariables false
namespace Go.Proofs.Ythiehfhphgkaeaa
open Go.ChangeShapes Go.WideShapes Go.ChangeAt Go.RowKit

theorem pathsWithin_own : ownKnob Try.prog.godebug = none := by kernel_rfl
theorem pathsWithin_laidOut : laidOutB Try.prog = true := by kernel_rfl
set_option maxRecDepth 100000 in
theorem pathsWithin_lifted (os : Os) (started : os.Started) (H : Type) (enc : TypeId × Value → H) :
    ReturnsInHanded {} Try.checked os 4 .any (Rows.pathsWithinSpec.pre6 enc Try.prog Try.f4 Rows.pathsWithinRow.domain false) (Rows.pathsWithinSpec.post enc Try.prog Try.f4 false true false false) := by
  refine law_lifted (C := Try.checked) (B := 4) pathsWithin_own started (by kernel_rfl) Try.func4 pathsWithin_laidOut ?_ rfl Try.underlying4 rfl ?_
    (ChangeSpec.witness6 (enc := enc) (C := Try.checked) false ⟨#[], #[(.agg #[.int .i32 0, .int .i32 0, .int .i32 0, .int .i32 0, .int .i32 0, .int .i32 0, .int .i32 0, .int .i32 0])], []⟩ 8 (by kernel_rfl) (by kernel_rfl) (by kernel_rfl) (by kernel_rfl)) ?_
  · intro t ht
    have hall : (Try.f4.params.toList.all fun t => Try.prog.readableRec t && decide (t < Try.prog.types.size)) = true := by kernel_rfl
    have hq := List.all_eq_true.1 hall t ht
    rw [Bool.and_eq_true, decide_eq_true_eq] at hq
    exact hq
  · intro ds hd
    obtain ⟨d0, rfl⟩ := list1 (show ds.length = 1 from hd)
    rfl
  · intro W base args ds p hsz hval hA
    replace hval : ∀ (j : Nat) t v, Try.f4.params[j]? = some t → args[j]? = some v → Value.okWide Try.prog W .any base t v := hval
    obtain ⟨v0, rfl⟩ := args1 (show args.size = 1 from hsz)
    rw [Try.params4] at hval
    obtain ⟨f0, rfl, f0b⟩ := open_flat (k := .i32) (n := 8) (by kernel_rfl) (by kernel_rfl) (by kernel_rfl) (hval 0 23 v0 rfl rfl)
    exact pathsWithin_any (f0 0) (f0 1) (f0 2) (f0 3) (f0 4) (f0 5) (f0 6) (f0 7) (show (-2147483648) ≤ f0 0 ∧ f0 0 ≤ 2147483647 from f0b 0 (by decide)) (show (-2147483648) ≤ f0 1 ∧ f0 1 ≤ 2147483647 from f0b 1 (by decide)) (show (-2147483648) ≤ f0 2 ∧ f0 2 ≤ 2147483647 from f0b 2 (by decide)) (show (-2147483648) ≤ f0 3 ∧ f0 3 ≤ 2147483647 from f0b 3 (by decide)) (show (-2147483648) ≤ f0 4 ∧ f0 4 ≤ 2147483647 from f0b 4 (by decide)) (show (-2147483648) ≤ f0 5 ∧ f0 5 ≤ 2147483647 from f0b 5 (by decide)) (show (-2147483648) ≤ f0 6 ∧ f0 6 ≤ 2147483647 from f0b 6 (by decide)) (show (-2147483648) ≤ f0 7 ∧ f0 7 ≤ 2147483647 from f0b 7 (by decide)) W (Sx.wok_nil W)

theorem pathsWithin_holds : Rows.PathsWithinSaid :=
  OpenClaim.holds_of_wide 4 Try.f4 rfl rfl rfl rfl rfl rfl rfl ⟨rfl, rfl, rfl, rfl, rfl⟩ rfl rfl rfl rfl rfl (by kernel_rfl) Try.func4 (by kernel_rfl)
    (of_decide_eq_true (by kernel_rfl)) (by unfold Func.isWrapper; first | (rw [if_pos (by decide +kernel)]; kernel_rfl) | (rw [if_neg (by decide +kernel)]; exact ⟨rfl, rfl⟩))
    (fun os started H enc _ => pathsWithin_lifted os started H enc)
#print axioms pathsWithin_holds
end Go.Proofs.Ythiehfhphgkaeaa
