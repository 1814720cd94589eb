/- What is proved: the statement PathsStraight, for every input, with no condition. -/
import Derived.Test.YthiehfhphgkaeaaQPStraightF
import Derived.Test.YthiehfhphgkaeaaQg5
import Derived.Test.YthiehfhphgkaeaaRows
import Derived.Test.YthiehfhphgkaeaaChecked
set_option linter.unusedSimpArgs false
set_option linter.unusedVariables false
namespace Go.Proofs.Ythiehfhphgkaeaa
open Go.ChangeShapes Go.WideShapes Go.ChangeAt Go.RowKit

theorem pathsStraight_own : ownKnob Try.prog.godebug = none := by kernel_rfl
theorem pathsStraight_laidOut : laidOutB Try.prog = true := by kernel_rfl
set_option maxRecDepth 100000 in
theorem pathsStraight_lifted (os : Os) (started : os.Started) (H : Type) (enc : TypeId × Value → H) :
    ReturnsInHanded {} Try.checked os 6 .any (Rows.pathsStraightSpec.pre6 enc Try.prog Try.f6 Rows.pathsStraightRow.domain false) (Rows.pathsStraightSpec.post enc Try.prog Try.f6 false true false false) := by
  refine law_lifted (C := Try.checked) (B := 4) pathsStraight_own started (by kernel_rfl) Try.func6 pathsStraight_laidOut ?_ rfl Try.underlying4 rfl ?_
    (ChangeSpec.witness6 (enc := enc) (C := Try.checked) false ⟨#[], #[.int .i32 0, .int .i32 0, (.agg #[.int .i16 0, .int .i16 0])], []⟩ 8 (by kernel_rfl) (by kernel_rfl) (by kernel_rfl) (by kernel_rfl)) ?_
  · intro t ht
    have hall : (Try.f6.params.toList.all fun t => Try.prog.readableRec t && decide (t < Try.prog.types.size)) = true := by kernel_rfl
    have hq := List.all_eq_true.1 hall t ht
    rw [Bool.and_eq_true, decide_eq_true_eq] at hq
    exact hq
  · intro ds hd
    obtain ⟨d0, d1, d2, rfl⟩ := list3 (show ds.length = 3 from hd)
    rfl
  · intro W base args ds p hsz hval hA
    replace hval : ∀ (j : Nat) t v, Try.f6.params[j]? = some t → args[j]? = some v → Value.okWide Try.prog W .any base t v := hval
    obtain ⟨v0, v1, v2, rfl⟩ := args3 (show args.size = 3 from hsz)
    rw [Try.params6] at hval
    obtain ⟨n0, rfl, n0b⟩ := open_int (k := .i32) (by kernel_rfl) (hval 0 21 v0 rfl rfl)
    obtain ⟨n1, rfl, n1b⟩ := open_int (k := .i32) (by kernel_rfl) (hval 1 21 v1 rfl rfl)
    obtain ⟨f2, rfl, f2b⟩ := open_flat (k := .i16) (n := 2) (by kernel_rfl) (by kernel_rfl) (by kernel_rfl) (hval 2 41 v2 rfl rfl)
    exact pathsStraight_any n0 n1 (f2 0) (f2 1) (show (-2147483648) ≤ n0 ∧ n0 ≤ 2147483647 from n0b) (show (-2147483648) ≤ n1 ∧ n1 ≤ 2147483647 from n1b) (show (-32768) ≤ f2 0 ∧ f2 0 ≤ 32767 from f2b 0 (by decide)) (show (-32768) ≤ f2 1 ∧ f2 1 ≤ 32767 from f2b 1 (by decide)) W (Sx.wok_nil W)

theorem pathsStraight_holds : Rows.PathsStraightSaid :=
  OpenClaim.holds_of_wide 6 Try.f6 rfl rfl rfl rfl rfl rfl rfl ⟨rfl, rfl, rfl, rfl, rfl⟩ rfl rfl rfl rfl rfl (by kernel_rfl) Try.func6 (by kernel_rfl)
    (of_decide_eq_true (by kernel_rfl)) (by unfold Func.isWrapper; first | (rw [if_pos (by decide +kernel)]; kernel_rfl) | (rw [if_neg (by decide +kernel)]; exact ⟨rfl, rfl⟩))
    (fun os started H enc _ => pathsStraight_lifted os started H enc)
#print axioms pathsStraight_holds
end Go.Proofs.Ythiehfhphgkaeaa
