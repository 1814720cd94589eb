/- What is proved: the statement EdgesSum, for every input, with no condition. -/
import Derived.Test.YtoighnoliehafaaSum
import Derived.Test.YtoighnoliehafaaL
namespace Go.Proofs.Ytoighnoliehafaa
open Go.ChangeShapes Go.WideShapes Go.ChangeAt Go.RowKit

theorem edgesSum_own : ownKnob Try.prog.godebug = none := by kernel_rfl
theorem edgesSum_laidOut : laidOutB Try.prog = true := by kernel_rfl
set_option maxRecDepth 100000 in
theorem edgesSum_lifted (os : Os) (started : os.Started) (H : Type) (enc : TypeId × Value → H) :
    ReturnsInHanded {} Try.checked os 6 .any (Rows.edgesSumSpec.pre6 enc Try.prog Try.f6 Rows.edgesSumRow.domain false) (Rows.edgesSumSpec.post enc Try.prog Try.f6 false true false false) := by
  refine law_lifted (C := Try.checked) (B := 4) edgesSum_own started (by kernel_rfl) Try.func6 edgesSum_laidOut ?_ rfl Try.underlying4 rfl ?_
    (ChangeSpec.witness6 (enc := enc) (C := Try.checked) false ⟨#[], #[.agg #[.int .i64 0, .int .i64 0, .int .i64 0, .int .i64 0, .int .i64 0, .int .i64 0], .agg #[.int .i64 0, .int .i64 0]], []⟩ 8 (by kernel_rfl) (by kernel_rfl) (by kernel_rfl) (by kernel_rfl)) ?_
  · intro t ht
    have hall : (Try.f6.params.toList.all fun t => Try.prog.readableRec t && decide (t < Try.prog.types.size)) = true := by kernel_rfl
    have hq := List.all_eq_true.1 hall t ht
    rw [Bool.and_eq_true, decide_eq_true_eq] at hq
    exact hq
  · intro ds hd
    obtain ⟨d0, d1, rfl⟩ := list2 (show ds.length = 2 from hd)
    rfl
  · intro W base args ds p hsz hval hA
    replace hval : ∀ (j : Nat) t v, Try.f6.params[j]? = some t → args[j]? = some v → Value.okWide Try.prog W .any base t v := hval
    obtain ⟨v0, v1, rfl⟩ := args2 (show args.size = 2 from hsz)
    rw [Try.params6] at hval
    obtain ⟨f, rfl, fb⟩ := open_flat (k := .i64) (n := 6) (by kernel_rfl) (by kernel_rfl) (by kernel_rfl) (hval 0 24 v0 rfl rfl)
    obtain ⟨g, rfl, gb⟩ := open_flat (k := .i64) (n := 2) (by kernel_rfl) (by kernel_rfl) (by kernel_rfl) (hval 1 23 v1 rfl rfl)
    exact sum_any ⟨f 0, f 1⟩ ⟨f 2, f 3⟩ ⟨f 4, f 5⟩ ⟨g 0, g 1⟩ W

theorem edgesSum_holds : Rows.EdgesSumSaid :=
  OpenClaim.holds_of_wide 6 Try.f6 rfl rfl rfl rfl rfl rfl rfl ⟨rfl, rfl, rfl, rfl, rfl⟩ rfl rfl rfl rfl rfl (by kernel_rfl) Try.func6 (by kernel_rfl)
    (of_decide_eq_true (by kernel_rfl)) (by unfold Func.isWrapper; first | (rw [if_pos (by decide +kernel)]; kernel_rfl) | (rw [if_neg (by decide +kernel)]; exact ⟨rfl, rfl⟩))
    (fun os started H enc _ => edgesSum_lifted os started H enc)
#print axioms edgesSum_holds
end Go.Proofs.Ytoighnoliehafaa
