/- What is proved: the statement ColoursEnds, for every input, with no condition. -/
import Derived.Test.YtldoimianllcdaaLe
import Derived.Test.YtldoimianllcdaaL
import Derived.Test.YtldoimianllcdaaRows
import Derived.Test.YtldoimianllcdaaChecked
set_option linter.unusedSimpArgs false
set_option linter.unusedVariables false
namespace Go.Proofs.Ytldoimianllcdaa
open Go.ChangeShapes Go.WideShapes Go.ChangeAt Go.RowKit

theorem coloursEnds_own : ownKnob Try.prog.godebug = none := by kernel_rfl
theorem coloursEnds_laidOut : laidOutB Try.prog = true := by kernel_rfl
set_option maxRecDepth 100000 in
theorem coloursEnds_lifted (os : Os) (started : os.Started) (H : Type) (enc : TypeId × Value → H) :
    ReturnsInHanded {} Try.checked os 6 .any (Rows.coloursEndsSpec.pre6 enc Try.prog Try.f6 Rows.coloursEndsRow.domain false) (Rows.coloursEndsSpec.post enc Try.prog Try.f6 false true false false) := by
  refine law_lifted (C := Try.checked) (B := 4) coloursEnds_own started (by kernel_rfl) Try.func6 coloursEnds_laidOut ?_ rfl Try.underlying4 rfl ?_
    (ChangeSpec.witness6 (enc := enc) (C := Try.checked) false ⟨#[], #[(.agg #[.int .u8 0, .int .u8 0])], []⟩ 8 (by kernel_rfl) (by kernel_rfl) (by kernel_rfl) (by kernel_rfl)) ?_
  · intro t ht
    have hall : (Try.f6.params.toList.all fun t => Try.prog.readableRec t && decide (t < Try.prog.types.size)) = true := by kernel_rfl
    have hq := List.all_eq_true.1 hall t ht
    rw [Bool.and_eq_true, decide_eq_true_eq] at hq
    exact hq
  · intro ds hd
    obtain ⟨d0, rfl⟩ := list1 (show ds.length = 1 from hd)
    rfl
  · intro W base args ds p hsz hval hA
    replace hval : ∀ (j : Nat) t v, Try.f6.params[j]? = some t → args[j]? = some v → Value.okWide Try.prog W .any base t v := hval
    obtain ⟨v0, rfl⟩ := args1 (show args.size = 1 from hsz)
    rw [Try.params6] at hval
    obtain ⟨f0, rfl, f0b⟩ := open_flat (k := .u8) (n := 2) (by kernel_rfl) (by kernel_rfl) (by kernel_rfl) (hval 0 23 v0 rfl rfl)
    exact coloursEnds_any (f0 0) (f0 1) (show 0 ≤ f0 0 ∧ f0 0 ≤ 255 from f0b 0 (by decide)) (show 0 ≤ f0 1 ∧ f0 1 ≤ 255 from f0b 1 (by decide)) W (Sx.wok_nil W)

theorem coloursEnds_holds : Rows.ColoursEndsSaid :=
  OpenClaim.holds_of_wide 6 Try.f6 rfl rfl rfl rfl rfl rfl rfl ⟨rfl, rfl, rfl, rfl, rfl⟩ rfl rfl rfl rfl rfl (by kernel_rfl) Try.func6 (by kernel_rfl)
    (of_decide_eq_true (by kernel_rfl)) (by unfold Func.isWrapper; first | (rw [if_pos (by decide +kernel)]; kernel_rfl) | (rw [if_neg (by decide +kernel)]; exact ⟨rfl, rfl⟩))
    (fun os started H enc _ => coloursEnds_lifted os started H enc)
#print axioms coloursEnds_holds
end Go.Proofs.Ytldoimianllcdaa
