/- What is proved: the statement ColoursHeld, for every input, with no condition. -/
import Derived.Test.YtldoimianllcdaaLh
import Derived.Test.YtldoimianllcdaaL
import Derived.Test.YtldoimianllcdaaRows
import Derived.Test.YtldoimianllcdaaChecked
set_option linter.unusedSimpArgs false
set_option linter.unusedVariables false
namespace Go.Proofs.Ytldoimianllcdaa
open Go.ChangeShapes Go.WideShapes Go.ChangeAt Go.RowKit

theorem coloursHeld_own : ownKnob Try.prog.godebug = none := by kernel_rfl
theorem coloursHeld_laidOut : laidOutB Try.prog = true := by kernel_rfl
set_option maxRecDepth 100000 in
theorem coloursHeld_lifted (os : Os) (started : os.Started) (H : Type) (enc : TypeId × Value → H) :
    ReturnsInHanded {} Try.checked os 5 .any (Rows.coloursHeldSpec.pre6 enc Try.prog Try.f5 Rows.coloursHeldRow.domain false) (Rows.coloursHeldSpec.post enc Try.prog Try.f5 false true false false) := by
  refine law_lifted (C := Try.checked) (B := 4) coloursHeld_own started (by kernel_rfl) Try.func5 coloursHeld_laidOut ?_ rfl Try.underlying4 rfl ?_
    (ChangeSpec.witness6 (enc := enc) (C := Try.checked) false ⟨#[], #[(.agg #[.int .u8 0, .int .u8 0]), (.agg #[.int .i32 0, .int .i32 0, .int .i32 0, .int .i32 0])], []⟩ 8 (by kernel_rfl) (by kernel_rfl) (by kernel_rfl) (by kernel_rfl)) ?_
  · intro t ht
    have hall : (Try.f5.params.toList.all fun t => Try.prog.readableRec t && decide (t < Try.prog.types.size)) = true := by kernel_rfl
    have hq := List.all_eq_true.1 hall t ht
    rw [Bool.and_eq_true, decide_eq_true_eq] at hq
    exact hq
  · intro ds hd
    obtain ⟨d0, d1, rfl⟩ := list2 (show ds.length = 2 from hd)
    rfl
  · intro W base args ds p hsz hval hA
    replace hval : ∀ (j : Nat) t v, Try.f5.params[j]? = some t → args[j]? = some v → Value.okWide Try.prog W .any base t v := hval
    obtain ⟨v0, v1, rfl⟩ := args2 (show args.size = 2 from hsz)
    rw [Try.params5] at hval
    obtain ⟨f0, rfl, f0b⟩ := open_flat (k := .u8) (n := 2) (by kernel_rfl) (by kernel_rfl) (by kernel_rfl) (hval 0 23 v0 rfl rfl)
    obtain ⟨f1, rfl, f1b⟩ := open_flat (k := .i32) (n := 4) (by kernel_rfl) (by kernel_rfl) (by kernel_rfl) (hval 1 25 v1 rfl rfl)
    exact coloursHeld_any (f0 0) (f0 1) (f1 0) (f1 1) (f1 2) (f1 3) (show 0 ≤ f0 0 ∧ f0 0 ≤ 255 from f0b 0 (by decide)) (show 0 ≤ f0 1 ∧ f0 1 ≤ 255 from f0b 1 (by decide)) (show (-2147483648) ≤ f1 0 ∧ f1 0 ≤ 2147483647 from f1b 0 (by decide)) (show (-2147483648) ≤ f1 1 ∧ f1 1 ≤ 2147483647 from f1b 1 (by decide)) (show (-2147483648) ≤ f1 2 ∧ f1 2 ≤ 2147483647 from f1b 2 (by decide)) (show (-2147483648) ≤ f1 3 ∧ f1 3 ≤ 2147483647 from f1b 3 (by decide)) W (Sx.wok_nil W)

theorem coloursHeld_holds : Rows.ColoursHeldSaid :=
  OpenClaim.holds_of_wide 5 Try.f5 rfl rfl rfl rfl rfl rfl rfl ⟨rfl, rfl, rfl, rfl, rfl⟩ rfl rfl rfl rfl rfl (by kernel_rfl) Try.func5 (by kernel_rfl)
    (of_decide_eq_true (by kernel_rfl)) (by unfold Func.isWrapper; first | (rw [if_pos (by decide +kernel)]; kernel_rfl) | (rw [if_neg (by decide +kernel)]; exact ⟨rfl, rfl⟩))
    (fun os started H enc _ => coloursHeld_lifted os started H enc)
#print axioms coloursHeld_holds
end Go.Proofs.Ytldoimianllcdaa
