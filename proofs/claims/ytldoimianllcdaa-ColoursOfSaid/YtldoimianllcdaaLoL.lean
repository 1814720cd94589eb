/- What is proved: the statement ColoursOf, for every input, with no condition. -/
import Derived.Test.YtldoimianllcdaaLo
import Derived.Test.YtldoimianllcdaaL
import Derived.Test.YtldoimianllcdaaRows
import Derived.Test.YtldoimianllcdaaChecked
set_option linter.unusedSimpArgs false
set_option linter.unusedVariables false
namespace Go.Proofs.Ytldoimianllcdaa
open Go.ChangeShapes Go.WideShapes Go.ChangeAt Go.RowKit

theorem coloursOf_own : ownKnob Try.prog.godebug = none := by kernel_rfl
theorem coloursOf_laidOut : laidOutB Try.prog = true := by kernel_rfl
set_option maxRecDepth 100000 in
theorem coloursOf_lifted (os : Os) (started : os.Started) (H : Type) (enc : TypeId × Value → H) :
    ReturnsInHanded {} Try.checked os 3 .any (Rows.coloursOfSpec.pre6 enc Try.prog Try.f3 Rows.coloursOfRow.domain false) (Rows.coloursOfSpec.post enc Try.prog Try.f3 false true false false) := by
  refine law_lifted (C := Try.checked) (B := 4) coloursOf_own started (by kernel_rfl) Try.func3 coloursOf_laidOut ?_ rfl Try.underlying4 rfl ?_
    (ChangeSpec.witness6 (enc := enc) (C := Try.checked) false ⟨#[], #[(.agg #[.int .u8 0, .int .u8 0]), (.agg #[.int .i32 0, .int .i32 0, .int .i32 0, .int .i32 0]), (.agg #[.int .u8 0, .int .u8 0, .int .i64 0])], []⟩ 8 (by kernel_rfl) (by kernel_rfl) (by kernel_rfl) (by kernel_rfl)) ?_
  · intro t ht
    have hall : (Try.f3.params.toList.all fun t => Try.prog.readableRec t && decide (t < Try.prog.types.size)) = true := by kernel_rfl
    have hq := List.all_eq_true.1 hall t ht
    rw [Bool.and_eq_true, decide_eq_true_eq] at hq
    exact hq
  · intro ds hd
    obtain ⟨d0, d1, d2, rfl⟩ := list3 (show ds.length = 3 from hd)
    rfl
  · intro W base args ds p hsz hval hA
    replace hval : ∀ (j : Nat) t v, Try.f3.params[j]? = some t → args[j]? = some v → Value.okWide Try.prog W .any base t v := hval
    obtain ⟨v0, v1, v2, rfl⟩ := args3 (show args.size = 3 from hsz)
    rw [Try.params3] at hval
    obtain ⟨f0, rfl, f0b⟩ := open_flat (k := .u8) (n := 2) (by kernel_rfl) (by kernel_rfl) (by kernel_rfl) (hval 0 23 v0 rfl rfl)
    obtain ⟨f1, rfl, f1b⟩ := open_flat (k := .i32) (n := 4) (by kernel_rfl) (by kernel_rfl) (by kernel_rfl) (hval 1 25 v1 rfl rfl)
    obtain ⟨f2, rfl, f2b⟩ := open_kinds [.u8, .u8, .i64] (by kernel_rfl) (by kernel_rfl) (by kernel_rfl) (hval 2 27 v2 rfl rfl)
    exact coloursOf_any (f0 0) (f0 1) (f1 0) (f1 1) (f1 2) (f1 3) (f2 0) (f2 1) (f2 2) (show 0 ≤ f0 0 ∧ f0 0 ≤ 255 from f0b 0 (by decide)) (show 0 ≤ f0 1 ∧ f0 1 ≤ 255 from f0b 1 (by decide)) (show (-2147483648) ≤ f1 0 ∧ f1 0 ≤ 2147483647 from f1b 0 (by decide)) (show (-2147483648) ≤ f1 1 ∧ f1 1 ≤ 2147483647 from f1b 1 (by decide)) (show (-2147483648) ≤ f1 2 ∧ f1 2 ≤ 2147483647 from f1b 2 (by decide)) (show (-2147483648) ≤ f1 3 ∧ f1 3 ≤ 2147483647 from f1b 3 (by decide)) (show 0 ≤ f2 0 ∧ f2 0 ≤ 255 from f2b 0 .u8 rfl) (show 0 ≤ f2 1 ∧ f2 1 ≤ 255 from f2b 1 .u8 rfl) (show (-9223372036854775808) ≤ f2 2 ∧ f2 2 ≤ 9223372036854775807 from f2b 2 .i64 rfl) W (Sx.wok_nil W)

theorem coloursOf_holds : Rows.ColoursOfSaid :=
  OpenClaim.holds_of_wide 3 Try.f3 rfl rfl rfl rfl rfl rfl rfl ⟨rfl, rfl, rfl, rfl, rfl⟩ rfl rfl rfl rfl rfl (by kernel_rfl) Try.func3 (by kernel_rfl)
    (of_decide_eq_true (by kernel_rfl)) (by unfold Func.isWrapper; first | (rw [if_pos (by decide +kernel)]; kernel_rfl) | (rw [if_neg (by decide +kernel)]; exact ⟨rfl, rfl⟩))
    (fun os started H enc _ => coloursOf_lifted os started H enc)
#print axioms coloursOf_holds
end Go.Proofs.Ytldoimianllcdaa
