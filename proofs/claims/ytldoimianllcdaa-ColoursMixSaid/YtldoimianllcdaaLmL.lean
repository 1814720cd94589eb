/- What is proved: the statement ColoursMix, for every input, with no condition. -/
import Derived.Test.YtldoimianllcdaaLm
import Derived.Test.YtldoimianllcdaaL
import Derived.Test.YtldoimianllcdaaRows
import Derived.Test.YtldoimianllcdaaChecked
set_option linter.unusedSimpArgs false
set_option linter.unusedVariables false
namespace Go.Proofs.Ytldoimianllcdaa
open Go.ChangeShapes Go.WideShapes Go.ChangeAt Go.RowKit

theorem coloursMix_own : ownKnob Try.prog.godebug = none := by kernel_rfl
theorem coloursMix_laidOut : laidOutB Try.prog = true := by kernel_rfl
set_option maxRecDepth 100000 in
theorem coloursMix_lifted (os : Os) (started : os.Started) (H : Type) (enc : TypeId × Value → H) :
    ReturnsInHanded {} Try.checked os 8 .any (Rows.coloursMixSpec.pre6 enc Try.prog Try.f8 Rows.coloursMixRow.domain false) (Rows.coloursMixSpec.post enc Try.prog Try.f8 false true false false) := by
  refine law_lifted (C := Try.checked) (B := 4) coloursMix_own started (by kernel_rfl) Try.func8 coloursMix_laidOut ?_ rfl Try.underlying4 rfl ?_
    (ChangeSpec.witness6 (enc := enc) (C := Try.checked) false ⟨#[], #[(.agg #[.int .u8 0, .int .u8 0, .int .i64 0]), .int .u8 0], []⟩ 8 (by kernel_rfl) (by kernel_rfl) (by kernel_rfl) (by kernel_rfl)) ?_
  · intro t ht
    have hall : (Try.f8.params.toList.all fun t => Try.prog.readableRec t && decide (t < Try.prog.types.size)) = true := by kernel_rfl
    have hq := List.all_eq_true.1 hall t ht
    rw [Bool.and_eq_true, decide_eq_true_eq] at hq
    exact hq
  · intro ds hd
    obtain ⟨d0, d1, rfl⟩ := list2 (show ds.length = 2 from hd)
    rfl
  · intro W base args ds p hsz hval hA
    replace hval : ∀ (j : Nat) t v, Try.f8.params[j]? = some t → args[j]? = some v → Value.okWide Try.prog W .any base t v := hval
    obtain ⟨v0, v1, rfl⟩ := args2 (show args.size = 2 from hsz)
    rw [Try.params8] at hval
    obtain ⟨f0, rfl, f0b⟩ := open_kinds [.u8, .u8, .i64] (by kernel_rfl) (by kernel_rfl) (by kernel_rfl) (hval 0 27 v0 rfl rfl)
    obtain ⟨n1, rfl, n1b⟩ := open_int (k := .u8) (by kernel_rfl) (hval 1 5 v1 rfl rfl)
    exact coloursMix_any (f0 0) (f0 1) (f0 2) n1 (show 0 ≤ f0 0 ∧ f0 0 ≤ 255 from f0b 0 .u8 rfl) (show 0 ≤ f0 1 ∧ f0 1 ≤ 255 from f0b 1 .u8 rfl) (show (-9223372036854775808) ≤ f0 2 ∧ f0 2 ≤ 9223372036854775807 from f0b 2 .i64 rfl) (show 0 ≤ n1 ∧ n1 ≤ 255 from n1b) W (Sx.wok_nil W)

theorem coloursMix_holds : Rows.ColoursMixSaid :=
  OpenClaim.holds_of_wide 8 Try.f8 rfl rfl rfl rfl rfl rfl rfl ⟨rfl, rfl, rfl, rfl, rfl⟩ rfl rfl rfl rfl rfl (by kernel_rfl) Try.func8 (by kernel_rfl)
    (of_decide_eq_true (by kernel_rfl)) (by unfold Func.isWrapper; first | (rw [if_pos (by decide +kernel)]; kernel_rfl) | (rw [if_neg (by decide +kernel)]; exact ⟨rfl, rfl⟩))
    (fun os started H enc _ => coloursMix_lifted os started H enc)
#print axioms coloursMix_holds
end Go.Proofs.Ytldoimianllcdaa
