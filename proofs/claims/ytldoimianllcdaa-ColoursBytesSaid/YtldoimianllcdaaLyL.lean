/- What is proved: the statement ColoursBytes, for every input, with no condition. -/
import Derived.Test.YtldoimianllcdaaLy
import Derived.Test.YtldoimianllcdaaL
import Derived.Test.YtldoimianllcdaaRows
import Derived.Test.YtldoimianllcdaaChecked
set_option linter.unusedSimpArgs false
set_option linter.unusedVariables false
namespace Go.Proofs.Ytldoimianllcdaa
open Go.ChangeShapes Go.WideShapes Go.ChangeAt Go.RowKit

theorem coloursBytes_own : ownKnob Try.prog.godebug = none := by kernel_rfl
theorem coloursBytes_laidOut : laidOutB Try.prog = true := by kernel_rfl
set_option maxRecDepth 100000 in
theorem coloursBytes_lifted (os : Os) (started : os.Started) (H : Type) (enc : TypeId × Value → H) :
    ReturnsInHanded {} Try.checked os 7 .any (Rows.coloursBytesSpec.pre6 enc Try.prog Try.f7 Rows.coloursBytesRow.domain false) (Rows.coloursBytesSpec.post enc Try.prog Try.f7 false true false false) := by
  refine law_lifted (C := Try.checked) (B := 4) coloursBytes_own started (by kernel_rfl) Try.func7 coloursBytes_laidOut ?_ rfl Try.underlying4 rfl ?_
    (ChangeSpec.witness6 (enc := enc) (C := Try.checked) false ⟨#[], #[.int .i32 0, .int .i32 0, .int .u8 0], []⟩ 8 (by kernel_rfl) (by kernel_rfl) (by kernel_rfl) (by kernel_rfl)) ?_
  · intro t ht
    have hall : (Try.f7.params.toList.all fun t => Try.prog.readableRec t && decide (t < Try.prog.types.size)) = true := by kernel_rfl
    have hq := List.all_eq_true.1 hall t ht
    rw [Bool.and_eq_true, decide_eq_true_eq] at hq
    exact hq
  · intro ds hd
    obtain ⟨d0, d1, d2, rfl⟩ := list3 (show ds.length = 3 from hd)
    rfl
  · intro W base args ds p hsz hval hA
    replace hval : ∀ (j : Nat) t v, Try.f7.params[j]? = some t → args[j]? = some v → Value.okWide Try.prog W .any base t v := hval
    obtain ⟨v0, v1, v2, rfl⟩ := args3 (show args.size = 3 from hsz)
    rw [Try.params7] at hval
    obtain ⟨n0, rfl, n0b⟩ := open_int (k := .i32) (by kernel_rfl) (hval 0 24 v0 rfl rfl)
    obtain ⟨n1, rfl, n1b⟩ := open_int (k := .i32) (by kernel_rfl) (hval 1 24 v1 rfl rfl)
    obtain ⟨n2, rfl, n2b⟩ := open_int (k := .u8) (by kernel_rfl) (hval 2 5 v2 rfl rfl)
    exact coloursBytes_any n0 n1 n2 (show (-2147483648) ≤ n0 ∧ n0 ≤ 2147483647 from n0b) (show (-2147483648) ≤ n1 ∧ n1 ≤ 2147483647 from n1b) (show 0 ≤ n2 ∧ n2 ≤ 255 from n2b) W (Sx.wok_nil W)

theorem coloursBytes_holds : Rows.ColoursBytesSaid :=
  OpenClaim.holds_of_wide 7 Try.f7 rfl rfl rfl rfl rfl rfl rfl ⟨rfl, rfl, rfl, rfl, rfl⟩ rfl rfl rfl rfl rfl (by kernel_rfl) Try.func7 (by kernel_rfl)
    (of_decide_eq_true (by kernel_rfl)) (by unfold Func.isWrapper; first | (rw [if_pos (by decide +kernel)]; kernel_rfl) | (rw [if_neg (by decide +kernel)]; exact ⟨rfl, rfl⟩))
    (fun os started H enc _ => coloursBytes_lifted os started H enc)
#print axioms coloursBytes_holds
end Go.Proofs.Ytldoimianllcdaa
