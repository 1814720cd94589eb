/- What is proved: the statement FillsExact, for every input, with no condition. -/
import Derived.Test.YtoiecphddchknaaQExF
import Derived.Test.YtoiecphddchknaaQg5
import Derived.Test.YtoiecphddchknaaQLm
import Derived.Test.YtoiecphddchknaaRows
import Derived.Test.YtoiecphddchknaaChecked
set_option linter.unusedSimpArgs false
set_option linter.unusedVariables false
namespace Go.Proofs.Ytoiecphddchknaa
open Go.ChangeShapes Go.WideShapes Go.ChangeAt Go.RowKit

theorem fillsExact_own : ownKnob Try.prog.godebug = none := by kernel_rfl
theorem fillsExact_laidOut : laidOutB Try.prog = true := by kernel_rfl
set_option maxRecDepth 100000 in
theorem fillsExact_lifted (os : Os) (started : os.Started) (H : Type) (enc : TypeId × Value → H) :
    ReturnsInHanded {} Try.checked os 4 .any (Rows.fillsExactSpec.pre6 enc Try.prog Try.f4 Rows.fillsExactRow.domain false) (Rows.fillsExactSpec.post enc Try.prog Try.f4 false true false false) := by
  refine law_lifted (C := Try.checked) (B := 4) fillsExact_own started (by kernel_rfl) Try.func4 fillsExact_laidOut ?_ rfl Try.underlying4 rfl ?_
    (ChangeSpec.witness6 (enc := enc) (C := Try.checked) false ⟨#[], #[(.agg #[.int .i64 0, .int .i64 0, .int .i64 0, .int .i64 0, .int .i64 0, .int .i64 0, .int .i64 0, .int .u64 0, .int .i64 0, .int .i64 0, .int .u64 0, .int .i64 0, .int .i64 0, .int .u64 0, .int .i64 0, .int .i64 0, .int .u64 0, .int .i64 0, .int .i64 0, .int .u64 0, .int .i64 0, .int .i64 0, .int .u64 0, .int .i64 0, .int .i64 0, .int .u64 0, .int .i64 0, .int .i64 0, .int .u64 0, .int .i64 0, .int .i64 0, .int .u64 0, .int .i64 0, .int .i64 0, .int .u64 0, .int .i64 0, .int .i64 0, .int .u64 0, .int .i64 0, .int .i64 0, .int .u64 0, .int .i64 0, .int .i64 0, .int .i64 0])], []⟩ 8 (by kernel_rfl) (by kernel_rfl) (by kernel_rfl) (by kernel_rfl)) ?_
  · intro t ht
    have hall : (Try.f4.params.toList.all fun t => Try.prog.readableRec t && decide (t < Try.prog.types.size)) = true := by kernel_rfl
    have hq := List.all_eq_true.1 hall t ht
    rw [Bool.and_eq_true, decide_eq_true_eq] at hq
    exact hq
  · intro ds hd
    obtain ⟨d0, rfl⟩ := list1 (show ds.length = 1 from hd)
    rfl
  · intro W base args ds p hsz hval hA
    replace hval : ∀ (j : Nat) t v, Try.f4.params[j]? = some t → args[j]? = some v → Value.okWide Try.prog W .any base t v := hval
    obtain ⟨v0, rfl⟩ := args1 (show args.size = 1 from hsz)
    rw [Try.params4] at hval
    obtain ⟨f0, rfl, f0b⟩ := open_kinds [.i64, .i64, .i64, .i64, .i64, .i64, .i64, .u64, .i64, .i64, .u64, .i64, .i64, .u64, .i64, .i64, .u64, .i64, .i64, .u64, .i64, .i64, .u64, .i64, .i64, .u64, .i64, .i64, .u64, .i64, .i64, .u64, .i64, .i64, .u64, .i64, .i64, .u64, .i64, .i64, .u64, .i64, .i64, .i64] (by kernel_rfl) (by kernel_rfl) (by kernel_rfl) (hval 0 41 v0 rfl rfl)
    have q6 : -9223372036854775808 ≤ f0 6 ∧ f0 6 ≤ 9223372036854775807 := f0b 6 .i64 rfl
    have q7 : 0 ≤ f0 7 ∧ f0 7 ≤ 18446744073709551615 := f0b 7 .u64 rfl
    have q18 : -9223372036854775808 ≤ f0 18 ∧ f0 18 ≤ 9223372036854775807 := f0b 18 .i64 rfl
    have q19 : 0 ≤ f0 19 ∧ f0 19 ≤ 18446744073709551615 := f0b 19 .u64 rfl
    have q30 : -9223372036854775808 ≤ f0 30 ∧ f0 30 ≤ 9223372036854775807 := f0b 30 .i64 rfl
    have q31 : 0 ≤ f0 31 ∧ f0 31 ≤ 18446744073709551615 := f0b 31 .u64 rfl
    have k := fillsExact_any (f0 0) (f0 1) (f0 2) (f0 3) (f0 4) (f0 5) (f0 6 * 18446744073709551616 + f0 7) (f0 18 * 18446744073709551616 + f0 19) (f0 30 * 18446744073709551616 + f0 31) (f0 8) (f0 20) (f0 32) (f0 9) (f0 10) (f0 11) (f0 12) (f0 13) (f0 14) (f0 15) (f0 16) (f0 17) (f0 21) (f0 22) (f0 23) (f0 24) (f0 25) (f0 26) (f0 27) (f0 28) (f0 29) (f0 33) (f0 34) (f0 35) (f0 36) (f0 37) (f0 38) (f0 39) (f0 40) (f0 41) (f0 42) (f0 43) (show (-9223372036854775808) ≤ f0 0 ∧ f0 0 ≤ 9223372036854775807 from f0b 0 .i64 rfl) (show (-9223372036854775808) ≤ f0 1 ∧ f0 1 ≤ 9223372036854775807 from f0b 1 .i64 rfl) (show (-9223372036854775808) ≤ f0 2 ∧ f0 2 ≤ 9223372036854775807 from f0b 2 .i64 rfl) (show (-9223372036854775808) ≤ f0 3 ∧ f0 3 ≤ 9223372036854775807 from f0b 3 .i64 rfl) (show (-9223372036854775808) ≤ f0 4 ∧ f0 4 ≤ 9223372036854775807 from f0b 4 .i64 rfl) (show (-9223372036854775808) ≤ f0 5 ∧ f0 5 ≤ 9223372036854775807 from f0b 5 .i64 rfl) (by omega) (by omega) (by omega) (show (-9223372036854775808) ≤ f0 8 ∧ f0 8 ≤ 9223372036854775807 from f0b 8 .i64 rfl) (show (-9223372036854775808) ≤ f0 20 ∧ f0 20 ≤ 9223372036854775807 from f0b 20 .i64 rfl) (show (-9223372036854775808) ≤ f0 32 ∧ f0 32 ≤ 9223372036854775807 from f0b 32 .i64 rfl) (show (-9223372036854775808) ≤ f0 9 ∧ f0 9 ≤ 9223372036854775807 from f0b 9 .i64 rfl) (show 0 ≤ f0 10 ∧ f0 10 ≤ 18446744073709551615 from f0b 10 .u64 rfl) (show (-9223372036854775808) ≤ f0 11 ∧ f0 11 ≤ 9223372036854775807 from f0b 11 .i64 rfl) (show (-9223372036854775808) ≤ f0 12 ∧ f0 12 ≤ 9223372036854775807 from f0b 12 .i64 rfl) (show 0 ≤ f0 13 ∧ f0 13 ≤ 18446744073709551615 from f0b 13 .u64 rfl) (show (-9223372036854775808) ≤ f0 14 ∧ f0 14 ≤ 9223372036854775807 from f0b 14 .i64 rfl) (show (-9223372036854775808) ≤ f0 15 ∧ f0 15 ≤ 9223372036854775807 from f0b 15 .i64 rfl) (show 0 ≤ f0 16 ∧ f0 16 ≤ 18446744073709551615 from f0b 16 .u64 rfl) (show (-9223372036854775808) ≤ f0 17 ∧ f0 17 ≤ 9223372036854775807 from f0b 17 .i64 rfl) (show (-9223372036854775808) ≤ f0 21 ∧ f0 21 ≤ 9223372036854775807 from f0b 21 .i64 rfl) (show 0 ≤ f0 22 ∧ f0 22 ≤ 18446744073709551615 from f0b 22 .u64 rfl) (show (-9223372036854775808) ≤ f0 23 ∧ f0 23 ≤ 9223372036854775807 from f0b 23 .i64 rfl) (show (-9223372036854775808) ≤ f0 24 ∧ f0 24 ≤ 9223372036854775807 from f0b 24 .i64 rfl) (show 0 ≤ f0 25 ∧ f0 25 ≤ 18446744073709551615 from f0b 25 .u64 rfl) (show (-9223372036854775808) ≤ f0 26 ∧ f0 26 ≤ 9223372036854775807 from f0b 26 .i64 rfl) (show (-9223372036854775808) ≤ f0 27 ∧ f0 27 ≤ 9223372036854775807 from f0b 27 .i64 rfl) (show 0 ≤ f0 28 ∧ f0 28 ≤ 18446744073709551615 from f0b 28 .u64 rfl) (show (-9223372036854775808) ≤ f0 29 ∧ f0 29 ≤ 9223372036854775807 from f0b 29 .i64 rfl) (show (-9223372036854775808) ≤ f0 33 ∧ f0 33 ≤ 9223372036854775807 from f0b 33 .i64 rfl) (show 0 ≤ f0 34 ∧ f0 34 ≤ 18446744073709551615 from f0b 34 .u64 rfl) (show (-9223372036854775808) ≤ f0 35 ∧ f0 35 ≤ 9223372036854775807 from f0b 35 .i64 rfl) (show (-9223372036854775808) ≤ f0 36 ∧ f0 36 ≤ 9223372036854775807 from f0b 36 .i64 rfl) (show 0 ≤ f0 37 ∧ f0 37 ≤ 18446744073709551615 from f0b 37 .u64 rfl) (show (-9223372036854775808) ≤ f0 38 ∧ f0 38 ≤ 9223372036854775807 from f0b 38 .i64 rfl) (show (-9223372036854775808) ≤ f0 39 ∧ f0 39 ≤ 9223372036854775807 from f0b 39 .i64 rfl) (show 0 ≤ f0 40 ∧ f0 40 ≤ 18446744073709551615 from f0b 40 .u64 rfl) (show (-9223372036854775808) ≤ f0 41 ∧ f0 41 ≤ 9223372036854775807 from f0b 41 .i64 rfl) (show (-9223372036854775808) ≤ f0 42 ∧ f0 42 ≤ 9223372036854775807 from f0b 42 .i64 rfl) (show (-9223372036854775808) ≤ f0 43 ∧ f0 43 ≤ 9223372036854775807 from f0b 43 .i64 rfl) W (Sx.wok_nil W)
    rw [hi_of q7, lo_of q7, hi_of q19, lo_of q19, hi_of q31, lo_of q31] at k
    exact k

theorem fillsExact_holds : Rows.FillsExactSaid :=
  OpenClaim.holds_of_wide 4 Try.f4 rfl rfl rfl rfl rfl rfl rfl ⟨rfl, rfl, rfl, rfl, rfl⟩ rfl rfl rfl rfl rfl (by kernel_rfl) Try.func4 (by kernel_rfl)
    (of_decide_eq_true (by kernel_rfl)) (by unfold Func.isWrapper; first | (rw [if_pos (by decide +kernel)]; kernel_rfl) | (rw [if_neg (by decide +kernel)]; exact ⟨rfl, rfl⟩))
    (fun os started H enc _ => fillsExact_lifted os started H enc)
#print axioms fillsExact_holds
end Go.Proofs.Ytoiecphddchknaa
