/- What is proved: the statement FixedsWide, for every input, with no condition; its tied card. -/
import Derived.Test.YtnffpaenalccaaaDoorQLw
import Derived.Test.YtnffpaenalccaaaDoorQTd
import Derived.Test.YtnffpaenalccaaaDoorQg3
import Derived.Test.YtnffpaenalccaaaDoorRows
import Derived.Test.YtnffpaenalccaaaDoorChecked
import Derived.Test.YtnffpaenalccaaaDoorTie
import Derived.Test.YtnffpaenalccaaaDoorCards
import Derived.SevenTiedAt
set_option linter.unusedSimpArgs false
set_option linter.unusedVariables false
namespace Go.Proofs.YtnffpaenalccaaaDoor
open Go.ChangeShapes Go.WideShapes Go.ChangeAt Go.RowKit

theorem fixedsWide_own : ownKnob Tryd.prog.godebug = none := by kernel_rfl
theorem fixedsWide_laidOut : laidOutB Tryd.prog = true := by kernel_rfl
set_option maxRecDepth 100000 in
theorem fixedsWide_lifted (os : Os) (started : os.Started) (H : Type) (enc : TypeId × Value → H) :
    ReturnsInHanded {} Tryd.checked os 5 .any (fun w args => (Rows.fixedsWideSpec.pre enc Tryd.prog Tryd.f5 [] false w args ∧ laidMetH Tryd.prog laidX w) ∧ sizedMet enc Tryd.prog Tryd.f5 (OpenSpec.ofChange Rows.fixedsWideSpec) false w args)
      (Rows.fixedsWideSpec.post enc Tryd.prog Tryd.f5 false true false false) := by
  refine law_tied (C := Tryd.checked) (B := 4) (X := (fun w _ => laidMetH Tryd.prog laidX w)) (fun _ _ _ hh h => h.of_heap hh) fixedsWide_own started (by kernel_rfl) Tryd.func5 fixedsWide_laidOut ?_ rfl Tryd.underlying4 rfl ?_
    (ChangeSpec.witness_shaped (enc := enc) (C := Tryd.checked) (os := os) (X := (fun w _ => laidMetH Tryd.prog laidX w)) false (World.doorLaid Tryd.prog 400 os) #[.int .i64 0, .int .i64 0] 8 rfl (World.shaped_of_RefB (by kernel_rfl) (by kernel_rfl)) (by kernel_rfl) (by kernel_rfl) (by kernel_rfl) (door_met os _)) ?_
  · intro t ht
    have hall : (Tryd.f5.params.toList.all fun t => Tryd.prog.readableRec t && decide (t < Tryd.prog.types.size)) = true := by kernel_rfl
    have hq := List.all_eq_true.1 hall t ht
    rw [Bool.and_eq_true, decide_eq_true_eq] at hq
    exact hq
  · intro ds hd
    obtain ⟨d0, d1, rfl⟩ := list2 (show ds.length = 2 from hd)
    rfl
  · intro W base args ds p hsz hval hA hsh hL
    replace hval : ∀ (j : Nat) t v, Tryd.f5.params[j]? = some t → args[j]? = some v → Value.okWide Tryd.prog W .any base t v := hval
    obtain ⟨v0, v1, rfl⟩ := args2 (show args.size = 2 from hsz)
    rw [Tryd.params5] at hval
    obtain ⟨n0, rfl, n0b⟩ := open_int (k := .i64) (by kernel_rfl) (hval 0 2 v0 rfl rfl)
    obtain ⟨n1, rfl, n1b⟩ := open_int (k := .i64) (by kernel_rfl) (hval 1 2 v1 rfl rfl)
    exact fixedsWide_any n0 n1 (show (-9223372036854775808) ≤ n0 ∧ n0 ≤ 9223372036854775807 from n0b) (show (-9223372036854775808) ≤ n1 ∧ n1 ≤ 9223372036854775807 from n1b) W (wok_of hsh hL)

theorem fixedsWide_holds : Rows.FixedsWideSaid :=
  OpenClaim.holds_of_wide 5 Tryd.f5 rfl rfl rfl rfl rfl rfl rfl ⟨rfl, rfl, rfl, rfl, rfl⟩ rfl rfl rfl rfl rfl (by kernel_rfl) Tryd.func5 (by kernel_rfl)
    (of_decide_eq_true (by kernel_rfl)) (by unfold Func.isWrapper; first | (rw [if_pos (by decide +kernel)]; kernel_rfl) | (rw [if_neg (by decide +kernel)]; exact ⟨rfl, rfl⟩))
    (fun os started H enc _ => fixedsWide_lifted os started H enc)
theorem fixedsWide_card_holds : Rows.FixedsWideCardSaid :=
  Claim7.holds_tied_plain_at .later [] [.data] true (true, "38641104645a11e8f0c6ff81f8a646643a97ee59596b159c076f003f4d1cfa00") false
    fixedsWide_holds (fun _ h => by cases h) (by kernel_rfl) (fun _ h => by cases h) fixedsWide_row_tie rfl ⟨rfl, rfl⟩ (by kernel_rfl) rfl
    (fun f fn hf hfn => by
      obtain rfl : f = 5 := Option.some.inj ((show Tryd.prog.funcNamed "gouache/gouachelaw02.FixedsWide" = some 5 by kernel_rfl).symm.trans hf) |>.symm
      obtain rfl : fn = Tryd.f5 := (Option.some.inj (Tryd.func5.symm.trans hfn)).symm
      exact ⟨by kernel_rfl, fun j t ht => by
        rw [Tryd.params5] at ht
        have hm : t ∈ ([2, 2] : List TypeId) := by simpa using Array.mem_of_getElem? ht
        have hall : (([2, 2] : List TypeId).all fun u => !Tryd.prog.wantsStandIn u) = true := by kernel_rfl
        exact (show Tryd.prog.wantsStandIn t = false by simpa using List.all_eq_true.1 hall t hm)⟩)
    (by kernel_rfl)
#print axioms fixedsWide_card_holds
end Go.Proofs.YtnffpaenalccaaaDoor
