/- What is proved: the statement FixedsLed, for every input, with no condition; its tied card. -/
import Derived.Test.YtnffpaenalccaaaDoorQLl
import Derived.Test.YtnffpaenalccaaaDoorQTd
import Derived.Test.YtnffpaenalccaaaDoorQg3
import Derived.Test.YtnffpaenalccaaaDoorRows
import Derived.Test.YtnffpaenalccaaaDoorChecked
import Derived.Test.YtnffpaenalccaaaDoorTie
import Derived.Test.YtnffpaenalccaaaDoorCards
import Derived.SevenTiedAt
set_option linter.unusedSimpArgs false
set_option linter.unusedVariables false
namespace Go.Proofs.YtnffpaenalccaaaDoor
open Go.ChangeShapes Go.WideShapes Go.ChangeAt Go.RowKit

theorem fixedsLed_own : ownKnob Tryd.prog.godebug = none := by kernel_rfl
theorem fixedsLed_laidOut : laidOutB Tryd.prog = true := by kernel_rfl
set_option maxRecDepth 100000 in
theorem fixedsLed_lifted (os : Os) (started : os.Started) (H : Type) (enc : TypeId × Value → H) :
    ReturnsInHanded {} Tryd.checked os 3 .any (fun w args => (Rows.fixedsLedSpec.pre enc Tryd.prog Tryd.f3 [] false w args ∧ laidMetH Tryd.prog laidX w) ∧ sizedMet enc Tryd.prog Tryd.f3 (OpenSpec.ofChange Rows.fixedsLedSpec) false w args)
      (Rows.fixedsLedSpec.post enc Tryd.prog Tryd.f3 false true false false) := by
  refine law_tied (C := Tryd.checked) (B := 4) (X := (fun w _ => laidMetH Tryd.prog laidX w)) (fun _ _ _ hh h => h.of_heap hh) fixedsLed_own started (by kernel_rfl) Tryd.func3 fixedsLed_laidOut ?_ rfl Tryd.underlying4 rfl ?_
    (ChangeSpec.witness_shaped (enc := enc) (C := Tryd.checked) (os := os) (X := (fun w _ => laidMetH Tryd.prog laidX w)) false (World.doorLaid Tryd.prog 400 os) #[.int .i32 0, (.agg #[.int .i32 0, .int .i32 0]), (.agg #[.int .i32 0, .int .i32 0])] 8 rfl (World.shaped_of_RefB (by kernel_rfl) (by kernel_rfl)) (by kernel_rfl) (by kernel_rfl) (by kernel_rfl) (door_met os _)) ?_
  · intro t ht
    have hall : (Tryd.f3.params.toList.all fun t => Tryd.prog.readableRec t && decide (t < Tryd.prog.types.size)) = true := by kernel_rfl
    have hq := List.all_eq_true.1 hall t ht
    rw [Bool.and_eq_true, decide_eq_true_eq] at hq
    exact hq
  · intro ds hd
    obtain ⟨d0, d1, d2, rfl⟩ := list3 (show ds.length = 3 from hd)
    rfl
  · intro W base args ds p hsz hval hA hsh hL
    replace hval : ∀ (j : Nat) t v, Tryd.f3.params[j]? = some t → args[j]? = some v → Value.okWide Tryd.prog W .any base t v := hval
    obtain ⟨v0, v1, v2, rfl⟩ := args3 (show args.size = 3 from hsz)
    rw [Tryd.params3] at hval
    obtain ⟨n0, rfl, n0b⟩ := open_int (k := .i32) (by kernel_rfl) (hval 0 22 v0 rfl rfl)
    obtain ⟨f1, rfl, f1b⟩ := open_flat (k := .i32) (n := 2) (by kernel_rfl) (by kernel_rfl) (by kernel_rfl) (hval 1 24 v1 rfl rfl)
    obtain ⟨f2, rfl, f2b⟩ := open_flat (k := .i32) (n := 2) (by kernel_rfl) (by kernel_rfl) (by kernel_rfl) (hval 2 24 v2 rfl rfl)
    exact fixedsLed_any n0 (f1 0) (f1 1) (f2 0) (f2 1) (show (-2147483648) ≤ n0 ∧ n0 ≤ 2147483647 from n0b) (show (-2147483648) ≤ f1 0 ∧ f1 0 ≤ 2147483647 from f1b 0 (by decide)) (show (-2147483648) ≤ f1 1 ∧ f1 1 ≤ 2147483647 from f1b 1 (by decide)) (show (-2147483648) ≤ f2 0 ∧ f2 0 ≤ 2147483647 from f2b 0 (by decide)) (show (-2147483648) ≤ f2 1 ∧ f2 1 ≤ 2147483647 from f2b 1 (by decide)) W (wok_of hsh hL)

theorem fixedsLed_holds : Rows.FixedsLedSaid :=
  OpenClaim.holds_of_wide 3 Tryd.f3 rfl rfl rfl rfl rfl rfl rfl ⟨rfl, rfl, rfl, rfl, rfl⟩ rfl rfl rfl rfl rfl (by kernel_rfl) Tryd.func3 (by kernel_rfl)
    (of_decide_eq_true (by kernel_rfl)) (by unfold Func.isWrapper; first | (rw [if_pos (by decide +kernel)]; kernel_rfl) | (rw [if_neg (by decide +kernel)]; exact ⟨rfl, rfl⟩))
    (fun os started H enc _ => fixedsLed_lifted os started H enc)
theorem fixedsLed_card_holds : Rows.FixedsLedCardSaid :=
  Claim7.holds_tied_plain_at .later [] [.data] true (true, "38641104645a11e8f0c6ff81f8a646643a97ee59596b159c076f003f4d1cfa00") false
    fixedsLed_holds (fun _ h => by cases h) (by kernel_rfl) (fun _ h => by cases h) fixedsLed_row_tie rfl ⟨rfl, rfl⟩ (by kernel_rfl) rfl
    (fun f fn hf hfn => by
      obtain rfl : f = 3 := Option.some.inj ((show Tryd.prog.funcNamed "gouache/gouachelaw02.FixedsLed" = some 3 by kernel_rfl).symm.trans hf) |>.symm
      obtain rfl : fn = Tryd.f3 := (Option.some.inj (Tryd.func3.symm.trans hfn)).symm
      exact ⟨by kernel_rfl, fun j t ht => by
        rw [Tryd.params3] at ht
        have hm : t ∈ ([22, 24, 24] : List TypeId) := by simpa using Array.mem_of_getElem? ht
        have hall : (([22, 24, 24] : List TypeId).all fun u => !Tryd.prog.wantsStandIn u) = true := by kernel_rfl
        exact (show Tryd.prog.wantsStandIn t = false by simpa using List.all_eq_true.1 hall t hm)⟩)
    (by kernel_rfl)
#print axioms fixedsLed_card_holds
end Go.Proofs.YtnffpaenalccaaaDoor
