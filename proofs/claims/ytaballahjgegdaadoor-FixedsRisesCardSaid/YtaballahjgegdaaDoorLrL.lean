/- What is proved: the statement FixedsRises, for every input, with no condition; its tied card. -/
import Derived.Test.YtaballahjgegdaaDoorLr
import Derived.Test.YtaballahjgegdaaDoorTd
import Derived.Test.YtaballahjgegdaaDoorL
import Derived.Test.YtaballahjgegdaaDoorRows
import Derived.Test.YtaballahjgegdaaDoorChecked
import Derived.Test.YtaballahjgegdaaDoorTie
import Derived.Test.YtaballahjgegdaaDoorCards
import Derived.SevenTiedAt
set_option linter.unusedSimpArgs false
set_option linter.unusedVariables false
namespace Go.Proofs.YtaballahjgegdaaDoor
open Go.ChangeShapes Go.WideShapes Go.ChangeAt Go.RowKit

theorem fixedsRises_own : ownKnob Tryd.prog.godebug = none := by kernel_rfl
theorem fixedsRises_laidOut : laidOutB Tryd.prog = true := by kernel_rfl
set_option maxRecDepth 100000 in
theorem fixedsRises_lifted (os : Os) (started : os.Started) (H : Type) (enc : TypeId × Value → H) :
    ReturnsInHanded {} Tryd.checked os 10 .any (fun w args => (Rows.fixedsRisesSpec.pre enc Tryd.prog Tryd.f10 [] false w args ∧ laidMetH Tryd.prog laidX w) ∧ sizedMet enc Tryd.prog Tryd.f10 (OpenSpec.ofChange Rows.fixedsRisesSpec) false w args)
      (Rows.fixedsRisesSpec.post enc Tryd.prog Tryd.f10 false true false false) := by
  refine law_tied (C := Tryd.checked) (B := 4) (X := (fun w _ => laidMetH Tryd.prog laidX w)) (fun _ _ _ hh h => h.of_heap hh) fixedsRises_own started (by kernel_rfl) Tryd.func10 fixedsRises_laidOut ?_ rfl Tryd.underlying4 rfl ?_
    (ChangeSpec.witness_shaped (enc := enc) (C := Tryd.checked) (os := os) (X := (fun w _ => laidMetH Tryd.prog laidX w)) false (World.doorLaid Tryd.prog 400 os) #[(.agg #[.int .i32 0, .int .i32 0, .int .i32 0])] 8 rfl (World.shaped_of_RefB (by kernel_rfl) (by kernel_rfl)) (by kernel_rfl) (by kernel_rfl) (by kernel_rfl) (door_met os _)) ?_
  · intro t ht
    have hall : (Tryd.f10.params.toList.all fun t => Tryd.prog.readableRec t && decide (t < Tryd.prog.types.size)) = true := by kernel_rfl
    have hq := List.all_eq_true.1 hall t ht
    rw [Bool.and_eq_true, decide_eq_true_eq] at hq
    exact hq
  · intro ds hd
    obtain ⟨d0, rfl⟩ := list1 (show ds.length = 1 from hd)
    rfl
  · intro W base args ds p hsz hval hA hsh hL
    replace hval : ∀ (j : Nat) t v, Tryd.f10.params[j]? = some t → args[j]? = some v → Value.okWide Tryd.prog W .any base t v := hval
    obtain ⟨v0, rfl⟩ := args1 (show args.size = 1 from hsz)
    rw [Tryd.params10] at hval
    obtain ⟨f0, rfl, f0b⟩ := open_flat (k := .i32) (n := 3) (by kernel_rfl) (by kernel_rfl) (by kernel_rfl) (hval 0 43 v0 rfl rfl)
    exact fixedsRises_any (f0 0) (f0 1) (f0 2) (show (-2147483648) ≤ f0 0 ∧ f0 0 ≤ 2147483647 from f0b 0 (by decide)) (show (-2147483648) ≤ f0 1 ∧ f0 1 ≤ 2147483647 from f0b 1 (by decide)) (show (-2147483648) ≤ f0 2 ∧ f0 2 ≤ 2147483647 from f0b 2 (by decide)) W (wok_of hsh hL)

theorem fixedsRises_holds : Rows.FixedsRisesSaid :=
  OpenClaim.holds_of_wide 10 Tryd.f10 rfl rfl rfl rfl rfl rfl rfl ⟨rfl, rfl, rfl, rfl, rfl⟩ rfl rfl rfl rfl rfl (by kernel_rfl) Tryd.func10 (by kernel_rfl)
    (of_decide_eq_true (by kernel_rfl)) (by unfold Func.isWrapper; first | (rw [if_pos (by decide +kernel)]; kernel_rfl) | (rw [if_neg (by decide +kernel)]; exact ⟨rfl, rfl⟩))
    (fun os started H enc _ => fixedsRises_lifted os started H enc)
theorem fixedsRises_card_holds : Rows.FixedsRisesCardSaid :=
  Claim7.holds_tied_plain_at .later [] [.data] true (true, "82882424e878e98b48c36d074f5a650f25b91ecbe7b5573d8d4411bf4b94dc0e") false
    fixedsRises_holds (fun _ h => by cases h) (by kernel_rfl) (fun _ h => by cases h) fixedsRises_row_tie rfl ⟨rfl, rfl⟩ (by kernel_rfl) rfl
    (fun f fn hf hfn => by
      obtain rfl : f = 10 := Option.some.inj ((show Tryd.prog.funcNamed "gouache/gouachelaw02.FixedsRises" = some 10 by kernel_rfl).symm.trans hf) |>.symm
      obtain rfl : fn = Tryd.f10 := (Option.some.inj (Tryd.func10.symm.trans hfn)).symm
      exact ⟨by kernel_rfl, fun j t ht => by
        rw [Tryd.params10] at ht
        have hm : t ∈ ([43] : List TypeId) := by simpa using Array.mem_of_getElem? ht
        have hall : (([43] : List TypeId).all fun u => !Tryd.prog.wantsStandIn u) = true := by kernel_rfl
        exact (show Tryd.prog.wantsStandIn t = false by simpa using List.all_eq_true.1 hall t hm)⟩)
    (by kernel_rfl)
#print axioms fixedsRises_card_holds
end Go.Proofs.YtaballahjgegdaaDoor
