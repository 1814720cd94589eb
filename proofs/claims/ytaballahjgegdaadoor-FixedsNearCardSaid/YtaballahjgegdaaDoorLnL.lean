/- What is proved: the statement FixedsNear, for every input, with no condition; its tied card. -/
import Derived.Test.YtaballahjgegdaaDoorLn
import Derived.Test.YtaballahjgegdaaDoorTd
import Derived.Test.YtaballahjgegdaaDoorL
import Derived.Test.YtaballahjgegdaaDoorRows
import Derived.Test.YtaballahjgegdaaDoorChecked
import Derived.Test.YtaballahjgegdaaDoorTie
import Derived.Test.YtaballahjgegdaaDoorCards
import Derived.SevenTiedAt
set_option linter.unusedSimpArgs false
set_option linter.unusedVariables false
namespace Go.Proofs.YtaballahjgegdaaDoor
open Go.ChangeShapes Go.WideShapes Go.ChangeAt Go.RowKit

theorem fixedsNear_own : ownKnob Tryd.prog.godebug = none := by kernel_rfl
theorem fixedsNear_laidOut : laidOutB Tryd.prog = true := by kernel_rfl
set_option maxRecDepth 100000 in
theorem fixedsNear_lifted (os : Os) (started : os.Started) (H : Type) (enc : TypeId × Value → H) :
    ReturnsInHanded {} Tryd.checked os 9 .any (fun w args => (Rows.fixedsNearSpec.pre enc Tryd.prog Tryd.f9 [] false w args ∧ laidMetH Tryd.prog laidX w) ∧ sizedMet enc Tryd.prog Tryd.f9 (OpenSpec.ofChange Rows.fixedsNearSpec) false w args)
      (Rows.fixedsNearSpec.post enc Tryd.prog Tryd.f9 false true false false) := by
  refine law_tied (C := Tryd.checked) (B := 4) (X := (fun w _ => laidMetH Tryd.prog laidX w)) (fun _ _ _ hh h => h.of_heap hh) fixedsNear_own started (by kernel_rfl) Tryd.func9 fixedsNear_laidOut ?_ rfl Tryd.underlying4 rfl ?_
    (ChangeSpec.witness_shaped (enc := enc) (C := Tryd.checked) (os := os) (X := (fun w _ => laidMetH Tryd.prog laidX w)) false (World.doorLaid Tryd.prog 400 os) #[.int .i32 0, .int .i32 0] 8 rfl (World.shaped_of_RefB (by kernel_rfl) (by kernel_rfl)) (by kernel_rfl) (by kernel_rfl) (by kernel_rfl) (door_met os _)) ?_
  · intro t ht
    have hall : (Tryd.f9.params.toList.all fun t => Tryd.prog.readableRec t && decide (t < Tryd.prog.types.size)) = true := by kernel_rfl
    have hq := List.all_eq_true.1 hall t ht
    rw [Bool.and_eq_true, decide_eq_true_eq] at hq
    exact hq
  · intro ds hd
    obtain ⟨d0, d1, rfl⟩ := list2 (show ds.length = 2 from hd)
    rfl
  · intro W base args ds p hsz hval hA hsh hL
    replace hval : ∀ (j : Nat) t v, Tryd.f9.params[j]? = some t → args[j]? = some v → Value.okWide Tryd.prog W .any base t v := hval
    obtain ⟨v0, v1, rfl⟩ := args2 (show args.size = 2 from hsz)
    rw [Tryd.params9] at hval
    obtain ⟨n0, rfl, n0b⟩ := open_int (k := .i32) (by kernel_rfl) (hval 0 22 v0 rfl rfl)
    obtain ⟨n1, rfl, n1b⟩ := open_int (k := .i32) (by kernel_rfl) (hval 1 22 v1 rfl rfl)
    exact fixedsNear_any n0 n1 (show (-2147483648) ≤ n0 ∧ n0 ≤ 2147483647 from n0b) (show (-2147483648) ≤ n1 ∧ n1 ≤ 2147483647 from n1b) W (wok_of hsh hL)

theorem fixedsNear_holds : Rows.FixedsNearSaid :=
  OpenClaim.holds_of_wide 9 Tryd.f9 rfl rfl rfl rfl rfl rfl rfl ⟨rfl, rfl, rfl, rfl, rfl⟩ rfl rfl rfl rfl rfl (by kernel_rfl) Tryd.func9 (by kernel_rfl)
    (of_decide_eq_true (by kernel_rfl)) (by unfold Func.isWrapper; first | (rw [if_pos (by decide +kernel)]; kernel_rfl) | (rw [if_neg (by decide +kernel)]; exact ⟨rfl, rfl⟩))
    (fun os started H enc _ => fixedsNear_lifted os started H enc)
theorem fixedsNear_card_holds : Rows.FixedsNearCardSaid :=
  Claim7.holds_tied_plain_at .later [] [.data] true (true, "82882424e878e98b48c36d074f5a650f25b91ecbe7b5573d8d4411bf4b94dc0e") false
    fixedsNear_holds (fun _ h => by cases h) (by kernel_rfl) (fun _ h => by cases h) fixedsNear_row_tie rfl ⟨rfl, rfl⟩ (by kernel_rfl) rfl
    (fun f fn hf hfn => by
      obtain rfl : f = 9 := Option.some.inj ((show Tryd.prog.funcNamed "gouache/gouachelaw02.FixedsNear" = some 9 by kernel_rfl).symm.trans hf) |>.symm
      obtain rfl : fn = Tryd.f9 := (Option.some.inj (Tryd.func9.symm.trans hfn)).symm
      exact ⟨by kernel_rfl, fun j t ht => by
        rw [Tryd.params9] at ht
        have hm : t ∈ ([22, 22] : List TypeId) := by simpa using Array.mem_of_getElem? ht
        have hall : (([22, 22] : List TypeId).all fun u => !Tryd.prog.wantsStandIn u) = true := by kernel_rfl
        exact (show Tryd.prog.wantsStandIn t = false by simpa using List.all_eq_true.1 hall t hm)⟩)
    (by kernel_rfl)
#print axioms fixedsNear_card_holds
end Go.Proofs.YtaballahjgegdaaDoor
