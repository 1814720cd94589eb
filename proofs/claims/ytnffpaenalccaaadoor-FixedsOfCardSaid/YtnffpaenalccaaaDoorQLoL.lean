/- What is proved: the statement FixedsOf, for every input, with no condition; its tied card. -/
import Derived.Test.YtnffpaenalccaaaDoorQLo
import Derived.Test.YtnffpaenalccaaaDoorQTd
import Derived.Test.YtnffpaenalccaaaDoorQg3
import Derived.Test.YtnffpaenalccaaaDoorRows
import Derived.Test.YtnffpaenalccaaaDoorChecked
import Derived.Test.YtnffpaenalccaaaDoorTie
import Derived.Test.YtnffpaenalccaaaDoorCards
import Derived.SevenTiedAt
set_option linter.unusedSimpArgs false
set_option linter.unusedVariables false
namespace Go.Proofs.YtnffpaenalccaaaDoor
open Go.ChangeShapes Go.WideShapes Go.ChangeAt Go.RowKit

theorem fixedsOf_own : ownKnob Tryd.prog.godebug = none := by kernel_rfl
theorem fixedsOf_laidOut : laidOutB Tryd.prog = true := by kernel_rfl
set_option maxRecDepth 100000 in
theorem fixedsOf_lifted (os : Os) (started : os.Started) (H : Type) (enc : TypeId × Value → H) :
    ReturnsInHanded {} Tryd.checked os 4 .any (fun w args => (Rows.fixedsOfSpec.pre enc Tryd.prog Tryd.f4 [] false w args ∧ laidMetH Tryd.prog laidX w) ∧ sizedMet enc Tryd.prog Tryd.f4 (OpenSpec.ofChange Rows.fixedsOfSpec) false w args)
      (Rows.fixedsOfSpec.post enc Tryd.prog Tryd.f4 false true false false) := by
  refine law_tied (C := Tryd.checked) (B := 4) (X := (fun w _ => laidMetH Tryd.prog laidX w)) (fun _ _ _ hh h => h.of_heap hh) fixedsOf_own started (by kernel_rfl) Tryd.func4 fixedsOf_laidOut ?_ rfl Tryd.underlying4 rfl ?_
    (ChangeSpec.witness_shaped (enc := enc) (C := Tryd.checked) (os := os) (X := (fun w _ => laidMetH Tryd.prog laidX w)) false (World.doorLaid Tryd.prog 400 os) #[.int .i32 0, .int .i32 0] 8 rfl (World.shaped_of_RefB (by kernel_rfl) (by kernel_rfl)) (by kernel_rfl) (by kernel_rfl) (by kernel_rfl) (door_met os _)) ?_
  · intro t ht
    have hall : (Tryd.f4.params.toList.all fun t => Tryd.prog.readableRec t && decide (t < Tryd.prog.types.size)) = true := by kernel_rfl
    have hq := List.all_eq_true.1 hall t ht
    rw [Bool.and_eq_true, decide_eq_true_eq] at hq
    exact hq
  · intro ds hd
    obtain ⟨d0, d1, rfl⟩ := list2 (show ds.length = 2 from hd)
    rfl
  · intro W base args ds p hsz hval hA hsh hL
    replace hval : ∀ (j : Nat) t v, Tryd.f4.params[j]? = some t → args[j]? = some v → Value.okWide Tryd.prog W .any base t v := hval
    obtain ⟨v0, v1, rfl⟩ := args2 (show args.size = 2 from hsz)
    rw [Tryd.params4] at hval
    obtain ⟨n0, rfl, n0b⟩ := open_int (k := .i32) (by kernel_rfl) (hval 0 22 v0 rfl rfl)
    obtain ⟨n1, rfl, n1b⟩ := open_int (k := .i32) (by kernel_rfl) (hval 1 22 v1 rfl rfl)
    exact fixedsOf_any n0 n1 (show (-2147483648) ≤ n0 ∧ n0 ≤ 2147483647 from n0b) (show (-2147483648) ≤ n1 ∧ n1 ≤ 2147483647 from n1b) W (wok_of hsh hL)

theorem fixedsOf_holds : Rows.FixedsOfSaid :=
  OpenClaim.holds_of_wide 4 Tryd.f4 rfl rfl rfl rfl rfl rfl rfl ⟨rfl, rfl, rfl, rfl, rfl⟩ rfl rfl rfl rfl rfl (by kernel_rfl) Tryd.func4 (by kernel_rfl)
    (of_decide_eq_true (by kernel_rfl)) (by unfold Func.isWrapper; first | (rw [if_pos (by decide +kernel)]; kernel_rfl) | (rw [if_neg (by decide +kernel)]; exact ⟨rfl, rfl⟩))
    (fun os started H enc _ => fixedsOf_lifted os started H enc)
theorem fixedsOf_card_holds : Rows.FixedsOfCardSaid :=
  Claim7.holds_tied_plain_at .later [] [.data] true (true, "38641104645a11e8f0c6ff81f8a646643a97ee59596b159c076f003f4d1cfa00") false
    fixedsOf_holds (fun _ h => by cases h) (by kernel_rfl) (fun _ h => by cases h) fixedsOf_row_tie rfl ⟨rfl, rfl⟩ (by kernel_rfl) rfl
    (fun f fn hf hfn => by
      obtain rfl : f = 4 := Option.some.inj ((show Tryd.prog.funcNamed "gouache/gouachelaw02.FixedsOf" = some 4 by kernel_rfl).symm.trans hf) |>.symm
      obtain rfl : fn = Tryd.f4 := (Option.some.inj (Tryd.func4.symm.trans hfn)).symm
      exact ⟨by kernel_rfl, fun j t ht => by
        rw [Tryd.params4] at ht
        have hm : t ∈ ([22, 22] : List TypeId) := by simpa using Array.mem_of_getElem? ht
        have hall : (([22, 22] : List TypeId).all fun u => !Tryd.prog.wantsStandIn u) = true := by kernel_rfl
        exact (show Tryd.prog.wantsStandIn t = false by simpa using List.all_eq_true.1 hall t hm)⟩)
    (by kernel_rfl)
#print axioms fixedsOf_card_holds
end Go.Proofs.YtnffpaenalccaaaDoor
