/- What is proved: the statement FillsClaimed, for every input, with no condition. -/
import Derived.Test.YtoiecphddchknaaQa9
import Derived.Test.YtoiecphddchknaaRows
import Derived.Test.YtoiecphddchknaaChecked
set_option linter.unusedSimpArgs false
set_option linter.unusedVariables false
set_option maxRecDepth 100000
namespace Go.Proofs.Ytoiecphddchknaa
open Go.ChangeShapes Go.WideShapes Go.ChangeAt Go.RowKit Sx Wi

theorem fillsClaimed_own : ownKnob Try.prog.godebug = none := by kernel_rfl
theorem fillsClaimed_laidOut : laidOutB Try.prog = true := by kernel_rfl
set_option maxRecDepth 100000 in
theorem fillsClaimed_lifted (os : Os) (started : os.Started) (H : Type) (enc : TypeId × Value → H) :
    ReturnsInHanded {} Try.checked os 3 .any (Rows.fillsClaimedSpec.pre6 enc Try.prog Try.f3 Rows.fillsClaimedRow.domain false) (Rows.fillsClaimedSpec.post enc Try.prog Try.f3 false true false false) := by
  refine law_lifted (C := Try.checked) (B := 4) fillsClaimed_own started (by kernel_rfl) Try.func3 fillsClaimed_laidOut ?_ rfl Try.underlying4 rfl ?_
    (ChangeSpec.witness6 (enc := enc) (C := Try.checked) false ⟨#[], #[.slice none 0 0], []⟩ 8 (by kernel_rfl) (by kernel_rfl) (by kernel_rfl) (by kernel_rfl)) ?_
  · intro t ht
    have hall : (Try.f3.params.toList.all fun t => Try.prog.readableRec t && decide (t < Try.prog.types.size)) = true := by kernel_rfl
    have hq := List.all_eq_true.1 hall t ht
    rw [Bool.and_eq_true, decide_eq_true_eq] at hq
    exact hq
  · intro ds hd
    obtain ⟨d0, rfl⟩ := list1 (show ds.length = 1 from hd)
    rfl
  · intro W base args ds p hsz hval hA
    replace hval : ∀ (j : Nat) t v, Try.f3.params[j]? = some t → args[j]? = some v → Value.okWide Try.prog W .any base t v := hval
    obtain ⟨v0, rfl⟩ := args1 (show args.size = 1 from hsz)
    rw [Try.params3] at hval
    obtain ⟨d0, rfl⟩ := list1 (show ds.length = 1 from (trodAll_len _ _ _ _ hA).2)
    obtain ⟨p0, q0, hT, _, _⟩ : ∃ p0 q0, DataW.Trod enc Try.prog W 0 (fun _ => true) true 22 v0 d0 p0 ∧ _ ∧ _ := hA
    obtain ⟨b, L, hv, hnil, hle, hmax, hblk, hrows, hview⟩ := open_list (e := 41) fks (by kernel_rfl) (show kindsOf Try.prog 8 41 = some fks by kernel_rfl) (by kernel_rfl) (by decide) (hval 0 22 v0 rfl rfl) hT
    have hm := cl_mem (L.length : Int) (Lc.enc L) ⟨by omega, by omega⟩ (by unfold Rows; rw [Lc.dec_enc]; exact hrows) (by rw [Lc.dec_enc])
    refine law_mem (α := fun id => (([(b, [.vec fks (.var 1) (.var 0) true])] : List (Sx.Loc × List SV))[id]?).map (·.1)) (vals := [_]) hm (views_rel [(b, [.vec fks (.var 1) (.var 0) true])] ?_) (views_unseen [[.vec fks (.var 1) (.var 0) true]]) (RL_cons (view_arg (b := b) rfl rfl hv hnil hle) RL_nil) rfl rfl
    intro q hq
    simp only [List.mem_cons, List.mem_nil_iff, or_false] at hq
    subst hq
    exact ⟨hblk, _, hview, view_RL rfl rfl⟩

theorem fillsClaimed_holds : Rows.FillsClaimedSaid :=
  OpenClaim.holds_of_wide 3 Try.f3 rfl rfl rfl rfl rfl rfl rfl ⟨rfl, rfl, rfl, rfl, rfl⟩ rfl rfl rfl rfl rfl (by kernel_rfl) Try.func3 (by kernel_rfl)
    (of_decide_eq_true (by kernel_rfl)) (by unfold Func.isWrapper; first | (rw [if_pos (by decide +kernel)]; kernel_rfl) | (rw [if_neg (by decide +kernel)]; exact ⟨rfl, rfl⟩))
    (fun os started H enc _ => fillsClaimed_lifted os started H enc)
#print axioms fillsClaimed_holds
end Go.Proofs.Ytoiecphddchknaa
