/- What is proved: what functions of this program return: each over all its ways. The conditions are the numbers' own bounds. -/
import Derived.Test.YtoiecphddchknaaQCc
import Derived.Test.YtoiecphddchknaaQNlives0
set_option linter.unusedSimpArgs false
set_option linter.unusedVariables false
namespace Go.Proofs.Ytoiecphddchknaa
open Go Go.RowKit Sx Wi
set_option maxRecDepth 100000 in
theorem lives_any   (w : World) (hw : WOk GB w) : Known Try.prog 10 ∧ Calls Try.prog 10 #[] w (fun e w' => e = .returned (.bool true) ∧ Below w.heap.size w w') := by
  refine calls_eq (way_calls3 (ρ := rho []) (run := fun fs => lives_R Try.prog fs) (fun _ => rfl) fits (within_get trivial) gi_ok (fun X hX hG => ct_wt_ok hX hG) rfl rfl gbApart_nil ?_ w hw)
  refine way_leaf lives_n0 ?_
  exact ⟨rfl, rfl⟩
def lives_entry : Entry := fun _ args =>
  match args with
  | [] => .ok (.bool (.lit true))
  | _ => .fail 201
theorem lives_ok {X : Ctx} {ρ : Nat → Int} (hX : X.Ok ρ) (hG : X.G = G) : EntryOk Try.prog X ρ GB 10 lives_entry := by
  obtain ⟨XG, XI, XV, XF⟩ := X
  simp only at hG
  subst hG
  intro args s h α w vals hv hw
  unfold lives_entry at h
  split at h
  · cases h
    exact entry_calls hv rfl rfl (lives_any w hw)
  · cases h
def ct_lives : Contracts := ctCons 10 lives_entry ct_wt
theorem ct_lives_ok {X : Ctx} {ρ : Nat → Int} (hX : X.Ok ρ) (hG : X.G = G) : CtOk Try.prog X ρ GB ct_lives := ctCons_ok (lives_ok hX hG) (ct_wt_ok hX hG)
end Go.Proofs.Ytoiecphddchknaa
