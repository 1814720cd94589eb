/- What is proved: what functions of this program return: each over all its ways. The conditions are the numbers' own bounds. -/
import Derived.Test.YtoighnoliehafaaCc
set_option linter.unusedSimpArgs false
set_option linter.unusedVariables false
namespace Go.Proofs.Ytoighnoliehafaa
open Go Go.RowKit Sx Ed
set_option maxRecDepth 100000 in
theorem lives_tree : explore (fun fs => exFun Try.prog ⟨G, GI, [], fs⟩ ctNil 2000 10 []) 60 [] =
 (.leaf (.bool (.cmp .eq (.lit 0) (.lit 0)))) := by kernel_rfl
set_option maxRecDepth 100000 in
theorem lives_any   (w : World) : Known Try.prog 10 ∧ Calls Try.prog 10 #[] w (fun e w' => e = .returned (.bool true) ∧ Below w.heap.size w w') := by
  refine calls_eq (tree_calls (ρ := rho []) lives_tree (by kernel_rfl) (within_get trivial) gi_ok (fun fs hf => ctNil_ok) rfl ?_ w)
  exact ⟨rfl, rfl⟩
def lives_entry : Entry := fun _ args =>
  match args with
  | [] => .ok (.bool (.lit true))
  | _ => .fail 201
theorem lives_ok {X : Ctx} {ρ : Nat → Int} (hX : X.Ok ρ) (hG : X.G = G) : EntryOk Try.prog X ρ 10 lives_entry := by
  obtain ⟨XG, XI, XV, XF⟩ := X
  simp only at hG
  subst hG
  intro args s h α w vals hv
  unfold lives_entry at h
  split at h
  · cases h
    exact entry_calls hv rfl rfl (lives_any w)
  · cases h
def ct_lives : Contracts := ctCons 10 lives_entry ct_wt
theorem ct_lives_ok {X : Ctx} {ρ : Nat → Int} (hX : X.Ok ρ) (hG : X.G = G) : CtOk Try.prog X ρ ct_lives := ctCons_ok (lives_ok hX hG) (ct_wt_ok hX hG)
end Go.Proofs.Ytoighnoliehafaa
