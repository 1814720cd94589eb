/- What is proved: the frame of a law's row that lists variables: a walk from a world that meets the condition, that returns true and leaves what was there as it was, proves the row. -/
import Derived.Test.YtnffpaenalccaaaDoorQg3
import Derived.LaidLaws
import Derived.LaidMore
import Derived.JoinedOf
import Derived.ChangeVars
set_option linter.unusedSimpArgs false
set_option linter.unusedVariables false
namespace Go.Proofs.YtnffpaenalccaaaDoor
open Go.ChangeShapes Go.WideShapes Go.ChangeAt Go.RowKit

theorem law_tied {C : Checked} {os : Os} {f : FuncId} {fn : Func} {s : ChangeSpec} {B : TypeId} {H : Type} {enc : TypeId × Value → H} {X : World → Array Value → Prop} (hX : ∀ (w w' : World) (args : Array Value), w.heap = w'.heap → X w args → X w' args)
    (own : ownKnob C.prog.godebug = none) (started : os.Started) (noInit : C.prog.inits.idxOf? f = none)
    (hfn : C.prog.funcs[f]? = some fn) (hl : laidOutB C.prog = true) (hread : ∀ t ∈ fn.params.toList, C.prog.readableRec t = true ∧ t < C.prog.types.size) (hres : fn.resultTypes = #[B]) (hB : C.prog.underlying B = some .bool)
    (hsv : s.vars = []) (hs : ∀ ds : List (DataW H), ds.length = fn.params.size → s.fn H ds = { results := [.lit (.bool true)], args := ds })
    (witness : ∃ (w : World) (tape : Tape) (i : Input), w.os = os ∧ (w.forCall tape i).Shaped C.prog ∧ i.vars = [] ∧ Input.okWide C.prog (w.forCall tape i) .any w.heap.size f i ∧
      ((s.pre enc C.prog fn [] false (w.forCall tape i).memory i.args ∧ X (w.forCall tape i).memory i.args) ∧ sizedMet enc C.prog fn (OpenSpec.ofChange s) false (w.forCall tape i).memory i.args) ∧ ({} : Assume).holds C.prog (lone (Frame.enter C.prog f i.args .normal) [] (w.forCall tape i)))
    (walk : ∀ (W : World) (base : Nat) (args : Array Value) (ds : List (DataW H)) (p : List MemPlace), args.size = fn.params.size →
      (∀ (j : Nat) t v, fn.params[j]? = some t → args[j]? = some v → Value.okWide C.prog W .any base t v) → DataW.TrodAll enc C.prog W 0 (fun _ => true) true fn.params.toList args.toList ds p →
      W.ShapedOpen C.prog → X W args → Calls C.prog f args W fun e W' => e = .returned (.bool true) ∧ Below W.heap.size W W') :
    ReturnsInHanded {} C os f .any (fun w args => (s.pre enc C.prog fn [] false w args ∧ X w args) ∧ sizedMet enc C.prog fn (OpenSpec.ofChange s) false w args) (s.post enc C.prog fn false true false false) := by
  refine returnsInHanded_of_calls own started noInit witness ?_
  intro w tape i _ hsh _ hok hpre _
  obtain ⟨_, _, _, fn', hfn', _, _, _, _, hval⟩ := hok
  have e : fn' = fn := Option.some.inj (hfn'.symm.trans hfn)
  subst e
  obtain ⟨⟨⟨ds, gs, before, hw, _⟩, hx⟩, _⟩ := hpre
  have hW' := DataW.Whole.of_heap (w' := w.forCall tape i) (by rfl) hw
  have hx' := hX _ (w.forCall tape i) _ (by rfl) hx
  have key : Calls C.prog f i.args (w.forCall tape i) fun e W' => ∃ v, e = .returned v ∧ s.post enc C.prog fn' false true false false (w.forCall tape i) i.args v W' := by
    generalize w.forCall tape i = W at *
    generalize i.args = args at *
    have hW0 := hW'
    obtain ⟨p, q, hA, hV, hbf, _, _⟩ := hW'
    have hV0 : gs = [] ∧ q = [] := by
      rw [hsv] at hV
      cases gs with
      | nil => exact ⟨rfl, hV⟩
      | cons _ _ => exact hV.elim
    obtain ⟨rfl, rfl⟩ := hV0
    have hlen := trodAll_len _ _ _ _ hA
    have hsz : args.size = fn'.params.size := by have := hlen.1; simpa using this
    refine (walk W _ args ds p hsz hval hA hsh hx').mono fun e W' ⟨he, hg⟩ => ?_
    have e1 : s.fn H (ds ++ []) = { results := [.lit (.bool true)], args := ds } := by
      rw [List.append_nil]; exact hs ds (by have := hlen.2; simpa using this)
    have hlt : ∀ x ∈ p, x.block < W.heap.size := fun x hx => hW0.lt x (by rw [hbf]; simpa using hx)
    refine ⟨_, he, ds, [], before, [], p, [], hW0, ?_, ?_, ?_, hg.frame _, fun h => by cases h⟩
    · rw [e1, hres]; exact trodAll_mk1 (shut_bool hB true)
    · rw [e1]; exact trodAll_stays hl hg _ _ _ _ hread hA hlt
    · rw [e1, hsv]; rfl
  refine key.mono fun e W' ⟨v, he, hp⟩ => ?_
  subst he
  exact ChangeSpec.post_blind hp
end Go.Proofs.YtnffpaenalccaaaDoor
