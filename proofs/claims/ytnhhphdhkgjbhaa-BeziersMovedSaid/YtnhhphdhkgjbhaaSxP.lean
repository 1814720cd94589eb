/- What is proved: what is known of single variables goes into their bounds: the ways of a function, more quickly. No condition. -/
import Derived.Test.YtnhhphdhkgjbhaaSxK
set_option linter.unusedSimpArgs false
set_option linter.unusedVariables false
namespace Go.Proofs.Ytnhhphdhkgjbhaa
namespace Sx
open Go Go.RowKit

def forceI {β : Type} (n : Int) (k : Int → β) : β :=
  match n with
  | .ofNat m => match m with
    | 0 => k (.ofNat 0)
    | m + 1 => k (.ofNat (Nat.succ m))
  | .negSucc m => match m with
    | 0 => k (.negSucc 0)
    | m + 1 => k (.negSucc (Nat.succ m))
theorem forceI_eq {β : Type} (n : Int) (k : Int → β) : forceI n k = k n := by
  unfold forceI
  split <;> split <;> rfl
def forceVs {β : Type} : List (Int × Int) → (List (Int × Int) → β) → β
  | [], k => k []
  | (a, b) :: l, k => forceI a fun a => forceI b fun b => forceVs l fun l => k ((a, b) :: l)
theorem forceVs_eq {β : Type} : ∀ (l : List (Int × Int)) (k : List (Int × Int) → β), forceVs l k = k l
  | [], k => rfl
  | (a, b) :: l, k => by simp only [forceVs, forceI_eq, forceVs_eq l]
def forceCtx {β : Type} (X : Ctx) (k : Ctx → β) : β :=
  match X with
  | ⟨G, GI, vars, facts⟩ => forceVs vars fun vars => forceL facts fun facts => k ⟨G, GI, vars, facts⟩
theorem forceCtx_eq {β : Type} (X : Ctx) (k : Ctx → β) : forceCtx X k = k X := by
  obtain ⟨G, GI, vars, facts⟩ := X
  simp only [forceCtx, forceVs_eq, forceL_eq]
def stepV (f : B) (vs : List (Int × Int)) : List (Int × Int) :=
  match f with
  | .cmp _ (.var i) (.lit _) => match vs[i]? with
    | some q => vs.set i (narrow (.var i) f q)
    | none => vs
  | .cmp _ (.lit _) (.var i) => match vs[i]? with
    | some q => vs.set i (narrow (.var i) f q)
    | none => vs
  | _ => vs
def toldVar : B → Bool
  | .cmp .ne _ _ => false
  | .cmp _ (.var _) (.lit _) => true
  | .cmp _ (.lit _) (.var _) => true
  | _ => false
def Ctx.pre (X : Ctx) : Ctx := { X with vars := X.facts.foldr stepV (X.facts.foldr stepV X.vars), facts := X.facts.filter fun f => !toldVar f }
theorem stepV_set {G : Nat → List Int → Int} {ρ : Nat → Int} {f : B} (hf : f.den G ρ = true) {vs : List (Int × Int)} (h : ∀ i q, vs[i]? = some q → q.1 ≤ ρ i ∧ ρ i ≤ q.2) (j : Nat) (q0 : Int × Int) (hj : vs[j]? = some q0) :
    ∀ i q, (vs.set j (narrow (.var j) f q0))[i]? = some q → q.1 ≤ ρ i ∧ ρ i ≤ q.2 := by
  intro i q hq
  by_cases e : j = i
  · subst e
    have hlt : j < vs.length := (List.getElem?_eq_some_iff.1 hj).1
    rw [List.getElem?_set_self hlt] at hq
    cases hq
    exact narrow_has G ρ (.var j) f q0 hf (h j q0 hj)
  · rw [List.getElem?_set_ne e] at hq
    exact h i q hq
theorem stepV_has {G : Nat → List Int → Int} {ρ : Nat → Int} {f : B} (hf : f.den G ρ = true) {vs : List (Int × Int)} (h : ∀ i q, vs[i]? = some q → q.1 ≤ ρ i ∧ ρ i ≤ q.2) : ∀ i q, (stepV f vs)[i]? = some q → q.1 ≤ ρ i ∧ ρ i ≤ q.2 := by
  unfold stepV
  split
  · split
    · exact stepV_set hf h _ _ ‹_›
    · exact h
  · split
    · exact stepV_set hf h _ _ ‹_›
    · exact h
  · exact h
theorem foldV_has {G : Nat → List Int → Int} {ρ : Nat → Int} : ∀ (fs : List B) (vs : List (Int × Int)), (∀ b, b ∈ fs → b.den G ρ = true) → (∀ i q, vs[i]? = some q → q.1 ≤ ρ i ∧ ρ i ≤ q.2) → ∀ i q, (fs.foldr stepV vs)[i]? = some q → q.1 ≤ ρ i ∧ ρ i ≤ q.2
  | [], vs, _, h => h
  | f :: fs, vs, hf, h => stepV_has (hf f (by simp)) (foldV_has fs vs (fun b hb => hf b (by simp [hb])) h)
theorem Ctx.pre_ok {X : Ctx} {ρ : Nat → Int} (hX : X.Ok ρ) : X.pre.Ok ρ :=
  ⟨foldV_has X.facts _ hX.facts (foldV_has X.facts _ hX.facts hX.vars), fun b hb => hX.facts b (List.mem_filter.1 hb).1, hX.gi⟩
def withCtx {β : Type} (G : Nat → List Int → Int) (GI : Nat → List Itv → Itv) (vars : List (Int × Int)) (fs : List B) (k : Ctx → β) : β :=
  forceCtx (Ctx.pre ⟨G, GI, vars, fs⟩) fun X1 => forceCtx (Ctx.pre (Ctx.more X1)) k
theorem withCtx_eq {β : Type} (G : Nat → List Int → Int) (GI : Nat → List Itv → Itv) (vars : List (Int × Int)) (fs : List B) (k : Ctx → β) :
    withCtx G GI vars fs k = k (Ctx.pre (Ctx.more (Ctx.pre ⟨G, GI, vars, fs⟩))) := by
  unfold withCtx; rw [forceCtx_eq, forceCtx_eq]
theorem withCtx_ok {G : Nat → List Int → Int} {GI : Nat → List Itv → Itv} {vars : List (Int × Int)} {fs : List B} {ρ : Nat → Int} (hX : Ctx.Ok ⟨G, GI, vars, fs⟩ ρ) : (Ctx.pre (Ctx.more (Ctx.pre ⟨G, GI, vars, fs⟩))).Ok ρ := by
  have h1 := Ctx.pre_ok hX
  have h2 : (Ctx.more (Ctx.pre ⟨G, GI, vars, fs⟩)).Ok ρ := ⟨h1.vars, more_facts h1, h1.gi⟩
  exact Ctx.pre_ok h2
theorem way_calls3 {P : Program} {G : Nat → List Int → Int} {GI : Nat → List Itv → Itv} {vars : List (Int × Int)} {ρ : Nat → Int} {gb : Globs} {ct : Contracts} {n : Nat} {f : FuncId} {args : List SV} {p : Value → Prop} {run : List B → Res SV}
    (hrun : ∀ fs, run fs = withCtx G GI vars fs fun X => exFun P X gb ct n f args) (hm : P.follows .mixedOrders = true)
    (hv : ∀ i q, vars[i]? = some q → q.1 ≤ ρ i ∧ ρ i ≤ q.2) (hg : ∀ g is xs, itvsHave is xs → (GI g is).has (G g xs))
    (hct : ∀ X : Ctx, X.Ok ρ → X.G = G → CtOk P X ρ gb ct) (hargs : SV.ubdL 0 args = true) (hfl : gbFlat gb = true) (ha : gbApart gb)
    (hgood : Way run G ρ (fun s => s.ubd 0 = true ∧ p (s.den G ρ)) []) (w : World) (hw : WOk gb w) :
    Known P f ∧ Calls P f (SV.denL G ρ args).toArray w (fun e w' => ∃ v, e = .returned v ∧ p v ∧ Below w.heap.size w w') := by
  obtain ⟨fs, s, h1, h2, h3, h4⟩ := hgood (fun b hb => by cases hb)
  rw [hrun, withCtx_eq] at h2
  have hX := withCtx_ok (show Ctx.Ok ⟨G, GI, vars, fs⟩ ρ from ⟨hv, h1, hg⟩)
  obtain ⟨hk, hc⟩ := exFun_calls hX (hct _ hX rfl) hfl ha hm h2 (SV.denL_R args hargs) w hw
  refine ⟨hk, hc.mono ?_⟩
  rintro e w' ⟨v, α, rfl, r, hb⟩
  refine ⟨v, rfl, ?_, hb⟩
  rw [SV.R_den s v h3 r]
  exact h4
/-- any test may be asked -/
theorem way_cut {run : List B → Res SV} {G : Nat → List Int → Int} {ρ : Nat → Int} {p : SV → Prop} {fs : List B} (b : B)
    (h1 : b.den G ρ = true → Way run G ρ p (grow b ++ fs)) (h2 : b.den G ρ = false → Way run G ρ p (grow b.neg ++ fs)) : Way run G ρ p fs := by
  intro hf
  cases hb : b.den G ρ
  · refine h2 hb ?_
    intro c hc
    rcases List.mem_append.1 hc with hc | hc
    · exact grow_den (by rw [B.neg_den, hb]; rfl) c hc
    · exact hf c hc
  · refine h1 hb ?_
    intro c hc
    rcases List.mem_append.1 hc with hc | hc
    · exact grow_den hb c hc
    · exact hf c hc
end Sx
end Go.Proofs.Ytnhhphdhkgjbhaa
