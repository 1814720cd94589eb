/- What is proved: a function's ways, each with what is known on it, are all there are. No condition. -/
import Derived.Test.YtnhhphdhkgjbhaaSxI
set_option linter.unusedSimpArgs false
set_option linter.unusedVariables false
namespace Go.Proofs.Ytnhhphdhkgjbhaa
namespace Sx
open Go Go.RowKit

/-! what follows from a test -/
def growLe (n : Int) : E → List B
  | .op .max a b => .cmp .le (.op .max a b) (.lit n) :: (growLe n a ++ growLe n b)
  | e => [.cmp .le e (.lit n)]
def growGe (n : Int) : E → List B
  | .op .min a b => .cmp .le (.lit n) (.op .min a b) :: (growGe n a ++ growGe n b)
  | e => [.cmp .le (.lit n) e]
def grow : B → List B
  | .and x y => grow x ++ grow y
  | .cmp .le (.lit n) e => growGe n e
  | .cmp .lt (.lit n) e => .cmp .lt (.lit n) e :: growGe (n + 1) e
  | .cmp .le e (.lit n) => growLe n e
  | .cmp .lt e (.lit n) => .cmp .lt e (.lit n) :: growLe (n - 1) e
  | b => [b]
section
variable {G : Nat → List Int → Int} {ρ : Nat → Int}
theorem growLe_den {n : Int} : ∀ {e : E}, e.den G ρ ≤ n → ∀ b, b ∈ growLe n e → b.den G ρ = true
  | e, h, b, hb => by
    unfold growLe at hb
    split at hb
    · rename_i x y
      have h1 : x.den G ρ ≤ n ∧ y.den G ρ ≤ n := by
        simp only [E.den, IOp.den] at h
        split at h <;> omega
      rcases List.mem_cons.1 hb with rfl | hb
      · exact decide_eq_true h
      · rcases List.mem_append.1 hb with hb | hb
        · exact growLe_den h1.1 b hb
        · exact growLe_den h1.2 b hb
    · rw [List.mem_singleton.1 hb]; exact decide_eq_true h
theorem growGe_den {n : Int} : ∀ {e : E}, n ≤ e.den G ρ → ∀ b, b ∈ growGe n e → b.den G ρ = true
  | e, h, b, hb => by
    unfold growGe at hb
    split at hb
    · rename_i x y
      have h1 : n ≤ x.den G ρ ∧ n ≤ y.den G ρ := by
        simp only [E.den, IOp.den] at h
        split at h <;> omega
      rcases List.mem_cons.1 hb with rfl | hb
      · exact decide_eq_true h
      · rcases List.mem_append.1 hb with hb | hb
        · exact growGe_den h1.1 b hb
        · exact growGe_den h1.2 b hb
    · rw [List.mem_singleton.1 hb]; exact decide_eq_true h
theorem grow_den : ∀ {f : B}, f.den G ρ = true → ∀ b, b ∈ grow f → b.den G ρ = true
  | f, h, b, hb => by
    unfold grow at hb
    split at hb
    · rename_i x y
      simp only [B.den, Bool.and_eq_true] at h
      rcases List.mem_append.1 hb with hb | hb
      · exact grow_den h.1 b hb
      · exact grow_den h.2 b hb
    · exact growGe_den (of_decide_eq_true h) b hb
    · rcases List.mem_cons.1 hb with rfl | hb
      · exact h
      · have h' := of_decide_eq_true h
        simp only [E.den] at h'
        exact growGe_den (by omega) b hb
    · exact growLe_den (of_decide_eq_true h) b hb
    · rcases List.mem_cons.1 hb with rfl | hb
      · exact h
      · have h' := of_decide_eq_true h
        simp only [E.den] at h'
        exact growLe_den (by omega) b hb
    · rw [List.mem_singleton.1 hb]; exact h
end
/-! the ways -/
inductive Tree where
  | leaf (s : SV)
  | br (b : B) (t f : Tree)
  | bad (code : Nat)
def explore (run : List B → Res SV) : Nat → List B → Tree
  | 0, _ => .bad 0
  | n + 1, fs =>
    match run fs with
    | .ok s => .leaf s
    | .fail c => .bad c
    | .need b => .br b (explore run n (grow b ++ fs)) (explore run n (grow b.neg ++ fs))
/-- on every way: what is asked of what it gives -/
def Tree.Good (G : Nat → List Int → Int) (ρ : Nat → Int) (p : SV → Prop) : Tree → Prop
  | .leaf s => p s
  | .br b t f => (b.den G ρ = true → Tree.Good G ρ p t) ∧ (b.den G ρ = false → Tree.Good G ρ p f)
  | .bad _ => False
theorem explore_ok {G : Nat → List Int → Int} {ρ : Nat → Int} {p : SV → Prop} {run : List B → Res SV} : ∀ (n : Nat) (fs : List B), (∀ b, b ∈ fs → b.den G ρ = true) → (explore run n fs).Good G ρ p → ∃ fs' s, (∀ b, b ∈ fs' → b.den G ρ = true) ∧ run fs' = .ok s ∧ p s
  | 0, fs, _, h => by simp [explore, Tree.Good] at h
  | n + 1, fs, hf, h => by
    unfold explore at h
    split at h
    · rename_i s hs
      exact ⟨fs, s, hf, hs, h⟩
    · exact h.elim
    · rename_i b _
      simp only [Tree.Good] at h
      cases hb : b.den G ρ
      · refine explore_ok n _ ?_ (h.2 hb)
        intro c hc
        rcases List.mem_append.1 hc with hc | hc
        · exact grow_den (by rw [B.neg_den, hb]; rfl) c hc
        · exact hf c hc
      · refine explore_ok n _ ?_ (h.1 hb)
        intro c hc
        rcases List.mem_append.1 hc with hc | hc
        · exact grow_den hb c hc
        · exact hf c hc
/-! values without places -/
mutual
def SV.den (G : Nat → List Int → Int) (ρ : Nat → Int) : SV → Value
  | .bool b => .bool (b.den G ρ)
  | .int k e => .int k (e.den G ρ)
  | .agg l => .agg (SV.denL G ρ l).toArray
  | .tuple l => .tuple (SV.denL G ρ l).toArray
  | .con v => v
  | .func fn f c => .func fn (SV.denL G ρ f).toArray (SV.denL G ρ c).toArray
  | _ => .nilFunc
def SV.denL (G : Nat → List Int → Int) (ρ : Nat → Int) : List SV → List Value
  | [] => []
  | s :: l => SV.den G ρ s :: SV.denL G ρ l
end
mutual
theorem SV.R_den {G : Nat → List Int → Int} {ρ : Nat → Int} {α : AMap} : ∀ (s : SV) (v : Value), s.ubd 0 = true → SV.R G ρ α s v → v = s.den G ρ
  | .bool b, v, _, r => by simpa [SV.R, SV.den] using r
  | .int k e, v, _, r => by simpa [SV.R, SV.den] using r
  | .con x, v, _, r => by simpa [SV.R, SV.den] using r
  | .ptr id off, v, h, _ => by simp [SV.ubd] at h
  | .slice id off l c, v, h, _ => by simp [SV.ubd] at h
  | .agg l, v, h, r => by
    simp only [SV.R] at r
    obtain ⟨cs, rfl, h2⟩ := r
    simp only [SV.den]
    rw [SV.RL_den l cs (by simpa [SV.ubd] using h) h2]
  | .tuple l, v, h, r => by
    simp only [SV.R] at r
    obtain ⟨cs, rfl, h2⟩ := r
    simp only [SV.den]
    rw [SV.RL_den l cs (by simpa [SV.ubd] using h) h2]
  | .func fn f c, v, h, r => by
    simp only [SV.R] at r
    obtain ⟨fs, cs, rfl, h2, h3⟩ := r
    simp only [SV.ubd, Bool.and_eq_true] at h
    simp only [SV.den]
    rw [SV.RL_den f fs h.1 h2, SV.RL_den c cs h.2 h3]
theorem SV.RL_den {G : Nat → List Int → Int} {ρ : Nat → Int} {α : AMap} : ∀ (l : List SV) (vs : List Value), SV.ubdL 0 l = true → SV.RL G ρ α l vs → vs = SV.denL G ρ l
  | [], vs, _, r => by simpa [SV.RL, SV.denL] using r
  | s :: l, vs, h, r => by
    simp only [SV.RL] at r
    obtain ⟨v, vs', rfl, h2, h3⟩ := r
    simp only [SV.ubdL, Bool.and_eq_true] at h
    simp only [SV.denL]
    rw [SV.R_den s v h.1 h2, SV.RL_den l vs' h.2 h3]
end
mutual
theorem SV.den_R {G : Nat → List Int → Int} {ρ : Nat → Int} {α : AMap} : ∀ (s : SV), s.ubd 0 = true → SV.R G ρ α s (s.den G ρ)
  | .bool b, _ => by simp [SV.R, SV.den]
  | .int k e, _ => by simp [SV.R, SV.den]
  | .con x, _ => by simp [SV.R, SV.den]
  | .ptr id off, h => by simp [SV.ubd] at h
  | .slice id off l c, h => by simp [SV.ubd] at h
  | .agg l, h => by
    simp only [SV.R, SV.den]
    exact ⟨_, rfl, SV.denL_R l (by simpa [SV.ubd] using h)⟩
  | .tuple l, h => by
    simp only [SV.R, SV.den]
    exact ⟨_, rfl, SV.denL_R l (by simpa [SV.ubd] using h)⟩
  | .func fn f c, h => by
    simp only [SV.ubd, Bool.and_eq_true] at h
    simp only [SV.R, SV.den]
    exact ⟨_, _, rfl, SV.denL_R f h.1, SV.denL_R c h.2⟩
theorem SV.denL_R {G : Nat → List Int → Int} {ρ : Nat → Int} {α : AMap} : ∀ (l : List SV), SV.ubdL 0 l = true → SV.RL G ρ α l (SV.denL G ρ l)
  | [], _ => by simp [SV.RL, SV.denL]
  | s :: l, h => by
    simp only [SV.ubdL, Bool.and_eq_true] at h
    simp only [SV.denL]
    exact RL_cons (SV.den_R s h.1) (SV.denL_R l h.2)
end
/-- A function's contract from its ways. -/
theorem tree_calls {P : Program} {G : Nat → List Int → Int} {GI : Nat → List Itv → Itv} {vars : List (Int × Int)} {ρ : Nat → Int} {gb : Globs} {ct : Contracts} {n m : Nat} {f : FuncId} {args : List SV} {T : Tree} {p : Value → Prop}
    (hT : explore (fun fs => exFun P ⟨G, GI, vars, fs⟩ gb ct n f args) m [] = T) (hm : P.follows .mixedOrders = true)
    (hv : ∀ i q, vars[i]? = some q → q.1 ≤ ρ i ∧ ρ i ≤ q.2) (hg : ∀ g is xs, itvsHave is xs → (GI g is).has (G g xs))
    (hct : ∀ fs, (∀ b, b ∈ fs → b.den G ρ = true) → CtOk P ⟨G, GI, vars, fs⟩ ρ gb ct) (hargs : SV.ubdL 0 args = true) (hfl : gbFlat gb = true) (ha : gbApart gb)
    (hgood : T.Good G ρ (fun s => s.ubd 0 = true ∧ p (s.den G ρ))) (w : World) (hw : WOk gb w) :
    Known P f ∧ Calls P f (SV.denL G ρ args).toArray w (fun e w' => ∃ v, e = .returned v ∧ p v ∧ Below w.heap.size w w') := by
  subst hT
  obtain ⟨fs, s, h1, h2, h3, h4⟩ := explore_ok m [] (fun b hb => by cases hb) hgood
  have hX : Ctx.Ok ⟨G, GI, vars, fs⟩ ρ := ⟨hv, h1, hg⟩
  obtain ⟨hk, hc⟩ := exFun_calls hX (hct fs h1) hfl ha hm h2 (SV.denL_R args hargs) w hw
  refine ⟨hk, hc.mono ?_⟩
  rintro e w' ⟨v, α, rfl, r, hb⟩
  refine ⟨v, rfl, ?_, hb⟩
  rw [SV.R_den s v h3 r]
  exact h4
/-! the ways, node by node -/
def Way (run : List B → Res SV) (G : Nat → List Int → Int) (ρ : Nat → Int) (p : SV → Prop) (fs : List B) : Prop :=
  (∀ b, b ∈ fs → b.den G ρ = true) → ∃ fs' s, (∀ b, b ∈ fs' → b.den G ρ = true) ∧ run fs' = .ok s ∧ p s
theorem way_leaf {run : List B → Res SV} {G : Nat → List Int → Int} {ρ : Nat → Int} {p : SV → Prop} {fs : List B} {s : SV} (h : run fs = .ok s) (hp : p s) : Way run G ρ p fs := fun hf => ⟨fs, s, hf, h, hp⟩
theorem way_need {run : List B → Res SV} {G : Nat → List Int → Int} {ρ : Nat → Int} {p : SV → Prop} {fs : List B} {b : B} (_h : run fs = .need b)
    (h1 : b.den G ρ = true → Way run G ρ p (grow b ++ fs)) (h2 : b.den G ρ = false → Way run G ρ p (grow b.neg ++ fs)) : Way run G ρ p fs := by
  intro hf
  cases hb : b.den G ρ
  · refine h2 hb ?_
    intro c hc
    rcases List.mem_append.1 hc with hc | hc
    · exact grow_den (by rw [B.neg_den, hb]; rfl) c hc
    · exact hf c hc
  · refine h1 hb ?_
    intro c hc
    rcases List.mem_append.1 hc with hc | hc
    · exact grow_den hb c hc
    · exact hf c hc
theorem way_calls {P : Program} {G : Nat → List Int → Int} {GI : Nat → List Itv → Itv} {vars : List (Int × Int)} {ρ : Nat → Int} {gb : Globs} {ct : Contracts} {n : Nat} {f : FuncId} {args : List SV} {p : Value → Prop} {run : List B → Res SV}
    (hrun : ∀ fs, run fs = exFun P ⟨G, GI, vars, fs⟩ gb ct n f args) (hm : P.follows .mixedOrders = true)
    (hv : ∀ i q, vars[i]? = some q → q.1 ≤ ρ i ∧ ρ i ≤ q.2) (hg : ∀ g is xs, itvsHave is xs → (GI g is).has (G g xs))
    (hct : ∀ fs, (∀ b, b ∈ fs → b.den G ρ = true) → CtOk P ⟨G, GI, vars, fs⟩ ρ gb ct) (hargs : SV.ubdL 0 args = true) (hfl : gbFlat gb = true) (ha : gbApart gb)
    (hgood : Way run G ρ (fun s => s.ubd 0 = true ∧ p (s.den G ρ)) []) (w : World) (hw : WOk gb w) :
    Known P f ∧ Calls P f (SV.denL G ρ args).toArray w (fun e w' => ∃ v, e = .returned v ∧ p v ∧ Below w.heap.size w w') := by
  obtain ⟨fs, s, h1, h2, h3, h4⟩ := hgood (fun b hb => by cases hb)
  rw [hrun] at h2
  have hX : Ctx.Ok ⟨G, GI, vars, fs⟩ ρ := ⟨hv, h1, hg⟩
  obtain ⟨hk, hc⟩ := exFun_calls hX (hct fs h1) hfl ha hm h2 (SV.denL_R args hargs) w hw
  refine ⟨hk, hc.mono ?_⟩
  rintro e w' ⟨v, α, rfl, r, hb⟩
  refine ⟨v, rfl, ?_, hb⟩
  rw [SV.R_den s v h3 r]
  exact h4
/-! what is known of bounds by other expressions -/
def E.isLit : E → Bool
  | .lit _ => true
  | _ => false
def moreLe (X : Ctx) (a e : E) (d : Int) : List B :=
  (match E.itv X e with | some p => if a.isLit then [] else [.cmp .le a (.lit (p.2 - d))] | none => []) ++
  (match E.itv X a with | some p => if e.isLit then [] else [.cmp .le (.lit (p.1 + d)) e] | none => [])
def moreOf (X : Ctx) : B → List B
  | .cmp .le a e => if a.isLit || e.isLit then [] else moreLe X a e 0
  | .cmp .lt a e => if a.isLit || e.isLit then [] else moreLe X a e 1
  | _ => []
def Ctx.more (X : Ctx) : Ctx := { X with facts := X.facts.flatMap (moreOf X) ++ X.facts }
theorem moreLe_den {X : Ctx} {ρ : Nat → Int} (hX : X.Ok ρ) {a e : E} {d : Int} (h : a.den X.G ρ + d ≤ e.den X.G ρ) : ∀ b, b ∈ moreLe X a e d → b.den X.G ρ = true := by
  intro b hb
  have ha := E.itv_has hX a
  have he := E.itv_has hX e
  unfold moreLe at hb
  rcases List.mem_append.1 hb with hb | hb
  · split at hb
    · rename_i p hp
      rw [hp] at he
      simp only [Itv.has] at he
      split at hb
      · cases hb
      · rw [List.mem_singleton.1 hb]
        exact decide_eq_true (show a.den X.G ρ ≤ p.2 - d by omega)
    · cases hb
  · split at hb
    · rename_i p hp
      rw [hp] at ha
      simp only [Itv.has] at ha
      split at hb
      · cases hb
      · rw [List.mem_singleton.1 hb]
        exact decide_eq_true (show p.1 + d ≤ e.den X.G ρ by omega)
    · cases hb
theorem moreOf_den {X : Ctx} {ρ : Nat → Int} (hX : X.Ok ρ) {f : B} (h : f.den X.G ρ = true) : ∀ b, b ∈ moreOf X f → b.den X.G ρ = true := by
  intro b hb
  unfold moreOf at hb
  split at hb
  · split at hb
    · cases hb
    · simp only [B.den, COp.den, decide_eq_true_eq] at h
      exact moreLe_den hX (by omega) b hb
  · split at hb
    · cases hb
    · simp only [B.den, COp.den, decide_eq_true_eq] at h
      exact moreLe_den hX (by omega) b hb
  · cases hb
theorem more_facts {X : Ctx} {ρ : Nat → Int} (hX : X.Ok ρ) : ∀ b, b ∈ X.more.facts → b.den X.G ρ = true := by
  intro b hb
  rcases List.mem_append.1 hb with hb | hb
  · obtain ⟨f, hf, hb⟩ := List.mem_flatMap.1 hb
    exact moreOf_den hX (hX.facts f hf) b hb
  · exact hX.facts b hb
theorem way_calls2 {P : Program} {G : Nat → List Int → Int} {GI : Nat → List Itv → Itv} {vars : List (Int × Int)} {ρ : Nat → Int} {gb : Globs} {ct : Contracts} {n : Nat} {f : FuncId} {args : List SV} {p : Value → Prop} {run : List B → Res SV}
    (hrun : ∀ fs, run fs = exFun P (Ctx.more ⟨G, GI, vars, fs⟩) gb ct n f args) (hm : P.follows .mixedOrders = true)
    (hv : ∀ i q, vars[i]? = some q → q.1 ≤ ρ i ∧ ρ i ≤ q.2) (hg : ∀ g is xs, itvsHave is xs → (GI g is).has (G g xs))
    (hct : ∀ fs, (∀ b, b ∈ fs → b.den G ρ = true) → CtOk P ⟨G, GI, vars, fs⟩ ρ gb ct) (hargs : SV.ubdL 0 args = true) (hfl : gbFlat gb = true) (ha : gbApart gb)
    (hgood : Way run G ρ (fun s => s.ubd 0 = true ∧ p (s.den G ρ)) []) (w : World) (hw : WOk gb w) :
    Known P f ∧ Calls P f (SV.denL G ρ args).toArray w (fun e w' => ∃ v, e = .returned v ∧ p v ∧ Below w.heap.size w w') := by
  obtain ⟨fs, s, h1, h2, h3, h4⟩ := hgood (fun b hb => by cases hb)
  rw [hrun] at h2
  have hX0 : Ctx.Ok ⟨G, GI, vars, fs⟩ ρ := ⟨hv, h1, hg⟩
  have hf := more_facts hX0
  have hX : Ctx.Ok (Ctx.more ⟨G, GI, vars, fs⟩) ρ := ⟨hv, hf, hg⟩
  obtain ⟨hk, hc⟩ := exFun_calls hX (hct (Ctx.more ⟨G, GI, vars, fs⟩).facts hf) hfl ha hm h2 (SV.denL_R args hargs) w hw
  refine ⟨hk, hc.mono ?_⟩
  rintro e w' ⟨v, α, rfl, r, hb⟩
  refine ⟨v, rfl, ?_, hb⟩
  rw [SV.R_den s v h3 r]
  exact h4
end Sx
end Go.Proofs.Ytnhhphdhkgjbhaa
