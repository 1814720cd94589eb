/- What is proved: what single operations do to closed data is what they do in the model. No condition. -/
import Derived.Test.YtnhhphdhkgjbhaaSxB
import Derived.ChangeKeysEq
import Derived.Laws.CopyRow
import Derived.Laws.MakeOwn
import Derived.Lib.MinMax
set_option linter.unusedSimpArgs false
set_option linter.unusedVariables false
namespace Go.Proofs.Ytnhhphdhkgjbhaa
namespace Sx
open Go Go.RowKit

/-! ### what is brought to its head form ahead of going on: it changes nothing -/
def forceL {α β : Type} : List α → (List α → β) → β
  | [], k => k []
  | a :: l, k => forceL l fun l' => k (a :: l')
theorem forceL_eq {α β : Type} : ∀ (l : List α) (k : List α → β), forceL l k = k l
  | [], k => rfl
  | a :: l, k => by unfold forceL; rw [forceL_eq l]
def forceE {β : Type} (e : E) (k : E → β) : β :=
  match e with
  | .lit n => k (.lit n)
  | .var i => k (.var i)
  | .op o a b => k (.op o a b)
  | .wrap q a => k (.wrap q a)
  | .bit o q a b => k (.bit o q a b)
  | .app g l => k (.app g l)
theorem forceE_eq {β : Type} (e : E) (k : E → β) : forceE e k = k e := by cases e <;> rfl
def forceB {β : Type} (b : B) (k : B → β) : β :=
  match b with
  | .lit x => k (.lit x)
  | .cmp o a b => k (.cmp o a b)
  | .and x y => k (.and x y)
  | .or x y => k (.or x y)
theorem forceB_eq {β : Type} (b : B) (k : B → β) : forceB b k = k b := by cases b <;> rfl
def forceV {β : Type} (s : SV) (k : SV → β) : β :=
  match s with
  | .int q e => forceE e fun e => k (.int q e)
  | .bool b => forceB b fun b => k (.bool b)
  | .agg l => forceL l fun l => k (.agg l)
  | .tuple l => forceL l fun l => k (.tuple l)
  | .ptr i o => k (.ptr i o)
  | .slice i o l c => k (.slice i o l c)
  | .func f a c => k (.func f a c)
  | .con v => k (.con v)
  | .map i => k (.map i)
theorem forceV_eq {β : Type} (s : SV) (k : SV → β) : forceV s k = k s := by
  cases s <;> simp only [forceV, forceL_eq, forceE_eq, forceB_eq]
inductive Res (α : Type) where
  | ok (a : α)
  | need (b : B)
  | fail (code : Nat)
def Res.bind {α β : Type} (r : Res α) (f : α → Res β) : Res β :=
  match r with
  | .ok a => f a
  | .need b => .need b
  | .fail c => .fail c
theorem Res.bind_ok {α β : Type} {r : Res α} {f : α → Res β} {b : β} (h : r.bind f = .ok b) : ∃ a, r = .ok a ∧ f a = .ok b := by
  cases r with
  | ok a => exact ⟨a, rfl, h⟩
  | need b => cases h
  | fail c => cases h
def Res.ofOpt {α : Type} (code : Nat) : Option α → Res α
  | some a => .ok a
  | none => .fail code
theorem Res.ofOpt_ok {α : Type} {code : Nat} {o : Option α} {a : α} (h : Res.ofOpt code o = .ok a) : o = some a := by
  cases o with
  | none => cases h
  | some b => cases h; rfl
def Res.test (X : Ctx) (b : B) : Res Bool :=
  match b.dec X with
  | some r => .ok r
  | none => .need (b.atom X)
theorem Res.test_ok {X : Ctx} {ρ : Nat → Int} (hX : X.Ok ρ) {b : B} {r : Bool} (h : Res.test X b = .ok r) : b.den X.G ρ = r := by
  unfold Res.test at h
  split at h
  · cases h; exact B.dec_eq hX b ‹_›
  · cases h
/-- a test that is asked for as a whole -/
def Res.testW (X : Ctx) (b : B) : Res Bool :=
  match b.dec X with
  | some r => .ok r
  | none => .need b
theorem Res.testW_ok {X : Ctx} {ρ : Nat → Int} (hX : X.Ok ρ) {b : B} {r : Bool} (h : Res.testW X b = .ok r) : b.den X.G ρ = r := by
  unfold Res.testW at h
  split at h
  · cases h; exact B.dec_eq hX b ‹_›
  · cases h
/-- an expression's one value; if it has few, which one is asked for -/
def Res.num (X : Ctx) (e : E) : Res Int :=
  match e.const? X with
  | some n => .ok n
  | none => match e.itv X with
    | some p => .need (.cmp .eq e (.lit p.1))
    | none => .fail 1
theorem Res.num_ok {X : Ctx} {ρ : Nat → Int} (hX : X.Ok ρ) {e : E} {n : Int} (h : Res.num X e = .ok n) : e.den X.G ρ = n := by
  unfold Res.num at h
  split at h
  · cases h; exact E.const_eq hX ‹_›
  · split at h <;> cases h

/-! ### pieces -/
def SV.cells : SV → Option (List SV)
  | .agg l => some l
  | .con (.agg _) => none
  | s => some [s]
def Program.isAggT (P : Program) (t : TypeId) : Option Bool :=
  match P.underlying t with
  | some (.struct _) => some true
  | some (.array _ _) => some true
  | some _ => some false
  | none => none
def sPart (P : Program) (t : TypeId) (l : List SV) (off : Nat) : Option SV :=
  match Program.isAggT P t with
  | some true => match P.info? t with
    | some i => some (.agg ((l.drop off).take i.size))
    | none => none
  | some false => l[off]?
  | none => none
section
variable {G : Nat → List Int → Int} {ρ : Nat → Int} {P : Program}
theorem R_cells {α : AMap} {s : SV} {v : Value} {l : List SV} (h : s.cells = some l) (r : SV.R G ρ α s v) : SV.RL G ρ α l v.cells.toList := by
  unfold SV.cells at h
  split at h
  · cases h
    simp only [SV.R] at r
    obtain ⟨cs, rfl, h2⟩ := r
    simpa [Value.cells] using h2
  · cases h
  · rename_i hn1 hn2
    cases h
    have : v.cells = #[v] := by
      cases s <;> simp only [SV.R] at r
      case agg l => exact absurd rfl (hn1 l)
      case con x =>
        subst r
        cases v <;> first | rfl | (exact absurd rfl (hn2 _))
      case tuple l => obtain ⟨cs, rfl, _⟩ := r; rfl
      case func fn f c => obtain ⟨_, _, rfl, _⟩ := r; rfl
      case ptr => obtain ⟨_, _, rfl⟩ := r; rfl
      case slice => obtain ⟨_, _, rfl⟩ := r; rfl
      case map => obtain ⟨_, _, rfl⟩ := r; rfl
      all_goals (subst r; rfl)
    rw [this]
    simpa using RL_cons r RL_nil
theorem isAgg_run {t : TypeId} {b : Bool} (h : Program.isAggT P t = some b) (w : World) : (isAgg t).run P w = .ok b w := by
  unfold Program.isAggT at h
  split at h
  · rename_i hu; cases h; simp [isAgg, run_underlying hu]
  · rename_i hu; cases h; simp [isAgg, run_underlying hu]
  · rename_i d h1 h2 hu
    cases h
    simp only [isAgg, Sem.run_bind, run_underlying hu, Result.andThen_ok]
    rfl
  · cases h
theorem sPart_run {α : AMap} {t : TypeId} {l : List SV} {cs : List Value} {off : Nat} {s : SV} (h : sPart P t l off = some s) (r : SV.RL G ρ α l cs) (w : World) :
    ∃ v, (part t cs.toArray off).run P w = .ok v w ∧ SV.R G ρ α s v := by
  unfold sPart at h
  split at h
  · rename_i ha
    split at h
    · rename_i i hi
      cases h
      refine ⟨.agg (cs.toArray.extract off (off + i.size)), ?_, ?_⟩
      · simp only [part, Sem.run_bind, isAgg_run ha, Result.andThen_ok, if_true]
        simp [sizeOf, typeInfo, hi]
      · simp only [SV.R]
        refine ⟨(cs.drop off).take i.size, ?_, RL_take _ (RL_drop _ r)⟩
        congr 1
        simp [List.extract_eq_take_drop]
    · cases h
  · rename_i ha
    obtain ⟨v, hv, hr⟩ := RL_get r h
    refine ⟨v, ?_, hr⟩
    simp only [part, Sem.run_bind, isAgg_run ha, Result.andThen_ok, Bool.false_eq_true, if_false]
    simp [hv]
  · cases h
end
/-! filling a struct or an array -/
def sSplice (cells : List SV) (off : Nat) (c : List SV) : List SV := c.zipIdx.foldl (fun cs p => cs.set (off + p.2) p.1) cells
def sFill (place : Nat → Option (Nat × Nat)) (cells : List SV) : List (Nat × SV) → Option (List SV)
  | [] => some cells
  | (i, s) :: rest =>
    match place i with
    | none => none
    | some (off, size) =>
      match s.cells with
      | none => none
      | some c => if decide (c.length ≠ size) || decide (off + c.length > cells.length) then none else sFill place (sSplice cells off c) rest
def sBuilt (P : Program) (t : TypeId) (parts : List (Nat × SV)) : Option (List SV) :=
  match P.info? t, P.underlying t with
  | some it, some (.array _ e) =>
    match it.zero, P.info? e with
    | some z, some ie => match (SV.ofV z).cells with
      | some zc => sFill (fun i => some (i * ie.size, ie.size)) zc parts
      | none => none
    | _, _ => none
  | some it, some (.struct fields) =>
    match it.zero, fields.toList.mapM (fun f => (P.info? f.type).map fun i => (f.offset, i.size)) with
    | some z, some places => match (SV.ofV z).cells with
      | some zc => sFill (places.toArray[·]?) zc parts
      | none => none
    | _, _ => none
  | _, _ => none
section
variable {G : Nat → List Int → Int} {ρ : Nat → Int} {P : Program}
theorem splice_rel {α : AMap} (off : Nat) : ∀ (c : List SV) (vs : List Value) (k : Nat) (cells : List SV) (cs : List Value), SV.RL G ρ α c vs → SV.RL G ρ α cells cs →
    SV.RL G ρ α ((c.zipIdx k).foldl (fun cs p => cs.set (off + p.2) p.1) cells) ((vs.zipIdx k).foldl (fun cs p => cs.set (off + p.2) p.1) cs)
  | [], vs, k, cells, cs, r, q => by simp only [SV.RL] at r; subst r; simpa using q
  | s :: c, vs, k, cells, cs, r, q => by
    simp only [SV.RL] at r
    obtain ⟨v, vs', rfl, h2, h3⟩ := r
    simp only [List.zipIdx_cons, List.foldl_cons]
    exact splice_rel off c vs' (k + 1) _ _ h3 (RL_set _ q h2)
theorem foldl_setIfInBounds (off : Nat) : ∀ (l : List (Value × Nat)) (cs : Array Value), (l.foldl (fun (cs : Array Value) p => cs.setIfInBounds (off + p.2) p.1) cs).toList = l.foldl (fun cs p => cs.set (off + p.2) p.1) cs.toList
  | [], cs => rfl
  | p :: l, cs => by
    simp only [List.foldl_cons]
    rw [foldl_setIfInBounds off l]
    simp
inductive Parts (G : Nat → List Int → Int) (ρ : Nat → Int) (α : AMap) : List (Nat × SV) → List (Nat × Value) → Prop where
  | nil : Parts G ρ α [] []
  | cons {i : Nat} {s : SV} {v : Value} {l : List (Nat × SV)} {m : List (Nat × Value)} (h : SV.R G ρ α s v) (t : Parts G ρ α l m) : Parts G ρ α ((i, s) :: l) ((i, v) :: m)
theorem fill_run {α : AMap} {place : Nat → Option (Nat × Nat)} : ∀ {ps : List (Nat × SV)} {vs : List (Nat × Value)} {cells : List SV} {cs : Array Value} {out : List SV}, Parts G ρ α ps vs → SV.RL G ρ α cells cs.toList →
    sFill place cells ps = some out → ∃ os : Array Value, Instr.fill place cs vs = some os ∧ SV.RL G ρ α out os.toList
  | [], _, cells, cs, out, .nil, q, h => by
    simp only [sFill, Option.some.injEq] at h
    subst h
    exact ⟨cs, rfl, q⟩
  | (i, s) :: ps, _, cells, cs, out, .cons (v := v) (m := m) hv ht, q, h => by
    unfold sFill at h
    split at h
    · cases h
    · rename_i off size hp
      split at h
      · cases h
      · rename_i c hc
        have rc := R_cells hc hv
        have l1 := RL_length rc
        have l2 := RL_length q
        split at h
        · cases h
        · rename_i hg
          simp only [Bool.or_eq_true, decide_eq_true_eq, not_or, Decidable.not_not] at hg
          have key : SV.RL G ρ α (sSplice cells off c) (v.cells.zipIdx.foldl (fun (cs : Array Value) p => cs.setIfInBounds (off + p.2) p.1) cs).toList := by
            rw [← Array.foldl_toList, foldl_setIfInBounds]
            have := splice_rel (G := G) (ρ := ρ) off c v.cells.toList 0 cells cs.toList rc q
            simpa [sSplice] using this
          obtain ⟨os, h1, h2⟩ := fill_run ht key h
          refine ⟨os, ?_, h2⟩
          unfold Instr.fill
          rw [hp]
          simp only
          rw [if_neg ?_]
          · exact h1
          · simp only [Array.length_toList] at l1 l2
            simp only [ne_eq, Bool.or_eq_true, decide_eq_true_eq, not_or, Decidable.not_not]
            omega
theorem built_run {α : AMap} {t : TypeId} {ps : List (Nat × SV)} {vs : List (Nat × Value)} {out : List SV} (hp : Parts G ρ α ps vs) (h : sBuilt P t ps = some out) :
    ∃ os : Array Value, P.built t vs = some os ∧ SV.RL G ρ α out os.toList := by
  unfold sBuilt at h
  unfold Program.built
  split at h
  · rename_i it n e hi hu
    simp only [hi, hu]
    split at h
    · rename_i z ie hz he
      simp only [hz, he]
      split at h
      · rename_i zc hzc
        exact fill_run hp (R_cells hzc (R_ofV z)) h
      · cases h
    · cases h
  · rename_i it fs hi hu
    simp only [hi, hu]
    split at h
    · rename_i z pl hz he
      simp only [hz, he]
      split at h
      · rename_i zc hzc
        exact fill_run hp (R_cells hzc (R_ofV z)) h
      · cases h
    · cases h
  · cases h
end
/-! ### numbers -/
def iffB (x y : B) : B := .or (.and x y) (.and x.neg y.neg)
theorem iffB_den (G : Nat → List Int → Int) (ρ : Nat → Int) (x y : B) : (iffB x y).den G ρ = (x.den G ρ == y.den G ρ) := by
  simp only [iffB, B.den, B.neg_den]
  cases x.den G ρ <;> cases y.den G ρ <;> rfl
def mkAnd (x y : B) : B :=
  match x, y with
  | .lit true, y => y
  | .lit false, _ => .lit false
  | x, .lit true => x
  | x, y => .and x y
theorem mkAnd_den (G : Nat → List Int → Int) (ρ : Nat → Int) (x y : B) : (mkAnd x y).den G ρ = (x.den G ρ && y.den G ρ) := by
  unfold mkAnd
  split <;> simp [B.den]
def sEqFields (P : Program) (eq : TypeId → SV → SV → Option B) (xs ys : List SV) : List Field → Option B
  | [] => some (.lit true)
  | f :: fs =>
    if f.name ≠ "_" then
      match sPart P f.type xs f.offset, sPart P f.type ys f.offset with
      | some a, some b => match eq f.type a b, sEqFields P eq xs ys fs with
        | some p, some q => some (mkAnd p q)
        | _, _ => none
      | _, _ => none
    else sEqFields P eq xs ys fs
def sEqItems (P : Program) (eq : TypeId → SV → SV → Option B) (e : TypeId) (c : Nat) (xs ys : List SV) : List Nat → Option B
  | [] => some (.lit true)
  | i :: is =>
    match sPart P e xs (i * c), sPart P e ys (i * c) with
    | some a, some b => match eq e a b, sEqItems P eq e c xs ys is with
      | some p, some q => some (mkAnd p q)
      | _, _ => none
    | _, _ => none
def sEq (P : Program) : Nat → TypeId → SV → SV → Option B
  | 0, _, _, _ => none
  | d + 1, t, x, y =>
    match P.underlying t with
    | some .bool => match x, y with
      | .bool a, .bool b => some (iffB a b)
      | _, _ => none
    | some (.int _) => match x, y with
      | .int k a, .int q b => if decide (k = q) then some (.cmp .eq a b) else none
      | _, _ => none
    | some (.struct fs) => match x, y with
      | .agg xs, .agg ys => if P.stoodInHeld t then none else sEqFields P (sEq P d) xs ys fs.toList
      | _, _ => none
    | some (.array n e) => match x, y with
      | .agg xs, .agg ys => match P.info? e with
        | some i => sEqItems P (sEq P d) e i.size xs ys (List.range n)
        | none => none
      | _, _ => none
    | _ => none
section
variable {G : Nat → List Int → Int} {ρ : Nat → Int} {P : Program}
theorem sEqFields_run {α : AMap} {d : Nat} {eq : TypeId → SV → SV → Option B}
    (heq : ∀ (t : TypeId) (x y : SV) (b : B), eq t x y = some b → ∀ (u v : Value) (w : World), SV.R G ρ α x u → SV.R G ρ α y v → (Op.equalIn d t u v).run P w = .ok (b.den G ρ) w)
    {xs ys : List SV} {us vs : List Value} (hx : SV.RL G ρ α xs us) (hy : SV.RL G ρ α ys vs) : ∀ (fs : List Field) (b : B), sEqFields P eq xs ys fs = some b → ∀ w : World,
    (Op.eqFields d us.toArray vs.toArray fs).run P w = .ok (b.den G ρ) w
  | [], b, h, w => by
    simp only [sEqFields, Option.some.injEq] at h
    subst h
    simp [Op.eqFields, B.den]
  | f :: fs, b, h, w => by
    unfold sEqFields at h
    unfold Op.eqFields
    split at h
    · rename_i hn
      rw [if_pos hn]
      split at h
      · rename_i x y hpx hpy
        split at h
        · rename_i p q hp hq
          cases h
          obtain ⟨u, hu, ru⟩ := sPart_run (G := G) (ρ := ρ) hpx hx w
          obtain ⟨v, hv, rv⟩ := sPart_run (G := G) (ρ := ρ) hpy hy w
          have h1 := heq _ _ _ _ hp u v w ru rv
          have h2 := sEqFields_run heq hx hy fs q hq w
          simp only [Sem.run_bind, hu, hv, h1, Result.andThen_ok, mkAnd_den]
          cases hb : p.den G ρ
          · simp
          · simp only [Bool.not_true, Bool.false_eq_true, if_false, Bool.true_and]; exact h2
        · cases h
      · cases h
    · rename_i hn
      rw [if_neg hn]
      exact sEqFields_run heq hx hy fs b h w
theorem sEqItems_run {α : AMap} {d : Nat} {eq : TypeId → SV → SV → Option B} {e : TypeId} {c : Nat}
    (heq : ∀ (t : TypeId) (x y : SV) (b : B), eq t x y = some b → ∀ (u v : Value) (w : World), SV.R G ρ α x u → SV.R G ρ α y v → (Op.equalIn d t u v).run P w = .ok (b.den G ρ) w)
    {xs ys : List SV} {us vs : List Value} (hx : SV.RL G ρ α xs us) (hy : SV.RL G ρ α ys vs) : ∀ (is : List Nat) (b : B), sEqItems P eq e c xs ys is = some b → ∀ w : World,
    (Op.eqItems d e c us.toArray vs.toArray is).run P w = .ok (b.den G ρ) w
  | [], b, h, w => by
    simp only [sEqItems, Option.some.injEq] at h
    subst h
    simp [Op.eqItems, B.den]
  | i :: is, b, h, w => by
    unfold sEqItems at h
    unfold Op.eqItems
    split at h
    · rename_i x y hpx hpy
      split at h
      · rename_i p q hp hq
        cases h
        obtain ⟨u, hu, ru⟩ := sPart_run (G := G) (ρ := ρ) hpx hx w
        obtain ⟨v, hv, rv⟩ := sPart_run (G := G) (ρ := ρ) hpy hy w
        have h1 := heq _ _ _ _ hp u v w ru rv
        have h2 := sEqItems_run heq hx hy is q hq w
        simp only [Sem.run_bind, hu, hv, h1, Result.andThen_ok, mkAnd_den]
        cases hb : p.den G ρ
        · simp
        · simp only [Bool.not_true, Bool.false_eq_true, if_false, Bool.true_and]; exact h2
      · cases h
    · cases h
theorem sEq_run {α : AMap} : ∀ (d : Nat) (t : TypeId) (x y : SV) (b : B), sEq P d t x y = some b → ∀ (u v : Value) (w : World), SV.R G ρ α x u → SV.R G ρ α y v → (Op.equalIn d t u v).run P w = .ok (b.den G ρ) w
  | 0, t, x, y, b, h, _, _, _, _, _ => by simp [sEq] at h
  | d + 1, t, x, y, b, h, u, v, w, rx, ry => by
    unfold sEq at h
    split at h
    · rename_i hu
      split at h
      · cases h
        simp only [SV.R] at rx ry
        subst rx; subst ry
        rw [run_equalIn_bool w d t _ _ hu, iffB_den]
      · cases h
    · rename_i k hu
      split at h
      · rename_i k1 a q c
        split at h
        · rename_i hk
          cases h
          simp only [decide_eq_true_eq] at hk
          subst hk
          simp only [SV.R] at rx ry
          subst rx; subst ry
          rw [run_equalIn_int w d t _ k _ _ hu]
          simp [B.den, COp.den, BEq.beq]
        · cases h
      · cases h
    · rename_i fs hu
      split at h
      · rename_i xs ys
        split at h
        · cases h
        · rename_i hst
          simp only [SV.R] at rx ry
          obtain ⟨us, rfl, rx⟩ := rx
          obtain ⟨vs, rfl, ry⟩ := ry
          have hf : P.fieldsOf t = fs := by simp [Program.fieldsOf, hu]
          rw [run_equalIn_struct w d t _ _ (by rw [hf]; exact hu) (by simpa using hst), hf]
          exact sEqFields_run (fun t x y b hb u v w => sEq_run d t x y b hb u v w) rx ry fs.toList b h w
      · cases h
    · rename_i n e hu
      split at h
      · rename_i xs ys
        split at h
        · rename_i i hi
          simp only [SV.R] at rx ry
          obtain ⟨us, rfl, rx⟩ := rx
          obtain ⟨vs, rfl, ry⟩ := ry
          rw [run_equalIn_array w d _ _ hu hi]
          have hc : P.cellsOf e = i.size := by simp [Program.cellsOf, hi]
          rw [hc]
          exact sEqItems_run (fun t x y b hb u v w => sEq_run d t x y b hb u v w) rx ry _ b h w
        · cases h
      · cases h
    · cases h
end
/-! two numbers -/
def sArith (X : Ctx) (op : BinOp) (k : IntKind) (x y : E) : Res SV :=
  match op with
  | .add => .ok (.int k ((E.mkOp .add x y).mkWrap X k))
  | .sub => .ok (.int k ((E.mkOp .sub x y).mkWrap X k))
  | .mul => .ok (.int k ((E.mkOp .mul x y).mkWrap X k))
  | .quo => (Res.test X (.cmp .ne y (.lit 0))).bind fun t => if t then .ok (.int k ((E.mkOp .quo x y).mkWrap X k)) else .fail 10
  | .rem => (Res.test X (.cmp .ne y (.lit 0))).bind fun t => if t then .ok (.int k (E.mkOp .rem x y)) else .fail 10
  | .and | .or | .xor | .andNot => match x, y with
    | .lit a, .lit b => .ok (.int k (.lit (bitDen op k a b)))
    | x, y => .ok (.int k (.bit op k x y))
  | .eql => .ok (.bool (.cmp .eq x y))
  | .neq => .ok (.bool (.cmp .ne x y))
  | .lss => .ok (.bool (.cmp .lt x y))
  | .leq => .ok (.bool (.cmp .le x y))
  | .gtr => .ok (.bool (.cmp .lt y x))
  | .geq => .ok (.bool (.cmp .le y x))
  | _ => .fail 11
def symShift (X : Ctx) (k : IntKind) (y : E) : Bool :=
  match y.const? X with
  | some _ => false
  | none => match y.itv X with
    | some p => decide (0 ≤ p.1) && decide (p.2 ≤ 64) && decide (p.2 ≤ k.bits)
    | none => false
def sShift (X : Ctx) (op : BinOp) (k : IntKind) (x y : E) : Res SV :=
  if decide (op = .shl) && symShift X k y then .ok (.int k ((E.mkOp .shl x y).mkWrap X k)) else
  (Res.num X y).bind fun n =>
    if n < 0 then .fail 12
    else match op with
      | .shl => .ok (.int k ((E.mkOp .mul x (.lit (2 ^ (min n.toNat k.bits)))).mkWrap X k))
      | .shr => .ok (.int k (E.mkOp .fdiv x (.lit (2 ^ (min n.toNat k.bits)))))
      | _ => .fail 13
def sBin (P : Program) (X : Ctx) (op : BinOp) (t : TypeId) (x y : SV) : Res SV :=
  match x, y with
  | .int k a, .int q b =>
    match op with
    | .shl | .shr => sShift X op k a b
    | op => if decide (k = q) then sArith X op k a b else .fail 14
  | .bool _, .bool _ | .agg _, .agg _ =>
    match op with
    | .eql => if P.eqGuardType P.depth t then .fail 15 else match sEq P 10000 t x y with
      | some b => .ok (.bool b)
      | none => .fail 16
    | .neq => if P.eqGuardType P.depth t then .fail 15 else match sEq P 10000 t x y with
      | some b => .ok (.bool b.neg)
      | none => .fail 16
    | _ => .fail 17
  | .ptr _ _, .con (.pointer none) =>
    match P.underlying t with
    | some (.pointer _) => match op with
      | .eql => .ok (.bool (.lit false))
      | .neq => .ok (.bool (.lit true))
      | _ => .fail 18
    | _ => .fail 19
  | .con (.pointer none), .con (.pointer none) =>
    match P.underlying t with
    | some (.pointer _) => match op with
      | .eql => .ok (.bool (.lit true))
      | .neq => .ok (.bool (.lit false))
      | _ => .fail 18
    | _ => .fail 19
  | _, _ => .fail 20
def sUn (X : Ctx) (op : UnOp) (x : SV) : Res SV :=
  match op, x with
  | .neg, .int k e => .ok (.int k ((E.mkOp .sub (.lit 0) e).mkWrap X k))
  | .xor, .int k e => match e with
    | .lit b => .ok (.int k (.lit (bitDen .xor k (if k.signed then -1 else k.max) b)))
    | e => .ok (.int k (.bit .xor k (.lit (if k.signed then -1 else k.max)) e))
  | .not, .bool b => .ok (.bool b.neg)
  | _, _ => .fail 21
section
variable {ρ : Nat → Int} {P : Program} {X : Ctx}
theorem sArith_run (hX : X.Ok ρ) {α : AMap} {op : BinOp} {k : IntKind} {x y : E} {s : SV} (h : sArith X op k x y = .ok s) (hop : op ≠ .shl ∧ op ≠ .shr) (t : TypeId) (w : World) :
    ∃ v, (binOp op t (.int k (x.den X.G ρ)) (.int k (y.den X.G ρ))).run P w = .ok v w ∧ SV.R X.G ρ α s v := by
  cases op <;> simp only [sArith] at h
  case shl => exact absurd rfl hop.1
  case shr => exact absurd rfl hop.2
  case add => cases h; refine ⟨_, by simp [binOp, Op.intArith]; rfl, ?_⟩; simp [SV.R, E.mkWrap_den hX, E.mkOp_den, IOp.den]
  case sub => cases h; refine ⟨_, by simp [binOp, Op.intArith]; rfl, ?_⟩; simp [SV.R, E.mkWrap_den hX, E.mkOp_den, IOp.den]
  case mul => cases h; refine ⟨_, by simp [binOp, Op.intArith]; rfl, ?_⟩; simp [SV.R, E.mkWrap_den hX, E.mkOp_den, IOp.den]
  case quo =>
    obtain ⟨b, hb, h⟩ := Res.bind_ok h
    have hd := Res.test_ok hX hb
    cases b
    · simp at h
    · simp only [if_true] at h
      cases h
      simp only [B.den, COp.den, E.den, Bool.not_eq_true'] at hd
      replace hd := of_decide_eq_false hd
      refine ⟨_, by simp [binOp, Op.intDiv, hd]; rfl, ?_⟩
      simp [SV.R, E.mkWrap_den hX, E.mkOp_den, IOp.den]
  case rem =>
    obtain ⟨b, hb, h⟩ := Res.bind_ok h
    have hd := Res.test_ok hX hb
    cases b
    · simp at h
    · simp only [if_true] at h
      cases h
      simp only [B.den, COp.den, E.den, Bool.not_eq_true'] at hd
      replace hd := of_decide_eq_false hd
      refine ⟨_, by simp [binOp, Op.intDiv, hd]; rfl, ?_⟩
      simp [SV.R, E.mkOp_den, IOp.den]
  case and => split at h <;> (cases h; refine ⟨_, by simp [binOp, Op.intBits]; rfl, ?_⟩; simp [SV.R, E.den, bitDen])
  case or => split at h <;> (cases h; refine ⟨_, by simp [binOp, Op.intBits]; rfl, ?_⟩; simp [SV.R, E.den, bitDen])
  case xor => split at h <;> (cases h; refine ⟨_, by simp [binOp, Op.intBits]; rfl, ?_⟩; simp [SV.R, E.den, bitDen])
  case andNot => split at h <;> (cases h; refine ⟨_, by simp [binOp, Op.intBits]; rfl, ?_⟩; simp [SV.R, E.den, bitDen])
  case eql => cases h; refine ⟨_, by simp [binOp, Op.intCmp]; rfl, ?_⟩; simp [SV.R, B.den, COp.den, BEq.beq]
  case neq => cases h; refine ⟨_, by simp [binOp, Op.intCmp]; rfl, ?_⟩; simp [SV.R, B.den, COp.den, bne, BEq.beq]
  case lss => cases h; refine ⟨_, by simp [binOp, Op.intCmp]; rfl, ?_⟩; simp [SV.R, B.den, COp.den]
  case leq => cases h; refine ⟨_, by simp [binOp, Op.intCmp]; rfl, ?_⟩; simp [SV.R, B.den, COp.den]
  case gtr => cases h; refine ⟨_, by simp [binOp, Op.intCmp]; rfl, ?_⟩; simp [SV.R, B.den, COp.den]
  case geq => cases h; refine ⟨_, by simp [binOp, Op.intCmp]; rfl, ?_⟩; simp [SV.R, B.den, COp.den]
end
section
variable {ρ : Nat → Int} {P : Program} {X : Ctx}
theorem sShift_run (hX : X.Ok ρ) {α : AMap} {op : BinOp} {k q : IntKind} {x y : E} {s : SV} (h : sShift X op k x y = .ok s) (t : TypeId) (w : World) :
    ∃ v, (binOp op t (.int k (x.den X.G ρ)) (.int q (y.den X.G ρ))).run P w = .ok v w ∧ SV.R X.G ρ α s v := by
  unfold sShift at h
  split at h
  · rename_i hc
    simp only [Bool.and_eq_true, decide_eq_true_eq] at hc
    obtain ⟨rfl, hs⟩ := hc
    cases h
    have hb : 0 ≤ y.den X.G ρ ∧ y.den X.G ρ ≤ k.bits := by
      have hi := E.itv_has hX y
      unfold symShift at hs
      split at hs
      · cases hs
      · split at hs
        · rename_i p hp
          rw [hp] at hi
          simp only [Bool.and_eq_true, decide_eq_true_eq] at hs
          simp only [Itv.has] at hi
          omega
        · cases hs
    refine ⟨_, by simp only [binOp, Op.shift]; rw [if_neg (show ¬ y.den X.G ρ < 0 by omega)]; rfl, ?_⟩
    have e : min (y.den X.G ρ).toNat k.bits = (y.den X.G ρ).toNat := by omega
    simp [SV.R, E.mkWrap_den hX, E.mkOp_den, IOp.den, e]
  rename_i hnc
  obtain ⟨n, hn, h⟩ := Res.bind_ok h
  have hd := Res.num_ok hX hn
  split at h
  · cases h
  · rename_i hneg
    cases op <;> simp only at h <;> first | (cases h; done) | skip
    · cases h
      refine ⟨_, by simp only [binOp, Op.shift, hd]; rw [if_neg hneg]; rfl, ?_⟩
      simp [SV.R, E.mkWrap_den hX, E.mkOp_den, IOp.den, E.den]
    · cases h
      refine ⟨_, by simp only [binOp, Op.shift, hd]; rw [if_neg hneg]; rfl, ?_⟩
      simp [SV.R, E.mkOp_den, IOp.den, E.den]
theorem eqGuard_agg {t : TypeId} {op : BinOp} {x y : Operand} {us vs : Array Value} (h : P.eqGuardType P.depth t = false) (w : World) : (eqGuard op t x y (.agg us) (.agg vs)).run P w = .ok () w := by
  unfold eqGuard
  split <;> simp [h]
theorem eq_ptr_nil {t e : TypeId} (hu : P.underlying t = some (.pointer e)) (a : Addr) (d : Nat) (w : World) : (Op.equalIn (d + 1) t (.pointer (some a)) (.pointer none)).run P w = .ok false w := by
  simp only [Op.equalIn, Sem.run_bind, run_underlying hu, Result.andThen_ok]
  rfl
theorem eq_nil_nil {t e : TypeId} (hu : P.underlying t = some (.pointer e)) (d : Nat) (w : World) : (Op.equalIn (d + 1) t (.pointer none) (.pointer none)).run P w = .ok true w := by
  simp only [Op.equalIn, Sem.run_bind, run_underlying hu, Result.andThen_ok]
  rfl
theorem sBin_run (hX : X.Ok ρ) {α : AMap} {op : BinOp} {t : TypeId} {x y s : SV} {xo yo : Operand} {u v : Value} (h : sBin P X op t x y = .ok s) (rx : SV.R X.G ρ α x u) (ry : SV.R X.G ρ α y v) (w : World) :
    ∃ r, (do eqGuard op t xo yo u v; binOp op t u v : Sem Value).run P w = .ok r w ∧ SV.R X.G ρ α s r := by
  unfold sBin at h
  split at h
  · rename_i k a q b
    simp only [SV.R] at rx ry
    subst rx; subst ry
    have hg : (eqGuard op t xo yo (.int k (a.den X.G ρ)) (.int q (b.den X.G ρ))).run P w = .ok () w := by
      unfold eqGuard; split <;> simp
    simp only [Sem.run_bind, hg, Result.andThen_ok]
    split at h
    · exact sShift_run hX h t w
    · exact sShift_run hX h t w
    · rename_i h1 h2
      split at h
      · rename_i hk
        simp only [decide_eq_true_eq] at hk
        subst hk
        exact sArith_run hX h ⟨fun e => h1 e, fun e => h2 e⟩ t w
      · cases h
  · rename_i a b
    split at h
    · split at h
      · cases h
      · split at h
        · rename_i b' hb
          cases h
          have hr := sEq_run (G := X.G) (ρ := ρ) 10000 t _ _ b' hb u v w rx ry
          simp only [SV.R] at rx ry
          subst rx; subst ry
          refine ⟨.bool (b'.den X.G ρ), ?_, by simp [SV.R]⟩
          have hg : (eqGuard .eql t xo yo (.bool (a.den X.G ρ)) (.bool (b.den X.G ρ))).run P w = .ok () w := by
            unfold eqGuard; split <;> simp
          simp only [Sem.run_bind, hg, Result.andThen_ok, binOp, Op.equal, Op.maxDepth, hr]
          rfl
        · cases h
    · split at h
      · cases h
      · split at h
        · rename_i b' hb
          cases h
          have hr := sEq_run (G := X.G) (ρ := ρ) 10000 t _ _ b' hb u v w rx ry
          simp only [SV.R] at rx ry
          subst rx; subst ry
          refine ⟨.bool (!b'.den X.G ρ), ?_, by simp [SV.R, B.neg_den]⟩
          have hg : (eqGuard .neq t xo yo (.bool (a.den X.G ρ)) (.bool (b.den X.G ρ))).run P w = .ok () w := by
            unfold eqGuard; split <;> simp
          simp only [Sem.run_bind, hg, Result.andThen_ok, binOp, Op.equal, Op.maxDepth, hr]
          rfl
        · cases h
    · cases h
  · rename_i a b
    split at h
    · split at h
      · cases h
      · rename_i hgt
        split at h
        · rename_i b' hb
          cases h
          have hr := sEq_run (G := X.G) (ρ := ρ) 10000 t _ _ b' hb u v w rx ry
          simp only [SV.R] at rx ry
          obtain ⟨us, rfl, rx⟩ := rx
          obtain ⟨vs, rfl, ry⟩ := ry
          refine ⟨.bool (b'.den X.G ρ), ?_, by simp [SV.R]⟩
          simp only [Sem.run_bind, eqGuard_agg (by simpa using hgt), Result.andThen_ok, binOp, Op.equal, Op.maxDepth, hr]
          rfl
        · cases h
    · split at h
      · cases h
      · rename_i hgt
        split at h
        · rename_i b' hb
          cases h
          have hr := sEq_run (G := X.G) (ρ := ρ) 10000 t _ _ b' hb u v w rx ry
          simp only [SV.R] at rx ry
          obtain ⟨us, rfl, rx⟩ := rx
          obtain ⟨vs, rfl, ry⟩ := ry
          refine ⟨.bool (!b'.den X.G ρ), ?_, by simp [SV.R, B.neg_den]⟩
          simp only [Sem.run_bind, eqGuard_agg (by simpa using hgt), Result.andThen_ok, binOp, Op.equal, Op.maxDepth, hr]
          rfl
        · cases h
    · cases h
  · rename_i pid poff
    split at h
    · rename_i e hu
      simp only [SV.R] at rx ry
      obtain ⟨b, hb, rfl⟩ := rx
      subst ry
      split at h
      · cases h
        refine ⟨.bool false, ?_, by simp [SV.R, B.den]⟩
        have hg : (eqGuard .eql t xo yo (.pointer (some ⟨b, poff, none⟩)) (.pointer none)).run P w = .ok () w := by
          unfold eqGuard; split <;> simp
        simp only [Sem.run_bind, hg, Result.andThen_ok, binOp, Op.equal, Op.maxDepth, eq_ptr_nil hu _ 9999 w]
        rfl
      · cases h
        refine ⟨.bool true, ?_, by simp [SV.R, B.den]⟩
        have hg : (eqGuard .neq t xo yo (.pointer (some ⟨b, poff, none⟩)) (.pointer none)).run P w = .ok () w := by
          unfold eqGuard; split <;> simp
        simp only [Sem.run_bind, hg, Result.andThen_ok, binOp, Op.equal, Op.maxDepth, eq_ptr_nil hu _ 9999 w]
        rfl
      · cases h
    · cases h
  · split at h
    · rename_i e hu
      simp only [SV.R] at rx ry
      subst rx; subst ry
      split at h
      · cases h
        refine ⟨.bool true, ?_, by simp [SV.R, B.den]⟩
        have hg : (eqGuard .eql t xo yo (.pointer none) (.pointer none)).run P w = .ok () w := by
          unfold eqGuard; split <;> simp
        simp only [Sem.run_bind, hg, Result.andThen_ok, binOp, Op.equal, Op.maxDepth, eq_nil_nil hu 9999 w]
        rfl
      · cases h
        refine ⟨.bool false, ?_, by simp [SV.R, B.den]⟩
        have hg : (eqGuard .neq t xo yo (.pointer none) (.pointer none)).run P w = .ok () w := by
          unfold eqGuard; split <;> simp
        simp only [Sem.run_bind, hg, Result.andThen_ok, binOp, Op.equal, Op.maxDepth, eq_nil_nil hu 9999 w]
        rfl
      · cases h
    · cases h
  · cases h
theorem sUn_run (hX : X.Ok ρ) {α : AMap} {op : UnOp} {x s : SV} {u : Value} (h : sUn X op x = .ok s) (rx : SV.R X.G ρ α x u) (w : World) :
    ∃ r, (Op.unary op u).run P w = .ok r w ∧ SV.R X.G ρ α s r := by
  unfold sUn at h
  split at h
  · cases h
    simp only [SV.R] at rx
    subst rx
    exact ⟨_, by simp [Op.unary, Op.intArith]; rfl, by simp [SV.R, E.mkWrap_den hX, E.mkOp_den, IOp.den, E.den]⟩
  · simp only [SV.R] at rx
    subst rx
    split at h
    · cases h
      exact ⟨_, by simp only [Op.unary, Op.intBits]; rfl, by simp [SV.R, E.den, bitDen]⟩
    · cases h
      exact ⟨_, by simp only [Op.unary, Op.intBits]; rfl, by simp [SV.R, E.den, bitDen]⟩
  · cases h
    simp only [SV.R] at rx
    subst rx
    exact ⟨_, by simp [Op.unary]; rfl, by simp [SV.R, B.neg_den]⟩
  · cases h
end
end Sx
end Go.Proofs.Ytnhhphdhkgjbhaa
