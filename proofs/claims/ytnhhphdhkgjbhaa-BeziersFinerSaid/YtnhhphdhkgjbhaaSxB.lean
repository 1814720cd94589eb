/- What is proved: values and memory as closed data: how they stand to a world's, and that what a piece of code makes beside them leaves the rest as it was. No condition. -/
import Derived.Test.YtnhhphdhkgjbhaaSxA
set_option linter.unusedSimpArgs false
set_option linter.unusedVariables false
namespace Go.Proofs.Ytnhhphdhkgjbhaa
namespace Sx
open Go Go.RowKit

inductive SV where
  | bool (b : B)
  | int (k : IntKind) (e : E)
  | ptr (id off : Nat)
  | slice (id off len cap : Nat)
  | agg (l : List SV)
  | tuple (l : List SV)
  | func (fn : Fn) (first captured : List SV)
  | con (v : Value)
  | map (id : Nat)
abbrev Blk := Option (List SV × TypeId)
abbrev Heap := List Blk
abbrev AMap := Nat → Option Nat
section
variable (G : Nat → List Int → Int) (ρ : Nat → Int)
mutual
def SV.R (α : AMap) : SV → Value → Prop
  | .bool b, v => v = .bool (b.den G ρ)
  | .int k e, v => v = .int k (e.den G ρ)
  | .ptr id off, v => ∃ b, α id = some b ∧ v = .pointer (some ⟨b, off, none⟩)
  | .slice id off len cap, v => ∃ b, α id = some b ∧ v = .slice (some ⟨b, off, none⟩) len cap
  | .agg l, v => ∃ cs : List Value, v = .agg cs.toArray ∧ SV.RL α l cs
  | .tuple l, v => ∃ cs : List Value, v = .tuple cs.toArray ∧ SV.RL α l cs
  | .func fn f c, v => ∃ fs cs : List Value, v = .func fn fs.toArray cs.toArray ∧ SV.RL α f fs ∧ SV.RL α c cs
  | .con x, v => v = x
  | .map id, v => ∃ b, α id = some b ∧ v = .map (some b)
def SV.RL (α : AMap) : List SV → List Value → Prop
  | [], vs => vs = []
  | s :: l, vs => ∃ v vs', vs = v :: vs' ∧ SV.R α s v ∧ SV.RL α l vs'
end
end
mutual
def SV.ubd (N : Nat) : SV → Bool
  | .ptr id _ => decide (id < N)
  | .slice id _ _ _ => decide (id < N)
  | .agg l => SV.ubdL N l
  | .tuple l => SV.ubdL N l
  | .func _ f c => SV.ubdL N f && SV.ubdL N c
  | .map id => decide (id < N)
  | _ => true
def SV.ubdL (N : Nat) : List SV → Bool
  | [] => true
  | s :: l => SV.ubd N s && SV.ubdL N l
end
section
variable {G : Nat → List Int → Int} {ρ : Nat → Int}
mutual
/-- what is related stays so where the places that are named are the same -/
theorem SV.R_agree {α β : AMap} (N : Nat) (h : ∀ id b, id < N → α id = some b → β id = some b) : ∀ (s : SV) (v : Value), s.ubd N = true → SV.R G ρ α s v → SV.R G ρ β s v
  | .bool b, v, _, r => by simpa [SV.R] using r
  | .int k e, v, _, r => by simpa [SV.R] using r
  | .con x, v, _, r => by simpa [SV.R] using r
  | .map id, v, hb, r => by
    simp only [SV.R, SV.ubd, decide_eq_true_eq] at *
    obtain ⟨b, h1, h2⟩ := r
    exact ⟨b, h id b hb h1, h2⟩
  | .ptr id off, v, hb, r => by
    simp only [SV.R, SV.ubd, decide_eq_true_eq] at *
    obtain ⟨b, h1, h2⟩ := r
    exact ⟨b, h id b hb h1, h2⟩
  | .slice id off len cap, v, hb, r => by
    simp only [SV.R, SV.ubd, decide_eq_true_eq] at *
    obtain ⟨b, h1, h2⟩ := r
    exact ⟨b, h id b hb h1, h2⟩
  | .agg l, v, hb, r => by
    simp only [SV.R, SV.ubd] at *
    obtain ⟨cs, h1, h2⟩ := r
    exact ⟨cs, h1, SV.RL_agree N h l cs hb h2⟩
  | .tuple l, v, hb, r => by
    simp only [SV.R, SV.ubd] at *
    obtain ⟨cs, h1, h2⟩ := r
    exact ⟨cs, h1, SV.RL_agree N h l cs hb h2⟩
  | .func fn f c, v, hb, r => by
    simp only [SV.R, SV.ubd, Bool.and_eq_true] at *
    obtain ⟨fs, cs, h1, h2, h3⟩ := r
    exact ⟨fs, cs, h1, SV.RL_agree N h f fs hb.1 h2, SV.RL_agree N h c cs hb.2 h3⟩
theorem SV.RL_agree {α β : AMap} (N : Nat) (h : ∀ id b, id < N → α id = some b → β id = some b) : ∀ (l : List SV) (vs : List Value), SV.ubdL N l = true → SV.RL G ρ α l vs → SV.RL G ρ β l vs
  | [], vs, _, r => by simpa [SV.RL] using r
  | s :: l, vs, hb, r => by
    simp only [SV.RL, SV.ubdL, Bool.and_eq_true] at *
    obtain ⟨v, vs', h1, h2, h3⟩ := r
    exact ⟨v, vs', h1, SV.R_agree N h s v hb.1 h2, SV.RL_agree N h l vs' hb.2 h3⟩
end
mutual
theorem SV.R_mono {α β : AMap} (h : ∀ id b, α id = some b → β id = some b) : ∀ (s : SV) (v : Value), SV.R G ρ α s v → SV.R G ρ β s v
  | .bool b, v, r => by simpa [SV.R] using r
  | .int k e, v, r => by simpa [SV.R] using r
  | .con x, v, r => by simpa [SV.R] using r
  | .map id, v, r => by
    simp only [SV.R] at *
    obtain ⟨b, h1, h2⟩ := r
    exact ⟨b, h id b h1, h2⟩
  | .ptr id off, v, r => by
    simp only [SV.R] at *
    obtain ⟨b, h1, h2⟩ := r
    exact ⟨b, h id b h1, h2⟩
  | .slice id off len cap, v, r => by
    simp only [SV.R] at *
    obtain ⟨b, h1, h2⟩ := r
    exact ⟨b, h id b h1, h2⟩
  | .agg l, v, r => by
    simp only [SV.R] at *
    obtain ⟨cs, h1, h2⟩ := r
    exact ⟨cs, h1, SV.RL_mono h l cs h2⟩
  | .tuple l, v, r => by
    simp only [SV.R] at *
    obtain ⟨cs, h1, h2⟩ := r
    exact ⟨cs, h1, SV.RL_mono h l cs h2⟩
  | .func fn f c, v, r => by
    simp only [SV.R] at *
    obtain ⟨fs, cs, h1, h2, h3⟩ := r
    exact ⟨fs, cs, h1, SV.RL_mono h f fs h2, SV.RL_mono h c cs h3⟩
theorem SV.RL_mono {α β : AMap} (h : ∀ id b, α id = some b → β id = some b) : ∀ (l : List SV) (vs : List Value), SV.RL G ρ α l vs → SV.RL G ρ β l vs
  | [], vs, r => by simpa [SV.RL] using r
  | s :: l, vs, r => by
    simp only [SV.RL] at *
    obtain ⟨v, vs', h1, h2, h3⟩ := r
    exact ⟨v, vs', h1, SV.R_mono h s v h2, SV.RL_mono h l vs' h3⟩
end
mutual
/-- one value alone is related -/
theorem SV.R_one {α : AMap} : ∀ (s : SV) (v u : Value), SV.R G ρ α s v → SV.R G ρ α s u → v = u
  | .bool b, v, u, r, q => by simp only [SV.R] at r q; rw [r, q]
  | .int k e, v, u, r, q => by simp only [SV.R] at r q; rw [r, q]
  | .con x, v, u, r, q => by simp only [SV.R] at r q; rw [r, q]
  | .map id, v, u, r, q => by
    simp only [SV.R] at r q
    obtain ⟨b, h1, rfl⟩ := r
    obtain ⟨c, g1, rfl⟩ := q
    rw [h1] at g1; cases g1; rfl
  | .ptr id off, v, u, r, q => by
    simp only [SV.R] at r q
    obtain ⟨b, h1, rfl⟩ := r
    obtain ⟨c, g1, rfl⟩ := q
    rw [h1] at g1; cases g1; rfl
  | .slice id off len cap, v, u, r, q => by
    simp only [SV.R] at r q
    obtain ⟨b, h1, rfl⟩ := r
    obtain ⟨c, g1, rfl⟩ := q
    rw [h1] at g1; cases g1; rfl
  | .agg l, v, u, r, q => by
    simp only [SV.R] at r q
    obtain ⟨cs, rfl, h2⟩ := r
    obtain ⟨ds, rfl, g2⟩ := q
    rw [SV.RL_one l cs ds h2 g2]
  | .tuple l, v, u, r, q => by
    simp only [SV.R] at r q
    obtain ⟨cs, rfl, h2⟩ := r
    obtain ⟨ds, rfl, g2⟩ := q
    rw [SV.RL_one l cs ds h2 g2]
  | .func fn f c, v, u, r, q => by
    simp only [SV.R] at r q
    obtain ⟨fs, cs, rfl, h2, h3⟩ := r
    obtain ⟨gs, ds, rfl, g2, g3⟩ := q
    rw [SV.RL_one f fs gs h2 g2, SV.RL_one c cs ds h3 g3]
theorem SV.RL_one {α : AMap} : ∀ (l : List SV) (vs us : List Value), SV.RL G ρ α l vs → SV.RL G ρ α l us → vs = us
  | [], vs, us, r, q => by simp only [SV.RL] at r q; rw [r, q]
  | s :: l, vs, us, r, q => by
    simp only [SV.RL] at r q
    obtain ⟨v, vs', rfl, h2, h3⟩ := r
    obtain ⟨u, us', rfl, g2, g3⟩ := q
    rw [SV.R_one s v u h2 g2, SV.RL_one l vs' us' h3 g3]
end
theorem RL_length {α : AMap} : ∀ {l : List SV} {vs : List Value}, SV.RL G ρ α l vs → vs.length = l.length
  | [], vs, r => by simp only [SV.RL] at r; rw [r]; rfl
  | s :: l, vs, r => by
    simp only [SV.RL] at r
    obtain ⟨v, vs', rfl, _, h3⟩ := r
    simp [RL_length h3]
theorem RL_get {α : AMap} : ∀ {l : List SV} {vs : List Value} {i : Nat} {s : SV}, SV.RL G ρ α l vs → l[i]? = some s → ∃ v, vs[i]? = some v ∧ SV.R G ρ α s v
  | [], vs, i, s, _, h => by simp at h
  | t :: l, vs, 0, s, r, h => by
    simp only [SV.RL] at r
    obtain ⟨v, vs', rfl, h2, _⟩ := r
    simp at h
    subst h
    exact ⟨v, rfl, h2⟩
  | t :: l, vs, i + 1, s, r, h => by
    simp only [SV.RL] at r
    obtain ⟨v, vs', rfl, _, h3⟩ := r
    simp at h
    simpa using RL_get h3 h
theorem RL_nil {α : AMap} : SV.RL G ρ α [] [] := by simp [SV.RL]
theorem RL_cons {α : AMap} {s : SV} {l : List SV} {v : Value} {vs : List Value} (h : SV.R G ρ α s v) (g : SV.RL G ρ α l vs) : SV.RL G ρ α (s :: l) (v :: vs) := by
  simp only [SV.RL]; exact ⟨v, vs, rfl, h, g⟩
theorem RL_append {α : AMap} : ∀ {l m : List SV} {vs us : List Value}, SV.RL G ρ α l vs → SV.RL G ρ α m us → SV.RL G ρ α (l ++ m) (vs ++ us)
  | [], m, vs, us, r, q => by simp only [SV.RL] at r; subst r; exact q
  | s :: l, m, vs, us, r, q => by
    simp only [SV.RL] at r
    obtain ⟨v, vs', rfl, h2, h3⟩ := r
    exact RL_cons h2 (RL_append h3 q)
theorem RL_take {α : AMap} : ∀ {l : List SV} {vs : List Value} (n : Nat), SV.RL G ρ α l vs → SV.RL G ρ α (l.take n) (vs.take n)
  | [], vs, n, r => by simp only [SV.RL] at r; subst r; simpa using RL_nil
  | s :: l, vs, 0, r => by simpa using RL_nil
  | s :: l, vs, n + 1, r => by
    simp only [SV.RL] at r
    obtain ⟨v, vs', rfl, h2, h3⟩ := r
    simpa using RL_cons h2 (RL_take n h3)
theorem RL_drop {α : AMap} : ∀ {l : List SV} {vs : List Value} (n : Nat), SV.RL G ρ α l vs → SV.RL G ρ α (l.drop n) (vs.drop n)
  | [], vs, n, r => by simp only [SV.RL] at r; subst r; simpa using RL_nil
  | s :: l, vs, 0, r => r
  | s :: l, vs, n + 1, r => by
    simp only [SV.RL] at r
    obtain ⟨v, vs', rfl, h2, h3⟩ := r
    simpa using RL_drop n h3
theorem RL_set {α : AMap} : ∀ {l : List SV} {vs : List Value} (i : Nat) {s : SV} {v : Value}, SV.RL G ρ α l vs → SV.R G ρ α s v → SV.RL G ρ α (l.set i s) (vs.set i v)
  | [], vs, i, s, v, r, h => by simp only [SV.RL] at r; subst r; simpa using RL_nil
  | t :: l, vs, 0, s, v, r, h => by
    simp only [SV.RL] at r
    obtain ⟨u, vs', rfl, _, h3⟩ := r
    simpa using RL_cons h h3
  | t :: l, vs, i + 1, s, v, r, h => by
    simp only [SV.RL] at r
    obtain ⟨u, vs', rfl, h2, h3⟩ := r
    simpa using RL_cons h2 (RL_set i h3 h)
theorem RL_replicate {α : AMap} {s : SV} {v : Value} (h : SV.R G ρ α s v) : ∀ n : Nat, SV.RL G ρ α (List.replicate n s) (List.replicate n v)
  | 0 => by simpa using RL_nil
  | n + 1 => by simpa [List.replicate_succ] using RL_cons h (RL_replicate h n)
end

/-! a value of the code's text -/
def SV.ofCell : Value → SV
  | .int k n => .int k (.lit n)
  | .bool b => .bool (.lit b)
  | v => .con v
def SV.ofV : Value → SV
  | .agg cs => .agg (cs.toList.map SV.ofCell)
  | .tuple cs => .tuple (cs.toList.map SV.ofCell)
  | v => SV.ofCell v
section
variable {G : Nat → List Int → Int} {ρ : Nat → Int}
theorem R_ofCell {α : AMap} (v : Value) : SV.R G ρ α (SV.ofCell v) v := by
  cases v <;> simp [SV.ofCell, SV.R, E.den, B.den]
theorem RL_ofCells {α : AMap} : ∀ vs : List Value, SV.RL G ρ α (vs.map SV.ofCell) vs
  | [] => RL_nil
  | v :: vs => by simpa using RL_cons (R_ofCell v) (RL_ofCells vs)
theorem R_ofV {α : AMap} (v : Value) : SV.R G ρ α (SV.ofV v) v := by
  cases v with
  | agg cs => simp only [SV.ofV, SV.R]; exact ⟨cs.toList, by simp, RL_ofCells _⟩
  | tuple cs => simp only [SV.ofV, SV.R]; exact ⟨cs.toList, by simp, RL_ofCells _⟩
  | _ => (unfold SV.ofV; exact R_ofCell _)
end
/-! equality of values, as far as it can be told -/
def Value.same : Value → Value → Bool
  | .pointer none, .pointer none => true
  | .nilFunc, .nilFunc => true
  | .nilIface, .nilIface => true
  | .slice none 0 0, .slice none 0 0 => true
  | .map none, .map none => true
  | .pointer (some ⟨b, o, none⟩), .pointer (some ⟨c, q, none⟩) => b == c && o == q
  | .string a, .string b => decide (a.data = b.data)
  | _, _ => false
theorem Value.same_eq {v u : Value} (h : Value.same v u = true) : v = u := by
  unfold Value.same at h
  split at h <;> first | rfl | (simp at h; done) | skip
  · simp only [Bool.and_eq_true, beq_iff_eq] at h; rw [h.1, h.2]
  · rename_i a b; simp only [decide_eq_true_eq] at h; cases a; cases b; simp only at h; rw [h]
mutual
def SV.eqb : SV → SV → Bool
  | .bool a, .bool b => B.eqb a b
  | .int k a, .int q b => decide (k = q) && E.eqb a b
  | .ptr i o, .ptr j p => i == j && o == p
  | .slice i o l c, .slice j p m d => i == j && o == p && l == m && c == d
  | .agg l, .agg r => SV.eqbL l r
  | .tuple l, .tuple r => SV.eqbL l r
  | .func fn f c, .func gn g d => decide (fn = gn) && SV.eqbL f g && SV.eqbL c d
  | .con v, .con u => Value.same v u
  | .map i, .map j => i == j
  | _, _ => false
def SV.eqbL : List SV → List SV → Bool
  | [], [] => true
  | a :: l, b :: r => SV.eqb a b && SV.eqbL l r
  | _, _ => false
end
mutual
theorem SV.eqb_eq : ∀ (a b : SV), SV.eqb a b = true → a = b
  | .bool a, b, h => by cases b <;> simp [SV.eqb] at h; rw [B.eqb_eq _ _ h]
  | .int k a, b, h => by cases b <;> simp [SV.eqb] at h; rw [h.1, E.eqb_eq _ _ h.2]
  | .ptr i o, b, h => by cases b <;> simp [SV.eqb] at h; rw [h.1, h.2]
  | .slice i o l c, b, h => by cases b <;> simp [SV.eqb] at h; rw [h.1.1.1, h.1.1.2, h.1.2, h.2]
  | .agg l, b, h => by cases b <;> simp [SV.eqb] at h; rw [SV.eqbL_eq _ _ h]
  | .tuple l, b, h => by cases b <;> simp [SV.eqb] at h; rw [SV.eqbL_eq _ _ h]
  | .func fn f c, b, h => by cases b <;> simp [SV.eqb] at h; rw [h.1.1, SV.eqbL_eq _ _ h.1.2, SV.eqbL_eq _ _ h.2]
  | .con v, b, h => by cases b <;> simp [SV.eqb] at h; rw [Value.same_eq h]
  | .map i, b, h => by cases b <;> simp [SV.eqb] at h; rw [h]
theorem SV.eqbL_eq : ∀ (a b : List SV), SV.eqbL a b = true → a = b
  | [], b, h => by cases b <;> simp [SV.eqbL] at h; rfl
  | a :: l, b, h => by
    cases b <;> simp [SV.eqbL] at h
    rw [SV.eqb_eq _ _ h.1, SV.eqbL_eq _ _ h.2]
end
def Blk.eqb : Blk → Blk → Bool
  | none, none => true
  | some (a, t), some (b, u) => t == u && SV.eqbL a b
  | _, _ => false
theorem Blk.eqb_eq {a b : Blk} (h : Blk.eqb a b = true) : a = b := by
  unfold Blk.eqb at h
  split at h
  · rfl
  · simp only [Bool.and_eq_true, beq_iff_eq] at h
    rw [h.1, SV.eqbL_eq _ _ h.2]
  · cases h
/-- does a memory begin with that one? -/
def Heap.begins : Heap → Heap → Bool
  | [], _ => true
  | a :: l, b :: r => Blk.eqb a b && Heap.begins l r
  | _ :: _, [] => false
theorem Heap.begins_eq : ∀ {m h : Heap}, Heap.begins m h = true → h.take m.length = m
  | [], h, _ => by simp
  | a :: l, b :: r, h => by
    simp only [Heap.begins, Bool.and_eq_true] at h
    simp [Blk.eqb_eq h.1, Heap.begins_eq h.2]
  | _ :: _, [], h => by simp [Heap.begins] at h

/-! memory -/
section
variable (G : Nat → List Int → Int) (ρ : Nat → Int)
/-- the mark of a block that is a map: its cells are keys and values, by turns -/
def mapTag : TypeId := 4000000000
def pairsOf : List Value → List (Value × Value)
  | k :: v :: l => (k, v) :: pairsOf l
  | _ => []
/-- what stands at a place: cells, or a map whose entries stand in whatever order -/
def IsObj (x : Option Obj) (vs : List Value) (T : TypeId) : Prop :=
  if T = mapTag then ∃ (es : Array MapEntry) (c : Nat), x = some (.map es c) ∧ (es.toList.map fun e => (e.key, e.val)).Perm (pairsOf vs) else x = some (.cells (List.toArray vs) T (0, 0))
theorem isObj_cells {x : Option Obj} {vs : List Value} {T : TypeId} (h : T ≠ mapTag) : IsObj x vs T ↔ x = some (.cells (List.toArray vs) T (0, 0)) := by unfold IsObj; rw [if_neg h]
theorem isObj_map {x : Option Obj} {vs : List Value} : IsObj x vs mapTag ↔ ∃ (es : Array MapEntry) (c : Nat), x = some (.map es c) ∧ (es.toList.map fun e => (e.key, e.val)).Perm (pairsOf vs) := by unfold IsObj; rw [if_pos rfl]
structure RelW (gl : List (Nat × Nat)) (α : AMap) (σ : Heap) (w : World) : Prop where
  dom : ∀ id b, α id = some b → id < σ.length ∧ b < w.heap.size
  inj : ∀ i j b, α i = some b → α j = some b → i = j
  blk : ∀ id cs T, σ[id]? = some (some (cs, T)) → ∃ b vs, α id = some b ∧ IsObj w.heap[b]? vs T ∧ SV.RL G ρ α cs vs
  glob : ∀ p, p ∈ gl → α p.2 = some p.1
end
structure Ext (n : Nat) (σ σ' : Heap) (α α' : AMap) (w w' : World) : Prop where
  os : w'.os = w.os
  tape : w'.tape = w.tape
  output : w'.output = w.output
  size : w.heap.size ≤ w'.heap.size
  len : σ.length ≤ σ'.length
  mono : ∀ id b, α id = some b → α' id = some b
  fresh : ∀ id b, α' id = some b → α id = some b ∨ (n ≤ id ∧ w.heap.size ≤ b)
  hid : ∀ b, b < w.heap.size → (∀ id, α id = some b → σ[id]? = some none) → w'.heap[b]? = w.heap[b]?
  mask : ∀ id b, α id = some b → σ[id]? = some none → σ'[id]? = some none
theorem Ext.refl (n : Nat) (σ : Heap) (α : AMap) (w : World) : Ext n σ σ α α w w :=
  ⟨rfl, rfl, rfl, Nat.le_refl _, Nat.le_refl _, fun _ _ h => h, fun _ _ h => .inl h, fun _ _ _ => rfl, fun _ _ _ h => h⟩
theorem Ext.trans {n m : Nat} {σ σ1 σ2 : Heap} {α α1 α2 : AMap} {w w1 w2 : World} (h : Ext n σ σ1 α α1 w w1) (g : Ext m σ1 σ2 α1 α2 w1 w2) (hnm : n ≤ m) : Ext n σ σ2 α α2 w w2 := by
  refine ⟨g.os.trans h.os, g.tape.trans h.tape, g.output.trans h.output, Nat.le_trans h.size g.size, Nat.le_trans h.len g.len, fun id b e => g.mono _ _ (h.mono _ _ e), ?_, ?_, ?_⟩
  · intro id b e
    rcases g.fresh id b e with e1 | ⟨e1, e2⟩
    · rcases h.fresh id b e1 with e3 | e3
      · exact .inl e3
      · exact .inr e3
    · exact .inr ⟨Nat.le_trans hnm e1, Nat.le_trans h.size e2⟩
  · intro b hb hh
    rw [g.hid b (Nat.lt_of_lt_of_le hb h.size) ?_, h.hid b hb hh]
    intro id e
    rcases h.fresh id b e with e1 | ⟨_, e2⟩
    · exact h.mask id b e1 (hh id e1)
    · omega
  · intro id b e hn
    exact g.mask id b (h.mono _ _ e) (h.mask id b e hn)
/-- a draw changes nothing -/
theorem Ext.drawn {m : Nat} {σ σ' : Heap} {α α' : AMap} {w w' : World} {n : Nat} (h : Ext m σ σ' α α' { w with drawn := n } w') : Ext m σ σ' α α' w w' :=
  ⟨h.os, h.tape, h.output, h.size, h.len, h.mono, h.fresh, h.hid, h.mask⟩
section
variable {G : Nat → List Int → Int} {ρ : Nat → Int} {gl : List (Nat × Nat)}
theorem RelW.drawn {α : AMap} {σ : Heap} {w : World} {n : Nat} (h : RelW G ρ gl α σ w) : RelW G ρ gl α σ { w with drawn := n } := ⟨h.dom, h.inj, h.blk, h.glob⟩
def cutA (N : Nat) (α : AMap) : AMap := fun id => if id < N then α id else none
theorem cutA_lt {N : Nat} {α : AMap} {id b : Nat} (h : cutA N α id = some b) : id < N ∧ α id = some b := by
  unfold cutA at h; split at h
  · exact ⟨‹_›, h⟩
  · cases h
theorem cutA_of {N : Nat} {α : AMap} {id b : Nat} (h : α id = some b) (hid : id < N) : cutA N α id = some b := by
  unfold cutA; rw [if_pos hid]; exact h
/-- M is a part of F: what it shows is the same, what it hides it hides -/
def Part (M F : Heap) : Prop := M.length ≤ F.length ∧ ∀ id, id < M.length → M[id]? = F[id]? ∨ M[id]? = some none
mutual
def SV.ubdH (N : Nat) : Heap → Bool
  | [] => true
  | none :: h => SV.ubdH N h
  | some (cs, _) :: h => SV.ubdL N cs && SV.ubdH N h
end
theorem ubdH_get {N : Nat} : ∀ {h : Heap} {id : Nat} {cs : List SV} {T : TypeId}, SV.ubdH N h = true → h[id]? = some (some (cs, T)) → SV.ubdL N cs = true
  | [], id, cs, T, _, g => by simp at g
  | none :: h, 0, cs, T, _, g => by simp at g
  | none :: h, id + 1, cs, T, hb, g => by
    simp only [SV.ubdH] at hb
    exact ubdH_get hb (by simpa using g)
  | some (c, t) :: h, 0, cs, T, hb, g => by
    simp only [SV.ubdH, Bool.and_eq_true] at hb
    simp at g
    rw [← g.1]; exact hb.1
  | some (c, t) :: h, id + 1, cs, T, hb, g => by
    simp only [SV.ubdH, Bool.and_eq_true] at hb
    exact ubdH_get hb.2 (by simpa using g)
theorem RelW.part {α : AMap} {F M : Heap} {w : World} (h : RelW G ρ gl α F w) (hp : Part M F) (hb : SV.ubdH M.length M = true) (hg : ∀ p, p ∈ gl → p.2 < M.length) : RelW G ρ gl (cutA M.length α) M w := by
  refine ⟨fun id b e => ⟨(cutA_lt e).1, (h.dom id b (cutA_lt e).2).2⟩, fun i j b e f => h.inj i j b (cutA_lt e).2 (cutA_lt f).2, ?_, fun p hm => cutA_of (h.glob p hm) (hg p hm)⟩
  intro id cs T e
  have hid : id < M.length := by
    rcases Nat.lt_or_ge id M.length with hl | hl
    · exact hl
    · rw [List.getElem?_eq_none hl] at e; cases e
  rcases hp.2 id hid with e1 | e1
  · obtain ⟨b, vs, h1, h2, h3⟩ := h.blk id cs T (e1 ▸ e)
    exact ⟨b, vs, cutA_of h1 hid, h2, SV.RL_agree M.length (fun i c hi e => cutA_of e hi) cs vs (ubdH_get hb e) h3⟩
  · rw [e1] at e; cases e
/-- A run on a part that leaves the part as it was, and whose value names the part alone: the whole is as it was. -/
theorem frame_same {α α1 : AMap} {F M σ' : Heap} {w w' : World} {s : SV} {v : Value} (h : RelW G ρ gl α F w) (hp : Part M F) (hb : SV.ubdH M.length M = true)
    (hx : Ext M.length M σ' (cutA M.length α) α1 w w') (hw : RelW G ρ gl α1 σ' w') (ht : σ'.take M.length = M) (hs : s.ubd M.length = true) (hv : SV.R G ρ α1 s v) (hg : ∀ p, p ∈ gl → p.2 < M.length) :
    RelW G ρ gl α F w' ∧ Ext M.length F F α α w w' ∧ SV.R G ρ α s v := by
  have hM := h.part hp hb hg
  have back : ∀ id b, id < M.length → α1 id = some b → α id = some b := by
    intro id b hid e
    rcases hx.fresh id b e with e1 | ⟨e1, _⟩
    · exact (cutA_lt e1).2
    · omega
  refine ⟨⟨fun id b e => ⟨(h.dom id b e).1, Nat.lt_of_lt_of_le (h.dom id b e).2 hx.size⟩, h.inj, ?_, h.glob⟩, ⟨hx.os, hx.tape, hx.output, hx.size, Nat.le_refl _, fun _ _ e => e, fun _ _ e => .inl e, ?_, fun _ _ _ e => e⟩, SV.R_agree M.length back s v hs hv⟩
  · intro id cs T e
    obtain ⟨b, vs, h1, h2, h3⟩ := h.blk id cs T e
    by_cases hid : id < M.length ∧ M[id]? = F[id]?
    · obtain ⟨hid, e1⟩ := hid
      have e2 : M[id]? = some (some (cs, T)) := e1.trans e
      have e3 : σ'[id]? = some (some (cs, T)) := by
        rw [← e2]
        conv => rhs; rw [← ht]
        rw [List.getElem?_take, if_pos hid]
      obtain ⟨b', vs', g1, g2, g3⟩ := hw.blk id cs T e3
      have hbb : b' = b := by
        have := back id b' hid g1
        rw [h1] at this; cases this; rfl
      subst hbb
      have hvs : vs' = vs := SV.RL_one cs vs' vs (SV.RL_agree M.length back cs vs' (ubdH_get hb e2) g3) h3
      subst hvs
      exact ⟨b', vs', h1, g2, h3⟩
    · refine ⟨b, vs, h1, ?_, h3⟩
      rw [hx.hid b (h.dom id b h1).2 ?_]
      · exact h2
      · intro j ej
        obtain ⟨hj, ej⟩ := cutA_lt ej
        have : j = id := h.inj j id b ej h1
        subst this
        rcases hp.2 j hj with e1 | e1
        · exact absurd ⟨hj, e1⟩ hid
        · exact e1
  · intro b hbs hh
    refine hx.hid b hbs ?_
    intro j ej
    obtain ⟨hj, ej⟩ := cutA_lt ej
    rcases hp.2 j hj with e1 | e1
    · rw [e1]; exact hh j ej
    · exact e1
/-- A run on a part that adds one block to it: the block is the next one of the whole. -/
theorem frame_new {α α1 : AMap} {F M σ' : Heap} {w w' : World} {s : SV} {v : Value} {c : List SV × TypeId} (h : RelW G ρ gl α F w) (hp : Part M F) (hb : SV.ubdH M.length M = true)
    (hx : Ext M.length M σ' (cutA M.length α) α1 w w') (hw : RelW G ρ gl α1 σ' w') (hn : σ' = M ++ [some c]) (hs : s.ubd (M.length + 1) = true) (hc : SV.ubdL (M.length + 1) c.1 = true) (hv : SV.R G ρ α1 s v) (hg : ∀ p, p ∈ gl → p.2 < M.length)
    (hF : F[M.length]? = some none) (hα : α M.length = none) :
    ∃ α', RelW G ρ gl α' (F.set M.length (some c)) w' ∧ Ext M.length F (F.set M.length (some c)) α α' w w' ∧ SV.R G ρ α' s v ∧ (∀ id, id ≠ M.length → α' id = α id) := by
  obtain ⟨c, T0⟩ := c
  have hlt : M.length < F.length := by
    rcases Nat.lt_or_ge M.length F.length with hl | hl
    · exact hl
    · rw [List.getElem?_eq_none hl] at hF; cases hF
  have back : ∀ id b, id < M.length → α1 id = some b → α id = some b := by
    intro id b hid e
    rcases hx.fresh id b e with e1 | ⟨e1, _⟩
    · exact (cutA_lt e1).2
    · omega
  obtain ⟨bn, vn, n1, n2, n3⟩ := hw.blk M.length c T0 (by rw [hn]; simp)
  have hbn : w.heap.size ≤ bn := by
    rcases hx.fresh _ _ n1 with e1 | ⟨_, e1⟩
    · have := (cutA_lt e1).1; omega
    · exact e1
  let α' : AMap := fun id => if id = M.length then some bn else α id
  have aN : α' M.length = some bn := by simp [α']
  have aO : ∀ id, id ≠ M.length → α' id = α id := fun id e => by simp [α', e]
  have mono : ∀ id b, α id = some b → α' id = some b := by
    intro id b e
    by_cases hid : id = M.length
    · subst hid; rw [hα] at e; cases e
    · rw [aO id hid]; exact e
  have agree : ∀ id b, id < M.length + 1 → α1 id = some b → α' id = some b := by
    intro id b hid e
    by_cases hi : id = M.length
    · subst hi; rw [n1] at e; rw [aN]; exact e
    · rw [aO id hi]; exact back id b (by omega) e
  refine ⟨α', ⟨?_, ?_, ?_, fun p hm => mono _ _ (h.glob p hm)⟩, ⟨hx.os, hx.tape, hx.output, hx.size, by simp, mono, ?_, ?_, ?_⟩, SV.R_agree _ agree s v hs hv, aO⟩
  · intro id b e
    by_cases hid : id = M.length
    · subst hid
      rw [aN] at e; cases e
      exact ⟨by simpa using hlt, (hw.dom _ _ n1).2⟩
    · rw [aO id hid] at e
      exact ⟨by simpa using (h.dom id b e).1, Nat.lt_of_lt_of_le (h.dom id b e).2 hx.size⟩
  · intro i j b ei ej
    by_cases hi : i = M.length <;> by_cases hj : j = M.length
    · rw [hi, hj]
    · rw [hi, aN] at ei; rw [aO j hj] at ej
      cases ei
      have := (h.dom j _ ej).2; omega
    · rw [hj, aN] at ej; rw [aO i hi] at ei
      cases ej
      have := (h.dom i _ ei).2; omega
    · rw [aO i hi] at ei; rw [aO j hj] at ej
      exact h.inj i j b ei ej
  · intro id cs T e
    by_cases hid : id = M.length
    · subst hid
      rw [List.getElem?_set_self (by omega)] at e
      cases e
      exact ⟨bn, vn, aN, n2, SV.RL_agree _ agree c vn hc n3⟩
    · rw [List.getElem?_set_ne (fun q => hid q.symm)] at e
      obtain ⟨b, vs, h1, h2, h3⟩ := h.blk id cs T e
      by_cases hm : id < M.length ∧ M[id]? = F[id]?
      · obtain ⟨hl, e1⟩ := hm
        have e2 : M[id]? = some (some (cs, T)) := e1.trans e
        have e3 : σ'[id]? = some (some (cs, T)) := by rw [hn, List.getElem?_append_left hl]; exact e2
        obtain ⟨b', vs', g1, g2, g3⟩ := hw.blk id cs T e3
        have hbb : b' = b := by
          have := back id b' hl g1
          rw [h1] at this; cases this; rfl
        subst hbb
        have hvs : vs' = vs := SV.RL_one cs vs' vs (SV.RL_agree M.length back cs vs' (ubdH_get hb e2) g3) h3
        subst hvs
        exact ⟨b', vs', mono _ _ h1, g2, SV.RL_mono mono cs _ h3⟩
      · refine ⟨b, vs, mono _ _ h1, ?_, SV.RL_mono mono cs _ h3⟩
        rw [hx.hid b (h.dom id b h1).2 ?_]
        · exact h2
        · intro j ej
          obtain ⟨hj, ej⟩ := cutA_lt ej
          have : j = id := h.inj j id b ej h1
          subst this
          rcases hp.2 j hj with e1 | e1
          · exact absurd ⟨hj, e1⟩ hm
          · exact e1
  · intro id b e
    by_cases hid : id = M.length
    · subst hid
      rw [aN] at e; cases e
      exact .inr ⟨Nat.le_refl _, hbn⟩
    · rw [aO id hid] at e; exact .inl e
  · intro b hbs hh
    refine hx.hid b hbs ?_
    intro j ej
    obtain ⟨hj, ej⟩ := cutA_lt ej
    rcases hp.2 j hj with e1 | e1
    · rw [e1]; exact hh j ej
    · exact e1
  · intro id b e hn'
    have hid : id ≠ M.length := fun q => by rw [q, hα] at e; cases e
    rw [List.getElem?_set_ne (fun q => hid q.symm)]
    exact hn'
end
end Sx
end Go.Proofs.Ytnhhphdhkgjbhaa
