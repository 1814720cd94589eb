/- What is proved: every operation that does not call, over closed data, is what the model does. No condition. -/
import Derived.Test.YtnhhphdhkgjbhaaSxC
set_option linter.unusedSimpArgs false
set_option linter.unusedVariables false
namespace Go.Proofs.Ytnhhphdhkgjbhaa
namespace Sx
open Go Go.RowKit

def evO (gl : List (Nat × Nat)) (tm : List SV) : Operand → SV
  | .tmp t => tm.getD t (.tuple [])
  | .const v => SV.ofV v
  | .global g => match gl.find? (fun p => p.1 == g) with
    | some p => .ptr p.2 0
    | none => .con (.pointer (some ⟨g, 0, none⟩))
  | .func f => .func (.func f) [] []
def sLoad (P : Program) (t : TypeId) (cs : List SV) (off : Nat) : Option SV :=
  match Program.isAggT P t with
  | some true => match P.info? t with
    | some i => if decide (off + i.size ≤ cs.length) then some (.agg ((cs.drop off).take i.size)) else none
    | none => none
  | some false => cs[off]?
  | none => none
def SV.oneCell : SV → Bool
  | .agg _ | .tuple _ => false
  | .con (.agg _) | .con (.tuple _) => false
  | _ => true
def sZero (P : Program) (t : TypeId) : Option (List SV) :=
  if t = mapTag then none else
  match P.info? t with
  | some i => match i.zero with
    | some z => (SV.ofV z).cells
    | none => none
  | none => none
/-- a place in a row of so many: how many cells on -/
def sBound (X : Ctx) (v : Option SV) (dflt : Nat) (most : Nat) : Res Nat :=
  match v with
  | none => .ok dflt
  | some (.int _ e) => (Res.num X e).bind fun n => if decide (0 ≤ n) && decide (n ≤ most) then .ok n.toNat else .fail 30
  | some _ => .fail 31
def sSlice (P : Program) (X : Ctx) (t : TypeId) (x : SV) (lo hi mx : Option SV) : Res SV :=
  match mx with
  | some _ => .fail 32
  | none =>
  match P.underlying t, x with
  | some (.array n e), .ptr id off =>
    match P.info? e with
    | some i => (sBound X hi n n).bind fun h => (sBound X lo 0 h).bind fun l => .ok (.slice id (if decide (n = l) then off else off + l * i.size) (h - l) (n - l))
    | none => .fail 33
  | some (.slice e), .slice id off len cap =>
    match P.info? e with
    | some i => (sBound X hi len cap).bind fun h => (sBound X lo 0 h).bind fun l => .ok (.slice id (if decide (cap = l) then off else off + l * i.size) (h - l) (cap - l))
    | none => .fail 34
  | _, _ => .fail 35
def sIndexAddr (P : Program) (X : Ctx) (t : TypeId) (x i : SV) : Res SV :=
  match i with
  | .int _ e =>
    (Res.num X e).bind fun n =>
    match P.underlying t, x with
    | some (.array len el), .ptr id off =>
      match P.info? el with
      | some inf => if decide (0 ≤ n) && decide (n < len) then .ok (.ptr id (off + n.toNat * inf.size)) else .fail 40
      | none => .fail 41
    | some (.slice el), .slice id off len _ =>
      match P.info? el with
      | some inf => if decide (0 ≤ n) && decide (n < len) then .ok (.ptr id (off + n.toNat * inf.size)) else .fail 42
      | none => .fail 43
    | _, _ => .fail 44
  | _ => .fail 45
def sIndex (P : Program) (X : Ctx) (t : TypeId) (x i : SV) : Res SV :=
  match i with
  | .int _ e =>
    (Res.num X e).bind fun n =>
    match P.underlying t, x with
    | some (.array len el), .agg cs =>
      match P.info? el with
      | some inf => if decide (0 ≤ n) && decide (n < len) then Res.ofOpt 46 (sPart P el cs (n.toNat * inf.size)) else .fail 47
      | none => .fail 48
    | _, _ => .fail 49
  | _ => .fail 50
def mmStep (o : IOp) (acc : Res SV) (s : SV) : Res SV :=
  match acc, s with
  | .ok (.int q y), .int _ z => .ok (.int q (E.mkOp o y z))
  | .need b, _ => .need b
  | _, _ => .fail 51
def sMaxMin (o : IOp) : List SV → Res SV
  | .int k x :: rest => rest.foldl (mmStep o) (.ok (.int k x))
  | _ => .fail 52
def sLen (P : Program) (cap : Bool) (t : TypeId) (x : SV) : Res SV :=
  match P.underlying t with
  | some (.array n _) => .ok (.int .i64 (.lit n))
  | some (.slice _) => match x with
    | .slice _ _ n c => .ok (.int .i64 (.lit (if cap then c else n)))
    | .con (.slice _ n c) => .ok (.int .i64 (.lit (if cap then c else n)))
    | _ => .fail 53
  | some (.pointer a) => match P.underlying a with
    | some (.array n _) => .ok (.int .i64 (.lit n))
    | _ => .fail 54
  | _ => .fail 55
def sMake (P : Program) (X : Ctx) (t : TypeId) (l c : SV) (σ : Heap) : Res (SV × Heap) :=
  match l, c with
  | .int _ a, .int _ b =>
    (Res.num X a).bind fun n => (Res.num X b).bind fun m =>
    match P.underlying t with
    | some (.slice e) => match P.info? e, sZero P e with
      | some i, some z =>
        if decide (0 ≤ n) && decide (n ≤ m) && decide (m * i.bytes ≤ 65536) && decide (m ≤ 65536) && decide (z.length = i.size) then .ok (.slice σ.length 0 n.toNat m.toNat, σ ++ [some ((List.range (m.toNat * i.size)).map (fun j => z.getD (j % z.length) (.tuple [])), e)])
        else .fail 56
      | _, _ => .fail 57
    | _ => .fail 58
  | _, _ => .fail 59
def sBuildSlice (P : Program) (t : TypeId) (len : Nat) (parts : List (Nat × SV)) (σ : Heap) : Res (SV × Heap) :=
  match P.underlying t with
  | some (.slice e) => match P.info? e, sZero P e with
    | some i, some z =>
      if decide (0 < len * i.size) && decide (len * i.size ≤ 65536) && decide (z.length = i.size) then
        match sFill (fun j => some (j * i.size, i.size)) ((List.range (len * i.size)).map (fun j => z.getD (j % z.length) (.tuple []))) parts with
        | some cs => .ok (.slice σ.length 0 len len, σ ++ [some (cs, e)])
        | none => .fail 64
      else .fail 65
    | _, _ => .fail 66
  | _ => .fail 67
def sStore (P : Program) (t : TypeId) (x v : SV) (σ : Heap) : Res Heap :=
  match x with
  | .ptr id off =>
    match σ[id]? with
    | some (some (cs, T)) =>
      if decide (T = mapTag) then .fail 62 else
      match v.cells, P.info? t with
      | some c, some i => if decide (c.length = i.size) && decide (off + c.length ≤ cs.length) && c.all SV.oneCell then forceL (cs.take off ++ c ++ cs.drop (off + c.length)) fun cs' => .ok (σ.set id (some (cs', T))) else .fail 60
      | _, _ => .fail 61
    | _ => .fail 62
  | _ => .fail 63
/-! maps whose keys are structs of numbers -/
def sFindKey (P : Program) (X : Ctx) (kt : TypeId) (k : SV) : List SV → Res (Option SV)
  | e :: v :: rest => match sEq P 10000 kt k e with
    | none => .fail 150
    | some b => (Res.test X b).bind fun r => (sFindKey P X kt k rest).bind fun q =>
      if r then (match q with | none => .ok (some v) | some _ => .fail 157) else .ok q
  | [] => .ok none
  | [_] => .fail 151
def rankOf : SV → Nat
  | .agg [.int _ (.lit a), .int _ (.lit b)] => a.toNat * 65536 + b.toNat
  | _ => 0
def insK (r : Nat) (k v : SV) : List SV → List SV
  | e :: x :: l => if r ≤ rankOf e then k :: v :: e :: x :: l else e :: x :: insK r k v l
  | _ => [k, v]
def structKey (P : Program) (kt : TypeId) (k : SV) : Bool :=
  match P.underlying kt, k with
  | some (.struct fs), .agg l => fs.toList.all fun f => (f.name != "_") && (match P.underlying f.type with | some (.int _) => true | _ => false) && (sPart P f.type l f.offset).isSome
  | _, _ => false
def sMapSet (P : Program) (X : Ctx) (t : TypeId) (m k v : SV) (σ : Heap) : Res Heap :=
  match P.underlying t, m with
  | some (.map kt _), .map id =>
    match σ[id]? with
    | some (some (cs, T)) =>
      if decide (T = mapTag) && structKey P kt k && decide (cs.length % 2 = 0) then
        (sFindKey P X kt k cs).bind fun r => match r with
          | none => forceL (insK (rankOf k) k v cs) fun cs' => .ok (σ.set id (some (cs', T)))
          | some _ => .fail 152
      else .fail 153
    | _ => .fail 154
  | _, _ => .fail 155
def sLookup (P : Program) (X : Ctx) (t : TypeId) (m k : SV) (ok : Bool) (σ : Heap) : Res SV :=
  match P.underlying t, m with
  | some (.map kt el), .map id =>
    match σ[id]? with
    | some (some (cs, T)) =>
      if decide (T = mapTag) && structKey P kt k && decide (cs.length % 2 = 0) then
        (sFindKey P X kt k cs).bind fun r => match r with
          | some s => .ok (if ok then .tuple [s, .bool (.lit true)] else s)
          | none => match (P.info? el).bind (·.zero) with
            | some z => .ok (if ok then .tuple [SV.ofV z, .bool (.lit false)] else SV.ofV z)
            | none => .fail 156
      else .fail 153
    | _ => .fail 154
  | _, _ => .fail 155
def exOp (P : Program) (X : Ctx) (ev : Operand → SV) (σ : Heap) (o : Oper) : Res (SV × Heap) :=
  let pure (r : Res SV) : Res (SV × Heap) := r.bind fun s => .ok (s, σ)
  match o.op with
  | .move x | .assign x => .ok (ev x, σ)
  | .pick c a b => match ev c with
    | .bool t => (Res.test X t).bind fun r => .ok (if r then ev a else ev b, σ)
    | _ => .fail 70
  | .alloc elem => match sZero P elem with
    | some cs => .ok (.ptr σ.length 0, σ ++ [some (cs, elem)])
    | none => .fail 71
  | .box elem x => if decide (elem = mapTag) then .fail 72 else match (ev x).cells with
    | some cs => .ok (.ptr σ.length 0, σ ++ [some (cs, elem)])
    | none => .fail 72
  | .build t parts => pure ((Res.ofOpt 73 (sBuilt P t (parts.toList.map fun p => (p.1, ev p.2)))).bind fun l => .ok (.agg l))
  | .buildSlice t len parts => sBuildSlice P t len (parts.toList.map fun p => (p.1, ev p.2)) σ
  | .load t x => match ev x with
    | .ptr id off => match σ[id]? with
      | some (some (cs, T)) => if decide (T = mapTag) then .fail 75 else pure (Res.ofOpt 74 (sLoad P t cs off))
      | _ => .fail 75
    | _ => .fail 76
  | .store t x v => (sStore P t (ev x) (ev v) σ).bind fun σ' => .ok (.tuple [], σ')
  | .makeMap _ none => .ok (.map σ.length, σ ++ [some ([], mapTag)])
  | .insert t m k v => (sMapSet P X t (ev m) (ev k) (ev v) σ).bind fun σ' => .ok (.tuple [], σ')
  | .mapUpdate t m k v => (sMapSet P X t (ev m) (ev k) (ev v) σ).bind fun σ' => .ok (.tuple [], σ')
  | .lookup t m k ok => pure (sLookup P X t (ev m) (ev k) ok σ)
  | .nilCheck x => match ev x with
    | .ptr id off => .ok (.ptr id off, σ)
    | .func (.func f) a b => .ok (.func (.func f) a b, σ)
    | _ => .fail 77
  | .binOp op t x y _ => pure (sBin P X op t (ev x) (ev y))
  | .unOp op _ x => pure (sUn X op (ev x))
  | .convert src dst x => match ev x with
    | .int _ e => match P.underlying src, P.underlying dst with
      | some _, some (.int k) => .ok (.int k (e.mkWrap X k), σ)
      | _, _ => .fail 78
    | _ => .fail 79
  | .makeFunc fn first captured => .ok (.func fn (first.toList.map ev) (captured.toList.map ev), σ)
  | .makeSlice t l c => sMake P X t (ev l) (ev c) σ
  | .slice t x lo hi mx => pure (sSlice P X t (ev x) (lo.map ev) (hi.map ev) (mx.map ev))
  | .fieldAddr t x f => match ev x with
    | .ptr id off => match P.underlying t with
      | some (.struct fs) => match fs[f]? with
        | some fl => match P.info? fl.type with
          | some i => if decide (i.size = 0) then .fail 80 else .ok (.ptr id (off + fl.offset), σ)
          | none => .fail 81
        | none => .fail 82
      | _ => .fail 83
    | _ => .fail 84
  | .field t x f => match ev x with
    | .agg cs => match P.underlying t with
      | some (.struct fs) => match fs[f]? with
        | some fl => pure (Res.ofOpt 85 (sPart P fl.type cs fl.offset))
        | none => .fail 86
      | _ => .fail 87
    | _ => .fail 88
  | .indexAddr t x i => pure (sIndexAddr P X t (ev x) (ev i))
  | .index t x i => pure (sIndex P X t (ev x) (ev i))
  | .extract x i => match ev x with
    | .tuple l => match l[i]? with
      | some s => .ok (s, σ)
      | none => .fail 89
    | _ => .fail 90
  | .call { callee := .builtin b, args, argTypes } =>
    match b with
    | .max => pure (sMaxMin .max (args.toList.map ev))
    | .min => pure (sMaxMin .min (args.toList.map ev))
    | .len => match argTypes[0]?, args.toList with
      | some t, x :: _ => pure (sLen P false t (ev x))
      | _, _ => .fail 91
    | .cap => match argTypes[0]?, args.toList with
      | some t, x :: _ => pure (sLen P true t (ev x))
      | _, _ => .fail 91
    | _ => .fail 92
  | _ => .fail 93
section
variable {ρ : Nat → Int} {P : Program} {X : Ctx} {gl : List (Nat × Nat)}
theorem sLoad_run {α : AMap} {t T : TypeId} {cs : List SV} {vs : List Value} {off b : Nat} {s : SV} {w : World} (h : sLoad P t cs off = some s) (hb : w.heap[b]? = some (.cells vs.toArray T (0, 0))) (r : SV.RL X.G ρ α cs vs) :
    ∃ v, (loadVar t ⟨b, off, none⟩).run P w = .ok v w ∧ SV.R X.G ρ α s v := by
  have hl := RL_length r
  have hcell : ∀ j v, vs[off + j]? = some v → w.cell? ((⟨b, off, none⟩ : Addr).add j) = some v := by
    intro j v hv
    have e : (⟨b, off, none⟩ : Addr).add j = ⟨b, off + j, none⟩ := by
      unfold Addr.add; split
      · rename_i h0; subst h0; rfl
      · rfl
    rw [e]
    simp [World.cell?, hb, hv]
  unfold sLoad at h
  split at h
  · rename_i ha
    split at h
    · rename_i i hi
      split at h
      · rename_i hle
        simp only [decide_eq_true_eq] at hle
        cases h
        refine ⟨.agg ((vs.drop off).take i.size).toArray, ?_, ?_⟩
        · have hlen : ((vs.drop off).take i.size).length = i.size := by simp; omega
          have := run_loadCells_list (P := P) w ⟨b, off, none⟩ ((vs.drop off).take i.size) (fun j v hv => by
            have hj : j < i.size := by
              rcases Nat.lt_or_ge j i.size with q | q
              · exact q
              · rw [List.getElem?_eq_none (by omega)] at hv; cases hv
            rw [List.getElem?_take, if_pos hj, List.getElem?_drop] at hv
            exact hcell j v hv)
          rw [hlen] at this
          simp only [loadVar, Sem.run_bind, isAgg_run ha, Result.andThen_ok, if_true]
          simp [sizeOf, typeInfo, hi, this]
        · simp only [SV.R]
          exact ⟨_, rfl, RL_take _ (RL_drop _ r)⟩
      · cases h
    · cases h
  · rename_i ha
    obtain ⟨v, hv, hr⟩ := RL_get r h
    refine ⟨v, ?_, hr⟩
    have := hcell 0 v (by simpa using hv)
    simp only [Addr.add] at this
    simp only [loadVar, Sem.run_bind, isAgg_run ha, Result.andThen_ok, Bool.false_eq_true, if_false]
    simp only [run_load]
    simp only [if_true] at this
    rw [this]
  · cases h
theorem alloc_obj {α : AMap} {σ : Heap} {w : World} {cs : List SV} {vs : List Value} (T : TypeId) (ob : Obj) (hob : IsObj (some ob) vs T) (h : RelW X.G ρ gl α σ w) (r : SV.RL X.G ρ α cs vs) :
    ∃ α', α' σ.length = some w.heap.size ∧ RelW X.G ρ gl α' (σ ++ [some (cs, T)]) (w.alloc ob) ∧ Ext σ.length σ (σ ++ [some (cs, T)]) α α' w (w.alloc ob) := by
  let α' : AMap := fun id => if id = σ.length then some w.heap.size else α id
  have aN : α' σ.length = some w.heap.size := by simp [α']
  have aO : ∀ id, id ≠ σ.length → α' id = α id := fun id e => by simp [α', e]
  have hne : ∀ id b, α id = some b → id ≠ σ.length := fun id b e q => by have := (h.dom id b e).1; omega
  have mono : ∀ id b, α id = some b → α' id = some b := fun id b e => by rw [aO id (hne id b e)]; exact e
  refine ⟨α', aN, ⟨?_, ?_, ?_, fun p hp => mono _ _ (h.glob p hp)⟩, ⟨rfl, rfl, rfl, by simp, by simp, mono, ?_, ?_, ?_⟩⟩
  · intro id b e
    by_cases hid : id = σ.length
    · subst hid; rw [aN] at e; cases e; simp
    · rw [aO id hid] at e
      have := h.dom id b e
      simp; omega
  · intro i j b ei ej
    by_cases hi : i = σ.length <;> by_cases hj : j = σ.length
    · rw [hi, hj]
    · rw [hi, aN] at ei; rw [aO j hj] at ej; cases ei
      have := (h.dom j _ ej).2; omega
    · rw [hj, aN] at ej; rw [aO i hi] at ei; cases ej
      have := (h.dom i _ ei).2; omega
    · rw [aO i hi] at ei; rw [aO j hj] at ej; exact h.inj i j b ei ej
  · intro id c U e
    by_cases hid : id < σ.length
    · rw [List.getElem?_append_left hid] at e
      obtain ⟨b, us, h1, h2, h3⟩ := h.blk id c U e
      refine ⟨b, us, mono _ _ h1, ?_, SV.RL_mono mono c us h3⟩
      have := (h.dom _ _ h1).2
      rw [Below.heap_alloc w _ b this]; exact h2
    · have hid' : id = σ.length := by
        rcases Nat.lt_or_ge id (σ.length + 1) with q | q
        · omega
        · rw [List.getElem?_eq_none (by simp; omega)] at e; cases e
      subst hid'
      simp at e
      obtain ⟨rfl, rfl⟩ := e
      refine ⟨_, vs, aN, ?_, SV.RL_mono mono _ vs r⟩
      show IsObj (w.heap.push _)[w.heap.size]? vs T
      rw [Array.getElem?_push, if_pos rfl]
      exact hob
  · intro id b e
    by_cases hid : id = σ.length
    · subst hid; rw [aN] at e; cases e; exact .inr ⟨Nat.le_refl _, Nat.le_refl _⟩
    · rw [aO id hid] at e; exact .inl e
  · intro b hb _
    exact Below.heap_alloc w _ b hb
  · intro id b e hn
    rw [List.getElem?_append_left (h.dom id b e).1]; exact hn
theorem alloc_rel {α : AMap} {σ : Heap} {w : World} {cs : List SV} {vs : List Value} (T : TypeId) (hT : T ≠ mapTag) (h : RelW X.G ρ gl α σ w) (r : SV.RL X.G ρ α cs vs) :
    ∃ α', α' σ.length = some w.heap.size ∧ RelW X.G ρ gl α' (σ ++ [some (cs, T)]) (w.alloc (.cells vs.toArray T)) ∧ Ext σ.length σ (σ ++ [some (cs, T)]) α α' w (w.alloc (.cells vs.toArray T)) := by
  exact alloc_obj T _ ((isObj_cells hT).2 rfl) h r
theorem store_rel {α : AMap} {σ : Heap} {w : World} {id b : Nat} {cs cs' : List SV} {vs vs' : List Value} {T : TypeId} (h : RelW X.G ρ gl α σ w) (hs : σ[id]? = some (some (cs, T))) (ha : α id = some b)
    (hT : T ≠ mapTag) (hb : w.heap[b]? = some (.cells vs.toArray T (0, 0))) (r : SV.RL X.G ρ α cs' vs') :
    RelW X.G ρ gl α (σ.set id (some (cs', T))) (w.setRow b vs'.toArray) ∧ Ext σ.length σ (σ.set id (some (cs', T))) α α w (w.setRow b vs'.toArray) := by
  have hlt : id < σ.length := (h.dom id b ha).1
  refine ⟨⟨fun i c e => by have := h.dom i c e; simpa using this, h.inj, ?_, h.glob⟩, ⟨rfl, rfl, rfl, by simp, by simp, fun _ _ e => e, fun _ _ e => .inl e, ?_, ?_⟩⟩
  · intro i c U e
    by_cases hi : i = id
    · subst hi
      rw [List.getElem?_set_self hlt] at e
      cases e
      exact ⟨b, vs', ha, (isObj_cells hT).2 (setRow_heap w b _ _ T (0, 0) hb), r⟩
    · rw [List.getElem?_set_ne (fun q => hi q.symm)] at e
      obtain ⟨k, us, h1, h2, h3⟩ := h.blk i c U e
      refine ⟨k, us, h1, ?_, h3⟩
      rw [setRow_other w b k _ (fun q => hi (h.inj i id b (q ▸ h1) ha))]
      exact h2
  · intro k hk hh
    rw [setRow_other w b k _ (fun q => by
      have := hh id (q ▸ ha)
      rw [hs] at this; cases this)]
  · intro i c e hn
    have hi : i ≠ id := fun q => by rw [q, hs] at hn; cases hn
    rw [List.getElem?_set_ne (fun q => hi q.symm)]
    exact hn
theorem setObj_rel {α : AMap} {σ : Heap} {w : World} {id b : Nat} {cs cs' : List SV} {vs' : List Value} {T : TypeId} (h : RelW X.G ρ gl α σ w) (ob : Obj) (hob : IsObj (some ob) vs' T) (hs : σ[id]? = some (some (cs, T))) (ha : α id = some b) (r : SV.RL X.G ρ α cs' vs') :
    RelW X.G ρ gl α (σ.set id (some (cs', T))) { w with heap := w.heap.setIfInBounds b (ob) } ∧ Ext σ.length σ (σ.set id (some (cs', T))) α α w { w with heap := w.heap.setIfInBounds b (ob) } := by
  have hlt : id < σ.length := (h.dom id b ha).1
  have hbs := (h.dom id b ha).2
  have other : ∀ k, k ≠ b → (w.heap.setIfInBounds b (ob))[k]? = w.heap[k]? := fun k hk => Array.getElem?_setIfInBounds_ne (fun q => hk q.symm)
  refine ⟨⟨fun i c e => by have := h.dom i c e; simpa using this, h.inj, ?_, h.glob⟩, ⟨rfl, rfl, rfl, by simp, by simp, fun _ _ e => e, fun _ _ e => .inl e, ?_, ?_⟩⟩
  · intro i c U e
    by_cases hi : i = id
    · subst hi
      rw [List.getElem?_set_self hlt] at e
      cases e
      exact ⟨b, vs', ha, by show IsObj (w.heap.setIfInBounds b ob)[b]? vs' _; rw [Array.getElem?_setIfInBounds_self_of_lt hbs]; exact hob, r⟩
    · rw [List.getElem?_set_ne (fun q => hi q.symm)] at e
      obtain ⟨k, us, h1, h2, h3⟩ := h.blk i c U e
      exact ⟨k, us, h1, by show IsObj (w.heap.setIfInBounds b ob)[k]? us U; rw [other k (fun q => hi (h.inj i id b (q ▸ h1) ha))]; exact h2, h3⟩
  · intro k hk hh
    exact other k (fun q => by
      have := hh id (q ▸ ha)
      rw [hs] at this; cases this)
  · intro i c e hn
    have hi : i ≠ id := fun q => by rw [q, hs] at hn; cases hn
    rw [List.getElem?_set_ne (fun q => hi q.symm)]
    exact hn
theorem oneCell_R {α : AMap} {s : SV} {v : Value} (h : s.oneCell = true) (r : SV.R X.G ρ α s v) : v.oneCell' = true := by
  cases s <;> simp only [SV.R] at r
  case bool => subst r; rfl
  case int => subst r; rfl
  case ptr => obtain ⟨_, _, rfl⟩ := r; rfl
  case slice => obtain ⟨_, _, rfl⟩ := r; rfl
  case map => obtain ⟨_, _, rfl⟩ := r; rfl
  case agg => simp [SV.oneCell] at h
  case tuple => simp [SV.oneCell] at h
  case func => obtain ⟨_, _, rfl, _⟩ := r; rfl
  case con x =>
    subst r
    cases v <;> first | rfl | (simp [SV.oneCell] at h)
theorem oneCells_R {α : AMap} : ∀ {l : List SV} {vs : List Value}, l.all SV.oneCell = true → SV.RL X.G ρ α l vs → ∀ v, v ∈ vs → v.oneCell' = true
  | [], vs, _, r, v, hv => by simp only [SV.RL] at r; subst r; cases hv
  | s :: l, vs, h, r, v, hv => by
    simp only [SV.RL] at r
    obtain ⟨u, vs', rfl, h2, h3⟩ := r
    simp only [List.all_cons, Bool.and_eq_true] at h
    rcases List.mem_cons.1 hv with rfl | hv
    · exact oneCell_R h.1 h2
    · exact oneCells_R h.2 h3 v hv
theorem sStore_run {α : AMap} {σ σ' : Heap} {w : World} {t : TypeId} {x v : SV} {xv vv : Value} (h : sStore P t x v σ = .ok σ') (hW : RelW X.G ρ gl α σ w) (rx : SV.R X.G ρ α x xv) (rv : SV.R X.G ρ α v vv) :
    ∃ w', (Instr.storeAt t xv vv).run P w = .ok () w' ∧ RelW X.G ρ gl α σ' w' ∧ Ext σ.length σ σ' α α w w' := by
  unfold sStore at h
  simp only [forceL_eq] at h
  split at h
  · rename_i id off
    simp only [SV.R] at rx
    obtain ⟨b, hb, rfl⟩ := rx
    split at h
    · rename_i cs T hs
      obtain ⟨b', vs, h1, h2, h3⟩ := hW.blk id cs T hs
      rw [hb] at h1; cases h1
      split at h
      · cases h
      rename_i hT
      simp only [decide_eq_true_eq] at hT
      rw [isObj_cells hT] at h2
      split at h
      · rename_i c i hc hi
        split at h
        · rename_i hg
          simp only [Bool.and_eq_true, decide_eq_true_eq] at hg
          obtain ⟨⟨g1, g2⟩, g3⟩ := hg
          cases h
          have rc := R_cells hc rv
          have lc := RL_length rc
          have lv := RL_length h3
          have hst := run_storeCells_at (P := P) b off T vv.cells.toList 0 vs.toArray w h2 (by simp at lc ⊢; omega) (oneCells_R g3 rc)
          have rel : SV.RL X.G ρ α (cs.take off ++ c ++ cs.drop (off + c.length)) (vs.take off ++ vv.cells.toList ++ vs.drop (off + c.length)) :=
            RL_append (RL_append (RL_take _ h3) rc) (RL_drop _ h3)
          obtain ⟨r1, r2⟩ := store_rel hW hs hb hT h2 rel
          refine ⟨_, ?_, r1, r2⟩
          have hsz : vv.cells.size = i.size := by simp at lc; omega
          simp only [Instr.storeAt, Instr.sureAddr, storeVar, Sem.run_bind, Sem.run_pure, Result.andThen_ok]
          simp only [sizeOf, typeInfo, Sem.run_bind, run_program, hi, Result.andThen_ok, Sem.run_pure]
          simp only [hsz, ne_eq, not_true_eq_false, if_false, Sem.run_pure, Result.andThen_ok]
          rw [hst]
          congr 2
          simp only [Nat.add_zero]
          rw [lc]
        · cases h
      · cases h
    · cases h
  · cases h
end
section
variable {ρ : Nat → Int} {P : Program} {X : Ctx} {gl : List (Nat × Nat)}
theorem parts_rel {α : AMap} {ev : Operand → SV} {ea : Operand → Value} : ∀ (l : List (Nat × Operand)), (∀ p, p ∈ l → SV.R X.G ρ α (ev p.2) (ea p.2)) → Parts X.G ρ α (l.map fun p => (p.1, ev p.2)) (l.map fun p => (p.1, ea p.2))
  | [], _ => .nil
  | p :: l, h => .cons (h p (by simp)) (parts_rel l fun q hq => h q (by simp [hq]))
theorem list_rel {α : AMap} {ev : Operand → SV} {ea : Operand → Value} : ∀ (l : List Operand), (∀ p, p ∈ l → SV.R X.G ρ α (ev p) (ea p)) → SV.RL X.G ρ α (l.map ev) (l.map ea)
  | [], _ => RL_nil
  | p :: l, h => RL_cons (h p (by simp)) (list_rel l fun q hq => h q (by simp [hq]))
theorem sBound_run (hX : X.Ok ρ) {α : AMap} {v : Option SV} {u : Option Value} {d m n : Nat} (h : sBound X v d m = .ok n) (hu : u.isSome = v.isSome) (hr : ∀ s x, v = some s → u = some x → SV.R X.G ρ α s x) :
    (u = none ∧ n = d) ∨ ∃ k i, u = some (.int k i) ∧ 0 ≤ i ∧ i ≤ m ∧ n = i.toNat := by
  unfold sBound at h
  split at h
  · cases h
    cases u with
    | none => exact .inl ⟨rfl, rfl⟩
    | some x => simp at hu
  · rename_i k e
    obtain ⟨i, hi, h⟩ := Res.bind_ok h
    have he := Res.num_ok hX hi
    split at h
    · rename_i hg
      simp only [Bool.and_eq_true, decide_eq_true_eq] at hg
      cases h
      cases u with
      | none => simp at hu
      | some x =>
        have := hr _ x rfl rfl
        simp only [SV.R] at this
        subst this
        exact .inr ⟨k, i, by rw [he], hg.1, hg.2, rfl⟩
    · cases h
  · cases h
theorem addr_add (b off n : Nat) : (⟨b, off, none⟩ : Addr).add n = ⟨b, off + n, none⟩ := by
  unfold Addr.add; split
  · rename_i h; subst h; rfl
  · rfl
theorem bounds_run {isSlice : Bool} {len cap : Nat} {lo hi : Option Value} {l h : Nat} (hh : (hi = none ∧ h = len) ∨ ∃ k i, hi = some (.int k i) ∧ 0 ≤ i ∧ i ≤ cap ∧ h = i.toNat)
    (hl : (lo = none ∧ l = 0) ∨ ∃ k i, lo = some (.int k i) ∧ 0 ≤ i ∧ i ≤ h ∧ l = i.toNat) (w : World) : (Instr.sliceBounds isSlice len cap lo hi none).run P w = .ok (l, h, cap) w := by
  rcases hh with ⟨rfl, rfl⟩ | ⟨k, i, rfl, h1, h2, rfl⟩
  · rcases hl with ⟨rfl, rfl⟩ | ⟨q, j, rfl, g1, g2, rfl⟩
    · simp [Instr.sliceBounds]
    · simp [Instr.sliceBounds, run_sliceBound w q j h _ g1 g2]
  · rcases hl with ⟨rfl, rfl⟩ | ⟨q, j, rfl, g1, g2, rfl⟩
    · simp [Instr.sliceBounds, run_sliceBound w k i cap _ h1 h2]
    · simp [Instr.sliceBounds, run_sliceBound w k i cap _ h1 h2, run_sliceBound w q j i.toNat _ g1 g2]
theorem sSlice_run (hX : X.Ok ρ) {α : AMap} {t : TypeId} {x s : SV} {xv : Value} {lo hi : Option SV} {lv hv : Option Value} (h : sSlice P X t x lo hi none = .ok s) (rx : SV.R X.G ρ α x xv)
    (hl : lv.isSome = lo.isSome) (hlr : ∀ s x, lo = some s → lv = some x → SV.R X.G ρ α s x) (hh : hv.isSome = hi.isSome) (hhr : ∀ s x, hi = some s → hv = some x → SV.R X.G ρ α s x) (w : World) :
    ∃ v, (Instr.sliceAt t xv lv hv none).run P w = .ok v w ∧ SV.R X.G ρ α s v := by
  unfold sSlice at h
  simp only at h
  split at h
  · rename_i n e id off hu
    simp only [SV.R] at rx
    obtain ⟨b, hb, rfl⟩ := rx
    split at h
    · rename_i i hi'
      obtain ⟨H, hH, h⟩ := Res.bind_ok h
      obtain ⟨L, hL, h⟩ := Res.bind_ok h
      cases h
      have c1 := sBound_run hX hH hh hhr
      have c2 := sBound_run hX hL hl hlr
      refine ⟨.slice (some ⟨b, if decide (n = L) = true then off else off + L * i.size, none⟩) (H - L) (n - L), ?_, by simp only [SV.R]; exact ⟨b, hb, rfl⟩⟩
      simp only [Instr.sliceAt, Sem.run_bind, run_underlying hu, Result.andThen_ok, Instr.sureAddr, Sem.run_pure, bounds_run c1 c2]
      simp only [sizeOf, typeInfo, Sem.run_bind, run_program, hi', Result.andThen_ok, Sem.run_pure, addr_add]
      by_cases hnl : n = L <;> simp [hnl]
    · cases h
  · rename_i e id off len cap hu
    simp only [SV.R] at rx
    obtain ⟨b, hb, rfl⟩ := rx
    split at h
    · rename_i i hi'
      obtain ⟨H, hH, h⟩ := Res.bind_ok h
      obtain ⟨L, hL, h⟩ := Res.bind_ok h
      cases h
      have c1 := sBound_run hX hH hh hhr
      have c2 := sBound_run hX hL hl hlr
      refine ⟨.slice (some ⟨b, if decide (cap = L) = true then off else off + L * i.size, none⟩) (H - L) (cap - L), ?_, by simp only [SV.R]; exact ⟨b, hb, rfl⟩⟩
      simp only [Instr.sliceAt, Instr.slice, Sem.run_bind, run_underlying hu, Result.andThen_ok, Sem.run_pure, bounds_run c1 c2]
      simp only [sizeOf, typeInfo, Sem.run_bind, run_program, hi', Result.andThen_ok, Sem.run_pure, Option.map_some, addr_add]
      by_cases hnl : cap = L <;> simp [hnl]
    · cases h
  · cases h
theorem sIndexAddr_run (hX : X.Ok ρ) {α : AMap} {t : TypeId} {x i s : SV} {xv iv : Value} (h : sIndexAddr P X t x i = .ok s) (rx : SV.R X.G ρ α x xv) (ri : SV.R X.G ρ α i iv) (w : World) :
    ∃ v, (Instr.indexAt t xv iv).run P w = .ok v w ∧ SV.R X.G ρ α s v := by
  unfold sIndexAddr at h
  split at h
  · rename_i k e
    replace h := Res.bind_ok h
    obtain ⟨n, hn, h⟩ := h
    have he := Res.num_ok hX hn
    simp only [SV.R] at ri
    subst ri
    rw [he]
    split at h
    · rename_i len el id off hu
      simp only [SV.R] at rx
      obtain ⟨b, hb, rfl⟩ := rx
      split at h
      · rename_i inf hi
        split at h
        · rename_i hg
          simp only [Bool.and_eq_true, decide_eq_true_eq] at hg
          cases h
          refine ⟨.pointer (some ⟨b, off + n.toNat * inf.size, none⟩), ?_, by simp only [SV.R]; exact ⟨b, hb, rfl⟩⟩
          simp [Instr.indexAt, asIntOf, run_underlying hu, Instr.sureAddr, hg.1, hg.2, sizeOf, typeInfo, hi, addr_add]
        · cases h
      · cases h
    · rename_i el id off len cap hu
      simp only [SV.R] at rx
      obtain ⟨b, hb, rfl⟩ := rx
      split at h
      · rename_i inf hi
        split at h
        · rename_i hg
          simp only [Bool.and_eq_true, decide_eq_true_eq] at hg
          cases h
          refine ⟨.pointer (some ⟨b, off + n.toNat * inf.size, none⟩), ?_, by simp only [SV.R]; exact ⟨b, hb, rfl⟩⟩
          simp [Instr.indexAt, asIntOf, run_underlying hu, hg.1, hg.2, sizeOf, typeInfo, hi, addr_add]
        · cases h
      · cases h
    · cases h
  · cases h
theorem sIndex_run (hX : X.Ok ρ) {α : AMap} {t : TypeId} {x i s : SV} {xv iv : Value} (h : sIndex P X t x i = .ok s) (rx : SV.R X.G ρ α x xv) (ri : SV.R X.G ρ α i iv) (w : World) :
    ∃ v, (Instr.index t xv iv).run P w = .ok v w ∧ SV.R X.G ρ α s v := by
  unfold sIndex at h
  split at h
  · rename_i k e
    replace h := Res.bind_ok h
    obtain ⟨n, hn, h⟩ := h
    have he := Res.num_ok hX hn
    simp only [SV.R] at ri
    subst ri
    rw [he]
    split at h
    · rename_i len el cs hu
      simp only [SV.R] at rx
      obtain ⟨vs, rfl, rx⟩ := rx
      split at h
      · rename_i inf hi
        split at h
        · rename_i hg
          simp only [Bool.and_eq_true, decide_eq_true_eq] at hg
          obtain ⟨v, hv, hr⟩ := sPart_run (P := P) (Res.ofOpt_ok h) rx w
          refine ⟨v, ?_, hr⟩
          simp [Instr.index, asIntOf, run_underlying hu, hg.1, hg.2, sizeOf, typeInfo, hi, hv]
        · cases h
      · cases h
    · cases h
  · cases h
theorem mm_fail (o : IOp) (c : Nat) : ∀ l : List SV, ∃ c', l.foldl (mmStep o) (.fail c) = .fail c'
  | [] => ⟨c, rfl⟩
  | x :: l => by
    have : mmStep o (.fail c) x = .fail 51 := by cases x <;> rfl
    simp only [List.foldl_cons, this]
    exact mm_fail o 51 l
theorem mm_need (o : IOp) (b : B) : ∀ l : List SV, l.foldl (mmStep o) (.need b) = .need b
  | [] => rfl
  | x :: l => by
    have : mmStep o (.need b) x = .need b := by cases x <;> rfl
    simp only [List.foldl_cons, this]
    exact mm_need o b l
theorem sMaxMin_fold {α : AMap} {o : IOp} {m2 : Value → Value → Sem Value} (hm : ∀ k q x y (w : World), (m2 (.int k x) (.int q y)).run P w = .ok (.int k (o.den x y)) w) : ∀ (rest : List SV) (vs : List Value) (k : IntKind) (e : E) (s : SV),
    rest.foldl (mmStep o) (.ok (.int k e)) = .ok s → SV.RL X.G ρ α rest vs → ∀ w : World, ∃ u, (vs.foldlM m2 (.int k (e.den X.G ρ))).run P w = .ok u w ∧ SV.R X.G ρ α s u
  | [], vs, k, e, s, h, rl, w => by
    simp only [SV.RL] at rl
    subst rl
    simp only [List.foldl_nil] at h
    cases h
    exact ⟨_, by simp; rfl, by simp [SV.R]⟩
  | x :: rest, vs, k, e, s, h, rl, w => by
    simp only [SV.RL] at rl
    obtain ⟨u, vs', rfl, h2, h3⟩ := rl
    simp only [List.foldl_cons] at h
    cases x with
    | int q z =>
      simp only [SV.R] at h2
      subst h2
      have h' : rest.foldl (mmStep o) (.ok (.int k (E.mkOp o e z))) = .ok s := h
      obtain ⟨y, hy, ry⟩ := sMaxMin_fold hm rest vs' k _ s h' h3 w
      rw [E.mkOp_den] at hy
      exact ⟨y, by simp only [List.foldlM_cons, Sem.run_bind, hm, Result.andThen_ok]; exact hy, ry⟩
    | _ =>
      exfalso
      simp only [mmStep] at h
      obtain ⟨c, hc⟩ := mm_fail o 51 rest
      rw [hc] at h
      cases h
theorem sMax_run {α : AMap} {l : List SV} {vs : List Value} {s : SV} {ts : Array TypeId} {t : TypeId} (h : sMaxMin .max l = .ok s) (r : SV.RL X.G ρ α l vs) (w : World) : ∃ u, (Builtin.max_ ts t vs.toArray).run P w = .ok u w ∧ SV.R X.G ρ α s u := by
  unfold sMaxMin at h
  split at h
  · rename_i k x rest
    simp only [SV.RL] at r
    obtain ⟨v, vs', rfl, h2, h3⟩ := r
    simp only [SV.R] at h2
    subst h2
    obtain ⟨u, hu, ru⟩ := sMaxMin_fold (P := P) (m2 := Builtin.max2) (fun k q x y w => by simp [Builtin.max2, IOp.den]) rest vs' k x s h h3 w
    exact ⟨u, by simpa [Builtin.max_] using hu, ru⟩
  · cases h
theorem sMin_run {α : AMap} {l : List SV} {vs : List Value} {s : SV} {ts : Array TypeId} {t : TypeId} (h : sMaxMin .min l = .ok s) (r : SV.RL X.G ρ α l vs) (w : World) : ∃ u, (Builtin.min_ ts t vs.toArray).run P w = .ok u w ∧ SV.R X.G ρ α s u := by
  unfold sMaxMin at h
  split at h
  · rename_i k x rest
    simp only [SV.RL] at r
    obtain ⟨v, vs', rfl, h2, h3⟩ := r
    simp only [SV.R] at h2
    subst h2
    obtain ⟨u, hu, ru⟩ := sMaxMin_fold (P := P) (m2 := Builtin.min2) (fun k q x y w => by simp [Builtin.min2, IOp.den]) rest vs' k x s h h3 w
    exact ⟨u, by simpa [Builtin.min_] using hu, ru⟩
  · cases h
theorem sLen_run {α : AMap} {t ty : TypeId} {x s : SV} {v : Value} {vs : List Value} {ts : Array TypeId} {c : Bool} (h : sLen P c t x = .ok s) (ht : ts[0]? = some t) (r : SV.R X.G ρ α x v) (w : World) :
    ∃ u, (if c then Builtin.cap_ ts ty (v :: vs).toArray else Builtin.len_ ts ty (v :: vs).toArray).run P w = .ok u w ∧ SV.R X.G ρ α s u := by
  have hv0 : (v :: vs).toArray[0]? = some v := by simp
  unfold sLen at h
  split at h
  · rename_i n e hu
    cases h
    refine ⟨.int .i64 n, ?_, by simp [SV.R, E.den]⟩
    cases c <;> simp [Builtin.cap_, Builtin.len_, ht, hv0, run_underlying hu, goInt]
  · rename_i e hu
    split at h
    · cases h
      simp only [SV.R] at r
      obtain ⟨b, hb, rfl⟩ := r
      cases c
      · exact ⟨_, by simp [Builtin.len_, ht, run_underlying hu, goInt]; rfl, by simp [SV.R, E.den]⟩
      · exact ⟨_, by simp [Builtin.cap_, ht, run_underlying hu, goInt]; rfl, by simp [SV.R, E.den]⟩
    · cases h
      simp only [SV.R] at r
      subst r
      cases c
      · exact ⟨_, by simp [Builtin.len_, ht, run_underlying hu, goInt]; rfl, by simp [SV.R, E.den]⟩
      · exact ⟨_, by simp [Builtin.cap_, ht, run_underlying hu, goInt]; rfl, by simp [SV.R, E.den]⟩
    · cases h
  · rename_i a hu
    split at h
    · rename_i n e hu2
      cases h
      refine ⟨.int .i64 n, ?_, by simp [SV.R, E.den]⟩
      cases c <;> simp [Builtin.cap_, Builtin.len_, ht, hv0, run_underlying hu, run_underlying hu2, goInt]
    · cases h
  · cases h
end
end Sx
end Go.Proofs.Ytnhhphdhkgjbhaa
