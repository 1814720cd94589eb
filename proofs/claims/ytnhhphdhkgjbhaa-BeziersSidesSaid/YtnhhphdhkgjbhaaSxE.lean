/- What is proved: an operation that does not call, over closed data, is what the model does. No condition. -/
import Derived.Test.YtnhhphdhkgjbhaaSxD
import Derived.Carry
import Derived.MapKept
import Derived.WideKeyRuns
set_option linter.unusedSimpArgs false
set_option linter.unusedVariables false
namespace Go.Proofs.Ytnhhphdhkgjbhaa
namespace Sx
open Go Go.RowKit
section
variable {ρ : Nat → Int} {P : Program} {X : Ctx} {gl : List (Nat × Nat)}
theorem made_rel {α : AMap} {zv : Value} {z : List SV} (hz : (SV.ofV zv).cells = some z) (n : Nat) (hn : n ≠ 0 → 0 < z.length) :
    SV.RL X.G ρ α ((List.range n).map (fun j => z.getD (j % z.length) (.tuple []))) (madeCells zv.cells n).toList := by
  have rz := R_cells (G := X.G) (ρ := ρ) (α := α) hz (R_ofV zv)
  have lz := RL_length rz
  have hsz : zv.cells.size = z.length := by simpa using lz
  unfold madeCells
  simp only [Array.toList_map, Array.toList_range]
  have hlt : ∀ j, j ∈ List.range n → j % z.length < z.length := fun j hj => Nat.mod_lt _ (hn (by intro e; subst e; simp at hj))
  generalize List.range n = js at hlt
  induction js with
  | nil => exact RL_nil
  | cons j js ih =>
    refine RL_cons ?_ (ih (fun k hk => hlt k (by simp [hk])))
    have hj := hlt j (by simp)
    have h1 : z[j % z.length]? = some (z[j % z.length]) := by simp [hj]
    obtain ⟨v, hv, rv⟩ := RL_get rz h1
    simp only [List.getD, h1, Option.getD_some]
    rw [hsz, getElem!_pos zv.cells _ (by omega)]
    have : v = zv.cells[j % z.length]'(by omega) := by
      have h2 : zv.cells.toList[j % z.length]? = some (zv.cells[j % z.length]'(by omega)) := by simp
      rw [h2] at hv; exact (Option.some.inj hv).symm
    rw [← this]; exact rv
theorem sBuildSlice_run {α : AMap} {σ σ' : Heap} {w : World} {t : TypeId} {len : Nat} {ps : List (Nat × SV)} {vs : List (Nat × Value)} {s : SV} (h : sBuildSlice P t len ps σ = .ok (s, σ')) (hW : RelW X.G ρ gl α σ w) (hp : Parts X.G ρ α ps vs) :
    ∃ v w' α', (Instr.buildSlice t len vs.toArray).run P w = .ok v w' ∧ SV.R X.G ρ α' s v ∧ RelW X.G ρ gl α' σ' w' ∧ Ext σ.length σ σ' α α' w w' := by
  unfold sBuildSlice at h
  split at h
  · rename_i e hu
    split at h
    · rename_i i z hi hz
      split at h
      · rename_i hg
        simp only [Bool.and_eq_true, decide_eq_true_eq] at hg
        obtain ⟨⟨g1, g2⟩, g3⟩ := hg
        split at h
        · rename_i cs hf
          cases h
          unfold sZero at hz
          split at hz
          · cases hz
          rename_i hT
          rw [hi] at hz
          simp only at hz
          split at hz
          · rename_i zv hzv
            have hzp : 0 < z.length := by rw [g3]; exact Nat.pos_of_mul_pos_left g1
            obtain ⟨os, f1, f2⟩ := fill_run hp (made_rel (X := X) (ρ := ρ) (α := α) hz (len * i.size) (fun _ => hzp)) hf
            obtain ⟨α', a1, a2, a3⟩ := alloc_rel e hT hW f2
            refine ⟨.slice (some ⟨w.heap.size, 0, none⟩) len len, _, α', ?_, by simp only [SV.R]; exact ⟨_, a1, rfl⟩, a2, a3⟩
            have hne : ¬ len * i.size = 0 := by omega
            have hle : ¬ len * i.size > 2 ^ 24 := by omega
            unfold madeCells at f1
            simp only [Instr.buildSlice, Sem.run_bind, run_underlying hu, Result.andThen_ok, sizeOf, typeInfo, run_program, hi, Sem.run_pure]
            rw [if_neg hle]
            rw [if_neg hne]
            simp [zeroValue, typeInfo, hi, hzv, f1, newRow]
          · cases hz
        · cases h
      · cases h
    · cases h
  · cases h
theorem sMake_run (hX : X.Ok ρ) {α : AMap} {σ σ' : Heap} {w : World} {t : TypeId} {l c s : SV} {lv cv : Value} (h : sMake P X t l c σ = .ok (s, σ')) (hW : RelW X.G ρ gl α σ w) (rl : SV.R X.G ρ α l lv) (rc : SV.R X.G ρ α c cv) :
    ∃ v w' α', (Instr.makeSlice t lv cv).run P w = .ok v w' ∧ SV.R X.G ρ α' s v ∧ RelW X.G ρ gl α' σ' w' ∧ Ext σ.length σ σ' α α' w w' := by
  unfold sMake at h
  split at h
  · rename_i k a q b
    simp only [SV.R] at rl rc
    subst rl; subst rc
    replace h := Res.bind_ok h
    obtain ⟨n, hn, h⟩ := h
    replace h := Res.bind_ok h
    obtain ⟨m, hm, h⟩ := h
    rw [Res.num_ok hX hn, Res.num_ok hX hm]
    split at h
    · rename_i e hu
      split at h
      · rename_i i z hi hz
        split at h
        · rename_i hg
          simp only [Bool.and_eq_true, decide_eq_true_eq] at hg
          obtain ⟨⟨⟨⟨g1, g2⟩, g3⟩, g4⟩, g5⟩ := hg
          cases h
          unfold sZero at hz
          split at hz
          · cases hz
          rename_i hT
          rw [hi] at hz
          simp only at hz
          split at hz
          · rename_i zv hzv
            have rz := R_cells (G := X.G) (ρ := ρ) (α := α) hz (R_ofV zv)
            have lz := RL_length rz
            have rel : SV.RL X.G ρ α ((List.range (m.toNat * i.size)).map (fun j => z.getD (j % z.length) (.tuple []))) ((List.range (m.toNat * i.size)).map (fun j => zv.cells.toList.getD (j % z.length) undef)) := by
              generalize List.range (m.toNat * i.size) = js
              induction js with
              | nil => exact RL_nil
              | cons j js ih =>
                refine RL_cons ?_ ih
                by_cases hj : j % z.length < z.length
                · have h1 : z[j % z.length]? = some (z[j % z.length]) := by simp [hj]
                  obtain ⟨v, hv, rv⟩ := RL_get rz h1
                  simp only [List.getD, h1, hv, Option.getD_some]
                  exact rv
                · have e1 : z[j % z.length]? = none := List.getElem?_eq_none (by omega)
                  have e2 : zv.cells.toList[j % z.length]? = none := List.getElem?_eq_none (by omega)
                  simp only [List.getD, e1, e2, Option.getD_none]
                  simp only [SV.R]
                  exact ⟨[], rfl, RL_nil⟩
            have hrun := run_make (P := P) w t e i zv hu hi hzv k q n m g1 g2 (by rw [Int.mul_comm]; omega) (by omega)
            have hcells : madeCells zv.cells (m.toNat * i.size) = ((List.range (m.toNat * i.size)).map (fun j => zv.cells.toList.getD (j % z.length) undef)).toArray := by
              unfold madeCells
              apply Array.ext'
              simp only [Array.toList_map, Array.toList_range]
              apply List.map_congr_left
              intro j hj
              have hsz : zv.cells.size = z.length := by simpa using lz
              rw [hsz]
              by_cases hz0 : j % z.length < z.length
              · rw [getElem!_pos zv.cells _ (by omega)]
                rw [List.getD_eq_getElem?_getD, List.getElem?_eq_getElem (by simp; omega)]
                simp
              · have hz1 : z.length = 0 := by
                  rcases Nat.eq_zero_or_pos z.length with q | q
                  · exact q
                  · exact absurd (Nat.mod_lt j q) hz0
                have : m.toNat * i.size = 0 := by rw [← g5, hz1]; simp
                rw [this] at hj
                simp at hj
            rw [hcells] at hrun
            obtain ⟨α', a1, a2, a3⟩ := alloc_rel e hT hW rel
            refine ⟨_, _, α', hrun, ?_, a2, a3⟩
            simp only [SV.R]
            exact ⟨_, a1, rfl⟩
          · cases hz
        · cases h
      · cases h
    · cases h
  · cases h
/-- what an operation's run gives -/
def Runs (P : Program) (X : Ctx) (ρ : Nat → Int) (gl : List (Nat × Nat)) (α : AMap) (σ σ' : Heap) (w : World) (s : SV) (m : Sem Next) : Prop :=
  ∃ v w' α', (m.run P w = .ok (.value v) w' ∨ (m.run P w = .ok .skip w' ∧ v = undef)) ∧ SV.R X.G ρ α' s v ∧ RelW X.G ρ gl α' σ' w' ∧ Ext σ.length σ σ' α α' w w'
theorem Runs.pure {α : AMap} {σ σ' : Heap} {w : World} {s : SV} {r : Res SV} {m : Sem Value} (hW : RelW X.G ρ gl α σ w) (h : (r.bind fun s => Res.ok (s, σ)) = .ok (s, σ')) (hr : r = .ok s → ∃ v, m.run P w = .ok v w ∧ SV.R X.G ρ α s v) :
    Runs P X ρ gl α σ σ' w s (do pure (.value (← m))) := by
  obtain ⟨a, ha, h⟩ := Res.bind_ok h
  cases h
  obtain ⟨v, h1, h2⟩ := hr ha
  exact ⟨v, w, α, .inl (by simp [h1]), h2, hW, Ext.refl _ _ _ _⟩
theorem Runs.here {α : AMap} {σ : Heap} {w : World} {s : SV} {m : Sem Next} {v : Value} (hW : RelW X.G ρ gl α σ w) (h : m.run P w = .ok (.value v) w) (hr : SV.R X.G ρ α s v) : Runs P X ρ gl α σ σ w s m :=
  ⟨v, w, α, .inl h, hr, hW, Ext.refl _ _ _ _⟩
theorem insK_rel {α : AMap} {k v : SV} {kv vv : Value} (r : Nat) (rk : SV.R X.G ρ α k kv) (rv : SV.R X.G ρ α v vv) : ∀ (cs : List SV) (vs : List Value), SV.RL X.G ρ α cs vs → cs.length % 2 = 0 →
    ∃ vs', SV.RL X.G ρ α (insK r k v cs) vs' ∧ (pairsOf vs').Perm ((kv, vv) :: pairsOf vs)
  | [], vs, rl, _ => by
    simp only [SV.RL] at rl
    subst rl
    exact ⟨[kv, vv], RL_cons rk (RL_cons rv RL_nil), by simp [pairsOf]⟩
  | [x], vs, rl, h => by simp at h
  | e :: x :: l, vs, rl, h => by
    have rl0 := rl
    simp only [SV.RL] at rl
    obtain ⟨ev, vs1, rfl, r1, xv, vs2, rfl, r2, r3⟩ := rl
    unfold insK
    split
    · exact ⟨kv :: vv :: ev :: xv :: vs2, RL_cons rk (RL_cons rv rl0), by simp [pairsOf]⟩
    · obtain ⟨vs', q1, q2⟩ := insK_rel r rk rv l vs2 r3 (by simp only [List.length_cons] at h; omega)
      refine ⟨ev :: xv :: vs', RL_cons r1 (RL_cons r2 q1), ?_⟩
      simp only [pairsOf]
      exact (List.Perm.cons _ q2).trans (List.Perm.swap _ _ _)
theorem sFind_all (hX : X.Ok ρ) {α : AMap} {kt : TypeId} {k : SV} {kv : Value} (rk : SV.R X.G ρ α k kv) (w : World) : ∀ (cs : List SV) (vs : List Value) (r : Option SV), sFindKey P X kt k cs = .ok r → SV.RL X.G ρ α cs vs →
    (∀ p, p ∈ pairsOf vs → ∃ t : Bool, (Op.equal kt kv p.1).run P w = .ok t w ∧ (t = true → ∃ s, r = some s ∧ SV.R X.G ρ α s p.2)) ∧ (∀ s, r = some s → ∃ p, p ∈ pairsOf vs ∧ (Op.equal kt kv p.1).run P w = .ok true w)
  | [], vs, r, h, rl => by
    simp only [sFindKey] at h
    cases h
    simp only [SV.RL] at rl
    subst rl
    exact ⟨fun p hp => by simp [pairsOf] at hp, fun s hs => by cases hs⟩
  | [x], vs, r, h, rl => by simp [sFindKey] at h
  | e :: v :: rest, vs, r, h, rl => by
    simp only [SV.RL] at rl
    obtain ⟨ev, vs', rfl, r1, vv, vs'', rfl, r2, r3⟩ := rl
    unfold sFindKey at h
    split at h
    · cases h
    · rename_i b hb
      obtain ⟨t, ht, h⟩ := Res.bind_ok h
      obtain ⟨q, hq, h⟩ := Res.bind_ok h
      have hd := Res.test_ok hX ht
      have he := sEq_run (G := X.G) (ρ := ρ) 10000 kt k e b hb kv ev w rk r1
      have heq : (Op.equal kt kv ev).run P w = .ok (b.den X.G ρ) w := by simp only [Op.equal, Op.maxDepth, he]
      rw [hd] at heq
      obtain ⟨a1, a2⟩ := sFind_all hX rk w rest vs'' q hq r3
      simp only [pairsOf, List.mem_cons]
      cases t
      · simp only [Bool.false_eq_true, if_false] at h
        cases h
        refine ⟨?_, fun s hs => ?_⟩
        · rintro p (rfl | hp)
          · exact ⟨false, heq, fun z => by cases z⟩
          · exact a1 p hp
        · obtain ⟨p, hp, hr⟩ := a2 s hs
          exact ⟨p, .inr hp, hr⟩
      · simp only [if_true] at h
        cases q with
        | some _ => cases h
        | none =>
          cases h
          refine ⟨?_, fun s hs => ⟨(ev, vv), .inl rfl, heq⟩⟩
          rintro p (rfl | hp)
          · exact ⟨true, heq, fun _ => ⟨v, rfl, r2⟩⟩
          · obtain ⟨t, h1, h2⟩ := a1 p hp
            refine ⟨t, h1, fun z => ?_⟩
            obtain ⟨s, hs, _⟩ := h2 z
            cases hs
theorem asking_run {α : AMap} {kt : TypeId} {kv : Value} {r : Option SV} (w : World) : ∀ (es : List MapEntry) (j : Nat), (∀ e, e ∈ es → ∃ t : Bool, (Op.equal kt kv e.key).run P w = .ok t w ∧ (t = true → ∃ s, r = some s ∧ SV.R X.G ρ α s e.val)) →
    ((Instr.findAsking kt kv es j).run P w = .ok none w ∧ ∀ e, e ∈ es → (Op.equal kt kv e.key).run P w = .ok false w) ∨ ∃ s n val, r = some s ∧ (Instr.findAsking kt kv es j).run P w = .ok (some (n, val)) w ∧ SV.R X.G ρ α s val
  | [], j, _ => .inl ⟨by simp [Instr.findAsking], fun e he => by cases he⟩
  | e :: es, j, h => by
    obtain ⟨t, h1, h2⟩ := h e (by simp)
    cases t with
    | true =>
      obtain ⟨s, hs, hr⟩ := h2 rfl
      exact .inr ⟨s, j, e.val, hs, by simp [Instr.findAsking, h1], hr⟩
    | false =>
      rcases asking_run w es (j + 1) (fun x hx => h x (by simp [hx])) with ⟨q1, q2⟩ | ⟨s, n, val, q1, q2, q3⟩
      · refine .inl ⟨by simp [Instr.findAsking, h1, q1], ?_⟩
        intro x hx
        rcases List.mem_cons.1 hx with rfl | hx
        · exact h1
        · exact q2 x hx
      · exact .inr ⟨s, n, val, q1, by simp [Instr.findAsking, h1, q2], q3⟩
theorem sFind_run (hX : X.Ok ρ) {α : AMap} {kt : TypeId} {k : SV} {kv : Value} (rk : SV.R X.G ρ α k kv) (w : World) (cs : List SV) (vs : List Value) (es : List MapEntry) (j : Nat) (r : Option SV) (h : sFindKey P X kt k cs = .ok r) (rl : SV.RL X.G ρ α cs vs)
    (hp : (es.map fun e => (e.key, e.val)).Perm (pairsOf vs)) :
    (r = none ∧ (Instr.findAsking kt kv es j).run P w = .ok none w) ∨ ∃ s n val, r = some s ∧ (Instr.findAsking kt kv es j).run P w = .ok (some (n, val)) w ∧ SV.R X.G ρ α s val := by
  obtain ⟨a1, a2⟩ := sFind_all (P := P) hX rk w cs vs r h rl
  rcases asking_run (X := X) (ρ := ρ) (α := α) (r := r) (P := P) (kt := kt) (kv := kv) w es j (fun e he => a1 (e.key, e.val) (hp.mem_iff.1 (List.mem_map.2 ⟨e, he, rfl⟩))) with ⟨q1, q2⟩ | q
  · cases r with
    | none => exact .inl ⟨rfl, q1⟩
    | some s =>
      obtain ⟨p, hp1, hp2⟩ := a2 s rfl
      obtain ⟨e, he, rfl⟩ := List.mem_map.1 (hp.mem_iff.2 hp1)
      rw [q2 e he] at hp2
      cases hp2
  · exact .inr q
theorem structKey_run {α : AMap} {kt : TypeId} {k : SV} {kv : Value} (h : structKey P kt k = true) (rk : SV.R X.G ρ α k kv) (em : Bool) (w : World) : (Instr.checkKey em 10000 kt kv).run P w = .ok () w := by
  unfold structKey at h
  split at h
  · rename_i fs l hu
    simp only [SV.R] at rk
    obtain ⟨cs, rfl, rl⟩ := rk
    rw [show (10000 : Nat) = 9999 + 1 from rfl, Instr.checkKey]
    simp only [Sem.run_bind, run_underlying hu, Result.andThen_ok]
    rw [← Array.forIn_toList]
    have h' : ∀ f, f ∈ fs.toList → f.name ≠ "_" ∧ (∃ q, P.underlying f.type = some (.int q)) ∧ (sPart P f.type l f.offset).isSome = true := by
      intro f hf
      have := List.all_eq_true.1 h f hf
      simp only [Bool.and_eq_true, bne_iff_ne, ne_eq] at this
      refine ⟨this.1.1, ?_, this.2⟩
      have h2 := this.1.2
      split at h2
      · exact ⟨_, by assumption⟩
      · cases h2
    generalize fs.toList = L at h'
    clear h hu
    induction L with
    | nil => simp
    | cons f L ih =>
      obtain ⟨hn, ⟨q, hq⟩, hs⟩ := h' f (by simp)
      obtain ⟨s, hs⟩ := Option.isSome_iff_exists.1 hs
      obtain ⟨a, p1, _⟩ := sPart_run (G := X.G) (ρ := ρ) hs rl w
      have p2 : (Instr.checkKey em 9999 f.type a).run P w = .ok () w := by
        rw [show (9999 : Nat) = 9998 + 1 from rfl, Instr.checkKey]
        simp [run_underlying hq]
      simp only [List.forIn_cons, Sem.run_bind, hn, ne_eq, not_false_eq_true, if_true, Result.andThen_ok, p1, p2, Sem.run_pure]
      exact ih (fun y hy => h' y (by simp [hy]))
  · cases h
theorem structKey_wide {kt : TypeId} {k : SV} (h : structKey P kt k = true) : (match P.underlying kt with | some (.array _ _) | some (.struct _) => true | _ => false) = true := by
  unfold structKey at h
  split at h
  · rename_i fs l hu; rw [hu]
  · cases h
theorem sMapSet_run (hX : X.Ok ρ) {α : AMap} {σ σ' : Heap} {w : World} {t : TypeId} {m k v : SV} {mv kv vv : Value} (h : sMapSet P X t m k v σ = .ok σ') (hW : RelW X.G ρ gl α σ w) (rm : SV.R X.G ρ α m mv) (rk : SV.R X.G ρ α k kv) (rv : SV.R X.G ρ α v vv) :
    ∃ w', (Instr.mapUpdate t mv kv vv).run P w = .ok () w' ∧ RelW X.G ρ gl α σ' w' ∧ Ext σ.length σ σ' α α w w' := by
  unfold sMapSet at h
  split at h
  · rename_i kt el id hu
    simp only [SV.R] at rm
    obtain ⟨b, hb, rfl⟩ := rm
    split at h
    · rename_i cs T hs
      split at h
      · rename_i hg
        simp only [Bool.and_eq_true, decide_eq_true_eq] at hg
        obtain ⟨⟨rfl, hk⟩, hev⟩ := hg
        obtain ⟨r, hr, h⟩ := Res.bind_ok h
        cases r with
        | some s => cases h
        | none =>
          simp only [forceL_eq] at h
          cases h
          obtain ⟨b', vs, h1, h2, h3⟩ := hW.blk id cs _ hs
          rw [hb] at h1; cases h1
          have hl := RL_length h3
          obtain ⟨es, clock, h2', hp⟩ := isObj_map.1 h2
          have hf : (Instr.findKey kt kv es.toList).run P w = .ok none w := by
            rw [run_findKey_eq (P := P) (w := w) (structKey_wide hk)]
            rcases sFind_run hX rk w cs vs es.toList 0 none hr h3 hp with ⟨_, q⟩ | ⟨s, n, val, q, _⟩
            · exact q
            · cases q
          obtain ⟨vs', rel, pm⟩ := insK_rel (rankOf k) rk rv cs vs h3 hev
          have hob : IsObj (some (Obj.map (es.push { key := kv, val := vv, born := clock }) (clock + 1))) vs' mapTag := by
            refine isObj_map.2 ⟨_, _, rfl, ?_⟩
            refine List.Perm.trans ?_ pm.symm
            simp only [Array.toList_push, List.map_append, List.map_cons, List.map_nil]
            exact (List.perm_append_comm (l₁ := es.toList.map fun e => (e.key, e.val)) (l₂ := [(kv, vv)])).trans (show ([(kv, vv)] ++ es.toList.map fun e => (e.key, e.val)).Perm ((kv, vv) :: pairsOf vs) from List.Perm.cons _ hp)
          obtain ⟨r1, r2⟩ := setObj_rel hW _ hob hs hb rel
          refine ⟨_, ?_, r1, r2⟩
          simp only [Instr.mapUpdate, Sem.run_bind, run_underlying hu, Result.andThen_ok, MapKept.run_getObj_map h2', structKey_run hk rk, hf, MapKept.run_setObj_map _ h2']
      · cases h
    · cases h
  · cases h
theorem sLookup_run (hX : X.Ok ρ) {α : AMap} {σ : Heap} {w : World} {t : TypeId} {m k s : SV} {mv kv : Value} {ok : Bool} (h : sLookup P X t m k ok σ = .ok s) (hW : RelW X.G ρ gl α σ w) (rm : SV.R X.G ρ α m mv) (rk : SV.R X.G ρ α k kv) :
    ∃ v, (Instr.lookup t mv kv ok).run P w = .ok v w ∧ SV.R X.G ρ α s v := by
  unfold sLookup at h
  split at h
  · rename_i kt el id hu
    simp only [SV.R] at rm
    obtain ⟨b, hb, rfl⟩ := rm
    split at h
    · rename_i cs T hs
      split at h
      · rename_i hg
        simp only [Bool.and_eq_true, decide_eq_true_eq] at hg
        obtain ⟨⟨rfl, hk⟩, hev⟩ := hg
        obtain ⟨r, hr, h⟩ := Res.bind_ok h
        obtain ⟨b', vs, h1, h2, h3⟩ := hW.blk id cs _ hs
        rw [hb] at h1; cases h1
        obtain ⟨es, clock, h2', hp⟩ := isObj_map.1 h2
        have hfe := run_findKey_eq (P := P) (w := w) (structKey_wide hk) kv es.toList
        have key : ∀ (x : Value) (o : Bool) (sx : SV), SV.R X.G ρ α sx x → SV.R X.G ρ α (if ok then .tuple [sx, .bool (.lit o)] else sx) (if ok then .tuple #[x, .bool o] else x) := by
          intro x o sx rx
          cases ok
          · simpa using rx
          · simp only [if_true, SV.R]
            exact ⟨[x, .bool o], rfl, RL_cons rx (RL_cons (by simp [SV.R, B.den]) RL_nil)⟩
        rcases sFind_run hX rk w cs vs es.toList 0 r hr h3 hp with ⟨rfl, q⟩ | ⟨sx, n, val, rfl, q, rx⟩
        · simp only at h
          split at h
          · rename_i z hz
            cases h
            obtain ⟨i, hi, hz⟩ := Option.bind_eq_some_iff.1 hz
            refine ⟨_, ?_, key z false _ (R_ofV z)⟩
            simp only [Instr.lookup, Sem.run_bind, run_underlying hu, Result.andThen_ok, MapKept.run_getObj_map h2', Sem.run_pure, structKey_run hk rk, hfe, q]
            simp [zeroValue, typeInfo, hi, hz]
          · cases h
        · simp only at h
          cases h
          refine ⟨_, ?_, key val true _ rx⟩
          simp only [Instr.lookup, Sem.run_bind, run_underlying hu, Result.andThen_ok, MapKept.run_getObj_map h2', Sem.run_pure, structKey_run hk rk, hfe, q]
      · cases h
    · cases h
  · cases h
theorem exOp_run (hX : X.Ok ρ) {α : AMap} {σ σ' : Heap} {w : World} {ev : Operand → SV} {ea : Operand → Value} {o : Oper} {s : SV} (h : exOp P X ev σ o = .ok (s, σ')) (hW : RelW X.G ρ gl α σ w)
    (hop : ∀ x, x ∈ o.op.operands → SV.R X.G ρ α (ev x) (ea x)) : Runs P X ρ gl α σ σ' w s (execOp ea o) := by
  obtain ⟨dst, op, type, pos, after, guard⟩ := o
  simp only [exOp] at h
  cases op <;> simp only [Op.operands] at hop <;> (try simp only at h)
  case move x => cases h; exact Runs.here hW (by simp [execOp]) (hop x (by simp))
  case assign x => cases h; exact Runs.here hW (by simp [execOp]) (hop x (by simp))
  case pick c a b =>
    have rc := hop c (by simp)
    split at h
    · rename_i t ht
      rw [ht] at rc
      simp only [SV.R] at rc
      obtain ⟨r, hr, h⟩ := Res.bind_ok h
      have hd := Res.test_ok hX hr
      cases h
      cases r
      · exact Runs.here hW (v := ea b) (by simp [execOp, rc, hd, asBool]) (hop b (by simp))
      · exact Runs.here hW (v := ea a) (by simp [execOp, rc, hd, asBool]) (hop a (by simp))
    · cases h
  case alloc elem =>
    split at h
    · rename_i cs hz
      cases h
      unfold sZero at hz
      split at hz
      · cases hz
      rename_i hT
      split at hz
      · rename_i i hi
        split at hz
        · rename_i z hzz
          have rz := R_cells (G := X.G) (ρ := ρ) (α := α) hz (R_ofV z)
          obtain ⟨α', a1, a2, a3⟩ := alloc_rel elem hT hW rz
          refine ⟨.pointer (some ⟨w.heap.size, 0, none⟩), _, α', .inl ?_, ?_, a2, a3⟩
          · simp [execOp, Instr.alloc, zeroValue, typeInfo, hi, hzz, newVar, newRow]
          · simp only [SV.R]; exact ⟨_, a1, rfl⟩
        · cases hz
      · cases hz
    · cases h
  case box elem x =>
    split at h
    · cases h
    rename_i hT
    simp only [decide_eq_true_eq] at hT
    split at h
    · rename_i cs hz
      cases h
      have rz := R_cells hz (hop x (by simp))
      obtain ⟨α', a1, a2, a3⟩ := alloc_rel elem hT hW rz
      refine ⟨.pointer (some ⟨w.heap.size, 0, none⟩), _, α', .inl ?_, ?_, a2, a3⟩
      · simp [execOp, Instr.box, newVar, newRow]
      · simp only [SV.R]; exact ⟨_, a1, rfl⟩
    · cases h
  case build t parts =>
    refine Runs.pure hW h ?_
    intro hb
    replace hb := Res.bind_ok hb
    obtain ⟨l, hl, hb⟩ := hb
    cases hb
    have hp := parts_rel (X := X) (ρ := ρ) (α := α) (ev := ev) (ea := ea) parts.toList (fun p hp => hop p.2 (by simp; exact ⟨p.1, by simpa using hp⟩))
    obtain ⟨os, h1, h2⟩ := built_run (P := P) hp (Res.ofOpt_ok hl)
    refine ⟨.agg os, ?_, by simp only [SV.R]; exact ⟨os.toList, by simp, h2⟩⟩
    exact run_build w t _ os (by simpa using h1)
  case buildSlice t len parts =>
    have hp := parts_rel (X := X) (ρ := ρ) (α := α) (ev := ev) (ea := ea) parts.toList (fun p hp => hop p.2 (by simp; exact ⟨p.1, by simpa using hp⟩))
    obtain ⟨v, w', α', h1, h2, h3, h4⟩ := sBuildSlice_run h hW hp
    have e : (parts.toList.map fun p => (p.1, ea p.2)).toArray = parts.map fun x => (x.1, ea x.2) := by rw [← Array.toList_map]
    rw [e] at h1
    exact ⟨v, w', α', .inl (by simp [execOp, h1]), h2, h3, h4⟩
  case load t x =>
    have rx := hop x (by simp)
    split at h
    · rename_i id off he
      rw [he] at rx
      simp only [SV.R] at rx
      obtain ⟨b, hb, rx⟩ := rx
      split at h
      · rename_i cs T hs
        split at h
        · cases h
        rename_i hT
        simp only [decide_eq_true_eq] at hT
        refine Runs.pure hW h ?_
        intro hl
        obtain ⟨b', vs, h1, h2, h3⟩ := hW.blk id cs T hs
        rw [hb] at h1; cases h1
        rw [isObj_cells hT] at h2
        obtain ⟨v, hv, rv⟩ := sLoad_run (Res.ofOpt_ok hl) h2 h3
        exact ⟨v, by simp [rx, Instr.loadAt, Instr.sureAddr, hv], rv⟩
      · cases h
    · cases h
  case store t x v =>
    obtain ⟨σ2, h2, h⟩ := Res.bind_ok h
    cases h
    obtain ⟨w', h3, h4, h5⟩ := sStore_run h2 hW (hop x (by simp)) (hop v (by simp))
    exact ⟨undef, w', α, .inr ⟨by simp [execOp, h3], rfl⟩, by simp only [SV.R]; exact ⟨[], rfl, RL_nil⟩, h4, h5⟩
  case makeMap t r =>
    cases r with
    | some _ => cases h
    | none =>
      cases h
      obtain ⟨α', a1, a2, a3⟩ := alloc_obj mapTag (.map #[] 0) (isObj_map.2 ⟨#[], 0, rfl, by simp [pairsOf]⟩) hW (RL_nil (G := X.G) (ρ := ρ) (α := α))
      refine ⟨.map (some w.heap.size), _, α', .inl ?_, ?_, a2, a3⟩
      · simp [execOp, run_makeMap]
      · simp only [SV.R]; exact ⟨_, a1, rfl⟩
  case insert t m k v =>
    obtain ⟨σ2, h2, h⟩ := Res.bind_ok h
    cases h
    obtain ⟨w', h3, h4, h5⟩ := sMapSet_run hX h2 hW (hop m (by simp)) (hop k (by simp)) (hop v (by simp))
    exact ⟨undef, w', α, .inr ⟨by simp [execOp, h3], rfl⟩, by simp only [SV.R]; exact ⟨[], rfl, RL_nil⟩, h4, h5⟩
  case mapUpdate t m k v =>
    obtain ⟨σ2, h2, h⟩ := Res.bind_ok h
    cases h
    obtain ⟨w', h3, h4, h5⟩ := sMapSet_run hX h2 hW (hop m (by simp)) (hop k (by simp)) (hop v (by simp))
    exact ⟨undef, w', α, .inr ⟨by simp [execOp, h3], rfl⟩, by simp only [SV.R]; exact ⟨[], rfl, RL_nil⟩, h4, h5⟩
  case lookup t m k ok =>
    refine Runs.pure hW h ?_
    intro hl
    obtain ⟨v, h1, h2⟩ := sLookup_run hX hl hW (hop m (by simp)) (hop k (by simp))
    exact ⟨v, by simp [h1], h2⟩
  case nilCheck x =>
    have rx := hop x (by simp)
    split at h
    · rename_i id off he
      cases h
      rw [he] at rx
      have rx' := rx
      simp only [SV.R] at rx'
      obtain ⟨b, hb, rx'⟩ := rx'
      exact Runs.here hW (v := ea x) (by simp [execOp, rx']) rx
    · rename_i f a b he
      cases h
      rw [he] at rx
      have rx' := rx
      simp only [SV.R] at rx'
      obtain ⟨fs, cs, rx', _⟩ := rx'
      exact Runs.here hW (v := ea x) (by simp [execOp, rx']) rx
    · cases h
  case binOp op t x y yt =>
    refine Runs.pure hW h ?_
    intro hb
    exact sBin_run hX hb (hop x (by simp)) (hop y (by simp)) w
  case unOp op t x =>
    refine Runs.pure hW h ?_
    intro hb
    exact sUn_run hX hb (hop x (by simp)) w
  case convert src dst x =>
    have rx := hop x (by simp)
    split at h
    · rename_i k e he
      rw [he] at rx
      simp only [SV.R] at rx
      split at h
      · rename_i d q hs hd
        cases h
        refine Runs.here hW (v := .int q (q.wrap (e.den X.G ρ))) ?_ (by simp [SV.R, E.mkWrap_den hX])
        simp [execOp, convert, rx, run_underlying hs, run_underlying hd, Conv.intToInt]
      · cases h
    · cases h
  case makeFunc fn first captured =>
    cases h
    refine Runs.here hW (v := .func fn (first.map ea) (captured.map ea)) (by simp [execOp, Instr.makeFunc]) ?_
    simp only [SV.R]
    refine ⟨first.toList.map ea, captured.toList.map ea, by rw [← Array.toList_map, ← Array.toList_map], list_rel _ (fun p hp => hop p (by simp; exact .inl (by simpa using hp))), list_rel _ (fun p hp => hop p (by simp; exact .inr (by simpa using hp)))⟩
  case makeSlice t l c =>
    obtain ⟨v, w', α', h1, h2, h3, h4⟩ := sMake_run hX h hW (hop l (by simp)) (hop c (by simp))
    exact ⟨v, w', α', .inl (by simp [execOp, h1]), h2, h3, h4⟩
  case slice t x lo hi mx =>
    refine Runs.pure hW h ?_
    intro hb
    cases mx with
    | some m => simp [sSlice] at hb
    | none =>
      exact sSlice_run hX hb (hop x (by simp)) (by simp) (fun s v hs hv => by
        cases lo with
        | none => cases hs
        | some l => cases hs; cases hv; exact hop l (by simp)) (by simp) (fun s v hs hv => by
        cases hi with
        | none => cases hs
        | some l => cases hs; cases hv; exact hop l (by simp)) w
  case fieldAddr t x f =>
    have rx := hop x (by simp)
    split at h
    · rename_i id off he
      rw [he] at rx
      simp only [SV.R] at rx
      obtain ⟨b, hb, rx⟩ := rx
      split at h
      · rename_i fs hu
        split at h
        · rename_i fl hf
          split at h
          · rename_i i hi
            split at h
            · cases h
            · rename_i hz
              simp only [decide_eq_true_eq] at hz
              cases h
              refine Runs.here hW (v := .pointer (some ⟨b, off + fl.offset, none⟩)) ?_ (by simp only [SV.R]; exact ⟨b, hb, rfl⟩)
              simp [execOp, Instr.fieldAt, rx, run_underlying hu, hf, Instr.sureAddr, fieldPlace, sizeOf, typeInfo, hi, hz, addr_add]
          · cases h
        · cases h
      · cases h
    · cases h
  case field t x f =>
    have rx := hop x (by simp)
    split at h
    · rename_i cs he
      rw [he] at rx
      simp only [SV.R] at rx
      obtain ⟨vs, rx, rl⟩ := rx
      split at h
      · rename_i fs hu
        split at h
        · rename_i fl hf
          refine Runs.pure hW h ?_
          intro hb
          obtain ⟨v, hv, rv⟩ := sPart_run (P := P) (Res.ofOpt_ok hb) rl w
          exact ⟨v, by simp [Instr.field, rx, run_underlying hu, hf, asAgg, hv], rv⟩
        · cases h
      · cases h
    · cases h
  case indexAddr t x i =>
    refine Runs.pure hW h ?_
    intro hb
    exact sIndexAddr_run hX hb (hop x (by simp)) (hop i (by simp)) w
  case index t x i =>
    refine Runs.pure hW h ?_
    intro hb
    exact sIndex_run hX hb (hop x (by simp)) (hop i (by simp)) w
  case extract x i =>
    have rx := hop x (by simp)
    split at h
    · rename_i l he
      rw [he] at rx
      simp only [SV.R] at rx
      obtain ⟨vs, rx, rl⟩ := rx
      split at h
      · rename_i s0 hs
        cases h
        obtain ⟨v, hv, rv⟩ := RL_get rl hs
        exact Runs.here hW (v := v) (by simp [execOp, Instr.extract, rx, hv]) rv
      · cases h
    · cases h
  case call c =>
    obtain ⟨callee, args, argTypes⟩ := c
    cases callee with
    | value f => cases h
    | invoke r m => cases h
    | builtin b =>
      have hargs : ∀ p, p ∈ args.toList → SV.R X.G ρ α (ev p) (ea p) := fun p hp => hop p (by simp [Call.operands] at *; exact hp)
      have rl := list_rel (X := X) (ρ := ρ) (α := α) (ev := ev) (ea := ea) args.toList hargs
      have harr : args.map ea = (args.toList.map ea).toArray := by rw [← Array.toList_map]
      cases b <;> (try simp only at h) <;> first | (cases h; done) | skip
      case cap =>
        split at h
        · rename_i t x rest ht hx
          rw [hx] at rl harr
          simp only [List.map_cons] at rl harr
          have rx := hargs x (by rw [hx]; simp)
          have e : execOp ea { dst := dst, op := .call { callee := .builtin .cap, args := args, argTypes := argTypes }, type := type, pos := pos, after := after, guard := guard } = (do pure (.value (← Builtin.cap_ argTypes type (args.map ea))) : Sem Next) := rfl
          rw [e, harr]
          refine Runs.pure hW h ?_
          intro hb
          exact sLen_run (c := true) (ty := type) (vs := rest.map ea) hb ht rx w
        · cases h
      case len =>
        split at h
        · rename_i t x rest ht hx
          rw [hx] at rl harr
          simp only [List.map_cons] at rl harr
          have rx := hargs x (by rw [hx]; simp)
          have e : execOp ea { dst := dst, op := .call { callee := .builtin .len, args := args, argTypes := argTypes }, type := type, pos := pos, after := after, guard := guard } = (do pure (.value (← Builtin.len_ argTypes type (args.map ea))) : Sem Next) := rfl
          rw [e, harr]
          refine Runs.pure hW h ?_
          intro hb
          exact sLen_run (c := false) (ty := type) (vs := rest.map ea) hb ht rx w
        · cases h
      case max =>
        have e : execOp ea { dst := dst, op := .call { callee := .builtin .max, args := args, argTypes := argTypes }, type := type, pos := pos, after := after, guard := guard } = (do pure (.value (← Builtin.max_ argTypes type (args.map ea))) : Sem Next) := rfl
        rw [e, harr]
        refine Runs.pure hW h ?_
        intro hb
        exact sMax_run hb rl w
      case min =>
        have e : execOp ea { dst := dst, op := .call { callee := .builtin .min, args := args, argTypes := argTypes }, type := type, pos := pos, after := after, guard := guard } = (do pure (.value (← Builtin.min_ argTypes type (args.map ea))) : Sem Next) := rfl
        rw [e, harr]
        refine Runs.pure hW h ?_
        intro hb
        exact sMin_run hb rl w
  all_goals (cases h)
end
end Sx
end Go.Proofs.Ytnhhphdhkgjbhaa
