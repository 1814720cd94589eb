/- What is proved: the frame of a law's row: a walk that returns true and leaves what was there as it was proves the row; a value of plain numbers is opened. -/
import Derived.WalkKit
import Derived.WalkSpells
import Derived.RowKit3
import Derived.Below
import Derived.ProofKit
import Derived.OpenShut
set_option linter.unusedSimpArgs false
set_option linter.unusedVariables false
namespace Go.Proofs.Ytnhhphdhkgjbhaa
open Go.ChangeShapes Go.WideShapes Go.ChangeAt Go.RowKit

theorem trodAll_stays {H : Type} {enc : TypeId × Value → H} {P : Program} (hl : laidOutB P = true) {W W' : World} (hb : Below W.heap.size W W') :
    ∀ (ts : List TypeId) (vs : List Value) (ds : List (DataW H)) (ps : List MemPlace), (∀ t ∈ ts, P.readableRec t = true ∧ t < P.types.size) → DataW.TrodAll enc P W 0 (fun _ => true) true ts vs ds ps → (∀ x ∈ ps, x.block < W.heap.size) →
      DataW.TrodAll enc P W' 0 (fun b => decide (b < W.heap.size)) true ts vs ds ps
  | [], [], [], _, _, h, _ => h
  | t :: ts, v :: vs, d :: ds, ps, ht, h, hlt => by
    obtain ⟨p, q, h1, h2, rfl⟩ := h
    exact ⟨p, q, Below.trod hl (ht t (by simp)).1 (ht t (by simp)).2 h1 hb (fun x hx => hlt x (List.mem_append_left _ hx)), trodAll_stays hl hb ts vs ds q (fun u hu => ht u (by simp [hu])) h2 (fun x hx => hlt x (List.mem_append_right _ hx)), rfl⟩
  | [], [], _ :: _, _, _, h, _ => h.elim
  | [], _ :: _, [], _, _, h, _ => h.elim
  | [], _ :: _, _ :: _, _, _, h, _ => h.elim
  | _ :: _, [], [], _, _, h, _ => h.elim
  | _ :: _, [], _ :: _, _, _, h, _ => h.elim
  | _ :: _, _ :: _, [], _, _, h, _ => h.elim
theorem trodAll_len {H : Type} {enc : TypeId × Value → H} {P : Program} {W : World} {b : Nat} {sp : Nat → Bool} {hd : Bool} :
    ∀ (ts : List TypeId) (vs : List Value) (ds : List (DataW H)) (ps : List MemPlace), DataW.TrodAll enc P W b sp hd ts vs ds ps → vs.length = ts.length ∧ ds.length = ts.length
  | [], [], [], _, _ => ⟨rfl, rfl⟩
  | _ :: ts, _ :: vs, _ :: ds, _, h => by
    obtain ⟨p, q, _, h2, _⟩ := h
    have := trodAll_len ts vs ds q h2
    simp; omega
  | [], [], _ :: _, _, h => h.elim
  | [], _ :: _, [], _, h => h.elim
  | [], _ :: _, _ :: _, _, h => h.elim
  | _ :: _, [], [], _, h => h.elim
  | _ :: _, [], _ :: _, _, h => h.elim
  | _ :: _, _ :: _, [], _, h => h.elim

/-- a law's row, of a walk -/
theorem law_lifted {C : Checked} {os : Os} {f : FuncId} {fn : Func} {s : ChangeSpec} {B : TypeId} {H : Type} {enc : TypeId × Value → H} (own : ownKnob C.prog.godebug = none) (started : os.Started) (noInit : C.prog.inits.idxOf? f = none)
    (hfn : C.prog.funcs[f]? = some fn) (hl : laidOutB C.prog = true) (hread : ∀ t ∈ fn.params.toList, C.prog.readableRec t = true ∧ t < C.prog.types.size) (hres : fn.resultTypes = #[B]) (hB : C.prog.underlying B = some .bool)
    (hsv : s.vars = []) (hs : ∀ ds : List (DataW H), ds.length = fn.params.size → s.fn H ds = { results := [.lit (.bool true)], args := ds })
    (witness : ∃ (w : World) (tape : Tape) (i : Input), w.os = os ∧ (w.forCall tape i).Shaped C.prog ∧ i.vars = [] ∧ Input.okWide C.prog (w.forCall tape i) .any w.heap.size f i ∧
      s.pre6 enc C.prog fn [] false (w.forCall tape i).memory i.args ∧ ({} : Assume).holds C.prog (lone (Frame.enter C.prog f i.args .normal) [] (w.forCall tape i)))
    (walk : ∀ (W : World) (base : Nat) (args : Array Value) (ds : List (DataW H)) (p : List MemPlace), args.size = fn.params.size →
      (∀ (j : Nat) t v, fn.params[j]? = some t → args[j]? = some v → Value.okWide C.prog W .any base t v) → DataW.TrodAll enc C.prog W 0 (fun _ => true) true fn.params.toList args.toList ds p →
      Calls C.prog f args W fun e W' => e = .returned (.bool true) ∧ Below W.heap.size W W') :
    ReturnsInHanded {} C os f .any (s.pre6 enc C.prog fn [] false) (s.post enc C.prog fn false true false false) := by
  refine returnsInHanded_of_change (C := C) own started noInit hfn witness ?_
  intro W base args ds gs before hval hW _ _
  have hW' := hW
  obtain ⟨p, q, hA, hV, hbf, _, _⟩ := hW
  have hV0 : gs = [] ∧ q = [] := by
    rw [hsv] at hV
    cases gs with
    | nil => exact ⟨rfl, hV⟩
    | cons _ _ => exact hV.elim
  obtain ⟨rfl, rfl⟩ := hV0
  have hlen := trodAll_len _ _ _ _ hA
  have hsz : args.size = fn.params.size := by have := hlen.1; simpa using this
  refine (walk W base args ds p hsz hval hA).mono fun e W' ⟨he, hg⟩ => ?_
  have e1 : s.fn H (ds ++ []) = { results := [.lit (.bool true)], args := ds } := by
    rw [List.append_nil]; exact hs ds (by have := hlen.2; simpa using this)
  have hlt : ∀ x ∈ p, x.block < W.heap.size := fun x hx => hW'.lt x (by rw [hbf]; simpa using hx)
  refine ⟨_, he, ds, [], before, [], p, [], hW', ?_, ?_, ?_, hg.frame _, fun h => by cases h⟩
  · rw [e1, hres]; exact trodAll_mk1 (shut_bool hB true)
  · rw [e1]; exact trodAll_stays hl hg _ _ _ _ hread hA hlt
  · rw [e1, hsv]; rfl

/-- a value of plain numbers of one kind: an array, a struct, nested however -/
theorem open_flat {P : Program} {W : World} {r : Reach} {base : Nat} {t : TypeId} {v : Value} {k : IntKind} {n : Nat} (hagg : (match P.underlying t with | some (.struct _) | some (.array _ _) => true | _ => false) = true)
    (hc : P.cellsOf t = n) (hk0 : (match P.cellTypes P.depth t with | some ts => ts.length == n && ts.all fun u => (match P.underlying u with | some (.int q) => q == k | _ => false) | none => false) = true) (h : Value.okWide P W r base t v) :
    ∃ f : Nat → Int, v = .agg ((List.range n).map fun i => Value.int k (f i)).toArray ∧ ∀ i, i < n → k.min ≤ f i ∧ f i ≤ k.max := by
  have h' : ∃ cs, v = .agg cs ∧ cs.size = P.cellsOf t ∧ Row.okWide P W r base t cs := by
    unfold Value.okWide at h
    split at hagg
    · rename_i hu; rw [hu] at h; exact h
    · rename_i hu; rw [hu] at h; exact h
    · cases hagg
  obtain ⟨cs, rfl, hsz, ts, hts, _, hcell⟩ := h'
  rw [hts] at hk0
  simp only [Bool.and_eq_true, beq_iff_eq] at hk0
  obtain ⟨hn, hk⟩ := hk0
  rw [hc] at hsz
  have hone : ∀ i, i < n → ∃ q, cs[i]? = some (.int k q) ∧ k.min ≤ q ∧ q ≤ k.max := by
    intro i hi
    have hi' : i < cs.size := by omega
    obtain ⟨u, hu, ho⟩ := hcell i cs[i] (by simp [hi'])
    rw [Nat.mod_eq_of_lt (by omega)] at hu
    have hmem : u ∈ ts := List.mem_of_getElem? hu
    have hku := List.all_eq_true.1 hk u hmem
    split at hku
    · rename_i q hq
      have hqk : q = k := by simpa using hku
      subst hqk
      unfold Cell.okWide at ho
      rw [hq] at ho
      simp only at ho
      unfold Cell.ok at ho
      rw [hq] at ho
      cases hv : cs[i] with
      | int k' m =>
        rw [hv] at ho
        simp only at ho
        obtain ⟨rfl, hlo, hhi⟩ := ho
        exact ⟨m, by simp [hi', hv], hlo, hhi⟩
      | _ => rw [hv] at ho; exact ho.elim
    · cases hku
  refine ⟨fun i => match cs[i]? with | some (.int _ q) => q | _ => 0, ?_, ?_⟩
  · congr 1
    apply Array.ext'
    apply List.ext_getElem?
    intro i
    by_cases hi : i < n
    · obtain ⟨q, hq, _⟩ := hone i hi
      simp [hi, hq]
    · have : cs.size ≤ i := by omega
      simp [hi, this]
  · intro i hi
    obtain ⟨q, hq, h1, h2⟩ := hone i hi
    simp only [hq]
    exact ⟨h1, h2⟩
theorem open_int {P : Program} {W : World} {r : Reach} {base : Nat} {t : TypeId} {v : Value} {k : IntKind} (hu : P.underlying t = some (.int k)) (h : Value.okWide P W r base t v) : ∃ n, v = .int k n ∧ k.min ≤ n ∧ n ≤ k.max := by
  unfold Value.okWide at h
  rw [hu] at h
  simp only at h
  unfold Cell.okWide at h
  rw [hu] at h
  simp only at h
  unfold Cell.ok at h
  rw [hu] at h
  cases v with
  | int k' m =>
    simp only at h
    obtain ⟨rfl, hlo, hhi⟩ := h
    exact ⟨m, rfl, hlo, hhi⟩
  | _ => exact h.elim
theorem wf_of_bd {k : IntKind} {n : Int} (h : k.min ≤ n ∧ n ≤ k.max) : (Lit.int k n).wf = true := by simp [Lit.wf, h.1, h.2]
theorem args1 {α : Type} {xs : Array α} (h : xs.size = 1) : ∃ a, xs = #[a] := by
  obtain ⟨l⟩ := xs
  match l, h with
  | [a], _ => exact ⟨a, rfl⟩
theorem args2 {α : Type} {xs : Array α} (h : xs.size = 2) : ∃ a b, xs = #[a, b] := by
  obtain ⟨l⟩ := xs
  match l, h with
  | [a, b], _ => exact ⟨a, b, rfl⟩
theorem args3 {α : Type} {xs : Array α} (h : xs.size = 3) : ∃ a b c, xs = #[a, b, c] := by
  obtain ⟨l⟩ := xs
  match l, h with
  | [a, b, c], _ => exact ⟨a, b, c, rfl⟩
theorem list1 {α : Type} {xs : List α} (h : xs.length = 1) : ∃ a, xs = [a] := by
  match xs, h with
  | [a], _ => exact ⟨a, rfl⟩
theorem list2 {α : Type} {xs : List α} (h : xs.length = 2) : ∃ a b, xs = [a, b] := by
  match xs, h with
  | [a, b], _ => exact ⟨a, b, rfl⟩
theorem list3 {α : Type} {xs : List α} (h : xs.length = 3) : ∃ a b c, xs = [a, b, c] := by
  match xs, h with
  | [a, b, c], _ => exact ⟨a, b, c, rfl⟩
end Go.Proofs.Ytnhhphdhkgjbhaa
