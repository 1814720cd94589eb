/- What is proved: small laws on worlds that the walks of this seat use: what is laid behind stays apart from what lay before. -/
import Derived.WalkKit
import Derived.WalkSpells
import Derived.WalkLawsBesides
import Derived.Deep.RegionHeld3
import Derived.Deep.QuietTactic
import Derived.BigQuiet
import Derived.RowKit3
import Derived.Lib.Hide
import Derived.ChangeKeysEq
set_option linter.unusedSimpArgs false
set_option linter.unusedVariables false
namespace Go.Proofs.Ytnhhphdhkgjbhaa
open Go.RowKit

theorem bcell {W w1 : World} (hb : Below W.heap.size W w1) : (∀ b o, b < W.heap.size → w1.cell? ⟨b, o, none⟩ = W.cell? ⟨b, o, none⟩) ∧ (∀ b o, b < W.heap.size → w1.frozen? ⟨b, o, none⟩ = W.frozen? ⟨b, o, none⟩) :=
  ⟨fun b o h => hb.cell (p := ⟨b, o, none⟩) h, fun b o h => hb.frozen (p := ⟨b, o, none⟩) h⟩
theorem bel_refl (w : World) : Below w.heap.size w w := Below.refl _ _
theorem bel_alloc {w w' : World} (o : Obj) (h : Below w.heap.size w w') : Below w.heap.size w (w'.alloc o) := h.alloc h.size o
theorem bel_drew {w w' : World} (h : Below w.heap.size w w') : Below w.heap.size w w'.drew := h.drew
theorem bel_call {w W w1 : World} (hb : Below W.heap.size W w1) (h : Below w.heap.size w W) : Below w.heap.size w w1 := h.trans (hb.mono h.size)
theorem bel_set {w w' : World} {b o : Nat} (u : Value) (hb : w.heap.size ≤ b) (h : Below w.heap.size w w') : Below w.heap.size w (w'.setCell ⟨b, o, none⟩ u) := h.setCell hb u
theorem siz_set {n : Nat} {w : World} {a : Addr} {u : Value} (h : n ≤ w.heap.size) : n ≤ (w.setCell a u).heap.size := by simpa [World.setCell] using h
theorem siz_alloc {n : Nat} {w : World} {o : Obj} (h : n ≤ w.heap.size) : n ≤ (w.alloc o).heap.size := by simp; omega
theorem siz_drew {n : Nat} {w : World} (h : n ≤ w.heap.size) : n ≤ w.drew.heap.size := h
theorem prod_bd (x y b c : Int) (hb : 0 ≤ b) (h1 : -b ≤ x) (h2 : x ≤ b) (h3 : -c ≤ y) (h4 : y ≤ c) : -(b * c) ≤ x * y ∧ x * y ≤ b * c := by
  have hc : 0 ≤ c := by omega
  rcases Int.le_total 0 x with hx | hx <;> rcases Int.le_total 0 y with hy | hy
  · have := Int.mul_le_mul h2 h4 hy hb; have := Int.mul_nonneg hx hy; omega
  · have := Int.mul_le_mul h2 (show -y ≤ c by omega) (by omega) hb; have e : x * -y = -(x * y) := by grind
    have := Int.mul_nonneg hx (show 0 ≤ -y by omega); omega
  · have := Int.mul_le_mul (show -x ≤ b by omega) h4 hy hb; have e : -x * y = -(x * y) := by grind
    have := Int.mul_nonneg (show 0 ≤ -x by omega) hy; omega
  · have := Int.mul_le_mul (show -x ≤ b by omega) (show -y ≤ c by omega) (by omega) hb; have e : -x * -y = x * y := by grind
    have := Int.mul_nonneg (show 0 ≤ -x by omega) (show 0 ≤ -y by omega); omega
/-! a block of the call's own that is stored into at a region's end: its cells are there, whatever they hold -/
def val (w : World) (b i : Nat) : Value := (w.cell? ⟨b, i, none⟩).getD undef
def There (w : World) (b n : Nat) : Prop := ∀ i, i < n → w.cell? ⟨b, i, none⟩ = some (val w b i) ∧ w.frozen? ⟨b, i, none⟩ = false
theorem val_of {w : World} {b i : Nat} {v : Value} (h : w.cell? ⟨b, i, none⟩ = some v) : w.cell? ⟨b, i, none⟩ = some (val w b i) := by unfold val; rw [h]; rfl
theorem there_of {w w' : World} {b n : Nat} (h : There w b n) (hc : ∀ i, i < n → w'.cell? ⟨b, i, none⟩ = w.cell? ⟨b, i, none⟩) (hf : ∀ i, i < n → w'.frozen? ⟨b, i, none⟩ = w.frozen? ⟨b, i, none⟩) : There w' b n :=
  fun i hi => ⟨val_of ((hc i hi).trans (h i hi).1), (hf i hi).trans (h i hi).2⟩
theorem there_drew {w : World} {b n : Nat} (h : There w b n) : There w.drew b n := h
theorem there_lt {w : World} {b n : Nat} (h : There w b n) (hn : 0 < n) : b < w.heap.size := World.block_lt_of_cell? w ⟨b, 0, none⟩ (h 0 hn).1
theorem there_call {w w' : World} {b n : Nat} (hb : Below w.heap.size w w') (h : There w b n) : There w' b n := by
  intro i hi
  have hl : b < w.heap.size := there_lt h (by omega)
  exact there_of h (fun i _ => hb.cell (p := ⟨b, i, none⟩) hl) (fun i _ => hb.frozen (p := ⟨b, i, none⟩) hl) i hi
theorem there_alloc {w : World} {b n : Nat} (o : Obj) (h : There w b n) : There (w.alloc o) b n := there_call (bel_alloc o (bel_refl w)) h
theorem there_new (w : World) (cs : Array Value) (t : TypeId) (n : Nat) (hn : cs.size = n) : There (w.alloc (.cells cs t)) w.heap.size n := by
  subst hn
  intro i hi
  refine ⟨val_of (v := cs[i]) (by simp [hi]), by simp [go_sem]⟩
theorem there_newAt (w : World) (cs : Array Value) (t : TypeId) (b n : Nat) (hb : b = w.heap.size) (hn : cs.size = n) : There (w.alloc (.cells cs t)) b n := by
  subst hb; exact there_new w cs t n hn
theorem there_set {w : World} {b n : Nat} (a : Addr) (u : Value) (h : There w b n) : There (w.setCell a u) b n := by
  intro i hi
  refine ⟨?_, by rw [World.frozen?_setCell]; exact (h i hi).2⟩
  by_cases e : a = ⟨b, i, none⟩
  · subst e; exact val_of (World.cell?_setCell_same' _ _ _ (by rw [(h i hi).1]; rfl))
  · exact val_of ((World.cell?_setCell_other w a ⟨b, i, none⟩ u e).trans (h i hi).1)
theorem there_unset {w : World} {b n : Nat} {a : Addr} {u : Value} (h : There (w.setCell a u) b n) : There w b n := by
  intro i hi
  have h1 := (h i hi).1
  have h2 := (h i hi).2
  rw [World.frozen?_setCell] at h2
  refine ⟨?_, h2⟩
  by_cases e : a = ⟨b, i, none⟩
  · subst e
    cases hq : w.cell? ⟨b, i, none⟩ with
    | none => exact absurd (World.block_lt_of_cell? _ _ h1) (by
        intro hl
        have : (w.setCell ⟨b, i, none⟩ u).cell? ⟨b, i, none⟩ = none := by
          unfold World.cell? at hq ⊢
          simp only [World.setCell, Array.getElem?_modify, if_true]
          cases hb : w.heap[b]? with
          | none => simp
          | some o => cases o <;> simp_all
        rw [this] at h1; cases h1)
    | some v => rw [← hq]; exact val_of hq
  · rw [World.cell?_setCell_other w a ⟨b, i, none⟩ u e] at h1
    exact val_of h1
/-! arrays of numbers: equal just if their numbers are -/
theorem eqItems_ints {P : Program} {e : TypeId} {k : IntKind} (he : P.underlying e = some (.int k)) (hc : P.cellsOf e = 1) (d : Nat) (xs ys : List Int) (w : World) :
    ∀ (m j : Nat), xs.length = j + m → ys.length = j + m →
      (Op.eqItems (d + 1) e (P.cellsOf e) (xs.map (Value.int k)).toArray (ys.map (Value.int k)).toArray (List.range' j m)).run P w = .ok (decide (xs.drop j = ys.drop j)) w
  | 0, j, hx, hy => by
    rw [List.drop_of_length_le (by omega), List.drop_of_length_le (by omega)]
    simp [Op.eqItems]
  | m + 1, j, hx, hy => by
    have hpk : P.plainKey e = true := by simp [Program.plainKey, he]
    have gx : j < xs.length := by omega
    have gy : j < ys.length := by omega
    have h1 : (part e (xs.map (Value.int k)).toArray j).run P w = .ok (.int k xs[j]) w := run_part_plain w hpk (by simp [gx])
    have h2 : (part e (ys.map (Value.int k)).toArray j).run P w = .ok (.int k ys[j]) w := run_part_plain w hpk (by simp [gy])
    have ih := eqItems_ints he hc d xs ys w m (j + 1) (by omega) (by omega)
    rw [hc] at ih ⊢
    rw [List.range'_succ]
    simp only [Op.eqItems, Sem.run_bind, Nat.mul_one, h1, h2, Result.andThen_ok, run_equalIn_int w d e k k _ _ he]
    have e1 := List.drop_eq_getElem_cons gx
    have e2 := List.drop_eq_getElem_cons gy
    have hq : (xs.drop j = ys.drop j) ↔ (xs[j] = ys[j] ∧ xs.drop (j + 1) = ys.drop (j + 1)) := by rw [e1, e2, List.cons.injEq]
    by_cases hj : xs[j] = ys[j]
    · have hb : (!(xs[j] == ys[j])) = false := by simp [hj]
      rw [if_neg (by rw [hb]; simp), ih]
      congr 1
      rw [decide_eq_decide, hq]
      exact ⟨fun h => ⟨hj, h⟩, fun h => h.2⟩
    · have hb : (!(xs[j] == ys[j])) = true := by simp [hj]
      rw [if_pos hb, decide_eq_false (fun h => hj (hq.1 h).1)]
      rfl
theorem eqArr {P : Program} (w : World) {t e : TypeId} {k : IntKind} {n : Nat} (hu : P.underlying t = some (.array n e)) (he : P.underlying e = some (.int k)) (hc : P.cellsOf e = 1) (hi : (P.info? e).isSome = true)
    (xs ys : List Int) (hx : xs.length = n) (hy : ys.length = n) :
    (Op.equalIn 10000 t (.agg (xs.map (Value.int k)).toArray) (.agg (ys.map (Value.int k)).toArray)).run P w = .ok (decide (xs = ys)) w := by
  obtain ⟨i, hi⟩ := Option.isSome_iff_exists.1 hi
  rw [run_equalIn_array w 9999 _ _ hu hi, List.range_eq_range', eqItems_ints he hc 9998 xs ys w n 0 (by omega) (by omega)]
  rfl
theorem eqlArr {P : Program} (w : World) {t e : TypeId} {k : IntKind} {n : Nat} (hu : P.underlying t = some (.array n e)) (he : P.underlying e = some (.int k)) (hc : P.cellsOf e = 1) (hi : (P.info? e).isSome = true)
    (xs ys : List Int) (hx : xs.length = n) (hy : ys.length = n) :
    (binOp .eql t (.agg (xs.map (Value.int k)).toArray) (.agg (ys.map (Value.int k)).toArray)).run P w = .ok (.bool (decide (xs = ys))) w := by
  rw [run_eql_struct, eqArr w hu he hc hi xs ys hx hy]; rfl
theorem neqArr {P : Program} (w : World) {t e : TypeId} {k : IntKind} {n : Nat} (hu : P.underlying t = some (.array n e)) (he : P.underlying e = some (.int k)) (hc : P.cellsOf e = 1) (hi : (P.info? e).isSome = true)
    (xs ys : List Int) (hx : xs.length = n) (hy : ys.length = n) :
    (binOp .neq t (.agg (xs.map (Value.int k)).toArray) (.agg (ys.map (Value.int k)).toArray)).run P w = .ok (.bool (!decide (xs = ys))) w := by
  rw [run_neq_struct, eqArr w hu he hc hi xs ys hx hy]; rfl
end Go.Proofs.Ytnhhphdhkgjbhaa
