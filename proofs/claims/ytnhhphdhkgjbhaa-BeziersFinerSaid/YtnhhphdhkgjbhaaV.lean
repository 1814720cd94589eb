/- What is proved: more small laws on worlds: cells of blocks that are laid behind one another. -/
import Derived.Test.YtnhhphdhkgjbhaaU
set_option linter.unusedSimpArgs false
set_option linter.unusedVariables false
namespace Go.Proofs.Ytnhhphdhkgjbhaa
open Go.RowKit
theorem cell_new {w : World} {cs : Array Value} {t : TypeId} {b i : Nat} {v : Value} (hb : b = w.heap.size) (h : cs[i]? = some v) : (w.alloc (.cells cs t)).cell? ⟨b, i, none⟩ = some v := by
  subst hb; simp [h]
theorem cell_old {w : World} {o : Obj} {b i : Nat} {v : Value} (h : w.cell? ⟨b, i, none⟩ = some v) : (w.alloc o).cell? ⟨b, i, none⟩ = some v :=
  ((bel_alloc o (bel_refl w)).cell (p := ⟨b, i, none⟩) (World.block_lt_of_cell? _ _ h)).trans h
theorem frz_new {w : World} {cs : Array Value} {t : TypeId} {b i : Nat} (hb : b = w.heap.size) : (w.alloc (.cells cs t)).frozen? ⟨b, i, none⟩ = false := by
  subst hb; simp [go_sem]
theorem frz_old {w : World} {o : Obj} {b i : Nat} (hb : b < w.heap.size) (h : w.frozen? ⟨b, i, none⟩ = false) : (w.alloc o).frozen? ⟨b, i, none⟩ = false :=
  ((bel_alloc o (bel_refl w)).frozen (p := ⟨b, i, none⟩) hb).trans h
theorem frz_later {w w1 : World} {a : Addr} {v : Value} (hb : Below w.heap.size w w1) (hc : w.cell? a = some v) (h : w.frozen? a = false) : w1.frozen? a = false := (hb.frozen (World.block_lt_of_cell? _ _ hc)).trans h
theorem cell_set_eq {w : World} {b i : Nat} {v old : Value} (h : w.cell? ⟨b, i, none⟩ = some old) : (w.setCell ⟨b, i, none⟩ v).cell? ⟨b, i, none⟩ = some v :=
  World.cell?_setCell_same' _ _ _ (by rw [h]; rfl)
theorem cell_set_ne {w : World} {b i b' i' : Nat} {u v : Value} (hne : ¬ (b = b' ∧ i = i')) (h : w.cell? ⟨b', i', none⟩ = some v) : (w.setCell ⟨b, i, none⟩ u).cell? ⟨b', i', none⟩ = some v :=
  (World.cell?_setCell_other w ⟨b, i, none⟩ ⟨b', i', none⟩ u (by intro e; injection e with e1 e2; exact hne ⟨e1, e2⟩)).trans h
theorem eqArrAt {P : Program} (w : World) (d : Nat) {t e : TypeId} {k : IntKind} {n : Nat} (hu : P.underlying t = some (.array n e)) (he : P.underlying e = some (.int k)) (hc : P.cellsOf e = 1) (hi : (P.info? e).isSome = true)
    (xs ys : List Int) (hx : xs.length = n) (hy : ys.length = n) :
    (Op.equalIn (d + 2) t (.agg (xs.map (Value.int k)).toArray) (.agg (ys.map (Value.int k)).toArray)).run P w = .ok (decide (xs = ys)) w := by
  obtain ⟨i, hi⟩ := Option.isSome_iff_exists.1 hi
  rw [run_equalIn_array w (d + 1) _ _ hu hi, List.range_eq_range', eqItems_ints he hc d xs ys w n 0 (by omega) (by omega)]
  rfl
end Go.Proofs.Ytnhhphdhkgjbhaa
