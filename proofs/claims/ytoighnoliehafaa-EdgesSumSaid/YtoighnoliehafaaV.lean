/- What is proved: more small laws on worlds: cells of blocks that are laid behind one another. -/
import Derived.Test.YtoighnoliehafaaU
namespace Go.Proofs.Ytoighnoliehafaa
open Go.RowKit
theorem cell_new {w : World} {cs : Array Value} {t : TypeId} {b i : Nat} {v : Value} (hb : b = w.heap.size) (h : cs[i]? = some v) : (w.alloc (.cells cs t)).cell? ⟨b, i, none⟩ = some v := by
  subst hb; simp [h]
theorem cell_old {w : World} {o : Obj} {b i : Nat} {v : Value} (h : w.cell? ⟨b, i, none⟩ = some v) : (w.alloc o).cell? ⟨b, i, none⟩ = some v :=
  ((bel_alloc o (bel_refl w)).cell (p := ⟨b, i, none⟩) (World.block_lt_of_cell? _ _ h)).trans h
theorem frz_new {w : World} {cs : Array Value} {t : TypeId} {b i : Nat} (hb : b = w.heap.size) : (w.alloc (.cells cs t)).frozen? ⟨b, i, none⟩ = false := by
  subst hb; simp [go_sem]
theorem frz_old {w : World} {o : Obj} {b i : Nat} (hb : b < w.heap.size) (h : w.frozen? ⟨b, i, none⟩ = false) : (w.alloc o).frozen? ⟨b, i, none⟩ = false :=
  ((bel_alloc o (bel_refl w)).frozen (p := ⟨b, i, none⟩) hb).trans h
theorem frz_later {w w1 : World} {a : Addr} {v : Value} (hb : Below w.heap.size w w1) (hc : w.cell? a = some v) (h : w.frozen? a = false) : w1.frozen? a = false := (hb.frozen (World.block_lt_of_cell? _ _ hc)).trans h
end Go.Proofs.Ytoighnoliehafaa
