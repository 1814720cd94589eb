/- What is proved: a value of plain numbers of whatever kinds is opened. No condition but those that are stated. -/
import Derived.Test.YtoiecphddchknaaQg5
set_option linter.unusedSimpArgs false
set_option linter.unusedVariables false
namespace Go.Proofs.Ytoiecphddchknaa
open Go.ChangeShapes Go.WideShapes Go.ChangeAt Go.RowKit
theorem open_kinds {P : Program} {W : World} {r : Reach} {base : Nat} {t : TypeId} {v : Value} (ks : List IntKind) (hagg : (match P.underlying t with | some (.struct _) | some (.array _ _) => true | _ => false) = true)
    (hc : P.cellsOf t = ks.length) (hk0 : (match P.cellTypes P.depth t with | some ts => ts.length == ks.length && (List.range ks.length).all fun i => (match ts[i]?.bind P.underlying, ks[i]? with | some (.int q), some k => q == k | _, _ => false) | none => false) = true) (h : Value.okWide P W r base t v) :
    ∃ f : Nat → Int, v = .agg ((List.range ks.length).map fun i => Value.int (ks.getD i .i64) (f i)).toArray ∧ ∀ i k, ks[i]? = some k → k.min ≤ f i ∧ f i ≤ k.max := by
  have h' : ∃ cs, v = .agg cs ∧ cs.size = P.cellsOf t ∧ Row.okWide P W r base t cs := by
    unfold Value.okWide at h
    split at hagg
    · rename_i hu; rw [hu] at h; exact h
    · rename_i hu; rw [hu] at h; exact h
    · cases hagg
  obtain ⟨cs, rfl, hsz, ts, hts, _, hcell⟩ := h'
  rw [hts] at hk0
  simp only [Bool.and_eq_true, beq_iff_eq, List.all_eq_true, List.mem_range] at hk0
  obtain ⟨hn, hk⟩ := hk0
  rw [hc] at hsz
  have hone : ∀ (i : Nat) (k : IntKind), ks[i]? = some k → ∃ q : Int, cs[i]? = some (Value.int k q) ∧ k.min ≤ q ∧ q ≤ k.max := by
    intro i k hik
    have hi : i < ks.length := (List.getElem?_eq_some_iff.1 hik).1
    have hi' : i < cs.size := by omega
    obtain ⟨u, hu, ho⟩ := hcell i cs[i] (by simp [hi'])
    rw [Nat.mod_eq_of_lt (by omega)] at hu
    have hku := hk i hi
    rw [hu, hik] at hku
    simp only [Option.bind_some] at hku
    split at hku
    · rename_i q k' hq hk'
      have hqk : q = k' := by simpa using hku
      cases hk'
      subst hqk
      unfold Cell.okWide at ho
      rw [hq] at ho
      simp only at ho
      unfold Cell.ok at ho
      rw [hq] at ho
      cases hv : cs[i] with
      | int k' m =>
        rw [hv] at ho
        simp only at ho
        obtain ⟨rfl, hlo, hhi⟩ := ho
        exact ⟨m, by simp [hi', hv], hlo, hhi⟩
      | _ => rw [hv] at ho; exact ho.elim
    · cases hku
  refine ⟨fun i => match cs[i]? with | some (.int _ q) => q | _ => 0, ?_, ?_⟩
  · congr 1
    apply Array.ext'
    apply List.ext_getElem?
    intro i
    by_cases hi : i < ks.length
    · obtain ⟨q, hq, _⟩ := hone i ks[i] (by simp [hi])
      simp [hi, hq, List.getD, List.getElem?_eq_getElem hi]
    · have : cs.size ≤ i := by omega
      simp [hi, this]
  · intro i k hik
    obtain ⟨q, hq, h1, h2⟩ := hone i k hik
    simp only [hq]
    exact ⟨h1, h2⟩
end Go.Proofs.Ytoiecphddchknaa
