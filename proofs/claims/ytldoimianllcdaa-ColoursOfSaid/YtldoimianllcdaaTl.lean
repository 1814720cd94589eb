/- What is proved: what the laws of this seat say of colours and bytes, in plain whole numbers. No condition but those that are named. -/
import Derived.Test.YtldoimianllcdaaGd
import Derived.Test.YtldoimianllcdaaL
set_option linter.unusedSimpArgs false
set_option linter.unusedVariables false
namespace Go.Proofs.Ytldoimianllcdaa
open Go Go.RowKit Sx Wi
theorem t000 (a b c d : Int) : toF 0 0 0 a b c d = hd a := rfl
theorem t001 (a b c d : Int) : toF 1 0 0 a b c d = 0 := rfl
theorem t002 (a b c d : Int) : toF 2 0 0 a b c d = 0 := rfl
theorem t003 (a b c d : Int) : toF 3 0 0 a b c d = 0 := rfl
theorem t010 (a b c d : Int) : toF 0 0 1 a b c d = hd a := rfl
theorem t011 (a b c d : Int) : toF 1 0 1 a b c d = hd a := rfl
theorem t012 (a b c d : Int) : toF 2 0 1 a b c d = hd a := rfl
theorem t013 (a b c d : Int) : toF 3 0 1 a b c d = 0 := rfl
theorem t020 (a b c d : Int) : toF 0 0 2 a b c d = 0 := rfl
theorem t021 (a b c d : Int) : toF 1 0 2 a b c d = 0 := rfl
theorem t022 (a b c d : Int) : toF 2 0 2 a b c d = 0 := rfl
theorem t023 (a b c d : Int) : toF 3 0 2 a b c d = ls (hd a) := rfl
theorem t110 (a b c d : Int) : toF 0 1 1 a b c d = hd a := rfl
theorem t111 (a b c d : Int) : toF 1 1 1 a b c d = hd b := rfl
theorem t112 (a b c d : Int) : toF 2 1 1 a b c d = hd c := rfl
theorem t113 (a b c d : Int) : toF 3 1 1 a b c d = 0 := rfl
theorem t100 (a b c d : Int) : toF 0 1 0 a b c d = lu a b c := rfl
theorem t101 (a b c d : Int) : toF 1 1 0 a b c d = 0 := rfl
theorem t102 (a b c d : Int) : toF 2 1 0 a b c d = 0 := rfl
theorem t103 (a b c d : Int) : toF 3 1 0 a b c d = 0 := rfl
theorem t120 (a b c d : Int) : toF 0 1 2 a b c d = mx3 a b c - hd a := rfl
theorem t121 (a b c d : Int) : toF 1 1 2 a b c d = mx3 a b c - hd b := rfl
theorem t122 (a b c d : Int) : toF 2 1 2 a b c d = mx3 a b c - hd c := rfl
theorem t123 (a b c d : Int) : toF 3 1 2 a b c d = ls (mx3 a b c) := rfl
theorem t220 (a b c d : Int) : toF 0 2 2 a b c d = hd a := rfl
theorem t221 (a b c d : Int) : toF 1 2 2 a b c d = hd b := rfl
theorem t222 (a b c d : Int) : toF 2 2 2 a b c d = hd c := rfl
theorem t223 (a b c d : Int) : toF 3 2 2 a b c d = hd d := rfl
theorem t200 (a b c d : Int) : toF 0 2 0 a b c d = ls (lu a b c + hd d) := rfl
theorem t201 (a b c d : Int) : toF 1 2 0 a b c d = 0 := rfl
theorem t202 (a b c d : Int) : toF 2 2 0 a b c d = 0 := rfl
theorem t203 (a b c d : Int) : toF 3 2 0 a b c d = 0 := rfl
theorem t210 (a b c d : Int) : toF 0 2 1 a b c d = ls (hd a + hd d) := rfl
theorem t211 (a b c d : Int) : toF 1 2 1 a b c d = ls (hd b + hd d) := rfl
theorem t212 (a b c d : Int) : toF 2 2 1 a b c d = ls (hd c + hd d) := rfl
theorem t213 (a b c d : Int) : toF 3 2 1 a b c d = 0 := rfl
theorem toF_f {j : Nat} {f t a b c d : Int} (h : 3 ≤ f) : toF j f t a b c d = 0 := by
  unfold toF
  rw [if_neg (by omega), if_neg (by omega), if_neg (by omega), if_neg (by omega), if_neg (by omega), if_neg (by omega), if_neg (by omega), if_neg (by omega), if_neg (by omega)]
theorem toF_t {j : Nat} {f t a b c d : Int} (h : 3 ≤ t) : toF j f t a b c d = 0 := by
  unfold toF
  rw [if_neg (by omega), if_neg (by omega), if_neg (by omega), if_neg (by omega), if_neg (by omega), if_neg (by omega), if_neg (by omega), if_neg (by omega), if_neg (by omega)]
theorem hd_hd (x : Int) : hd (hd x) = hd x := by unfold hd; omega
theorem hd_in {x : Int} (h : 0 ≤ x) (h' : x ≤ 65536) : hd x = x := by unfold hd; omega
theorem hd_mm (x : Int) : hd (max 0 (min 65536 x)) = hd x := by unfold hd; omega
theorem hd_0 : hd 0 = 0 := rfl
theorem hd_1 : hd 65536 = 65536 := rfl
theorem fd16 (x : Int) : x.fdiv 16 = x / 16 := Int.fdiv_eq_ediv_of_nonneg x (by decide)
theorem fd65536 (x : Int) : x.fdiv 65536 = x / 65536 := Int.fdiv_eq_ediv_of_nonneg x (by decide)
theorem mixq (D K : Int) (h0 : 0 ≤ K) (h1 : K ≤ 16) : (0 ≤ D ∧ 0 ≤ D * K ∧ D * K ≤ 16 * D) ∨ (D ≤ 0 ∧ 16 * D ≤ D * K ∧ D * K ≤ 0) := by
  rcases Int.le_total 0 D with h | h
  · left
    have := Int.mul_nonneg h h0
    have := Int.mul_le_mul_of_nonneg_left h1 h
    omega
  · right
    have := Int.mul_le_mul_of_nonpos_left h h0
    have := Int.mul_le_mul_of_nonpos_left h h1
    omega
theorem mixm (D K L : Int) (h : K ≤ L) : (0 ≤ D ∧ D * K ≤ D * L) ∨ (D ≤ 0 ∧ D * L ≤ D * K) := by
  rcases Int.le_total 0 D with g | g
  · left; exact ⟨g, Int.mul_le_mul_of_nonneg_left h g⟩
  · right; exact ⟨g, Int.mul_le_mul_of_nonpos_left g h⟩
open Go.ChangeShapes Go.WideShapes Go.ChangeAt in
/-- a value of plain numbers of several kinds -/
theorem open_kinds {P : Program} {W : World} {r : Reach} {base : Nat} {t : TypeId} {v : Value} (ks : List IntKind) (hagg : (match P.underlying t with | some (.struct _) | some (.array _ _) => true | _ => false) = true)
    (hc : P.cellsOf t = ks.length) (hk0 : (match P.cellTypes P.depth t with | some ts => ts.length == ks.length && (List.range ks.length).all fun i => (match ts[i]?.bind P.underlying, ks[i]? with | some (.int q), some k => q == k | _, _ => false) | none => false) = true) (h : Value.okWide P W r base t v) :
    ∃ f : Nat → Int, v = .agg ((List.range ks.length).map fun i => Value.int (ks.getD i .i64) (f i)).toArray ∧ ∀ i k, ks[i]? = some k → k.min ≤ f i ∧ f i ≤ k.max := by
  have h' : ∃ cs, v = .agg cs ∧ cs.size = P.cellsOf t ∧ Row.okWide P W r base t cs := by
    unfold Value.okWide at h
    split at hagg
    · rename_i hu; rw [hu] at h; exact h
    · rename_i hu; rw [hu] at h; exact h
    · cases hagg
  obtain ⟨cs, rfl, hsz, ts, hts, _, hcell⟩ := h'
  rw [hts] at hk0
  simp only [Bool.and_eq_true, beq_iff_eq, List.all_eq_true, List.mem_range] at hk0
  obtain ⟨hn, hk⟩ := hk0
  rw [hc] at hsz
  have hone : ∀ (i : Nat) (k : IntKind), ks[i]? = some k → ∃ q : Int, cs[i]? = some (Value.int k q) ∧ k.min ≤ q ∧ q ≤ k.max := by
    intro i k hik
    have hi : i < ks.length := (List.getElem?_eq_some_iff.1 hik).1
    have hi' : i < cs.size := by omega
    obtain ⟨u, hu, ho⟩ := hcell i cs[i] (by simp [hi'])
    rw [Nat.mod_eq_of_lt (by omega)] at hu
    have hku := hk i hi
    rw [hu, hik] at hku
    simp only [Option.bind_some] at hku
    split at hku
    · rename_i q k' hq hk'
      have hqk : q = k' := by simpa using hku
      cases hk'
      subst hqk
      unfold Cell.okWide at ho
      rw [hq] at ho
      simp only at ho
      unfold Cell.ok at ho
      rw [hq] at ho
      cases hv : cs[i] with
      | int k' m =>
        rw [hv] at ho
        simp only at ho
        obtain ⟨rfl, hlo, hhi⟩ := ho
        exact ⟨m, by simp [hi', hv], hlo, hhi⟩
      | _ => rw [hv] at ho; exact ho.elim
    · cases hku
  refine ⟨fun i => match cs[i]? with | some (.int _ q) => q | _ => 0, ?_, ?_⟩
  · congr 1
    apply Array.ext'
    apply List.ext_getElem?
    intro i
    by_cases hi : i < ks.length
    · obtain ⟨q, hq, _⟩ := hone i ks[i] (by simp [hi])
      simp [hi, hq, List.getD, List.getElem?_eq_getElem hi]
    · have : cs.size ≤ i := by omega
      simp [hi, this]
  · intro i k hik
    obtain ⟨q, hq, h1, h2⟩ := hone i k hik
    simp only [hq]
    exact ⟨h1, h2⟩
end Go.Proofs.Ytldoimianllcdaa
