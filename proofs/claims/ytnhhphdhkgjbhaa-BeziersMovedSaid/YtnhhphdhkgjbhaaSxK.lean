/- What is proved: contracts of functions, put together; the numbers that are handed in. No condition. -/
import Derived.Test.YtnhhphdhkgjbhaaSxJ
set_option linter.unusedSimpArgs false
set_option linter.unusedVariables false
namespace Go.Proofs.Ytnhhphdhkgjbhaa
namespace Sx
open Go Go.RowKit

def rho (xs : List Int) : Nat → Int := fun i => xs.getD i 0
def within : List (Int × Int) → List Int → Prop
  | [], [] => True
  | p :: l, x :: xs => (p.1 ≤ x ∧ x ≤ p.2) ∧ within l xs
  | _, _ => False
theorem within_get : ∀ {l : List (Int × Int)} {xs : List Int}, within l xs → ∀ i q, l[i]? = some q → q.1 ≤ rho xs i ∧ rho xs i ≤ q.2
  | [], [], _, i, q, h => by simp at h
  | [], _ :: _, h, _, _, _ => by simp [within] at h
  | _ :: _, [], h, _, _, _ => by simp [within] at h
  | p :: l, x :: xs, h, 0, q, hq => by
    simp at hq
    subst hq
    simpa [rho] using h.1
  | p :: l, x :: xs, h, i + 1, q, hq => by
    have := within_get h.2 i q (by simpa using hq)
    simpa [rho] using this
theorem iop_add (x y : Int) : IOp.den .add x y = x + y := rfl
theorem iop_sub (x y : Int) : IOp.den .sub x y = x - y := rfl
theorem iop_mul (x y : Int) : IOp.den .mul x y = x * y := rfl
theorem iop_quo (x y : Int) : IOp.den .quo x y = x.tdiv y := rfl
theorem iop_rem (x y : Int) : IOp.den .rem x y = x.tmod y := rfl
theorem iop_fdiv (x y : Int) : IOp.den .fdiv x y = x.fdiv y := rfl
theorem iop_shl (x y : Int) : IOp.den .shl x y = x * 2 ^ y.toNat := rfl
theorem iop_max (x y : Int) : IOp.den .max x y = max x y := by simp only [IOp.den]; split <;> omega
theorem iop_min (x y : Int) : IOp.den .min x y = min x y := by simp only [IOp.den]; split <;> omega
theorem cop_lt (x y : Int) : COp.den .lt x y = decide (x < y) := rfl
theorem cop_le (x y : Int) : COp.den .le x y = decide (x ≤ y) := rfl
theorem cop_eq (x y : Int) : COp.den .eq x y = decide (x = y) := rfl
theorem cop_ne (x y : Int) : COp.den .ne x y = !decide (x = y) := rfl
def E.lies (e : E) (X : Ctx) (lo hi : Int) : Bool :=
  match e.itv X with
  | some p => decide (lo ≤ p.1) && decide (p.2 ≤ hi)
  | none => false
theorem E.lies_in {X : Ctx} {ρ : Nat → Int} (hX : X.Ok ρ) {lo hi : Int} {e : E} (h : e.lies X lo hi = true) : lo ≤ e.den X.G ρ ∧ e.den X.G ρ ≤ hi := by
  have hi := E.itv_has hX e
  unfold E.lies at h
  split at h
  · rename_i p hp
    rw [hp] at hi
    simp only [Bool.and_eq_true, decide_eq_true_eq] at h
    simp only [Itv.has] at hi
    omega
  · cases h
abbrev Entry := Ctx → List SV → Res SV
def EntryOk (P : Program) (X : Ctx) (ρ : Nat → Int) (gb : Globs) (f : FuncId) (g : Entry) : Prop :=
  ∀ args s, g X args = .ok s → ∀ α w vals, SV.RL X.G ρ α args vals → WOk gb w →
    Known P f ∧ Calls P f vals.toArray w (fun e w' => ∃ v, e = .returned v ∧ SV.R X.G ρ α s v ∧ Below w.heap.size w w')
def ctNil : Contracts := fun _ => none
def ctCons (F : FuncId) (g : Entry) (ct : Contracts) : Contracts := fun f => if f = F then some g else ct f
theorem ctNil_ok {P : Program} {X : Ctx} {ρ : Nat → Int} {gb : Globs} : CtOk P X ρ gb ctNil := fun f g h => by simp [ctNil] at h
theorem ctCons_ok {P : Program} {X : Ctx} {ρ : Nat → Int} {gb : Globs} {F : FuncId} {g : Entry} {ct : Contracts} (h : EntryOk P X ρ gb F g) (hc : CtOk P X ρ gb ct) : CtOk P X ρ gb (ctCons F g ct) := by
  intro f g' hf
  unfold ctCons at hf
  split at hf
  · rename_i e
    subst e
    cases hf
    exact h
  · exact hc f g' hf
/-- an entry, of a contract over numbers -/
theorem entry_calls {P : Program} {X : Ctx} {ρ : Nat → Int} {f : FuncId} {α : AMap} {args : List SV} {s : SV} {vals : List Value} {w : World} (hv : SV.RL X.G ρ α args vals) (ha : SV.ubdL 0 args = true) (hs : s.ubd 0 = true)
    (h : Known P f ∧ Calls P f (SV.denL X.G ρ args).toArray w (fun e w' => e = .returned (s.den X.G ρ) ∧ Below w.heap.size w w')) :
    Known P f ∧ Calls P f vals.toArray w (fun e w' => ∃ v, e = .returned v ∧ SV.R X.G ρ α s v ∧ Below w.heap.size w w') := by
  have e := SV.RL_den args vals ha hv
  subst e
  refine ⟨h.1, h.2.mono ?_⟩
  rintro e w' ⟨rfl, hb⟩
  exact ⟨_, rfl, SV.den_R s hs, hb⟩
theorem gbApart_nil : gbApart [] := fun i j p q h => by simp at h
theorem gbApart_one (q : Nat × List SV × TypeId) : gbApart [q] := by
  intro i j p r hi hj _
  match i, j, hi, hj with
  | 0, 0, _, _ => rfl
  | 0, j + 1, _, hj => simp at hj
  | i + 1, _, hi, _ => simp at hi
theorem wok_nil (w : World) : WOk [] w := fun q h => by cases h
theorem calls_eq {P : Program} {f : FuncId} {args : Array Value} {w : World} {V : Value} (h : Known P f ∧ Calls P f args w (fun e w' => ∃ v, e = .returned v ∧ v = V ∧ Below w.heap.size w w')) :
    Known P f ∧ Calls P f args w (fun e w' => e = .returned V ∧ Below w.heap.size w w') := by
  refine ⟨h.1, h.2.mono ?_⟩
  rintro e w' ⟨v, rfl, rfl, hb⟩
  exact ⟨rfl, hb⟩
end Sx
end Go.Proofs.Ytnhhphdhkgjbhaa
