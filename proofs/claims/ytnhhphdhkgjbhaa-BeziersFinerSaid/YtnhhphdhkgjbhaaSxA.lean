/- What is proved: numbers and tests as closed expressions: what they denote, bounds of them, and tests that are decided by what is known. No condition. -/
import Derived.WalkKit
import Derived.LoopN
import Derived.Scope
import Derived.Orders
import Derived.Below
set_option linter.unusedSimpArgs false
set_option linter.unusedVariables false
namespace Go.Proofs.Ytnhhphdhkgjbhaa
namespace Sx
open Go Go.RowKit

inductive IOp where
  | add | sub | mul | quo | rem | max | min | fdiv | shl
  deriving DecidableEq
def IOp.den : IOp → Int → Int → Int
  | .add, x, y => x + y
  | .sub, x, y => x - y
  | .mul, x, y => x * y
  | .quo, x, y => x.tdiv y
  | .rem, x, y => x.tmod y
  | .max, x, y => if y > x then y else x
  | .min, x, y => if y < x then y else x
  | .fdiv, x, y => x.fdiv y
  | .shl, x, y => x * 2 ^ y.toNat
def bitDen (o : BinOp) (k : IntKind) (x y : Int) : Int :=
  let a := BitVec.ofInt k.bits x
  let b := BitVec.ofInt k.bits y
  match o with
  | .and => k.wrap (a &&& b).toNat
  | .or => k.wrap (a ||| b).toNat
  | .xor => k.wrap (a ^^^ b).toNat
  | _ => k.wrap (a &&& ~~~b).toNat
mutual
inductive E where
  | lit (n : Int)
  | var (i : Nat)
  | op (o : IOp) (a b : E)
  | wrap (k : IntKind) (a : E)
  | bit (o : BinOp) (k : IntKind) (a b : E)
  | app (g : Nat) (l : EL)
inductive EL where
  | nil
  | cons (e : E) (l : EL)
end
section den
variable (G : Nat → List Int → Int) (ρ : Nat → Int)
mutual
def E.den : E → Int
  | .lit n => n
  | .var i => ρ i
  | .op o a b => o.den (E.den a) (E.den b)
  | .wrap k a => k.wrap (E.den a)
  | .bit o k a b => bitDen o k (E.den a) (E.den b)
  | .app g l => G g (EL.den l)
def EL.den : EL → List Int
  | .nil => []
  | .cons e l => E.den e :: EL.den l
end
end den
mutual
def E.eqb : E → E → Bool
  | .lit n, .lit m => decide (n = m)
  | .var i, .var j => i == j
  | .op o a b, .op p c d => decide (o = p) && E.eqb a c && E.eqb b d
  | .wrap k a, .wrap q b => decide (k = q) && E.eqb a b
  | .bit o k a b, .bit p q c d => decide (o = p) && decide (k = q) && E.eqb a c && E.eqb b d
  | .app g l, .app h r => g == h && EL.eqb l r
  | _, _ => false
def EL.eqb : EL → EL → Bool
  | .nil, .nil => true
  | .cons a l, .cons b r => E.eqb a b && EL.eqb l r
  | _, _ => false
end
mutual
theorem E.eqb_eq : ∀ (a b : E), E.eqb a b = true → a = b
  | .lit n, b, h => by cases b <;> simp [E.eqb] at h; rw [h]
  | .var i, b, h => by cases b <;> simp [E.eqb] at h; rw [h]
  | .op o a c, b, h => by
    cases b <;> simp [E.eqb] at h
    rw [h.1.1, E.eqb_eq _ _ h.1.2, E.eqb_eq _ _ h.2]
  | .wrap k a, b, h => by
    cases b <;> simp [E.eqb] at h
    rw [h.1, E.eqb_eq _ _ h.2]
  | .bit o k a c, b, h => by
    cases b <;> simp [E.eqb] at h
    rw [h.1.1.1, h.1.1.2, E.eqb_eq _ _ h.1.2, E.eqb_eq _ _ h.2]
  | .app g l, b, h => by
    cases b <;> simp [E.eqb] at h
    rw [h.1, EL.eqb_eq _ _ h.2]
theorem EL.eqb_eq : ∀ (a b : EL), EL.eqb a b = true → a = b
  | .nil, b, h => by cases b <;> simp [EL.eqb] at h; rfl
  | .cons a l, b, h => by
    cases b <;> simp [EL.eqb] at h
    rw [E.eqb_eq _ _ h.1, EL.eqb_eq _ _ h.2]
end

/-! tests -/
inductive COp where
  | lt | le | eq | ne
  deriving DecidableEq
def COp.den : COp → Int → Int → Bool
  | .lt, x, y => decide (x < y)
  | .le, x, y => decide (x ≤ y)
  | .eq, x, y => decide (x = y)
  | .ne, x, y => !decide (x = y)
inductive B where
  | lit (b : Bool)
  | cmp (o : COp) (a b : E)
  | and (x y : B)
  | or (x y : B)
section
variable (G : Nat → List Int → Int) (ρ : Nat → Int)
def B.den : B → Bool
  | .lit b => b
  | .cmp o a b => o.den (a.den G ρ) (b.den G ρ)
  | .and x y => B.den x && B.den y
  | .or x y => B.den x || B.den y
end
def B.neg : B → B
  | .lit b => .lit (!b)
  | .cmp .lt a b => .cmp .le b a
  | .cmp .le a b => .cmp .lt b a
  | .cmp .eq a b => .cmp .ne a b
  | .cmp .ne a b => .cmp .eq a b
  | .and x y => .or (B.neg x) (B.neg y)
  | .or x y => .and (B.neg x) (B.neg y)
theorem B.neg_den (G : Nat → List Int → Int) (ρ : Nat → Int) : ∀ b : B, b.neg.den G ρ = !b.den G ρ
  | .lit b => rfl
  | .cmp o a b => by
    cases o <;> simp only [B.neg, B.den, COp.den, Bool.not_not] <;> rw [Bool.eq_iff_iff] <;> simp
  | .and x y => by simp [B.neg, B.den, B.neg_den G ρ x, B.neg_den G ρ y, Bool.not_and]
  | .or x y => by simp [B.neg, B.den, B.neg_den G ρ x, B.neg_den G ρ y, Bool.not_or]

def B.eqb : B → B → Bool
  | .lit a, .lit b => a == b
  | .cmp o a b, .cmp p c d => decide (o = p) && E.eqb a c && E.eqb b d
  | .and x y, .and z u => B.eqb x z && B.eqb y u
  | .or x y, .or z u => B.eqb x z && B.eqb y u
  | _, _ => false
theorem B.eqb_eq : ∀ (a b : B), B.eqb a b = true → a = b
  | .lit n, b, h => by cases b <;> simp [B.eqb] at h; rw [h]
  | .cmp o a c, b, h => by
    cases b <;> simp [B.eqb] at h
    rw [h.1.1, E.eqb_eq _ _ h.1.2, E.eqb_eq _ _ h.2]
  | .and x y, b, h => by
    cases b <;> simp [B.eqb] at h
    rw [B.eqb_eq _ _ h.1, B.eqb_eq _ _ h.2]
  | .or x y, b, h => by
    cases b <;> simp [B.eqb] at h
    rw [B.eqb_eq _ _ h.1, B.eqb_eq _ _ h.2]
/-! what is known -/
abbrev Itv := Option (Int × Int)
structure Ctx where
  G : Nat → List Int → Int
  GI : Nat → List Itv → Itv
  vars : List (Int × Int)
  facts : List B
def Itv.has : Itv → Int → Prop
  | none, _ => True
  | some p, x => p.1 ≤ x ∧ x ≤ p.2
def itvsHave : List Itv → List Int → Prop
  | [], [] => True
  | i :: is, x :: xs => i.has x ∧ itvsHave is xs
  | _, _ => False
structure Ctx.Ok (X : Ctx) (ρ : Nat → Int) : Prop where
  vars : ∀ i p, X.vars[i]? = some p → p.1 ≤ ρ i ∧ ρ i ≤ p.2
  facts : ∀ b, b ∈ X.facts → b.den X.G ρ = true
  gi : ∀ g is xs, itvsHave is xs → (X.GI g is).has (X.G g xs)

def imin (a b : Int) : Int := if a ≤ b then a else b
def imax (a b : Int) : Int := if a ≤ b then b else a
def Itv.op : IOp → (Int × Int) → (Int × Int) → Itv
  | .add, p, q => some (p.1 + q.1, p.2 + q.2)
  | .sub, p, q => some (p.1 - q.2, p.2 - q.1)
  | .mul, p, q => some (imin (imin (p.1 * q.1) (p.1 * q.2)) (imin (p.2 * q.1) (p.2 * q.2)), imax (imax (p.1 * q.1) (p.1 * q.2)) (imax (p.2 * q.1) (p.2 * q.2)))
  | .max, p, q => some (imax p.1 q.1, imax p.2 q.2)
  | .min, p, q => some (imin p.1 q.1, imin p.2 q.2)
  | .quo, p, q => if 0 < q.1 then some (imin p.1 0, imax p.2 0) else none
  | .rem, p, q => if 0 < q.1 then some (if 0 ≤ p.1 then 0 else 1 - q.2, if 0 ≤ p.1 then imin p.2 (q.2 - 1) else q.2 - 1) else none
  | .fdiv, p, q => if 0 < q.1 && decide (q.1 = q.2) then some (p.1 / q.1, p.2 / q.1) else none
  | .shl, p, q => if 0 ≤ p.1 && decide (q.2 ≤ 64) then some (p.1 * 2 ^ q.1.toNat, p.2 * 2 ^ q.2.toNat) else none

theorem mul_lo (x y a b c d : Int) (h1 : a ≤ x) (h2 : x ≤ b) (h3 : c ≤ y) (h4 : y ≤ d) :
    (a * c ≤ x * y ∨ a * d ≤ x * y ∨ b * c ≤ x * y ∨ b * d ≤ x * y) ∧ (x * y ≤ a * c ∨ x * y ≤ a * d ∨ x * y ≤ b * c ∨ x * y ≤ b * d) := by
  rcases Int.le_total 0 y with hy | hy
  · have e1 : a * y ≤ x * y := Int.mul_le_mul_of_nonneg_right h1 hy
    have e2 : x * y ≤ b * y := Int.mul_le_mul_of_nonneg_right h2 hy
    refine ⟨?_, ?_⟩
    · rcases Int.le_total 0 a with ha | ha
      · have := Int.mul_le_mul_of_nonneg_left h3 ha; left; omega
      · have := Int.mul_le_mul_of_nonpos_left ha h4; right; left; omega
    · rcases Int.le_total 0 b with hb | hb
      · have := Int.mul_le_mul_of_nonneg_left h4 hb; right; right; right; omega
      · have := Int.mul_le_mul_of_nonpos_left hb h3; right; right; left; omega
  · have e1 : b * y ≤ x * y := Int.mul_le_mul_of_nonpos_right h2 hy
    have e2 : x * y ≤ a * y := Int.mul_le_mul_of_nonpos_right h1 hy
    refine ⟨?_, ?_⟩
    · rcases Int.le_total 0 b with hb | hb
      · have := Int.mul_le_mul_of_nonneg_left h3 hb; right; right; left; omega
      · have := Int.mul_le_mul_of_nonpos_left hb h4; right; right; right; omega
    · rcases Int.le_total 0 a with ha | ha
      · have := Int.mul_le_mul_of_nonneg_left h4 ha; right; left; omega
      · have := Int.mul_le_mul_of_nonpos_left ha h3; left; omega

theorem tdiv_bd (x y : Int) (hy : 0 < y) : (0 ≤ x → 0 ≤ x.tdiv y ∧ x.tdiv y ≤ x) ∧ (x ≤ 0 → x ≤ x.tdiv y ∧ x.tdiv y ≤ 0) := by
  refine ⟨fun h => ?_, fun h => ?_⟩
  · rw [Int.tdiv_eq_ediv_of_nonneg h]
    exact ⟨Int.ediv_nonneg h (by omega), Int.ediv_le_self _ h⟩
  · have e : x.tdiv y = -((-x).tdiv y) := by rw [Int.neg_tdiv]; omega
    rw [e, Int.tdiv_eq_ediv_of_nonneg (by omega : 0 ≤ -x)]
    have h1 := Int.ediv_nonneg (a := -x) (b := y) (by omega) (by omega)
    have h2 := Int.ediv_le_self (a := -x) y (by omega)
    omega
theorem tmod_bd (x y : Int) (hy : 0 < y) : (0 ≤ x → 0 ≤ x.tmod y ∧ x.tmod y ≤ x ∧ x.tmod y < y) ∧ -y < x.tmod y ∧ x.tmod y < y := by
  refine ⟨fun h => ?_, ?_⟩
  · rw [Int.tmod_eq_emod_of_nonneg h]
    have := Int.emod_nonneg x (show y ≠ 0 by omega)
    have := Int.emod_lt_of_pos x hy
    have e := Int.mul_ediv_add_emod x y
    have := Int.mul_nonneg (show (0:Int) ≤ y by omega) (Int.ediv_nonneg h (show (0:Int) ≤ y by omega))
    omega
  · rcases Int.le_total 0 x with h | h
    · rw [Int.tmod_eq_emod_of_nonneg h]
      have := Int.emod_nonneg x (show y ≠ 0 by omega)
      have := Int.emod_lt_of_pos x hy
      omega
    · have e : x.tmod y = -((-x).tmod y) := by rw [Int.neg_tmod]; omega
      rw [e, Int.tmod_eq_emod_of_nonneg (by omega : 0 ≤ -x)]
      have := Int.emod_nonneg (-x) (show y ≠ 0 by omega)
      have := Int.emod_lt_of_pos (-x) hy
      omega
theorem pow_mono {a b : Nat} (h : a ≤ b) : (2 : Int) ^ a ≤ 2 ^ b := by
  obtain ⟨c, rfl⟩ := Nat.exists_eq_add_of_le h
  rw [Int.pow_add]
  have p0 : (0 : Int) < 2 ^ a := Int.pow_pos (by decide)
  have p1 : (0 : Int) < 2 ^ c := Int.pow_pos (by decide)
  have := Int.mul_le_mul_of_nonneg_left (show (1 : Int) ≤ 2 ^ c by omega) (show (0 : Int) ≤ 2 ^ a by omega)
  omega
theorem Itv.op_has (o : IOp) (p q : Int × Int) (x y : Int) (hx : p.1 ≤ x ∧ x ≤ p.2) (hy : q.1 ≤ y ∧ y ≤ q.2) : (Itv.op o p q).has (o.den x y) := by
  obtain ⟨a, b⟩ := p
  obtain ⟨c, d⟩ := q
  obtain ⟨h1, h2⟩ := hx
  obtain ⟨h3, h4⟩ := hy
  simp only at h1 h2 h3 h4
  cases o <;> simp only [Itv.op, IOp.den]
  case add => simp only [Itv.has]; omega
  case sub => simp only [Itv.has]; omega
  case mul =>
    obtain ⟨m1, m2⟩ := mul_lo x y a b c d h1 h2 h3 h4
    simp only [Itv.has]
    generalize a * c = p1 at *
    generalize a * d = p2 at *
    generalize b * c = p3 at *
    generalize b * d = p4 at *
    generalize x * y = z at *
    unfold imin imax
    refine ⟨?_, ?_⟩ <;> (repeat' split) <;> omega
  case max => simp only [Itv.has]; unfold imax; refine ⟨?_, ?_⟩ <;> (repeat' split) <;> omega
  case min => simp only [Itv.has]; unfold imin; refine ⟨?_, ?_⟩ <;> (repeat' split) <;> omega
  case quo =>
    split
    · rename_i hc
      obtain ⟨t1, t2⟩ := tdiv_bd x y (by omega)
      simp only [Itv.has]
      generalize x.tdiv y = z at *
      unfold imin imax
      rcases Int.le_total 0 x with hx | hx
      · have := t1 hx; refine ⟨?_, ?_⟩ <;> (repeat' split) <;> omega
      · have := t2 hx; refine ⟨?_, ?_⟩ <;> (repeat' split) <;> omega
    · trivial
  case rem =>
    split
    · rename_i hc
      obtain ⟨t1, t2⟩ := tmod_bd x y (by omega)
      simp only [Itv.has]
      generalize x.tmod y = z at *
      unfold imin
      rcases Int.le_total 0 x with hx | hx
      · have := t1 hx; refine ⟨?_, ?_⟩ <;> (repeat' split) <;> omega
      · refine ⟨?_, ?_⟩ <;> (repeat' split) <;> first | omega | (have := t1 (by omega); omega)
    · trivial
  case fdiv =>
    split
    · rename_i hc
      simp only [Bool.and_eq_true, decide_eq_true_eq] at hc
      obtain ⟨hc, hd⟩ := hc
      have hyc : y = c := by omega
      subst hyc
      rw [Int.fdiv_eq_ediv_of_nonneg x (by omega)]
      exact ⟨Int.ediv_le_ediv (by omega) h1, Int.ediv_le_ediv (by omega) h2⟩
    · trivial
  case shl =>
    split
    · rename_i hc
      simp only [Bool.and_eq_true, decide_eq_true_eq] at hc
      have e1 : (2 : Int) ^ c.toNat ≤ 2 ^ y.toNat := pow_mono (by omega)
      have e2 : (2 : Int) ^ y.toNat ≤ 2 ^ d.toNat := pow_mono (by omega)
      have p0 : (0 : Int) < 2 ^ c.toNat := Int.pow_pos (by decide)
      exact ⟨Int.mul_le_mul h1 e1 (by omega) (by omega), Int.mul_le_mul h2 e2 (by omega) (by omega)⟩
    · trivial

theorem wrap_bd (k : IntKind) (n : Int) : k.min ≤ k.wrap n ∧ k.wrap n ≤ k.max := by
  unfold IntKind.min IntKind.max IntKind.wrap
  cases k <;> simp [IntKind.bits, IntKind.signed] <;> (try split) <;> omega
theorem wrap_in (k : IntKind) (n : Int) (h1 : k.min ≤ n) (h2 : n ≤ k.max) : k.wrap n = n := by
  unfold IntKind.min IntKind.max at *
  unfold IntKind.wrap
  cases k <;> simp [IntKind.bits, IntKind.signed] at * <;> (try split) <;> omega
theorem bit_bd (o : BinOp) (k : IntKind) (x y : Int) : k.min ≤ bitDen o k x y ∧ bitDen o k x y ≤ k.max := by
  unfold bitDen
  cases o <;> exact wrap_bd _ _

/-- a fact narrows the bounds of an expression -/
def narrow (e : E) (f : B) (p : Int × Int) : Int × Int :=
  match f with
  | .cmp .le a (.lit n) => if E.eqb a e then (p.1, imin p.2 n) else p
  | .cmp .lt a (.lit n) => if E.eqb a e then (p.1, imin p.2 (n - 1)) else p
  | .cmp .le (.lit n) a => if E.eqb a e then (imax p.1 n, p.2) else p
  | .cmp .lt (.lit n) a => if E.eqb a e then (imax p.1 (n + 1), p.2) else p
  | .cmp .eq a (.lit n) => if E.eqb a e then (imax p.1 n, imin p.2 n) else p
  | .cmp .ne a (.lit n) => if E.eqb a e then (if decide (p.1 = n) then (n + 1, p.2) else if decide (p.2 = n) then (p.1, n - 1) else p) else p
  | _ => p
theorem narrow_has (G : Nat → List Int → Int) (ρ : Nat → Int) (e : E) (f : B) (p : Int × Int) (hf : f.den G ρ = true) (h : p.1 ≤ e.den G ρ ∧ e.den G ρ ≤ p.2) :
    (narrow e f p).1 ≤ e.den G ρ ∧ e.den G ρ ≤ (narrow e f p).2 := by
  obtain ⟨h1, h2⟩ := h
  unfold narrow
  split
  · rename_i a n
    split
    · rename_i he
      have ee := E.eqb_eq _ _ he
      subst ee
      have hf' : a.den G ρ ≤ n := of_decide_eq_true hf
      simp only [imin]
      refine ⟨h1, ?_⟩
      split <;> omega
    · exact ⟨h1, h2⟩
  · rename_i a n
    split
    · rename_i he
      have ee := E.eqb_eq _ _ he
      subst ee
      have hf' : a.den G ρ < n := of_decide_eq_true hf
      simp only [imin]
      refine ⟨h1, ?_⟩
      split <;> omega
    · exact ⟨h1, h2⟩
  · rename_i n a _
    split
    · rename_i he
      have ee := E.eqb_eq _ _ he
      subst ee
      have hf' : n ≤ a.den G ρ := of_decide_eq_true hf
      simp only [imax]
      refine ⟨?_, h2⟩
      split <;> omega
    · exact ⟨h1, h2⟩
  · rename_i n a _
    split
    · rename_i he
      have ee := E.eqb_eq _ _ he
      subst ee
      have hf' : n < a.den G ρ := of_decide_eq_true hf
      simp only [imax]
      refine ⟨?_, h2⟩
      split <;> omega
    · exact ⟨h1, h2⟩
  · rename_i a n
    split
    · rename_i he
      have ee := E.eqb_eq _ _ he
      subst ee
      have hf' : a.den G ρ = n := of_decide_eq_true hf
      simp only [imin, imax]
      refine ⟨?_, ?_⟩ <;> split <;> omega
    · exact ⟨h1, h2⟩
  · rename_i a n
    split
    · rename_i he
      have ee := E.eqb_eq _ _ he
      subst ee
      have hf' : ¬ a.den G ρ = n := by
        have hf2 : (!decide (a.den G ρ = n)) = true := hf
        simpa using hf2
      split
      · rename_i hp
        simp only [decide_eq_true_eq] at hp
        refine ⟨?_, h2⟩
        show n + 1 ≤ _
        omega
      · split
        · rename_i hp
          simp only [decide_eq_true_eq] at hp
          refine ⟨h1, ?_⟩
          show _ ≤ n - 1
          omega
        · exact ⟨h1, h2⟩
    · exact ⟨h1, h2⟩
  · exact ⟨h1, h2⟩
def narrowAll (e : E) : List B → Int × Int → Int × Int
  | [], p => p
  | f :: fs, p => narrow e f (narrowAll e fs p)
theorem narrowAll_has (G : Nat → List Int → Int) (ρ : Nat → Int) (e : E) : ∀ (fs : List B) (p : Int × Int), (∀ b, b ∈ fs → b.den G ρ = true) → p.1 ≤ e.den G ρ ∧ e.den G ρ ≤ p.2 →
    (narrowAll e fs p).1 ≤ e.den G ρ ∧ e.den G ρ ≤ (narrowAll e fs p).2
  | [], _, _, h => h
  | f :: fs, p, hf, h => narrow_has G ρ e f _ (hf f (by simp)) (narrowAll_has G ρ e fs p (fun b hb => hf b (by simp [hb])) h)
def hitsVar (i : Nat) : B → Bool
  | .cmp _ (.var j) (.lit _) => i == j
  | .cmp _ (.lit _) (.var j) => i == j
  | _ => false
def hitsApp (g : Nat) : B → Bool
  | .cmp _ (.app h _) (.lit _) => g == h
  | .cmp _ (.lit _) (.app h _) => g == h
  | _ => false
def hitsOp (o : IOp) : B → Bool
  | .cmp _ (.op p _ _) (.lit _) => decide (o = p)
  | .cmp _ (.lit _) (.op p _ _) => decide (o = p)
  | _ => false
def Ctx.hits (X : Ctx) : E → List B
  | .var i => X.facts.filter (hitsVar i)
  | .app g _ => X.facts.filter (hitsApp g)
  | .op o _ _ => X.facts.filter (hitsOp o)
  | _ => []
theorem Ctx.hits_mem {X : Ctx} {e : E} {b : B} (h : b ∈ X.hits e) : b ∈ X.facts := by
  unfold Ctx.hits at h
  split at h
  · exact (List.mem_filter.1 h).1
  · exact (List.mem_filter.1 h).1
  · exact (List.mem_filter.1 h).1
  · cases h
def Ctx.narrowed (X : Ctx) (e : E) : Itv → Itv
  | none => none
  | some p => some (narrowAll e (X.hits e) (narrowAll e (X.hits e) p))
mutual
def E.itv (X : Ctx) : E → Itv
  | .lit n => some (n, n)
  | .var i => X.narrowed (.var i) X.vars[i]?
  | .op o a b =>
    match E.itv X a, E.itv X b with
    | some p, some q => X.narrowed (.op o a b) (Itv.op o p q)
    | _, _ => none
  | .wrap k _ => some (k.min, k.max)
  | .bit _ k _ _ => some (k.min, k.max)
  | .app g l => X.narrowed (.app g l) (X.GI g (EL.itv X l))
def EL.itv (X : Ctx) : EL → List Itv
  | .nil => []
  | .cons e l => E.itv X e :: EL.itv X l
end
theorem Ctx.narrowed_has {X : Ctx} {ρ : Nat → Int} (hX : X.Ok ρ) (e : E) (i : Itv) (h : i.has (e.den X.G ρ)) : (X.narrowed e i).has (e.den X.G ρ) := by
  cases i with
  | none => trivial
  | some p => exact narrowAll_has X.G ρ e (X.hits e) _ (fun b hb => hX.facts b (Ctx.hits_mem hb)) (narrowAll_has X.G ρ e (X.hits e) p (fun b hb => hX.facts b (Ctx.hits_mem hb)) h)
mutual
theorem E.itv_has {X : Ctx} {ρ : Nat → Int} (hX : X.Ok ρ) : ∀ e : E, (E.itv X e).has (e.den X.G ρ)
  | .lit n => by simp [E.itv, Itv.has, E.den]
  | .var i => by
    unfold E.itv
    refine Ctx.narrowed_has hX _ _ ?_
    cases h : X.vars[i]? with
    | none => trivial
    | some p => exact hX.vars i p h
  | .op o a b => by
    have ha := E.itv_has hX a
    have hb := E.itv_has hX b
    unfold E.itv
    split
    · rename_i p q hp hq
      rw [hp] at ha
      rw [hq] at hb
      exact Ctx.narrowed_has hX _ _ (Itv.op_has o p q _ _ ha hb)
    · trivial
  | .wrap k a => wrap_bd _ _
  | .bit o k a b => bit_bd _ _ _ _
  | .app g l => by
    unfold E.itv
    exact Ctx.narrowed_has hX _ _ (hX.gi g _ _ (EL.itv_has hX l))
theorem EL.itv_has {X : Ctx} {ρ : Nat → Int} (hX : X.Ok ρ) : ∀ l : EL, itvsHave (EL.itv X l) (l.den X.G ρ)
  | .nil => trivial
  | .cons e l => ⟨E.itv_has hX e, EL.itv_has hX l⟩
end
/-- the one value that an expression can have -/
def E.const? (X : Ctx) (e : E) : Option Int :=
  match e with
  | .lit n => some n
  | e => match E.itv X e with
    | some (a, b) => if decide (a = b) then some a else none
    | none => none
theorem E.const_eq {X : Ctx} {ρ : Nat → Int} (hX : X.Ok ρ) {e : E} {n : Int} (h : e.const? X = some n) : e.den X.G ρ = n := by
  have hi := E.itv_has hX e
  unfold E.const? at h
  split at h
  · cases h; rfl
  · split at h
    · rename_i a b he
      rw [he] at hi
      split at h
      · rename_i hab
        cases h
        simp only [decide_eq_true_eq] at hab
        simp only [Itv.has] at hi
        omega
      · cases h
    · cases h
/-! what two expressions can be to one another: below, the same, above -/
structure Ord3 where
  lt : Bool
  eq : Bool
  gt : Bool
def Ord3.has (o : Ord3) (x y : Int) : Prop := (x < y → o.lt = true) ∧ (x = y → o.eq = true) ∧ (y < x → o.gt = true)
def COp.ord : COp → Ord3
  | .lt => ⟨true, false, false⟩
  | .le => ⟨true, true, false⟩
  | .eq => ⟨false, true, false⟩
  | .ne => ⟨true, false, true⟩
def Ord3.flip (o : Ord3) : Ord3 := ⟨o.gt, o.eq, o.lt⟩
def Ord3.meet (o p : Ord3) : Ord3 := ⟨o.lt && p.lt, o.eq && p.eq, o.gt && p.gt⟩
theorem Ord3.meet_has {o p : Ord3} {x y : Int} (h : o.has x y) (g : p.has x y) : (o.meet p).has x y := by
  unfold Ord3.has Ord3.meet at *
  simp only [Bool.and_eq_true]
  exact ⟨fun e => ⟨h.1 e, g.1 e⟩, fun e => ⟨h.2.1 e, g.2.1 e⟩, fun e => ⟨h.2.2 e, g.2.2 e⟩⟩
theorem COp.ord_has {o : COp} {x y : Int} (h : o.den x y = true) : o.ord.has x y := by
  cases o <;> simp only [COp.den, decide_eq_true_eq, Bool.not_eq_true', decide_eq_false_iff_not] at h <;> simp only [COp.ord, Ord3.has] <;> simp <;> omega
theorem Ord3.flip_has {o : Ord3} {x y : Int} (h : o.has x y) : o.flip.has y x := ⟨h.2.2, fun e => h.2.1 e.symm, h.1⟩
def ordFacts (a b : E) : List B → Ord3 → Ord3
  | [], o => o
  | .cmp c x y :: fs, o =>
    if E.eqb x a && E.eqb y b then ordFacts a b fs (o.meet c.ord)
    else if E.eqb x b && E.eqb y a then ordFacts a b fs (o.meet c.ord.flip)
    else ordFacts a b fs o
  | _ :: fs, o => ordFacts a b fs o
theorem ordFacts_has (G : Nat → List Int → Int) (ρ : Nat → Int) (a b : E) : ∀ (fs : List B) (o : Ord3), (∀ f, f ∈ fs → f.den G ρ = true) → o.has (a.den G ρ) (b.den G ρ) → (ordFacts a b fs o).has (a.den G ρ) (b.den G ρ)
  | [], _, _, h => h
  | .lit _ :: fs, o, hf, h => ordFacts_has G ρ a b fs o (fun f hm => hf f (by simp [hm])) h
  | .and _ _ :: fs, o, hf, h => ordFacts_has G ρ a b fs o (fun f hm => hf f (by simp [hm])) h
  | .or _ _ :: fs, o, hf, h => ordFacts_has G ρ a b fs o (fun f hm => hf f (by simp [hm])) h
  | .cmp c x y :: fs, o, hf, h => by
    have hc := hf (.cmp c x y) (by simp)
    simp only [B.den] at hc
    unfold ordFacts
    split
    · rename_i he
      simp only [Bool.and_eq_true] at he
      rw [E.eqb_eq _ _ he.1, E.eqb_eq _ _ he.2] at hc
      exact ordFacts_has G ρ a b fs _ (fun f hm => hf f (by simp [hm])) (Ord3.meet_has h (COp.ord_has hc))
    · split
      · rename_i he
        simp only [Bool.and_eq_true] at he
        rw [E.eqb_eq _ _ he.1, E.eqb_eq _ _ he.2] at hc
        exact ordFacts_has G ρ a b fs _ (fun f hm => hf f (by simp [hm])) (Ord3.meet_has h (Ord3.flip_has (COp.ord_has hc)))
      · exact ordFacts_has G ρ a b fs o (fun f hm => hf f (by simp [hm])) h
def ordItv : Itv → Itv → Ord3
  | some p, some q => ⟨decide (p.1 < q.2), decide (p.1 ≤ q.2) && decide (q.1 ≤ p.2), decide (q.1 < p.2)⟩
  | _, _ => ⟨true, true, true⟩
theorem ordItv_has {i j : Itv} {x y : Int} (h : i.has x) (g : j.has y) : (ordItv i j).has x y := by
  cases i <;> cases j <;> simp only [ordItv, Ord3.has, Itv.has] at * <;> simp <;> omega
def COp.dec (c : COp) (o : Ord3) : Option Bool :=
  let s := c.ord
  if (!o.lt || s.lt) && (!o.eq || s.eq) && (!o.gt || s.gt) then some true
  else if (!o.lt || !s.lt) && (!o.eq || !s.eq) && (!o.gt || !s.gt) then some false
  else none
theorem COp.dec_eq {c : COp} {o : Ord3} {x y : Int} (h : o.has x y) {r : Bool} (hr : c.dec o = some r) : c.den x y = r := by
  obtain ⟨l, e, g⟩ := o
  unfold Ord3.has at h
  simp only at h
  unfold COp.dec at hr
  rcases Int.lt_trichotomy x y with t | t | t
  · have h1 := h.1 t
    subst h1
    cases c <;> simp [COp.ord, COp.den] at hr ⊢ <;> (try (split at hr)) <;> simp_all <;> omega
  · have h1 := h.2.1 t
    subst h1
    cases c <;> simp [COp.ord, COp.den] at hr ⊢ <;> (try (split at hr)) <;> simp_all
  · have h1 := h.2.2 t
    subst h1
    cases c <;> simp [COp.ord, COp.den] at hr ⊢ <;> (try (split at hr)) <;> simp_all <;> omega
/-- is a test known as a whole? -/
def Ctx.whole (X : Ctx) (b : B) : Option Bool :=
  if X.facts.any (fun f => B.eqb f b) then some true else if X.facts.any (fun f => B.eqb f b.neg) then some false else none
theorem Ctx.whole_eq {X : Ctx} {ρ : Nat → Int} (hX : X.Ok ρ) {b : B} {r : Bool} (h : X.whole b = some r) : b.den X.G ρ = r := by
  unfold Ctx.whole at h
  split at h
  · rename_i g
    cases h
    obtain ⟨f, hf, e⟩ := List.any_eq_true.1 g
    rw [← B.eqb_eq _ _ e]; exact hX.facts f hf
  · split at h
    · rename_i g
      cases h
      obtain ⟨f, hf, e⟩ := List.any_eq_true.1 g
      have := hX.facts f hf
      rw [B.eqb_eq _ _ e, B.neg_den] at this
      simpa using this
    · cases h
def B.dec (X : Ctx) : B → Option Bool
  | .lit b => some b
  | .cmp o a b => if E.eqb a b then o.dec ⟨false, true, false⟩ else o.dec (ordFacts a b X.facts (ordItv (a.itv X) (b.itv X)))
  | .and x y =>
    match B.dec X x, B.dec X y with
    | some false, _ => some false
    | _, some false => some false
    | some true, some true => some true
    | _, _ => X.whole (.and x y)
  | .or x y =>
    match B.dec X x, B.dec X y with
    | some true, _ => some true
    | _, some true => some true
    | some false, some false => some false
    | _, _ => X.whole (.or x y)
theorem B.dec_eq {X : Ctx} {ρ : Nat → Int} (hX : X.Ok ρ) : ∀ (b : B) {r : Bool}, b.dec X = some r → b.den X.G ρ = r
  | .lit b, r, h => by simpa [B.dec, B.den] using h
  | .cmp o a b, r, h => by
    unfold B.dec at h
    split at h
    · rename_i he
      rw [E.eqb_eq _ _ he]
      exact COp.dec_eq (o := ⟨false, true, false⟩) ⟨fun e => by omega, fun _ => rfl, fun e => by omega⟩ h
    · exact COp.dec_eq (ordFacts_has X.G ρ a b X.facts _ hX.facts (ordItv_has (E.itv_has hX a) (E.itv_has hX b))) h
  | .and x y, r, h => by
    have hx := @B.dec_eq X ρ hX x
    have hy := @B.dec_eq X ρ hX y
    unfold B.dec at h
    split at h
    · simp_all [B.den]
    · simp_all [B.den]
    · simp_all [B.den]
    · exact Ctx.whole_eq hX h
  | .or x y, r, h => by
    have hx := @B.dec_eq X ρ hX x
    have hy := @B.dec_eq X ρ hX y
    unfold B.dec at h
    split at h
    · simp_all [B.den]
    · simp_all [B.den]
    · simp_all [B.den]
    · exact Ctx.whole_eq hX h
/-- the first test that is not decided -/
def B.atom (X : Ctx) : B → B
  | .and x y => match B.dec X x with | none => B.atom X x | some _ => B.atom X y
  | .or x y => match B.dec X x with | none => B.atom X x | some _ => B.atom X y
  | b => b
/-! smart ways to make expressions -/
def E.mkOp (o : IOp) (a b : E) : E :=
  match a, b with
  | .lit x, .lit y => .lit (o.den x y)
  | a, .lit y => if decide (y = 0) && (decide (o = .add) || decide (o = .sub)) then a else if decide (y = 1) && decide (o = .mul) then a else if decide (y = 0) && decide (o = .mul) then .lit 0 else .op o a (.lit y)
  | .lit x, b => if decide (x = 0) && decide (o = .add) then b else if decide (x = 1) && decide (o = .mul) then b else if decide (x = 0) && decide (o = .mul) then .lit 0 else .op o (.lit x) b
  | a, b => .op o a b
theorem E.mkOp_den (G : Nat → List Int → Int) (ρ : Nat → Int) (o : IOp) (a b : E) : (E.mkOp o a b).den G ρ = o.den (a.den G ρ) (b.den G ρ) := by
  unfold E.mkOp
  split
  · rfl
  · split
    · rename_i h
      simp only [Bool.and_eq_true, Bool.or_eq_true, decide_eq_true_eq] at h
      obtain ⟨rfl, rfl | rfl⟩ := h <;> simp [IOp.den, E.den]
    · split
      · rename_i h
        simp only [Bool.and_eq_true, decide_eq_true_eq] at h
        obtain ⟨rfl, rfl⟩ := h
        simp [IOp.den, E.den]
      · split
        · rename_i h
          simp only [Bool.and_eq_true, decide_eq_true_eq] at h
          obtain ⟨rfl, rfl⟩ := h
          simp [IOp.den, E.den]
        · rfl
  · split
    · rename_i h
      simp only [Bool.and_eq_true, decide_eq_true_eq] at h
      obtain ⟨rfl, rfl⟩ := h
      simp [IOp.den, E.den]
    · split
      · rename_i h
        simp only [Bool.and_eq_true, decide_eq_true_eq] at h
        obtain ⟨rfl, rfl⟩ := h
        simp [IOp.den, E.den]
      · split
        · rename_i h
          simp only [Bool.and_eq_true, decide_eq_true_eq] at h
          obtain ⟨rfl, rfl⟩ := h
          simp [IOp.den, E.den]
        · rfl
  · rfl
/-- is an expression within a kind's bounds? -/
def E.fits (X : Ctx) (k : IntKind) (e : E) : Bool :=
  match e.itv X with
  | some p => decide (k.min ≤ p.1) && decide (p.2 ≤ k.max)
  | none => false
theorem E.fits_in {X : Ctx} {ρ : Nat → Int} (hX : X.Ok ρ) {k : IntKind} {e : E} (h : e.fits X k = true) : k.min ≤ e.den X.G ρ ∧ e.den X.G ρ ≤ k.max := by
  have hi := E.itv_has hX e
  unfold E.fits at h
  split at h
  · rename_i p hp
    rw [hp] at hi
    simp only [Bool.and_eq_true, decide_eq_true_eq] at h
    simp only [Itv.has] at hi
    omega
  · cases h
def E.mkWrap (X : Ctx) (k : IntKind) (e : E) : E :=
  match e with
  | .lit n => .lit (k.wrap n)
  | e => if e.fits X k then e else .wrap k e
theorem E.mkWrap_den {X : Ctx} {ρ : Nat → Int} (hX : X.Ok ρ) (k : IntKind) (e : E) : (e.mkWrap X k).den X.G ρ = k.wrap (e.den X.G ρ) := by
  unfold E.mkWrap
  split
  · rfl
  · split
    · rename_i h
      have := E.fits_in hX h
      exact (wrap_in k _ this.1 this.2).symm
    · rfl
end Sx
end Go.Proofs.Ytnhhphdhkgjbhaa
