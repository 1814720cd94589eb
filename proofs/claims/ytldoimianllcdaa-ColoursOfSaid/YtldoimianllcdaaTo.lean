/- What is proved: a colour's numbers in another space, case by case. No condition but those that are named. -/
import Derived.Test.YtldoimianllcdaaGd
set_option linter.unusedSimpArgs false
set_option linter.unusedVariables false
namespace Go.Proofs.Ytldoimianllcdaa
open Go Go.RowKit Sx Wi
theorem lu_e (a b c : Int) : (max (-2147483648) (min 2147483647 ((2 * (30 * (min (max a 0) 65536) + 59 * (min (max b 0) 65536) + 11 * (min (max c 0) 65536)) + 100) / 200))) = lu a b c := by
  have := lu_bd a b c
  unfold lu hd at *
  omega
theorem to_00 (a b c d : Int) : Value.agg #[Value.int IntKind.i32 ((min (max a 0) 65536)), Value.int IntKind.i32 (0), Value.int IntKind.i32 (0), Value.int IntKind.i32 (0)] = Value.agg #[Value.int IntKind.i32 (toF 0 0 0 a b c d), Value.int IntKind.i32 (toF 1 0 0 a b c d), Value.int IntKind.i32 (toF 2 0 0 a b c d), Value.int IntKind.i32 (toF 3 0 0 a b c d)] := by
  rfl
theorem to_01 (a b c d : Int) : Value.agg #[Value.int IntKind.i32 ((min (max a 0) 65536)), Value.int IntKind.i32 ((min (max a 0) 65536)), Value.int IntKind.i32 ((min (max a 0) 65536)), Value.int IntKind.i32 (0)] = Value.agg #[Value.int IntKind.i32 (toF 0 0 1 a b c d), Value.int IntKind.i32 (toF 1 0 1 a b c d), Value.int IntKind.i32 (toF 2 0 1 a b c d), Value.int IntKind.i32 (toF 3 0 1 a b c d)] := by
  rfl
theorem to_02 (a b c d : Int) : Value.agg #[Value.int IntKind.i32 (0), Value.int IntKind.i32 (0), Value.int IntKind.i32 (0), Value.int IntKind.i32 ((65536 - min 65536 (min (max a 0) 65536)))] = Value.agg #[Value.int IntKind.i32 (toF 0 0 2 a b c d), Value.int IntKind.i32 (toF 1 0 2 a b c d), Value.int IntKind.i32 (toF 2 0 2 a b c d), Value.int IntKind.i32 (toF 3 0 2 a b c d)] := by
  rfl
theorem to_11 (a b c d : Int) : Value.agg #[Value.int IntKind.i32 ((min (max a 0) 65536)), Value.int IntKind.i32 ((min (max b 0) 65536)), Value.int IntKind.i32 ((min (max c 0) 65536)), Value.int IntKind.i32 (0)] = Value.agg #[Value.int IntKind.i32 (toF 0 1 1 a b c d), Value.int IntKind.i32 (toF 1 1 1 a b c d), Value.int IntKind.i32 (toF 2 1 1 a b c d), Value.int IntKind.i32 (toF 3 1 1 a b c d)] := by
  rfl
theorem to_10 (a b c d : Int) : Value.agg #[Value.int IntKind.i32 ((max (-2147483648) (min 2147483647 ((2 * (30 * (min (max a 0) 65536) + 59 * (min (max b 0) 65536) + 11 * (min (max c 0) 65536)) + 100) / 200)))), Value.int IntKind.i32 (0), Value.int IntKind.i32 (0), Value.int IntKind.i32 (0)] = Value.agg #[Value.int IntKind.i32 (toF 0 1 0 a b c d), Value.int IntKind.i32 (toF 1 1 0 a b c d), Value.int IntKind.i32 (toF 2 1 0 a b c d), Value.int IntKind.i32 (toF 3 1 0 a b c d)] := by
  rw [lu_e]; rfl
theorem to_12 (a b c d : Int) : Value.agg #[Value.int IntKind.i32 ((max (max (min (max a 0) 65536) (min (max b 0) 65536)) (min (max c 0) 65536)) - (min (max a 0) 65536)), Value.int IntKind.i32 ((max (max (min (max a 0) 65536) (min (max b 0) 65536)) (min (max c 0) 65536)) - (min (max b 0) 65536)), Value.int IntKind.i32 ((max (max (min (max a 0) 65536) (min (max b 0) 65536)) (min (max c 0) 65536)) - (min (max c 0) 65536)), Value.int IntKind.i32 ((65536 - min 65536 (max (max (min (max a 0) 65536) (min (max b 0) 65536)) (min (max c 0) 65536))))] = Value.agg #[Value.int IntKind.i32 (toF 0 1 2 a b c d), Value.int IntKind.i32 (toF 1 1 2 a b c d), Value.int IntKind.i32 (toF 2 1 2 a b c d), Value.int IntKind.i32 (toF 3 1 2 a b c d)] := by
  rfl
theorem to_22 (a b c d : Int) : Value.agg #[Value.int IntKind.i32 ((min (max a 0) 65536)), Value.int IntKind.i32 ((min (max b 0) 65536)), Value.int IntKind.i32 ((min (max c 0) 65536)), Value.int IntKind.i32 ((min (max d 0) 65536))] = Value.agg #[Value.int IntKind.i32 (toF 0 2 2 a b c d), Value.int IntKind.i32 (toF 1 2 2 a b c d), Value.int IntKind.i32 (toF 2 2 2 a b c d), Value.int IntKind.i32 (toF 3 2 2 a b c d)] := by
  rfl
theorem to_20 (a b c d : Int) : Value.agg #[Value.int IntKind.i32 ((65536 - min 65536 ((max (-2147483648) (min 2147483647 ((2 * (30 * (min (max a 0) 65536) + 59 * (min (max b 0) 65536) + 11 * (min (max c 0) 65536)) + 100) / 200))) + (min (max d 0) 65536)))), Value.int IntKind.i32 (0), Value.int IntKind.i32 (0), Value.int IntKind.i32 (0)] = Value.agg #[Value.int IntKind.i32 (toF 0 2 0 a b c d), Value.int IntKind.i32 (toF 1 2 0 a b c d), Value.int IntKind.i32 (toF 2 2 0 a b c d), Value.int IntKind.i32 (toF 3 2 0 a b c d)] := by
  rw [lu_e]; rfl
theorem to_21 (a b c d : Int) : Value.agg #[Value.int IntKind.i32 ((65536 - min 65536 ((min (max a 0) 65536) + (min (max d 0) 65536)))), Value.int IntKind.i32 ((65536 - min 65536 ((min (max b 0) 65536) + (min (max d 0) 65536)))), Value.int IntKind.i32 ((65536 - min 65536 ((min (max c 0) 65536) + (min (max d 0) 65536)))), Value.int IntKind.i32 (0)] = Value.agg #[Value.int IntKind.i32 (toF 0 2 1 a b c d), Value.int IntKind.i32 (toF 1 2 1 a b c d), Value.int IntKind.i32 (toF 2 2 1 a b c d), Value.int IntKind.i32 (toF 3 2 1 a b c d)] := by
  rfl
theorem to_no (f t a b c d : Int) (h : ¬ ((f = 0 ∨ f = 1 ∨ f = 2) ∧ (t = 0 ∨ t = 1 ∨ t = 2))) : Value.agg #[Value.int IntKind.i32 (0), Value.int IntKind.i32 (0), Value.int IntKind.i32 (0), Value.int IntKind.i32 (0)] = Value.agg #[Value.int IntKind.i32 (toF 0 f t a b c d), Value.int IntKind.i32 (toF 1 f t a b c d), Value.int IntKind.i32 (toF 2 f t a b c d), Value.int IntKind.i32 (toF 3 f t a b c d)] := by
  have e : ∀ j, toF j f t a b c d = 0 := by
    intro j
    unfold toF
    rw [if_neg (by omega), if_neg (by omega), if_neg (by omega), if_neg (by omega), if_neg (by omega), if_neg (by omega), if_neg (by omega), if_neg (by omega), if_neg (by omega)]
  simp only [e]
end Go.Proofs.Ytldoimianllcdaa
