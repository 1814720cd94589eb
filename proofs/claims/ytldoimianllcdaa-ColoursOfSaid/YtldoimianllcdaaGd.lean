/- What is proved: the functions that stand in the contracts of this seat, and their bounds. No condition. -/
import Derived.Test.YtldoimianllcdaaNg
import Derived.Test.YtldoimianllcdaaProg
set_option linter.unusedSimpArgs false
set_option linter.unusedVariables false
namespace Go.Proofs.Ytldoimianllcdaa
open Go Go.RowKit Sx Wi
/-- held within 0 and 1 -/
def hd (x : Int) : Int := min (max x 0) 65536
/-- part of one, weighed -/
def lu (a b c : Int) : Int := (2 * (30 * hd a + 59 * hd b + 11 * hd c) + 100) / 200
def ls (x : Int) : Int := 65536 - min 65536 x
def mx3 (a b c : Int) : Int := max (max (hd a) (hd b)) (hd c)
/-- the j-th number of a colour that is told in another space -/
def toF (j : Nat) (f t a b c d : Int) : Int :=
  if f = 0 ∧ t = 0 then (if j = 0 then hd a else 0)
  else if f = 0 ∧ t = 1 then (if j = 3 then 0 else hd a)
  else if f = 0 ∧ t = 2 then (if j = 3 then ls (hd a) else 0)
  else if f = 1 ∧ t = 1 then (if j = 0 then hd a else if j = 1 then hd b else if j = 2 then hd c else 0)
  else if f = 1 ∧ t = 0 then (if j = 0 then lu a b c else 0)
  else if f = 1 ∧ t = 2 then (if j = 0 then mx3 a b c - hd a else if j = 1 then mx3 a b c - hd b else if j = 2 then mx3 a b c - hd c else ls (mx3 a b c))
  else if f = 2 ∧ t = 2 then (if j = 0 then hd a else if j = 1 then hd b else if j = 2 then hd c else hd d)
  else if f = 2 ∧ t = 0 then (if j = 0 then ls (lu a b c + hd d) else 0)
  else if f = 2 ∧ t = 1 then (if j = 0 then ls (hd a + hd d) else if j = 1 then ls (hd b + hd d) else if j = 2 then ls (hd c + hd d) else 0)
  else 0
theorem hd_bd (x : Int) : 0 ≤ hd x ∧ hd x ≤ 65536 := by unfold hd; omega
theorem lu_bd (a b c : Int) : 0 ≤ lu a b c ∧ lu a b c ≤ 65536 := by
  have := hd_bd a; have := hd_bd b; have := hd_bd c
  unfold lu; omega
theorem toF_bd (j : Nat) (f t a b c d : Int) : 0 ≤ toF j f t a b c d ∧ toF j f t a b c d ≤ 65536 := by
  have := hd_bd a; have := hd_bd b; have := hd_bd c; have := hd_bd d; have := lu_bd a b c
  unfold toF ls mx3
  (repeat' split) <;> omega
def xT (j : Nat) : List Int → Int
  | [f, t, a, b, c, d] => toF j f t a b c d
  | _ => 0
def G (g : Nat) (xs : List Int) : Int :=
  match g with
  | 20 => xT 0 xs
  | 21 => xT 1 xs
  | 22 => xT 2 xs
  | 23 => xT 3 xs
  | g => wG g xs
def GI (g : Nat) (l : List Itv) : Itv :=
  match g with
  | 20 => some (0, 65536)
  | 21 => some (0, 65536)
  | 22 => some (0, 65536)
  | 23 => some (0, 65536)
  | g => wGI g l
theorem xT_bd (j : Nat) (xs : List Int) : 0 ≤ xT j xs ∧ xT j xs ≤ 65536 := by
  unfold xT; split
  · exact toF_bd _ _ _ _ _ _ _
  · omega
theorem gi_ok : ∀ g is xs, itvsHave is xs → (GI g is).has (G g xs) := by
  intro g is xs h
  unfold G GI
  split
  · exact xT_bd 0 xs
  · exact xT_bd 1 xs
  · exact xT_bd 2 xs
  · exact xT_bd 3 xs
  · exact wgi_ok _ is xs h
def GB : Globs := []
/-- what the program reckons as the weighed part -/
theorem near_lu (n : Int) : Fx.near (n * 65536) 6553600 = (2 * n + 100) / 200 := by unfold Fx.near; omega
end Go.Proofs.Ytldoimianllcdaa
