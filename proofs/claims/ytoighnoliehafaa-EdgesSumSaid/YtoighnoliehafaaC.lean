/- What is proved: what edges.may returns of a slice of places. -/
import Derived.Test.YtoighnoliehafaaB
namespace Go.Proofs.Ytoighnoliehafaa
open Go.RowKit Ed

def okAll (f : Nat → D) (n : Nat) : Bool := decide (∀ j, j < n → ok (f j))

theorem may_any (f : Nat → D) (n : Nat) (blk : Nat) (w : World) (hn : n ≤ 1000) (hc : ∀ j, j < n → w.cell? ⟨blk, j * 2, none⟩ = some (.int .i64 (f j).x) ∧ w.cell? ⟨blk, j * 2 + 1, none⟩ = some (.int .i64 (f j).y)) :
    Calls Try.prog 19 #[.slice (some ⟨blk, 0, none⟩) n n] w fun e w' => e = .returned (.bool (okAll f n)) ∧ Below w.heap.size w w' := by
  have hno : ∀ k, k < n → ¬ ok (f k) → okAll f n = false := by
    intro k hk hn; unfold okAll; rw [decide_eq_false_iff_not]; intro h; exact hn (h k hk)
  have hyes : (∀ j, j < n → ok (f j)) → okAll f n = true := by
    intro h; unfold okAll; rw [decide_eq_true_eq]; exact h
  have Hno := Lib.hid hno; have Hyes := Lib.hid hyes; have Hc := Lib.hid hc
  clear hno hyes hc
  go_enter Try.func19, Try.ntmps19
  go_wp2
  go_loopw [7, 4] (fun i _ wr => ∃ k : Nat, k ≤ n ∧ i = .int .i64 k ∧ Hid (∀ j, j < k → ok (f j)) ∧ Below w.heap.size w wr) (fun i _ _ => n - (intOf i).toNat)
  case atStart => exact ⟨0, by omega, rfl, fun j h => by omega, Below.refl _ _⟩
  case round =>
    obtain ⟨k, hk, rfl, hz, hB⟩ := hrel
    by_cases hlt : k < n
    · have ⟨g1, g2⟩ := Hc.out k hlt
      have g1' := cell_later hB g1
      have g2' := cell_later hB g2
      clear g1 g2
      by_cases hok : ok (f k)
      · obtain ⟨e1, e2, e3, e4⟩ := hok
        have Hok : Hid (ok (f k)) := ⟨e1, e2, e3, e4⟩
        go_wp2
        all_goals
          go_roundw
          case rel => exact ⟨k + 1, by omega, by go_num, fun j h => by
            rcases Nat.lt_or_ge j k with h' | h'
            · exact hz j h'
            · have : j = k := by omega
              subst this; exact Hok, bel_alloc _ hB⟩
          case measure => simp [intOf]; omega
      · have Hok := Lib.hid hok
        unfold ok at hok
        go_wp2
        all_goals
          go_ret
          exact ⟨by rw [Hno.out k hlt Hok.out]; rfl, bel_alloc _ hB⟩
    · obtain rfl : k = n := by omega
      go_wp2
      go_ret
      exact ⟨by rw [Hyes.out hz.out]; rfl, hB⟩
end Go.Proofs.Ytoighnoliehafaa
