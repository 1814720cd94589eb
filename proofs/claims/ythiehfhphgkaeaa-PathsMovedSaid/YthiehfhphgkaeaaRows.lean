/-
  No cell of these rows narrows 'for every input' (looked for: loops, veiled, ifaces, maps, wideKeys, modest, calm, conditions, laid).
  DERIVED. THE GIVEN ROWS OF THIS SEAT. 6 by the template 'for every input the law returns true; each argument reads behind the call as it read before'; 0 by the template 'total and deterministic' (their statements: YthiehfhphgkaeaaTotals.lean).
  GIVEN WITH THE SEED: the statements are not yours to turn. If you find one false, say at which input.
  Laid BY PROGRAM, IN A SANDBOX (cutbox-rows.mjs): the forced cells as the released guide's own fill.sh prints them over the translation c3ed7971b7d0b076… (all of the seat's roots in one cut). By AI agents, Wed Nov 11 2026. No macro, syntax, notation, axiom, sorry.
-/
import Derived.Test.YthiehfhphgkaeaaChecked
import GoSem.Claim
import GoSem.ClaimJoined
import GoSem.ClaimMapViews
import Derived.JoinedTies
import Derived.KernelRfl
namespace Go.Proofs.Ythiehfhphgkaeaa
/- THE CELL 'sum', in the pinned program and in every row, IS THE sha256 OF THE DUMP (.gsa) THAT YthiehfhphgkaeaaProg.lean LOADS. Nothing in Lean hashes anything: it is a label: what it is worth is what the hold of that sum in a sandbox is worth. -/
noncomputable def Try.pinned : Pinned := { name := "ythiehfhphgkaeaa", sum := "c3ed7971b7d0b07685a2c82a2a0ab919755557f80fb6d0989e0acb057a1ec580", checked := Try.checked }
namespace Rows
def none {H : Type} : Left H := { results := [], args := [] }

/-- 'gouachelaw27.PathsBack': WHATEVER THE INPUT: true; the input reads as it did. -/
def pathsBackSpec : ChangeSpec := { name := "pathsBack", fn := fun _ => fun
  | [d] => { results := [.lit (.bool true)], args := [d] }
  | _ => none }
def pathsBackRow : OpenClaim := { program := "ythiehfhphgkaeaa", sum := "c3ed7971b7d0b07685a2c82a2a0ab919755557f80fb6d0989e0acb057a1ec580", func := "gouache/gouachelaw27.PathsBack", spec := "pathsBack", inPlace := ["math/bits.Add64", "math/bits.Sub64"], unfollowed := true, recurses := true, named := ["math/bits.divideError", "math/bits.overflowError"], apart := false }
def PathsBackSaid : Prop := pathsBackRow.holds Try.pinned (OpenSpec.ofChange pathsBackSpec)

/-- ITS FALSE NEIGHBOUR: 'it returns false'. Refute it at one input. -/
def pathsBackWrong : ChangeSpec := { name := "pathsBack", fn := fun _ => fun
  | [d] => { results := [.lit (.bool false)], args := [d] }
  | _ => none }
def PathsBackWrongFalsely : Prop := pathsBackRow.holds Try.pinned (OpenSpec.ofChange pathsBackWrong)

/-- 'gouachelaw27.PathsWithin': WHATEVER THE INPUT: true; the input reads as it did. -/
def pathsWithinSpec : ChangeSpec := { name := "pathsWithin", fn := fun _ => fun
  | [d] => { results := [.lit (.bool true)], args := [d] }
  | _ => none }
def pathsWithinRow : OpenClaim := { program := "ythiehfhphgkaeaa", sum := "c3ed7971b7d0b07685a2c82a2a0ab919755557f80fb6d0989e0acb057a1ec580", func := "gouache/gouachelaw27.PathsWithin", spec := "pathsWithin", inPlace := ["math/bits.Add64", "math/bits.Sub64"], unfollowed := true, recurses := true, named := ["math/bits.divideError", "math/bits.overflowError"], apart := false }
def PathsWithinSaid : Prop := pathsWithinRow.holds Try.pinned (OpenSpec.ofChange pathsWithinSpec)

/-- ITS FALSE NEIGHBOUR: 'it returns false'. Refute it at one input. -/
def pathsWithinWrong : ChangeSpec := { name := "pathsWithin", fn := fun _ => fun
  | [d] => { results := [.lit (.bool false)], args := [d] }
  | _ => none }
def PathsWithinWrongFalsely : Prop := pathsWithinRow.holds Try.pinned (OpenSpec.ofChange pathsWithinWrong)

/-- 'gouachelaw27.PathsMoved': WHATEVER THE INPUT: true; the input reads as it did. -/
def pathsMovedSpec : ChangeSpec := { name := "pathsMoved", fn := fun _ => fun
  | [d1, d2, d3] => { results := [.lit (.bool true)], args := [d1, d2, d3] }
  | _ => none }
def pathsMovedRow : OpenClaim := { program := "ythiehfhphgkaeaa", sum := "c3ed7971b7d0b07685a2c82a2a0ab919755557f80fb6d0989e0acb057a1ec580", func := "gouache/gouachelaw27.PathsMoved", spec := "pathsMoved", inPlace := ["math/bits.Add64", "math/bits.Sub64"], unfollowed := true, recurses := true, named := ["math/bits.divideError", "math/bits.overflowError"], apart := false }
def PathsMovedSaid : Prop := pathsMovedRow.holds Try.pinned (OpenSpec.ofChange pathsMovedSpec)

/-- ITS FALSE NEIGHBOUR: 'it returns false'. Refute it at one input. -/
def pathsMovedWrong : ChangeSpec := { name := "pathsMoved", fn := fun _ => fun
  | [d1, d2, d3] => { results := [.lit (.bool false)], args := [d1, d2, d3] }
  | _ => none }
def PathsMovedWrongFalsely : Prop := pathsMovedRow.holds Try.pinned (OpenSpec.ofChange pathsMovedWrong)

/-- 'gouachelaw27.PathsStraight': WHATEVER THE INPUT: true; the input reads as it did. -/
def pathsStraightSpec : ChangeSpec := { name := "pathsStraight", fn := fun _ => fun
  | [d1, d2, d3] => { results := [.lit (.bool true)], args := [d1, d2, d3] }
  | _ => none }
def pathsStraightRow : OpenClaim := { program := "ythiehfhphgkaeaa", sum := "c3ed7971b7d0b07685a2c82a2a0ab919755557f80fb6d0989e0acb057a1ec580", func := "gouache/gouachelaw27.PathsStraight", spec := "pathsStraight", inPlace := ["math/bits.Add64", "math/bits.Sub64"], unfollowed := true, recurses := true, named := ["math/bits.divideError", "math/bits.overflowError"], apart := false }
def PathsStraightSaid : Prop := pathsStraightRow.holds Try.pinned (OpenSpec.ofChange pathsStraightSpec)

/-- ITS FALSE NEIGHBOUR: 'it returns false'. Refute it at one input. -/
def pathsStraightWrong : ChangeSpec := { name := "pathsStraight", fn := fun _ => fun
  | [d1, d2, d3] => { results := [.lit (.bool false)], args := [d1, d2, d3] }
  | _ => none }
def PathsStraightWrongFalsely : Prop := pathsStraightRow.holds Try.pinned (OpenSpec.ofChange pathsStraightWrong)

/-- 'gouachelaw27.PathsJoin': WHATEVER THE INPUT: true; the input reads as it did. -/
def pathsJoinSpec : ChangeSpec := { name := "pathsJoin", fn := fun _ => fun
  | [d1, d2] => { results := [.lit (.bool true)], args := [d1, d2] }
  | _ => none }
def pathsJoinRow : OpenClaim := { program := "ythiehfhphgkaeaa", sum := "c3ed7971b7d0b07685a2c82a2a0ab919755557f80fb6d0989e0acb057a1ec580", func := "gouache/gouachelaw27.PathsJoin", spec := "pathsJoin", inPlace := ["math/bits.Add64", "math/bits.Sub64"], unfollowed := true, recurses := true, named := ["math/bits.divideError", "math/bits.overflowError"], apart := false }
def PathsJoinSaid : Prop := pathsJoinRow.holds Try.pinned (OpenSpec.ofChange pathsJoinSpec)

/-- ITS FALSE NEIGHBOUR: 'it returns false'. Refute it at one input. -/
def pathsJoinWrong : ChangeSpec := { name := "pathsJoin", fn := fun _ => fun
  | [d1, d2] => { results := [.lit (.bool false)], args := [d1, d2] }
  | _ => none }
def PathsJoinWrongFalsely : Prop := pathsJoinRow.holds Try.pinned (OpenSpec.ofChange pathsJoinWrong)

/-- 'gouachelaw27.PathsForm': WHATEVER THE INPUT: true; the input reads as it did. -/
def pathsFormSpec : ChangeSpec := { name := "pathsForm", fn := fun _ => fun
  | [d] => { results := [.lit (.bool true)], args := [d] }
  | _ => none }
def pathsFormRow : OpenClaim := { program := "ythiehfhphgkaeaa", sum := "c3ed7971b7d0b07685a2c82a2a0ab919755557f80fb6d0989e0acb057a1ec580", func := "gouache/gouachelaw27.PathsForm", spec := "pathsForm", inPlace := ["math/bits.Add64", "math/bits.Sub64"], unfollowed := true, recurses := true, named := ["math/bits.divideError", "math/bits.overflowError"], apart := false }
def PathsFormSaid : Prop := pathsFormRow.holds Try.pinned (OpenSpec.ofChange pathsFormSpec)

/-- ITS FALSE NEIGHBOUR: 'it returns false'. Refute it at one input. -/
def pathsFormWrong : ChangeSpec := { name := "pathsForm", fn := fun _ => fun
  | [d] => { results := [.lit (.bool false)], args := [d] }
  | _ => none }
def PathsFormWrongFalsely : Prop := pathsFormRow.holds Try.pinned (OpenSpec.ofChange pathsFormWrong)

/- THE SECOND FORM. 'bulk': how many values and letters a reading holds, each counted each time it is reached (what is shared counts as often as it is met; a slice's spare places count too). A statement '..UptoSaid' is the law's where the arguments, and the package variables that the reading takes, are together of bulk at most 1048576: NARROWER than '..Said'. Prove '..Said' where nothing that the law and all that it calls make is longer than what came in: it says more and counts as full. Else prove '..UptoSaid'. A law counts once. -/
mutual
def uptoBulk {H : Type} : DataW H → Nat
  | .lit (.string bytes) => bytes.length + 1
  | .lit _ => 1
  | .nil => 1
  | .ptr d => uptoBulk d + 1
  | .slice elems spare => uptoBulkAll elems + uptoBulkAll spare + 1
  | .agg parts => uptoBulkAll parts + 1
  | .iface _ d => uptoBulk d + 1
  | .map entries => uptoBulkEntries entries + 1
  | .held _ => 1
def uptoBulkAll {H : Type} : List (DataW H) → Nat
  | [] => 0
  | d :: r => uptoBulk d + uptoBulkAll r
def uptoBulkEntries {H : Type} : List (Lit × DataW H) → Nat
  | [] => 0
  | x :: r => uptoBulkEntry x + uptoBulkEntries r
def uptoBulkEntry {H : Type} : Lit × DataW H → Nat
  | (.string bytes, d) => bytes.length + uptoBulk d + 1
  | (_, d) => uptoBulk d + 1
 end
def uptoSmall : (H : Type) → List (DataW H) → Bool := fun _ ds => decide (uptoBulkAll ds ≤ 1048576)
def OpenSpec.upto (s : _root_.Go.ChangeSpec) : _root_.Go.OpenSpec := { _root_.Go.OpenSpec.ofChange s with cond := some uptoSmall }

/-- 'gouachelaw27.PathsBack', WHERE WHAT IT READS IS OF BULK AT MOST 1048576: true; the input reads as it did. -/
def pathsBackUptoRow : OpenClaim := { program := "ythiehfhphgkaeaa", sum := "c3ed7971b7d0b07685a2c82a2a0ab919755557f80fb6d0989e0acb057a1ec580", func := "gouache/gouachelaw27.PathsBack", spec := "pathsBack", inPlace := ["math/bits.Add64", "math/bits.Sub64"], unfollowed := true, recurses := true, named := ["math/bits.divideError", "math/bits.overflowError"], apart := false, narrowed := true }
def PathsBackUptoSaid : Prop := pathsBackUptoRow.holds Try.pinned (OpenSpec.upto pathsBackSpec)

/-- 'gouachelaw27.PathsWithin', WHERE WHAT IT READS IS OF BULK AT MOST 1048576: true; the input reads as it did. -/
def pathsWithinUptoRow : OpenClaim := { program := "ythiehfhphgkaeaa", sum := "c3ed7971b7d0b07685a2c82a2a0ab919755557f80fb6d0989e0acb057a1ec580", func := "gouache/gouachelaw27.PathsWithin", spec := "pathsWithin", inPlace := ["math/bits.Add64", "math/bits.Sub64"], unfollowed := true, recurses := true, named := ["math/bits.divideError", "math/bits.overflowError"], apart := false, narrowed := true }
def PathsWithinUptoSaid : Prop := pathsWithinUptoRow.holds Try.pinned (OpenSpec.upto pathsWithinSpec)

/-- 'gouachelaw27.PathsMoved', WHERE WHAT IT READS IS OF BULK AT MOST 1048576: true; the input reads as it did. -/
def pathsMovedUptoRow : OpenClaim := { program := "ythiehfhphgkaeaa", sum := "c3ed7971b7d0b07685a2c82a2a0ab919755557f80fb6d0989e0acb057a1ec580", func := "gouache/gouachelaw27.PathsMoved", spec := "pathsMoved", inPlace := ["math/bits.Add64", "math/bits.Sub64"], unfollowed := true, recurses := true, named := ["math/bits.divideError", "math/bits.overflowError"], apart := false, narrowed := true }
def PathsMovedUptoSaid : Prop := pathsMovedUptoRow.holds Try.pinned (OpenSpec.upto pathsMovedSpec)

/-- 'gouachelaw27.PathsStraight', WHERE WHAT IT READS IS OF BULK AT MOST 1048576: true; the input reads as it did. -/
def pathsStraightUptoRow : OpenClaim := { program := "ythiehfhphgkaeaa", sum := "c3ed7971b7d0b07685a2c82a2a0ab919755557f80fb6d0989e0acb057a1ec580", func := "gouache/gouachelaw27.PathsStraight", spec := "pathsStraight", inPlace := ["math/bits.Add64", "math/bits.Sub64"], unfollowed := true, recurses := true, named := ["math/bits.divideError", "math/bits.overflowError"], apart := false, narrowed := true }
def PathsStraightUptoSaid : Prop := pathsStraightUptoRow.holds Try.pinned (OpenSpec.upto pathsStraightSpec)

/-- 'gouachelaw27.PathsJoin', WHERE WHAT IT READS IS OF BULK AT MOST 1048576: true; the input reads as it did. -/
def pathsJoinUptoRow : OpenClaim := { program := "ythiehfhphgkaeaa", sum := "c3ed7971b7d0b07685a2c82a2a0ab919755557f80fb6d0989e0acb057a1ec580", func := "gouache/gouachelaw27.PathsJoin", spec := "pathsJoin", inPlace := ["math/bits.Add64", "math/bits.Sub64"], unfollowed := true, recurses := true, named := ["math/bits.divideError", "math/bits.overflowError"], apart := false, narrowed := true }
def PathsJoinUptoSaid : Prop := pathsJoinUptoRow.holds Try.pinned (OpenSpec.upto pathsJoinSpec)

/-- 'gouachelaw27.PathsForm', WHERE WHAT IT READS IS OF BULK AT MOST 1048576: true; the input reads as it did. -/
def pathsFormUptoRow : OpenClaim := { program := "ythiehfhphgkaeaa", sum := "c3ed7971b7d0b07685a2c82a2a0ab919755557f80fb6d0989e0acb057a1ec580", func := "gouache/gouachelaw27.PathsForm", spec := "pathsForm", inPlace := ["math/bits.Add64", "math/bits.Sub64"], unfollowed := true, recurses := true, named := ["math/bits.divideError", "math/bits.overflowError"], apart := false, narrowed := true }
def PathsFormUptoSaid : Prop := pathsFormUptoRow.holds Try.pinned (OpenSpec.upto pathsFormSpec)

end Rows
end Go.Proofs.Ythiehfhphgkaeaa
