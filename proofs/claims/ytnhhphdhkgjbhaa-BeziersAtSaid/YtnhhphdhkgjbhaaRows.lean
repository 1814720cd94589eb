/-
  No cell of these rows narrows 'for every input' (looked for: loops, veiled, ifaces, maps, wideKeys, modest, calm, conditions, laid).
  DERIVED. THE GIVEN ROWS OF THIS SEAT. 7 by the template 'for every input the law returns true; each argument reads behind the call as it read before'; 0 by the template 'total and deterministic' (their statements: YtnhhphdhkgjbhaaTotals.lean).
  GIVEN WITH THE SEED: the statements are not yours to turn. If you find one false, say at which input.
  Laid BY PROGRAM, IN A SANDBOX (cutbox-rows.mjs): the forced cells as the released guide's own fill.sh prints them over the translation 464f703aeb7db459… (all of the seat's roots in one cut). By AI agents, Wed Nov 11 2026. No macro, syntax, notation, axiom, sorry.
-/
import Derived.Test.YtnhhphdhkgjbhaaChecked
import GoSem.Claim
import GoSem.ClaimJoined
import GoSem.ClaimMapViews
import Derived.JoinedTies
import Derived.KernelRfl
namespace Go.Proofs.Ytnhhphdhkgjbhaa
/- THE CELL 'sum', in the pinned program and in every row, IS THE sha256 OF THE DUMP (.gsa) THAT YtnhhphdhkgjbhaaProg.lean LOADS. Nothing in Lean hashes anything: it is a label: what it is worth is what the hold of that sum in a sandbox is worth. -/
noncomputable def Try.pinned : Pinned := { name := "ytnhhphdhkgjbhaa", sum := "464f703aeb7db45985142b68a3a719f2cc874679bb6a377fabf822cc4d0f9b7f", checked := Try.checked }
namespace Rows
def none {H : Type} : Left H := { results := [], args := [] }

/-- 'gouachelaw22.BeziersEdge': WHATEVER THE INPUT: true; the input reads as it did. -/
def beziersEdgeSpec : ChangeSpec := { name := "beziersEdge", fn := fun _ => fun
  | [d1, d2] => { results := [.lit (.bool true)], args := [d1, d2] }
  | _ => none }
def beziersEdgeRow : OpenClaim := { program := "ytnhhphdhkgjbhaa", sum := "464f703aeb7db45985142b68a3a719f2cc874679bb6a377fabf822cc4d0f9b7f", func := "gouache/gouachelaw22.BeziersEdge", spec := "beziersEdge", inPlace := ["math/bits.Add64", "math/bits.Sub64"], unfollowed := true, recurses := true, named := ["math/bits.divideError", "math/bits.overflowError"], apart := false }
def BeziersEdgeSaid : Prop := beziersEdgeRow.holds Try.pinned (OpenSpec.ofChange beziersEdgeSpec)

/-- ITS FALSE NEIGHBOUR: 'it returns false'. Refute it at one input. -/
def beziersEdgeWrong : ChangeSpec := { name := "beziersEdge", fn := fun _ => fun
  | [d1, d2] => { results := [.lit (.bool false)], args := [d1, d2] }
  | _ => none }
def BeziersEdgeWrongFalsely : Prop := beziersEdgeRow.holds Try.pinned (OpenSpec.ofChange beziersEdgeWrong)

/-- 'gouachelaw22.BeziersAt': WHATEVER THE INPUT: true; the input reads as it did. -/
def beziersAtSpec : ChangeSpec := { name := "beziersAt", fn := fun _ => fun
  | [d1, d2] => { results := [.lit (.bool true)], args := [d1, d2] }
  | _ => none }
def beziersAtRow : OpenClaim := { program := "ytnhhphdhkgjbhaa", sum := "464f703aeb7db45985142b68a3a719f2cc874679bb6a377fabf822cc4d0f9b7f", func := "gouache/gouachelaw22.BeziersAt", spec := "beziersAt", inPlace := ["math/bits.Add64", "math/bits.Sub64"], unfollowed := true, recurses := true, named := ["math/bits.divideError", "math/bits.overflowError"], apart := false }
def BeziersAtSaid : Prop := beziersAtRow.holds Try.pinned (OpenSpec.ofChange beziersAtSpec)

/-- ITS FALSE NEIGHBOUR: 'it returns false'. Refute it at one input. -/
def beziersAtWrong : ChangeSpec := { name := "beziersAt", fn := fun _ => fun
  | [d1, d2] => { results := [.lit (.bool false)], args := [d1, d2] }
  | _ => none }
def BeziersAtWrongFalsely : Prop := beziersAtRow.holds Try.pinned (OpenSpec.ofChange beziersAtWrong)

/-- 'gouachelaw22.BeziersBack': WHATEVER THE INPUT: true; the input reads as it did. -/
def beziersBackSpec : ChangeSpec := { name := "beziersBack", fn := fun _ => fun
  | [d1, d2] => { results := [.lit (.bool true)], args := [d1, d2] }
  | _ => none }
def beziersBackRow : OpenClaim := { program := "ytnhhphdhkgjbhaa", sum := "464f703aeb7db45985142b68a3a719f2cc874679bb6a377fabf822cc4d0f9b7f", func := "gouache/gouachelaw22.BeziersBack", spec := "beziersBack", inPlace := ["math/bits.Add64", "math/bits.Sub64"], unfollowed := true, recurses := true, named := ["math/bits.divideError", "math/bits.overflowError"], apart := false }
def BeziersBackSaid : Prop := beziersBackRow.holds Try.pinned (OpenSpec.ofChange beziersBackSpec)

/-- ITS FALSE NEIGHBOUR: 'it returns false'. Refute it at one input. -/
def beziersBackWrong : ChangeSpec := { name := "beziersBack", fn := fun _ => fun
  | [d1, d2] => { results := [.lit (.bool false)], args := [d1, d2] }
  | _ => none }
def BeziersBackWrongFalsely : Prop := beziersBackRow.holds Try.pinned (OpenSpec.ofChange beziersBackWrong)

/-- 'gouachelaw22.BeziersFiner': WHATEVER THE INPUT: true; the input reads as it did. -/
def beziersFinerSpec : ChangeSpec := { name := "beziersFiner", fn := fun _ => fun
  | [d1, d2, d3] => { results := [.lit (.bool true)], args := [d1, d2, d3] }
  | _ => none }
def beziersFinerRow : OpenClaim := { program := "ytnhhphdhkgjbhaa", sum := "464f703aeb7db45985142b68a3a719f2cc874679bb6a377fabf822cc4d0f9b7f", func := "gouache/gouachelaw22.BeziersFiner", spec := "beziersFiner", inPlace := ["math/bits.Add64", "math/bits.Sub64"], unfollowed := true, recurses := true, named := ["math/bits.divideError", "math/bits.overflowError"], apart := false }
def BeziersFinerSaid : Prop := beziersFinerRow.holds Try.pinned (OpenSpec.ofChange beziersFinerSpec)

/-- ITS FALSE NEIGHBOUR: 'it returns false'. Refute it at one input. -/
def beziersFinerWrong : ChangeSpec := { name := "beziersFiner", fn := fun _ => fun
  | [d1, d2, d3] => { results := [.lit (.bool false)], args := [d1, d2, d3] }
  | _ => none }
def BeziersFinerWrongFalsely : Prop := beziersFinerRow.holds Try.pinned (OpenSpec.ofChange beziersFinerWrong)

/-- 'gouachelaw22.BeziersWithin': WHATEVER THE INPUT: true; the input reads as it did. -/
def beziersWithinSpec : ChangeSpec := { name := "beziersWithin", fn := fun _ => fun
  | [d1, d2] => { results := [.lit (.bool true)], args := [d1, d2] }
  | _ => none }
def beziersWithinRow : OpenClaim := { program := "ytnhhphdhkgjbhaa", sum := "464f703aeb7db45985142b68a3a719f2cc874679bb6a377fabf822cc4d0f9b7f", func := "gouache/gouachelaw22.BeziersWithin", spec := "beziersWithin", inPlace := ["math/bits.Add64", "math/bits.Sub64"], unfollowed := true, recurses := true, named := ["math/bits.divideError", "math/bits.overflowError"], apart := false }
def BeziersWithinSaid : Prop := beziersWithinRow.holds Try.pinned (OpenSpec.ofChange beziersWithinSpec)

/-- ITS FALSE NEIGHBOUR: 'it returns false'. Refute it at one input. -/
def beziersWithinWrong : ChangeSpec := { name := "beziersWithin", fn := fun _ => fun
  | [d1, d2] => { results := [.lit (.bool false)], args := [d1, d2] }
  | _ => none }
def BeziersWithinWrongFalsely : Prop := beziersWithinRow.holds Try.pinned (OpenSpec.ofChange beziersWithinWrong)

/-- 'gouachelaw22.BeziersMoved': WHATEVER THE INPUT: true; the input reads as it did. -/
def beziersMovedSpec : ChangeSpec := { name := "beziersMoved", fn := fun _ => fun
  | [d1, d2, d3] => { results := [.lit (.bool true)], args := [d1, d2, d3] }
  | _ => none }
def beziersMovedRow : OpenClaim := { program := "ytnhhphdhkgjbhaa", sum := "464f703aeb7db45985142b68a3a719f2cc874679bb6a377fabf822cc4d0f9b7f", func := "gouache/gouachelaw22.BeziersMoved", spec := "beziersMoved", inPlace := ["math/bits.Add64", "math/bits.Sub64"], unfollowed := true, recurses := true, named := ["math/bits.divideError", "math/bits.overflowError"], apart := false }
def BeziersMovedSaid : Prop := beziersMovedRow.holds Try.pinned (OpenSpec.ofChange beziersMovedSpec)

/-- ITS FALSE NEIGHBOUR: 'it returns false'. Refute it at one input. -/
def beziersMovedWrong : ChangeSpec := { name := "beziersMoved", fn := fun _ => fun
  | [d1, d2, d3] => { results := [.lit (.bool false)], args := [d1, d2, d3] }
  | _ => none }
def BeziersMovedWrongFalsely : Prop := beziersMovedRow.holds Try.pinned (OpenSpec.ofChange beziersMovedWrong)

/-- 'gouachelaw22.BeziersSides': WHATEVER THE INPUT: true; the input reads as it did. -/
def beziersSidesSpec : ChangeSpec := { name := "beziersSides", fn := fun _ => fun
  | [d1, d2, d3] => { results := [.lit (.bool true)], args := [d1, d2, d3] }
  | _ => none }
def beziersSidesRow : OpenClaim := { program := "ytnhhphdhkgjbhaa", sum := "464f703aeb7db45985142b68a3a719f2cc874679bb6a377fabf822cc4d0f9b7f", func := "gouache/gouachelaw22.BeziersSides", spec := "beziersSides", inPlace := ["math/bits.Add64", "math/bits.Sub64"], unfollowed := true, recurses := true, named := ["math/bits.divideError", "math/bits.overflowError"], apart := false }
def BeziersSidesSaid : Prop := beziersSidesRow.holds Try.pinned (OpenSpec.ofChange beziersSidesSpec)

/-- ITS FALSE NEIGHBOUR: 'it returns false'. Refute it at one input. -/
def beziersSidesWrong : ChangeSpec := { name := "beziersSides", fn := fun _ => fun
  | [d1, d2, d3] => { results := [.lit (.bool false)], args := [d1, d2, d3] }
  | _ => none }
def BeziersSidesWrongFalsely : Prop := beziersSidesRow.holds Try.pinned (OpenSpec.ofChange beziersSidesWrong)

/- THE SECOND FORM. 'bulk': how many values and letters a reading holds, each counted each time it is reached (what is shared counts as often as it is met; a slice's spare places count too). A statement '..UptoSaid' is the law's where the arguments, and the package variables that the reading takes, are together of bulk at most 1048576: NARROWER than '..Said'. Prove '..Said' where nothing that the law and all that it calls make is longer than what came in: it says more and counts as full. Else prove '..UptoSaid'. A law counts once. -/
mutual
def uptoBulk {H : Type} : DataW H → Nat
  | .lit (.string bytes) => bytes.length + 1
  | .lit _ => 1
  | .nil => 1
  | .ptr d => uptoBulk d + 1
  | .slice elems spare => uptoBulkAll elems + uptoBulkAll spare + 1
  | .agg parts => uptoBulkAll parts + 1
  | .iface _ d => uptoBulk d + 1
  | .map entries => uptoBulkEntries entries + 1
  | .held _ => 1
def uptoBulkAll {H : Type} : List (DataW H) → Nat
  | [] => 0
  | d :: r => uptoBulk d + uptoBulkAll r
def uptoBulkEntries {H : Type} : List (Lit × DataW H) → Nat
  | [] => 0
  | x :: r => uptoBulkEntry x + uptoBulkEntries r
def uptoBulkEntry {H : Type} : Lit × DataW H → Nat
  | (.string bytes, d) => bytes.length + uptoBulk d + 1
  | (_, d) => uptoBulk d + 1
 end
def uptoSmall : (H : Type) → List (DataW H) → Bool := fun _ ds => decide (uptoBulkAll ds ≤ 1048576)
def OpenSpec.upto (s : _root_.Go.ChangeSpec) : _root_.Go.OpenSpec := { _root_.Go.OpenSpec.ofChange s with cond := some uptoSmall }

/-- 'gouachelaw22.BeziersEdge', WHERE WHAT IT READS IS OF BULK AT MOST 1048576: true; the input reads as it did. -/
def beziersEdgeUptoRow : OpenClaim := { program := "ytnhhphdhkgjbhaa", sum := "464f703aeb7db45985142b68a3a719f2cc874679bb6a377fabf822cc4d0f9b7f", func := "gouache/gouachelaw22.BeziersEdge", spec := "beziersEdge", inPlace := ["math/bits.Add64", "math/bits.Sub64"], unfollowed := true, recurses := true, named := ["math/bits.divideError", "math/bits.overflowError"], apart := false, narrowed := true }
def BeziersEdgeUptoSaid : Prop := beziersEdgeUptoRow.holds Try.pinned (OpenSpec.upto beziersEdgeSpec)

/-- 'gouachelaw22.BeziersAt', WHERE WHAT IT READS IS OF BULK AT MOST 1048576: true; the input reads as it did. -/
def beziersAtUptoRow : OpenClaim := { program := "ytnhhphdhkgjbhaa", sum := "464f703aeb7db45985142b68a3a719f2cc874679bb6a377fabf822cc4d0f9b7f", func := "gouache/gouachelaw22.BeziersAt", spec := "beziersAt", inPlace := ["math/bits.Add64", "math/bits.Sub64"], unfollowed := true, recurses := true, named := ["math/bits.divideError", "math/bits.overflowError"], apart := false, narrowed := true }
def BeziersAtUptoSaid : Prop := beziersAtUptoRow.holds Try.pinned (OpenSpec.upto beziersAtSpec)

/-- 'gouachelaw22.BeziersBack', WHERE WHAT IT READS IS OF BULK AT MOST 1048576: true; the input reads as it did. -/
def beziersBackUptoRow : OpenClaim := { program := "ytnhhphdhkgjbhaa", sum := "464f703aeb7db45985142b68a3a719f2cc874679bb6a377fabf822cc4d0f9b7f", func := "gouache/gouachelaw22.BeziersBack", spec := "beziersBack", inPlace := ["math/bits.Add64", "math/bits.Sub64"], unfollowed := true, recurses := true, named := ["math/bits.divideError", "math/bits.overflowError"], apart := false, narrowed := true }
def BeziersBackUptoSaid : Prop := beziersBackUptoRow.holds Try.pinned (OpenSpec.upto beziersBackSpec)

/-- 'gouachelaw22.BeziersFiner', WHERE WHAT IT READS IS OF BULK AT MOST 1048576: true; the input reads as it did. -/
def beziersFinerUptoRow : OpenClaim := { program := "ytnhhphdhkgjbhaa", sum := "464f703aeb7db45985142b68a3a719f2cc874679bb6a377fabf822cc4d0f9b7f", func := "gouache/gouachelaw22.BeziersFiner", spec := "beziersFiner", inPlace := ["math/bits.Add64", "math/bits.Sub64"], unfollowed := true, recurses := true, named := ["math/bits.divideError", "math/bits.overflowError"], apart := false, narrowed := true }
def BeziersFinerUptoSaid : Prop := beziersFinerUptoRow.holds Try.pinned (OpenSpec.upto beziersFinerSpec)

/-- 'gouachelaw22.BeziersWithin', WHERE WHAT IT READS IS OF BULK AT MOST 1048576: true; the input reads as it did. -/
def beziersWithinUptoRow : OpenClaim := { program := "ytnhhphdhkgjbhaa", sum := "464f703aeb7db45985142b68a3a719f2cc874679bb6a377fabf822cc4d0f9b7f", func := "gouache/gouachelaw22.BeziersWithin", spec := "beziersWithin", inPlace := ["math/bits.Add64", "math/bits.Sub64"], unfollowed := true, recurses := true, named := ["math/bits.divideError", "math/bits.overflowError"], apart := false, narrowed := true }
def BeziersWithinUptoSaid : Prop := beziersWithinUptoRow.holds Try.pinned (OpenSpec.upto beziersWithinSpec)

/-- 'gouachelaw22.BeziersMoved', WHERE WHAT IT READS IS OF BULK AT MOST 1048576: true; the input reads as it did. -/
def beziersMovedUptoRow : OpenClaim := { program := "ytnhhphdhkgjbhaa", sum := "464f703aeb7db45985142b68a3a719f2cc874679bb6a377fabf822cc4d0f9b7f", func := "gouache/gouachelaw22.BeziersMoved", spec := "beziersMoved", inPlace := ["math/bits.Add64", "math/bits.Sub64"], unfollowed := true, recurses := true, named := ["math/bits.divideError", "math/bits.overflowError"], apart := false, narrowed := true }
def BeziersMovedUptoSaid : Prop := beziersMovedUptoRow.holds Try.pinned (OpenSpec.upto beziersMovedSpec)

/-- 'gouachelaw22.BeziersSides', WHERE WHAT IT READS IS OF BULK AT MOST 1048576: true; the input reads as it did. -/
def beziersSidesUptoRow : OpenClaim := { program := "ytnhhphdhkgjbhaa", sum := "464f703aeb7db45985142b68a3a719f2cc874679bb6a377fabf822cc4d0f9b7f", func := "gouache/gouachelaw22.BeziersSides", spec := "beziersSides", inPlace := ["math/bits.Add64", "math/bits.Sub64"], unfollowed := true, recurses := true, named := ["math/bits.divideError", "math/bits.overflowError"], apart := false, narrowed := true }
def BeziersSidesUptoSaid : Prop := beziersSidesUptoRow.holds Try.pinned (OpenSpec.upto beziersSidesSpec)

end Rows
end Go.Proofs.Ytnhhphdhkgjbhaa
