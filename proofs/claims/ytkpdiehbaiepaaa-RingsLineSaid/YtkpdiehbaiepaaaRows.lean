/-
  No cell of these rows narrows 'for every input' (looked for: loops, veiled, ifaces, maps, wideKeys, modest, calm, conditions, laid).
  DERIVED. THE GIVEN ROWS OF THIS SEAT. 8 by the template 'for every input the law returns true; each argument reads behind the call as it read before'; 0 by the template 'total and deterministic' (their statements: YtkpdiehbaiepaaaTotals.lean).
  GIVEN WITH THE SEED: the statements are not yours to turn. If you find one false, say at which input.
  Laid BY PROGRAM, IN A SANDBOX (cutbox-rows.mjs): the forced cells as the released guide's own fill.sh prints them over the translation 80faebbc43a893bb… (all of the seat's roots in one cut). By AI agents, Wed Nov 11 2026. No macro, syntax, notation, axiom, sorry.
-/
import Derived.Test.YtkpdiehbaiepaaaChecked
import GoSem.Claim
import GoSem.ClaimJoined
import GoSem.ClaimMapViews
import Derived.JoinedTies
import Derived.KernelRfl
namespace Go.Proofs.Ytkpdiehbaiepaaa
/- THE CELL 'sum', in the pinned program and in every row, IS THE sha256 OF THE DUMP (.gsa) THAT YtkpdiehbaiepaaaProg.lean LOADS. Nothing in Lean hashes anything: it is a label: what it is worth is what the hold of that sum in a sandbox is worth. -/
noncomputable def Try.pinned : Pinned := { name := "ytkpdiehbaiepaaa", sum := "80faebbc43a893bb4a5f89f3490d9acb12ea4196743b2d91d89ac2abbe8d8644", checked := Try.checked }
namespace Rows
def none {H : Type} : Left H := { results := [], args := [] }

/-- 'gouachelaw24.RingsLine': WHATEVER THE INPUT: true; the input reads as it did. -/
def ringsLineSpec : ChangeSpec := { name := "ringsLine", fn := fun _ => fun
  | [d1, d2] => { results := [.lit (.bool true)], args := [d1, d2] }
  | _ => none }
def ringsLineRow : OpenClaim := { program := "ytkpdiehbaiepaaa", sum := "80faebbc43a893bb4a5f89f3490d9acb12ea4196743b2d91d89ac2abbe8d8644", func := "gouache/gouachelaw24.RingsLine", spec := "ringsLine", inPlace := ["math/bits.Add64", "math/bits.Sub64"], unfollowed := true, recurses := true, named := ["math/bits.divideError", "math/bits.overflowError"], plainKeys := false, apart := false }
def RingsLineSaid : Prop := ringsLineRow.holds Try.pinned (OpenSpec.ofChange ringsLineSpec)

/-- ITS FALSE NEIGHBOUR: 'it returns false'. Refute it at one input. -/
def ringsLineWrong : ChangeSpec := { name := "ringsLine", fn := fun _ => fun
  | [d1, d2] => { results := [.lit (.bool false)], args := [d1, d2] }
  | _ => none }
def RingsLineWrongFalsely : Prop := ringsLineRow.holds Try.pinned (OpenSpec.ofChange ringsLineWrong)

/-- 'gouachelaw24.RingsLines': WHATEVER THE INPUT: true; the input reads as it did. -/
def ringsLinesSpec : ChangeSpec := { name := "ringsLines", fn := fun _ => fun
  | [d1, d2] => { results := [.lit (.bool true)], args := [d1, d2] }
  | _ => none }
def ringsLinesRow : OpenClaim := { program := "ytkpdiehbaiepaaa", sum := "80faebbc43a893bb4a5f89f3490d9acb12ea4196743b2d91d89ac2abbe8d8644", func := "gouache/gouachelaw24.RingsLines", spec := "ringsLines", inPlace := ["math/bits.Add64", "math/bits.Sub64"], unfollowed := true, recurses := true, named := ["math/bits.divideError", "math/bits.overflowError"], plainKeys := false, apart := false }
def RingsLinesSaid : Prop := ringsLinesRow.holds Try.pinned (OpenSpec.ofChange ringsLinesSpec)

/-- ITS FALSE NEIGHBOUR: 'it returns false'. Refute it at one input. -/
def ringsLinesWrong : ChangeSpec := { name := "ringsLines", fn := fun _ => fun
  | [d1, d2] => { results := [.lit (.bool false)], args := [d1, d2] }
  | _ => none }
def RingsLinesWrongFalsely : Prop := ringsLinesRow.holds Try.pinned (OpenSpec.ofChange ringsLinesWrong)

/-- 'gouachelaw24.RingsShared': WHATEVER THE INPUT: true; the input reads as it did. -/
def ringsSharedSpec : ChangeSpec := { name := "ringsShared", fn := fun _ => fun
  | [d1, d2, d3] => { results := [.lit (.bool true)], args := [d1, d2, d3] }
  | _ => none }
def ringsSharedRow : OpenClaim := { program := "ytkpdiehbaiepaaa", sum := "80faebbc43a893bb4a5f89f3490d9acb12ea4196743b2d91d89ac2abbe8d8644", func := "gouache/gouachelaw24.RingsShared", spec := "ringsShared", inPlace := ["math/bits.Add64", "math/bits.Sub64"], unfollowed := true, recurses := true, named := ["math/bits.divideError", "math/bits.overflowError"], plainKeys := false, apart := false }
def RingsSharedSaid : Prop := ringsSharedRow.holds Try.pinned (OpenSpec.ofChange ringsSharedSpec)

/-- ITS FALSE NEIGHBOUR: 'it returns false'. Refute it at one input. -/
def ringsSharedWrong : ChangeSpec := { name := "ringsShared", fn := fun _ => fun
  | [d1, d2, d3] => { results := [.lit (.bool false)], args := [d1, d2, d3] }
  | _ => none }
def RingsSharedWrongFalsely : Prop := ringsSharedRow.holds Try.pinned (OpenSpec.ofChange ringsSharedWrong)

/-- 'gouachelaw24.RingsOf': WHATEVER THE INPUT: true; the input reads as it did. -/
def ringsOfSpec : ChangeSpec := { name := "ringsOf", fn := fun _ => fun
  | [d1, d2, d3] => { results := [.lit (.bool true)], args := [d1, d2, d3] }
  | _ => none }
def ringsOfRow : OpenClaim := { program := "ytkpdiehbaiepaaa", sum := "80faebbc43a893bb4a5f89f3490d9acb12ea4196743b2d91d89ac2abbe8d8644", func := "gouache/gouachelaw24.RingsOf", spec := "ringsOf", inPlace := ["math/bits.Add64", "math/bits.Sub64"], unfollowed := true, recurses := true, named := ["math/bits.divideError", "math/bits.overflowError"], plainKeys := false, apart := false }
def RingsOfSaid : Prop := ringsOfRow.holds Try.pinned (OpenSpec.ofChange ringsOfSpec)

/-- ITS FALSE NEIGHBOUR: 'it returns false'. Refute it at one input. -/
def ringsOfWrong : ChangeSpec := { name := "ringsOf", fn := fun _ => fun
  | [d1, d2, d3] => { results := [.lit (.bool false)], args := [d1, d2, d3] }
  | _ => none }
def RingsOfWrongFalsely : Prop := ringsOfRow.holds Try.pinned (OpenSpec.ofChange ringsOfWrong)

/-- 'gouachelaw24.RingsChain': WHATEVER THE INPUT: true; the input reads as it did. -/
def ringsChainSpec : ChangeSpec := { name := "ringsChain", fn := fun _ => fun
  | [d1, d2, d3] => { results := [.lit (.bool true)], args := [d1, d2, d3] }
  | _ => none }
def ringsChainRow : OpenClaim := { program := "ytkpdiehbaiepaaa", sum := "80faebbc43a893bb4a5f89f3490d9acb12ea4196743b2d91d89ac2abbe8d8644", func := "gouache/gouachelaw24.RingsChain", spec := "ringsChain", inPlace := ["math/bits.Add64", "math/bits.Sub64"], unfollowed := true, recurses := true, named := ["math/bits.divideError", "math/bits.overflowError"], plainKeys := false, apart := false }
def RingsChainSaid : Prop := ringsChainRow.holds Try.pinned (OpenSpec.ofChange ringsChainSpec)

/-- ITS FALSE NEIGHBOUR: 'it returns false'. Refute it at one input. -/
def ringsChainWrong : ChangeSpec := { name := "ringsChain", fn := fun _ => fun
  | [d1, d2, d3] => { results := [.lit (.bool false)], args := [d1, d2, d3] }
  | _ => none }
def RingsChainWrongFalsely : Prop := ringsChainRow.holds Try.pinned (OpenSpec.ofChange ringsChainWrong)

/-- 'gouachelaw24.RingsSquare': WHATEVER THE INPUT: true; the input reads as it did. -/
def ringsSquareSpec : ChangeSpec := { name := "ringsSquare", fn := fun _ => fun
  | [d1, d2, d3] => { results := [.lit (.bool true)], args := [d1, d2, d3] }
  | _ => none }
def ringsSquareRow : OpenClaim := { program := "ytkpdiehbaiepaaa", sum := "80faebbc43a893bb4a5f89f3490d9acb12ea4196743b2d91d89ac2abbe8d8644", func := "gouache/gouachelaw24.RingsSquare", spec := "ringsSquare", inPlace := ["math/bits.Add64", "math/bits.Sub64"], unfollowed := true, recurses := true, named := ["math/bits.divideError", "math/bits.overflowError"], plainKeys := false, apart := false }
def RingsSquareSaid : Prop := ringsSquareRow.holds Try.pinned (OpenSpec.ofChange ringsSquareSpec)

/-- ITS FALSE NEIGHBOUR: 'it returns false'. Refute it at one input. -/
def ringsSquareWrong : ChangeSpec := { name := "ringsSquare", fn := fun _ => fun
  | [d1, d2, d3] => { results := [.lit (.bool false)], args := [d1, d2, d3] }
  | _ => none }
def RingsSquareWrongFalsely : Prop := ringsSquareRow.holds Try.pinned (OpenSpec.ofChange ringsSquareWrong)

/-- 'gouachelaw24.RingsPlaces': WHATEVER THE INPUT: true; the input reads as it did. -/
def ringsPlacesSpec : ChangeSpec := { name := "ringsPlaces", fn := fun _ => fun
  | [d1, d2, d3] => { results := [.lit (.bool true)], args := [d1, d2, d3] }
  | _ => none }
def ringsPlacesRow : OpenClaim := { program := "ytkpdiehbaiepaaa", sum := "80faebbc43a893bb4a5f89f3490d9acb12ea4196743b2d91d89ac2abbe8d8644", func := "gouache/gouachelaw24.RingsPlaces", spec := "ringsPlaces", inPlace := ["math/bits.Add64", "math/bits.Sub64"], unfollowed := true, recurses := true, named := ["math/bits.divideError", "math/bits.overflowError"], plainKeys := false, apart := false }
def RingsPlacesSaid : Prop := ringsPlacesRow.holds Try.pinned (OpenSpec.ofChange ringsPlacesSpec)

/-- ITS FALSE NEIGHBOUR: 'it returns false'. Refute it at one input. -/
def ringsPlacesWrong : ChangeSpec := { name := "ringsPlaces", fn := fun _ => fun
  | [d1, d2, d3] => { results := [.lit (.bool false)], args := [d1, d2, d3] }
  | _ => none }
def RingsPlacesWrongFalsely : Prop := ringsPlacesRow.holds Try.pinned (OpenSpec.ofChange ringsPlacesWrong)

/-- 'gouachelaw24.RingsApart': WHATEVER THE INPUT: true; the input reads as it did. -/
def ringsApartSpec : ChangeSpec := { name := "ringsApart", fn := fun _ => fun
  | [d1, d2] => { results := [.lit (.bool true)], args := [d1, d2] }
  | _ => none }
def ringsApartRow : OpenClaim := { program := "ytkpdiehbaiepaaa", sum := "80faebbc43a893bb4a5f89f3490d9acb12ea4196743b2d91d89ac2abbe8d8644", func := "gouache/gouachelaw24.RingsApart", spec := "ringsApart", inPlace := ["math/bits.Add64", "math/bits.Sub64"], unfollowed := true, recurses := true, named := ["math/bits.divideError", "math/bits.overflowError"], plainKeys := false, apart := false }
def RingsApartSaid : Prop := ringsApartRow.holds Try.pinned (OpenSpec.ofChange ringsApartSpec)

/-- ITS FALSE NEIGHBOUR: 'it returns false'. Refute it at one input. -/
def ringsApartWrong : ChangeSpec := { name := "ringsApart", fn := fun _ => fun
  | [d1, d2] => { results := [.lit (.bool false)], args := [d1, d2] }
  | _ => none }
def RingsApartWrongFalsely : Prop := ringsApartRow.holds Try.pinned (OpenSpec.ofChange ringsApartWrong)

/- THE SECOND FORM. 'bulk': how many values and letters a reading holds, each counted each time it is reached (what is shared counts as often as it is met; a slice's spare places count too). A statement '..UptoSaid' is the law's where the arguments, and the package variables that the reading takes, are together of bulk at most 1048576: NARROWER than '..Said'. Prove '..Said' where nothing that the law and all that it calls make is longer than what came in: it says more and counts as full. Else prove '..UptoSaid'. A law counts once. -/
mutual
def uptoBulk {H : Type} : DataW H → Nat
  | .lit (.string bytes) => bytes.length + 1
  | .lit _ => 1
  | .nil => 1
  | .ptr d => uptoBulk d + 1
  | .slice elems spare => uptoBulkAll elems + uptoBulkAll spare + 1
  | .agg parts => uptoBulkAll parts + 1
  | .iface _ d => uptoBulk d + 1
  | .map entries => uptoBulkEntries entries + 1
  | .held _ => 1
def uptoBulkAll {H : Type} : List (DataW H) → Nat
  | [] => 0
  | d :: r => uptoBulk d + uptoBulkAll r
def uptoBulkEntries {H : Type} : List (Lit × DataW H) → Nat
  | [] => 0
  | x :: r => uptoBulkEntry x + uptoBulkEntries r
def uptoBulkEntry {H : Type} : Lit × DataW H → Nat
  | (.string bytes, d) => bytes.length + uptoBulk d + 1
  | (_, d) => uptoBulk d + 1
 end
def uptoSmall : (H : Type) → List (DataW H) → Bool := fun _ ds => decide (uptoBulkAll ds ≤ 1048576)
def OpenSpec.upto (s : _root_.Go.ChangeSpec) : _root_.Go.OpenSpec := { _root_.Go.OpenSpec.ofChange s with cond := some uptoSmall }

/-- 'gouachelaw24.RingsLine', WHERE WHAT IT READS IS OF BULK AT MOST 1048576: true; the input reads as it did. -/
def ringsLineUptoRow : OpenClaim := { program := "ytkpdiehbaiepaaa", sum := "80faebbc43a893bb4a5f89f3490d9acb12ea4196743b2d91d89ac2abbe8d8644", func := "gouache/gouachelaw24.RingsLine", spec := "ringsLine", inPlace := ["math/bits.Add64", "math/bits.Sub64"], unfollowed := true, recurses := true, named := ["math/bits.divideError", "math/bits.overflowError"], plainKeys := false, apart := false, narrowed := true }
def RingsLineUptoSaid : Prop := ringsLineUptoRow.holds Try.pinned (OpenSpec.upto ringsLineSpec)

/-- 'gouachelaw24.RingsLines', WHERE WHAT IT READS IS OF BULK AT MOST 1048576: true; the input reads as it did. -/
def ringsLinesUptoRow : OpenClaim := { program := "ytkpdiehbaiepaaa", sum := "80faebbc43a893bb4a5f89f3490d9acb12ea4196743b2d91d89ac2abbe8d8644", func := "gouache/gouachelaw24.RingsLines", spec := "ringsLines", inPlace := ["math/bits.Add64", "math/bits.Sub64"], unfollowed := true, recurses := true, named := ["math/bits.divideError", "math/bits.overflowError"], plainKeys := false, apart := false, narrowed := true }
def RingsLinesUptoSaid : Prop := ringsLinesUptoRow.holds Try.pinned (OpenSpec.upto ringsLinesSpec)

/-- 'gouachelaw24.RingsShared', WHERE WHAT IT READS IS OF BULK AT MOST 1048576: true; the input reads as it did. -/
def ringsSharedUptoRow : OpenClaim := { program := "ytkpdiehbaiepaaa", sum := "80faebbc43a893bb4a5f89f3490d9acb12ea4196743b2d91d89ac2abbe8d8644", func := "gouache/gouachelaw24.RingsShared", spec := "ringsShared", inPlace := ["math/bits.Add64", "math/bits.Sub64"], unfollowed := true, recurses := true, named := ["math/bits.divideError", "math/bits.overflowError"], plainKeys := false, apart := false, narrowed := true }
def RingsSharedUptoSaid : Prop := ringsSharedUptoRow.holds Try.pinned (OpenSpec.upto ringsSharedSpec)

/-- 'gouachelaw24.RingsOf', WHERE WHAT IT READS IS OF BULK AT MOST 1048576: true; the input reads as it did. -/
def ringsOfUptoRow : OpenClaim := { program := "ytkpdiehbaiepaaa", sum := "80faebbc43a893bb4a5f89f3490d9acb12ea4196743b2d91d89ac2abbe8d8644", func := "gouache/gouachelaw24.RingsOf", spec := "ringsOf", inPlace := ["math/bits.Add64", "math/bits.Sub64"], unfollowed := true, recurses := true, named := ["math/bits.divideError", "math/bits.overflowError"], plainKeys := false, apart := false, narrowed := true }
def RingsOfUptoSaid : Prop := ringsOfUptoRow.holds Try.pinned (OpenSpec.upto ringsOfSpec)

/-- 'gouachelaw24.RingsChain', WHERE WHAT IT READS IS OF BULK AT MOST 1048576: true; the input reads as it did. -/
def ringsChainUptoRow : OpenClaim := { program := "ytkpdiehbaiepaaa", sum := "80faebbc43a893bb4a5f89f3490d9acb12ea4196743b2d91d89ac2abbe8d8644", func := "gouache/gouachelaw24.RingsChain", spec := "ringsChain", inPlace := ["math/bits.Add64", "math/bits.Sub64"], unfollowed := true, recurses := true, named := ["math/bits.divideError", "math/bits.overflowError"], plainKeys := false, apart := false, narrowed := true }
def RingsChainUptoSaid : Prop := ringsChainUptoRow.holds Try.pinned (OpenSpec.upto ringsChainSpec)

/-- 'gouachelaw24.RingsSquare', WHERE WHAT IT READS IS OF BULK AT MOST 1048576: true; the input reads as it did. -/
def ringsSquareUptoRow : OpenClaim := { program := "ytkpdiehbaiepaaa", sum := "80faebbc43a893bb4a5f89f3490d9acb12ea4196743b2d91d89ac2abbe8d8644", func := "gouache/gouachelaw24.RingsSquare", spec := "ringsSquare", inPlace := ["math/bits.Add64", "math/bits.Sub64"], unfollowed := true, recurses := true, named := ["math/bits.divideError", "math/bits.overflowError"], plainKeys := false, apart := false, narrowed := true }
def RingsSquareUptoSaid : Prop := ringsSquareUptoRow.holds Try.pinned (OpenSpec.upto ringsSquareSpec)

/-- 'gouachelaw24.RingsPlaces', WHERE WHAT IT READS IS OF BULK AT MOST 1048576: true; the input reads as it did. -/
def ringsPlacesUptoRow : OpenClaim := { program := "ytkpdiehbaiepaaa", sum := "80faebbc43a893bb4a5f89f3490d9acb12ea4196743b2d91d89ac2abbe8d8644", func := "gouache/gouachelaw24.RingsPlaces", spec := "ringsPlaces", inPlace := ["math/bits.Add64", "math/bits.Sub64"], unfollowed := true, recurses := true, named := ["math/bits.divideError", "math/bits.overflowError"], plainKeys := false, apart := false, narrowed := true }
def RingsPlacesUptoSaid : Prop := ringsPlacesUptoRow.holds Try.pinned (OpenSpec.upto ringsPlacesSpec)

/-- 'gouachelaw24.RingsApart', WHERE WHAT IT READS IS OF BULK AT MOST 1048576: true; the input reads as it did. -/
def ringsApartUptoRow : OpenClaim := { program := "ytkpdiehbaiepaaa", sum := "80faebbc43a893bb4a5f89f3490d9acb12ea4196743b2d91d89ac2abbe8d8644", func := "gouache/gouachelaw24.RingsApart", spec := "ringsApart", inPlace := ["math/bits.Add64", "math/bits.Sub64"], unfollowed := true, recurses := true, named := ["math/bits.divideError", "math/bits.overflowError"], plainKeys := false, apart := false, narrowed := true }
def RingsApartUptoSaid : Prop := ringsApartUptoRow.holds Try.pinned (OpenSpec.upto ringsApartSpec)

end Rows
end Go.Proofs.Ytkpdiehbaiepaaa
