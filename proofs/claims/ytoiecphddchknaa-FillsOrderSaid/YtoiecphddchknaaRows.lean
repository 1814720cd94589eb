/-
  No cell of these rows narrows 'for every input' (looked for: loops, veiled, ifaces, maps, wideKeys, modest, calm, conditions, laid).
  DERIVED. THE GIVEN ROWS OF THIS SEAT. 7 by the template 'for every input the law returns true; each argument reads behind the call as it read before'; 0 by the template 'total and deterministic' (their statements: YtoiecphddchknaaTotals.lean).
  GIVEN WITH THE SEED: the statements are not yours to turn. If you find one false, say at which input.
  Laid BY PROGRAM, IN A SANDBOX (cutbox-rows.mjs): the forced cells as the released guide's own fill.sh prints them over the translation 8458baf07fddbff3… (all of the seat's roots in one cut). By AI agents, Wed Nov 11 2026. No macro, syntax, notation, axiom, sorry.
-/
import Derived.Test.YtoiecphddchknaaChecked
import GoSem.Claim
import GoSem.ClaimJoined
import GoSem.ClaimMapViews
import Derived.JoinedTies
import Derived.KernelRfl
namespace Go.Proofs.Ytoiecphddchknaa
/- THE CELL 'sum', in the pinned program and in every row, IS THE sha256 OF THE DUMP (.gsa) THAT YtoiecphddchknaaProg.lean LOADS. Nothing in Lean hashes anything: it is a label: what it is worth is what the hold of that sum in a sandbox is worth. -/
noncomputable def Try.pinned : Pinned := { name := "ytoiecphddchknaa", sum := "8458baf07fddbff353315135cc95de0d053028ee884a34050860828018819de7", checked := Try.checked }
namespace Rows
def none {H : Type} : Left H := { results := [], args := [] }

/-- 'gouachelaw26.FillsClaimed': WHATEVER THE INPUT: true; the input reads as it did. -/
def fillsClaimedSpec : ChangeSpec := { name := "fillsClaimed", fn := fun _ => fun
  | [d] => { results := [.lit (.bool true)], args := [d] }
  | _ => none }
def fillsClaimedRow : OpenClaim := { program := "ytoiecphddchknaa", sum := "8458baf07fddbff353315135cc95de0d053028ee884a34050860828018819de7", func := "gouache/gouachelaw26.FillsClaimed", spec := "fillsClaimed", unfollowed := true, recurses := true, apart := false }
def FillsClaimedSaid : Prop := fillsClaimedRow.holds Try.pinned (OpenSpec.ofChange fillsClaimedSpec)

/-- ITS FALSE NEIGHBOUR: 'it returns false'. Refute it at one input. -/
def fillsClaimedWrong : ChangeSpec := { name := "fillsClaimed", fn := fun _ => fun
  | [d] => { results := [.lit (.bool false)], args := [d] }
  | _ => none }
def FillsClaimedWrongFalsely : Prop := fillsClaimedRow.holds Try.pinned (OpenSpec.ofChange fillsClaimedWrong)

/-- 'gouachelaw26.FillsExact': WHATEVER THE INPUT: true; the input reads as it did. -/
def fillsExactSpec : ChangeSpec := { name := "fillsExact", fn := fun _ => fun
  | [d] => { results := [.lit (.bool true)], args := [d] }
  | _ => none }
def fillsExactRow : OpenClaim := { program := "ytoiecphddchknaa", sum := "8458baf07fddbff353315135cc95de0d053028ee884a34050860828018819de7", func := "gouache/gouachelaw26.FillsExact", spec := "fillsExact", inPlace := ["math/bits.Add64", "math/bits.Sub64"], unfollowed := true, recurses := true, apart := false }
def FillsExactSaid : Prop := fillsExactRow.holds Try.pinned (OpenSpec.ofChange fillsExactSpec)

/-- ITS FALSE NEIGHBOUR: 'it returns false'. Refute it at one input. -/
def fillsExactWrong : ChangeSpec := { name := "fillsExact", fn := fun _ => fun
  | [d] => { results := [.lit (.bool false)], args := [d] }
  | _ => none }
def FillsExactWrongFalsely : Prop := fillsExactRow.holds Try.pinned (OpenSpec.ofChange fillsExactWrong)

/-- 'gouachelaw26.FillsOf': WHATEVER THE INPUT: true; the input reads as it did. -/
def fillsOfSpec : ChangeSpec := { name := "fillsOf", fn := fun _ => fun
  | [d] => { results := [.lit (.bool true)], args := [d] }
  | _ => none }
def fillsOfRow : OpenClaim := { program := "ytoiecphddchknaa", sum := "8458baf07fddbff353315135cc95de0d053028ee884a34050860828018819de7", func := "gouache/gouachelaw26.FillsOf", spec := "fillsOf", unfollowed := true, recurses := true, apart := false }
def FillsOfSaid : Prop := fillsOfRow.holds Try.pinned (OpenSpec.ofChange fillsOfSpec)

/-- ITS FALSE NEIGHBOUR: 'it returns false'. Refute it at one input. -/
def fillsOfWrong : ChangeSpec := { name := "fillsOf", fn := fun _ => fun
  | [d] => { results := [.lit (.bool false)], args := [d] }
  | _ => none }
def FillsOfWrongFalsely : Prop := fillsOfRow.holds Try.pinned (OpenSpec.ofChange fillsOfWrong)

/-- 'gouachelaw26.FillsNone': WHATEVER THE INPUT: true; the input reads as it did. -/
def fillsNoneSpec : ChangeSpec := { name := "fillsNone", fn := fun _ => fun
  | [d1, d2] => { results := [.lit (.bool true)], args := [d1, d2] }
  | _ => none }
def fillsNoneRow : OpenClaim := { program := "ytoiecphddchknaa", sum := "8458baf07fddbff353315135cc95de0d053028ee884a34050860828018819de7", func := "gouache/gouachelaw26.FillsNone", spec := "fillsNone", unfollowed := true, recurses := true, apart := false }
def FillsNoneSaid : Prop := fillsNoneRow.holds Try.pinned (OpenSpec.ofChange fillsNoneSpec)

/-- ITS FALSE NEIGHBOUR: 'it returns false'. Refute it at one input. -/
def fillsNoneWrong : ChangeSpec := { name := "fillsNone", fn := fun _ => fun
  | [d1, d2] => { results := [.lit (.bool false)], args := [d1, d2] }
  | _ => none }
def FillsNoneWrongFalsely : Prop := fillsNoneRow.holds Try.pinned (OpenSpec.ofChange fillsNoneWrong)

/-- 'gouachelaw26.FillsOrder': WHATEVER THE INPUT: true; the input reads as it did. -/
def fillsOrderSpec : ChangeSpec := { name := "fillsOrder", fn := fun _ => fun
  | [d1, d2, d3] => { results := [.lit (.bool true)], args := [d1, d2, d3] }
  | _ => none }
def fillsOrderRow : OpenClaim := { program := "ytoiecphddchknaa", sum := "8458baf07fddbff353315135cc95de0d053028ee884a34050860828018819de7", func := "gouache/gouachelaw26.FillsOrder", spec := "fillsOrder", unfollowed := true, recurses := true, apart := false }
def FillsOrderSaid : Prop := fillsOrderRow.holds Try.pinned (OpenSpec.ofChange fillsOrderSpec)

/-- ITS FALSE NEIGHBOUR: 'it returns false'. Refute it at one input. -/
def fillsOrderWrong : ChangeSpec := { name := "fillsOrder", fn := fun _ => fun
  | [d1, d2, d3] => { results := [.lit (.bool false)], args := [d1, d2, d3] }
  | _ => none }
def FillsOrderWrongFalsely : Prop := fillsOrderRow.holds Try.pinned (OpenSpec.ofChange fillsOrderWrong)

/-- 'gouachelaw26.FillsBoards': WHATEVER THE INPUT: true; the input reads as it did. -/
def fillsBoardsSpec : ChangeSpec := { name := "fillsBoards", fn := fun _ => fun
  | [d1, d2] => { results := [.lit (.bool true)], args := [d1, d2] }
  | _ => none }
def fillsBoardsRow : OpenClaim := { program := "ytoiecphddchknaa", sum := "8458baf07fddbff353315135cc95de0d053028ee884a34050860828018819de7", func := "gouache/gouachelaw26.FillsBoards", spec := "fillsBoards", unfollowed := true, recurses := true, apart := false }
def FillsBoardsSaid : Prop := fillsBoardsRow.holds Try.pinned (OpenSpec.ofChange fillsBoardsSpec)

/-- ITS FALSE NEIGHBOUR: 'it returns false'. Refute it at one input. -/
def fillsBoardsWrong : ChangeSpec := { name := "fillsBoards", fn := fun _ => fun
  | [d1, d2] => { results := [.lit (.bool false)], args := [d1, d2] }
  | _ => none }
def FillsBoardsWrongFalsely : Prop := fillsBoardsRow.holds Try.pinned (OpenSpec.ofChange fillsBoardsWrong)

/-- 'gouachelaw26.FillsSame': WHATEVER THE INPUT: true; the input reads as it did. -/
def fillsSameSpec : ChangeSpec := { name := "fillsSame", fn := fun _ => fun
  | [d1, d2, d3] => { results := [.lit (.bool true)], args := [d1, d2, d3] }
  | _ => none }
def fillsSameRow : OpenClaim := { program := "ytoiecphddchknaa", sum := "8458baf07fddbff353315135cc95de0d053028ee884a34050860828018819de7", func := "gouache/gouachelaw26.FillsSame", spec := "fillsSame", inPlace := ["math/bits.Add64", "math/bits.Sub64"], unfollowed := true, recurses := true, named := ["math/bits.divideError", "math/bits.overflowError"], apart := false }
def FillsSameSaid : Prop := fillsSameRow.holds Try.pinned (OpenSpec.ofChange fillsSameSpec)

/-- ITS FALSE NEIGHBOUR: 'it returns false'. Refute it at one input. -/
def fillsSameWrong : ChangeSpec := { name := "fillsSame", fn := fun _ => fun
  | [d1, d2, d3] => { results := [.lit (.bool false)], args := [d1, d2, d3] }
  | _ => none }
def FillsSameWrongFalsely : Prop := fillsSameRow.holds Try.pinned (OpenSpec.ofChange fillsSameWrong)

/- THE SECOND FORM. 'bulk': how many values and letters a reading holds, each counted each time it is reached (what is shared counts as often as it is met; a slice's spare places count too). A statement '..UptoSaid' is the law's where the arguments, and the package variables that the reading takes, are together of bulk at most 1048576: NARROWER than '..Said'. Prove '..Said' where nothing that the law and all that it calls make is longer than what came in: it says more and counts as full. Else prove '..UptoSaid'. A law counts once. -/
mutual
def uptoBulk {H : Type} : DataW H → Nat
  | .lit (.string bytes) => bytes.length + 1
  | .lit _ => 1
  | .nil => 1
  | .ptr d => uptoBulk d + 1
  | .slice elems spare => uptoBulkAll elems + uptoBulkAll spare + 1
  | .agg parts => uptoBulkAll parts + 1
  | .iface _ d => uptoBulk d + 1
  | .map entries => uptoBulkEntries entries + 1
  | .held _ => 1
def uptoBulkAll {H : Type} : List (DataW H) → Nat
  | [] => 0
  | d :: r => uptoBulk d + uptoBulkAll r
def uptoBulkEntries {H : Type} : List (Lit × DataW H) → Nat
  | [] => 0
  | x :: r => uptoBulkEntry x + uptoBulkEntries r
def uptoBulkEntry {H : Type} : Lit × DataW H → Nat
  | (.string bytes, d) => bytes.length + uptoBulk d + 1
  | (_, d) => uptoBulk d + 1
 end
def uptoSmall : (H : Type) → List (DataW H) → Bool := fun _ ds => decide (uptoBulkAll ds ≤ 1048576)
def OpenSpec.upto (s : _root_.Go.ChangeSpec) : _root_.Go.OpenSpec := { _root_.Go.OpenSpec.ofChange s with cond := some uptoSmall }

/-- 'gouachelaw26.FillsClaimed', WHERE WHAT IT READS IS OF BULK AT MOST 1048576: true; the input reads as it did. -/
def fillsClaimedUptoRow : OpenClaim := { program := "ytoiecphddchknaa", sum := "8458baf07fddbff353315135cc95de0d053028ee884a34050860828018819de7", func := "gouache/gouachelaw26.FillsClaimed", spec := "fillsClaimed", unfollowed := true, recurses := true, apart := false, narrowed := true }
def FillsClaimedUptoSaid : Prop := fillsClaimedUptoRow.holds Try.pinned (OpenSpec.upto fillsClaimedSpec)

/-- 'gouachelaw26.FillsExact', WHERE WHAT IT READS IS OF BULK AT MOST 1048576: true; the input reads as it did. -/
def fillsExactUptoRow : OpenClaim := { program := "ytoiecphddchknaa", sum := "8458baf07fddbff353315135cc95de0d053028ee884a34050860828018819de7", func := "gouache/gouachelaw26.FillsExact", spec := "fillsExact", inPlace := ["math/bits.Add64", "math/bits.Sub64"], unfollowed := true, recurses := true, apart := false, narrowed := true }
def FillsExactUptoSaid : Prop := fillsExactUptoRow.holds Try.pinned (OpenSpec.upto fillsExactSpec)

/-- 'gouachelaw26.FillsOf', WHERE WHAT IT READS IS OF BULK AT MOST 1048576: true; the input reads as it did. -/
def fillsOfUptoRow : OpenClaim := { program := "ytoiecphddchknaa", sum := "8458baf07fddbff353315135cc95de0d053028ee884a34050860828018819de7", func := "gouache/gouachelaw26.FillsOf", spec := "fillsOf", unfollowed := true, recurses := true, apart := false, narrowed := true }
def FillsOfUptoSaid : Prop := fillsOfUptoRow.holds Try.pinned (OpenSpec.upto fillsOfSpec)

/-- 'gouachelaw26.FillsNone', WHERE WHAT IT READS IS OF BULK AT MOST 1048576: true; the input reads as it did. -/
def fillsNoneUptoRow : OpenClaim := { program := "ytoiecphddchknaa", sum := "8458baf07fddbff353315135cc95de0d053028ee884a34050860828018819de7", func := "gouache/gouachelaw26.FillsNone", spec := "fillsNone", unfollowed := true, recurses := true, apart := false, narrowed := true }
def FillsNoneUptoSaid : Prop := fillsNoneUptoRow.holds Try.pinned (OpenSpec.upto fillsNoneSpec)

/-- 'gouachelaw26.FillsOrder', WHERE WHAT IT READS IS OF BULK AT MOST 1048576: true; the input reads as it did. -/
def fillsOrderUptoRow : OpenClaim := { program := "ytoiecphddchknaa", sum := "8458baf07fddbff353315135cc95de0d053028ee884a34050860828018819de7", func := "gouache/gouachelaw26.FillsOrder", spec := "fillsOrder", unfollowed := true, recurses := true, apart := false, narrowed := true }
def FillsOrderUptoSaid : Prop := fillsOrderUptoRow.holds Try.pinned (OpenSpec.upto fillsOrderSpec)

/-- 'gouachelaw26.FillsBoards', WHERE WHAT IT READS IS OF BULK AT MOST 1048576: true; the input reads as it did. -/
def fillsBoardsUptoRow : OpenClaim := { program := "ytoiecphddchknaa", sum := "8458baf07fddbff353315135cc95de0d053028ee884a34050860828018819de7", func := "gouache/gouachelaw26.FillsBoards", spec := "fillsBoards", unfollowed := true, recurses := true, apart := false, narrowed := true }
def FillsBoardsUptoSaid : Prop := fillsBoardsUptoRow.holds Try.pinned (OpenSpec.upto fillsBoardsSpec)

/-- 'gouachelaw26.FillsSame', WHERE WHAT IT READS IS OF BULK AT MOST 1048576: true; the input reads as it did. -/
def fillsSameUptoRow : OpenClaim := { program := "ytoiecphddchknaa", sum := "8458baf07fddbff353315135cc95de0d053028ee884a34050860828018819de7", func := "gouache/gouachelaw26.FillsSame", spec := "fillsSame", inPlace := ["math/bits.Add64", "math/bits.Sub64"], unfollowed := true, recurses := true, named := ["math/bits.divideError", "math/bits.overflowError"], apart := false, narrowed := true }
def FillsSameUptoSaid : Prop := fillsSameUptoRow.holds Try.pinned (OpenSpec.upto fillsSameSpec)

end Rows
end Go.Proofs.Ytoiecphddchknaa
