/-
  No cell of these rows narrows 'for every input' (looked for: loops, veiled, ifaces, maps, wideKeys, modest, calm, conditions, laid).
  DERIVED. THE GIVEN ROWS OF THIS SEAT. 5 by the template 'for every input the law returns true; each argument reads behind the call as it read before'; 0 by the template 'total and deterministic' (their statements: YtoighnoliehafaaTotals.lean).
  GIVEN WITH THE SEED: the statements are not yours to turn. If you find one false, say at which input.
  Laid BY PROGRAM, IN A SANDBOX (cutbox-rows.mjs): the forced cells as the released guide's own fill.sh prints them over the translation 81176b3cecd4902a… (all of the seat's roots in one cut). By AI agents, Wed Nov 11 2026. No macro, syntax, notation, axiom, sorry.
-/
import Derived.Test.YtoighnoliehafaaChecked
import GoSem.Claim
import GoSem.ClaimJoined
import GoSem.ClaimMapViews
import Derived.JoinedTies
import Derived.KernelRfl
namespace Go.Proofs.Ytoighnoliehafaa
/- THE CELL 'sum', in the pinned program and in every row, IS THE sha256 OF THE DUMP (.gsa) THAT YtoighnoliehafaaProg.lean LOADS. Nothing in Lean hashes anything: it is a label: what it is worth is what the hold of that sum in a sandbox is worth. -/
noncomputable def Try.pinned : Pinned := { name := "ytoighnoliehafaa", sum := "81176b3cecd4902a65d83569dd3f409b6936c9ef014dc9257b15f1128fc070fe", checked := Try.checked }
namespace Rows
def none {H : Type} : Left H := { results := [], args := [] }

/-- 'gouachelaw25.EdgesTurned': WHATEVER THE INPUT: true; the input reads as it did. -/
def edgesTurnedSpec : ChangeSpec := { name := "edgesTurned", fn := fun _ => fun
  | [d1, d2] => { results := [.lit (.bool true)], args := [d1, d2] }
  | _ => none }
def edgesTurnedRow : OpenClaim := { program := "ytoighnoliehafaa", sum := "81176b3cecd4902a65d83569dd3f409b6936c9ef014dc9257b15f1128fc070fe", func := "gouache/gouachelaw25.EdgesTurned", spec := "edgesTurned", apart := false }
def EdgesTurnedSaid : Prop := edgesTurnedRow.holds Try.pinned (OpenSpec.ofChange edgesTurnedSpec)

/-- ITS FALSE NEIGHBOUR: 'it returns false'. Refute it at one input. -/
def edgesTurnedWrong : ChangeSpec := { name := "edgesTurned", fn := fun _ => fun
  | [d1, d2] => { results := [.lit (.bool false)], args := [d1, d2] }
  | _ => none }
def EdgesTurnedWrongFalsely : Prop := edgesTurnedRow.holds Try.pinned (OpenSpec.ofChange edgesTurnedWrong)

/-- 'gouachelaw25.EdgesFour': WHATEVER THE INPUT: true; the input reads as it did. -/
def edgesFourSpec : ChangeSpec := { name := "edgesFour", fn := fun _ => fun
  | [d1, d2] => { results := [.lit (.bool true)], args := [d1, d2] }
  | _ => none }
def edgesFourRow : OpenClaim := { program := "ytoighnoliehafaa", sum := "81176b3cecd4902a65d83569dd3f409b6936c9ef014dc9257b15f1128fc070fe", func := "gouache/gouachelaw25.EdgesFour", spec := "edgesFour", apart := false }
def EdgesFourSaid : Prop := edgesFourRow.holds Try.pinned (OpenSpec.ofChange edgesFourSpec)

/-- ITS FALSE NEIGHBOUR: 'it returns false'. Refute it at one input. -/
def edgesFourWrong : ChangeSpec := { name := "edgesFour", fn := fun _ => fun
  | [d1, d2] => { results := [.lit (.bool false)], args := [d1, d2] }
  | _ => none }
def EdgesFourWrongFalsely : Prop := edgesFourRow.holds Try.pinned (OpenSpec.ofChange edgesFourWrong)

/-- 'gouachelaw25.EdgesOf': WHATEVER THE INPUT: true; the input reads as it did. -/
def edgesOfSpec : ChangeSpec := { name := "edgesOf", fn := fun _ => fun
  | [d1, d2] => { results := [.lit (.bool true)], args := [d1, d2] }
  | _ => none }
def edgesOfRow : OpenClaim := { program := "ytoighnoliehafaa", sum := "81176b3cecd4902a65d83569dd3f409b6936c9ef014dc9257b15f1128fc070fe", func := "gouache/gouachelaw25.EdgesOf", spec := "edgesOf", apart := false }
def EdgesOfSaid : Prop := edgesOfRow.holds Try.pinned (OpenSpec.ofChange edgesOfSpec)

/-- ITS FALSE NEIGHBOUR: 'it returns false'. Refute it at one input. -/
def edgesOfWrong : ChangeSpec := { name := "edgesOf", fn := fun _ => fun
  | [d1, d2] => { results := [.lit (.bool false)], args := [d1, d2] }
  | _ => none }
def EdgesOfWrongFalsely : Prop := edgesOfRow.holds Try.pinned (OpenSpec.ofChange edgesOfWrong)

/-- 'gouachelaw25.EdgesSum': WHATEVER THE INPUT: true; the input reads as it did. -/
def edgesSumSpec : ChangeSpec := { name := "edgesSum", fn := fun _ => fun
  | [d1, d2] => { results := [.lit (.bool true)], args := [d1, d2] }
  | _ => none }
def edgesSumRow : OpenClaim := { program := "ytoighnoliehafaa", sum := "81176b3cecd4902a65d83569dd3f409b6936c9ef014dc9257b15f1128fc070fe", func := "gouache/gouachelaw25.EdgesSum", spec := "edgesSum", apart := false }
def EdgesSumSaid : Prop := edgesSumRow.holds Try.pinned (OpenSpec.ofChange edgesSumSpec)

/-- ITS FALSE NEIGHBOUR: 'it returns false'. Refute it at one input. -/
def edgesSumWrong : ChangeSpec := { name := "edgesSum", fn := fun _ => fun
  | [d1, d2] => { results := [.lit (.bool false)], args := [d1, d2] }
  | _ => none }
def EdgesSumWrongFalsely : Prop := edgesSumRow.holds Try.pinned (OpenSpec.ofChange edgesSumWrong)

/-- 'gouachelaw25.EdgesMoved': WHATEVER THE INPUT: true; the input reads as it did. -/
def edgesMovedSpec : ChangeSpec := { name := "edgesMoved", fn := fun _ => fun
  | [d1, d2, d3] => { results := [.lit (.bool true)], args := [d1, d2, d3] }
  | _ => none }
def edgesMovedRow : OpenClaim := { program := "ytoighnoliehafaa", sum := "81176b3cecd4902a65d83569dd3f409b6936c9ef014dc9257b15f1128fc070fe", func := "gouache/gouachelaw25.EdgesMoved", spec := "edgesMoved", apart := false }
def EdgesMovedSaid : Prop := edgesMovedRow.holds Try.pinned (OpenSpec.ofChange edgesMovedSpec)

/-- ITS FALSE NEIGHBOUR: 'it returns false'. Refute it at one input. -/
def edgesMovedWrong : ChangeSpec := { name := "edgesMoved", fn := fun _ => fun
  | [d1, d2, d3] => { results := [.lit (.bool false)], args := [d1, d2, d3] }
  | _ => none }
def EdgesMovedWrongFalsely : Prop := edgesMovedRow.holds Try.pinned (OpenSpec.ofChange edgesMovedWrong)

/- THE SECOND FORM. 'bulk': how many values and letters a reading holds, each counted each time it is reached (what is shared counts as often as it is met; a slice's spare places count too). A statement '..UptoSaid' is the law's where the arguments, and the package variables that the reading takes, are together of bulk at most 1048576: NARROWER than '..Said'. Prove '..Said' where nothing that the law and all that it calls make is longer than what came in: it says more and counts as full. Else prove '..UptoSaid'. A law counts once. -/
mutual
def uptoBulk {H : Type} : DataW H → Nat
  | .lit (.string bytes) => bytes.length + 1
  | .lit _ => 1
  | .nil => 1
  | .ptr d => uptoBulk d + 1
  | .slice elems spare => uptoBulkAll elems + uptoBulkAll spare + 1
  | .agg parts => uptoBulkAll parts + 1
  | .iface _ d => uptoBulk d + 1
  | .map entries => uptoBulkEntries entries + 1
  | .held _ => 1
def uptoBulkAll {H : Type} : List (DataW H) → Nat
  | [] => 0
  | d :: r => uptoBulk d + uptoBulkAll r
def uptoBulkEntries {H : Type} : List (Lit × DataW H) → Nat
  | [] => 0
  | x :: r => uptoBulkEntry x + uptoBulkEntries r
def uptoBulkEntry {H : Type} : Lit × DataW H → Nat
  | (.string bytes, d) => bytes.length + uptoBulk d + 1
  | (_, d) => uptoBulk d + 1
 end
def uptoSmall : (H : Type) → List (DataW H) → Bool := fun _ ds => decide (uptoBulkAll ds ≤ 1048576)
def OpenSpec.upto (s : _root_.Go.ChangeSpec) : _root_.Go.OpenSpec := { _root_.Go.OpenSpec.ofChange s with cond := some uptoSmall }

/-- 'gouachelaw25.EdgesTurned', WHERE WHAT IT READS IS OF BULK AT MOST 1048576: true; the input reads as it did. -/
def edgesTurnedUptoRow : OpenClaim := { program := "ytoighnoliehafaa", sum := "81176b3cecd4902a65d83569dd3f409b6936c9ef014dc9257b15f1128fc070fe", func := "gouache/gouachelaw25.EdgesTurned", spec := "edgesTurned", apart := false, narrowed := true }
def EdgesTurnedUptoSaid : Prop := edgesTurnedUptoRow.holds Try.pinned (OpenSpec.upto edgesTurnedSpec)

/-- 'gouachelaw25.EdgesFour', WHERE WHAT IT READS IS OF BULK AT MOST 1048576: true; the input reads as it did. -/
def edgesFourUptoRow : OpenClaim := { program := "ytoighnoliehafaa", sum := "81176b3cecd4902a65d83569dd3f409b6936c9ef014dc9257b15f1128fc070fe", func := "gouache/gouachelaw25.EdgesFour", spec := "edgesFour", apart := false, narrowed := true }
def EdgesFourUptoSaid : Prop := edgesFourUptoRow.holds Try.pinned (OpenSpec.upto edgesFourSpec)

/-- 'gouachelaw25.EdgesOf', WHERE WHAT IT READS IS OF BULK AT MOST 1048576: true; the input reads as it did. -/
def edgesOfUptoRow : OpenClaim := { program := "ytoighnoliehafaa", sum := "81176b3cecd4902a65d83569dd3f409b6936c9ef014dc9257b15f1128fc070fe", func := "gouache/gouachelaw25.EdgesOf", spec := "edgesOf", apart := false, narrowed := true }
def EdgesOfUptoSaid : Prop := edgesOfUptoRow.holds Try.pinned (OpenSpec.upto edgesOfSpec)

/-- 'gouachelaw25.EdgesSum', WHERE WHAT IT READS IS OF BULK AT MOST 1048576: true; the input reads as it did. -/
def edgesSumUptoRow : OpenClaim := { program := "ytoighnoliehafaa", sum := "81176b3cecd4902a65d83569dd3f409b6936c9ef014dc9257b15f1128fc070fe", func := "gouache/gouachelaw25.EdgesSum", spec := "edgesSum", apart := false, narrowed := true }
def EdgesSumUptoSaid : Prop := edgesSumUptoRow.holds Try.pinned (OpenSpec.upto edgesSumSpec)

/-- 'gouachelaw25.EdgesMoved', WHERE WHAT IT READS IS OF BULK AT MOST 1048576: true; the input reads as it did. -/
def edgesMovedUptoRow : OpenClaim := { program := "ytoighnoliehafaa", sum := "81176b3cecd4902a65d83569dd3f409b6936c9ef014dc9257b15f1128fc070fe", func := "gouache/gouachelaw25.EdgesMoved", spec := "edgesMoved", apart := false, narrowed := true }
def EdgesMovedUptoSaid : Prop := edgesMovedUptoRow.holds Try.pinned (OpenSpec.upto edgesMovedSpec)

end Rows
end Go.Proofs.Ytoighnoliehafaa
