/-
  NARROWER THAN 'FOR EVERY INPUT', by the rows' own cells (each row's printed sentence says how): FixedsLed: laid · FixedsOf: laid · FixedsWide: laid.
  DERIVED. THE GIVEN ROWS OF THIS SEAT. 3 by the template 'for every input the law returns true; each argument reads behind the call as it read before'; 0 by the template 'total and deterministic' (their statements: YtnffpaenalccaaaDoorTotals.lean).
  GIVEN WITH THE SEED: the statements are not yours to turn. If you find one false, say at which input.
  Laid BY PROGRAM, IN A SANDBOX (cutbox-rows.mjs): the forced cells as the released guide's own fill.sh prints them over the translation dfe252e9565ad6ff… (all of the seat's roots in one cut). By AI agents, Wed Nov 11 2026. No macro, syntax, notation, axiom, sorry.
-/
import Derived.Test.YtnffpaenalccaaaDoorChecked
import GoSem.Claim
import GoSem.ClaimJoined
import GoSem.ClaimMapViews
import Derived.JoinedTies
import Derived.KernelRfl
namespace Go.Proofs.YtnffpaenalccaaaDoor
/- THE CELL 'sum', in the pinned program and in every row, IS THE sha256 OF THE DUMP (.gsa) THAT YtnffpaenalccaaaDoorProg.lean LOADS. Nothing in Lean hashes anything: it is a label: what it is worth is what the hold of that sum in a sandbox is worth. -/
noncomputable def Tryd.pinned : Pinned := { name := "ytnffpaenalccaaadoor", sum := "dfe252e9565ad6ffa2251ca16c9c8bebf8d1274ec6d5ab594fab34e8b44cb7b6", checked := Tryd.checked }
namespace Rows
def none {H : Type} : Left H := { results := [], args := [] }

/- WHAT THE LISTED PACKAGE-LEVEL VARIABLES READ AS WHEN THE CALL BEGINS. Each datum BY PROGRAM (the guide's laid-datum.mjs) off the statement by which the dump's own 'gosem.cut.vars' lays the variable. In a bare row this is a premise. The card (YtnffpaenalccaaaDoorCards.lean) ties it to the program's text. -/
def laid_gouache_fixeds_adds {H : Type} : DataW H := .agg [.lit (.int .i64 0), .lit (.int .i64 65535), .lit (.int .i64 32768)]

/-- 'gouachelaw02.FixedsLed': WHATEVER THE INPUT: true; the input reads as it did. -/
def fixedsLedSpec : ChangeSpec := { name := "fixedsLed", fn := fun _ => fun
  | [d1, d2, d3] => { results := [.lit (.bool true)], args := [d1, d2, d3] }
  | _ => none }
def fixedsLedRow : OpenClaim := { program := "ytnffpaenalccaaadoor", sum := "dfe252e9565ad6ffa2251ca16c9c8bebf8d1274ec6d5ab594fab34e8b44cb7b6", func := "gouache/gouachelaw02.FixedsLed", spec := "fixedsLed", inPlace := ["math/bits.Add64", "math/bits.Sub64"], unfollowed := true, recurses := true, named := ["math/bits.divideError", "math/bits.overflowError", "gouache/fixeds.adds"], apart := false, laid := [("gouache/fixeds.adds", laid_gouache_fixeds_adds)] }
def FixedsLedSaid : Prop := fixedsLedRow.holds Tryd.pinned (OpenSpec.ofChange fixedsLedSpec)

/-- ITS FALSE NEIGHBOUR: 'it returns false'. Refute it at one input. -/
def fixedsLedWrong : ChangeSpec := { name := "fixedsLed", fn := fun _ => fun
  | [d1, d2, d3] => { results := [.lit (.bool false)], args := [d1, d2, d3] }
  | _ => none }
def FixedsLedWrongFalsely : Prop := fixedsLedRow.holds Tryd.pinned (OpenSpec.ofChange fixedsLedWrong)

/-- 'gouachelaw02.FixedsOf': WHATEVER THE INPUT: true; the input reads as it did. -/
def fixedsOfSpec : ChangeSpec := { name := "fixedsOf", fn := fun _ => fun
  | [d1, d2] => { results := [.lit (.bool true)], args := [d1, d2] }
  | _ => none }
def fixedsOfRow : OpenClaim := { program := "ytnffpaenalccaaadoor", sum := "dfe252e9565ad6ffa2251ca16c9c8bebf8d1274ec6d5ab594fab34e8b44cb7b6", func := "gouache/gouachelaw02.FixedsOf", spec := "fixedsOf", inPlace := ["math/bits.Add64", "math/bits.Sub64"], unfollowed := true, recurses := true, named := ["math/bits.divideError", "math/bits.overflowError", "gouache/fixeds.adds"], apart := false, laid := [("gouache/fixeds.adds", laid_gouache_fixeds_adds)] }
def FixedsOfSaid : Prop := fixedsOfRow.holds Tryd.pinned (OpenSpec.ofChange fixedsOfSpec)

/-- ITS FALSE NEIGHBOUR: 'it returns false'. Refute it at one input. -/
def fixedsOfWrong : ChangeSpec := { name := "fixedsOf", fn := fun _ => fun
  | [d1, d2] => { results := [.lit (.bool false)], args := [d1, d2] }
  | _ => none }
def FixedsOfWrongFalsely : Prop := fixedsOfRow.holds Tryd.pinned (OpenSpec.ofChange fixedsOfWrong)

/-- 'gouachelaw02.FixedsWide': WHATEVER THE INPUT: true; the input reads as it did. -/
def fixedsWideSpec : ChangeSpec := { name := "fixedsWide", fn := fun _ => fun
  | [d1, d2] => { results := [.lit (.bool true)], args := [d1, d2] }
  | _ => none }
def fixedsWideRow : OpenClaim := { program := "ytnffpaenalccaaadoor", sum := "dfe252e9565ad6ffa2251ca16c9c8bebf8d1274ec6d5ab594fab34e8b44cb7b6", func := "gouache/gouachelaw02.FixedsWide", spec := "fixedsWide", inPlace := ["math/bits.Add64", "math/bits.Sub64"], unfollowed := true, recurses := true, named := ["math/bits.divideError", "math/bits.overflowError", "gouache/fixeds.adds"], apart := false, laid := [("gouache/fixeds.adds", laid_gouache_fixeds_adds)] }
def FixedsWideSaid : Prop := fixedsWideRow.holds Tryd.pinned (OpenSpec.ofChange fixedsWideSpec)

/-- ITS FALSE NEIGHBOUR: 'it returns false'. Refute it at one input. -/
def fixedsWideWrong : ChangeSpec := { name := "fixedsWide", fn := fun _ => fun
  | [d1, d2] => { results := [.lit (.bool false)], args := [d1, d2] }
  | _ => none }
def FixedsWideWrongFalsely : Prop := fixedsWideRow.holds Tryd.pinned (OpenSpec.ofChange fixedsWideWrong)

/- THE SECOND FORM. 'bulk': how many values and letters a reading holds, each counted each time it is reached (what is shared counts as often as it is met; a slice's spare places count too). A statement '..UptoSaid' is the law's where the arguments, and the package variables that the reading takes, are together of bulk at most 1048576: NARROWER than '..Said'. Prove '..Said' where nothing that the law and all that it calls make is longer than what came in: it says more and counts as full. Else prove '..UptoSaid'. A law counts once. -/
mutual
def uptoBulk {H : Type} : DataW H → Nat
  | .lit (.string bytes) => bytes.length + 1
  | .lit _ => 1
  | .nil => 1
  | .ptr d => uptoBulk d + 1
  | .slice elems spare => uptoBulkAll elems + uptoBulkAll spare + 1
  | .agg parts => uptoBulkAll parts + 1
  | .iface _ d => uptoBulk d + 1
  | .map entries => uptoBulkEntries entries + 1
  | .held _ => 1
def uptoBulkAll {H : Type} : List (DataW H) → Nat
  | [] => 0
  | d :: r => uptoBulk d + uptoBulkAll r
def uptoBulkEntries {H : Type} : List (Lit × DataW H) → Nat
  | [] => 0
  | x :: r => uptoBulkEntry x + uptoBulkEntries r
def uptoBulkEntry {H : Type} : Lit × DataW H → Nat
  | (.string bytes, d) => bytes.length + uptoBulk d + 1
  | (_, d) => uptoBulk d + 1
 end
def uptoSmall : (H : Type) → List (DataW H) → Bool := fun _ ds => decide (uptoBulkAll ds ≤ 1048576)
def OpenSpec.upto (s : _root_.Go.ChangeSpec) : _root_.Go.OpenSpec := { _root_.Go.OpenSpec.ofChange s with cond := some uptoSmall }

/-- 'gouachelaw02.FixedsLed', WHERE WHAT IT READS IS OF BULK AT MOST 1048576: true; the input reads as it did. -/
def fixedsLedUptoRow : OpenClaim := { program := "ytnffpaenalccaaadoor", sum := "dfe252e9565ad6ffa2251ca16c9c8bebf8d1274ec6d5ab594fab34e8b44cb7b6", func := "gouache/gouachelaw02.FixedsLed", spec := "fixedsLed", inPlace := ["math/bits.Add64", "math/bits.Sub64"], unfollowed := true, recurses := true, named := ["math/bits.divideError", "math/bits.overflowError", "gouache/fixeds.adds"], apart := false, laid := [("gouache/fixeds.adds", laid_gouache_fixeds_adds)], narrowed := true }
def FixedsLedUptoSaid : Prop := fixedsLedUptoRow.holds Tryd.pinned (OpenSpec.upto fixedsLedSpec)

/-- 'gouachelaw02.FixedsOf', WHERE WHAT IT READS IS OF BULK AT MOST 1048576: true; the input reads as it did. -/
def fixedsOfUptoRow : OpenClaim := { program := "ytnffpaenalccaaadoor", sum := "dfe252e9565ad6ffa2251ca16c9c8bebf8d1274ec6d5ab594fab34e8b44cb7b6", func := "gouache/gouachelaw02.FixedsOf", spec := "fixedsOf", inPlace := ["math/bits.Add64", "math/bits.Sub64"], unfollowed := true, recurses := true, named := ["math/bits.divideError", "math/bits.overflowError", "gouache/fixeds.adds"], apart := false, laid := [("gouache/fixeds.adds", laid_gouache_fixeds_adds)], narrowed := true }
def FixedsOfUptoSaid : Prop := fixedsOfUptoRow.holds Tryd.pinned (OpenSpec.upto fixedsOfSpec)

/-- 'gouachelaw02.FixedsWide', WHERE WHAT IT READS IS OF BULK AT MOST 1048576: true; the input reads as it did. -/
def fixedsWideUptoRow : OpenClaim := { program := "ytnffpaenalccaaadoor", sum := "dfe252e9565ad6ffa2251ca16c9c8bebf8d1274ec6d5ab594fab34e8b44cb7b6", func := "gouache/gouachelaw02.FixedsWide", spec := "fixedsWide", inPlace := ["math/bits.Add64", "math/bits.Sub64"], unfollowed := true, recurses := true, named := ["math/bits.divideError", "math/bits.overflowError", "gouache/fixeds.adds"], apart := false, laid := [("gouache/fixeds.adds", laid_gouache_fixeds_adds)], narrowed := true }
def FixedsWideUptoSaid : Prop := fixedsWideUptoRow.holds Tryd.pinned (OpenSpec.upto fixedsWideSpec)

end Rows
end Go.Proofs.YtnffpaenalccaaaDoor
