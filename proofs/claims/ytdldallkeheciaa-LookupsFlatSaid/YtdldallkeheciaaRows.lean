/-
  NARROWER THAN 'FOR EVERY INPUT', by the rows' own cells (each row's printed sentence says how): LookupsOf: loops · LookupsFlat: loops · LookupsHeld: loops · LookupsBetween: loops · LookupsAt: loops.
  DERIVED. THE GIVEN ROWS OF THIS SEAT. 5 by the template 'for every input the law returns true; each argument reads behind the call as it read before'; 0 by the template 'total and deterministic' (their statements: YtdldallkeheciaaTotals.lean).
  GIVEN WITH THE SEED: the statements are not yours to turn. If you find one false, say at which input.
  Laid BY PROGRAM, IN A SANDBOX (cutbox-rows.mjs): the forced cells as the released guide's own fill.sh prints them over the translation 284d2c1edfaaed31… (all of the seat's roots in one cut). By AI agents, Wed Nov 11 2026. No macro, syntax, notation, axiom, sorry.
-/
import Derived.Test.YtdldallkeheciaaChecked
import GoSem.Claim
import GoSem.ClaimJoined
import GoSem.ClaimMapViews
import Derived.JoinedTies
import Derived.KernelRfl
namespace Go.Proofs.Ytdldallkeheciaa
/- THE CELL 'sum', in the pinned program and in every row, IS THE sha256 OF THE DUMP (.gsa) THAT YtdldallkeheciaaProg.lean LOADS. Nothing in Lean hashes anything: it is a label: what it is worth is what the hold of that sum in a sandbox is worth. -/
noncomputable def Try.pinned : Pinned := { name := "ytdldallkeheciaa", sum := "284d2c1edfaaed313e862a29167f04d999170dc939cc403018f681e1f13e622d", checked := Try.checked }
namespace Rows
def none {H : Type} : Left H := { results := [], args := [] }

/-- 'gouachelaw14.LookupsOf': WHATEVER THE INPUT: true; the input reads as it did. -/
def lookupsOfSpec : ChangeSpec := { name := "lookupsOf", fn := fun _ => fun
  | [d1, d2] => { results := [.lit (.bool true)], args := [d1, d2] }
  | _ => none }
def lookupsOfRow : OpenClaim := { program := "ytdldallkeheciaa", sum := "284d2c1edfaaed313e862a29167f04d999170dc939cc403018f681e1f13e622d", func := "gouache/gouachelaw14.LookupsOf", spec := "lookupsOf", inPlace := ["math/bits.Add64", "math/bits.Sub64"], unfollowed := true, recurses := true, named := ["math/bits.divideError", "math/bits.overflowError"], loops := true, apart := false }
def LookupsOfSaid : Prop := lookupsOfRow.holds Try.pinned (OpenSpec.ofChange lookupsOfSpec)

/-- ITS FALSE NEIGHBOUR: 'it returns false'. Refute it at one input. -/
def lookupsOfWrong : ChangeSpec := { name := "lookupsOf", fn := fun _ => fun
  | [d1, d2] => { results := [.lit (.bool false)], args := [d1, d2] }
  | _ => none }
def LookupsOfWrongFalsely : Prop := lookupsOfRow.holds Try.pinned (OpenSpec.ofChange lookupsOfWrong)

/-- 'gouachelaw14.LookupsFlat': WHATEVER THE INPUT: true; the input reads as it did. -/
def lookupsFlatSpec : ChangeSpec := { name := "lookupsFlat", fn := fun _ => fun
  | [d1, d2, d3] => { results := [.lit (.bool true)], args := [d1, d2, d3] }
  | _ => none }
def lookupsFlatRow : OpenClaim := { program := "ytdldallkeheciaa", sum := "284d2c1edfaaed313e862a29167f04d999170dc939cc403018f681e1f13e622d", func := "gouache/gouachelaw14.LookupsFlat", spec := "lookupsFlat", inPlace := ["math/bits.Add64", "math/bits.Sub64"], unfollowed := true, recurses := true, named := ["math/bits.divideError", "math/bits.overflowError"], loops := true, apart := false }
def LookupsFlatSaid : Prop := lookupsFlatRow.holds Try.pinned (OpenSpec.ofChange lookupsFlatSpec)

/-- ITS FALSE NEIGHBOUR: 'it returns false'. Refute it at one input. -/
def lookupsFlatWrong : ChangeSpec := { name := "lookupsFlat", fn := fun _ => fun
  | [d1, d2, d3] => { results := [.lit (.bool false)], args := [d1, d2, d3] }
  | _ => none }
def LookupsFlatWrongFalsely : Prop := lookupsFlatRow.holds Try.pinned (OpenSpec.ofChange lookupsFlatWrong)

/-- 'gouachelaw14.LookupsHeld': WHATEVER THE INPUT: true; the input reads as it did. -/
def lookupsHeldSpec : ChangeSpec := { name := "lookupsHeld", fn := fun _ => fun
  | [d1, d2] => { results := [.lit (.bool true)], args := [d1, d2] }
  | _ => none }
def lookupsHeldRow : OpenClaim := { program := "ytdldallkeheciaa", sum := "284d2c1edfaaed313e862a29167f04d999170dc939cc403018f681e1f13e622d", func := "gouache/gouachelaw14.LookupsHeld", spec := "lookupsHeld", inPlace := ["math/bits.Add64", "math/bits.Sub64"], unfollowed := true, recurses := true, named := ["math/bits.divideError", "math/bits.overflowError"], loops := true, apart := false }
def LookupsHeldSaid : Prop := lookupsHeldRow.holds Try.pinned (OpenSpec.ofChange lookupsHeldSpec)

/-- ITS FALSE NEIGHBOUR: 'it returns false'. Refute it at one input. -/
def lookupsHeldWrong : ChangeSpec := { name := "lookupsHeld", fn := fun _ => fun
  | [d1, d2] => { results := [.lit (.bool false)], args := [d1, d2] }
  | _ => none }
def LookupsHeldWrongFalsely : Prop := lookupsHeldRow.holds Try.pinned (OpenSpec.ofChange lookupsHeldWrong)

/-- 'gouachelaw14.LookupsBetween': WHATEVER THE INPUT: true; the input reads as it did. -/
def lookupsBetweenSpec : ChangeSpec := { name := "lookupsBetween", fn := fun _ => fun
  | [d1, d2] => { results := [.lit (.bool true)], args := [d1, d2] }
  | _ => none }
def lookupsBetweenRow : OpenClaim := { program := "ytdldallkeheciaa", sum := "284d2c1edfaaed313e862a29167f04d999170dc939cc403018f681e1f13e622d", func := "gouache/gouachelaw14.LookupsBetween", spec := "lookupsBetween", inPlace := ["math/bits.Add64", "math/bits.Sub64"], unfollowed := true, recurses := true, named := ["math/bits.divideError", "math/bits.overflowError"], loops := true, apart := false }
def LookupsBetweenSaid : Prop := lookupsBetweenRow.holds Try.pinned (OpenSpec.ofChange lookupsBetweenSpec)

/-- ITS FALSE NEIGHBOUR: 'it returns false'. Refute it at one input. -/
def lookupsBetweenWrong : ChangeSpec := { name := "lookupsBetween", fn := fun _ => fun
  | [d1, d2] => { results := [.lit (.bool false)], args := [d1, d2] }
  | _ => none }
def LookupsBetweenWrongFalsely : Prop := lookupsBetweenRow.holds Try.pinned (OpenSpec.ofChange lookupsBetweenWrong)

/-- 'gouachelaw14.LookupsAt': WHATEVER THE INPUT: true; the input reads as it did. -/
def lookupsAtSpec : ChangeSpec := { name := "lookupsAt", fn := fun _ => fun
  | [d1, d2] => { results := [.lit (.bool true)], args := [d1, d2] }
  | _ => none }
def lookupsAtRow : OpenClaim := { program := "ytdldallkeheciaa", sum := "284d2c1edfaaed313e862a29167f04d999170dc939cc403018f681e1f13e622d", func := "gouache/gouachelaw14.LookupsAt", spec := "lookupsAt", inPlace := ["math/bits.Add64", "math/bits.Sub64"], unfollowed := true, recurses := true, named := ["math/bits.divideError", "math/bits.overflowError"], loops := true, apart := false }
def LookupsAtSaid : Prop := lookupsAtRow.holds Try.pinned (OpenSpec.ofChange lookupsAtSpec)

/-- ITS FALSE NEIGHBOUR: 'it returns false'. Refute it at one input. -/
def lookupsAtWrong : ChangeSpec := { name := "lookupsAt", fn := fun _ => fun
  | [d1, d2] => { results := [.lit (.bool false)], args := [d1, d2] }
  | _ => none }
def LookupsAtWrongFalsely : Prop := lookupsAtRow.holds Try.pinned (OpenSpec.ofChange lookupsAtWrong)

/- THE SECOND FORM. 'bulk': how many values and letters a reading holds, each counted each time it is reached (what is shared counts as often as it is met; a slice's spare places count too). A statement '..UptoSaid' is the law's where the arguments, and the package variables that the reading takes, are together of bulk at most 1048576: NARROWER than '..Said'. Prove '..Said' where nothing that the law and all that it calls make is longer than what came in: it says more and counts as full. Else prove '..UptoSaid'. A law counts once. -/
mutual
def uptoBulk {H : Type} : DataW H → Nat
  | .lit (.string bytes) => bytes.length + 1
  | .lit _ => 1
  | .nil => 1
  | .ptr d => uptoBulk d + 1
  | .slice elems spare => uptoBulkAll elems + uptoBulkAll spare + 1
  | .agg parts => uptoBulkAll parts + 1
  | .iface _ d => uptoBulk d + 1
  | .map entries => uptoBulkEntries entries + 1
  | .held _ => 1
def uptoBulkAll {H : Type} : List (DataW H) → Nat
  | [] => 0
  | d :: r => uptoBulk d + uptoBulkAll r
def uptoBulkEntries {H : Type} : List (Lit × DataW H) → Nat
  | [] => 0
  | x :: r => uptoBulkEntry x + uptoBulkEntries r
def uptoBulkEntry {H : Type} : Lit × DataW H → Nat
  | (.string bytes, d) => bytes.length + uptoBulk d + 1
  | (_, d) => uptoBulk d + 1
 end
def uptoSmall : (H : Type) → List (DataW H) → Bool := fun _ ds => decide (uptoBulkAll ds ≤ 1048576)
def OpenSpec.upto (s : _root_.Go.ChangeSpec) : _root_.Go.OpenSpec := { _root_.Go.OpenSpec.ofChange s with cond := some uptoSmall }

/-- 'gouachelaw14.LookupsOf', WHERE WHAT IT READS IS OF BULK AT MOST 1048576: true; the input reads as it did. -/
def lookupsOfUptoRow : OpenClaim := { program := "ytdldallkeheciaa", sum := "284d2c1edfaaed313e862a29167f04d999170dc939cc403018f681e1f13e622d", func := "gouache/gouachelaw14.LookupsOf", spec := "lookupsOf", inPlace := ["math/bits.Add64", "math/bits.Sub64"], unfollowed := true, recurses := true, named := ["math/bits.divideError", "math/bits.overflowError"], loops := true, apart := false, narrowed := true }
def LookupsOfUptoSaid : Prop := lookupsOfUptoRow.holds Try.pinned (OpenSpec.upto lookupsOfSpec)

/-- 'gouachelaw14.LookupsFlat', WHERE WHAT IT READS IS OF BULK AT MOST 1048576: true; the input reads as it did. -/
def lookupsFlatUptoRow : OpenClaim := { program := "ytdldallkeheciaa", sum := "284d2c1edfaaed313e862a29167f04d999170dc939cc403018f681e1f13e622d", func := "gouache/gouachelaw14.LookupsFlat", spec := "lookupsFlat", inPlace := ["math/bits.Add64", "math/bits.Sub64"], unfollowed := true, recurses := true, named := ["math/bits.divideError", "math/bits.overflowError"], loops := true, apart := false, narrowed := true }
def LookupsFlatUptoSaid : Prop := lookupsFlatUptoRow.holds Try.pinned (OpenSpec.upto lookupsFlatSpec)

/-- 'gouachelaw14.LookupsHeld', WHERE WHAT IT READS IS OF BULK AT MOST 1048576: true; the input reads as it did. -/
def lookupsHeldUptoRow : OpenClaim := { program := "ytdldallkeheciaa", sum := "284d2c1edfaaed313e862a29167f04d999170dc939cc403018f681e1f13e622d", func := "gouache/gouachelaw14.LookupsHeld", spec := "lookupsHeld", inPlace := ["math/bits.Add64", "math/bits.Sub64"], unfollowed := true, recurses := true, named := ["math/bits.divideError", "math/bits.overflowError"], loops := true, apart := false, narrowed := true }
def LookupsHeldUptoSaid : Prop := lookupsHeldUptoRow.holds Try.pinned (OpenSpec.upto lookupsHeldSpec)

/-- 'gouachelaw14.LookupsBetween', WHERE WHAT IT READS IS OF BULK AT MOST 1048576: true; the input reads as it did. -/
def lookupsBetweenUptoRow : OpenClaim := { program := "ytdldallkeheciaa", sum := "284d2c1edfaaed313e862a29167f04d999170dc939cc403018f681e1f13e622d", func := "gouache/gouachelaw14.LookupsBetween", spec := "lookupsBetween", inPlace := ["math/bits.Add64", "math/bits.Sub64"], unfollowed := true, recurses := true, named := ["math/bits.divideError", "math/bits.overflowError"], loops := true, apart := false, narrowed := true }
def LookupsBetweenUptoSaid : Prop := lookupsBetweenUptoRow.holds Try.pinned (OpenSpec.upto lookupsBetweenSpec)

/-- 'gouachelaw14.LookupsAt', WHERE WHAT IT READS IS OF BULK AT MOST 1048576: true; the input reads as it did. -/
def lookupsAtUptoRow : OpenClaim := { program := "ytdldallkeheciaa", sum := "284d2c1edfaaed313e862a29167f04d999170dc939cc403018f681e1f13e622d", func := "gouache/gouachelaw14.LookupsAt", spec := "lookupsAt", inPlace := ["math/bits.Add64", "math/bits.Sub64"], unfollowed := true, recurses := true, named := ["math/bits.divideError", "math/bits.overflowError"], loops := true, apart := false, narrowed := true }
def LookupsAtUptoSaid : Prop := lookupsAtUptoRow.holds Try.pinned (OpenSpec.upto lookupsAtSpec)

end Rows
end Go.Proofs.Ytdldallkeheciaa
