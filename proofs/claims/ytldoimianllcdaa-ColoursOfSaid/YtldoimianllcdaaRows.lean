/-
  No cell of these rows narrows 'for every input' (looked for: loops, veiled, ifaces, maps, wideKeys, modest, calm, conditions, laid).
  DERIVED. THE GIVEN ROWS OF THIS SEAT. 6 by the template 'for every input the law returns true; each argument reads behind the call as it read before'; 0 by the template 'total and deterministic' (their statements: YtldoimianllcdaaTotals.lean).
  GIVEN WITH THE SEED: the statements are not yours to turn. If you find one false, say at which input.
  Laid BY PROGRAM, IN A SANDBOX (cutbox-rows.mjs): the forced cells as the released guide's own fill.sh prints them over the translation d0810b4d7cec3fc3… (all of the seat's roots in one cut). By AI agents, Wed Nov 11 2026. No macro, syntax, notation, axiom, sorry.
-/
import Derived.Test.YtldoimianllcdaaChecked
import GoSem.Claim
import GoSem.ClaimJoined
import GoSem.ClaimMapViews
import Derived.JoinedTies
import Derived.KernelRfl
namespace Go.Proofs.Ytldoimianllcdaa
/- THE CELL 'sum', in the pinned program and in every row, IS THE sha256 OF THE DUMP (.gsa) THAT YtldoimianllcdaaProg.lean LOADS. Nothing in Lean hashes anything: it is a label: what it is worth is what the hold of that sum in a sandbox is worth. -/
noncomputable def Try.pinned : Pinned := { name := "ytldoimianllcdaa", sum := "d0810b4d7cec3fc3e66df9aea5e01928a5926735c6c13203215a88fa4833f1e9", checked := Try.checked }
namespace Rows
def none {H : Type} : Left H := { results := [], args := [] }

/-- 'gouachelaw29.ColoursOf': WHATEVER THE INPUT: true; the input reads as it did. -/
def coloursOfSpec : ChangeSpec := { name := "coloursOf", fn := fun _ => fun
  | [d1, d2, d3] => { results := [.lit (.bool true)], args := [d1, d2, d3] }
  | _ => none }
def coloursOfRow : OpenClaim := { program := "ytldoimianllcdaa", sum := "d0810b4d7cec3fc3e66df9aea5e01928a5926735c6c13203215a88fa4833f1e9", func := "gouache/gouachelaw29.ColoursOf", spec := "coloursOf", inPlace := ["math/bits.Add64", "math/bits.Sub64"], unfollowed := true, recurses := true, named := ["math/bits.divideError", "math/bits.overflowError"], plainKeys := false, apart := false }
def ColoursOfSaid : Prop := coloursOfRow.holds Try.pinned (OpenSpec.ofChange coloursOfSpec)

/-- ITS FALSE NEIGHBOUR: 'it returns false'. Refute it at one input. -/
def coloursOfWrong : ChangeSpec := { name := "coloursOf", fn := fun _ => fun
  | [d1, d2, d3] => { results := [.lit (.bool false)], args := [d1, d2, d3] }
  | _ => none }
def ColoursOfWrongFalsely : Prop := coloursOfRow.holds Try.pinned (OpenSpec.ofChange coloursOfWrong)

/-- 'gouachelaw29.ColoursBack': WHATEVER THE INPUT: true; the input reads as it did. -/
def coloursBackSpec : ChangeSpec := { name := "coloursBack", fn := fun _ => fun
  | [d] => { results := [.lit (.bool true)], args := [d] }
  | _ => none }
def coloursBackRow : OpenClaim := { program := "ytldoimianllcdaa", sum := "d0810b4d7cec3fc3e66df9aea5e01928a5926735c6c13203215a88fa4833f1e9", func := "gouache/gouachelaw29.ColoursBack", spec := "coloursBack", inPlace := ["math/bits.Add64", "math/bits.Sub64"], unfollowed := true, recurses := true, named := ["math/bits.divideError", "math/bits.overflowError"], plainKeys := false, apart := false }
def ColoursBackSaid : Prop := coloursBackRow.holds Try.pinned (OpenSpec.ofChange coloursBackSpec)

/-- ITS FALSE NEIGHBOUR: 'it returns false'. Refute it at one input. -/
def coloursBackWrong : ChangeSpec := { name := "coloursBack", fn := fun _ => fun
  | [d] => { results := [.lit (.bool false)], args := [d] }
  | _ => none }
def ColoursBackWrongFalsely : Prop := coloursBackRow.holds Try.pinned (OpenSpec.ofChange coloursBackWrong)

/-- 'gouachelaw29.ColoursHeld': WHATEVER THE INPUT: true; the input reads as it did. -/
def coloursHeldSpec : ChangeSpec := { name := "coloursHeld", fn := fun _ => fun
  | [d1, d2] => { results := [.lit (.bool true)], args := [d1, d2] }
  | _ => none }
def coloursHeldRow : OpenClaim := { program := "ytldoimianllcdaa", sum := "d0810b4d7cec3fc3e66df9aea5e01928a5926735c6c13203215a88fa4833f1e9", func := "gouache/gouachelaw29.ColoursHeld", spec := "coloursHeld", inPlace := ["math/bits.Add64", "math/bits.Sub64"], unfollowed := true, recurses := true, named := ["math/bits.divideError", "math/bits.overflowError"], plainKeys := false, apart := false }
def ColoursHeldSaid : Prop := coloursHeldRow.holds Try.pinned (OpenSpec.ofChange coloursHeldSpec)

/-- ITS FALSE NEIGHBOUR: 'it returns false'. Refute it at one input. -/
def coloursHeldWrong : ChangeSpec := { name := "coloursHeld", fn := fun _ => fun
  | [d1, d2] => { results := [.lit (.bool false)], args := [d1, d2] }
  | _ => none }
def ColoursHeldWrongFalsely : Prop := coloursHeldRow.holds Try.pinned (OpenSpec.ofChange coloursHeldWrong)

/-- 'gouachelaw29.ColoursEnds': WHATEVER THE INPUT: true; the input reads as it did. -/
def coloursEndsSpec : ChangeSpec := { name := "coloursEnds", fn := fun _ => fun
  | [d] => { results := [.lit (.bool true)], args := [d] }
  | _ => none }
def coloursEndsRow : OpenClaim := { program := "ytldoimianllcdaa", sum := "d0810b4d7cec3fc3e66df9aea5e01928a5926735c6c13203215a88fa4833f1e9", func := "gouache/gouachelaw29.ColoursEnds", spec := "coloursEnds", inPlace := ["math/bits.Add64", "math/bits.Sub64"], unfollowed := true, recurses := true, named := ["math/bits.divideError", "math/bits.overflowError"], plainKeys := false, apart := false }
def ColoursEndsSaid : Prop := coloursEndsRow.holds Try.pinned (OpenSpec.ofChange coloursEndsSpec)

/-- ITS FALSE NEIGHBOUR: 'it returns false'. Refute it at one input. -/
def coloursEndsWrong : ChangeSpec := { name := "coloursEnds", fn := fun _ => fun
  | [d] => { results := [.lit (.bool false)], args := [d] }
  | _ => none }
def ColoursEndsWrongFalsely : Prop := coloursEndsRow.holds Try.pinned (OpenSpec.ofChange coloursEndsWrong)

/-- 'gouachelaw29.ColoursBytes': WHATEVER THE INPUT: true; the input reads as it did. -/
def coloursBytesSpec : ChangeSpec := { name := "coloursBytes", fn := fun _ => fun
  | [d1, d2, d3] => { results := [.lit (.bool true)], args := [d1, d2, d3] }
  | _ => none }
def coloursBytesRow : OpenClaim := { program := "ytldoimianllcdaa", sum := "d0810b4d7cec3fc3e66df9aea5e01928a5926735c6c13203215a88fa4833f1e9", func := "gouache/gouachelaw29.ColoursBytes", spec := "coloursBytes", inPlace := ["math/bits.Add64", "math/bits.Sub64"], unfollowed := true, recurses := true, named := ["math/bits.divideError", "math/bits.overflowError"], plainKeys := false, apart := false }
def ColoursBytesSaid : Prop := coloursBytesRow.holds Try.pinned (OpenSpec.ofChange coloursBytesSpec)

/-- ITS FALSE NEIGHBOUR: 'it returns false'. Refute it at one input. -/
def coloursBytesWrong : ChangeSpec := { name := "coloursBytes", fn := fun _ => fun
  | [d1, d2, d3] => { results := [.lit (.bool false)], args := [d1, d2, d3] }
  | _ => none }
def ColoursBytesWrongFalsely : Prop := coloursBytesRow.holds Try.pinned (OpenSpec.ofChange coloursBytesWrong)

/-- 'gouachelaw29.ColoursMix': WHATEVER THE INPUT: true; the input reads as it did. -/
def coloursMixSpec : ChangeSpec := { name := "coloursMix", fn := fun _ => fun
  | [d1, d2] => { results := [.lit (.bool true)], args := [d1, d2] }
  | _ => none }
def coloursMixRow : OpenClaim := { program := "ytldoimianllcdaa", sum := "d0810b4d7cec3fc3e66df9aea5e01928a5926735c6c13203215a88fa4833f1e9", func := "gouache/gouachelaw29.ColoursMix", spec := "coloursMix", inPlace := ["math/bits.Add64", "math/bits.Sub64"], unfollowed := true, recurses := true, named := ["math/bits.divideError", "math/bits.overflowError"], plainKeys := false, apart := false }
def ColoursMixSaid : Prop := coloursMixRow.holds Try.pinned (OpenSpec.ofChange coloursMixSpec)

/-- ITS FALSE NEIGHBOUR: 'it returns false'. Refute it at one input. -/
def coloursMixWrong : ChangeSpec := { name := "coloursMix", fn := fun _ => fun
  | [d1, d2] => { results := [.lit (.bool false)], args := [d1, d2] }
  | _ => none }
def ColoursMixWrongFalsely : Prop := coloursMixRow.holds Try.pinned (OpenSpec.ofChange coloursMixWrong)

/- THE SECOND FORM. 'bulk': how many values and letters a reading holds, each counted each time it is reached (what is shared counts as often as it is met; a slice's spare places count too). A statement '..UptoSaid' is the law's where the arguments, and the package variables that the reading takes, are together of bulk at most 1048576: NARROWER than '..Said'. Prove '..Said' where nothing that the law and all that it calls make is longer than what came in: it says more and counts as full. Else prove '..UptoSaid'. A law counts once. -/
mutual
def uptoBulk {H : Type} : DataW H → Nat
  | .lit (.string bytes) => bytes.length + 1
  | .lit _ => 1
  | .nil => 1
  | .ptr d => uptoBulk d + 1
  | .slice elems spare => uptoBulkAll elems + uptoBulkAll spare + 1
  | .agg parts => uptoBulkAll parts + 1
  | .iface _ d => uptoBulk d + 1
  | .map entries => uptoBulkEntries entries + 1
  | .held _ => 1
def uptoBulkAll {H : Type} : List (DataW H) → Nat
  | [] => 0
  | d :: r => uptoBulk d + uptoBulkAll r
def uptoBulkEntries {H : Type} : List (Lit × DataW H) → Nat
  | [] => 0
  | x :: r => uptoBulkEntry x + uptoBulkEntries r
def uptoBulkEntry {H : Type} : Lit × DataW H → Nat
  | (.string bytes, d) => bytes.length + uptoBulk d + 1
  | (_, d) => uptoBulk d + 1
 end
def uptoSmall : (H : Type) → List (DataW H) → Bool := fun _ ds => decide (uptoBulkAll ds ≤ 1048576)
def OpenSpec.upto (s : _root_.Go.ChangeSpec) : _root_.Go.OpenSpec := { _root_.Go.OpenSpec.ofChange s with cond := some uptoSmall }

/-- 'gouachelaw29.ColoursOf', WHERE WHAT IT READS IS OF BULK AT MOST 1048576: true; the input reads as it did. -/
def coloursOfUptoRow : OpenClaim := { program := "ytldoimianllcdaa", sum := "d0810b4d7cec3fc3e66df9aea5e01928a5926735c6c13203215a88fa4833f1e9", func := "gouache/gouachelaw29.ColoursOf", spec := "coloursOf", inPlace := ["math/bits.Add64", "math/bits.Sub64"], unfollowed := true, recurses := true, named := ["math/bits.divideError", "math/bits.overflowError"], plainKeys := false, apart := false, narrowed := true }
def ColoursOfUptoSaid : Prop := coloursOfUptoRow.holds Try.pinned (OpenSpec.upto coloursOfSpec)

/-- 'gouachelaw29.ColoursBack', WHERE WHAT IT READS IS OF BULK AT MOST 1048576: true; the input reads as it did. -/
def coloursBackUptoRow : OpenClaim := { program := "ytldoimianllcdaa", sum := "d0810b4d7cec3fc3e66df9aea5e01928a5926735c6c13203215a88fa4833f1e9", func := "gouache/gouachelaw29.ColoursBack", spec := "coloursBack", inPlace := ["math/bits.Add64", "math/bits.Sub64"], unfollowed := true, recurses := true, named := ["math/bits.divideError", "math/bits.overflowError"], plainKeys := false, apart := false, narrowed := true }
def ColoursBackUptoSaid : Prop := coloursBackUptoRow.holds Try.pinned (OpenSpec.upto coloursBackSpec)

/-- 'gouachelaw29.ColoursHeld', WHERE WHAT IT READS IS OF BULK AT MOST 1048576: true; the input reads as it did. -/
def coloursHeldUptoRow : OpenClaim := { program := "ytldoimianllcdaa", sum := "d0810b4d7cec3fc3e66df9aea5e01928a5926735c6c13203215a88fa4833f1e9", func := "gouache/gouachelaw29.ColoursHeld", spec := "coloursHeld", inPlace := ["math/bits.Add64", "math/bits.Sub64"], unfollowed := true, recurses := true, named := ["math/bits.divideError", "math/bits.overflowError"], plainKeys := false, apart := false, narrowed := true }
def ColoursHeldUptoSaid : Prop := coloursHeldUptoRow.holds Try.pinned (OpenSpec.upto coloursHeldSpec)

/-- 'gouachelaw29.ColoursEnds', WHERE WHAT IT READS IS OF BULK AT MOST 1048576: true; the input reads as it did. -/
def coloursEndsUptoRow : OpenClaim := { program := "ytldoimianllcdaa", sum := "d0810b4d7cec3fc3e66df9aea5e01928a5926735c6c13203215a88fa4833f1e9", func := "gouache/gouachelaw29.ColoursEnds", spec := "coloursEnds", inPlace := ["math/bits.Add64", "math/bits.Sub64"], unfollowed := true, recurses := true, named := ["math/bits.divideError", "math/bits.overflowError"], plainKeys := false, apart := false, narrowed := true }
def ColoursEndsUptoSaid : Prop := coloursEndsUptoRow.holds Try.pinned (OpenSpec.upto coloursEndsSpec)

/-- 'gouachelaw29.ColoursBytes', WHERE WHAT IT READS IS OF BULK AT MOST 1048576: true; the input reads as it did. -/
def coloursBytesUptoRow : OpenClaim := { program := "ytldoimianllcdaa", sum := "d0810b4d7cec3fc3e66df9aea5e01928a5926735c6c13203215a88fa4833f1e9", func := "gouache/gouachelaw29.ColoursBytes", spec := "coloursBytes", inPlace := ["math/bits.Add64", "math/bits.Sub64"], unfollowed := true, recurses := true, named := ["math/bits.divideError", "math/bits.overflowError"], plainKeys := false, apart := false, narrowed := true }
def ColoursBytesUptoSaid : Prop := coloursBytesUptoRow.holds Try.pinned (OpenSpec.upto coloursBytesSpec)

/-- 'gouachelaw29.ColoursMix', WHERE WHAT IT READS IS OF BULK AT MOST 1048576: true; the input reads as it did. -/
def coloursMixUptoRow : OpenClaim := { program := "ytldoimianllcdaa", sum := "d0810b4d7cec3fc3e66df9aea5e01928a5926735c6c13203215a88fa4833f1e9", func := "gouache/gouachelaw29.ColoursMix", spec := "coloursMix", inPlace := ["math/bits.Add64", "math/bits.Sub64"], unfollowed := true, recurses := true, named := ["math/bits.divideError", "math/bits.overflowError"], plainKeys := false, apart := false, narrowed := true }
def ColoursMixUptoSaid : Prop := coloursMixUptoRow.holds Try.pinned (OpenSpec.upto coloursMixSpec)

end Rows
end Go.Proofs.Ytldoimianllcdaa
