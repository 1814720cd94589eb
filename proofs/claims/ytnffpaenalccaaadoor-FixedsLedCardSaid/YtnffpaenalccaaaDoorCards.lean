/-
  DERIVED. GIVEN WITH THE SEED: THE CARDS: each row of YtnffpaenalccaaaDoorRows.lean that lists a variable, with what it lists TIED to the program's text (the seventh form; the later family's looks); each row that meets fmt, with fmt's text TOLD by the authors' own Lean function (tested against real Go, not proved from fmt's source: count such statements apart). THE CARD IS WHAT COUNTS. Prove the row's statement (the work); the ties are given (YtnffpaenalccaaaDoorTie.lean); close each card by the builder's one call (the guide's Derived/Test/ToyasCard.lean, 'card_holds'). Laid BY PROGRAM, IN A SANDBOX (cutbox-door.mjs). By AI agents, Wed Nov 11 2026. No macro, syntax, notation, axiom, sorry.
-/
import Derived.Test.YtnffpaenalccaaaDoorRows
import GoSem.ClaimSeven
namespace Go.Proofs.YtnffpaenalccaaaDoor
namespace Rows

/-- THE TIED CARD OF 'gouachelaw02.FixedsLed'. -/
def fixedsLedCard : Claim7 := { stood := { row := fixedsLedRow, standIns := [], harness := (true, "38641104645a11e8f0c6ff81f8a646643a97ee59596b159c076f003f4d1cfa00"), looks := false }, kinds := [], alts := [], laidByText := true, laidKinds := [.data], laidTests := true, laidLooks := .later }
def FixedsLedCardSaid : Prop := Claim7.holds Tryd.pinned (.plain (OpenSpec.ofChange fixedsLedSpec)) fixedsLedCard

/-- THE TIED CARD OF 'gouachelaw02.FixedsOf'. -/
def fixedsOfCard : Claim7 := { stood := { row := fixedsOfRow, standIns := [], harness := (true, "38641104645a11e8f0c6ff81f8a646643a97ee59596b159c076f003f4d1cfa00"), looks := false }, kinds := [], alts := [], laidByText := true, laidKinds := [.data], laidTests := true, laidLooks := .later }
def FixedsOfCardSaid : Prop := Claim7.holds Tryd.pinned (.plain (OpenSpec.ofChange fixedsOfSpec)) fixedsOfCard

/-- THE TIED CARD OF 'gouachelaw02.FixedsWide'. -/
def fixedsWideCard : Claim7 := { stood := { row := fixedsWideRow, standIns := [], harness := (true, "38641104645a11e8f0c6ff81f8a646643a97ee59596b159c076f003f4d1cfa00"), looks := false }, kinds := [], alts := [], laidByText := true, laidKinds := [.data], laidTests := true, laidLooks := .later }
def FixedsWideCardSaid : Prop := Claim7.holds Tryd.pinned (.plain (OpenSpec.ofChange fixedsWideSpec)) fixedsWideCard

/-- THE SECOND FORM's CARD OF 'gouachelaw02.FixedsLed'. -/
def fixedsLedUptoCard : Claim7 := { stood := { row := fixedsLedUptoRow, standIns := [], harness := (true, "38641104645a11e8f0c6ff81f8a646643a97ee59596b159c076f003f4d1cfa00"), looks := false }, kinds := [], alts := [], laidByText := true, laidKinds := [.data], laidTests := true, laidLooks := .later }
def FixedsLedUptoCardSaid : Prop := Claim7.holds Tryd.pinned (.plain (OpenSpec.upto fixedsLedSpec)) fixedsLedUptoCard

/-- THE SECOND FORM's CARD OF 'gouachelaw02.FixedsOf'. -/
def fixedsOfUptoCard : Claim7 := { stood := { row := fixedsOfUptoRow, standIns := [], harness := (true, "38641104645a11e8f0c6ff81f8a646643a97ee59596b159c076f003f4d1cfa00"), looks := false }, kinds := [], alts := [], laidByText := true, laidKinds := [.data], laidTests := true, laidLooks := .later }
def FixedsOfUptoCardSaid : Prop := Claim7.holds Tryd.pinned (.plain (OpenSpec.upto fixedsOfSpec)) fixedsOfUptoCard

/-- THE SECOND FORM's CARD OF 'gouachelaw02.FixedsWide'. -/
def fixedsWideUptoCard : Claim7 := { stood := { row := fixedsWideUptoRow, standIns := [], harness := (true, "38641104645a11e8f0c6ff81f8a646643a97ee59596b159c076f003f4d1cfa00"), looks := false }, kinds := [], alts := [], laidByText := true, laidKinds := [.data], laidTests := true, laidLooks := .later }
def FixedsWideUptoCardSaid : Prop := Claim7.holds Tryd.pinned (.plain (OpenSpec.upto fixedsWideSpec)) fixedsWideUptoCard
end Rows
end Go.Proofs.YtnffpaenalccaaaDoor
