/-
  DERIVED. GIVEN WITH THE SEED: THE CARDS: each row of YtaballahjgegdaaDoorRows.lean that lists a variable, with what it lists TIED to the program's text (the seventh form; the later family's looks); each row that meets fmt, with fmt's text TOLD by the authors' own Lean function (tested against real Go, not proved from fmt's source: count such statements apart). THE CARD IS WHAT COUNTS. Prove the row's statement (the work); the ties are given (YtaballahjgegdaaDoorTie.lean); close each card by the builder's one call (the guide's Derived/Test/ToyasCard.lean, 'card_holds'). Laid BY PROGRAM, IN A SANDBOX (cutbox-door.mjs). By AI agents, Wed Nov 11 2026. No macro, syntax, notation, axiom, sorry.
-/
import Derived.Test.YtaballahjgegdaaDoorRows
import GoSem.ClaimSeven
namespace Go.Proofs.YtaballahjgegdaaDoor
namespace Rows

/-- THE TIED CARD OF 'gouachelaw02.FixedsLed'. -/
def fixedsLedCard : Claim7 := { stood := { row := fixedsLedRow, standIns := [], harness := (true, "82882424e878e98b48c36d074f5a650f25b91ecbe7b5573d8d4411bf4b94dc0e"), looks := false }, kinds := [], alts := [], laidByText := true, laidKinds := [.data], laidTests := true, laidLooks := .later }
def FixedsLedCardSaid : Prop := Claim7.holds Tryd.pinned (.plain (OpenSpec.ofChange fixedsLedSpec)) fixedsLedCard

/-- THE TIED CARD OF 'gouachelaw02.FixedsWhole'. -/
def fixedsWholeCard : Claim7 := { stood := { row := fixedsWholeRow, standIns := [], harness := (true, "82882424e878e98b48c36d074f5a650f25b91ecbe7b5573d8d4411bf4b94dc0e"), looks := false }, kinds := [], alts := [], laidByText := true, laidKinds := [.data], laidTests := true, laidLooks := .later }
def FixedsWholeCardSaid : Prop := Claim7.holds Tryd.pinned (.plain (OpenSpec.ofChange fixedsWholeSpec)) fixedsWholeCard

/-- THE TIED CARD OF 'gouachelaw02.FixedsEnds'. -/
def fixedsEndsCard : Claim7 := { stood := { row := fixedsEndsRow, standIns := [], harness := (true, "82882424e878e98b48c36d074f5a650f25b91ecbe7b5573d8d4411bf4b94dc0e"), looks := false }, kinds := [], alts := [], laidByText := true, laidKinds := [.data], laidTests := true, laidLooks := .later }
def FixedsEndsCardSaid : Prop := Claim7.holds Tryd.pinned (.plain (OpenSpec.ofChange fixedsEndsSpec)) fixedsEndsCard

/-- THE TIED CARD OF 'gouachelaw02.FixedsSigns'. -/
def fixedsSignsCard : Claim7 := { stood := { row := fixedsSignsRow, standIns := [], harness := (true, "82882424e878e98b48c36d074f5a650f25b91ecbe7b5573d8d4411bf4b94dc0e"), looks := false }, kinds := [], alts := [], laidByText := true, laidKinds := [.data], laidTests := true, laidLooks := .later }
def FixedsSignsCardSaid : Prop := Claim7.holds Tryd.pinned (.plain (OpenSpec.ofChange fixedsSignsSpec)) fixedsSignsCard

/-- THE TIED CARD OF 'gouachelaw02.FixedsOf'. -/
def fixedsOfCard : Claim7 := { stood := { row := fixedsOfRow, standIns := [], harness := (true, "82882424e878e98b48c36d074f5a650f25b91ecbe7b5573d8d4411bf4b94dc0e"), looks := false }, kinds := [], alts := [], laidByText := true, laidKinds := [.data], laidTests := true, laidLooks := .later }
def FixedsOfCardSaid : Prop := Claim7.holds Tryd.pinned (.plain (OpenSpec.ofChange fixedsOfSpec)) fixedsOfCard

/-- THE TIED CARD OF 'gouachelaw02.FixedsWide'. -/
def fixedsWideCard : Claim7 := { stood := { row := fixedsWideRow, standIns := [], harness := (true, "82882424e878e98b48c36d074f5a650f25b91ecbe7b5573d8d4411bf4b94dc0e"), looks := false }, kinds := [], alts := [], laidByText := true, laidKinds := [.data], laidTests := true, laidLooks := .later }
def FixedsWideCardSaid : Prop := Claim7.holds Tryd.pinned (.plain (OpenSpec.ofChange fixedsWideSpec)) fixedsWideCard

/-- THE TIED CARD OF 'gouachelaw02.FixedsNear'. -/
def fixedsNearCard : Claim7 := { stood := { row := fixedsNearRow, standIns := [], harness := (true, "82882424e878e98b48c36d074f5a650f25b91ecbe7b5573d8d4411bf4b94dc0e"), looks := false }, kinds := [], alts := [], laidByText := true, laidKinds := [.data], laidTests := true, laidLooks := .later }
def FixedsNearCardSaid : Prop := Claim7.holds Tryd.pinned (.plain (OpenSpec.ofChange fixedsNearSpec)) fixedsNearCard

/-- THE TIED CARD OF 'gouachelaw02.FixedsRises'. -/
def fixedsRisesCard : Claim7 := { stood := { row := fixedsRisesRow, standIns := [], harness := (true, "82882424e878e98b48c36d074f5a650f25b91ecbe7b5573d8d4411bf4b94dc0e"), looks := false }, kinds := [], alts := [], laidByText := true, laidKinds := [.data], laidTests := true, laidLooks := .later }
def FixedsRisesCardSaid : Prop := Claim7.holds Tryd.pinned (.plain (OpenSpec.ofChange fixedsRisesSpec)) fixedsRisesCard

/-- THE SECOND FORM's CARD OF 'gouachelaw02.FixedsLed'. -/
def fixedsLedUptoCard : Claim7 := { stood := { row := fixedsLedUptoRow, standIns := [], harness := (true, "82882424e878e98b48c36d074f5a650f25b91ecbe7b5573d8d4411bf4b94dc0e"), looks := false }, kinds := [], alts := [], laidByText := true, laidKinds := [.data], laidTests := true, laidLooks := .later }
def FixedsLedUptoCardSaid : Prop := Claim7.holds Tryd.pinned (.plain (OpenSpec.upto fixedsLedSpec)) fixedsLedUptoCard

/-- THE SECOND FORM's CARD OF 'gouachelaw02.FixedsWhole'. -/
def fixedsWholeUptoCard : Claim7 := { stood := { row := fixedsWholeUptoRow, standIns := [], harness := (true, "82882424e878e98b48c36d074f5a650f25b91ecbe7b5573d8d4411bf4b94dc0e"), looks := false }, kinds := [], alts := [], laidByText := true, laidKinds := [.data], laidTests := true, laidLooks := .later }
def FixedsWholeUptoCardSaid : Prop := Claim7.holds Tryd.pinned (.plain (OpenSpec.upto fixedsWholeSpec)) fixedsWholeUptoCard

/-- THE SECOND FORM's CARD OF 'gouachelaw02.FixedsEnds'. -/
def fixedsEndsUptoCard : Claim7 := { stood := { row := fixedsEndsUptoRow, standIns := [], harness := (true, "82882424e878e98b48c36d074f5a650f25b91ecbe7b5573d8d4411bf4b94dc0e"), looks := false }, kinds := [], alts := [], laidByText := true, laidKinds := [.data], laidTests := true, laidLooks := .later }
def FixedsEndsUptoCardSaid : Prop := Claim7.holds Tryd.pinned (.plain (OpenSpec.upto fixedsEndsSpec)) fixedsEndsUptoCard

/-- THE SECOND FORM's CARD OF 'gouachelaw02.FixedsSigns'. -/
def fixedsSignsUptoCard : Claim7 := { stood := { row := fixedsSignsUptoRow, standIns := [], harness := (true, "82882424e878e98b48c36d074f5a650f25b91ecbe7b5573d8d4411bf4b94dc0e"), looks := false }, kinds := [], alts := [], laidByText := true, laidKinds := [.data], laidTests := true, laidLooks := .later }
def FixedsSignsUptoCardSaid : Prop := Claim7.holds Tryd.pinned (.plain (OpenSpec.upto fixedsSignsSpec)) fixedsSignsUptoCard

/-- THE SECOND FORM's CARD OF 'gouachelaw02.FixedsOf'. -/
def fixedsOfUptoCard : Claim7 := { stood := { row := fixedsOfUptoRow, standIns := [], harness := (true, "82882424e878e98b48c36d074f5a650f25b91ecbe7b5573d8d4411bf4b94dc0e"), looks := false }, kinds := [], alts := [], laidByText := true, laidKinds := [.data], laidTests := true, laidLooks := .later }
def FixedsOfUptoCardSaid : Prop := Claim7.holds Tryd.pinned (.plain (OpenSpec.upto fixedsOfSpec)) fixedsOfUptoCard

/-- THE SECOND FORM's CARD OF 'gouachelaw02.FixedsWide'. -/
def fixedsWideUptoCard : Claim7 := { stood := { row := fixedsWideUptoRow, standIns := [], harness := (true, "82882424e878e98b48c36d074f5a650f25b91ecbe7b5573d8d4411bf4b94dc0e"), looks := false }, kinds := [], alts := [], laidByText := true, laidKinds := [.data], laidTests := true, laidLooks := .later }
def FixedsWideUptoCardSaid : Prop := Claim7.holds Tryd.pinned (.plain (OpenSpec.upto fixedsWideSpec)) fixedsWideUptoCard

/-- THE SECOND FORM's CARD OF 'gouachelaw02.FixedsNear'. -/
def fixedsNearUptoCard : Claim7 := { stood := { row := fixedsNearUptoRow, standIns := [], harness := (true, "82882424e878e98b48c36d074f5a650f25b91ecbe7b5573d8d4411bf4b94dc0e"), looks := false }, kinds := [], alts := [], laidByText := true, laidKinds := [.data], laidTests := true, laidLooks := .later }
def FixedsNearUptoCardSaid : Prop := Claim7.holds Tryd.pinned (.plain (OpenSpec.upto fixedsNearSpec)) fixedsNearUptoCard

/-- THE SECOND FORM's CARD OF 'gouachelaw02.FixedsRises'. -/
def fixedsRisesUptoCard : Claim7 := { stood := { row := fixedsRisesUptoRow, standIns := [], harness := (true, "82882424e878e98b48c36d074f5a650f25b91ecbe7b5573d8d4411bf4b94dc0e"), looks := false }, kinds := [], alts := [], laidByText := true, laidKinds := [.data], laidTests := true, laidLooks := .later }
def FixedsRisesUptoCardSaid : Prop := Claim7.holds Tryd.pinned (.plain (OpenSpec.upto fixedsRisesSpec)) fixedsRisesUptoCard
end Rows
end Go.Proofs.YtaballahjgegdaaDoor
