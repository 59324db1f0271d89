/-
  DERIVED. GIVEN WITH THE SEED: THE CARDS: each row of YtnkflamioafojaaGreatDoorRows.lean that lists a variable, with what it lists TIED to the program's text (the seventh form; the later family's looks); each row that meets fmt, with fmt's text TOLD by the authors' own Lean function (tested against real Go, not proved from fmt's source: count such statements apart). THE CARD IS WHAT COUNTS. Prove the row's statement (the work); the ties are given (YtnkflamioafojaaGreatDoorTie.lean); close each card by the builder's one call (the guide's Derived/Test/ToyasCard.lean, 'card_holds'). Laid BY PROGRAM, IN A SANDBOX (cutbox-door.mjs). By AI agents, Wed Nov 11 2026. No macro, syntax, notation, axiom, sorry.
-/
import Derived.Test.YtnkflamioafojaaGreatDoorRows
import GoSem.ClaimSeven
namespace Go.Proofs.YtnkflamioafojaaGreatDoor
namespace Rows

/-- THE TIED CARD OF 'guerdonlaw57.AmendFormat'. -/
def amendFormatCard : Claim7 := { stood := { row := amendFormatRow, standIns := [], harness := (true, "21ad2e34ac2f1ba1de06071967420ac893d84a732a8c5c2036eccbf363238b5d"), looks := true }, kinds := [], alts := [], laidByText := true, laidKinds := [.data, .data, .data, .data, .data, .pinned], laidTests := true, laidLooks := .later }
def AmendFormatCardSaid : Prop := Claim7.holds Tryz.pinned (.plain (OpenSpec.ofChange amendFormatSpec)) amendFormatCard

/-- THE TIED CARD OF 'guerdonlaw57.AmendRoundTrip'. -/
def amendRoundTripCard : Claim7 := { stood := { row := amendRoundTripRow, standIns := [], harness := (true, "21ad2e34ac2f1ba1de06071967420ac893d84a732a8c5c2036eccbf363238b5d"), looks := true }, kinds := [], alts := [], laidByText := true, laidKinds := [.data, .data, .data, .data, .data, .pinned], laidTests := true, laidLooks := .later }
def AmendRoundTripCardSaid : Prop := Claim7.holds Tryz.pinned (.plain (OpenSpec.ofChange amendRoundTripSpec)) amendRoundTripCard

/-- THE TIED CARD OF 'guerdonlaw57.AmendKeepsPast'. -/
def amendKeepsPastCard : Claim7 := { stood := { row := amendKeepsPastRow, standIns := [], harness := (true, "21ad2e34ac2f1ba1de06071967420ac893d84a732a8c5c2036eccbf363238b5d"), looks := true }, kinds := [], alts := [], laidByText := true, laidKinds := [.data, .data, .data, .data, .data, .pinned], laidTests := true, laidLooks := .later }
def AmendKeepsPastCardSaid : Prop := Claim7.holds Tryz.pinned (.plain (OpenSpec.ofChange amendKeepsPastSpec)) amendKeepsPastCard

/-- THE SECOND FORM's CARD OF 'guerdonlaw57.AmendFormat'. -/
def amendFormatUptoCard : Claim7 := { stood := { row := amendFormatUptoRow, standIns := [], harness := (true, "21ad2e34ac2f1ba1de06071967420ac893d84a732a8c5c2036eccbf363238b5d"), looks := true }, kinds := [], alts := [], laidByText := true, laidKinds := [.data, .data, .data, .data, .data, .pinned], laidTests := true, laidLooks := .later }
def AmendFormatUptoCardSaid : Prop := Claim7.holds Tryz.pinned (.plain (OpenSpec.upto amendFormatSpec)) amendFormatUptoCard

/-- THE SECOND FORM's CARD OF 'guerdonlaw57.AmendRoundTrip'. -/
def amendRoundTripUptoCard : Claim7 := { stood := { row := amendRoundTripUptoRow, standIns := [], harness := (true, "21ad2e34ac2f1ba1de06071967420ac893d84a732a8c5c2036eccbf363238b5d"), looks := true }, kinds := [], alts := [], laidByText := true, laidKinds := [.data, .data, .data, .data, .data, .pinned], laidTests := true, laidLooks := .later }
def AmendRoundTripUptoCardSaid : Prop := Claim7.holds Tryz.pinned (.plain (OpenSpec.upto amendRoundTripSpec)) amendRoundTripUptoCard

/-- THE SECOND FORM's CARD OF 'guerdonlaw57.AmendKeepsPast'. -/
def amendKeepsPastUptoCard : Claim7 := { stood := { row := amendKeepsPastUptoRow, standIns := [], harness := (true, "21ad2e34ac2f1ba1de06071967420ac893d84a732a8c5c2036eccbf363238b5d"), looks := true }, kinds := [], alts := [], laidByText := true, laidKinds := [.data, .data, .data, .data, .data, .pinned], laidTests := true, laidLooks := .later }
def AmendKeepsPastUptoCardSaid : Prop := Claim7.holds Tryz.pinned (.plain (OpenSpec.upto amendKeepsPastSpec)) amendKeepsPastUptoCard
end Rows
end Go.Proofs.YtnkflamioafojaaGreatDoor
