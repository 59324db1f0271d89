/-
  DERIVED. GIVEN WITH THE SEED: THE CARDS: each row of YtpkmnnphdanlpaaGreatDoorRows.lean that lists a variable, with what it lists TIED to the program's text (the seventh form; the later family's looks); each row that meets fmt, with fmt's text TOLD by the authors' own Lean function (tested against real Go, not proved from fmt's source: count such statements apart). THE CARD IS WHAT COUNTS. Prove the row's statement (the work); the ties are given (YtpkmnnphdanlpaaGreatDoorTie.lean); close each card by the builder's one call (the guide's Derived/Test/ToyasCard.lean, 'card_holds'). Laid BY PROGRAM, IN A SANDBOX (cutbox-door.mjs). By AI agents, Wed Nov 11 2026. No macro, syntax, notation, axiom, sorry.
-/
import Derived.Test.YtpkmnnphdanlpaaGreatDoorRows
import GoSem.ClaimSeven
namespace Go.Proofs.YtpkmnnphdanlpaaGreatDoor
namespace Rows

/-- THE TIED CARD OF 'guerdonlaw33.DectabletextRoundTrip'. -/
def dectabletextRoundTripCard : Claim7 := { stood := { row := dectabletextRoundTripRow, standIns := [], harness := (true, "70ef740e531c0c1b81702f4d59f61f7b30040faa301e9ff4d856d48008961d71"), looks := false }, kinds := [], alts := [], laidByText := true, laidKinds := [.data, .data, .data, .data], laidTests := true, laidLooks := .later }
def DectabletextRoundTripCardSaid : Prop := Claim7.holds Tryz.pinned (.plain (OpenSpec.ofChange dectabletextRoundTripSpec)) dectabletextRoundTripCard

/-- THE SECOND FORM's CARD OF 'guerdonlaw33.DectabletextRoundTrip'. -/
def dectabletextRoundTripUptoCard : Claim7 := { stood := { row := dectabletextRoundTripUptoRow, standIns := [], harness := (true, "70ef740e531c0c1b81702f4d59f61f7b30040faa301e9ff4d856d48008961d71"), looks := false }, kinds := [], alts := [], laidByText := true, laidKinds := [.data, .data, .data, .data], laidTests := true, laidLooks := .later }
def DectabletextRoundTripUptoCardSaid : Prop := Claim7.holds Tryz.pinned (.plain (OpenSpec.upto dectabletextRoundTripSpec)) dectabletextRoundTripUptoCard
end Rows
end Go.Proofs.YtpkmnnphdanlpaaGreatDoor
