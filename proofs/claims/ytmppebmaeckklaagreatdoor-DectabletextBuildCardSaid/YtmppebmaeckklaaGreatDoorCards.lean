/-
  DERIVED. GIVEN WITH THE SEED: THE CARDS: each row of YtmppebmaeckklaaGreatDoorRows.lean that lists a variable, with what it lists TIED to the program's text (the seventh form; the later family's looks); each row that meets fmt, with fmt's text TOLD by the authors' own Lean function (tested against real Go, not proved from fmt's source: count such statements apart). THE CARD IS WHAT COUNTS. Prove the row's statement (the work); the ties are given (YtmppebmaeckklaaGreatDoorTie.lean); close each card by the builder's one call (the guide's Derived/Test/ToyasCard.lean, 'card_holds'). Laid BY PROGRAM, IN A SANDBOX (cutbox-door.mjs). By AI agents, Wed Nov 11 2026. No macro, syntax, notation, axiom, sorry.
-/
import Derived.Test.YtmppebmaeckklaaGreatDoorRows
import GoSem.ClaimSeven
namespace Go.Proofs.YtmppebmaeckklaaGreatDoor
namespace Rows

/-- THE TIED CARD OF 'guerdonlaw33.DectabletextBuild'. -/
def dectabletextBuildCard : Claim7 := { stood := { row := dectabletextBuildRow, standIns := [], harness := (true, "cbd4910f95830d4f88b4dbbba4f6b490c954e60d6325d0053aa02188834ac901"), looks := false }, kinds := [], alts := [], laidByText := true, laidKinds := [.data, .data, .data, .data], laidTests := true, laidLooks := .later }
def DectabletextBuildCardSaid : Prop := Claim7.holds Tryz.pinned (.plain (OpenSpec.ofChange dectabletextBuildSpec)) dectabletextBuildCard

/-- THE SECOND FORM's CARD OF 'guerdonlaw33.DectabletextBuild'. -/
def dectabletextBuildUptoCard : Claim7 := { stood := { row := dectabletextBuildUptoRow, standIns := [], harness := (true, "cbd4910f95830d4f88b4dbbba4f6b490c954e60d6325d0053aa02188834ac901"), looks := false }, kinds := [], alts := [], laidByText := true, laidKinds := [.data, .data, .data, .data], laidTests := true, laidLooks := .later }
def DectabletextBuildUptoCardSaid : Prop := Claim7.holds Tryz.pinned (.plain (OpenSpec.upto dectabletextBuildSpec)) dectabletextBuildUptoCard
end Rows
end Go.Proofs.YtmppebmaeckklaaGreatDoor
