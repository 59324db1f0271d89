/-
  DERIVED. GIVEN WITH THE SEED: THE CARDS: each row of YtpdhfchnaibpmabGreatDoorRows.lean that lists a variable, with what it lists TIED to the program's text (the seventh form; the later family's looks); each row that meets fmt, with fmt's text TOLD by the authors' own Lean function (tested against real Go, not proved from fmt's source: count such statements apart). THE CARD IS WHAT COUNTS. Prove the row's statement (the work); the ties are given (YtpdhfchnaibpmabGreatDoorTie.lean); close each card by the builder's one call (the guide's Derived/Test/ToyasCard.lean, 'card_holds'). Laid BY PROGRAM, IN A SANDBOX (cutbox-door.mjs). By AI agents, Wed Nov 11 2026. No macro, syntax, notation, axiom, sorry.
-/
import Derived.Test.YtpdhfchnaibpmabGreatDoorRows
import GoSem.ClaimSeven
namespace Go.Proofs.YtpdhfchnaibpmabGreatDoor
namespace Rows

/-- THE TIED CARD OF 'guerdonlaw53.SimulationDifference'. -/
def simulationDifferenceCard : Claim7 := { stood := { row := simulationDifferenceRow, standIns := [], harness := (true, "61bab87f73cfa895478494caa36384fe5685e4b293688f46f8614dfbd0b106e7"), looks := true }, kinds := [], alts := [], laidByText := true, laidKinds := [.data, .data, .data, .data], laidTests := true, laidLooks := .later }
def SimulationDifferenceCardSaid : Prop := Claim7.holds Tryz.pinned (.plain (OpenSpec.ofChange simulationDifferenceSpec)) simulationDifferenceCard

/-- THE SECOND FORM's CARD OF 'guerdonlaw53.SimulationDifference'. -/
def simulationDifferenceUptoCard : Claim7 := { stood := { row := simulationDifferenceUptoRow, standIns := [], harness := (true, "61bab87f73cfa895478494caa36384fe5685e4b293688f46f8614dfbd0b106e7"), looks := true }, kinds := [], alts := [], laidByText := true, laidKinds := [.data, .data, .data, .data], laidTests := true, laidLooks := .later }
def SimulationDifferenceUptoCardSaid : Prop := Claim7.holds Tryz.pinned (.plain (OpenSpec.upto simulationDifferenceSpec)) simulationDifferenceUptoCard
end Rows
end Go.Proofs.YtpdhfchnaibpmabGreatDoor
