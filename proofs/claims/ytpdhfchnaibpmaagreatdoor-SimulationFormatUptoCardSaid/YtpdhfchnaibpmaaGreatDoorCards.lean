/-
  DERIVED. GIVEN WITH THE SEED: THE CARDS: each row of YtpdhfchnaibpmaaGreatDoorRows.lean that lists a variable, with what it lists TIED to the program's text (the seventh form; the later family's looks); each row that meets fmt, with fmt's text TOLD by the authors' own Lean function (tested against real Go, not proved from fmt's source: count such statements apart). THE CARD IS WHAT COUNTS. Prove the row's statement (the work); the ties are given (YtpdhfchnaibpmaaGreatDoorTie.lean); close each card by the builder's one call (the guide's Derived/Test/ToyasCard.lean, 'card_holds'). Laid BY PROGRAM, IN A SANDBOX (cutbox-door.mjs). By AI agents, Wed Nov 11 2026. No macro, syntax, notation, axiom, sorry.
-/
import Derived.Test.YtpdhfchnaibpmaaGreatDoorRows
import GoSem.ClaimSeven
namespace Go.Proofs.YtpdhfchnaibpmaaGreatDoor
namespace Rows

/-- THE TIED CARD OF 'guerdonlaw53.SimulationFormat'. -/
def simulationFormatCard : Claim7 := { stood := { row := simulationFormatRow, standIns := [], harness := (true, "26d608e0171f6d11e875efbe3aaf7a0d956205f375e4b3c7a8685ea5cf3105e4"), looks := true }, kinds := [], alts := [], laidByText := true, laidKinds := [.data, .data, .data, .data], laidTests := true, laidLooks := .later }
def SimulationFormatCardSaid : Prop := Claim7.holds Tryz.pinned (.plain (OpenSpec.ofChange simulationFormatSpec)) simulationFormatCard

/-- THE SECOND FORM's CARD OF 'guerdonlaw53.SimulationFormat'. -/
def simulationFormatUptoCard : Claim7 := { stood := { row := simulationFormatUptoRow, standIns := [], harness := (true, "26d608e0171f6d11e875efbe3aaf7a0d956205f375e4b3c7a8685ea5cf3105e4"), looks := true }, kinds := [], alts := [], laidByText := true, laidKinds := [.data, .data, .data, .data], laidTests := true, laidLooks := .later }
def SimulationFormatUptoCardSaid : Prop := Claim7.holds Tryz.pinned (.plain (OpenSpec.upto simulationFormatSpec)) simulationFormatUptoCard
end Rows
end Go.Proofs.YtpdhfchnaibpmaaGreatDoor
