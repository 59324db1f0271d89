/-
  DERIVED. GIVEN WITH THE SEED: THE CARDS: each row of YtaohichhnkhobaaGreatDoorRows.lean that lists a variable, with what it lists TIED to the program's text (the seventh form; the later family's looks); each row that meets fmt, with fmt's text TOLD by the authors' own Lean function (tested against real Go, not proved from fmt's source: count such statements apart). THE CARD IS WHAT COUNTS. Prove the row's statement (the work); the ties are given (YtaohichhnkhobaaGreatDoorTie.lean); close each card by the builder's one call (the guide's Derived/Test/ToyasCard.lean, 'card_holds'). Laid BY PROGRAM, IN A SANDBOX (cutbox-door.mjs). By AI agents, Wed Nov 11 2026. No macro, syntax, notation, axiom, sorry.
-/
import Derived.Test.YtaohichhnkhobaaGreatDoorRows
import GoSem.ClaimSeven
namespace Go.Proofs.YtaohichhnkhobaaGreatDoor
namespace Rows

/-- THE TIED CARD OF 'guerdonlaw53.SimulationRun'. -/
def simulationRunCard : Claim7 := { stood := { row := simulationRunRow, standIns := [], harness := (true, "852d92622feff8bf11b364f6b073c557c1553c7f9c9a79b8635ccbfaff924362"), looks := true }, kinds := [], alts := [], laidByText := true, laidKinds := [.data, .data, .data, .data], laidTests := true, laidLooks := .later }
def SimulationRunCardSaid : Prop := Claim7.holds Tryz.pinned (.plain (OpenSpec.ofChange simulationRunSpec)) simulationRunCard

/-- THE SECOND FORM's CARD OF 'guerdonlaw53.SimulationRun'. -/
def simulationRunUptoCard : Claim7 := { stood := { row := simulationRunUptoRow, standIns := [], harness := (true, "852d92622feff8bf11b364f6b073c557c1553c7f9c9a79b8635ccbfaff924362"), looks := true }, kinds := [], alts := [], laidByText := true, laidKinds := [.data, .data, .data, .data], laidTests := true, laidLooks := .later }
def SimulationRunUptoCardSaid : Prop := Claim7.holds Tryz.pinned (.plain (OpenSpec.upto simulationRunSpec)) simulationRunUptoCard
end Rows
end Go.Proofs.YtaohichhnkhobaaGreatDoor
