/-
  DERIVED. GIVEN WITH THE SEED: THE CARDS: each row of YtoilbhecaokonabGreatDoorRows.lean that lists a variable, with what it lists TIED to the program's text (the seventh form; the later family's looks); each row that meets fmt, with fmt's text TOLD by the authors' own Lean function (tested against real Go, not proved from fmt's source: count such statements apart). THE CARD IS WHAT COUNTS. Prove the row's statement (the work); the ties are given (YtoilbhecaokonabGreatDoorTie.lean); close each card by the builder's one call (the guide's Derived/Test/ToyasCard.lean, 'card_holds'). Laid BY PROGRAM, IN A SANDBOX (cutbox-door.mjs). By AI agents, Wed Nov 11 2026. No macro, syntax, notation, axiom, sorry.
-/
import Derived.Test.YtoilbhecaokonabGreatDoorRows
import GoSem.ClaimSeven
namespace Go.Proofs.YtoilbhecaokonabGreatDoor
namespace Rows

/-- THE TIED CARD OF 'guerdonlaw53.SimulationByRule'. -/
def simulationByRuleCard : Claim7 := { stood := { row := simulationByRuleRow, standIns := [], harness := (true, "3ab4b2b7cacbac0fc712571198b7c77b205eff875717429dd885486852dcef16"), looks := true }, kinds := [], alts := [], laidByText := true, laidKinds := [.data, .data, .data, .data], laidTests := true, laidLooks := .later }
def SimulationByRuleCardSaid : Prop := Claim7.holds Tryz.pinned (.plain (OpenSpec.ofChange simulationByRuleSpec)) simulationByRuleCard

/-- THE SECOND FORM's CARD OF 'guerdonlaw53.SimulationByRule'. -/
def simulationByRuleUptoCard : Claim7 := { stood := { row := simulationByRuleUptoRow, standIns := [], harness := (true, "3ab4b2b7cacbac0fc712571198b7c77b205eff875717429dd885486852dcef16"), looks := true }, kinds := [], alts := [], laidByText := true, laidKinds := [.data, .data, .data, .data], laidTests := true, laidLooks := .later }
def SimulationByRuleUptoCardSaid : Prop := Claim7.holds Tryz.pinned (.plain (OpenSpec.upto simulationByRuleSpec)) simulationByRuleUptoCard
end Rows
end Go.Proofs.YtoilbhecaokonabGreatDoor
