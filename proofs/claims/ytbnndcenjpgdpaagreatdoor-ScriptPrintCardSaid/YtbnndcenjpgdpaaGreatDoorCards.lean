/-
  DERIVED. GIVEN WITH THE SEED: THE CARDS: each row of YtbnndcenjpgdpaaGreatDoorRows.lean that lists a variable, with what it lists TIED to the program's text (the seventh form; the later family's looks); each row that meets fmt, with fmt's text TOLD by the authors' own Lean function (tested against real Go, not proved from fmt's source: count such statements apart). THE CARD IS WHAT COUNTS. Prove the row's statement (the work); the ties are given (YtbnndcenjpgdpaaGreatDoorTie.lean); close each card by the builder's one call (the guide's Derived/Test/ToyasCard.lean, 'card_holds'). Laid BY PROGRAM, IN A SANDBOX (cutbox-door.mjs). By AI agents, Wed Nov 11 2026. No macro, syntax, notation, axiom, sorry.
-/
import Derived.Test.YtbnndcenjpgdpaaGreatDoorRows
import GoSem.ClaimSeven
namespace Go.Proofs.YtbnndcenjpgdpaaGreatDoor
namespace Rows

/-- THE TIED CARD OF 'guerdonlaw55.ScriptPrint'. -/
def scriptPrintCard : Claim7 := { stood := { row := scriptPrintRow, standIns := [], harness := (true, "96f67586bbebb3ae7e1c246f8a75a76fe15408dea96b580436bd2589c76038d4"), looks := true }, kinds := [], alts := [], laidByText := true, laidKinds := [.data, .data, .data, .data, .data, .pinned], laidTests := true, laidLooks := .later }
def ScriptPrintCardSaid : Prop := Claim7.holds Tryz.pinned (.plain (OpenSpec.ofChange scriptPrintSpec)) scriptPrintCard

/-- THE SECOND FORM's CARD OF 'guerdonlaw55.ScriptPrint'. -/
def scriptPrintUptoCard : Claim7 := { stood := { row := scriptPrintUptoRow, standIns := [], harness := (true, "96f67586bbebb3ae7e1c246f8a75a76fe15408dea96b580436bd2589c76038d4"), looks := true }, kinds := [], alts := [], laidByText := true, laidKinds := [.data, .data, .data, .data, .data, .pinned], laidTests := true, laidLooks := .later }
def ScriptPrintUptoCardSaid : Prop := Claim7.holds Tryz.pinned (.plain (OpenSpec.upto scriptPrintSpec)) scriptPrintUptoCard
end Rows
end Go.Proofs.YtbnndcenjpgdpaaGreatDoor
