/-
  DERIVED. GIVEN WITH THE SEED: THE CARDS: each row of YtenobbecpmncbaaGreatDoorRows.lean that lists a variable, with what it lists TIED to the program's text (the seventh form; the later family's looks); each row that meets fmt, with fmt's text TOLD by the authors' own Lean function (tested against real Go, not proved from fmt's source: count such statements apart). THE CARD IS WHAT COUNTS. Prove the row's statement (the work); the ties are given (YtenobbecpmncbaaGreatDoorTie.lean); close each card by the builder's one call (the guide's Derived/Test/ToyasCard.lean, 'card_holds'). Laid BY PROGRAM, IN A SANDBOX (cutbox-door.mjs). By AI agents, Wed Nov 11 2026. No macro, syntax, notation, axiom, sorry.
-/
import Derived.Test.YtenobbecpmncbaaGreatDoorRows
import GoSem.ClaimSeven
namespace Go.Proofs.YtenobbecpmncbaaGreatDoor
namespace Rows

/-- THE TIED CARD OF 'guerdonlaw21.ExplainValues'. -/
def explainValuesCard : Claim7 := { stood := { row := explainValuesRow, standIns := [], harness := (true, "d0748c302725bf7fb85ff4eb4956f310057bca1b29a58f1f6a0605edfb12d222"), looks := true }, kinds := [], alts := [], laidByText := true, laidKinds := [.data, .data, .data, .data], laidTests := true, laidLooks := .later }
def ExplainValuesCardSaid : Prop := Claim7.holds Tryz.pinned (.plain (OpenSpec.ofChange explainValuesSpec)) explainValuesCard

/-- THE SECOND FORM's CARD OF 'guerdonlaw21.ExplainValues'. -/
def explainValuesUptoCard : Claim7 := { stood := { row := explainValuesUptoRow, standIns := [], harness := (true, "d0748c302725bf7fb85ff4eb4956f310057bca1b29a58f1f6a0605edfb12d222"), looks := true }, kinds := [], alts := [], laidByText := true, laidKinds := [.data, .data, .data, .data], laidTests := true, laidLooks := .later }
def ExplainValuesUptoCardSaid : Prop := Claim7.holds Tryz.pinned (.plain (OpenSpec.upto explainValuesSpec)) explainValuesUptoCard
end Rows
end Go.Proofs.YtenobbecpmncbaaGreatDoor
