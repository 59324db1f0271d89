/-
  DERIVED. GIVEN WITH THE SEED: THE CARDS: each row of YtljnhmnnahpnaaaGreatDoorRows.lean that lists a variable, with what it lists TIED to the program's text (the seventh form; the later family's looks); each row that meets fmt, with fmt's text TOLD by the authors' own Lean function (tested against real Go, not proved from fmt's source: count such statements apart). THE CARD IS WHAT COUNTS. Prove the row's statement (the work); the ties are given (YtljnhmnnahpnaaaGreatDoorTie.lean); close each card by the builder's one call (the guide's Derived/Test/ToyasCard.lean, 'card_holds'). Laid BY PROGRAM, IN A SANDBOX (cutbox-door.mjs). By AI agents, Wed Nov 11 2026. No macro, syntax, notation, axiom, sorry.
-/
import Derived.Test.YtljnhmnnahpnaaaGreatDoorRows
import GoSem.ClaimSeven
namespace Go.Proofs.YtljnhmnnahpnaaaGreatDoor
namespace Rows

/-- THE TIED CARD OF 'guerdonlaw54.ReportShowsValues'. -/
def reportShowsValuesCard : Claim7 := { stood := { row := reportShowsValuesRow, standIns := [], harness := (true, "bb437006347d2aec6f1d0dc973708bfcca5dda44a77a41ead693d6e1c7446b22"), looks := true }, kinds := [], alts := [], laidByText := true, laidKinds := [.data, .data, .data, .data], laidTests := true, laidLooks := .later }
def ReportShowsValuesCardSaid : Prop := Claim7.holds Tryz.pinned (.plain (OpenSpec.ofChange reportShowsValuesSpec)) reportShowsValuesCard

/-- THE SECOND FORM's CARD OF 'guerdonlaw54.ReportShowsValues'. -/
def reportShowsValuesUptoCard : Claim7 := { stood := { row := reportShowsValuesUptoRow, standIns := [], harness := (true, "bb437006347d2aec6f1d0dc973708bfcca5dda44a77a41ead693d6e1c7446b22"), looks := true }, kinds := [], alts := [], laidByText := true, laidKinds := [.data, .data, .data, .data], laidTests := true, laidLooks := .later }
def ReportShowsValuesUptoCardSaid : Prop := Claim7.holds Tryz.pinned (.plain (OpenSpec.upto reportShowsValuesSpec)) reportShowsValuesUptoCard
end Rows
end Go.Proofs.YtljnhmnnahpnaaaGreatDoor
