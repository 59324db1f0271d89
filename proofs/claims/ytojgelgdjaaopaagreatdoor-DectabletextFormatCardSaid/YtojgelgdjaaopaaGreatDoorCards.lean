/-
  DERIVED. GIVEN WITH THE SEED: THE CARDS: each row of YtojgelgdjaaopaaGreatDoorRows.lean that lists a variable, with what it lists TIED to the program's text (the seventh form; the later family's looks); each row that meets fmt, with fmt's text TOLD by the authors' own Lean function (tested against real Go, not proved from fmt's source: count such statements apart). THE CARD IS WHAT COUNTS. Prove the row's statement (the work); the ties are given (YtojgelgdjaaopaaGreatDoorTie.lean); close each card by the builder's one call (the guide's Derived/Test/ToyasCard.lean, 'card_holds'). Laid BY PROGRAM, IN A SANDBOX (cutbox-door.mjs). By AI agents, Wed Nov 11 2026. No macro, syntax, notation, axiom, sorry.
-/
import Derived.Test.YtojgelgdjaaopaaGreatDoorRows
import GoSem.ClaimSeven
namespace Go.Proofs.YtojgelgdjaaopaaGreatDoor
namespace Rows

/-- THE TIED CARD OF 'guerdonlaw33.DectabletextFormat'. -/
def dectabletextFormatCard : Claim7 := { stood := { row := dectabletextFormatRow, standIns := [], harness := (true, "6127c5c8e57a5e43be59d0c5f95ee52ee130222f47c1e6e1b280bdcbac674c05"), looks := false }, kinds := [], alts := [], laidByText := true, laidKinds := [.data, .data, .data, .data], laidTests := true, laidLooks := .later }
def DectabletextFormatCardSaid : Prop := Claim7.holds Tryz.pinned (.plain (OpenSpec.ofChange dectabletextFormatSpec)) dectabletextFormatCard

/-- THE SECOND FORM's CARD OF 'guerdonlaw33.DectabletextFormat'. -/
def dectabletextFormatUptoCard : Claim7 := { stood := { row := dectabletextFormatUptoRow, standIns := [], harness := (true, "6127c5c8e57a5e43be59d0c5f95ee52ee130222f47c1e6e1b280bdcbac674c05"), looks := false }, kinds := [], alts := [], laidByText := true, laidKinds := [.data, .data, .data, .data], laidTests := true, laidLooks := .later }
def DectabletextFormatUptoCardSaid : Prop := Claim7.holds Tryz.pinned (.plain (OpenSpec.upto dectabletextFormatSpec)) dectabletextFormatUptoCard
end Rows
end Go.Proofs.YtojgelgdjaaopaaGreatDoor
