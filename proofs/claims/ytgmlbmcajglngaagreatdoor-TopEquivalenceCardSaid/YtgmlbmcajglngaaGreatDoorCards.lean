/-
  DERIVED. GIVEN WITH THE SEED: THE CARDS: each row of YtgmlbmcajglngaaGreatDoorRows.lean that lists a variable, with what it lists TIED to the program's text (the seventh form; the later family's looks); each row that meets fmt, with fmt's text TOLD by the authors' own Lean function (tested against real Go, not proved from fmt's source: count such statements apart). THE CARD IS WHAT COUNTS. Prove the row's statement (the work); the ties are given (YtgmlbmcajglngaaGreatDoorTie.lean); close each card by the builder's one call (the guide's Derived/Test/ToyasCard.lean, 'card_holds'). Laid BY PROGRAM, IN A SANDBOX (cutbox-door.mjs). By AI agents, Wed Nov 11 2026. No macro, syntax, notation, axiom, sorry.
-/
import Derived.Test.YtgmlbmcajglngaaGreatDoorRows
import GoSem.ClaimSeven
namespace Go.Proofs.YtgmlbmcajglngaaGreatDoor
namespace Rows

/-- THE TIED CARD OF 'guerdontop.TopEquivalence'. -/
def topEquivalenceCard : Claim7 := { stood := { row := topEquivalenceRow, standIns := [], harness := (true, "95eba386657988b3d20c5b54e3c71c3b753349ba21f1e682fa6e2f19d702843e"), looks := true }, kinds := [], alts := [], laidByText := true, laidKinds := [.data], laidTests := true, laidLooks := .later }
def TopEquivalenceCardSaid : Prop := Claim7.holds Tryz.pinned (.plain (OpenSpec.ofChange topEquivalenceSpec)) topEquivalenceCard

/-- THE SECOND FORM's CARD OF 'guerdontop.TopEquivalence'. -/
def topEquivalenceUptoCard : Claim7 := { stood := { row := topEquivalenceUptoRow, standIns := [], harness := (true, "95eba386657988b3d20c5b54e3c71c3b753349ba21f1e682fa6e2f19d702843e"), looks := true }, kinds := [], alts := [], laidByText := true, laidKinds := [.data], laidTests := true, laidLooks := .later }
def TopEquivalenceUptoCardSaid : Prop := Claim7.holds Tryz.pinned (.plain (OpenSpec.upto topEquivalenceSpec)) topEquivalenceUptoCard
end Rows
end Go.Proofs.YtgmlbmcajglngaaGreatDoor
