/-
  DERIVED. GIVEN WITH THE SEED: THE CARDS: each row of YtfelabniafejgaaGreatDoorRows.lean that lists a variable, with what it lists TIED to the program's text (the seventh form; the later family's looks); each row that meets fmt, with fmt's text TOLD by the authors' own Lean function (tested against real Go, not proved from fmt's source: count such statements apart). THE CARD IS WHAT COUNTS. Prove the row's statement (the work); the ties are given (YtfelabniafejgaaGreatDoorTie.lean); close each card by the builder's one call (the guide's Derived/Test/ToyasCard.lean, 'card_holds'). Laid BY PROGRAM, IN A SANDBOX (cutbox-door.mjs). By AI agents, Wed Nov 11 2026. No macro, syntax, notation, axiom, sorry.
-/
import Derived.Test.YtfelabniafejgaaGreatDoorRows
import GoSem.ClaimSeven
namespace Go.Proofs.YtfelabniafejgaaGreatDoor
namespace Rows

/-- THE TIED CARD OF 'guerdonlaw52.ImpactCompare'. -/
def impactCompareCard : Claim7 := { stood := { row := impactCompareRow, standIns := [], harness := (true, "82bb1e96e8dcdeeba06646cc9fc3947e3ed6eba8bb464d6c50439e58467b557a"), looks := true }, kinds := [], alts := [], laidByText := true, laidKinds := [.data], laidTests := true, laidLooks := .later }
def ImpactCompareCardSaid : Prop := Claim7.holds Tryz.pinned (.plain (OpenSpec.ofChange impactCompareSpec)) impactCompareCard

/-- THE SECOND FORM's CARD OF 'guerdonlaw52.ImpactCompare'. -/
def impactCompareUptoCard : Claim7 := { stood := { row := impactCompareUptoRow, standIns := [], harness := (true, "82bb1e96e8dcdeeba06646cc9fc3947e3ed6eba8bb464d6c50439e58467b557a"), looks := true }, kinds := [], alts := [], laidByText := true, laidKinds := [.data], laidTests := true, laidLooks := .later }
def ImpactCompareUptoCardSaid : Prop := Claim7.holds Tryz.pinned (.plain (OpenSpec.upto impactCompareSpec)) impactCompareUptoCard
end Rows
end Go.Proofs.YtfelabniafejgaaGreatDoor
