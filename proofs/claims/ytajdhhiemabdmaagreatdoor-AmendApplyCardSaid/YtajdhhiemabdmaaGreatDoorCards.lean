/-
  DERIVED. GIVEN WITH THE SEED: THE CARDS: each row of YtajdhhiemabdmaaGreatDoorRows.lean that lists a variable, with what it lists TIED to the program's text (the seventh form; the later family's looks); each row that meets fmt, with fmt's text TOLD by the authors' own Lean function (tested against real Go, not proved from fmt's source: count such statements apart). THE CARD IS WHAT COUNTS. Prove the row's statement (the work); the ties are given (YtajdhhiemabdmaaGreatDoorTie.lean); close each card by the builder's one call (the guide's Derived/Test/ToyasCard.lean, 'card_holds'). Laid BY PROGRAM, IN A SANDBOX (cutbox-door.mjs). By AI agents, Wed Nov 11 2026. No macro, syntax, notation, axiom, sorry.
-/
import Derived.Test.YtajdhhiemabdmaaGreatDoorRows
import GoSem.ClaimSeven
namespace Go.Proofs.YtajdhhiemabdmaaGreatDoor
namespace Rows

/-- THE TIED CARD OF 'guerdonlaw57.AmendApply'. -/
def amendApplyCard : Claim7 := { stood := { row := amendApplyRow, standIns := [], harness := (true, "6d88f411ee984be5f8fa0debd80355626252206508d59a8ae36a2f14705a3779"), looks := true }, kinds := [], alts := [], laidByText := true, laidKinds := [.data, .data, .data, .data, .data, .pinned], laidTests := true, laidLooks := .later }
def AmendApplyCardSaid : Prop := Claim7.holds Tryz.pinned (.plain (OpenSpec.ofChange amendApplySpec)) amendApplyCard

/-- THE TIED CARD OF 'guerdonlaw57.AmendActs'. -/
def amendActsCard : Claim7 := { stood := { row := amendActsRow, standIns := [], harness := (true, "6d88f411ee984be5f8fa0debd80355626252206508d59a8ae36a2f14705a3779"), looks := true }, kinds := [], alts := [], laidByText := true, laidKinds := [.data, .data, .data, .data, .data, .pinned], laidTests := true, laidLooks := .later }
def AmendActsCardSaid : Prop := Claim7.holds Tryz.pinned (.plain (OpenSpec.ofChange amendActsSpec)) amendActsCard

/-- THE SECOND FORM's CARD OF 'guerdonlaw57.AmendApply'. -/
def amendApplyUptoCard : Claim7 := { stood := { row := amendApplyUptoRow, standIns := [], harness := (true, "6d88f411ee984be5f8fa0debd80355626252206508d59a8ae36a2f14705a3779"), looks := true }, kinds := [], alts := [], laidByText := true, laidKinds := [.data, .data, .data, .data, .data, .pinned], laidTests := true, laidLooks := .later }
def AmendApplyUptoCardSaid : Prop := Claim7.holds Tryz.pinned (.plain (OpenSpec.upto amendApplySpec)) amendApplyUptoCard

/-- THE SECOND FORM's CARD OF 'guerdonlaw57.AmendActs'. -/
def amendActsUptoCard : Claim7 := { stood := { row := amendActsUptoRow, standIns := [], harness := (true, "6d88f411ee984be5f8fa0debd80355626252206508d59a8ae36a2f14705a3779"), looks := true }, kinds := [], alts := [], laidByText := true, laidKinds := [.data, .data, .data, .data, .data, .pinned], laidTests := true, laidLooks := .later }
def AmendActsUptoCardSaid : Prop := Claim7.holds Tryz.pinned (.plain (OpenSpec.upto amendActsSpec)) amendActsUptoCard
end Rows
end Go.Proofs.YtajdhhiemabdmaaGreatDoor
