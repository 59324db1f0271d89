/-
  DERIVED. GIVEN WITH THE SEED: THE CARDS: each row of YtabfelfinddgkaaGreatDoorRows.lean that lists a variable, with what it lists TIED to the program's text (the seventh form; the later family's looks); each row that meets fmt, with fmt's text TOLD by the authors' own Lean function (tested against real Go, not proved from fmt's source: count such statements apart). THE CARD IS WHAT COUNTS. Prove the row's statement (the work); the ties are given (YtabfelfinddgkaaGreatDoorTie.lean); close each card by the builder's one call (the guide's Derived/Test/ToyasCard.lean, 'card_holds'). Laid BY PROGRAM, IN A SANDBOX (cutbox-door.mjs). By AI agents, Wed Nov 11 2026. No macro, syntax, notation, axiom, sorry.
-/
import Derived.Test.YtabfelfinddgkaaGreatDoorRows
import GoSem.ClaimSeven
namespace Go.Proofs.YtabfelfinddgkaaGreatDoor
namespace Rows

/-- THE TIED CARD OF 'guerdonlaw22.PruneKeeps'. -/
def pruneKeepsCard : Claim7 := { stood := { row := pruneKeepsRow, standIns := [], harness := (true, "124ce07889ae4357ba2dcf6c33dbb8cdb817181b0b57812784fca373591c13f9"), looks := true }, kinds := [], alts := [], laidByText := true, laidKinds := [.data], laidTests := true, laidLooks := .later }
def PruneKeepsCardSaid : Prop := Claim7.holds Tryz.pinned (.plain (OpenSpec.ofChange pruneKeepsSpec)) pruneKeepsCard

/-- THE TIED CARD OF 'guerdonlaw22.PruneIndex'. -/
def pruneIndexCard : Claim7 := { stood := { row := pruneIndexRow, standIns := [], harness := (true, "124ce07889ae4357ba2dcf6c33dbb8cdb817181b0b57812784fca373591c13f9"), looks := true }, kinds := [], alts := [], laidByText := true, laidKinds := [.data], laidTests := true, laidLooks := .later }
def PruneIndexCardSaid : Prop := Claim7.holds Tryz.pinned (.plain (OpenSpec.ofChange pruneIndexSpec)) pruneIndexCard

/-- THE TIED CARD OF 'guerdonlaw22.PruneValid'. -/
def pruneValidCard : Claim7 := { stood := { row := pruneValidRow, standIns := [], harness := (true, "124ce07889ae4357ba2dcf6c33dbb8cdb817181b0b57812784fca373591c13f9"), looks := true }, kinds := [], alts := [], laidByText := true, laidKinds := [.data], laidTests := true, laidLooks := .later }
def PruneValidCardSaid : Prop := Claim7.holds Tryz.pinned (.plain (OpenSpec.ofChange pruneValidSpec)) pruneValidCard

/-- THE SECOND FORM's CARD OF 'guerdonlaw22.PruneKeeps'. -/
def pruneKeepsUptoCard : Claim7 := { stood := { row := pruneKeepsUptoRow, standIns := [], harness := (true, "124ce07889ae4357ba2dcf6c33dbb8cdb817181b0b57812784fca373591c13f9"), looks := true }, kinds := [], alts := [], laidByText := true, laidKinds := [.data], laidTests := true, laidLooks := .later }
def PruneKeepsUptoCardSaid : Prop := Claim7.holds Tryz.pinned (.plain (OpenSpec.upto pruneKeepsSpec)) pruneKeepsUptoCard

/-- THE SECOND FORM's CARD OF 'guerdonlaw22.PruneIndex'. -/
def pruneIndexUptoCard : Claim7 := { stood := { row := pruneIndexUptoRow, standIns := [], harness := (true, "124ce07889ae4357ba2dcf6c33dbb8cdb817181b0b57812784fca373591c13f9"), looks := true }, kinds := [], alts := [], laidByText := true, laidKinds := [.data], laidTests := true, laidLooks := .later }
def PruneIndexUptoCardSaid : Prop := Claim7.holds Tryz.pinned (.plain (OpenSpec.upto pruneIndexSpec)) pruneIndexUptoCard

/-- THE SECOND FORM's CARD OF 'guerdonlaw22.PruneValid'. -/
def pruneValidUptoCard : Claim7 := { stood := { row := pruneValidUptoRow, standIns := [], harness := (true, "124ce07889ae4357ba2dcf6c33dbb8cdb817181b0b57812784fca373591c13f9"), looks := true }, kinds := [], alts := [], laidByText := true, laidKinds := [.data], laidTests := true, laidLooks := .later }
def PruneValidUptoCardSaid : Prop := Claim7.holds Tryz.pinned (.plain (OpenSpec.upto pruneValidSpec)) pruneValidUptoCard
end Rows
end Go.Proofs.YtabfelfinddgkaaGreatDoor
