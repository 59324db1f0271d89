/-
  DERIVED. GIVEN WITH THE SEED: THE CARDS: each row of YtejkgoefeafhnaaGreatDoorRows.lean that lists a variable, with what it lists TIED to the program's text (the seventh form; the later family's looks); each row that meets fmt, with fmt's text TOLD by the authors' own Lean function (tested against real Go, not proved from fmt's source: count such statements apart). THE CARD IS WHAT COUNTS. Prove the row's statement (the work); the ties are given (YtejkgoefeafhnaaGreatDoorTie.lean); close each card by the builder's one call (the guide's Derived/Test/ToyasCard.lean, 'card_holds'). Laid BY PROGRAM, IN A SANDBOX (cutbox-door.mjs). By AI agents, Wed Nov 11 2026. No macro, syntax, notation, axiom, sorry.
-/
import Derived.Test.YtejkgoefeafhnaaGreatDoorRows
import GoSem.ClaimSeven
namespace Go.Proofs.YtejkgoefeafhnaaGreatDoor
namespace Rows

/-- THE TIED CARD OF 'guerdonlaw22.PruneReplays'. -/
def pruneReplaysCard : Claim7 := { stood := { row := pruneReplaysRow, standIns := [], harness := (true, "5c8fd87b121a26cf1114b863fce7c15c62e0c229a1863f81de4c506302ca487a"), looks := true }, kinds := [], alts := [], laidByText := true, laidKinds := [.data], laidTests := true, laidLooks := .later }
def PruneReplaysCardSaid : Prop := Claim7.holds Tryz.pinned (.plain (OpenSpec.ofChange pruneReplaysSpec)) pruneReplaysCard

/-- THE TIED CARD OF 'guerdonlaw22.PruneReplay'. -/
def pruneReplayCard : Claim7 := { stood := { row := pruneReplayRow, standIns := [], harness := (true, "5c8fd87b121a26cf1114b863fce7c15c62e0c229a1863f81de4c506302ca487a"), looks := true }, kinds := [], alts := [], laidByText := true, laidKinds := [.data], laidTests := true, laidLooks := .later }
def PruneReplayCardSaid : Prop := Claim7.holds Tryz.pinned (.plain (OpenSpec.ofChange pruneReplaySpec)) pruneReplayCard

/-- THE SECOND FORM's CARD OF 'guerdonlaw22.PruneReplays'. -/
def pruneReplaysUptoCard : Claim7 := { stood := { row := pruneReplaysUptoRow, standIns := [], harness := (true, "5c8fd87b121a26cf1114b863fce7c15c62e0c229a1863f81de4c506302ca487a"), looks := true }, kinds := [], alts := [], laidByText := true, laidKinds := [.data], laidTests := true, laidLooks := .later }
def PruneReplaysUptoCardSaid : Prop := Claim7.holds Tryz.pinned (.plain (OpenSpec.upto pruneReplaysSpec)) pruneReplaysUptoCard

/-- THE SECOND FORM's CARD OF 'guerdonlaw22.PruneReplay'. -/
def pruneReplayUptoCard : Claim7 := { stood := { row := pruneReplayUptoRow, standIns := [], harness := (true, "5c8fd87b121a26cf1114b863fce7c15c62e0c229a1863f81de4c506302ca487a"), looks := true }, kinds := [], alts := [], laidByText := true, laidKinds := [.data], laidTests := true, laidLooks := .later }
def PruneReplayUptoCardSaid : Prop := Claim7.holds Tryz.pinned (.plain (OpenSpec.upto pruneReplaySpec)) pruneReplayUptoCard
end Rows
end Go.Proofs.YtejkgoefeafhnaaGreatDoor
