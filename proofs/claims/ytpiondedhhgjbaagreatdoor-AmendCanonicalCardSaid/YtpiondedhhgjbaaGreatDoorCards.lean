/-
  DERIVED. GIVEN WITH THE SEED: THE CARDS: each row of YtpiondedhhgjbaaGreatDoorRows.lean that lists a variable, with what it lists TIED to the program's text (the seventh form; the later family's looks); each row that meets fmt, with fmt's text TOLD by the authors' own Lean function (tested against real Go, not proved from fmt's source: count such statements apart). THE CARD IS WHAT COUNTS. Prove the row's statement (the work); the ties are given (YtpiondedhhgjbaaGreatDoorTie.lean); close each card by the builder's one call (the guide's Derived/Test/ToyasCard.lean, 'card_holds'). Laid BY PROGRAM, IN A SANDBOX (cutbox-door.mjs). By AI agents, Wed Nov 11 2026. No macro, syntax, notation, axiom, sorry.
-/
import Derived.Test.YtpiondedhhgjbaaGreatDoorRows
import GoSem.ClaimSeven
namespace Go.Proofs.YtpiondedhhgjbaaGreatDoor
namespace Rows

/-- THE TIED CARD OF 'guerdonlaw57.AmendCanonical'. -/
def amendCanonicalCard : Claim7 := { stood := { row := amendCanonicalRow, standIns := [], harness := (true, "4146fd707a88ed6c0a2628b646b3299092576ff978a8c60e7ffa879324c2d897"), looks := true }, kinds := [], alts := [], laidByText := true, laidKinds := [.data, .data, .data, .data, .data, .pinned], laidTests := true, laidLooks := .later }
def AmendCanonicalCardSaid : Prop := Claim7.holds Tryz.pinned (.plain (OpenSpec.ofChange amendCanonicalSpec)) amendCanonicalCard

/-- THE SECOND FORM's CARD OF 'guerdonlaw57.AmendCanonical'. -/
def amendCanonicalUptoCard : Claim7 := { stood := { row := amendCanonicalUptoRow, standIns := [], harness := (true, "4146fd707a88ed6c0a2628b646b3299092576ff978a8c60e7ffa879324c2d897"), looks := true }, kinds := [], alts := [], laidByText := true, laidKinds := [.data, .data, .data, .data, .data, .pinned], laidTests := true, laidLooks := .later }
def AmendCanonicalUptoCardSaid : Prop := Claim7.holds Tryz.pinned (.plain (OpenSpec.upto amendCanonicalSpec)) amendCanonicalUptoCard
end Rows
end Go.Proofs.YtpiondedhhgjbaaGreatDoor
