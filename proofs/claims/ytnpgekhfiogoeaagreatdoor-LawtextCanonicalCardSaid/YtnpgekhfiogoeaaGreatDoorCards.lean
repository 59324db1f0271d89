/-
  DERIVED. GIVEN WITH THE SEED: THE CARDS: each row of YtnpgekhfiogoeaaGreatDoorRows.lean that lists a variable, with what it lists TIED to the program's text (the seventh form; the later family's looks); each row that meets fmt, with fmt's text TOLD by the authors' own Lean function (tested against real Go, not proved from fmt's source: count such statements apart). THE CARD IS WHAT COUNTS. Prove the row's statement (the work); the ties are given (YtnpgekhfiogoeaaGreatDoorTie.lean); close each card by the builder's one call (the guide's Derived/Test/ToyasCard.lean, 'card_holds'). Laid BY PROGRAM, IN A SANDBOX (cutbox-door.mjs). By AI agents, Wed Nov 11 2026. No macro, syntax, notation, axiom, sorry.
-/
import Derived.Test.YtnpgekhfiogoeaaGreatDoorRows
import GoSem.ClaimSeven
namespace Go.Proofs.YtnpgekhfiogoeaaGreatDoor
namespace Rows

/-- THE TIED CARD OF 'guerdonlaw18.LawtextFormat'. -/
def lawtextFormatCard : Claim7 := { stood := { row := lawtextFormatRow, standIns := [], harness := (true, "48cbaf75cc0bee768ee80f195092adb9eb1a1ea72a592f31afdaa8e41a803a3c"), looks := false }, kinds := [], alts := [], laidByText := true, laidKinds := [.data, .data, .data, .data], laidTests := true, laidLooks := .later }
def LawtextFormatCardSaid : Prop := Claim7.holds Tryz.pinned (.plain (OpenSpec.ofChange lawtextFormatSpec)) lawtextFormatCard

/-- THE TIED CARD OF 'guerdonlaw18.LawtextRoundTrip'. -/
def lawtextRoundTripCard : Claim7 := { stood := { row := lawtextRoundTripRow, standIns := [], harness := (true, "48cbaf75cc0bee768ee80f195092adb9eb1a1ea72a592f31afdaa8e41a803a3c"), looks := false }, kinds := [], alts := [], laidByText := true, laidKinds := [.data, .data, .data, .data], laidTests := true, laidLooks := .later }
def LawtextRoundTripCardSaid : Prop := Claim7.holds Tryz.pinned (.plain (OpenSpec.ofChange lawtextRoundTripSpec)) lawtextRoundTripCard

/-- THE TIED CARD OF 'guerdonlaw18.LawtextCanonical'. -/
def lawtextCanonicalCard : Claim7 := { stood := { row := lawtextCanonicalRow, standIns := [], harness := (true, "48cbaf75cc0bee768ee80f195092adb9eb1a1ea72a592f31afdaa8e41a803a3c"), looks := false }, kinds := [], alts := [], laidByText := true, laidKinds := [.data, .data, .data, .data], laidTests := true, laidLooks := .later }
def LawtextCanonicalCardSaid : Prop := Claim7.holds Tryz.pinned (.plain (OpenSpec.ofChange lawtextCanonicalSpec)) lawtextCanonicalCard

/-- THE TIED CARD OF 'guerdonlaw18.LawtextOrder'. -/
def lawtextOrderCard : Claim7 := { stood := { row := lawtextOrderRow, standIns := [], harness := (true, "48cbaf75cc0bee768ee80f195092adb9eb1a1ea72a592f31afdaa8e41a803a3c"), looks := false }, kinds := [], alts := [], laidByText := true, laidKinds := [.data, .data, .data, .data], laidTests := true, laidLooks := .later }
def LawtextOrderCardSaid : Prop := Claim7.holds Tryz.pinned (.plain (OpenSpec.ofChange lawtextOrderSpec)) lawtextOrderCard

/-- THE SECOND FORM's CARD OF 'guerdonlaw18.LawtextFormat'. -/
def lawtextFormatUptoCard : Claim7 := { stood := { row := lawtextFormatUptoRow, standIns := [], harness := (true, "48cbaf75cc0bee768ee80f195092adb9eb1a1ea72a592f31afdaa8e41a803a3c"), looks := false }, kinds := [], alts := [], laidByText := true, laidKinds := [.data, .data, .data, .data], laidTests := true, laidLooks := .later }
def LawtextFormatUptoCardSaid : Prop := Claim7.holds Tryz.pinned (.plain (OpenSpec.upto lawtextFormatSpec)) lawtextFormatUptoCard

/-- THE SECOND FORM's CARD OF 'guerdonlaw18.LawtextRoundTrip'. -/
def lawtextRoundTripUptoCard : Claim7 := { stood := { row := lawtextRoundTripUptoRow, standIns := [], harness := (true, "48cbaf75cc0bee768ee80f195092adb9eb1a1ea72a592f31afdaa8e41a803a3c"), looks := false }, kinds := [], alts := [], laidByText := true, laidKinds := [.data, .data, .data, .data], laidTests := true, laidLooks := .later }
def LawtextRoundTripUptoCardSaid : Prop := Claim7.holds Tryz.pinned (.plain (OpenSpec.upto lawtextRoundTripSpec)) lawtextRoundTripUptoCard

/-- THE SECOND FORM's CARD OF 'guerdonlaw18.LawtextCanonical'. -/
def lawtextCanonicalUptoCard : Claim7 := { stood := { row := lawtextCanonicalUptoRow, standIns := [], harness := (true, "48cbaf75cc0bee768ee80f195092adb9eb1a1ea72a592f31afdaa8e41a803a3c"), looks := false }, kinds := [], alts := [], laidByText := true, laidKinds := [.data, .data, .data, .data], laidTests := true, laidLooks := .later }
def LawtextCanonicalUptoCardSaid : Prop := Claim7.holds Tryz.pinned (.plain (OpenSpec.upto lawtextCanonicalSpec)) lawtextCanonicalUptoCard

/-- THE SECOND FORM's CARD OF 'guerdonlaw18.LawtextOrder'. -/
def lawtextOrderUptoCard : Claim7 := { stood := { row := lawtextOrderUptoRow, standIns := [], harness := (true, "48cbaf75cc0bee768ee80f195092adb9eb1a1ea72a592f31afdaa8e41a803a3c"), looks := false }, kinds := [], alts := [], laidByText := true, laidKinds := [.data, .data, .data, .data], laidTests := true, laidLooks := .later }
def LawtextOrderUptoCardSaid : Prop := Claim7.holds Tryz.pinned (.plain (OpenSpec.upto lawtextOrderSpec)) lawtextOrderUptoCard
end Rows
end Go.Proofs.YtnpgekhfiogoeaaGreatDoor
