/-
  DERIVED. GIVEN WITH THE SEED: THE CARDS: each row of YtpgdlhcmenjcgaaGreatDoorRows.lean that lists a variable, with what it lists TIED to the program's text (the seventh form; the later family's looks); each row that meets fmt, with fmt's text TOLD by the authors' own Lean function (tested against real Go, not proved from fmt's source: count such statements apart). THE CARD IS WHAT COUNTS. Prove the row's statement (the work); the ties are given (YtpgdlhcmenjcgaaGreatDoorTie.lean); close each card by the builder's one call (the guide's Derived/Test/ToyasCard.lean, 'card_holds'). Laid BY PROGRAM, IN A SANDBOX (cutbox-door.mjs). By AI agents, Wed Nov 11 2026. No macro, syntax, notation, axiom, sorry.
-/
import Derived.Test.YtpgdlhcmenjcgaaGreatDoorRows
import GoSem.ClaimSeven
namespace Go.Proofs.YtpgdlhcmenjcgaaGreatDoor
namespace Rows

/-- THE TIED CARD OF 'guerdonlaw60.MarginalValueAt'. -/
def marginalValueAtCard : Claim7 := { stood := { row := marginalValueAtRow, standIns := [], harness := (true, "ffaec89a2b4fd30bb500ea3317913d964bda975832c5db45c3ea792c57c4bd99"), looks := true }, kinds := [], alts := [], laidByText := true, laidKinds := [.data], laidTests := true, laidLooks := .later }
def MarginalValueAtCardSaid : Prop := Claim7.holds Tryz.pinned (.plain (OpenSpec.ofChange marginalValueAtSpec)) marginalValueAtCard

/-- THE TIED CARD OF 'guerdonlaw60.MarginalRate'. -/
def marginalRateCard : Claim7 := { stood := { row := marginalRateRow, standIns := [], harness := (true, "ffaec89a2b4fd30bb500ea3317913d964bda975832c5db45c3ea792c57c4bd99"), looks := true }, kinds := [], alts := [], laidByText := true, laidKinds := [.data], laidTests := true, laidLooks := .later }
def MarginalRateCardSaid : Prop := Claim7.holds Tryz.pinned (.plain (OpenSpec.ofChange marginalRateSpec)) marginalRateCard

/-- THE TIED CARD OF 'guerdonlaw60.MarginalFindCliffs'. -/
def marginalFindCliffsCard : Claim7 := { stood := { row := marginalFindCliffsRow, standIns := [], harness := (true, "ffaec89a2b4fd30bb500ea3317913d964bda975832c5db45c3ea792c57c4bd99"), looks := true }, kinds := [], alts := [], laidByText := true, laidKinds := [.data], laidTests := true, laidLooks := .later }
def MarginalFindCliffsCardSaid : Prop := Claim7.holds Tryz.pinned (.plain (OpenSpec.ofChange marginalFindCliffsSpec)) marginalFindCliffsCard

/-- THE TIED CARD OF 'guerdonlaw60.MarginalCliffs'. -/
def marginalCliffsCard : Claim7 := { stood := { row := marginalCliffsRow, standIns := [], harness := (true, "ffaec89a2b4fd30bb500ea3317913d964bda975832c5db45c3ea792c57c4bd99"), looks := true }, kinds := [], alts := [], laidByText := true, laidKinds := [.data], laidTests := true, laidLooks := .later }
def MarginalCliffsCardSaid : Prop := Claim7.holds Tryz.pinned (.plain (OpenSpec.ofChange marginalCliffsSpec)) marginalCliffsCard

/-- THE SECOND FORM's CARD OF 'guerdonlaw60.MarginalValueAt'. -/
def marginalValueAtUptoCard : Claim7 := { stood := { row := marginalValueAtUptoRow, standIns := [], harness := (true, "ffaec89a2b4fd30bb500ea3317913d964bda975832c5db45c3ea792c57c4bd99"), looks := true }, kinds := [], alts := [], laidByText := true, laidKinds := [.data], laidTests := true, laidLooks := .later }
def MarginalValueAtUptoCardSaid : Prop := Claim7.holds Tryz.pinned (.plain (OpenSpec.upto marginalValueAtSpec)) marginalValueAtUptoCard

/-- THE SECOND FORM's CARD OF 'guerdonlaw60.MarginalRate'. -/
def marginalRateUptoCard : Claim7 := { stood := { row := marginalRateUptoRow, standIns := [], harness := (true, "ffaec89a2b4fd30bb500ea3317913d964bda975832c5db45c3ea792c57c4bd99"), looks := true }, kinds := [], alts := [], laidByText := true, laidKinds := [.data], laidTests := true, laidLooks := .later }
def MarginalRateUptoCardSaid : Prop := Claim7.holds Tryz.pinned (.plain (OpenSpec.upto marginalRateSpec)) marginalRateUptoCard

/-- THE SECOND FORM's CARD OF 'guerdonlaw60.MarginalFindCliffs'. -/
def marginalFindCliffsUptoCard : Claim7 := { stood := { row := marginalFindCliffsUptoRow, standIns := [], harness := (true, "ffaec89a2b4fd30bb500ea3317913d964bda975832c5db45c3ea792c57c4bd99"), looks := true }, kinds := [], alts := [], laidByText := true, laidKinds := [.data], laidTests := true, laidLooks := .later }
def MarginalFindCliffsUptoCardSaid : Prop := Claim7.holds Tryz.pinned (.plain (OpenSpec.upto marginalFindCliffsSpec)) marginalFindCliffsUptoCard

/-- THE SECOND FORM's CARD OF 'guerdonlaw60.MarginalCliffs'. -/
def marginalCliffsUptoCard : Claim7 := { stood := { row := marginalCliffsUptoRow, standIns := [], harness := (true, "ffaec89a2b4fd30bb500ea3317913d964bda975832c5db45c3ea792c57c4bd99"), looks := true }, kinds := [], alts := [], laidByText := true, laidKinds := [.data], laidTests := true, laidLooks := .later }
def MarginalCliffsUptoCardSaid : Prop := Claim7.holds Tryz.pinned (.plain (OpenSpec.upto marginalCliffsSpec)) marginalCliffsUptoCard
end Rows
end Go.Proofs.YtpgdlhcmenjcgaaGreatDoor
