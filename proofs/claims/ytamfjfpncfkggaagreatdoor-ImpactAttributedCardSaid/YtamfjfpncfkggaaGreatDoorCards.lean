/-
  DERIVED. GIVEN WITH THE SEED: THE CARDS: each row of YtamfjfpncfkggaaGreatDoorRows.lean that lists a variable, with what it lists TIED to the program's text (the seventh form; the later family's looks); each row that meets fmt, with fmt's text TOLD by the authors' own Lean function (tested against real Go, not proved from fmt's source: count such statements apart). THE CARD IS WHAT COUNTS. Prove the row's statement (the work); the ties are given (YtamfjfpncfkggaaGreatDoorTie.lean); close each card by the builder's one call (the guide's Derived/Test/ToyasCard.lean, 'card_holds'). Laid BY PROGRAM, IN A SANDBOX (cutbox-door.mjs). By AI agents, Wed Nov 11 2026. No macro, syntax, notation, axiom, sorry.
-/
import Derived.Test.YtamfjfpncfkggaaGreatDoorRows
import GoSem.ClaimSeven
namespace Go.Proofs.YtamfjfpncfkggaaGreatDoor
namespace Rows

/-- THE TIED CARD OF 'guerdonlaw52.ImpactIsChanged'. -/
def impactIsChangedCard : Claim7 := { stood := { row := impactIsChangedRow, standIns := [], harness := (true, "10ab6456550cf92e0cdd400be15574590391000fe03f150cb89ad0157648152b"), looks := true }, kinds := [], alts := [], laidByText := true, laidKinds := [.data], laidTests := true, laidLooks := .later }
def ImpactIsChangedCardSaid : Prop := Claim7.holds Tryz.pinned (.plain (OpenSpec.ofChange impactIsChangedSpec)) impactIsChangedCard

/-- THE TIED CARD OF 'guerdonlaw52.ImpactAttributed'. -/
def impactAttributedCard : Claim7 := { stood := { row := impactAttributedRow, standIns := [], harness := (true, "10ab6456550cf92e0cdd400be15574590391000fe03f150cb89ad0157648152b"), looks := true }, kinds := [], alts := [], laidByText := true, laidKinds := [.data], laidTests := true, laidLooks := .later }
def ImpactAttributedCardSaid : Prop := Claim7.holds Tryz.pinned (.plain (OpenSpec.ofChange impactAttributedSpec)) impactAttributedCard

/-- THE TIED CARD OF 'guerdonlaw52.ImpactSelf'. -/
def impactSelfCard : Claim7 := { stood := { row := impactSelfRow, standIns := [], harness := (true, "10ab6456550cf92e0cdd400be15574590391000fe03f150cb89ad0157648152b"), looks := true }, kinds := [], alts := [], laidByText := true, laidKinds := [.data], laidTests := true, laidLooks := .later }
def ImpactSelfCardSaid : Prop := Claim7.holds Tryz.pinned (.plain (OpenSpec.ofChange impactSelfSpec)) impactSelfCard

/-- THE TIED CARD OF 'guerdonlaw52.ImpactSymmetric'. -/
def impactSymmetricCard : Claim7 := { stood := { row := impactSymmetricRow, standIns := [], harness := (true, "10ab6456550cf92e0cdd400be15574590391000fe03f150cb89ad0157648152b"), looks := true }, kinds := [], alts := [], laidByText := true, laidKinds := [.data], laidTests := true, laidLooks := .later }
def ImpactSymmetricCardSaid : Prop := Claim7.holds Tryz.pinned (.plain (OpenSpec.ofChange impactSymmetricSpec)) impactSymmetricCard

/-- THE SECOND FORM's CARD OF 'guerdonlaw52.ImpactIsChanged'. -/
def impactIsChangedUptoCard : Claim7 := { stood := { row := impactIsChangedUptoRow, standIns := [], harness := (true, "10ab6456550cf92e0cdd400be15574590391000fe03f150cb89ad0157648152b"), looks := true }, kinds := [], alts := [], laidByText := true, laidKinds := [.data], laidTests := true, laidLooks := .later }
def ImpactIsChangedUptoCardSaid : Prop := Claim7.holds Tryz.pinned (.plain (OpenSpec.upto impactIsChangedSpec)) impactIsChangedUptoCard

/-- THE SECOND FORM's CARD OF 'guerdonlaw52.ImpactAttributed'. -/
def impactAttributedUptoCard : Claim7 := { stood := { row := impactAttributedUptoRow, standIns := [], harness := (true, "10ab6456550cf92e0cdd400be15574590391000fe03f150cb89ad0157648152b"), looks := true }, kinds := [], alts := [], laidByText := true, laidKinds := [.data], laidTests := true, laidLooks := .later }
def ImpactAttributedUptoCardSaid : Prop := Claim7.holds Tryz.pinned (.plain (OpenSpec.upto impactAttributedSpec)) impactAttributedUptoCard

/-- THE SECOND FORM's CARD OF 'guerdonlaw52.ImpactSelf'. -/
def impactSelfUptoCard : Claim7 := { stood := { row := impactSelfUptoRow, standIns := [], harness := (true, "10ab6456550cf92e0cdd400be15574590391000fe03f150cb89ad0157648152b"), looks := true }, kinds := [], alts := [], laidByText := true, laidKinds := [.data], laidTests := true, laidLooks := .later }
def ImpactSelfUptoCardSaid : Prop := Claim7.holds Tryz.pinned (.plain (OpenSpec.upto impactSelfSpec)) impactSelfUptoCard

/-- THE SECOND FORM's CARD OF 'guerdonlaw52.ImpactSymmetric'. -/
def impactSymmetricUptoCard : Claim7 := { stood := { row := impactSymmetricUptoRow, standIns := [], harness := (true, "10ab6456550cf92e0cdd400be15574590391000fe03f150cb89ad0157648152b"), looks := true }, kinds := [], alts := [], laidByText := true, laidKinds := [.data], laidTests := true, laidLooks := .later }
def ImpactSymmetricUptoCardSaid : Prop := Claim7.holds Tryz.pinned (.plain (OpenSpec.upto impactSymmetricSpec)) impactSymmetricUptoCard
end Rows
end Go.Proofs.YtamfjfpncfkggaaGreatDoor
