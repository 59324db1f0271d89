/-
  DERIVED. GIVEN WITH THE SEED: THE CARDS: each row of YtfffbbadpgefmaaGreatDoorRows.lean that lists a variable, with what it lists TIED to the program's text (the seventh form; the later family's looks); each row that meets fmt, with fmt's text TOLD by the authors' own Lean function (tested against real Go, not proved from fmt's source: count such statements apart). THE CARD IS WHAT COUNTS. Prove the row's statement (the work); the ties are given (YtfffbbadpgefmaaGreatDoorTie.lean); close each card by the builder's one call (the guide's Derived/Test/ToyasCard.lean, 'card_holds'). Laid BY PROGRAM, IN A SANDBOX (cutbox-door.mjs). By AI agents, Wed Nov 11 2026. No macro, syntax, notation, axiom, sorry.
-/
import Derived.Test.YtfffbbadpgefmaaGreatDoorRows
import GoSem.ClaimSeven
namespace Go.Proofs.YtfffbbadpgefmaaGreatDoor
namespace Rows

/-- THE TIED CARD OF 'guerdonlaw20.InterpRun'. -/
def interpRunCard : Claim7 := { stood := { row := interpRunRow, standIns := [], harness := (true, "8090e7f09f2a89f4bf8e9ef010c94c28bc71c56ef000cf303c3b910ac044ca12"), looks := true }, kinds := [], alts := [], laidByText := true, laidKinds := [.data], laidTests := true, laidLooks := .later }
def InterpRunCardSaid : Prop := Claim7.holds Tryz.pinned (.plain (OpenSpec.ofChange interpRunSpec)) interpRunCard

/-- THE TIED CARD OF 'guerdonlaw20.InterpSelectedRule'. -/
def interpSelectedRuleCard : Claim7 := { stood := { row := interpSelectedRuleRow, standIns := [], harness := (true, "8090e7f09f2a89f4bf8e9ef010c94c28bc71c56ef000cf303c3b910ac044ca12"), looks := true }, kinds := [], alts := [], laidByText := true, laidKinds := [.data], laidTests := true, laidLooks := .later }
def InterpSelectedRuleCardSaid : Prop := Claim7.holds Tryz.pinned (.plain (OpenSpec.ofChange interpSelectedRuleSpec)) interpSelectedRuleCard

/-- THE TIED CARD OF 'guerdonlaw20.InterpTypeSound'. -/
def interpTypeSoundCard : Claim7 := { stood := { row := interpTypeSoundRow, standIns := [], harness := (true, "8090e7f09f2a89f4bf8e9ef010c94c28bc71c56ef000cf303c3b910ac044ca12"), looks := true }, kinds := [], alts := [], laidByText := true, laidKinds := [.data], laidTests := true, laidLooks := .later }
def InterpTypeSoundCardSaid : Prop := Claim7.holds Tryz.pinned (.plain (OpenSpec.ofChange interpTypeSoundSpec)) interpTypeSoundCard

/-- THE TIED CARD OF 'guerdonlaw20.InterpEvalDef'. -/
def interpEvalDefCard : Claim7 := { stood := { row := interpEvalDefRow, standIns := [], harness := (true, "8090e7f09f2a89f4bf8e9ef010c94c28bc71c56ef000cf303c3b910ac044ca12"), looks := true }, kinds := [], alts := [], laidByText := true, laidKinds := [.data], laidTests := true, laidLooks := .later }
def InterpEvalDefCardSaid : Prop := Claim7.holds Tryz.pinned (.plain (OpenSpec.ofChange interpEvalDefSpec)) interpEvalDefCard

/-- THE TIED CARD OF 'guerdonlaw20.InterpOnDate'. -/
def interpOnDateCard : Claim7 := { stood := { row := interpOnDateRow, standIns := [], harness := (true, "8090e7f09f2a89f4bf8e9ef010c94c28bc71c56ef000cf303c3b910ac044ca12"), looks := true }, kinds := [], alts := [], laidByText := true, laidKinds := [.data], laidTests := true, laidLooks := .later }
def InterpOnDateCardSaid : Prop := Claim7.holds Tryz.pinned (.plain (OpenSpec.ofChange interpOnDateSpec)) interpOnDateCard

/-- THE TIED CARD OF 'guerdonlaw20.InterpSelectRule'. -/
def interpSelectRuleCard : Claim7 := { stood := { row := interpSelectRuleRow, standIns := [], harness := (true, "8090e7f09f2a89f4bf8e9ef010c94c28bc71c56ef000cf303c3b910ac044ca12"), looks := true }, kinds := [], alts := [], laidByText := true, laidKinds := [.data], laidTests := true, laidLooks := .later }
def InterpSelectRuleCardSaid : Prop := Claim7.holds Tryz.pinned (.plain (OpenSpec.ofChange interpSelectRuleSpec)) interpSelectRuleCard

/-- THE TIED CARD OF 'guerdonlaw20.InterpDefAgrees'. -/
def interpDefAgreesCard : Claim7 := { stood := { row := interpDefAgreesRow, standIns := [], harness := (true, "8090e7f09f2a89f4bf8e9ef010c94c28bc71c56ef000cf303c3b910ac044ca12"), looks := true }, kinds := [], alts := [], laidByText := true, laidKinds := [.data], laidTests := true, laidLooks := .later }
def InterpDefAgreesCardSaid : Prop := Claim7.holds Tryz.pinned (.plain (OpenSpec.ofChange interpDefAgreesSpec)) interpDefAgreesCard

/-- THE SECOND FORM's CARD OF 'guerdonlaw20.InterpRun'. -/
def interpRunUptoCard : Claim7 := { stood := { row := interpRunUptoRow, standIns := [], harness := (true, "8090e7f09f2a89f4bf8e9ef010c94c28bc71c56ef000cf303c3b910ac044ca12"), looks := true }, kinds := [], alts := [], laidByText := true, laidKinds := [.data], laidTests := true, laidLooks := .later }
def InterpRunUptoCardSaid : Prop := Claim7.holds Tryz.pinned (.plain (OpenSpec.upto interpRunSpec)) interpRunUptoCard

/-- THE SECOND FORM's CARD OF 'guerdonlaw20.InterpSelectedRule'. -/
def interpSelectedRuleUptoCard : Claim7 := { stood := { row := interpSelectedRuleUptoRow, standIns := [], harness := (true, "8090e7f09f2a89f4bf8e9ef010c94c28bc71c56ef000cf303c3b910ac044ca12"), looks := true }, kinds := [], alts := [], laidByText := true, laidKinds := [.data], laidTests := true, laidLooks := .later }
def InterpSelectedRuleUptoCardSaid : Prop := Claim7.holds Tryz.pinned (.plain (OpenSpec.upto interpSelectedRuleSpec)) interpSelectedRuleUptoCard

/-- THE SECOND FORM's CARD OF 'guerdonlaw20.InterpTypeSound'. -/
def interpTypeSoundUptoCard : Claim7 := { stood := { row := interpTypeSoundUptoRow, standIns := [], harness := (true, "8090e7f09f2a89f4bf8e9ef010c94c28bc71c56ef000cf303c3b910ac044ca12"), looks := true }, kinds := [], alts := [], laidByText := true, laidKinds := [.data], laidTests := true, laidLooks := .later }
def InterpTypeSoundUptoCardSaid : Prop := Claim7.holds Tryz.pinned (.plain (OpenSpec.upto interpTypeSoundSpec)) interpTypeSoundUptoCard

/-- THE SECOND FORM's CARD OF 'guerdonlaw20.InterpEvalDef'. -/
def interpEvalDefUptoCard : Claim7 := { stood := { row := interpEvalDefUptoRow, standIns := [], harness := (true, "8090e7f09f2a89f4bf8e9ef010c94c28bc71c56ef000cf303c3b910ac044ca12"), looks := true }, kinds := [], alts := [], laidByText := true, laidKinds := [.data], laidTests := true, laidLooks := .later }
def InterpEvalDefUptoCardSaid : Prop := Claim7.holds Tryz.pinned (.plain (OpenSpec.upto interpEvalDefSpec)) interpEvalDefUptoCard

/-- THE SECOND FORM's CARD OF 'guerdonlaw20.InterpOnDate'. -/
def interpOnDateUptoCard : Claim7 := { stood := { row := interpOnDateUptoRow, standIns := [], harness := (true, "8090e7f09f2a89f4bf8e9ef010c94c28bc71c56ef000cf303c3b910ac044ca12"), looks := true }, kinds := [], alts := [], laidByText := true, laidKinds := [.data], laidTests := true, laidLooks := .later }
def InterpOnDateUptoCardSaid : Prop := Claim7.holds Tryz.pinned (.plain (OpenSpec.upto interpOnDateSpec)) interpOnDateUptoCard

/-- THE SECOND FORM's CARD OF 'guerdonlaw20.InterpSelectRule'. -/
def interpSelectRuleUptoCard : Claim7 := { stood := { row := interpSelectRuleUptoRow, standIns := [], harness := (true, "8090e7f09f2a89f4bf8e9ef010c94c28bc71c56ef000cf303c3b910ac044ca12"), looks := true }, kinds := [], alts := [], laidByText := true, laidKinds := [.data], laidTests := true, laidLooks := .later }
def InterpSelectRuleUptoCardSaid : Prop := Claim7.holds Tryz.pinned (.plain (OpenSpec.upto interpSelectRuleSpec)) interpSelectRuleUptoCard

/-- THE SECOND FORM's CARD OF 'guerdonlaw20.InterpDefAgrees'. -/
def interpDefAgreesUptoCard : Claim7 := { stood := { row := interpDefAgreesUptoRow, standIns := [], harness := (true, "8090e7f09f2a89f4bf8e9ef010c94c28bc71c56ef000cf303c3b910ac044ca12"), looks := true }, kinds := [], alts := [], laidByText := true, laidKinds := [.data], laidTests := true, laidLooks := .later }
def InterpDefAgreesUptoCardSaid : Prop := Claim7.holds Tryz.pinned (.plain (OpenSpec.upto interpDefAgreesSpec)) interpDefAgreesUptoCard
end Rows
end Go.Proofs.YtfffbbadpgefmaaGreatDoor
