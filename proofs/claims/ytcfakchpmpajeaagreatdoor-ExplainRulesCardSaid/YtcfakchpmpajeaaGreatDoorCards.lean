/-
  DERIVED. GIVEN WITH THE SEED: THE CARDS: each row of YtcfakchpmpajeaaGreatDoorRows.lean that lists a variable, with what it lists TIED to the program's text (the seventh form; the later family's looks); each row that meets fmt, with fmt's text TOLD by the authors' own Lean function (tested against real Go, not proved from fmt's source: count such statements apart). THE CARD IS WHAT COUNTS. Prove the row's statement (the work); the ties are given (YtcfakchpmpajeaaGreatDoorTie.lean); close each card by the builder's one call (the guide's Derived/Test/ToyasCard.lean, 'card_holds'). Laid BY PROGRAM, IN A SANDBOX (cutbox-door.mjs). By AI agents, Wed Nov 11 2026. No macro, syntax, notation, axiom, sorry.
-/
import Derived.Test.YtcfakchpmpajeaaGreatDoorRows
import GoSem.ClaimSeven
namespace Go.Proofs.YtcfakchpmpajeaaGreatDoor
namespace Rows

/-- THE TIED CARD OF 'guerdonlaw21.ExplainValues'. -/
def explainValuesCard : Claim7 := { stood := { row := explainValuesRow, standIns := [], harness := (true, "4ba55f80fefe8bbf960f3ae89de8dac3a2e38d1bf79ac9e1074da056fb255fa8"), looks := true }, kinds := [], alts := [], laidByText := true, laidKinds := [.data, .data, .data, .data], laidTests := true, laidLooks := .later }
def ExplainValuesCardSaid : Prop := Claim7.holds Tryz.pinned (.plain (OpenSpec.ofChange explainValuesSpec)) explainValuesCard

/-- THE TIED CARD OF 'guerdonlaw21.ExplainRules'. -/
def explainRulesCard : Claim7 := { stood := { row := explainRulesRow, standIns := [], harness := (true, "4ba55f80fefe8bbf960f3ae89de8dac3a2e38d1bf79ac9e1074da056fb255fa8"), looks := true }, kinds := [], alts := [], laidByText := true, laidKinds := [.data, .data, .data, .data], laidTests := true, laidLooks := .later }
def ExplainRulesCardSaid : Prop := Claim7.holds Tryz.pinned (.plain (OpenSpec.ofChange explainRulesSpec)) explainRulesCard

/-- THE SECOND FORM's CARD OF 'guerdonlaw21.ExplainValues'. -/
def explainValuesUptoCard : Claim7 := { stood := { row := explainValuesUptoRow, standIns := [], harness := (true, "4ba55f80fefe8bbf960f3ae89de8dac3a2e38d1bf79ac9e1074da056fb255fa8"), looks := true }, kinds := [], alts := [], laidByText := true, laidKinds := [.data, .data, .data, .data], laidTests := true, laidLooks := .later }
def ExplainValuesUptoCardSaid : Prop := Claim7.holds Tryz.pinned (.plain (OpenSpec.upto explainValuesSpec)) explainValuesUptoCard

/-- THE SECOND FORM's CARD OF 'guerdonlaw21.ExplainRules'. -/
def explainRulesUptoCard : Claim7 := { stood := { row := explainRulesUptoRow, standIns := [], harness := (true, "4ba55f80fefe8bbf960f3ae89de8dac3a2e38d1bf79ac9e1074da056fb255fa8"), looks := true }, kinds := [], alts := [], laidByText := true, laidKinds := [.data, .data, .data, .data], laidTests := true, laidLooks := .later }
def ExplainRulesUptoCardSaid : Prop := Claim7.holds Tryz.pinned (.plain (OpenSpec.upto explainRulesSpec)) explainRulesUptoCard
end Rows
end Go.Proofs.YtcfakchpmpajeaaGreatDoor
