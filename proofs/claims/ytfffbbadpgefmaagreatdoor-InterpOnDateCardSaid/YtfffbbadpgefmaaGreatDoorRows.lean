/-
  NARROWER THAN 'FOR EVERY INPUT', by the rows' own cells (each row's printed sentence says how): InterpRun: laid · InterpSelectedRule: laid · InterpTypeSound: laid · InterpEvalDef: laid · InterpOnDate: laid · InterpSelectRule: laid · InterpDefAgrees: laid.
  DERIVED. THE GIVEN ROWS OF THIS SEAT. 7 by the template 'for every input the law returns true; each argument reads behind the call as it read before'; 0 by the template 'total and deterministic' (their statements: YtfffbbadpgefmaaGreatDoorTotals.lean).
  GIVEN WITH THE SEED: the statements are not yours to turn. If you find one false, say at which input.
  Laid BY PROGRAM, IN A SANDBOX (cutbox-rows.mjs): the forced cells as the released guide's own fill.sh prints them over the translation 70ecb056266b90f7… (all of the seat's roots in one cut). By AI agents, Wed Nov 11 2026. No macro, syntax, notation, axiom, sorry.
-/
import Derived.Test.YtfffbbadpgefmaaGreatDoorChecked
import GoSem.Claim
import GoSem.ClaimJoined
import GoSem.ClaimMapViews
import Derived.JoinedTies
import Derived.KernelRfl
namespace Go.Proofs.YtfffbbadpgefmaaGreatDoor
/- THE CELL 'sum', in the pinned program and in every row, IS THE sha256 OF THE DUMP (.gsa) THAT YtfffbbadpgefmaaGreatDoorProg.lean LOADS. Nothing in Lean hashes anything: it is a label: what it is worth is what the hold of that sum in a sandbox is worth. -/
noncomputable def Tryz.pinned : Pinned := { name := "ytfffbbadpgefmaagreatdoor", sum := "70ecb056266b90f714c2d20840612251422685293f879b6dc0c3a7736b6e6f2f", checked := Tryz.checked }
namespace Rows
def none {H : Type} : Left H := { results := [], args := [] }

/- WHAT THE LISTED PACKAGE-LEVEL VARIABLES READ AS WHEN THE CALL BEGINS. Each datum BY PROGRAM (the guide's laid-datum.mjs) off the statement by which the dump's own 'gosem.cut.vars' lays the variable. In a bare row this is a premise. The card (YtfffbbadpgefmaaGreatDoorCards.lean) ties it to the program's text. -/
def laid_guerdon_date_monthLengths {H : Type} : DataW H := .agg [.lit (.int .i64 31), .lit (.int .i64 28), .lit (.int .i64 31), .lit (.int .i64 30), .lit (.int .i64 31), .lit (.int .i64 30), .lit (.int .i64 31), .lit (.int .i64 31), .lit (.int .i64 30), .lit (.int .i64 31), .lit (.int .i64 30), .lit (.int .i64 31)]

/-- 'guerdonlaw20.InterpRun': WHATEVER THE INPUT: true; the input reads as it did. -/
def interpRunSpec : ChangeSpec := { name := "interpRun", fn := fun _ => fun
  | [d1, d2, d3] => { results := [.lit (.bool true)], args := [d1, d2, d3] }
  | _ => none }
def interpRunRow : OpenClaim := { program := "ytfffbbadpgefmaagreatdoor", sum := "70ecb056266b90f714c2d20840612251422685293f879b6dc0c3a7736b6e6f2f", func := "guerdon/guerdonlaw20.InterpRun", spec := "interpRun", inPlace := ["internal/bytealg.IndexByteString", "internal/bytealg.IndexString"], unfollowed := true, recurses := true, named := ["internal/bytealg.MaxLen", "math/bits.divideError", "math/bits.overflowError", "guerdon/date.monthLengths"], apart := false, laid := [("guerdon/date.monthLengths", laid_guerdon_date_monthLengths)] }
def InterpRunSaid : Prop := interpRunRow.holds Tryz.pinned (OpenSpec.ofChange interpRunSpec)

/-- ITS FALSE NEIGHBOUR: 'it returns false'. Refute it at one input. -/
def interpRunWrong : ChangeSpec := { name := "interpRun", fn := fun _ => fun
  | [d1, d2, d3] => { results := [.lit (.bool false)], args := [d1, d2, d3] }
  | _ => none }
def InterpRunWrongFalsely : Prop := interpRunRow.holds Tryz.pinned (OpenSpec.ofChange interpRunWrong)

/-- 'guerdonlaw20.InterpSelectedRule': WHATEVER THE INPUT: true; the input reads as it did. -/
def interpSelectedRuleSpec : ChangeSpec := { name := "interpSelectedRule", fn := fun _ => fun
  | [d1, d2, d3] => { results := [.lit (.bool true)], args := [d1, d2, d3] }
  | _ => none }
def interpSelectedRuleRow : OpenClaim := { program := "ytfffbbadpgefmaagreatdoor", sum := "70ecb056266b90f714c2d20840612251422685293f879b6dc0c3a7736b6e6f2f", func := "guerdon/guerdonlaw20.InterpSelectedRule", spec := "interpSelectedRule", inPlace := ["internal/bytealg.IndexByteString", "internal/bytealg.IndexString"], unfollowed := true, recurses := true, named := ["internal/bytealg.MaxLen", "math/bits.divideError", "math/bits.overflowError", "guerdon/date.monthLengths"], apart := false, laid := [("guerdon/date.monthLengths", laid_guerdon_date_monthLengths)] }
def InterpSelectedRuleSaid : Prop := interpSelectedRuleRow.holds Tryz.pinned (OpenSpec.ofChange interpSelectedRuleSpec)

/-- ITS FALSE NEIGHBOUR: 'it returns false'. Refute it at one input. -/
def interpSelectedRuleWrong : ChangeSpec := { name := "interpSelectedRule", fn := fun _ => fun
  | [d1, d2, d3] => { results := [.lit (.bool false)], args := [d1, d2, d3] }
  | _ => none }
def InterpSelectedRuleWrongFalsely : Prop := interpSelectedRuleRow.holds Tryz.pinned (OpenSpec.ofChange interpSelectedRuleWrong)

/-- 'guerdonlaw20.InterpTypeSound': WHATEVER THE INPUT: true; the input reads as it did. -/
def interpTypeSoundSpec : ChangeSpec := { name := "interpTypeSound", fn := fun _ => fun
  | [d1, d2, d3] => { results := [.lit (.bool true)], args := [d1, d2, d3] }
  | _ => none }
def interpTypeSoundRow : OpenClaim := { program := "ytfffbbadpgefmaagreatdoor", sum := "70ecb056266b90f714c2d20840612251422685293f879b6dc0c3a7736b6e6f2f", func := "guerdon/guerdonlaw20.InterpTypeSound", spec := "interpTypeSound", inPlace := ["internal/bytealg.IndexByteString", "internal/bytealg.IndexString"], unfollowed := true, recurses := true, named := ["internal/bytealg.MaxLen", "math/bits.divideError", "math/bits.overflowError", "guerdon/date.monthLengths"], apart := false, laid := [("guerdon/date.monthLengths", laid_guerdon_date_monthLengths)] }
def InterpTypeSoundSaid : Prop := interpTypeSoundRow.holds Tryz.pinned (OpenSpec.ofChange interpTypeSoundSpec)

/-- ITS FALSE NEIGHBOUR: 'it returns false'. Refute it at one input. -/
def interpTypeSoundWrong : ChangeSpec := { name := "interpTypeSound", fn := fun _ => fun
  | [d1, d2, d3] => { results := [.lit (.bool false)], args := [d1, d2, d3] }
  | _ => none }
def InterpTypeSoundWrongFalsely : Prop := interpTypeSoundRow.holds Tryz.pinned (OpenSpec.ofChange interpTypeSoundWrong)

/-- 'guerdonlaw20.InterpEvalDef': WHATEVER THE INPUT: true; the input reads as it did. -/
def interpEvalDefSpec : ChangeSpec := { name := "interpEvalDef", fn := fun _ => fun
  | [d1, d2, d3, d4] => { results := [.lit (.bool true)], args := [d1, d2, d3, d4] }
  | _ => none }
def interpEvalDefRow : OpenClaim := { program := "ytfffbbadpgefmaagreatdoor", sum := "70ecb056266b90f714c2d20840612251422685293f879b6dc0c3a7736b6e6f2f", func := "guerdon/guerdonlaw20.InterpEvalDef", spec := "interpEvalDef", inPlace := ["internal/bytealg.IndexByteString", "internal/bytealg.IndexString"], unfollowed := true, recurses := true, named := ["internal/bytealg.MaxLen", "math/bits.divideError", "math/bits.overflowError", "guerdon/date.monthLengths"], apart := false, laid := [("guerdon/date.monthLengths", laid_guerdon_date_monthLengths)] }
def InterpEvalDefSaid : Prop := interpEvalDefRow.holds Tryz.pinned (OpenSpec.ofChange interpEvalDefSpec)

/-- ITS FALSE NEIGHBOUR: 'it returns false'. Refute it at one input. -/
def interpEvalDefWrong : ChangeSpec := { name := "interpEvalDef", fn := fun _ => fun
  | [d1, d2, d3, d4] => { results := [.lit (.bool false)], args := [d1, d2, d3, d4] }
  | _ => none }
def InterpEvalDefWrongFalsely : Prop := interpEvalDefRow.holds Tryz.pinned (OpenSpec.ofChange interpEvalDefWrong)

/-- 'guerdonlaw20.InterpOnDate': WHATEVER THE INPUT: true; the input reads as it did. -/
def interpOnDateSpec : ChangeSpec := { name := "interpOnDate", fn := fun _ => fun
  | [d1, d2, d3] => { results := [.lit (.bool true)], args := [d1, d2, d3] }
  | _ => none }
def interpOnDateRow : OpenClaim := { program := "ytfffbbadpgefmaagreatdoor", sum := "70ecb056266b90f714c2d20840612251422685293f879b6dc0c3a7736b6e6f2f", func := "guerdon/guerdonlaw20.InterpOnDate", spec := "interpOnDate", inPlace := ["internal/bytealg.IndexByteString", "internal/bytealg.IndexString"], unfollowed := true, recurses := true, named := ["internal/bytealg.MaxLen", "math/bits.divideError", "math/bits.overflowError", "guerdon/date.monthLengths"], apart := false, laid := [("guerdon/date.monthLengths", laid_guerdon_date_monthLengths)] }
def InterpOnDateSaid : Prop := interpOnDateRow.holds Tryz.pinned (OpenSpec.ofChange interpOnDateSpec)

/-- ITS FALSE NEIGHBOUR: 'it returns false'. Refute it at one input. -/
def interpOnDateWrong : ChangeSpec := { name := "interpOnDate", fn := fun _ => fun
  | [d1, d2, d3] => { results := [.lit (.bool false)], args := [d1, d2, d3] }
  | _ => none }
def InterpOnDateWrongFalsely : Prop := interpOnDateRow.holds Tryz.pinned (OpenSpec.ofChange interpOnDateWrong)

/-- 'guerdonlaw20.InterpSelectRule': WHATEVER THE INPUT: true; the input reads as it did. -/
def interpSelectRuleSpec : ChangeSpec := { name := "interpSelectRule", fn := fun _ => fun
  | [d1, d2, d3, d4] => { results := [.lit (.bool true)], args := [d1, d2, d3, d4] }
  | _ => none }
def interpSelectRuleRow : OpenClaim := { program := "ytfffbbadpgefmaagreatdoor", sum := "70ecb056266b90f714c2d20840612251422685293f879b6dc0c3a7736b6e6f2f", func := "guerdon/guerdonlaw20.InterpSelectRule", spec := "interpSelectRule", inPlace := ["internal/bytealg.IndexByteString", "internal/bytealg.IndexString"], unfollowed := true, recurses := true, named := ["internal/bytealg.MaxLen", "math/bits.divideError", "math/bits.overflowError", "guerdon/date.monthLengths"], apart := false, laid := [("guerdon/date.monthLengths", laid_guerdon_date_monthLengths)] }
def InterpSelectRuleSaid : Prop := interpSelectRuleRow.holds Tryz.pinned (OpenSpec.ofChange interpSelectRuleSpec)

/-- ITS FALSE NEIGHBOUR: 'it returns false'. Refute it at one input. -/
def interpSelectRuleWrong : ChangeSpec := { name := "interpSelectRule", fn := fun _ => fun
  | [d1, d2, d3, d4] => { results := [.lit (.bool false)], args := [d1, d2, d3, d4] }
  | _ => none }
def InterpSelectRuleWrongFalsely : Prop := interpSelectRuleRow.holds Tryz.pinned (OpenSpec.ofChange interpSelectRuleWrong)

/-- 'guerdonlaw20.InterpDefAgrees': WHATEVER THE INPUT: true; the input reads as it did. -/
def interpDefAgreesSpec : ChangeSpec := { name := "interpDefAgrees", fn := fun _ => fun
  | [d1, d2, d3, d4] => { results := [.lit (.bool true)], args := [d1, d2, d3, d4] }
  | _ => none }
def interpDefAgreesRow : OpenClaim := { program := "ytfffbbadpgefmaagreatdoor", sum := "70ecb056266b90f714c2d20840612251422685293f879b6dc0c3a7736b6e6f2f", func := "guerdon/guerdonlaw20.InterpDefAgrees", spec := "interpDefAgrees", inPlace := ["internal/bytealg.IndexByteString", "internal/bytealg.IndexString"], unfollowed := true, recurses := true, named := ["internal/bytealg.MaxLen", "math/bits.divideError", "math/bits.overflowError", "guerdon/date.monthLengths"], apart := false, laid := [("guerdon/date.monthLengths", laid_guerdon_date_monthLengths)] }
def InterpDefAgreesSaid : Prop := interpDefAgreesRow.holds Tryz.pinned (OpenSpec.ofChange interpDefAgreesSpec)

/-- ITS FALSE NEIGHBOUR: 'it returns false'. Refute it at one input. -/
def interpDefAgreesWrong : ChangeSpec := { name := "interpDefAgrees", fn := fun _ => fun
  | [d1, d2, d3, d4] => { results := [.lit (.bool false)], args := [d1, d2, d3, d4] }
  | _ => none }
def InterpDefAgreesWrongFalsely : Prop := interpDefAgreesRow.holds Tryz.pinned (OpenSpec.ofChange interpDefAgreesWrong)

/- THE SECOND FORM. 'bulk': how many values and letters a reading holds, each counted each time it is reached (what is shared counts as often as it is met; a slice's spare places count too). A statement '..UptoSaid' is the law's where the arguments, and the package variables that the reading takes, are together of bulk at most 1048576: NARROWER than '..Said'. Prove '..Said' where nothing that the law and all that it calls make is longer than what came in: it says more and counts as full. Else prove '..UptoSaid'. A law counts once. -/
mutual
def uptoBulk {H : Type} : DataW H → Nat
  | .lit (.string bytes) => bytes.length + 1
  | .lit _ => 1
  | .nil => 1
  | .ptr d => uptoBulk d + 1
  | .slice elems spare => uptoBulkAll elems + uptoBulkAll spare + 1
  | .agg parts => uptoBulkAll parts + 1
  | .iface _ d => uptoBulk d + 1
  | .map entries => uptoBulkEntries entries + 1
  | .held _ => 1
def uptoBulkAll {H : Type} : List (DataW H) → Nat
  | [] => 0
  | d :: r => uptoBulk d + uptoBulkAll r
def uptoBulkEntries {H : Type} : List (Lit × DataW H) → Nat
  | [] => 0
  | x :: r => uptoBulkEntry x + uptoBulkEntries r
def uptoBulkEntry {H : Type} : Lit × DataW H → Nat
  | (.string bytes, d) => bytes.length + uptoBulk d + 1
  | (_, d) => uptoBulk d + 1
 end
def uptoSmall : (H : Type) → List (DataW H) → Bool := fun _ ds => decide (uptoBulkAll ds ≤ 1048576)
def OpenSpec.upto (s : _root_.Go.ChangeSpec) : _root_.Go.OpenSpec := { _root_.Go.OpenSpec.ofChange s with cond := some uptoSmall }

/-- 'guerdonlaw20.InterpRun', WHERE WHAT IT READS IS OF BULK AT MOST 1048576: true; the input reads as it did. -/
def interpRunUptoRow : OpenClaim := { program := "ytfffbbadpgefmaagreatdoor", sum := "70ecb056266b90f714c2d20840612251422685293f879b6dc0c3a7736b6e6f2f", func := "guerdon/guerdonlaw20.InterpRun", spec := "interpRun", inPlace := ["internal/bytealg.IndexByteString", "internal/bytealg.IndexString"], unfollowed := true, recurses := true, named := ["internal/bytealg.MaxLen", "math/bits.divideError", "math/bits.overflowError", "guerdon/date.monthLengths"], apart := false, laid := [("guerdon/date.monthLengths", laid_guerdon_date_monthLengths)], narrowed := true }
def InterpRunUptoSaid : Prop := interpRunUptoRow.holds Tryz.pinned (OpenSpec.upto interpRunSpec)

/-- 'guerdonlaw20.InterpSelectedRule', WHERE WHAT IT READS IS OF BULK AT MOST 1048576: true; the input reads as it did. -/
def interpSelectedRuleUptoRow : OpenClaim := { program := "ytfffbbadpgefmaagreatdoor", sum := "70ecb056266b90f714c2d20840612251422685293f879b6dc0c3a7736b6e6f2f", func := "guerdon/guerdonlaw20.InterpSelectedRule", spec := "interpSelectedRule", inPlace := ["internal/bytealg.IndexByteString", "internal/bytealg.IndexString"], unfollowed := true, recurses := true, named := ["internal/bytealg.MaxLen", "math/bits.divideError", "math/bits.overflowError", "guerdon/date.monthLengths"], apart := false, laid := [("guerdon/date.monthLengths", laid_guerdon_date_monthLengths)], narrowed := true }
def InterpSelectedRuleUptoSaid : Prop := interpSelectedRuleUptoRow.holds Tryz.pinned (OpenSpec.upto interpSelectedRuleSpec)

/-- 'guerdonlaw20.InterpTypeSound', WHERE WHAT IT READS IS OF BULK AT MOST 1048576: true; the input reads as it did. -/
def interpTypeSoundUptoRow : OpenClaim := { program := "ytfffbbadpgefmaagreatdoor", sum := "70ecb056266b90f714c2d20840612251422685293f879b6dc0c3a7736b6e6f2f", func := "guerdon/guerdonlaw20.InterpTypeSound", spec := "interpTypeSound", inPlace := ["internal/bytealg.IndexByteString", "internal/bytealg.IndexString"], unfollowed := true, recurses := true, named := ["internal/bytealg.MaxLen", "math/bits.divideError", "math/bits.overflowError", "guerdon/date.monthLengths"], apart := false, laid := [("guerdon/date.monthLengths", laid_guerdon_date_monthLengths)], narrowed := true }
def InterpTypeSoundUptoSaid : Prop := interpTypeSoundUptoRow.holds Tryz.pinned (OpenSpec.upto interpTypeSoundSpec)

/-- 'guerdonlaw20.InterpEvalDef', WHERE WHAT IT READS IS OF BULK AT MOST 1048576: true; the input reads as it did. -/
def interpEvalDefUptoRow : OpenClaim := { program := "ytfffbbadpgefmaagreatdoor", sum := "70ecb056266b90f714c2d20840612251422685293f879b6dc0c3a7736b6e6f2f", func := "guerdon/guerdonlaw20.InterpEvalDef", spec := "interpEvalDef", inPlace := ["internal/bytealg.IndexByteString", "internal/bytealg.IndexString"], unfollowed := true, recurses := true, named := ["internal/bytealg.MaxLen", "math/bits.divideError", "math/bits.overflowError", "guerdon/date.monthLengths"], apart := false, laid := [("guerdon/date.monthLengths", laid_guerdon_date_monthLengths)], narrowed := true }
def InterpEvalDefUptoSaid : Prop := interpEvalDefUptoRow.holds Tryz.pinned (OpenSpec.upto interpEvalDefSpec)

/-- 'guerdonlaw20.InterpOnDate', WHERE WHAT IT READS IS OF BULK AT MOST 1048576: true; the input reads as it did. -/
def interpOnDateUptoRow : OpenClaim := { program := "ytfffbbadpgefmaagreatdoor", sum := "70ecb056266b90f714c2d20840612251422685293f879b6dc0c3a7736b6e6f2f", func := "guerdon/guerdonlaw20.InterpOnDate", spec := "interpOnDate", inPlace := ["internal/bytealg.IndexByteString", "internal/bytealg.IndexString"], unfollowed := true, recurses := true, named := ["internal/bytealg.MaxLen", "math/bits.divideError", "math/bits.overflowError", "guerdon/date.monthLengths"], apart := false, laid := [("guerdon/date.monthLengths", laid_guerdon_date_monthLengths)], narrowed := true }
def InterpOnDateUptoSaid : Prop := interpOnDateUptoRow.holds Tryz.pinned (OpenSpec.upto interpOnDateSpec)

/-- 'guerdonlaw20.InterpSelectRule', WHERE WHAT IT READS IS OF BULK AT MOST 1048576: true; the input reads as it did. -/
def interpSelectRuleUptoRow : OpenClaim := { program := "ytfffbbadpgefmaagreatdoor", sum := "70ecb056266b90f714c2d20840612251422685293f879b6dc0c3a7736b6e6f2f", func := "guerdon/guerdonlaw20.InterpSelectRule", spec := "interpSelectRule", inPlace := ["internal/bytealg.IndexByteString", "internal/bytealg.IndexString"], unfollowed := true, recurses := true, named := ["internal/bytealg.MaxLen", "math/bits.divideError", "math/bits.overflowError", "guerdon/date.monthLengths"], apart := false, laid := [("guerdon/date.monthLengths", laid_guerdon_date_monthLengths)], narrowed := true }
def InterpSelectRuleUptoSaid : Prop := interpSelectRuleUptoRow.holds Tryz.pinned (OpenSpec.upto interpSelectRuleSpec)

/-- 'guerdonlaw20.InterpDefAgrees', WHERE WHAT IT READS IS OF BULK AT MOST 1048576: true; the input reads as it did. -/
def interpDefAgreesUptoRow : OpenClaim := { program := "ytfffbbadpgefmaagreatdoor", sum := "70ecb056266b90f714c2d20840612251422685293f879b6dc0c3a7736b6e6f2f", func := "guerdon/guerdonlaw20.InterpDefAgrees", spec := "interpDefAgrees", inPlace := ["internal/bytealg.IndexByteString", "internal/bytealg.IndexString"], unfollowed := true, recurses := true, named := ["internal/bytealg.MaxLen", "math/bits.divideError", "math/bits.overflowError", "guerdon/date.monthLengths"], apart := false, laid := [("guerdon/date.monthLengths", laid_guerdon_date_monthLengths)], narrowed := true }
def InterpDefAgreesUptoSaid : Prop := interpDefAgreesUptoRow.holds Tryz.pinned (OpenSpec.upto interpDefAgreesSpec)

end Rows
end Go.Proofs.YtfffbbadpgefmaaGreatDoor
