/-
  NARROWER THAN 'FOR EVERY INPUT', by the rows' own cells (each row's printed sentence says how): MarginalValueAt: laid · MarginalRate: laid · MarginalFindCliffs: laid · MarginalCliffs: laid.
  DERIVED. THE GIVEN ROWS OF THIS SEAT. 4 by the template 'for every input the law returns true; each argument reads behind the call as it read before'; 0 by the template 'total and deterministic' (their statements: YtpgdlhcmenjcgaaGreatDoorTotals.lean).
  GIVEN WITH THE SEED: the statements are not yours to turn. If you find one false, say at which input.
  Laid BY PROGRAM, IN A SANDBOX (cutbox-rows.mjs): the forced cells as the released guide's own fill.sh prints them over the translation 8cde6c3e1e77bd80… (all of the seat's roots in one cut). By AI agents, Wed Nov 11 2026. No macro, syntax, notation, axiom, sorry.
-/
import Derived.Test.YtpgdlhcmenjcgaaGreatDoorChecked
import GoSem.Claim
import GoSem.ClaimJoined
import GoSem.ClaimMapViews
import Derived.JoinedTies
import Derived.KernelRfl
namespace Go.Proofs.YtpgdlhcmenjcgaaGreatDoor
/- THE CELL 'sum', in the pinned program and in every row, IS THE sha256 OF THE DUMP (.gsa) THAT YtpgdlhcmenjcgaaGreatDoorProg.lean LOADS. Nothing in Lean hashes anything: it is a label: what it is worth is what the hold of that sum in a sandbox is worth. -/
noncomputable def Tryz.pinned : Pinned := { name := "ytpgdlhcmenjcgaagreatdoor", sum := "8cde6c3e1e77bd80dc0bdb7e321b22885c87333ca8571b01cba3eb1eb814d1b3", checked := Tryz.checked }
namespace Rows
def none {H : Type} : Left H := { results := [], args := [] }

/- WHAT THE LISTED PACKAGE-LEVEL VARIABLES READ AS WHEN THE CALL BEGINS. Each datum BY PROGRAM (the guide's laid-datum.mjs) off the statement by which the dump's own 'gosem.cut.vars' lays the variable. In a bare row this is a premise. The card (YtpgdlhcmenjcgaaGreatDoorCards.lean) ties it to the program's text. -/
def laid_guerdon_date_monthLengths {H : Type} : DataW H := .agg [.lit (.int .i64 31), .lit (.int .i64 28), .lit (.int .i64 31), .lit (.int .i64 30), .lit (.int .i64 31), .lit (.int .i64 30), .lit (.int .i64 31), .lit (.int .i64 31), .lit (.int .i64 30), .lit (.int .i64 31), .lit (.int .i64 30), .lit (.int .i64 31)]

/-- 'guerdonlaw60.MarginalValueAt': WHATEVER THE INPUT: true; the input reads as it did. -/
def marginalValueAtSpec : ChangeSpec := { name := "marginalValueAt", fn := fun _ => fun
  | [d1, d2, d3] => { results := [.lit (.bool true)], args := [d1, d2, d3] }
  | _ => none }
def marginalValueAtRow : OpenClaim := { program := "ytpgdlhcmenjcgaagreatdoor", sum := "8cde6c3e1e77bd80dc0bdb7e321b22885c87333ca8571b01cba3eb1eb814d1b3", func := "guerdon/guerdonlaw60.MarginalValueAt", spec := "marginalValueAt", inPlace := ["internal/bytealg.IndexByteString", "internal/bytealg.IndexString"], unfollowed := true, recurses := true, named := ["internal/bytealg.MaxLen", "math/bits.divideError", "math/bits.overflowError", "guerdon/date.monthLengths"], apart := false, laid := [("guerdon/date.monthLengths", laid_guerdon_date_monthLengths)] }
def MarginalValueAtSaid : Prop := marginalValueAtRow.holds Tryz.pinned (OpenSpec.ofChange marginalValueAtSpec)

/-- ITS FALSE NEIGHBOUR: 'it returns false'. Refute it at one input. -/
def marginalValueAtWrong : ChangeSpec := { name := "marginalValueAt", fn := fun _ => fun
  | [d1, d2, d3] => { results := [.lit (.bool false)], args := [d1, d2, d3] }
  | _ => none }
def MarginalValueAtWrongFalsely : Prop := marginalValueAtRow.holds Tryz.pinned (OpenSpec.ofChange marginalValueAtWrong)

/-- 'guerdonlaw60.MarginalRate': WHATEVER THE INPUT: true; the input reads as it did. -/
def marginalRateSpec : ChangeSpec := { name := "marginalRate", fn := fun _ => fun
  | [d1, d2, d3] => { results := [.lit (.bool true)], args := [d1, d2, d3] }
  | _ => none }
def marginalRateRow : OpenClaim := { program := "ytpgdlhcmenjcgaagreatdoor", sum := "8cde6c3e1e77bd80dc0bdb7e321b22885c87333ca8571b01cba3eb1eb814d1b3", func := "guerdon/guerdonlaw60.MarginalRate", spec := "marginalRate", inPlace := ["internal/bytealg.IndexByteString", "internal/bytealg.IndexString"], unfollowed := true, recurses := true, named := ["internal/bytealg.MaxLen", "math/bits.divideError", "math/bits.overflowError", "guerdon/date.monthLengths"], apart := false, laid := [("guerdon/date.monthLengths", laid_guerdon_date_monthLengths)] }
def MarginalRateSaid : Prop := marginalRateRow.holds Tryz.pinned (OpenSpec.ofChange marginalRateSpec)

/-- ITS FALSE NEIGHBOUR: 'it returns false'. Refute it at one input. -/
def marginalRateWrong : ChangeSpec := { name := "marginalRate", fn := fun _ => fun
  | [d1, d2, d3] => { results := [.lit (.bool false)], args := [d1, d2, d3] }
  | _ => none }
def MarginalRateWrongFalsely : Prop := marginalRateRow.holds Tryz.pinned (OpenSpec.ofChange marginalRateWrong)

/-- 'guerdonlaw60.MarginalFindCliffs': WHATEVER THE INPUT: true; the input reads as it did. -/
def marginalFindCliffsSpec : ChangeSpec := { name := "marginalFindCliffs", fn := fun _ => fun
  | [d1, d2, d3, d4] => { results := [.lit (.bool true)], args := [d1, d2, d3, d4] }
  | _ => none }
def marginalFindCliffsRow : OpenClaim := { program := "ytpgdlhcmenjcgaagreatdoor", sum := "8cde6c3e1e77bd80dc0bdb7e321b22885c87333ca8571b01cba3eb1eb814d1b3", func := "guerdon/guerdonlaw60.MarginalFindCliffs", spec := "marginalFindCliffs", inPlace := ["internal/bytealg.IndexByteString", "internal/bytealg.IndexString"], unfollowed := true, recurses := true, named := ["internal/bytealg.MaxLen", "math/bits.divideError", "math/bits.overflowError", "guerdon/date.monthLengths"], apart := false, laid := [("guerdon/date.monthLengths", laid_guerdon_date_monthLengths)] }
def MarginalFindCliffsSaid : Prop := marginalFindCliffsRow.holds Tryz.pinned (OpenSpec.ofChange marginalFindCliffsSpec)

/-- ITS FALSE NEIGHBOUR: 'it returns false'. Refute it at one input. -/
def marginalFindCliffsWrong : ChangeSpec := { name := "marginalFindCliffs", fn := fun _ => fun
  | [d1, d2, d3, d4] => { results := [.lit (.bool false)], args := [d1, d2, d3, d4] }
  | _ => none }
def MarginalFindCliffsWrongFalsely : Prop := marginalFindCliffsRow.holds Tryz.pinned (OpenSpec.ofChange marginalFindCliffsWrong)

/-- 'guerdonlaw60.MarginalCliffs': WHATEVER THE INPUT: true; the input reads as it did. -/
def marginalCliffsSpec : ChangeSpec := { name := "marginalCliffs", fn := fun _ => fun
  | [d1, d2, d3, d4] => { results := [.lit (.bool true)], args := [d1, d2, d3, d4] }
  | _ => none }
def marginalCliffsRow : OpenClaim := { program := "ytpgdlhcmenjcgaagreatdoor", sum := "8cde6c3e1e77bd80dc0bdb7e321b22885c87333ca8571b01cba3eb1eb814d1b3", func := "guerdon/guerdonlaw60.MarginalCliffs", spec := "marginalCliffs", inPlace := ["internal/bytealg.IndexByteString", "internal/bytealg.IndexString"], unfollowed := true, recurses := true, named := ["internal/bytealg.MaxLen", "math/bits.divideError", "math/bits.overflowError", "guerdon/date.monthLengths"], apart := false, laid := [("guerdon/date.monthLengths", laid_guerdon_date_monthLengths)] }
def MarginalCliffsSaid : Prop := marginalCliffsRow.holds Tryz.pinned (OpenSpec.ofChange marginalCliffsSpec)

/-- ITS FALSE NEIGHBOUR: 'it returns false'. Refute it at one input. -/
def marginalCliffsWrong : ChangeSpec := { name := "marginalCliffs", fn := fun _ => fun
  | [d1, d2, d3, d4] => { results := [.lit (.bool false)], args := [d1, d2, d3, d4] }
  | _ => none }
def MarginalCliffsWrongFalsely : Prop := marginalCliffsRow.holds Tryz.pinned (OpenSpec.ofChange marginalCliffsWrong)

/- THE SECOND FORM. 'bulk': how many values and letters a reading holds, each counted each time it is reached (what is shared counts as often as it is met; a slice's spare places count too). A statement '..UptoSaid' is the law's where the arguments, and the package variables that the reading takes, are together of bulk at most 1048576: NARROWER than '..Said'. Prove '..Said' where nothing that the law and all that it calls make is longer than what came in: it says more and counts as full. Else prove '..UptoSaid'. A law counts once. -/
mutual
def uptoBulk {H : Type} : DataW H → Nat
  | .lit (.string bytes) => bytes.length + 1
  | .lit _ => 1
  | .nil => 1
  | .ptr d => uptoBulk d + 1
  | .slice elems spare => uptoBulkAll elems + uptoBulkAll spare + 1
  | .agg parts => uptoBulkAll parts + 1
  | .iface _ d => uptoBulk d + 1
  | .map entries => uptoBulkEntries entries + 1
  | .held _ => 1
def uptoBulkAll {H : Type} : List (DataW H) → Nat
  | [] => 0
  | d :: r => uptoBulk d + uptoBulkAll r
def uptoBulkEntries {H : Type} : List (Lit × DataW H) → Nat
  | [] => 0
  | x :: r => uptoBulkEntry x + uptoBulkEntries r
def uptoBulkEntry {H : Type} : Lit × DataW H → Nat
  | (.string bytes, d) => bytes.length + uptoBulk d + 1
  | (_, d) => uptoBulk d + 1
 end
def uptoSmall : (H : Type) → List (DataW H) → Bool := fun _ ds => decide (uptoBulkAll ds ≤ 1048576)
def OpenSpec.upto (s : _root_.Go.ChangeSpec) : _root_.Go.OpenSpec := { _root_.Go.OpenSpec.ofChange s with cond := some uptoSmall }

/-- 'guerdonlaw60.MarginalValueAt', WHERE WHAT IT READS IS OF BULK AT MOST 1048576: true; the input reads as it did. -/
def marginalValueAtUptoRow : OpenClaim := { program := "ytpgdlhcmenjcgaagreatdoor", sum := "8cde6c3e1e77bd80dc0bdb7e321b22885c87333ca8571b01cba3eb1eb814d1b3", func := "guerdon/guerdonlaw60.MarginalValueAt", spec := "marginalValueAt", inPlace := ["internal/bytealg.IndexByteString", "internal/bytealg.IndexString"], unfollowed := true, recurses := true, named := ["internal/bytealg.MaxLen", "math/bits.divideError", "math/bits.overflowError", "guerdon/date.monthLengths"], apart := false, laid := [("guerdon/date.monthLengths", laid_guerdon_date_monthLengths)], narrowed := true }
def MarginalValueAtUptoSaid : Prop := marginalValueAtUptoRow.holds Tryz.pinned (OpenSpec.upto marginalValueAtSpec)

/-- 'guerdonlaw60.MarginalRate', WHERE WHAT IT READS IS OF BULK AT MOST 1048576: true; the input reads as it did. -/
def marginalRateUptoRow : OpenClaim := { program := "ytpgdlhcmenjcgaagreatdoor", sum := "8cde6c3e1e77bd80dc0bdb7e321b22885c87333ca8571b01cba3eb1eb814d1b3", func := "guerdon/guerdonlaw60.MarginalRate", spec := "marginalRate", inPlace := ["internal/bytealg.IndexByteString", "internal/bytealg.IndexString"], unfollowed := true, recurses := true, named := ["internal/bytealg.MaxLen", "math/bits.divideError", "math/bits.overflowError", "guerdon/date.monthLengths"], apart := false, laid := [("guerdon/date.monthLengths", laid_guerdon_date_monthLengths)], narrowed := true }
def MarginalRateUptoSaid : Prop := marginalRateUptoRow.holds Tryz.pinned (OpenSpec.upto marginalRateSpec)

/-- 'guerdonlaw60.MarginalFindCliffs', WHERE WHAT IT READS IS OF BULK AT MOST 1048576: true; the input reads as it did. -/
def marginalFindCliffsUptoRow : OpenClaim := { program := "ytpgdlhcmenjcgaagreatdoor", sum := "8cde6c3e1e77bd80dc0bdb7e321b22885c87333ca8571b01cba3eb1eb814d1b3", func := "guerdon/guerdonlaw60.MarginalFindCliffs", spec := "marginalFindCliffs", inPlace := ["internal/bytealg.IndexByteString", "internal/bytealg.IndexString"], unfollowed := true, recurses := true, named := ["internal/bytealg.MaxLen", "math/bits.divideError", "math/bits.overflowError", "guerdon/date.monthLengths"], apart := false, laid := [("guerdon/date.monthLengths", laid_guerdon_date_monthLengths)], narrowed := true }
def MarginalFindCliffsUptoSaid : Prop := marginalFindCliffsUptoRow.holds Tryz.pinned (OpenSpec.upto marginalFindCliffsSpec)

/-- 'guerdonlaw60.MarginalCliffs', WHERE WHAT IT READS IS OF BULK AT MOST 1048576: true; the input reads as it did. -/
def marginalCliffsUptoRow : OpenClaim := { program := "ytpgdlhcmenjcgaagreatdoor", sum := "8cde6c3e1e77bd80dc0bdb7e321b22885c87333ca8571b01cba3eb1eb814d1b3", func := "guerdon/guerdonlaw60.MarginalCliffs", spec := "marginalCliffs", inPlace := ["internal/bytealg.IndexByteString", "internal/bytealg.IndexString"], unfollowed := true, recurses := true, named := ["internal/bytealg.MaxLen", "math/bits.divideError", "math/bits.overflowError", "guerdon/date.monthLengths"], apart := false, laid := [("guerdon/date.monthLengths", laid_guerdon_date_monthLengths)], narrowed := true }
def MarginalCliffsUptoSaid : Prop := marginalCliffsUptoRow.holds Tryz.pinned (OpenSpec.upto marginalCliffsSpec)

end Rows
end Go.Proofs.YtpgdlhcmenjcgaaGreatDoor
