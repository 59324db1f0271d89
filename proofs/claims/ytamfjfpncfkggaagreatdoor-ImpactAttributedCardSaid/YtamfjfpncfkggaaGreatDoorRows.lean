/-
  NARROWER THAN 'FOR EVERY INPUT', by the rows' own cells (each row's printed sentence says how): ImpactIsChanged: laid · ImpactAttributed: laid · ImpactSelf: laid · ImpactSymmetric: laid.
  DERIVED. THE GIVEN ROWS OF THIS SEAT. 4 by the template 'for every input the law returns true; each argument reads behind the call as it read before'; 0 by the template 'total and deterministic' (their statements: YtamfjfpncfkggaaGreatDoorTotals.lean).
  GIVEN WITH THE SEED: the statements are not yours to turn. If you find one false, say at which input.
  Laid BY PROGRAM, IN A SANDBOX (cutbox-rows.mjs): the forced cells as the released guide's own fill.sh prints them over the translation e555668fc19a86de… (all of the seat's roots in one cut). By AI agents, Wed Nov 11 2026. No macro, syntax, notation, axiom, sorry.
-/
import Derived.Test.YtamfjfpncfkggaaGreatDoorChecked
import GoSem.Claim
import GoSem.ClaimJoined
import GoSem.ClaimMapViews
import Derived.JoinedTies
import Derived.KernelRfl
namespace Go.Proofs.YtamfjfpncfkggaaGreatDoor
/- THE CELL 'sum', in the pinned program and in every row, IS THE sha256 OF THE DUMP (.gsa) THAT YtamfjfpncfkggaaGreatDoorProg.lean LOADS. Nothing in Lean hashes anything: it is a label: what it is worth is what the hold of that sum in a sandbox is worth. -/
noncomputable def Tryz.pinned : Pinned := { name := "ytamfjfpncfkggaagreatdoor", sum := "e555668fc19a86defd6d477c249a37237de5b9355c0494be41ea055f97da255e", checked := Tryz.checked }
namespace Rows
def none {H : Type} : Left H := { results := [], args := [] }

/- WHAT THE LISTED PACKAGE-LEVEL VARIABLES READ AS WHEN THE CALL BEGINS. Each datum BY PROGRAM (the guide's laid-datum.mjs) off the statement by which the dump's own 'gosem.cut.vars' lays the variable. In a bare row this is a premise. The card (YtamfjfpncfkggaaGreatDoorCards.lean) ties it to the program's text. -/
def laid_guerdon_date_monthLengths {H : Type} : DataW H := .agg [.lit (.int .i64 31), .lit (.int .i64 28), .lit (.int .i64 31), .lit (.int .i64 30), .lit (.int .i64 31), .lit (.int .i64 30), .lit (.int .i64 31), .lit (.int .i64 31), .lit (.int .i64 30), .lit (.int .i64 31), .lit (.int .i64 30), .lit (.int .i64 31)]

/-- 'guerdonlaw52.ImpactIsChanged': WHATEVER THE INPUT: true; the input reads as it did. -/
def impactIsChangedSpec : ChangeSpec := { name := "impactIsChanged", fn := fun _ => fun
  | [d] => { results := [.lit (.bool true)], args := [d] }
  | _ => none }
def impactIsChangedRow : OpenClaim := { program := "ytamfjfpncfkggaagreatdoor", sum := "e555668fc19a86defd6d477c249a37237de5b9355c0494be41ea055f97da255e", func := "guerdon/guerdonlaw52.ImpactIsChanged", spec := "impactIsChanged", inPlace := ["internal/bytealg.IndexByteString", "internal/bytealg.IndexString"], unfollowed := true, recurses := true, named := ["internal/bytealg.MaxLen", "math/bits.divideError", "math/bits.overflowError", "guerdon/date.monthLengths"], plainKeys := false, apart := false, laid := [("guerdon/date.monthLengths", laid_guerdon_date_monthLengths)] }
def ImpactIsChangedSaid : Prop := impactIsChangedRow.holds Tryz.pinned (OpenSpec.ofChange impactIsChangedSpec)

/-- ITS FALSE NEIGHBOUR: 'it returns false'. Refute it at one input. -/
def impactIsChangedWrong : ChangeSpec := { name := "impactIsChanged", fn := fun _ => fun
  | [d] => { results := [.lit (.bool false)], args := [d] }
  | _ => none }
def ImpactIsChangedWrongFalsely : Prop := impactIsChangedRow.holds Tryz.pinned (OpenSpec.ofChange impactIsChangedWrong)

/-- 'guerdonlaw52.ImpactAttributed': WHATEVER THE INPUT: true; the input reads as it did. -/
def impactAttributedSpec : ChangeSpec := { name := "impactAttributed", fn := fun _ => fun
  | [d1, d2, d3, d4] => { results := [.lit (.bool true)], args := [d1, d2, d3, d4] }
  | _ => none }
def impactAttributedRow : OpenClaim := { program := "ytamfjfpncfkggaagreatdoor", sum := "e555668fc19a86defd6d477c249a37237de5b9355c0494be41ea055f97da255e", func := "guerdon/guerdonlaw52.ImpactAttributed", spec := "impactAttributed", inPlace := ["internal/bytealg.IndexByteString", "internal/bytealg.IndexString"], unfollowed := true, recurses := true, named := ["internal/bytealg.MaxLen", "math/bits.divideError", "math/bits.overflowError", "guerdon/date.monthLengths"], plainKeys := false, apart := false, laid := [("guerdon/date.monthLengths", laid_guerdon_date_monthLengths)] }
def ImpactAttributedSaid : Prop := impactAttributedRow.holds Tryz.pinned (OpenSpec.ofChange impactAttributedSpec)

/-- ITS FALSE NEIGHBOUR: 'it returns false'. Refute it at one input. -/
def impactAttributedWrong : ChangeSpec := { name := "impactAttributed", fn := fun _ => fun
  | [d1, d2, d3, d4] => { results := [.lit (.bool false)], args := [d1, d2, d3, d4] }
  | _ => none }
def ImpactAttributedWrongFalsely : Prop := impactAttributedRow.holds Tryz.pinned (OpenSpec.ofChange impactAttributedWrong)

/-- 'guerdonlaw52.ImpactSelf': WHATEVER THE INPUT: true; the input reads as it did. -/
def impactSelfSpec : ChangeSpec := { name := "impactSelf", fn := fun _ => fun
  | [d1, d2, d3, d4] => { results := [.lit (.bool true)], args := [d1, d2, d3, d4] }
  | _ => none }
def impactSelfRow : OpenClaim := { program := "ytamfjfpncfkggaagreatdoor", sum := "e555668fc19a86defd6d477c249a37237de5b9355c0494be41ea055f97da255e", func := "guerdon/guerdonlaw52.ImpactSelf", spec := "impactSelf", inPlace := ["internal/bytealg.IndexByteString", "internal/bytealg.IndexString"], unfollowed := true, recurses := true, named := ["internal/bytealg.MaxLen", "math/bits.divideError", "math/bits.overflowError", "guerdon/date.monthLengths"], plainKeys := false, apart := false, laid := [("guerdon/date.monthLengths", laid_guerdon_date_monthLengths)] }
def ImpactSelfSaid : Prop := impactSelfRow.holds Tryz.pinned (OpenSpec.ofChange impactSelfSpec)

/-- ITS FALSE NEIGHBOUR: 'it returns false'. Refute it at one input. -/
def impactSelfWrong : ChangeSpec := { name := "impactSelf", fn := fun _ => fun
  | [d1, d2, d3, d4] => { results := [.lit (.bool false)], args := [d1, d2, d3, d4] }
  | _ => none }
def ImpactSelfWrongFalsely : Prop := impactSelfRow.holds Tryz.pinned (OpenSpec.ofChange impactSelfWrong)

/-- 'guerdonlaw52.ImpactSymmetric': WHATEVER THE INPUT: true; the input reads as it did. -/
def impactSymmetricSpec : ChangeSpec := { name := "impactSymmetric", fn := fun _ => fun
  | [d1, d2, d3, d4] => { results := [.lit (.bool true)], args := [d1, d2, d3, d4] }
  | _ => none }
def impactSymmetricRow : OpenClaim := { program := "ytamfjfpncfkggaagreatdoor", sum := "e555668fc19a86defd6d477c249a37237de5b9355c0494be41ea055f97da255e", func := "guerdon/guerdonlaw52.ImpactSymmetric", spec := "impactSymmetric", inPlace := ["internal/bytealg.IndexByteString", "internal/bytealg.IndexString"], unfollowed := true, recurses := true, named := ["internal/bytealg.MaxLen", "math/bits.divideError", "math/bits.overflowError", "guerdon/date.monthLengths"], plainKeys := false, apart := false, laid := [("guerdon/date.monthLengths", laid_guerdon_date_monthLengths)] }
def ImpactSymmetricSaid : Prop := impactSymmetricRow.holds Tryz.pinned (OpenSpec.ofChange impactSymmetricSpec)

/-- ITS FALSE NEIGHBOUR: 'it returns false'. Refute it at one input. -/
def impactSymmetricWrong : ChangeSpec := { name := "impactSymmetric", fn := fun _ => fun
  | [d1, d2, d3, d4] => { results := [.lit (.bool false)], args := [d1, d2, d3, d4] }
  | _ => none }
def ImpactSymmetricWrongFalsely : Prop := impactSymmetricRow.holds Tryz.pinned (OpenSpec.ofChange impactSymmetricWrong)

/- THE SECOND FORM. 'bulk': how many values and letters a reading holds, each counted each time it is reached (what is shared counts as often as it is met; a slice's spare places count too). A statement '..UptoSaid' is the law's where the arguments, and the package variables that the reading takes, are together of bulk at most 1048576: NARROWER than '..Said'. Prove '..Said' where nothing that the law and all that it calls make is longer than what came in: it says more and counts as full. Else prove '..UptoSaid'. A law counts once. -/
mutual
def uptoBulk {H : Type} : DataW H → Nat
  | .lit (.string bytes) => bytes.length + 1
  | .lit _ => 1
  | .nil => 1
  | .ptr d => uptoBulk d + 1
  | .slice elems spare => uptoBulkAll elems + uptoBulkAll spare + 1
  | .agg parts => uptoBulkAll parts + 1
  | .iface _ d => uptoBulk d + 1
  | .map entries => uptoBulkEntries entries + 1
  | .held _ => 1
def uptoBulkAll {H : Type} : List (DataW H) → Nat
  | [] => 0
  | d :: r => uptoBulk d + uptoBulkAll r
def uptoBulkEntries {H : Type} : List (Lit × DataW H) → Nat
  | [] => 0
  | x :: r => uptoBulkEntry x + uptoBulkEntries r
def uptoBulkEntry {H : Type} : Lit × DataW H → Nat
  | (.string bytes, d) => bytes.length + uptoBulk d + 1
  | (_, d) => uptoBulk d + 1
 end
def uptoSmall : (H : Type) → List (DataW H) → Bool := fun _ ds => decide (uptoBulkAll ds ≤ 1048576)
def OpenSpec.upto (s : _root_.Go.ChangeSpec) : _root_.Go.OpenSpec := { _root_.Go.OpenSpec.ofChange s with cond := some uptoSmall }

/-- 'guerdonlaw52.ImpactIsChanged', WHERE WHAT IT READS IS OF BULK AT MOST 1048576: true; the input reads as it did. -/
def impactIsChangedUptoRow : OpenClaim := { program := "ytamfjfpncfkggaagreatdoor", sum := "e555668fc19a86defd6d477c249a37237de5b9355c0494be41ea055f97da255e", func := "guerdon/guerdonlaw52.ImpactIsChanged", spec := "impactIsChanged", inPlace := ["internal/bytealg.IndexByteString", "internal/bytealg.IndexString"], unfollowed := true, recurses := true, named := ["internal/bytealg.MaxLen", "math/bits.divideError", "math/bits.overflowError", "guerdon/date.monthLengths"], plainKeys := false, apart := false, laid := [("guerdon/date.monthLengths", laid_guerdon_date_monthLengths)], narrowed := true }
def ImpactIsChangedUptoSaid : Prop := impactIsChangedUptoRow.holds Tryz.pinned (OpenSpec.upto impactIsChangedSpec)

/-- 'guerdonlaw52.ImpactAttributed', WHERE WHAT IT READS IS OF BULK AT MOST 1048576: true; the input reads as it did. -/
def impactAttributedUptoRow : OpenClaim := { program := "ytamfjfpncfkggaagreatdoor", sum := "e555668fc19a86defd6d477c249a37237de5b9355c0494be41ea055f97da255e", func := "guerdon/guerdonlaw52.ImpactAttributed", spec := "impactAttributed", inPlace := ["internal/bytealg.IndexByteString", "internal/bytealg.IndexString"], unfollowed := true, recurses := true, named := ["internal/bytealg.MaxLen", "math/bits.divideError", "math/bits.overflowError", "guerdon/date.monthLengths"], plainKeys := false, apart := false, laid := [("guerdon/date.monthLengths", laid_guerdon_date_monthLengths)], narrowed := true }
def ImpactAttributedUptoSaid : Prop := impactAttributedUptoRow.holds Tryz.pinned (OpenSpec.upto impactAttributedSpec)

/-- 'guerdonlaw52.ImpactSelf', WHERE WHAT IT READS IS OF BULK AT MOST 1048576: true; the input reads as it did. -/
def impactSelfUptoRow : OpenClaim := { program := "ytamfjfpncfkggaagreatdoor", sum := "e555668fc19a86defd6d477c249a37237de5b9355c0494be41ea055f97da255e", func := "guerdon/guerdonlaw52.ImpactSelf", spec := "impactSelf", inPlace := ["internal/bytealg.IndexByteString", "internal/bytealg.IndexString"], unfollowed := true, recurses := true, named := ["internal/bytealg.MaxLen", "math/bits.divideError", "math/bits.overflowError", "guerdon/date.monthLengths"], plainKeys := false, apart := false, laid := [("guerdon/date.monthLengths", laid_guerdon_date_monthLengths)], narrowed := true }
def ImpactSelfUptoSaid : Prop := impactSelfUptoRow.holds Tryz.pinned (OpenSpec.upto impactSelfSpec)

/-- 'guerdonlaw52.ImpactSymmetric', WHERE WHAT IT READS IS OF BULK AT MOST 1048576: true; the input reads as it did. -/
def impactSymmetricUptoRow : OpenClaim := { program := "ytamfjfpncfkggaagreatdoor", sum := "e555668fc19a86defd6d477c249a37237de5b9355c0494be41ea055f97da255e", func := "guerdon/guerdonlaw52.ImpactSymmetric", spec := "impactSymmetric", inPlace := ["internal/bytealg.IndexByteString", "internal/bytealg.IndexString"], unfollowed := true, recurses := true, named := ["internal/bytealg.MaxLen", "math/bits.divideError", "math/bits.overflowError", "guerdon/date.monthLengths"], plainKeys := false, apart := false, laid := [("guerdon/date.monthLengths", laid_guerdon_date_monthLengths)], narrowed := true }
def ImpactSymmetricUptoSaid : Prop := impactSymmetricUptoRow.holds Tryz.pinned (OpenSpec.upto impactSymmetricSpec)

end Rows
end Go.Proofs.YtamfjfpncfkggaaGreatDoor
