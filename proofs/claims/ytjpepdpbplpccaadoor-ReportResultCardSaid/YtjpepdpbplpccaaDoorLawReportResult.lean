/- guerdon, guerdonlaw54.ReportResult: for every input of the statement the law returns true, and each argument reads afterwards as it read before. Conditions: those of the given row (package variables start as the program lays them). -/
import Derived.Test.YtjpepdpbplpccaaDoorCards
import Derived.Test.YtjpepdpbplpccaaDoorTie
import Derived.Test.YtjpepdpbplpccaaDoorGtSnd
import Derived.Test.YtjpepdpbplpccaaDoorPl7
import Derived.OpenShut
import Derived.Stop.LaidErr
namespace Go.Proofs.YtjpepdpbplpccaaDoor.lawReportResult
open Go.ChangeShapes Go.WideShapes Go.ChangeAt Go.RowKit Go.GP
set_option linter.unusedVariables false
set_option maxRecDepth 100000
theorem own : ownKnob Tryd.prog.godebug = none := by kernel_rfl
theorem laidOut : laidOutB Tryd.prog = true := by kernel_rfl
theorem ub : Tryd.prog.underlying 4 = some .bool := by kernel_rfl
theorem fnAt : Tryd.prog.funcs[3]? = some Tryd.f3 := by kernel_rfl
theorem tab0 {W : World} (h : laidMetH Tryd.prog Rows.reportResultRow.laid W) : Lib.TabIs Tryd.prog W "internal/strconv.uint64pow10" .u64 [1, 10, 100, 1000, 10000, 100000, 1000000, 10000000, 100000000, 1000000000, 10000000000, 100000000000, 1000000000000, 10000000000000, 100000000000000, 1000000000000000, 10000000000000000, 100000000000000000, 1000000000000000000, 10000000000000000000] := by
  have h1 : laidMet Tryd.prog Rows.reportResultRow.laid W := h
  have h2 := h1.tail.tail
  exact Lib.tabIs_of_head (g := 0) (t := Tryd.prog.globals[0]!.type) (e := 96) (n := 20) (by kernel_rfl) (by kernel_rfl) (by kernel_rfl) (by kernel_rfl) (by kernel_rfl) (by kernel_rfl) h2
theorem tab1 {W : World} (h : laidMetH Tryd.prog Rows.reportResultRow.laid W) : Lib.TabIs Tryd.prog W "guerdon/date.monthLengths" .i64 [31, 28, 31, 30, 31, 30, 31, 31, 30, 31, 30, 31] := by
  have h1 : laidMet Tryd.prog Rows.reportResultRow.laid W := h
  have h2 := h1.tail.tail.tail
  exact Lib.tabIs_of_head (g := 1) (t := Tryd.prog.globals[1]!.type) (e := 3) (n := 12) (by kernel_rfl) (by kernel_rfl) (by kernel_rfl) (by kernel_rfl) (by kernel_rfl) (by kernel_rfl) h2
theorem gl_ok {W : World} (h : laidMetH Tryd.prog Rows.reportResultRow.laid W) : ∀ g u, assoc Gt.gl g = some u → GlOk ⟨W.heap, fun b => b < W.heap.size, fun _ => none⟩ g u.1 u.2 :=
  GlAll_spec (Q := fun g u => GlOk ⟨W.heap, fun b => b < W.heap.size, fun _ => none⟩ g u.1 u.2) (l := Gt.gl) (⟨glOk_tab (by kernel_rfl) (by decide) (tab1 h), glOk_tab (by kernel_rfl) (by decide) (tab0 h), trivial⟩)
theorem plainLaw : ∀ x, wfTup Gt.ps3 x → (Gt.s3.fn x : Option Bool) = some true :=
  fun x wx => by
    obtain ⟨l, k, r⟩ := x
    obtain ⟨wl, wk, wr⟩ := (show wf Gt.lawT l ∧ wf Gt.i64T k ∧ wf Gt.resultT r from wx)
    obtain ⟨n1, n2⟩ := Gt.wf_names wl
    obtain ⟨r1, r2, r3⟩ := Gt.wf_result wr
    obtain ⟨b, hb, _⟩ := Gt.smallLaw_ok n2
    exact Gt.ReportResult_law ⟨b, hb⟩ n1 (Nat.le_trans r1 (by rw [Gt.reach_val]; decide)) r2 r3
theorem contract (H : Type) (enc : TypeId × Value → H) (W : World) (base : Nat) (args : Array Value) (ds gs : List (DataW H)) (before : List MemPlace)
    (hval : ∀ (j : Nat) t v, Tryd.f3.params[j]? = some t → args[j]? = some v → Value.okWide Tryd.prog W .any base t v)
    (hW : DataW.Whole enc Tryd.prog Tryd.f3.params.toList Rows.reportResultSpec.vars false W args.toList ds gs before)
    (hz : (DataW.weightsEach Tryd.prog (Tryd.f3.params.toList ++ (OpenSpec.ofChange Rows.reportResultSpec).bare.plain.varTypes Tryd.prog) (ds ++ gs)).all (· ≤ reachBytes) = true) (hL : laidMetH Tryd.prog Rows.reportResultRow.laid W) :
    Calls Tryd.prog 3 args W fun e W' => ∃ v, e = .returned v ∧ Rows.reportResultSpec.post enc Tryd.prog Tryd.f3 false true false false W args v W' :=
  law_contract (gl := Gt.gl) (f := 3) (fn := Tryd.f3) (s := Rows.reportResultSpec) (ms := Gt.ps3) (F := Gt.s3.fn) (tb := 4) laidOut Gt.snd3 plainLaw (by kernel_rfl) (by kernel_rfl) ub rfl
    (fun ds h => match ds, h with | [_, _, _], _ => rfl) (gl_ok hL) hval hW hz
/-- a world for the witness -/
def lay (l : List Value) (o : Obj) : Obj := match o with | .cells _ t f => .cells l.toArray t f | o => o
noncomputable def laidWorld (os : Os) : World :=
  { World.holding Tryd.prog os ⟨#[], #[], []⟩ with heap := (((((World.holding Tryd.prog os ⟨#[], #[], []⟩).heap).modify 3 (lay [.int .u8 0, .int .u8 1, .int .u8 28, .int .u8 2, .int .u8 29, .int .u8 14, .int .u8 24, .int .u8 3, .int .u8 30, .int .u8 22, .int .u8 20, .int .u8 15, .int .u8 25, .int .u8 17, .int .u8 4, .int .u8 8, .int .u8 31, .int .u8 27, .int .u8 13, .int .u8 23, .int .u8 21, .int .u8 19, .int .u8 16, .int .u8 7, .int .u8 26, .int .u8 12, .int .u8 18, .int .u8 6, .int .u8 11, .int .u8 5, .int .u8 10, .int .u8 9])).modify 4 (lay [.int .u8 0, .int .u8 1, .int .u8 56, .int .u8 2, .int .u8 57, .int .u8 49, .int .u8 28, .int .u8 3, .int .u8 61, .int .u8 58, .int .u8 42, .int .u8 50, .int .u8 38, .int .u8 29, .int .u8 17, .int .u8 4, .int .u8 62, .int .u8 47, .int .u8 59, .int .u8 36, .int .u8 45, .int .u8 43, .int .u8 51, .int .u8 22, .int .u8 53, .int .u8 39, .int .u8 33, .int .u8 30, .int .u8 24, .int .u8 18, .int .u8 12, .int .u8 5, .int .u8 63, .int .u8 55, .int .u8 48, .int .u8 27, .int .u8 60, .int .u8 41, .int .u8 37, .int .u8 16, .int .u8 46, .int .u8 35, .int .u8 44, .int .u8 21, .int .u8 52, .int .u8 32, .int .u8 23, .int .u8 11, .int .u8 54, .int .u8 26, .int .u8 40, .int .u8 15, .int .u8 34, .int .u8 20, .int .u8 31, .int .u8 10, .int .u8 25, .int .u8 14, .int .u8 19, .int .u8 9, .int .u8 13, .int .u8 8, .int .u8 7, .int .u8 6])).modify 0 (lay [.int .u64 1, .int .u64 10, .int .u64 100, .int .u64 1000, .int .u64 10000, .int .u64 100000, .int .u64 1000000, .int .u64 10000000, .int .u64 100000000, .int .u64 1000000000, .int .u64 10000000000, .int .u64 100000000000, .int .u64 1000000000000, .int .u64 10000000000000, .int .u64 100000000000000, .int .u64 1000000000000000, .int .u64 10000000000000000, .int .u64 100000000000000000, .int .u64 1000000000000000000, .int .u64 10000000000000000000])).modify 1 (lay [.int .i64 31, .int .i64 28, .int .i64 31, .int .i64 30, .int .i64 31, .int .i64 30, .int .i64 31, .int .i64 31, .int .i64 30, .int .i64 31, .int .i64 30, .int .i64 31]) }
noncomputable def zargs : Array Value := #[.agg #[.slice none 0 0, .slice none 0 0, .slice none 0 0], .int .i64 0, .agg #[.slice none 0 0, .slice none 0 0, .slice none 0 0]]
theorem laid_met (os : Os) : laidMet Tryd.prog Rows.reportResultRow.laid ((laidWorld os).forCall (fun _ _ => 0) ⟨#[], zargs, []⟩).memory :=
  laidMet_of_run' 8 (by kernel_rfl) (by kernel_rfl)
theorem reads (os : Os) {H : Type} (enc : TypeId × Value → H) : ∃ places, DataW.whole enc Tryd.prog ((laidWorld os).forCall (fun _ _ => 0) ⟨#[], zargs, []⟩).memory Tryd.f3.params.toList Rows.reportResultSpec.vars false zargs.toList 12 = some ([.agg [.nil, .nil, .nil], .lit (.int .i64 0), .agg [.nil, .nil, .nil]], [], places) :=
  ⟨[], by kernel_rfl⟩
theorem lifted (os : Os) (started : os.Started) (H : Type) (enc : TypeId × Value → H) (F : Stop.Interp) :
    ReturnsInHanded {} Tryd.checked os 3 .any ((OpenSpec.ofChange Rows.reportResultSpec).preRow enc Tryd.prog Tryd.f3 Rows.reportResultRow.domain false Rows.reportResultRow.laid) (((OpenSpec.ofChange Rows.reportResultSpec).at F).post enc Tryd.prog Tryd.f3 false true false false) := by
  obtain ⟨places, hx⟩ := reads os enc
  refine returnsInHanded_of_row (C := Tryd.checked) (s := OpenSpec.ofChange Rows.reportResultSpec) own started (by kernel_rfl) fnAt
    (witness_row_at (enc := enc) (C := Tryd.checked) false (laidWorld os) zargs rfl (by kernel_rfl) (by kernel_rfl) (by kernel_rfl)
      (OpenSpec.preRow_of_cond 12 hx (by kernel_rfl) (fun k hk => by cases hk) (by kernel_rfl) (laid_met os))) ?_
  intro W base args ds gs before hval hW _ _ hz hL _ _
  exact contract H enc W base args ds gs before hval hW hz hL
theorem said : Rows.ReportResultSaid :=
  OpenClaim.holds_of_cond 3 Tryd.f3 rfl rfl rfl rfl rfl rfl rfl ⟨rfl, rfl, rfl, rfl, rfl⟩ rfl rfl rfl rfl rfl (by kernel_rfl) fnAt (by kernel_rfl)
    (of_decide_eq_true (by kernel_rfl)) (by unfold Func.isWrapper; first | (rw [if_pos (by decide +kernel)]; kernel_rfl) | (rw [if_neg (by decide +kernel)]; exact ⟨rfl, rfl⟩))
    (fun os started H enc _ F => by rw [OpenClaim.pre_eq_preRow]; exact lifted os started H enc F)
theorem plain (f : FuncId) (fn : Func) (hf : Tryd.pinned.checked.prog.funcNamed Tryd.f3.name = some f) (hfn : Tryd.pinned.checked.prog.funcs[f]? = some fn) :
    false = Tryd.pinned.checked.prog.looks [] ∧ ∀ (j : Nat) t, fn.params[j]? = some t → Tryd.pinned.checked.prog.wantsStandIn t = false := by
  obtain rfl : f = 3 := Option.some.inj ((show Tryd.prog.funcNamed Tryd.f3.name = some 3 by kernel_rfl).symm.trans hf) |>.symm
  obtain rfl : fn = Tryd.f3 := (Option.some.inj (fnAt.symm.trans hfn)).symm
  refine ⟨by kernel_rfl, fun j t ht => ?_⟩
  have hall : ∀ t ∈ Tryd.f3.params, Tryd.prog.wantsStandIn t = false := fun t ht => by
    have h1 : (Tryd.f3.params.toList.all fun t => !Tryd.prog.wantsStandIn t) = true := by kernel_rfl
    have h2 := List.all_eq_true.1 h1 t (by simpa using ht)
    simpa using h2
  exact hall t (Array.mem_of_getElem? ht)
theorem card : Rows.ReportResultCardSaid :=
  Claim7.holds_tied_plain_at .later [] _ _ _ _ said (fun _ h => by cases h) (by kernel_rfl) (fun _ h => by cases h) reportResult_row_tie rfl ⟨rfl, rfl⟩ (by kernel_rfl) rfl plain (by kernel_rfl)
end Go.Proofs.YtjpepdpbplpccaaDoor.lawReportResult
