/- guerdon, guerdonlaw52.ImpactCompare: for every input of the statement the law returns true, and each argument reads afterwards as it read before. Conditions: those of the given row (package variables start as the program lays them). -/
import Derived.Test.YtfelabniafejgaaGreatDoorCards
import Derived.Test.YtfelabniafejgaaGreatDoorTie
import Derived.Test.YtfelabniafejgaaGreatDoorT3
import Derived.Test.YtfelabniafejgaaGreatDoorT5
import Derived.OpenShut
import Derived.Stop.LaidErr
namespace Go.Proofs.YtfelabniafejgaaGreatDoor.lawImpactCompare
open Go.ChangeShapes Go.WideShapes Go.ChangeAt Go.RowKit Go.GP
set_option linter.unusedVariables false
set_option maxRecDepth 100000
set_option maxHeartbeats 4000000
theorem own:ownKnob Tryz.prog.godebug=none:=by kernel_rfl
theorem laidOut:laidOutB Tryz.prog=true:=by kernel_rfl
theorem ub:Tryz.prog.underlying 4=some .bool:=by kernel_rfl
theorem fnAt:Tryz.prog.funcs[3]? =some Tryz.f3:=by kernel_rfl
theorem tab3 {W:World} (h:laidMetH Tryz.prog Rows.impactCompareRow.laid W):Lib.TabIs Tryz.prog W "guerdon/date.monthLengths" .i64 [31,28,31,30,31,30,31,31,30,31,30,31]:=by have h1:laidMet Tryz.prog Rows.impactCompareRow.laid W:=h;have h2:=h1;exact Lib.tabIs_of_head (g:=3) (t:=Tryz.prog.globals[3]!.type) (e:=3) (n:=12) (by kernel_rfl) (by kernel_rfl) (by kernel_rfl) (by kernel_rfl) (by kernel_rfl) (by kernel_rfl) h2
theorem gl_ok {W:World} (h:laidMetH Tryz.prog Rows.impactCompareRow.laid W):∀g u,dY Gt.gl g=some u->TB ⟨W.heap,λb _=>b<W.heap.size,nom⟩ g u.1 u.2:=
 WL (Q:=λg u=>TB ⟨W.heap,λb _=>b<W.heap.size,nom⟩ g u.1 u.2) (l:=Gt.gl) (⟨b0u (by kernel_rfl) (by decide) (tab3 h),trivial⟩)
theorem plainLaw:∀x,a3Z Gt.ps3 x->(Gt.s3.fn x:Option Bool)=some true:=
 QI
theorem contract (H:Type) (enc:TypeId×Value->H) (W:World) (base:Nat) (args:Array Value) (ds gs:List (DataW H)) (before:List MemPlace)
  (hval:∀(j:Nat) t v,Tryz.f3.params[j]? =some t->args[j]? =some v->Value.okWide Tryz.prog W .any base t v)
  (hW:DataW.Whole enc Tryz.prog Tryz.f3.params.toList Rows.impactCompareSpec.vars false W args.toList ds gs before)
  (hz:(DataW.weightsEach Tryz.prog (Tryz.f3.params.toList++(OpenSpec.ofChange Rows.impactCompareSpec).bare.plain.varTypes Tryz.prog) (ds++gs)).all (·<=reachBytes)=true) (hL:laidMetH Tryz.prog Rows.impactCompareRow.laid W):
  Calls Tryz.prog 3 args W λe W' =>∃v,e= .returned v/\Rows.impactCompareSpec.post enc Tryz.prog Tryz.f3 false true false false W args v W' :=
 a0C (gl:=Gt.gl) (f:=3) (fn:=Tryz.f3) (s:=Rows.impactCompareSpec) (ms:=Gt.ps3) (F:=Gt.s3.fn) (tb:=4) laidOut Gt.d0K plainLaw (by kernel_rfl) (by kernel_rfl) ub rfl
  (λds h=>match ds,h with|[_,_,_,_],_=>rfl) (gl_ok hL) hval hW hz
def lay (l:List Value) (o:Obj):Obj:=match o with| .cells _ t f=> .cells l.toArray t f|o=>o
noncomputable def laidWorld (os:Os):World:=
 { World.holding Tryz.prog os ⟨#[],#[],[]⟩with heap:=((World.holding Tryz.prog os ⟨#[],#[],[]⟩).heap).modify 3 (lay [.int .i64 31,.int .i64 28,.int .i64 31,.int .i64 30,.int .i64 31,.int .i64 30,.int .i64 31,.int .i64 31,.int .i64 30,.int .i64 31,.int .i64 30,.int .i64 31]) }
noncomputable def zargs:Array Value:=#[.agg #[.slice none 0 0,.slice none 0 0,.slice none 0 0,.slice none 0 0,.slice none 0 0,.slice none 0 0],.int .i64 0,.agg #[.int .i64 0,.slice none 0 0,.slice none 0 0],.int .i64 0]
theorem laid_met (os:Os):laidMet Tryz.prog Rows.impactCompareRow.laid ((laidWorld os).forCall (λ_ _=>0) ⟨#[],zargs,[]⟩).memory:=
 laidMet_of_run' 8 (by kernel_rfl) (by kernel_rfl)
theorem reads (os:Os) {H:Type} (enc:TypeId×Value->H):∃places,DataW.whole enc Tryz.prog ((laidWorld os).forCall (λ_ _=>0) ⟨#[],zargs,[]⟩).memory Tryz.f3.params.toList Rows.impactCompareSpec.vars false zargs.toList 12=some ([.agg [.agg [.nil,.nil,.nil],.agg [.nil,.nil,.nil]],.lit (.int .i64 0),.agg [.lit (.int .i64 0),.nil,.nil],.lit (.int .i64 0)],[],places):=
 ⟨[],by kernel_rfl⟩
theorem lifted (os:Os) (started:os.Started) (H:Type) (enc:TypeId×Value->H) (F:Stop.Interp):
  ReturnsInHanded {} Tryz.checked os 3 .any ((OpenSpec.ofChange Rows.impactCompareSpec).preRow enc Tryz.prog Tryz.f3 Rows.impactCompareRow.domain false Rows.impactCompareRow.laid) (((OpenSpec.ofChange Rows.impactCompareSpec).at F).post enc Tryz.prog Tryz.f3 false true false false):=by
 obtain⟨places,hx⟩:=reads os enc;refine returnsInHanded_of_row (C:=Tryz.checked) (s:=OpenSpec.ofChange Rows.impactCompareSpec) own started (by kernel_rfl) fnAt
  (witness_row_at (enc:=enc) (C:=Tryz.checked) false (laidWorld os) zargs rfl (by kernel_rfl) (by kernel_rfl) (by kernel_rfl)
   (OpenSpec.preRow_of_cond 12 hx (by kernel_rfl) (λk hk=>by cases hk) (by kernel_rfl) (laid_met os))) ?_
 intro W base args ds gs before hval hW _ _ hz hL _ _;exact contract H enc W base args ds gs before hval hW hz hL
theorem closedFacts:joinedFacts Tryz.pinned.checked.prog 3 Tryz.f3 (OpenSpec.ofChange Rows.impactCompareSpec).bare Rows.impactCompareRow=true:=by
 unfold joinedFacts;simp only[Bool.and_eq_true];refine⟨⟨⟨⟨⟨⟨⟨⟨⟨⟨⟨⟨⟨⟨⟨⟨⟨⟨⟨⟨⟨⟨⟨⟨⟨⟨⟨⟨⟨⟨⟨?_,?_⟩,?_⟩,?_⟩,?_⟩,?_⟩,?_⟩,?_⟩,?_⟩,?_⟩,?_⟩,?_⟩,?_⟩,?_⟩,?_⟩,?_⟩,?_⟩,?_⟩,?_⟩,?_⟩,?_⟩,?_⟩,?_⟩,?_⟩,?_⟩,?_⟩,?_⟩,?_⟩,?_⟩,?_⟩,?_⟩,?_⟩
 all_goals (as_aux_lemma=>kernel_rfl)
theorem said:Rows.ImpactCompareSaid:=
 OpenClaim.holds_of_cond 3 Tryz.f3 rfl rfl rfl rfl rfl rfl rfl ⟨rfl,rfl,rfl,rfl,rfl⟩ rfl rfl rfl rfl rfl (by as_aux_lemma=>kernel_rfl) fnAt closedFacts
  (of_decide_eq_true (by as_aux_lemma=>kernel_rfl)) (by unfold Func.isWrapper;first|(rw[if_pos (by decide+kernel)];kernel_rfl)|(rw[if_neg (by decide+kernel)];exact⟨rfl,rfl⟩))
  (λos started H enc _ F=>by rw[OpenClaim.pre_eq_preRow];exact lifted os started H enc F)
theorem looks:true=Tryz.pinned.checked.prog.looks []:=by kernel_rfl
theorem plain (f:FuncId) (fn:Func) (hf:Tryz.pinned.checked.prog.funcNamed Tryz.f3.name=some f) (hfn:Tryz.pinned.checked.prog.funcs[f]? =some fn):
  true=Tryz.pinned.checked.prog.looks []/\∀(j:Nat) t,fn.params[j]? =some t->Tryz.pinned.checked.prog.wantsStandIn t=false:=by
 obtain rfl:f=3:=Option.some.inj ((show Tryz.prog.funcNamed Tryz.f3.name=some 3 by kernel_rfl).symm.trans hf) |>.symm;obtain rfl:fn=Tryz.f3:=(Option.some.inj (fnAt.symm.trans hfn)).symm;refine⟨looks,λj t ht=>?_⟩;have hall:∀t∈Tryz.f3.params,Tryz.prog.wantsStandIn t=false:=λt ht=>by
  have h1:(Tryz.f3.params.toList.all λt=> !Tryz.prog.wantsStandIn t)=true:=by kernel_rfl
  have h2:=List.all_eq_true.1 h1 t (by simpa using ht);simpa using h2
 exact hall t (Array.mem_of_getElem? ht)
theorem card:Rows.ImpactCompareCardSaid:=
 Claim7.holds_tied_plain_at .later [] _ _ _ _ said (λ_ h=>by cases h) (by as_aux_lemma=>kernel_rfl) (λ_ h=>by cases h) impactCompare_row_tie rfl ⟨rfl,rfl⟩ (by as_aux_lemma=>kernel_rfl) rfl plain (by as_aux_lemma=>kernel_rfl)
end Go.Proofs.YtfelabniafejgaaGreatDoor.lawImpactCompare
