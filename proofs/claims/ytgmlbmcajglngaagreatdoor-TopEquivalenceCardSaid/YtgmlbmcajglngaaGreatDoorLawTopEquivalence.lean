/- guerdon, guerdontop.TopEquivalence: for every input of the statement the law returns true, and each argument reads afterwards as it read before. Conditions: those of the given row (package variables start as the program lays them). -/
import Derived.Test.YtgmlbmcajglngaaGreatDoorCards
import Derived.Test.YtgmlbmcajglngaaGreatDoorTie
import Derived.Test.YtgmlbmcajglngaaGreatDoorV6
import Derived.Test.YtgmlbmcajglngaaGreatDoorV7
import Derived.OpenShut
import Derived.Stop.LaidErr
namespace Go.Proofs.YtgmlbmcajglngaaGreatDoor.lawTopEquivalence
open Go.ChangeShapes Go.WideShapes Go.ChangeAt Go.RowKit Go.GP
set_option linter.unusedVariables false
set_option maxRecDepth 100000
set_option maxHeartbeats 4000000
theorem own:ownKnob Tryz.prog.godebug=none:=by kernel_rfl
theorem laidOut:laidOutB Tryz.prog=true:=by kernel_rfl
theorem ub:Tryz.prog.underlying 4=some .bool:=by kernel_rfl
theorem fnAt:Tryz.prog.funcs[3]? =some Tryz.f3:=by kernel_rfl
theorem tab2 {W:World} (h:laidMetH Tryz.prog Rows.topEquivalenceRow.laid W):Lib.TabIs Tryz.prog W "guerdon/date.monthLengths" .i64 [31,28,31,30,31,30,31,31,30,31,30,31]:=by have h1:laidMet Tryz.prog Rows.topEquivalenceRow.laid W:=h;have h2:=h1;exact Lib.tabIs_of_head (g:=2) (t:=Tryz.prog.globals[2]!.type) (e:=3) (n:=12) (by kernel_rfl) (by kernel_rfl) (by kernel_rfl) (by kernel_rfl) (by kernel_rfl) (by kernel_rfl) h2
theorem gl_ok {W:World} (h:laidMetH Tryz.prog Rows.topEquivalenceRow.laid W):∀g u,fZ Gt.gl g=some u->Ph ⟨W.heap,λb _=>b<W.heap.size,nom⟩ g u.1 u.2:=
 Zi (Q:=λg u=>Ph ⟨W.heap,λb _=>b<W.heap.size,nom⟩ g u.1 u.2) (l:=Gt.gl) (⟨b5L (by kernel_rfl) (by decide) (tab2 h),trivial⟩)
theorem plainLaw:∀x,a8g Gt.ps3 x->(Gt.s3.fn x:Option Bool)=some true:=
 SH
theorem contract (H:Type) (enc:TypeId×Value->H) (W:World) (base:Nat) (args:Array Value) (ds gs:List (DataW H)) (before:List MemPlace)
  (hval:∀(j:Nat) t v,Tryz.f3.params[j]? =some t->args[j]? =some v->Value.okWide Tryz.prog W .any base t v)
  (hW:DataW.Whole enc Tryz.prog Tryz.f3.params.toList Rows.topEquivalenceSpec.vars false W args.toList ds gs before)
  (hz:(DataW.weightsEach Tryz.prog (Tryz.f3.params.toList++(OpenSpec.ofChange Rows.topEquivalenceSpec).bare.plain.varTypes Tryz.prog) (ds++gs)).all (·<=reachBytes)=true) (hL:laidMetH Tryz.prog Rows.topEquivalenceRow.laid W):
  Calls Tryz.prog 3 args W λe W' =>∃v,e= .returned v/\Rows.topEquivalenceSpec.post enc Tryz.prog Tryz.f3 false true false false W args v W' :=
 a4h (gl:=Gt.gl) (f:=3) (fn:=Tryz.f3) (s:=Rows.topEquivalenceSpec) (ms:=Gt.ps3) (F:=Gt.s3.fn) (tb:=4) laidOut Gt.d4q plainLaw (by kernel_rfl) (by kernel_rfl) ub rfl
  (λds h=>match ds,h with|[_,_,_],_=>rfl) (gl_ok hL) hval hW hz
def lay (l:List Value) (o:Obj):Obj:=match o with| .cells _ t f=> .cells l.toArray t f|o=>o
noncomputable def laidWorld (os:Os):World:=
 { World.holding Tryz.prog os ⟨#[],#[],[]⟩with heap:=((World.holding Tryz.prog os ⟨#[],#[],[]⟩).heap).modify 2 (lay ([31,28,31,30,31,30,31,31,30,31,30,31].map (Value.int .i64))) }
noncomputable def zargs:Array Value:=#[.agg #[.slice none 0 0,.slice none 0 0,.slice none 0 0],.int .i64 0,.agg #[.int .i64 0,.slice none 0 0,.slice none 0 0]]
theorem laid_met (os:Os):laidMet Tryz.prog Rows.topEquivalenceRow.laid ((laidWorld os).forCall (λ_ _=>0) ⟨#[],zargs,[]⟩).memory:=
 laidMet_of_run' 8 (by kernel_rfl) (by kernel_rfl)
theorem reads (os:Os) {H:Type} (enc:TypeId×Value->H):∃places,DataW.whole enc Tryz.prog ((laidWorld os).forCall (λ_ _=>0) ⟨#[],zargs,[]⟩).memory Tryz.f3.params.toList Rows.topEquivalenceSpec.vars false zargs.toList 12=some ([.agg [.nil,.nil,.nil],.lit (.int .i64 0),.agg [.lit (.int .i64 0),.nil,.nil]],[],places):=
 ⟨[],by kernel_rfl⟩
theorem lifted (os:Os) (started:os.Started) (H:Type) (enc:TypeId×Value->H) (F:Stop.Interp):
  ReturnsInHanded {} Tryz.checked os 3 .any ((OpenSpec.ofChange Rows.topEquivalenceSpec).preRow enc Tryz.prog Tryz.f3 Rows.topEquivalenceRow.domain false Rows.topEquivalenceRow.laid) (((OpenSpec.ofChange Rows.topEquivalenceSpec).at F).post enc Tryz.prog Tryz.f3 false true false false):=by
 obtain⟨places,hx⟩:=reads os enc;refine returnsInHanded_of_row (C:=Tryz.checked) (s:=OpenSpec.ofChange Rows.topEquivalenceSpec) own started (by kernel_rfl) fnAt
  (witness_row_at (enc:=enc) (C:=Tryz.checked) false (laidWorld os) zargs rfl (by kernel_rfl) (by kernel_rfl) (by kernel_rfl)
   (OpenSpec.preRow_of_cond 12 hx (by kernel_rfl) (λk hk=>by cases hk) (by kernel_rfl) (laid_met os))) ?_
 intro W base args ds gs before hval hW _ _ hz hL _ _;exact contract H enc W base args ds gs before hval hW hz hL
theorem closedFacts:joinedFacts Tryz.pinned.checked.prog 3 Tryz.f3 (OpenSpec.ofChange Rows.topEquivalenceSpec).bare Rows.topEquivalenceRow=true:=by
 unfold joinedFacts;simp only[Bool.and_eq_true];refine⟨⟨⟨⟨⟨⟨⟨⟨⟨⟨⟨⟨⟨⟨⟨⟨⟨⟨⟨⟨⟨⟨⟨⟨⟨⟨⟨⟨⟨⟨⟨?_,?_⟩,?_⟩,?_⟩,?_⟩,?_⟩,?_⟩,?_⟩,?_⟩,?_⟩,?_⟩,?_⟩,?_⟩,?_⟩,?_⟩,?_⟩,?_⟩,?_⟩,?_⟩,?_⟩,?_⟩,?_⟩,?_⟩,?_⟩,?_⟩,?_⟩,?_⟩,?_⟩,?_⟩,?_⟩,?_⟩,?_⟩
 all_goals (as_aux_lemma=>kernel_rfl)
theorem said:Rows.TopEquivalenceSaid:=
 OpenClaim.holds_of_cond 3 Tryz.f3 rfl rfl rfl rfl rfl rfl rfl ⟨rfl,rfl,rfl,rfl,rfl⟩ rfl rfl rfl rfl rfl (by as_aux_lemma=>kernel_rfl) fnAt closedFacts
  (of_decide_eq_true (by as_aux_lemma=>kernel_rfl)) (by unfold Func.isWrapper;first|(rw[if_pos (by decide+kernel)];kernel_rfl)|(rw[if_neg (by decide+kernel)];exact⟨rfl,rfl⟩))
  (λos started H enc _ F=>by rw[OpenClaim.pre_eq_preRow];exact lifted os started H enc F)
theorem looks:true=Tryz.pinned.checked.prog.looks []:=by kernel_rfl
theorem plain (f:FuncId) (fn:Func) (hf:Tryz.pinned.checked.prog.funcNamed Tryz.f3.name=some f) (hfn:Tryz.pinned.checked.prog.funcs[f]? =some fn):
  true=Tryz.pinned.checked.prog.looks []/\∀(j:Nat) t,fn.params[j]? =some t->Tryz.pinned.checked.prog.wantsStandIn t=false:=by
 obtain rfl:f=3:=Option.some.inj ((show Tryz.prog.funcNamed Tryz.f3.name=some 3 by kernel_rfl).symm.trans hf) |>.symm;obtain rfl:fn=Tryz.f3:=(Option.some.inj (fnAt.symm.trans hfn)).symm;refine⟨looks,λj t ht=>?_⟩;have hall:∀t∈Tryz.f3.params,Tryz.prog.wantsStandIn t=false:=λt ht=>by
  have h1:(Tryz.f3.params.toList.all λt=> !Tryz.prog.wantsStandIn t)=true:=by kernel_rfl
  have h2:=List.all_eq_true.1 h1 t (by simpa using ht);simpa using h2
 exact hall t (Array.mem_of_getElem? ht)
theorem goes_no {P:Program} (h:P.funcs.any Func.goes=false) (c:OpenClaim):false=c.goesBy P:=by
 have hg:∀f,P.goes f=false:=λf=>by
  unfold Program.goes;rw[h,Bool.and_false,Bool.or_false,List.any_eq_false];intro g _;cases hq:P.funcs[g]? with
  |none=>simp|some fn=>have hm:fn∈P.funcs:=Array.mem_of_getElem? hq;have:=Array.any_eq_false'.1 h fn hm;simpa using this
 unfold OpenClaim.goesBy Program.goesAt Program.goesFrom;have h1:(P.funcNamed c.func).any P.goes=false:=by cases P.funcNamed c.func<;>simp[hg]
 have h2:P.inits.toList.any P.goes=false:=List.any_eq_false.2 λx _=>by simp[hg]
 rw[h1,h2];cases c.start<;>rfl
theorem goesNone:Tryz.prog.funcs.any Func.goes=false:=by kernel_rfl
theorem card:Rows.TopEquivalenceCardSaid:=
 Claim7.holds_tied_plain_at .later [] _ _ _ _ said (λ_ h=>by cases h) (by as_aux_lemma=>kernel_rfl) (λ_ h=>by cases h) topEquivalence_row_tie rfl ⟨rfl,rfl⟩ (by as_aux_lemma=>kernel_rfl) rfl plain (goes_no goesNone _)
end Go.Proofs.YtgmlbmcajglngaaGreatDoor.lawTopEquivalence
