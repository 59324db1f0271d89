/- guerdon, guerdonlaw55.ScriptPrint: for every input of the statement the law returns true, and each argument reads afterwards as it read before. Conditions: those of the given row (package variables start as the program lays them). -/
import Derived.Test.YtbnndcenjpgdpaaGreatDoorCards
import Derived.Test.YtbnndcenjpgdpaaGreatDoorTie
import Derived.Test.YtbnndcenjpgdpaaGreatDoorV4
import Derived.Test.YtbnndcenjpgdpaaGreatDoorV7
import Derived.OpenShut
import Derived.Stop.LaidErr
namespace Go.Proofs.YtbnndcenjpgdpaaGreatDoor.lawScriptPrint
open Go.ChangeShapes Go.WideShapes Go.ChangeAt Go.RowKit Go.GP
set_option linter.unusedVariables false
set_option maxRecDepth 100000
set_option maxHeartbeats 4000000
theorem own:ownKnob Tryz.prog.godebug=none:=by kernel_rfl
theorem laidOut:laidOutB Tryz.prog=true:=by kernel_rfl
theorem ub:Tryz.prog.underlying 4=some .bool:=by kernel_rfl
theorem fnAt:Tryz.prog.funcs[3]? =some Tryz.f3:=by kernel_rfl
theorem tab1 {W:World} (h:laidMetH Tryz.prog Rows.scriptPrintRow.laid W):Lib.TabIs Tryz.prog W "internal/strconv.uint64pow10" .u64 [1,10,100,1000,10000,100000,1000000,10000000,100000000,1000000000,10000000000,100000000000,1000000000000,10000000000000,100000000000000,1000000000000000,10000000000000000,100000000000000000,1000000000000000000,10000000000000000000]:=by have h1:laidMet Tryz.prog Rows.scriptPrintRow.laid W:=h;have h2:=h1.tail.tail;exact Lib.tabIs_of_head (g:=1) (t:=Tryz.prog.globals[1]!.type) (e:=350) (n:=20) (by kernel_rfl) (by kernel_rfl) (by kernel_rfl) (by kernel_rfl) (by kernel_rfl) (by kernel_rfl) h2
theorem tab0 {W:World} (h:laidMetH Tryz.prog Rows.scriptPrintRow.laid W):Lib.TabIs Tryz.prog W "guerdon/date.monthLengths" .i64 [31,28,31,30,31,30,31,31,30,31,30,31]:=by have h1:laidMet Tryz.prog Rows.scriptPrintRow.laid W:=h;have h2:=h1.tail.tail.tail.tail;exact Lib.tabIs_of_head (g:=0) (t:=Tryz.prog.globals[0]!.type) (e:=3) (n:=12) (by kernel_rfl) (by kernel_rfl) (by kernel_rfl) (by kernel_rfl) (by kernel_rfl) (by kernel_rfl) h2
theorem any2 {W:World} (hsh:W.ShapedOpen Tryz.prog):GG ⟨W.heap,λb _=>b<W.heap.size,nom⟩ 2 (.any (some .i64)) [()]:=by
 have h0:((begin Tryz.prog (λ_ _=>0) default).world.heap[2]?).bind Obj.row?=some (#[.int .i64 0],3):=by kernel_rfl
 have hg:2<Tryz.prog.globals.size:=of_decide_eq_true (by kernel_rfl);obtain⟨cs,hh,hs,_⟩:=hsh.1 2 _ 3 hg h0;obtain⟨m,hm⟩:=Go.Proofs.cell_of_shapedOpen_int (zero:=#[.int .i64 0]) (t:=3) hsh hg h0 rfl (by kernel_rfl) (by kernel_rfl) Tryz.underlying3;have h1:cs.size=1:=hs;have h2:cs[0]? =some (.int .i64 m):=by simpa[World.cell?,hh]using hm
 have e:cs=#[.int .i64 m]:=by
  refine Array.ext h1 λi hi _=>?_;obtain rfl:i=0:=by omega
  rw[Array.getElem?_eq_getElem hi]at h2;exact Option.some.inj h2
 exact a8N (Array.getElem?_eq_some_iff.1 hh).1 (e▸hh)
theorem gl_ok {W:World} (hsh:W.ShapedOpen Tryz.prog) (h:laidMetH Tryz.prog Rows.scriptPrintRow.laid W):∀g u,bZ Gt.gl g=some u->GG ⟨W.heap,λb _=>b<W.heap.size,nom⟩ g u.1 u.2:=
 Ug (Q:=λg u=>GG ⟨W.heap,λb _=>b<W.heap.size,nom⟩ g u.1 u.2) (l:=Gt.gl) (⟨a0J (by kernel_rfl) (by decide) (tab0 h),a0J (by kernel_rfl) (by decide) (tab1 h),any2 hsh,trivial⟩)
theorem plainLaw:∀x,a2j Gt.ps3 x->(Gt.s3.fn x:Option Bool)=some true:=
 QG
theorem contract (H:Type) (enc:TypeId×Value->H) (W:World) (base:Nat) (args:Array Value) (ds gs:List (DataW H)) (before:List MemPlace)
  (hval:∀(j:Nat) t v,Tryz.f3.params[j]? =some t->args[j]? =some v->Value.okWide Tryz.prog W .any base t v)
  (hW:DataW.Whole enc Tryz.prog Tryz.f3.params.toList Rows.scriptPrintSpec.vars false W args.toList ds gs before)
  (hz:(DataW.weightsEach Tryz.prog (Tryz.f3.params.toList++(OpenSpec.ofChange Rows.scriptPrintSpec).bare.plain.varTypes Tryz.prog) (ds++gs)).all (·<=reachBytes)=true) (hL:laidMetH Tryz.prog Rows.scriptPrintRow.laid W) (hsh:W.ShapedOpen Tryz.prog):
  Calls Tryz.prog 3 args W λe W' =>∃v,e= .returned v/\Rows.scriptPrintSpec.post enc Tryz.prog Tryz.f3 false true false false W args v W' :=
 ZF (gl:=Gt.gl) (f:=3) (fn:=Tryz.f3) (s:=Rows.scriptPrintSpec) (ms:=Gt.ps3) (F:=Gt.s3.fn) (tb:=4) laidOut Gt.c5l plainLaw (by kernel_rfl) (by kernel_rfl) ub rfl
  (λds h=>match ds,h with|[_],_=>rfl) (gl_ok hsh hL) hval hW hz
def lay (l:List Value) (o:Obj):Obj:=match o with| .cells _ t f=> .cells l.toArray t f|o=>o
noncomputable def laidWorld (os:Os):World:=
 { World.holding Tryz.prog os ⟨#[],#[],[]⟩with heap:=(((((((World.holding Tryz.prog os ⟨#[],#[],[]⟩).heap).modify 3 (lay ([0,1,28,2,29,14,24,3,30,22,20,15,25,17,4,8,31,27,13,23,21,19,16,7,26,12,18,6,11,5,10,9].map (Value.int .u8)))).modify 4 (lay ([0,1,56,2,57,49,28,3,61,58,42,50,38,29,17,4,62,47,59,36,45,43,51,22,53,39,33,30,24,18,12,5,63,55,48,27,60,41,37,16,46,35,44,21,52,32,23,11,54,26,40,15,34,20,31,10,25,14,19,9,13,8,7,6].map (Value.int .u8)))).modify 1 (lay ([1,10,100,1000,10000,100000,1000000,10000000,100000000,1000000000,10000000000,100000000000,1000000000000,10000000000000,100000000000000,1000000000000000,10000000000000000,100000000000000000,1000000000000000000,10000000000000000000].map (Value.int .u64)))).modify 6 (lay ([128,191,160,191,128,159,144,191,128,143,0,0,0,0,0,0,0,0,0,0,0,0,0,0,0,0,0,0,0,0,0,0].map (Value.int .u8)))).modify 0 (lay ([31,28,31,30,31,30,31,31,30,31,30,31].map (Value.int .i64)))).modify 5 (lay ([240,240,240,240,240,240,240,240,240,240,240,240,240,240,240,240,240,240,240,240,240,240,240,240,240,240,240,240,240,240,240,240,240,240,240,240,240,240,240,240,240,240,240,240,240,240,240,240,240,240,240,240,240,240,240,240,240,240,240,240,240,240,240,240,240,240,240,240,240,240,240,240,240,240,240,240,240,240,240,240,240,240,240,240,240,240,240,240,240,240,240,240,240,240,240,240,240,240,240,240,240,240,240,240,240,240,240,240,240,240,240,240,240,240,240,240,240,240,240,240,240,240,240,240,240,240,240,240,241,241,241,241,241,241,241,241,241,241,241,241,241,241,241,241,241,241,241,241,241,241,241,241,241,241,241,241,241,241,241,241,241,241,241,241,241,241,241,241,241,241,241,241,241,241,241,241,241,241,241,241,241,241,241,241,241,241,241,241,241,241,241,241,241,241,2,2,2,2,2,2,2,2,2,2,2,2,2,2,2,2,2,2,2,2,2,2,2,2,2,2,2,2,2,2,19,3,3,3,3,3,3,3,3,3,3,3,3,35,3,3,52,4,4,4,68,241,241,241,241,241,241,241,241,241,241,241].map (Value.int .u8))) }
noncomputable def zargs:Array Value:=#[.agg #[.slice none 0 0,.slice none 0 0,.slice none 0 0]]
theorem laid_met (os:Os):laidMet Tryz.prog Rows.scriptPrintRow.laid ((laidWorld os).forCall (λ_ _=>0) ⟨#[],zargs,[]⟩).memory:=
 laidMet_of_run' 8 (by kernel_rfl) (by kernel_rfl)
theorem reads (os:Os) {H:Type} (enc:TypeId×Value->H):∃places,DataW.whole enc Tryz.prog ((laidWorld os).forCall (λ_ _=>0) ⟨#[],zargs,[]⟩).memory Tryz.f3.params.toList Rows.scriptPrintSpec.vars false zargs.toList 12=some ([.agg [.nil,.nil,.nil]],[],places):=
 ⟨[],by kernel_rfl⟩
theorem lifted (os:Os) (started:os.Started) (H:Type) (enc:TypeId×Value->H) (F:Stop.Interp):
  ReturnsInHanded {} Tryz.checked os 3 .any ((OpenSpec.ofChange Rows.scriptPrintSpec).preRow enc Tryz.prog Tryz.f3 Rows.scriptPrintRow.domain false Rows.scriptPrintRow.laid) (((OpenSpec.ofChange Rows.scriptPrintSpec).at F).post enc Tryz.prog Tryz.f3 false true false false):=by
 obtain⟨places,hx⟩:=reads os enc;refine returnsInHanded_of_row (C:=Tryz.checked) (s:=OpenSpec.ofChange Rows.scriptPrintSpec) own started (by kernel_rfl) fnAt
  (witness_row_at (enc:=enc) (C:=Tryz.checked) false (laidWorld os) zargs rfl (by kernel_rfl) (by kernel_rfl) (by kernel_rfl)
   (OpenSpec.preRow_of_cond 12 hx (by kernel_rfl) (λk hk=>by cases hk) (by kernel_rfl) (laid_met os))) ?_
 intro W base args ds gs before hval hW _ _ hz hL hsh _;exact contract H enc W base args ds gs before hval hW hz hL hsh
theorem closedFacts:joinedFacts Tryz.pinned.checked.prog 3 Tryz.f3 (OpenSpec.ofChange Rows.scriptPrintSpec).bare Rows.scriptPrintRow=true:=by
 unfold joinedFacts;simp only[Bool.and_eq_true];refine⟨⟨⟨⟨⟨⟨⟨⟨⟨⟨⟨⟨⟨⟨⟨⟨⟨⟨⟨⟨⟨⟨⟨⟨⟨⟨⟨⟨⟨⟨⟨?_,?_⟩,?_⟩,?_⟩,?_⟩,?_⟩,?_⟩,?_⟩,?_⟩,?_⟩,?_⟩,?_⟩,?_⟩,?_⟩,?_⟩,?_⟩,?_⟩,?_⟩,?_⟩,?_⟩,?_⟩,?_⟩,?_⟩,?_⟩,?_⟩,?_⟩,?_⟩,?_⟩,?_⟩,?_⟩,?_⟩,?_⟩
 all_goals (as_aux_lemma=>kernel_rfl)
theorem said:Rows.ScriptPrintSaid:=
 OpenClaim.holds_of_cond 3 Tryz.f3 rfl rfl rfl rfl rfl rfl rfl ⟨rfl,rfl,rfl,rfl,rfl⟩ rfl rfl rfl rfl rfl (by as_aux_lemma=>kernel_rfl) fnAt closedFacts
  (of_decide_eq_true (by as_aux_lemma=>kernel_rfl)) (by unfold Func.isWrapper;first|(rw[if_pos (by decide+kernel)];kernel_rfl)|(rw[if_neg (by decide+kernel)];exact⟨rfl,rfl⟩))
  (λos started H enc _ F=>by rw[OpenClaim.pre_eq_preRow];exact lifted os started H enc F)
theorem looks:true=Tryz.pinned.checked.prog.looks []:=by kernel_rfl
theorem plain (f:FuncId) (fn:Func) (hf:Tryz.pinned.checked.prog.funcNamed Tryz.f3.name=some f) (hfn:Tryz.pinned.checked.prog.funcs[f]? =some fn):
  true=Tryz.pinned.checked.prog.looks []/\∀(j:Nat) t,fn.params[j]? =some t->Tryz.pinned.checked.prog.wantsStandIn t=false:=by
 obtain rfl:f=3:=Option.some.inj ((show Tryz.prog.funcNamed Tryz.f3.name=some 3 by kernel_rfl).symm.trans hf) |>.symm;obtain rfl:fn=Tryz.f3:=(Option.some.inj (fnAt.symm.trans hfn)).symm;refine⟨looks,λj t ht=>?_⟩;have hall:∀t∈Tryz.f3.params,Tryz.prog.wantsStandIn t=false:=λt ht=>by
  have h1:(Tryz.f3.params.toList.all λt=> !Tryz.prog.wantsStandIn t)=true:=by kernel_rfl
  have h2:=List.all_eq_true.1 h1 t (by simpa using ht);simpa using h2
 exact hall t (Array.mem_of_getElem? ht)
theorem goes_no {P:Program} (h:P.funcs.any Func.goes=false) (c:OpenClaim):false=c.goesBy P:=by
 have hg:∀f,P.goes f=false:=λf=>by
  unfold Program.goes;rw[h,Bool.and_false,Bool.or_false,List.any_eq_false];intro g _;cases hq:P.funcs[g]? with
  |none=>simp|some fn=>have hm:fn∈P.funcs:=Array.mem_of_getElem? hq;have:=Array.any_eq_false'.1 h fn hm;simpa using this
 unfold OpenClaim.goesBy Program.goesAt Program.goesFrom;have h1:(P.funcNamed c.func).any P.goes=false:=by cases P.funcNamed c.func<;>simp[hg]
 have h2:P.inits.toList.any P.goes=false:=List.any_eq_false.2 λx _=>by simp[hg]
 rw[h1,h2];cases c.start<;>rfl
theorem goesNone:Tryz.prog.funcs.any Func.goes=false:=by kernel_rfl
theorem card:Rows.ScriptPrintCardSaid:=
 Claim7.holds_tied_plain_at .later [] _ _ _ _ said (λ_ h=>by cases h) (by as_aux_lemma=>kernel_rfl) (λ_ h=>by cases h) scriptPrint_row_tie rfl ⟨rfl,rfl⟩ (by as_aux_lemma=>kernel_rfl) rfl plain (goes_no goesNone _)
end Go.Proofs.YtbnndcenjpgdpaaGreatDoor.lawScriptPrint
