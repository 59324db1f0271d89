import Derived.Test.YtpiondedhhgjbaaGreatDoorV3
import Derived.Test.YtpiondedhhgjbaaGreatDoorProg
import Derived.Test.YtpiondedhhgjbaaGreatDoorShelf
import Derived.Deep.QuietTactic
import Derived.BigQuiet
import Derived.RegionTactic
import Derived.Recover
import Derived.WideLaws
import Derived.KernelRfl
set_option linter.all false
open Go Go.GP Go.Shelf Go.RowKit Go.Proofs Go.Proofs.Tryz
namespace Gt
set_option maxRecDepth 100000
noncomputable abbrev P:Program:=Go.Proofs.Tryz.prog
theorem Tn:a1s P tt=true:=by kernel_rfl
theorem Kw:∀t sh,dX eqs t=some sh->LM P t sh:=K_ (by kernel_rfl)
variable {f:FuncId}
theorem dS(fn:Func)(ps:List MG)(rt:Ret)(E:Env)(an:Ann){F:U0 ps->Option rt.den}(h:(P.funcs[f]?,fn.body,fn.ntmps,fn.results.toList,Nat.ble (64*E.nt) 999936,RU P E.fs)=(some fn,some (BM fn),E.nt,rt.rs.map (·.1),true,true))(ht:(E.tt,E.eqs)=(tt,eqs))(hm:Ug P E.ms)(hs:a1v P E.gl E.fs)(hp:Ui P E.pl)(hF:∀x,a5G E ps rt (BM fn) an x=F x):
  dD P E.gl f ⟨ps,rt.rs.map (·.2),rt.outs.map (·.2),F⟩:=by
 injection h with h1 h;injection h with h2 h;injection h with h3 h;injection h with h4 h;injection h with h5 h6;injection ht with t1 t2;exact NR h1 h2 h3 h4 (Dh h5 (t1▸Tn) (t2▸Kw) h6 hm hs hp) λx r h=>(hF x).trans h
theorem dP(fn:Func)(ps:List MG)(rt:Ret)(E:Env)(an:Ann){F:U0 ps->Option (U0 (cd::(rt.rs.map (·.2)++rt.outs.map (·.2))))}(h:(P.funcs[f]?,fn.body,fn.ntmps,fn.results.toList,Nat.ble (64*E.nt) 999936,RU P E.fs,Oh E.pl)=(some fn,some (BM fn),E.nt,rt.rs.map (·.1),true,true,true))(ht:(E.tt,E.eqs)=(tt,eqs))(hm:Ug P E.ms)(hs:a1v P E.gl E.fs)(hp:Ui P E.pl)(hF:∀x,b4g E ps rt (BM fn) an x=F x):
  yK P E.gl f (mkP ps rt F):=by
 injection h with h1 h;injection h with h2 h;injection h with h3 h;injection h with h4 h;injection h with h5 h;injection h with h6 h7;injection ht with t1 t2;exact a1V h1 h2 h3 h4 (Dh h5 (t1▸Tn) (t2▸Kw) h6 hm hs hp) h7 λx r h=>(hF x).trans h
theorem b4c(b:Nat)(w:World)(h0:w.cell? ⟨b,0,none⟩=some (.pointer (some ⟨b,0,none⟩))):Calls Go.Proofs.Tryz.prog 42 #[.pointer (some ⟨b,0,none⟩)] w λe w' =>e= .returned (.tuple #[])/\w' =w:=by
 obtain⟨j,hj,_⟩:=gQ.1 (show Option.map (λx=>x.size) (Go.Proofs.Tryz.prog.info? 87)=some 2 by kernel_rfl);have t56:=Go.Proofs.Tryz.underlying87;have a56:=Go.Proofs.Tryz.isAgg87;have z56:=Go.Proofs.Tryz.sizeOf87;have v56:=Go.Proofs.Tryz.zeroValue87;have u56:=run_underlying Go.Proofs.Tryz.underlying87;have t53:=Go.Proofs.Tryz.underlying84;have a53:=Go.Proofs.Tryz.isAgg84;have z53:=Go.Proofs.Tryz.sizeOf84;have v53:=Go.Proofs.Tryz.zeroValue84;have u53:=run_underlying Go.Proofs.Tryz.underlying84;have t4:=Go.Proofs.Tryz.underlying4;have a4:=Go.Proofs.Tryz.isAgg4;have z4:=Go.Proofs.Tryz.sizeOf4;have v4:=Go.Proofs.Tryz.zeroValue4;have u4:=run_underlying Go.Proofs.Tryz.underlying4;have t123:=Go.Proofs.Tryz.underlying168;have a123:=Go.Proofs.Tryz.isAgg168;have z123:=Go.Proofs.Tryz.sizeOf168;have v123:=Go.Proofs.Tryz.zeroValue168;have u123:=run_underlying Go.Proofs.Tryz.underlying168
 go_enter Go.Proofs.Tryz.func42,(show Go.Proofs.Tryz.f42.ntmps=20 by kernel_rfl)
 go_wp2
 rw[Lib.run_neq_ptr_same w _ Go.Proofs.Tryz.underlying84 hj]
 go_wp2
 go_end0
 exact⟨rfl,rfl⟩
theorem b1u(b:Nat)(w:World)(h0:w.cell? ⟨b,0,none⟩=some (.pointer none))(hsh:w.shape? b=some (87,2))(hfz:w.frozen? ⟨b,0,none⟩=false):Calls Go.Proofs.Tryz.prog 42 #[.pointer (some ⟨b,0,none⟩)] w λe w' =>e= .returned (.tuple #[])/\w' =w.setCell ⟨b,0,none⟩ (.pointer (some ⟨b,0,none⟩)):=by
 obtain⟨j,hj,hjs⟩:=gQ.1 (show Option.map (λx=>x.size) (Go.Proofs.Tryz.prog.info? 87)=some 2 by kernel_rfl);have t56:=Go.Proofs.Tryz.underlying87;have a56:=Go.Proofs.Tryz.isAgg87;have z56:=Go.Proofs.Tryz.sizeOf87;have v56:=Go.Proofs.Tryz.zeroValue87;have u56:=run_underlying Go.Proofs.Tryz.underlying87;have t53:=Go.Proofs.Tryz.underlying84;have a53:=Go.Proofs.Tryz.isAgg84;have z53:=Go.Proofs.Tryz.sizeOf84;have v53:=Go.Proofs.Tryz.zeroValue84;have u53:=run_underlying Go.Proofs.Tryz.underlying84;have t4:=Go.Proofs.Tryz.underlying4;have a4:=Go.Proofs.Tryz.isAgg4;have z4:=Go.Proofs.Tryz.sizeOf4;have v4:=Go.Proofs.Tryz.zeroValue4;have u4:=run_underlying Go.Proofs.Tryz.underlying4;have t123:=Go.Proofs.Tryz.underlying168;have a123:=Go.Proofs.Tryz.isAgg168;have z123:=Go.Proofs.Tryz.sizeOf168;have v123:=Go.Proofs.Tryz.zeroValue168;have u123:=run_underlying Go.Proofs.Tryz.underlying168
 go_enter Go.Proofs.Tryz.func42,(show Go.Proofs.Tryz.f42.ntmps=20 by kernel_rfl)
 go_wp2
 rw[Lib.run_to_unsafe w ⟨b,0,none⟩ Go.Proofs.Tryz.underlying84 Go.Proofs.Tryz.underlying168 hj (by rw[hjs];decide) hsh (Nat.zero_lt_succ 1)];simp only[Result.andThen];rw[oL]
 go_wp2
 rw[run_callFunc_extern Go.Proofs.Tryz.func82 (by kernel_rfl) (by kernel_rfl) (by kernel_rfl) (e:=Extern.AbiNoEscape.same) (by kernel_rfl)];rw[Lib.run_noEscape];simp only[Result.andThen];rw[oL]
 go_wp2
 rw[Lib.run_from_unsafe w ⟨b,0,none⟩ Go.Proofs.Tryz.underlying168 Go.Proofs.Tryz.underlying84 hj hsh (by kernel_rfl)];simp only[Result.andThen];rw[oL]
 go_wp2
 go_end0
 exact⟨rfl,rfl⟩
def b2u:Go.Shelf.Ren:=⟨λ|166=>18|167=>19|240=>42|276=>82|n=>n,λ|72=>87|70=>84|37=>85|164=>168|75=>91|n=>n,λn=>n⟩
theorem b8c:Lw Go.Proofs.Tryz.prog b2u where
 mixed:=by kernel_rfl
 f166:=Go.Proofs.Tryz.func18.trans (congrArg some (by kernel_rfl))
 t72:=Go.Proofs.Tryz.underlying87
 a72:=Go.Proofs.Tryz.isAgg87
 z72:=Go.Proofs.Tryz.sizeOf87
 v72:=Go.Proofs.Tryz.zeroValue87
 t70:=Go.Proofs.Tryz.underlying84
 a70:=Go.Proofs.Tryz.isAgg84
 z70:=Go.Proofs.Tryz.sizeOf84
 v70:=Go.Proofs.Tryz.zeroValue84
 t37:=Go.Proofs.Tryz.underlying85
 a37:=Go.Proofs.Tryz.isAgg85
 z37:=Go.Proofs.Tryz.sizeOf85
 v37:=Go.Proofs.Tryz.zeroValue85
 t3:=Go.Proofs.Tryz.underlying3
 a3:=Go.Proofs.Tryz.isAgg3
 z3:=Go.Proofs.Tryz.sizeOf3
 v3:=Go.Proofs.Tryz.zeroValue3
 t9:=Go.Proofs.Tryz.underlying9
 a9:=Go.Proofs.Tryz.isAgg9
 z9:=Go.Proofs.Tryz.sizeOf9
 v9:=Go.Proofs.Tryz.zeroValue9
 t4:=Go.Proofs.Tryz.underlying4
 a4:=Go.Proofs.Tryz.isAgg4
 z4:=Go.Proofs.Tryz.sizeOf4
 v4:=Go.Proofs.Tryz.zeroValue4
 t164:=Go.Proofs.Tryz.underlying168
 a164:=Go.Proofs.Tryz.isAgg168
 z164:=Go.Proofs.Tryz.sizeOf168
 v164:=Go.Proofs.Tryz.zeroValue168
 e240:=enters_of Go.Proofs.Tryz.func42 (by kernel_rfl) rfl
 used:=b4c
 fresh:=b1u
theorem c5A:Go.Proofs.Builder.Extra Go.Proofs.Tryz.prog b2u where
 sizeBuilder:=by kernel_rfl
 liesBuilder:=by kernel_rfl
 t5:=Go.Proofs.Tryz.underlying5
 a5:=Go.Proofs.Tryz.isAgg5
 z5:=Go.Proofs.Tryz.sizeOf5
 v5:=Go.Proofs.Tryz.zeroValue5
 infoByte:=by kernel_rfl
 cellsByte:=by kernel_rfl
 sizeByte:=by kernel_rfl
 neB5:=by decide
theorem b4i:Go.Proofs.Tryz.prog.funcs[b2u.f 167]? =some (Body.n167 b2u):=Go.Proofs.Tryz.func19.trans (congrArg some (by kernel_rfl))
theorem a7j:a4g Go.Proofs.Tryz.prog=113:=by kernel_rfl
theorem b7O(p:Value)(w:World):Calls Go.Proofs.Tryz.prog 65 #[p,.int .i64 0] w λe w' =>e= .returned (.tuple #[])/\w' =w:=by
 go_enter Go.Proofs.Tryz.func65,(show Go.Proofs.Tryz.f65.ntmps=9 by kernel_rfl)
 go_wp2
 go_end0
 exact⟨rfl,rfl⟩
theorem b4d(p:Value)(w:World)(c:Int)(hc:c≠0):Calls Go.Proofs.Tryz.prog 65 #[p,.int .i64 c] w λe w' =>e= .panicked (nX Go.Proofs.Tryz.prog c)/\w' =w:=by
 unfold nX;rw[a7j]
 go_enter Go.Proofs.Tryz.func65,(show Go.Proofs.Tryz.f65.ntmps=9 by kernel_rfl)
 go_wp2
 rw[show Sem.run Go.Proofs.Tryz.prog (Instr.panic (Value.iface 113 (Value.agg #[Value.int IntKind.i64 c]))) w= .halt (.panic (Value.iface 113 (Value.agg #[Value.int IntKind.i64 c]))) w from rfl];simp only[Result.andThen,Oper.upon];exact⟨rfl,rfl,rfl⟩
def zL:c6H:=[Value.int IntKind.i64 0,Value.int IntKind.i64 0,Value.string { data:=#[] },Value.string { data:=#[] },Value.string { data:=#[] },Value.string { data:=#[] },Value.int IntKind.i64 0,Value.slice none 0 0,Value.slice none 0 0,Value.string { data:=#[] },Value.string { data:=#[] },Value.int IntKind.i64 0,Value.int IntKind.i64 0,Value.int IntKind.i64 0,Value.int IntKind.i64 0,Value.int IntKind.i64 0]
structure RecW (b4 b5:Nat) (c:Int) (w w' :World):Prop where
 a:∃T,w'.heap[b4]? =some (.cells zL.toArray T (0,0))
 c:∃T,w'.heap[b5]? =some (.cells #[.int .i64 c] T (0,0))
 size:w.heap.size<=w'.heap.size
 block:∀k,k<w.heap.size->k≠b4->k≠b5->w'.heap[k]? =w.heap[k]?
 os:w'.os=w.os
 tape:w'.tape=w.tape
 out:w'.output=w.output
theorem Nk(g:Nat)(t:TypeId):∀(vs:c6H) (i:Nat) (cs:c6H) (w:World),w.heap[g]? =some (.cells cs.toArray t (0,0))->i+vs.length<=cs.length->
  (w.setCells g i vs).heap[g]? =some (.cells (cs.take i++vs++cs.drop (i+vs.length)).toArray t (0,0))
 |[],i,cs,w,h,hl=>by simpa[World.setCells]using h|v::vs,i,cs,w,h,hl=>by simp only[F5]at hl;have h1:=heap_setCell_same w g i cs.toArray t v h;have h2:=Nk g t vs (i+1) (cs.set i v) (w.setCell ⟨g,i,none⟩ v) (by simpa using h1) E5;refine(show(w.setCells g i (v::vs)).heap[g]? =_ from h2).trans ?_;congr 3;rw[F5,show i+(vs.length+1)=i+1+vs.length by omega,List.drop_set_of_lt o5];rw[List.take_set,Y8 o5,lW _ _ E5];simp[show i -min i cs.length=0 by omega]
theorem Fa(g k:Nat)(h:k≠g):∀(vs:c6H) (i:Nat) (w:World),(w.setCells g i vs).heap[k]? =w.heap[k]?
 |[],i,w=>rfl|v::vs,i,w=>(Fa g k h vs (i+1) (w.setCell ⟨g,i,none⟩ v)).trans (heap_setCell_other w ⟨g,i,none⟩ k v h)
theorem NH(g:Nat):∀(vs:c6H) (i:Nat) (w:World),(w.setCells g i vs).heap.size=w.heap.size
 |[],i,w=>rfl|v::vs,i,w=>(NH g vs (i+1) (w.setCell ⟨g,i,none⟩ v)).trans (World.size_setCell _ _ _)
theorem NG(g:Nat):∀(vs:c6H) (i:Nat) (w:World),(w.setCells g i vs).os=w.os/\(w.setCells g i vs).tape=w.tape/\(w.setCells g i vs).output=w.output
 |[],i,w=>⟨rfl,rfl,rfl⟩|v::vs,i,w=>NG g vs (i+1) (w.setCell ⟨g,i,none⟩ v)
theorem b4G{b4 b5:Nat}{c:Int}{w:World}{lA:c6H}{y0:Value}{TA TC:TypeId}(hA:w.heap[b4]? =some (.cells lA.toArray TA (0,0)))(hl:lA.length=16)(hC:w.heap[b5]? =some (.cells #[y0] TC (0,0)))(hne:b4≠b5)(o:Obj):
  RecW b4 b5 c w (((w.setCells b4 0 zL).setCell ⟨b5,0,none⟩ (Value.int IntKind.i64 c)).alloc o).drew:=by
 have hlA:b4<w.heap.size:=(G9.1 hA).1;have hlC:b5<w.heap.size:=(G9.1 hC).1;have hs:((w.setCells b4 0 zL).setCell ⟨b5,0,none⟩ (Value.int IntKind.i64 c)).heap.size=w.heap.size:=by rw[World.size_setCell,NH]
 have hA' :=Nk b4 TA zL 0 lA w hA (by rw[hl];decide);have hC' :=heap_setCell_same (w.setCells b4 0 zL) b5 0 _ TC (Value.int IntKind.i64 c) ((Fa b4 b5 (Ne.symm hne) zL 0 w).trans hC);have ho:=heap_setCell_other (w.setCells b4 0 zL) ⟨b5,0,none⟩;have hss:=NG b4 zL 0 w;have hot:=λk h=>Fa b4 k h zL 0 w;generalize hw1:w.setCells b4 0 zL=w1 at*;have al:∀k,k<w.heap.size->((w1.setCell ⟨b5,0,none⟩ (Value.int IntKind.i64 c)).alloc o).drew.heap[k]? =(w1.setCell ⟨b5,0,none⟩ (Value.int IntKind.i64 c)).heap[k]?:=λk hk=>
  Lib.alloc_old (w1.setCell ⟨b5,0,none⟩ (Value.int IntKind.i64 c)) o k (by rw[hs];exact hk)
 refine⟨?_,?_,?_,λk hk h4 h5=>?_,hss.1,hss.2.1,hss.2.2⟩
 .refine⟨TA,?_⟩;rw[al b4 hlA,ho b4 _ hne,hA'];rw[List.take_zero,J4,bG (by rw[hl];decide),G7]
 .refine⟨TC,?_⟩;rw[al b5 hlC];exact hC'
 .rw[heap_drew,World.size_alloc,hs];omega
 .rw[al k hk,ho k _ h5,hot k h4]
def a4O:Code:=(.seq (.seq (.region 1 #[⟨some 6,.move (.tmp 2),20,"text.go:204",#[],none⟩,
 ⟨some 7,.binOp .eql 20 (.tmp 6) (.const .nilIface) 20,4,"text.go:204",#[⟨0,.data⟩],none⟩] false)
 (.cond (.tmp 7) .ret
 .skip))
 (.seq (.region 2 #[⟨some 9,.move (.tmp 2),20,"text.go:207",#[],none⟩,
 ⟨some 10,.typeAssert (.tmp 9) 20 113 true,114,"text.go:207",#[⟨0,.data⟩],none⟩,
 ⟨some 8,.move (.tmp 10),114,"text.go:207",#[⟨1,.data⟩],none⟩,
 ⟨some 11,.extract (.tmp 8) 0,113,"text.go:207",#[⟨2,.data⟩],none⟩,
 ⟨some 12,.extract (.tmp 8) 1,4,"text.go:207",#[⟨2,.data⟩,⟨6,.gcOnly .lateStores⟩],none⟩,
 ⟨some 3,.alloc 113,0,"text.go:207",#[],none⟩,
 ⟨none,.store 113 (.tmp 3) (.tmp 11),0,"text.go:207",#[⟨5,.data⟩,⟨3,.data⟩,⟨0,.phase⟩,⟨1,.phase⟩,⟨2,.phase⟩,⟨3,.phase⟩,⟨4,.textOnly .lateStores⟩,⟨5,.phase⟩],none⟩,
 ⟨some 4,.assign (.tmp 12),4,"text.go:207",#[⟨4,.data⟩,⟨6,.chain⟩,⟨0,.phase⟩,⟨1,.phase⟩,⟨2,.phase⟩,⟨3,.phase⟩,⟨4,.phase⟩,⟨5,.phase⟩,⟨6,.phase⟩],none⟩] false)
 (.seq (.seq (.region 3 #[⟨some 13,.move (.tmp 4),4,"text.go:208",#[],none⟩,
 ⟨some 14,.unOp .not 4 (.tmp 13),4,"text.go:208",#[⟨0,.data⟩],none⟩] false)
 (.cond (.tmp 14) (.region 4 #[⟨some 15,.move (.tmp 2),20,"text.go:209",#[],none⟩,
 ⟨none,.panic (.tmp 15),0,"text.go:209",#[⟨0,.data⟩],none⟩] false)
 .skip))
 (.region 5 #[⟨some 16,.build 76 #[],76,"text.go:211",#[],none⟩,
 ⟨some 17,.fieldAddr 113 (.tmp 3) 0,0,"text.go:211",#[⟨3,.gcOnly .lateStores⟩],none⟩,
 ⟨some 18,.load 30 (.tmp 17),30,"text.go:211",#[⟨1,.data⟩,⟨3,.gcOnly .lateStores⟩],none⟩,
 ⟨none,.store 76 (.tmp 0) (.tmp 16),0,"text.go:211",#[⟨0,.data⟩,⟨0,.phase⟩,⟨1,.textOnly .lateStores⟩,⟨2,.textOnly .lateStores⟩],none⟩,
 ⟨none,.store 30 (.tmp 1) (.tmp 18),0,"text.go:211",#[⟨2,.data⟩,⟨3,.chain⟩,⟨0,.phase⟩,⟨1,.phase⟩,⟨2,.phase⟩,⟨3,.phase⟩],none⟩] true))))
set_option maxHeartbeats 1000000 in
theorem b2r(b4 b5:Nat)(arrA arrC:Array Value)(TA TC:TypeId)(c:Int)(w:World)(hA:w.heap[b4]? =some (.cells arrA TA (0,0)))(hC:w.heap[b5]? =some (.cells arrC TC (0,0)))
  (hsA:arrA.size=16) (hsC:arrC.size=1) (hne:b4≠b5) (Q:Exit->Act->World->Prop) (hQ:∀a' w',a'.defers=[]->RecW b4 b5 c w w' ->Q .normal a' w'):
  Code.wp Go.Proofs.Tryz.prog a4O Q ⟨#[Value.pointer (some ⟨b4,0,none⟩),Value.pointer (some ⟨b5,0,none⟩),.iface 113 (.agg #[.int .i64 c]),Go.undef,Go.undef,.iface 113 (.agg #[.int .i64 c]),Go.undef,Go.undef,Go.undef,Go.undef,Go.undef,Go.undef,Go.undef,Go.undef,Go.undef,Go.undef,Go.undef,Go.undef,Go.undef],[]⟩ w:=by
 have hnil:∀(x:Value) (w:World),(binOp .eql 20 (.iface 113 x) .nilIface).run Go.Proofs.Tryz.prog w= .ok (.bool false) w:=λx w=>run_eql_held_nil (w:=w) 20 113 x (by rw[Go.Proofs.Tryz.underlying20];kernel_rfl);have has:∀(x:Value) (w:World),(Instr.typeAssert (.iface 113 x) 20 113 true).run Go.Proofs.Tryz.prog w= .ok (.tuple #[x,.bool true]) w:=λx w=>by simp[Instr.typeAssert,run_underlying Go.Proofs.Tryz.underlying113]
 have t76:=Go.Proofs.Tryz.underlying76;have a76:=Go.Proofs.Tryz.isAgg76;have z76:=Go.Proofs.Tryz.sizeOf76;have v76:=Go.Proofs.Tryz.zeroValue76;have u76:=run_underlying Go.Proofs.Tryz.underlying76;have t30:=Go.Proofs.Tryz.underlying30;have a30:=Go.Proofs.Tryz.isAgg30;have z30:=Go.Proofs.Tryz.sizeOf30;have v30:=Go.Proofs.Tryz.zeroValue30;have u30:=run_underlying Go.Proofs.Tryz.underlying30;have t113:=Go.Proofs.Tryz.underlying113;have a113:=Go.Proofs.Tryz.isAgg113;have z113:=Go.Proofs.Tryz.sizeOf113;have v113:=Go.Proofs.Tryz.zeroValue113;have u113:=run_underlying Go.Proofs.Tryz.underlying113;have t4:=Go.Proofs.Tryz.underlying4;have a4:=Go.Proofs.Tryz.isAgg4;have z4:=Go.Proofs.Tryz.sizeOf4;have v4:=Go.Proofs.Tryz.zeroValue4;have u4:=run_underlying Go.Proofs.Tryz.underlying4;unfold a4O;clear t76 u76;have hlA:b4<w.heap.size:=(G9.1 hA).1;have hlC:b5<w.heap.size:=(G9.1 hC).1;have hA1:(w.alloc (Obj.cells #[Value.int IntKind.i64 c] 113)).heap[b4]? =some (.cells arrA TA (0,0)):=by rw[Lib.alloc_old w _ b4 hlA];exact hA
 have hC1:(w.alloc (Obj.cells #[Value.int IntKind.i64 c] 113)).heap[b5]? =some (.cells arrC TC (0,0)):=by rw[Lib.alloc_old w _ b5 hlC];exact hC
 obtain⟨lA⟩:=arrA;obtain⟨lC⟩:=arrC;match lA,hsA with
 |[x0,x1,x2,x3,x4,x5,x6,x7,x8,x9,x10,x11,x12,x13,x14,x15],_=>
 match lC,hsC with
 |[y0],_=>
 have ca0:(w.alloc (Obj.cells #[Value.int IntKind.i64 c] 113)).cell? ⟨b4,0,none⟩=some x0:=by rw[Lib.cell_of_heap hA1];rfl
 have fa0:(w.alloc (Obj.cells #[Value.int IntKind.i64 c] 113)).frozen? ⟨b4,0,none⟩=false:=Lib.frozen_of_heap hA1 0;have ca1:(w.alloc (Obj.cells #[Value.int IntKind.i64 c] 113)).cell? ⟨b4,1,none⟩=some x1:=by rw[Lib.cell_of_heap hA1];rfl
 have fa1:(w.alloc (Obj.cells #[Value.int IntKind.i64 c] 113)).frozen? ⟨b4,1,none⟩=false:=Lib.frozen_of_heap hA1 1;have ca2:(w.alloc (Obj.cells #[Value.int IntKind.i64 c] 113)).cell? ⟨b4,2,none⟩=some x2:=by rw[Lib.cell_of_heap hA1];rfl
 have fa2:(w.alloc (Obj.cells #[Value.int IntKind.i64 c] 113)).frozen? ⟨b4,2,none⟩=false:=Lib.frozen_of_heap hA1 2;have ca3:(w.alloc (Obj.cells #[Value.int IntKind.i64 c] 113)).cell? ⟨b4,3,none⟩=some x3:=by rw[Lib.cell_of_heap hA1];rfl
 have fa3:(w.alloc (Obj.cells #[Value.int IntKind.i64 c] 113)).frozen? ⟨b4,3,none⟩=false:=Lib.frozen_of_heap hA1 3;have ca4:(w.alloc (Obj.cells #[Value.int IntKind.i64 c] 113)).cell? ⟨b4,4,none⟩=some x4:=by rw[Lib.cell_of_heap hA1];rfl
 have fa4:(w.alloc (Obj.cells #[Value.int IntKind.i64 c] 113)).frozen? ⟨b4,4,none⟩=false:=Lib.frozen_of_heap hA1 4;have ca5:(w.alloc (Obj.cells #[Value.int IntKind.i64 c] 113)).cell? ⟨b4,5,none⟩=some x5:=by rw[Lib.cell_of_heap hA1];rfl
 have fa5:(w.alloc (Obj.cells #[Value.int IntKind.i64 c] 113)).frozen? ⟨b4,5,none⟩=false:=Lib.frozen_of_heap hA1 5;have ca6:(w.alloc (Obj.cells #[Value.int IntKind.i64 c] 113)).cell? ⟨b4,6,none⟩=some x6:=by rw[Lib.cell_of_heap hA1];rfl
 have fa6:(w.alloc (Obj.cells #[Value.int IntKind.i64 c] 113)).frozen? ⟨b4,6,none⟩=false:=Lib.frozen_of_heap hA1 6;have ca7:(w.alloc (Obj.cells #[Value.int IntKind.i64 c] 113)).cell? ⟨b4,7,none⟩=some x7:=by rw[Lib.cell_of_heap hA1];rfl
 have fa7:(w.alloc (Obj.cells #[Value.int IntKind.i64 c] 113)).frozen? ⟨b4,7,none⟩=false:=Lib.frozen_of_heap hA1 7;have ca8:(w.alloc (Obj.cells #[Value.int IntKind.i64 c] 113)).cell? ⟨b4,8,none⟩=some x8:=by rw[Lib.cell_of_heap hA1];rfl
 have fa8:(w.alloc (Obj.cells #[Value.int IntKind.i64 c] 113)).frozen? ⟨b4,8,none⟩=false:=Lib.frozen_of_heap hA1 8;have ca9:(w.alloc (Obj.cells #[Value.int IntKind.i64 c] 113)).cell? ⟨b4,9,none⟩=some x9:=by rw[Lib.cell_of_heap hA1];rfl
 have fa9:(w.alloc (Obj.cells #[Value.int IntKind.i64 c] 113)).frozen? ⟨b4,9,none⟩=false:=Lib.frozen_of_heap hA1 9;have ca10:(w.alloc (Obj.cells #[Value.int IntKind.i64 c] 113)).cell? ⟨b4,10,none⟩=some x10:=by rw[Lib.cell_of_heap hA1];rfl
 have fa10:(w.alloc (Obj.cells #[Value.int IntKind.i64 c] 113)).frozen? ⟨b4,10,none⟩=false:=Lib.frozen_of_heap hA1 10;have ca11:(w.alloc (Obj.cells #[Value.int IntKind.i64 c] 113)).cell? ⟨b4,11,none⟩=some x11:=by rw[Lib.cell_of_heap hA1];rfl
 have fa11:(w.alloc (Obj.cells #[Value.int IntKind.i64 c] 113)).frozen? ⟨b4,11,none⟩=false:=Lib.frozen_of_heap hA1 11;have ca12:(w.alloc (Obj.cells #[Value.int IntKind.i64 c] 113)).cell? ⟨b4,12,none⟩=some x12:=by rw[Lib.cell_of_heap hA1];rfl
 have fa12:(w.alloc (Obj.cells #[Value.int IntKind.i64 c] 113)).frozen? ⟨b4,12,none⟩=false:=Lib.frozen_of_heap hA1 12;have ca13:(w.alloc (Obj.cells #[Value.int IntKind.i64 c] 113)).cell? ⟨b4,13,none⟩=some x13:=by rw[Lib.cell_of_heap hA1];rfl
 have fa13:(w.alloc (Obj.cells #[Value.int IntKind.i64 c] 113)).frozen? ⟨b4,13,none⟩=false:=Lib.frozen_of_heap hA1 13;have ca14:(w.alloc (Obj.cells #[Value.int IntKind.i64 c] 113)).cell? ⟨b4,14,none⟩=some x14:=by rw[Lib.cell_of_heap hA1];rfl
 have fa14:(w.alloc (Obj.cells #[Value.int IntKind.i64 c] 113)).frozen? ⟨b4,14,none⟩=false:=Lib.frozen_of_heap hA1 14;have ca15:(w.alloc (Obj.cells #[Value.int IntKind.i64 c] 113)).cell? ⟨b4,15,none⟩=some x15:=by rw[Lib.cell_of_heap hA1];rfl
 have fa15:(w.alloc (Obj.cells #[Value.int IntKind.i64 c] 113)).frozen? ⟨b4,15,none⟩=false:=Lib.frozen_of_heap hA1 15;have cc0:(w.alloc (Obj.cells #[Value.int IntKind.i64 c] 113)).cell? ⟨b5,0,none⟩=some y0:=by rw[Lib.cell_of_heap hC1];rfl
 have fc0:(w.alloc (Obj.cells #[Value.int IntKind.i64 c] 113)).frozen? ⟨b5,0,none⟩=false:=Lib.frozen_of_heap hC1 0;have wa0:w.cell? ⟨b4,0,none⟩=some x0:=by rw[Lib.cell_of_heap hA];rfl
 have wf0:w.frozen? ⟨b4,0,none⟩=false:=Lib.frozen_of_heap hA 0;have wa1:w.cell? ⟨b4,1,none⟩=some x1:=by rw[Lib.cell_of_heap hA];rfl
 have wf1:w.frozen? ⟨b4,1,none⟩=false:=Lib.frozen_of_heap hA 1;have wa2:w.cell? ⟨b4,2,none⟩=some x2:=by rw[Lib.cell_of_heap hA];rfl
 have wf2:w.frozen? ⟨b4,2,none⟩=false:=Lib.frozen_of_heap hA 2;have wa3:w.cell? ⟨b4,3,none⟩=some x3:=by rw[Lib.cell_of_heap hA];rfl
 have wf3:w.frozen? ⟨b4,3,none⟩=false:=Lib.frozen_of_heap hA 3;have wa4:w.cell? ⟨b4,4,none⟩=some x4:=by rw[Lib.cell_of_heap hA];rfl
 have wf4:w.frozen? ⟨b4,4,none⟩=false:=Lib.frozen_of_heap hA 4;have wa5:w.cell? ⟨b4,5,none⟩=some x5:=by rw[Lib.cell_of_heap hA];rfl
 have wf5:w.frozen? ⟨b4,5,none⟩=false:=Lib.frozen_of_heap hA 5;have wa6:w.cell? ⟨b4,6,none⟩=some x6:=by rw[Lib.cell_of_heap hA];rfl
 have wf6:w.frozen? ⟨b4,6,none⟩=false:=Lib.frozen_of_heap hA 6;have wa7:w.cell? ⟨b4,7,none⟩=some x7:=by rw[Lib.cell_of_heap hA];rfl
 have wf7:w.frozen? ⟨b4,7,none⟩=false:=Lib.frozen_of_heap hA 7;have wa8:w.cell? ⟨b4,8,none⟩=some x8:=by rw[Lib.cell_of_heap hA];rfl
 have wf8:w.frozen? ⟨b4,8,none⟩=false:=Lib.frozen_of_heap hA 8;have wa9:w.cell? ⟨b4,9,none⟩=some x9:=by rw[Lib.cell_of_heap hA];rfl
 have wf9:w.frozen? ⟨b4,9,none⟩=false:=Lib.frozen_of_heap hA 9;have wa10:w.cell? ⟨b4,10,none⟩=some x10:=by rw[Lib.cell_of_heap hA];rfl
 have wf10:w.frozen? ⟨b4,10,none⟩=false:=Lib.frozen_of_heap hA 10;have wa11:w.cell? ⟨b4,11,none⟩=some x11:=by rw[Lib.cell_of_heap hA];rfl
 have wf11:w.frozen? ⟨b4,11,none⟩=false:=Lib.frozen_of_heap hA 11;have wa12:w.cell? ⟨b4,12,none⟩=some x12:=by rw[Lib.cell_of_heap hA];rfl
 have wf12:w.frozen? ⟨b4,12,none⟩=false:=Lib.frozen_of_heap hA 12;have wa13:w.cell? ⟨b4,13,none⟩=some x13:=by rw[Lib.cell_of_heap hA];rfl
 have wf13:w.frozen? ⟨b4,13,none⟩=false:=Lib.frozen_of_heap hA 13;have wa14:w.cell? ⟨b4,14,none⟩=some x14:=by rw[Lib.cell_of_heap hA];rfl
 have wf14:w.frozen? ⟨b4,14,none⟩=false:=Lib.frozen_of_heap hA 14;have wa15:w.cell? ⟨b4,15,none⟩=some x15:=by rw[Lib.cell_of_heap hA];rfl
 have wf15:w.frozen? ⟨b4,15,none⟩=false:=Lib.frozen_of_heap hA 15;have wc0:w.cell? ⟨b5,0,none⟩=some y0:=by rw[Lib.cell_of_heap hC];rfl
 have wfc0:w.frozen? ⟨b5,0,none⟩=false:=Lib.frozen_of_heap hC 0
 go_wp2
 go_region
 exact hQ _ _ rfl (b4G hA rfl hC hne _)
theorem b4e(p:Value)(w:World)(c:Int):Calls Go.Proofs.Tryz.prog 65 #[p,.int .i64 c] w λe w' =>((c=0/\e= .returned (.tuple #[]))\/(c≠0/\e= .panicked (nX Go.Proofs.Tryz.prog c)))/\w' =w:=by
 by_cases h:c=0
 .subst h;exact(b7O p w).mono λe w' h=>⟨.inl ⟨rfl,h.1⟩,h.2⟩
 .exact(b4d p w c h).mono λe w' h' =>⟨.inr ⟨h,h'.1⟩,h'.2⟩
set_option maxHeartbeats 1000000 in
theorem b4H(b4 b5:Nat)(arrA arrC:Array Value)(TA TC:TypeId)(c:Int)(w:World)(hA:w.heap[b4]? =some (.cells arrA TA (0,0)))(hC:w.heap[b5]? =some (.cells arrC TC (0,0)))
  (hsA:arrA.size=16) (hsC:arrC.size=1) (hne:b4≠b5) (R:Ending->FrameMode->World->Prop) (hR:∀w',RecW b4 b5 c w w' ->R (.returned (.tuple #[])) (.panicking [{ v:=.iface 113 (.agg #[.int .i64 c]),recovered:=true }]) w'):
  CallsD Go.Proofs.Tryz.prog 29 #[.pointer (some ⟨b4,0,none⟩),.pointer (some ⟨b5,0,none⟩)] (.panicking [{ v:=.iface 113 (.agg #[.int .i64 c]),recovered:=false }]) w R:=by
 have hr:Go.Proofs.Tryz.f29.results=#[]:=by kernel_rfl
 refine callsD_of_wpS Go.Proofs.Tryz.func29 rfl λc₀ cs hu=>?_;apply wpS_seq;apply wpS_region;simp[wpOpsS,go_sem,recoverD,hu,Exit.thenS];refine wpS_of_wp ?_;refine b2r b4 b5 arrA arrC TA TC c w hA hC hsA hsC hne _ λa' w' hd hw=>?_;exact⟨hd,_,rfl,.tuple #[],by simp[results,hr],hR w' hw⟩
def dvR(tm:Array Value):Deferred:={ target:=.fn (.func 29) #[tm.getD 4 Go.undef,tm.getD 5 Go.undef],args:=#[] }
theorem a6p(tm:Array Value)(b1 b2:Nat)(arr1 arr2:Array Value)(T1 T2:TypeId)(c:Int)(w:World)(h1:tm.getD 4 Go.undef= .pointer (some ⟨b1,0,none⟩))(h2:tm.getD 5 Go.undef= .pointer (some ⟨b2,0,none⟩))
  (hA:w.heap[b1]? =some (.cells arr1 T1 (0,0))) (hC:w.heap[b2]? =some (.cells arr2 T2 (0,0))) (hsA:arr1.size=16) (hsC:arr2.size=1) (hne:b1≠b2) (R:Ending->World->Prop)
  (hR:∀w' v,UWorld b1 b2 w w' ->OH [Value.agg zL.toArray,.int .i64 c].length v [Value.agg zL.toArray,.int .i64 c]->R (.returned v) w'):
  Leaves Go.Proofs.Tryz.prog Go.Proofs.Tryz.f15 tm R [dvR tm] (.panicking (nX Go.Proofs.Tryz.prog c)) w:=by
 unfold dvR nX;rw[h1,h2,a7j];refine leaves_cons (f:=29) (args:=#[.pointer (some ⟨b1,0,none⟩),.pointer (some ⟨b2,0,none⟩)]) D5 rfl ?_;refine b4H b1 b2 arr1 arr2 T1 T2 c w hA hC hsA hsC hne _ λw' H=>?_;show Leaves _ _ _ _ [] .returning w';obtain⟨TA,hA'⟩:=H.a;obtain⟨TC,hC'⟩:=H.c;have hr:Go.Proofs.Tryz.f15.results=#[.cell 4 76,.cell 5 30]:=by kernel_rfl
 have e1:bQ w'.heap b1 0 16=some zL:=by simp[bQ,hA',zL]
 have e2:bQ w'.heap b2 0 1=some [.int .i64 c]:=by simp[bQ,hC']
 have l1:=ZI Go.Proofs.Tryz.isAgg76 Go.Proofs.Tryz.sizeOf76 w' e1;have l2:=ZJ Go.Proofs.Tryz.isAgg30 w' e2;refine⟨.tuple #[.agg zL.toArray,.int .i64 c],?_,hR w' _ ⟨H.os,H.tape,H.out,H.size,H.block⟩ ⟨rfl,rfl⟩⟩;simp only[O5]at h1 h2;simp[results,hr,h1,h2,asAddr,l1,l2]
theorem c6a(Q:Exit->Act->World->Prop)(a:Act)(w:World)(hd:a.defers=[])(hs:a.tmps.size=59)
  (hQ:Q .normal { tmps:=a.tmps.setIfInBounds 8 (.func (.func 29) #[] #[a.tmps.getD 4 Go.undef,a.tmps.getD 5 Go.undef]),defers:=[dvR a.tmps] } w):
  (Code.region 1 #[⟨some 8,.makeFunc (.func 29) #[] #[(.tmp 4),(.tmp 5)],1,"text.go:202",#[],none⟩,
 ⟨none,.defer ⟨(.value (.tmp 8)),#[],#[]⟩,0,"text.go:202",#[⟨0,.data⟩],none⟩] false).wp Go.Proofs.Tryz.prog Q a w:=by
 obtain⟨tm,df⟩:=a;have hd:df=[]:=hd;subst hd;have hs:tm.size=59:=hs;apply wp_region;simp[wpOps,go_sem,Oper.wp,execOp,Act.eval,Oper.upon,hs];refine .inl (.inl ?_);simpa[dvR,hs]using hQ
theorem c5Q(tm tm' :Array Value)(h1:tm.getD 4 Go.undef=tm'.getD 4 Go.undef)(h2:tm.getD 5 Go.undef=tm'.getD 5 Go.undef):dvR tm=dvR tm' :=by unfold dvR;rw[h1,h2]
theorem b7X(x y:Value)(w:World):CallsD Go.Proofs.Tryz.prog 29 #[x,y] .returning w λe u' w' =>e= .returned (.tuple #[])/\u' = .returning/\w' =w:=by
 have hr:Go.Proofs.Tryz.f29.results=#[]:=by kernel_rfl
 refine callsD_of_wpS Go.Proofs.Tryz.func29 rfl λc₀ cs hu=>?_;apply wpS_seq;apply wpS_region;simp[wpOpsS,go_sem,recoverD,hu,Exit.thenS];apply wpS_seq;apply wpS_seq;apply wpS_region;simp[wpOpsS,go_sem,Exit.thenS];refine wpS_cond (t:=true) (by simp[Act.eval,Array.replicate]) ?_;simp only[if_true];refine wpS_of_wp (wp_ret ?_);cases c₀;simp_all [bodyPostS,results,Exit.thenS]
theorem idR(tm:Array Value):Un Go.Proofs.Tryz.prog (dvR tm):=by
 refine⟨_,_,29,#[tm.getD 4 Go.undef,tm.getD 5 Go.undef],rfl,λw=>?_,λw=>(b7X _ _ w).mono ?_⟩
 .rfl
 .rintro e u' w' ⟨rfl,rfl,rfl⟩;exact⟨⟨_,rfl⟩,rfl,rfl⟩
theorem hzR(h:Array Obj)(ok:Nat->Ty->Prop)(c:Int):mg h ok (a9h.rs.map (·.2)++a9h.outs.map (·.2)) (b3w c) [Value.agg zL.toArray,.int .i64 c] []:=
 ⟨_,_,_,[],[],rfl,rfl,⟨zL.toArray,rfl,rfl⟩,⟨Ov h ok _ rfl,rfl⟩,_,_,rfl,rfl,rfl,rfl⟩
theorem c5P(hm:Ug P e15.ms)(hs:a1v P e15.gl e15.fs)(hp:Ui P e15.pl):dD P gl 15 s15:=by
 have H:(P.funcs[15]?,f15.body,f15.ntmps,f15.results.toList,Nat.ble (64*e15.nt) 999936,RU P e15.fs)=(some f15,some (.seq (sqL (BM f15)) (.seq (sqL (sqR (BM f15))) (sqR (sqR (BM f15))))),e15.nt,a9h.rs.map (·.1),true,true):=by kernel_rfl
 injection H with h1 h;injection h with h2 h;injection h with h3 h;injection h with h4 h;injection h with h5 h6;have hE:=Dh (E:=e15) h5 Tn Kw h6 hm hs hp;have hE' :=Dh (E:=b7S) h5 Tn Kw h6 hm hs hp;refine a1W (E:=e15) (E' :=b7S) (cv:=λtm=> .func (.func 29) #[] #[tm.getD 4 Go.undef,tm.getD 5 Go.undef]) (dv:=dvR) (vz:=λc=>[Value.agg zL.toArray,.int .i64 c]) (rec:=b3w) (p1:=4) (p2:=5) (n1:=16) (n2:=1) (n8:=8) (a0:=b7z.l) (a2:=b7z.r.r) h1 h2 h3 h4 hE hE' rfl rfl (by kernel_rfl) (by kernel_rfl) rfl (by kernel_rfl) J8 (λQ a w hd hsz hQ=>?_) c5Q idR (λtm b1 b2 arr1 arr2 T1 T2 c w h1 h2 hA hC hsA hsC hne R hR=>a6p tm b1 b2 arr1 arr2 T1 T2 c w h1 h2 hA hC hsA hsC hne R hR) hzR (λc=>rfl) (λx r h=>h▸?_)
 .exact c6a Q a w hd hsz hQ
 .kernel_rfl
theorem dQ(fn:Func)(q:FQ){F:U0 q.ps->Option q.rt.den}(hs:a1v P q.E.gl q.E.fs:=by exact trivial)(h:(P.funcs[f]?,fn.body,fn.ntmps,fn.results.toList,Nat.ble (64*q.E.nt) 999936,RU P q.E.fs)=(some fn,some (BM fn),q.E.nt,q.rt.rs.map (·.1),true,true):=by kernel_rfl)(ht:(q.E.tt,q.E.eqs)=(tt,eqs):=by rfl)(hm:Ug P q.E.ms:=by exact trivial)(hp:Ui P q.E.pl:=by exact trivial)(hF:∀x,a5G q.E q.ps q.rt (BM fn) q.an x=F x:=by intro x;kernel_rfl):
  dD P q.E.gl f ⟨q.ps,q.rt.rs.map (·.2),q.rt.outs.map (·.2),F⟩:=dS fn q.ps q.rt q.E q.an h ht hm hs hp hF
abbrev FG(n:FuncId)(s:FSpec):=dD P gl n s
def a5h:FG 99 s99:=dQ f99 q99
def ZM:FG 140 a9o:=dQ f140 b9f
def a9N:FG 100 b4K:=dQ f100 b8F ⟨a5h,ZM,I9⟩
def b5v:FG 101 c2g:=dQ f101 b8G
def Qg:FG 55 s55:=dQ f55 q55 ⟨a5h,a9N,b5v,I9⟩
def a0X:FG 103 a2P:=dQ f103 a8r
def a9Y:FG 141 a9p:=dQ f141 a8y ⟨a0X,I9⟩
def a9O:FG 102 a9j:=dQ f102 a8q ⟨a9Y,I9⟩
def b0M:FG 56 s56:=dQ f56 q56 ⟨a0X,a9O,I9⟩
def a3l:FG 138 b2G:=dQ f138 b9d
def c5r:FG 93 s93:=dQ f93 q93 ⟨a3l,I9⟩
def c4Y:FG 53 s53:=dQ f53 q53 ⟨Qg,b0M,c5r,I9⟩
def c4A:FG 26 s26:=dQ f26 q26 ⟨c4Y,I9⟩
def Wv:FG 94 s94:=dQ f94 q94
def Yp:FG 74 s74:=dQ f74 q74 ⟨Wv,I9⟩
def b0P:FG 95 s95:=dQ f95 q95
def b6i:FG 196 c2Z:=dQ f196 b9O ⟨b0P,I9⟩
def b5J:FG 139 c2x:=dQ f139 b9e ⟨b6i,I9⟩
def c5s:FG 98 s98:=dQ f98 q98 ⟨b5J,I9⟩
def a5g:FG 97 a9G:=dQ f97 b3u ⟨c5s,I9⟩
def b2R:FG 96 b3z:=dQ f96 b3s ⟨a5g,I9⟩
def c4Z:FG 54 s54:=dQ f54 q54 ⟨Wv,Yp,b0P,a5g,b2R,I9⟩
def a0Y:FG 105 a2Q:=dQ f105 a8t
def b0a:FG 142 a9r:=dQ f142 a8A ⟨a0Y,I9⟩
def a9P:FG 104 a9k:=dQ f104 a8s ⟨b0a,I9⟩
def b3F:FG 57 s57:=dQ f57 q57 ⟨a0Y,a9P,I9⟩
def c4B:FG 27 s27:=dQ f27 q27 ⟨c4Z,Qg,b0M,b3F,I9⟩
def a0Z:FG 107 a2R:=dQ f107 a8v
def b0b:FG 143 a9s:=dQ f143 a8B ⟨a0Z,I9⟩
def a9Q:FG 106 a9l:=dQ f106 a8u ⟨b0b,I9⟩
def a1b:FG 144 a2T:=dQ f144 a8C
def b0n:FG 197 a9A:=dQ f197 a8K ⟨a1b,I9⟩
def b0c:FG 145 a9t:=dQ f145 a8D ⟨b0n,I9⟩
def b5w:FG 108 c2h:=dQ f108 b8H ⟨a1b,Qg,b0c,Wv,I9⟩
def b5K:FG 146 c2y:=dQ f146 b9g
def b5x:FG 109 c2i:=dQ f109 b8I ⟨b5K,I9⟩
def a1c:FG 148 a2U:=dQ f148 a8F
def b0o:FG 198 a9B:=dQ f198 a8L ⟨a1c,I9⟩
def b0d:FG 147 a9u:=dQ f147 a8E ⟨b0o,I9⟩
theorem b6j:dD Go.Proofs.Tryz.prog gl 199 c3a:=Tz Go.Proofs.Tryz.strings_Contains_one
def b5L:FG 149 c2z:=dQ f149 b9h ⟨b6j,I9⟩
def Rt:FG 125 a2S:=dQ f125 b8U
def b0h:FG 168 b4T:=dQ f168 b9t ⟨Rt,I9⟩
def a3i:FG 124 b2D:=dQ f124 b8T
def b6O:FG 260 c3H:=dQ f260 c0G ⟨Yp,I9⟩
def b6P:FG 261 c3I:=dQ f261 c0H
def b0x:FG 262 b5e:=dQ f262 c0I ⟨Wv,I9⟩
def b0y:FG 265 b5f:=dQ f265 c0L
def b6Q:FG 263 c3J:=dQ f263 c0J ⟨b0y,Wv,I9⟩
def b0C:FG 297 b5j:=dQ f297 c1b
def b6R:FG 264 c3K:=dQ f264 c0K ⟨b0x,b0C,I9⟩
def b7c:FG 298 c3X:=dQ f298 c1c
def b6S:FG 266 c3M:=dQ f266 c0M ⟨b0C,b7c,I9⟩
def b6x:FG 231 c3p:=dQ f231 c0k ⟨b6O,b6P,b0x,b6Q,b6R,b0y,b6S,I9⟩
def b6k:FG 200 c3b:=dQ f200 b9P ⟨b0h,a3i,Rt,b6x,I9⟩
def b5M:FG 150 c2A:=dQ f150 b9i ⟨b6k,I9⟩
def b5y:FG 110 c2j:=dQ f110 b8J ⟨Qg,a1c,b0d,b5L,b5M,I9⟩
theorem b0t:dD Go.Proofs.Tryz.prog gl 221 b5a:=a3v Go.Proofs.Tryz.slices_Sort_int Go.Proofs.Tryz.slices_Sort_int_none
theorem b0u:dD Go.Proofs.Tryz.prog gl 222 b5b:=WV Go.Proofs.Tryz.slices_Compact_int Go.Proofs.Tryz.slices_Compact_int_empty
def b6E:FG 246 c3w:=dQ f246 c0t ⟨b0t,b0u,I9⟩
def b6q:FG 220 c3h:=dQ f220 c0c ⟨b6E,I9⟩
def b6c:FG 183 c2S:=dQ f183 b9G ⟨b6q,I9⟩
def b6d:FG 184 c2T:=dQ f184 b9H ⟨b0t,b0u,I9⟩
def a9V:FG 131 b4P:=dQ f131 b8Z ⟨b6c,b6d,I9⟩
def b5O:FG 152 c2C:=dQ f152 b9k
def b5A:FG 112 c2l:=dQ f112 b8L ⟨a9V,b5O,I9⟩
def b5N:FG 151 c2B:=dQ f151 b9j
def b5z:FG 111 c2k:=dQ f111 b8K ⟨b5N,I9⟩
def c5a:FG 58 s58:=dQ f58 q58 ⟨b0M,b3F,a0Z,a9Q,Qg,b5w,b5x,b5y,b5A,b5z,I9⟩
def c4C:FG 28 s28:=dQ f28 q28 ⟨c5a,I9⟩
def a1a:FG 13 s13:=dQ f13 q13 ⟨c4A,c4B,c4C,I9⟩
def c6x:FG 8 s8:=dQ f8 q8
def c6v:FG 4 s4:=dQ f4 q4 ⟨c6x,I9⟩
def c6y:FG 9 s9:=dQ f9 q9
def c4p:FG 14 s14:=dQ f14 q14
theorem c4E:dD Go.Proofs.Tryz.prog gl 30 s30:=YJ Go.Proofs.Tryz.strings_Count_one
theorem Wu:yK Go.Proofs.Tryz.prog gl 65 s65:=Zk b4e
theorem Yo:yK P gl 33 s33:=dP f33 b8w c1W e33 c5E (by kernel_rfl) rfl trivial ⟨Wu,trivial⟩ trivial λx=>by kernel_rfl
theorem b3G:dD Go.Proofs.Tryz.prog gl 62 s62:=a5E (g:=0) Go.Proofs.Tryz.strings_Cut (by kernel_rfl)
theorem Ws:yK P gl 31 s31:=dP f31 b8u c1T e31 c5B (by kernel_rfl) rfl trivial ⟨Yo,b3G,trivial⟩ trivial λx=>by kernel_rfl
theorem b0N:yK P gl 63 s63:=dP f63 b8z c1Z e63 c5H (by kernel_rfl) rfl trivial ⟨Ws,Qg,Yo,trivial⟩ trivial λx=>by kernel_rfl
def a5b:FG 64 s64:=dQ f64 q64
theorem c5k:dD Go.Proofs.Tryz.prog gl 83 s83:=FD (E:=⟨8,eqs,tt,gl,[],[],[],[],[],[],[]⟩) (f:=83) (fn:=Go.Proofs.Tryz.f83) (c:=BM Go.Proofs.Tryz.f83) (t:=.str) (by kernel_rfl) (by kernel_rfl) (by kernel_rfl) (by kernel_rfl)
  (Dh (by kernel_rfl) Tn Kw (by kernel_rfl) trivial trivial trivial) (λb=>by cases b<;>kernel_rfl) (λxs=>by kernel_rfl)
def b3E:FG 43 s43:=dQ f43 q43 ⟨c5k,I9⟩
def b5B:FG 115 c2n:=dQ f115 b8M
def b3H:FG 66 s66:=dQ f66 q66 ⟨b3E,b5B,I9⟩
theorem b0r:dD Go.Proofs.Tryz.prog gl 217 b4Y:=TB Go.Proofs.Tryz.stringslite_HasPrefix
def b6y:FG 232 c3q:=dQ f232 c0l ⟨b0r,I9⟩
def b6l:FG 203 c3c:=dQ f203 b9Q ⟨b6y,I9⟩
def b6m:FG 204 c3d:=dQ f204 b9R
def b0e:FG 157 b4Q:=dQ f157 b9l ⟨b6l,b6m,I9⟩
def a3f:FG 116 b2A:=dQ f116 b8N ⟨b0e,I9⟩
theorem c5c:yK P gl 67 s67:=dP f67 b8A c2a e67 c5I (by kernel_rfl) rfl trivial ⟨Ws,a3f,Wu,Yo,trivial⟩ trivial λx=>by kernel_rfl
def b5Q:FG 158 c2F:=dQ f158 b9m
def b6a:FG 178 c2Q:=dQ f178 b9D
def a3j:FG 128 b2E:=dQ f128 b8X ⟨b6a,I9⟩
def b5Z:FG 177 c2P:=dQ f177 b9C
def a9S:FG 127 b4M:=dQ f127 b8W ⟨b5Z,I9⟩
def b0f:FG 159 b4R:=dQ f159 b9n ⟨a3j,a9S,I9⟩
def a3g:FG 117 b2B:=dQ f117 b8O ⟨b5Q,b0f,I9⟩
theorem b0O:yK P gl 68 s68:=dP f68 b8B c2b e68 c5J (by kernel_rfl) rfl trivial ⟨Ws,a3g,Wu,trivial⟩ trivial λx=>by kernel_rfl
def b6n:FG 205 c3e:=dQ f205 b9S
theorem b5P:dD Go.Proofs.Tryz.prog gl 153 c2E:=TE Go.Proofs.Tryz.stringslite_IndexByte
def b6C:FG 236 c3u:=dQ f236 c0q ⟨b5P,I9⟩
def b6z:FG 233 c3r:=dQ f233 c0n ⟨a9N,I9⟩
def a3p:FG 268 b2K:=dQ f268 c0O ⟨ZM,I9⟩
def b6T:FG 267 c3N:=dQ f267 c0N ⟨a3p,I9⟩
def a3n:FG 180 b2I:=dQ f180 b9E ⟨b0r,I9⟩
def b6U:FG 269 c3O:=dQ f269 c0P ⟨a3n,a3p,I9⟩
def b0s:FG 219 b4Z:=dQ f219 b9Z
def b0q:FG 213 b4X:=dQ f213 b9Y ⟨b0s,b0e,I9⟩
def b6V:FG 270 c3P:=dQ f270 c0Q ⟨a3g,b0q,a3f,I9⟩
def b6A:FG 234 c3s:=dQ f234 c0o ⟨b6T,a3p,b6U,a3n,a5h,ZM,b6V,I9⟩
theorem b6W:dD Go.Proofs.Tryz.prog gl 271 c3Q:=Vp Go.Proofs.Tryz.strings_IndexAny_laid
def b6B:FG 235 c3t:=dQ f235 c0p ⟨b6W,I9⟩
def b6o:FG 206 c3f:=dQ f206 b9T ⟨a5h,ZM,b6C,b6z,b6A,b6B,a3n,I9⟩
def b5R:FG 160 c2G:=dQ f160 b9o ⟨b6n,b6o,I9⟩
def OB:FG 237 a0T:=dQ f237 c0r
def ZP:FG 207 a9C:=dQ f207 b9U ⟨OB,I9⟩
def b0z:FG 272 b5g:=dQ f272 c0R
def Rw:FG 210 a2X:=dQ f210 b9W
def Ru:FG 162 a2V:=dQ f162 b9p
def b0p:FG 209 b4W:=dQ f209 b9V ⟨ZP,Ru,I9⟩
def b0D:FG 303 b5k:=dQ f303 c1d ⟨b0p,I9⟩
def ZO:FG 173 a9w:=dQ f173 b9y
def b7d:FG 304 c3Y:=dQ f304 c1f ⟨ZO,I9⟩
def b0E:FG 323 b5l:=dQ f323 c1o ⟨OB,Qg,Ru,a3l,I9⟩
def a3m:FG 174 b2H:=dQ f174 b9z
def b7o:FG 337 c4j:=dQ f337 c1B ⟨a3m,I9⟩
def b7k:FG 324 c4f:=dQ f324 c1p ⟨OB,b7o,Ru,I9⟩
def a1f:FG 325 a3a:=dQ f325 a8N
def a9Z:FG 141 a9q:=dQ f141 a8z ⟨a1f,I9⟩
def b7e:FG 306 c3Z:=dQ f306 c1g ⟨OB,Qg,Ru,a1f,a9Z,b0E,Rw,a3l,I9⟩
def b0i:FG 176 b4U:=dQ f176 b9B
def b6D:FG 239 c3v:=dQ f239 c0s ⟨b0i,I9⟩
theorem b2T:∀n,dD P gl 161 ⟨Yb,[(false,(.dat .bool))],[(true,(.pair (.dat (.sl (.prod (.int .i64) (.prod .str (.prod (.int .i64) (.int .i64)))))) (.pair (.dat (.int .i64)) (.pair (.dat (.int .i64)) (.pair (.dat (.prod (.sl (.prod .str (.sl .str))) (.prod (.sl .str) (.prod (.sl .str) (.prod (.sl .str) (.sl .str)))))) (.pair (.own (.prod (.int .i64) (.int .i64))) (.pair (.dat (.int .i64)) (.dat (.int .i64)))))))))],λx=>(o8 n).1 x⟩/\dD P gl 208 ⟨a4M,[(false,(.dat .bool))],[(true,(.pair (.dat (.sl (.prod (.int .i64) (.prod .str (.prod (.int .i64) (.int .i64)))))) (.pair (.dat (.int .i64)) (.pair (.dat (.int .i64)) (.pair (.dat (.prod (.sl (.prod .str (.sl .str))) (.prod (.sl .str) (.prod (.sl .str) (.prod (.sl .str) (.sl .str)))))) (.pair (.own (.prod (.int .i64) (.int .i64))) (.pair (.dat (.int .i64)) (.dat (.int .i64)))))))))],λx=>(o8 n).2.1 x.1 x.2⟩/\dD P gl 238 ⟨a4N,[(false,(.dat .bool))],[(true,(.pair (.dat (.sl (.prod (.int .i64) (.prod .str (.prod (.int .i64) (.int .i64)))))) (.pair (.dat (.int .i64)) (.pair (.dat (.int .i64)) (.pair (.dat (.prod (.sl (.prod .str (.sl .str))) (.prod (.sl .str) (.prod (.sl .str) (.prod (.sl .str) (.sl .str)))))) (.pair (.own (.prod (.int .i64) (.int .i64))) (.pair (.dat (.int .i64)) (.dat (.int .i64)))))))))],λx=>(o8 n).2.2.1 x⟩/\dD P gl 273 ⟨a8o,[(false,(.dat .bool))],[(true,(.pair (.dat (.sl (.prod (.int .i64) (.prod .str (.prod (.int .i64) (.int .i64)))))) (.pair (.dat (.int .i64)) (.pair (.dat (.int .i64)) (.pair (.dat (.prod (.sl (.prod .str (.sl .str))) (.prod (.sl .str) (.prod (.sl .str) (.prod (.sl .str) (.sl .str)))))) (.pair (.own (.prod (.int .i64) (.int .i64))) (.pair (.dat (.int .i64)) (.dat (.int .i64)))))))))],λx=>(o8 n).2.2.2.1 x⟩/\dD P gl 305 ⟨a8p,[(false,(.dat .bool))],[(true,(.pair (.dat (.sl (.prod (.int .i64) (.prod .str (.prod (.int .i64) (.int .i64)))))) (.pair (.dat (.int .i64)) (.pair (.dat (.int .i64)) (.pair (.dat (.prod (.sl (.prod .str (.sl .str))) (.prod (.sl .str) (.prod (.sl .str) (.prod (.sl .str) (.sl .str)))))) (.pair (.own (.prod (.int .i64) (.int .i64))) (.pair (.dat (.int .i64)) (.dat (.int .i64)))))))))],λx=>(o8 n).2.2.2.2 x.1 x.2⟩:=by
 intro n;induction n with
 |zero=>exact⟨(λw ok O vals x r _ _ _ _ _ _ h=>by cases h),(λw ok O vals x r _ _ _ _ _ _ h=>by cases h),(λw ok O vals x r _ _ _ _ _ _ h=>by cases h),(λw ok O vals x r _ _ _ _ _ _ h=>by cases h),(λw ok O vals x r _ _ _ _ _ _ h=>by cases h)⟩
 |succ n ih=>exact⟨dS f161 Yb b3y (c5S (o8 n).1 (o8 n).2.1 (o8 n).2.2.1 (o8 n).2.2.2.1 (o8 n).2.2.2.2) b7A (by kernel_rfl) rfl trivial ⟨ZP,ih.2.1,ih.1,b0p,Rw,trivial⟩ trivial λx=>by kernel_rfl,
  dS f208 a4M c1O (c5V (o8 n).1 (o8 n).2.1 (o8 n).2.2.1 (o8 n).2.2.2.1 (o8 n).2.2.2.2) b7C (by kernel_rfl) rfl trivial ⟨ih.2.2.1,OB,b6D,ih.2.1,Rw,trivial⟩ trivial λx=>by kernel_rfl,
  dS f238 a4N c1Q (c5X (o8 n).1 (o8 n).2.1 (o8 n).2.2.1 (o8 n).2.2.2.1 (o8 n).2.2.2.2) b7E (by kernel_rfl) rfl trivial ⟨ZP,OB,b0z,Rw,ih.2.2.1,ih.2.2.2.1,trivial⟩ trivial λx=>by kernel_rfl,
  dS f273 a8o c1R (c5Y (o8 n).1 (o8 n).2.1 (o8 n).2.2.1 (o8 n).2.2.2.1 (o8 n).2.2.2.2) b7F (by kernel_rfl) rfl trivial ⟨OB,b0z,Rw,ZP,ih.1,b0D,Ru,b7d,ih.2.2.2.2,b7e,trivial⟩ trivial λx=>by kernel_rfl,
  dS f305 a8p c1S (c5Z (o8 n).1 (o8 n).2.1 (o8 n).2.2.1 (o8 n).2.2.2.1 (o8 n).2.2.2.2) b7G (by kernel_rfl) rfl trivial ⟨Rw,b0E,b0D,ih.1,b7k,trivial⟩ trivial λx=>by kernel_rfl⟩
theorem b5S:dD P gl 161 c2H:=(b2T dZ).1
def a3h:FG 123 b2C:=dQ f123 b8S ⟨b0h,I9⟩
def b0g:FG 166 b4S:=dQ f166 b9s ⟨Yp,I9⟩
theorem b5E:dD Go.Proofs.Tryz.prog gl 122 c2r:=a2o (g:=4) Go.Proofs.Tryz.strconv_Itoa (by kernel_rfl) (by kernel_rfl)
def a5d:FG 76 s76:=dQ f76 q76 ⟨b5E,I9⟩
theorem a9T:dD Go.Proofs.Tryz.prog gl 129 b4N:=ZF Go.Proofs.Tryz.strings_Repeat
def b6b:FG 182 c2R:=dQ f182 b9F ⟨b0s,a5d,a9T,I9⟩
def a5e:FG 78 s78:=dQ f78 q78
def a5f:FG 79 s79:=dQ f79 q79 ⟨a5e,a9S,a3j,I9⟩
def c5i:FG 80 s80:=dQ f80 q80 ⟨a5d,a9T,I9⟩
def a5a:FG 40 s40:=dQ f40 q40 ⟨a5e,a5f,c5i,I9⟩
def a9U:FG 130 b4O:=dQ f130 b8Y ⟨Wv,b0g,a5d,b6b,a5a,I9⟩
def ZN:FG 172 a9v:=dQ f172 b9x
def b5V:FG 169 c2K:=dQ f169 b9u ⟨a9U,ZN,I9⟩
def b5W:FG 170 c2M:=dQ f170 b9v ⟨ZO,ZN,I9⟩
def b5X:FG 171 c2N:=dQ f171 b9w ⟨ZO,a3m,ZN,I9⟩
def b5Y:FG 175 c2O:=dQ f175 b9A
def b5F:FG 126 c2s:=dQ f126 b8V ⟨b5V,b5W,b5X,ZN,ZO,a3m,b5Y,b0i,I9⟩
def b3J:FG 77 s77:=dQ f77 q77 ⟨a3h,a3i,Rt,b5F,I9⟩
def b5C:FG 118 c2o:=dQ f118 b8P ⟨b5R,b5S,Ru,a3h,b3J,I9⟩
theorem c5d:yK P gl 69 s69:=dP f69 b8C c2c e69 c5K (by kernel_rfl) rfl trivial ⟨b5C,Wu,trivial⟩ trivial λx=>by kernel_rfl
def b6p:FG 211 c3g:=dQ f211 b9X
def b5T:FG 163 c2I:=dQ f163 b9q ⟨b6p,I9⟩
def a9R:FG 119 b4L:=dQ f119 b8Q ⟨b5T,I9⟩
def b3I:FG 75 s75:=dQ f75 q75
theorem c5f:yK P gl 70 s70:=dP f70 b8D c2d e70 c5M (by kernel_rfl) rfl trivial ⟨a9R,b3I,Yo,trivial⟩ trivial λx=>by kernel_rfl
theorem c4F:yK P gl 32 s32:=dP f32 b8v c1V e32 c5C (by kernel_rfl) rfl trivial ⟨b0N,a5b,Wu,b3H,Ws,Yo,c5c,b0O,b3G,c5d,c5f,trivial⟩ trivial λx=>by kernel_rfl
theorem c5g:dD Go.Proofs.Tryz.prog gl 71 s71:=a1i (g:=0) Go.Proofs.Tryz.strings_Split (by kernel_rfl)
def c4G:FG 34 s34:=dQ f34 q34 ⟨c5g,I9⟩
theorem c4H:yK P gl 35 s35:=dP f35 b8x c1X e35 c5F (by kernel_rfl) rfl trivial ⟨b0N,Ws,b0O,trivial⟩ trivial λx=>by kernel_rfl
def a5c:FG 72 s72:=dQ f72 q72
def b5U:FG 165 c2J:=dQ f165 b9r ⟨a3f,b0q,a9R,a3g,I9⟩
def b5D:FG 121 c2p:=dQ f121 b8R ⟨Wv,b5U,b0g,I9⟩
theorem c5h:yK P gl 73 s73:=dP f73 b8E c2f e73 c5N (by kernel_rfl) rfl trivial ⟨b5D,Wu,trivial⟩ trivial λx=>by kernel_rfl
theorem c4I:yK P gl 36 s36:=dP f36 b8y c1Y e36 c5G (by kernel_rfl) rfl trivial ⟨b0N,a5c,Wu,Ws,b0O,c5h,Yp,trivial⟩ trivial λx=>by kernel_rfl
theorem c4q:dD P gl 15 s15:=c5P trivial ⟨c4E,Ws,c4F,c4G,Yo,c4H,c4I,trivial⟩ trivial
def c5b:FG 6 s6:=dQ f6 q6 ⟨a1a,c4p,c4q,I9⟩
theorem c5l:dD Go.Proofs.Tryz.prog gl 84 s84:=FD (E:=⟨8,eqs,tt,gl,[],[],[],[],[],[],[]⟩) (f:=84) (fn:=Go.Proofs.Tryz.f84) (c:=BM Go.Proofs.Tryz.f84) (t:=(.prod (.prod (.int .i64) (.int .i64)) (.prod (.int .i64) (.prod (.int .i64) (.int .i64))))) (by kernel_rfl) (by kernel_rfl) (by kernel_rfl) (by kernel_rfl)
  (Dh (by kernel_rfl) Tn Kw (by kernel_rfl) trivial trivial trivial) (λb=>by cases b<;>kernel_rfl) (λxs=>by kernel_rfl)
def c4O:FG 44 s44:=dQ f44 q44 ⟨c5l,I9⟩
theorem c4P:dD Go.Proofs.Tryz.prog gl 45 s45:=FD (E:=⟨8,eqs,tt,gl,[],[],[],[],[],[],[]⟩) (f:=45) (fn:=Go.Proofs.Tryz.f45) (c:=BM Go.Proofs.Tryz.f45) (t:=(.prod .str (.prod (.int .i64) (.int .i64)))) (by kernel_rfl) (by kernel_rfl) (by kernel_rfl) (by kernel_rfl)
  (Dh (by kernel_rfl) Tn Kw (by kernel_rfl) trivial trivial trivial) (λb=>by cases b<;>kernel_rfl) (λxs=>by kernel_rfl)
theorem c4Q:dD Go.Proofs.Tryz.prog gl 46 s46:=FD (E:=⟨8,eqs,tt,gl,[],[],[],[],[],[],[]⟩) (f:=46) (fn:=Go.Proofs.Tryz.f46) (c:=BM Go.Proofs.Tryz.f46) (t:=(.prod (.int .i64) (.int .i64))) (by kernel_rfl) (by kernel_rfl) (by kernel_rfl) (by kernel_rfl)
  (Dh (by kernel_rfl) Tn Kw (by kernel_rfl) trivial trivial trivial) (λb=>by cases b<;>kernel_rfl) (λxs=>by kernel_rfl)
def b3D:FG 21 s21:=dQ f21 q21 ⟨b3E,c4O,c4P,c4Q,I9⟩
def c5q:FG 90 s90:=dQ f90 q90
def b3L:FG 91 s91:=dQ f91 q91
def c4T:FG 49 s49:=dQ f49 q49 ⟨a5b,c5q,b3L,I9⟩
def b3M:FG 92 s92:=dQ f92 q92
def c4V:FG 50 s50:=dQ f50 q50 ⟨a5b,b3L,b3M,I9⟩
def c4W:FG 51 s51:=dQ f51 q51 ⟨a5c,I9⟩
def c4X:FG 52 s52:=dQ f52 q52 ⟨a5c,b3M,I9⟩
def c4z:FG 25 s25:=dQ f25 q25 ⟨b3D,c4T,c4V,c4W,c4X,a1a,I9⟩
def b3C:FG 12 s12:=dQ f12 q12 ⟨a1a,c4z,I9⟩
def c4n:FG 10 s10:=dQ f10 q10 ⟨b3D,b3C,I9⟩
def c4J:FG 37 s37:=dQ f37 q37
def c4K:FG 38 s38:=dQ f38 q38 ⟨Qg,b3I,I9⟩
def c4M:FG 39 s39:=dQ f39 q39 ⟨a5b,b3H,a5d,a5a,b3J,I9⟩
def c5j:FG 81 s81:=dQ f81 q81 ⟨a9U,I9⟩
def c4N:FG 41 s41:=dQ f41 q41 ⟨a5c,c5j,Yp,a5a,I9⟩
def c4r:FG 16 s16:=dQ f16 q16 ⟨c4J,c4K,c4M,a5a,c4N,I9⟩
theorem c4s:dD Go.Proofs.Tryz.prog gl 17 s17:=a1K Go.Proofs.Tryz.lays170
theorem c4t:dD Go.Proofs.Tryz.prog gl 18 s18:=WR b8c c5A
theorem c4u:dD Go.Proofs.Tryz.prog gl 19 s19:=YB b8c c5A b4i
theorem c4v:dD Go.Proofs.Tryz.prog gl 20 s20:=WQ Go.Proofs.Tryz.lays169 Go.Proofs.Tryz.Builder_Extra_169
def c5e:FG 7 s7:=dQ f7 q7 ⟨a1a,c4r,c4s,c4t,c4u,c4v,I9⟩
def c5m:FG 85 s85:=dQ f85 q85 ⟨Yp,I9⟩
def c5n:FG 86 s86:=dQ f86 q86
def c4R:FG 47 s47:=dQ f47 q47 ⟨c5m,c5n,I9⟩
def c4w:FG 22 s22:=dQ f22 q22 ⟨a1a,c4R,I9⟩
def c4x:FG 23 s23:=dQ f23 q23
def b0L:FG 358 a9F:=dQ f358 a8O
def a3k:FG 133 b2F:=dQ f133 b9a
def b0K:FG 356 b5r:=dQ f356 c1C
def a3u:FG 359 b2P:=dQ f359 c1F
theorem b8d:Ep Go.Proofs.Tryz.prog 225 "Less" 356 (some 226):=Og (by kernel_rfl)
theorem b4t:Ep Go.Proofs.Tryz.prog 225 "Swap" 359 (some 226):=Og (by kernel_rfl)
def b0j:FG 185 a9x:=dQ f185 a8G ⟨b0K,a3u,I9⟩ (hm:=⟨b8d,b4t,trivial⟩)
theorem b8e:Ep Go.Proofs.Tryz.prog 225 "Len" 133 (some 226):=Og (by kernel_rfl)
theorem c6b:Ep Go.Proofs.Tryz.prog 225 "Push" 358 none:=λv w=>show(method _ 225 v "Push").run _ w= .ok (358,v) w by kernel_rfl
def a9W:FG 132 a9m:=dQ f132 a8w ⟨b0L,a3k,b0j,I9⟩ (hm:=⟨b8e,c6b,trivial⟩)
def b0k:FG 186 a9y:=dQ f186 a8H ⟨b0K,a3u,I9⟩ (hm:=⟨b8d,b4t,trivial⟩)
def b7p:FG 357 c4k:=dQ f357 c1E
theorem c6c:Ep Go.Proofs.Tryz.prog 225 "Pop" 357 none:=λv w=>show(method _ 225 v "Pop").run _ w= .ok (357,v) w by kernel_rfl
def a9X:FG 134 a9n:=dQ f134 a8x ⟨a3k,a3u,b0k,b7p,I9⟩ (hm:=⟨b8e,c6c,b4t,trivial⟩)
def c5o:FG 87 s87:=dQ f87 q87 ⟨a9V,a9W,a3k,a9X,I9⟩
def a3o:FG 189 b2J:=dQ f189 b9I ⟨b0P,I9⟩
def a1d:FG 188 a2W:=dQ f188 a8J ⟨a3o,I9⟩
def b0l:FG 187 a9z:=dQ f187 a8I ⟨a1d,I9⟩
def b5G:FG 135 c2t:=dQ f135 b9b ⟨a1d,b0l,I9⟩
def b6g:FG 193 c2X:=dQ f193 b9M ⟨Rt,I9⟩
def Rx:FG 230 a2Y:=dQ f230 c0j
def b6s:FG 225 c3j:=dQ f225 c0e ⟨Rt,a3i,I9⟩
def b6t:FG 226 c3k:=dQ f226 c0f
def b6u:FG 227 c3l:=dQ f227 c0g ⟨Rx,I9⟩
def b0v:FG 250 b5c:=dQ f250 c0w ⟨Rx,I9⟩
def a3q:FG 289 b2L:=dQ f289 c0T
def b6G:FG 251 c3y:=dQ f251 c0x ⟨a3q,I9⟩
def b6H:FG 252 c3z:=dQ f252 c0y ⟨a3q,I9⟩
def b0w:FG 254 b5d:=dQ f254 c0A
def b6I:FG 253 c3A:=dQ f253 c0z ⟨b0w,a3q,I9⟩
def b6v:FG 228 c3n:=dQ f228 c0h ⟨Rx,b0v,b6G,b6H,b6I,b0w,I9⟩
def b6J:FG 255 c3B:=dQ f255 c0B ⟨b0v,Rx,I9⟩
def a1e:FG 290 a2Z:=dQ f290 a8M ⟨a3o,I9⟩
def b2S:FG 96 b3A:=dQ f96 b3t ⟨a1e,I9⟩
def b6K:FG 256 c3C:=dQ f256 c0C ⟨a1e,b2S,I9⟩
theorem ZQ:dD Go.Proofs.Tryz.prog gl 216 a9D:=a0k Go.Proofs.Tryz.bits_Mul64
def b6X:FG 275 c3R:=dQ f275 c0S
def b7l:FG 327 c4g:=dQ f327 c1q ⟨b6X,I9⟩
def a3r:FG 315 b2M:=dQ f315 c1h ⟨b7l,I9⟩
def b6Y:FG 291 c3S:=dQ f291 c0U ⟨ZQ,a3r,I9⟩
def a3s:FG 328 b2N:=dQ f328 c1r
def a3t:FG 329 b2O:=dQ f329 c1s
def b0F:FG 330 b5m:=dQ f330 c1t
def b0G:FG 331 b5n:=dQ f331 c1u
def b0H:FG 332 b5o:=dQ f332 c1w
def ZR:FG 316 a9E:=dQ f316 c1i ⟨a3s,a3t,b0F,b0G,b0H,I9⟩
def b6Z:FG 292 c3T:=dQ f292 c0V ⟨ZR,I9⟩
def b6L:FG 257 c3E:=dQ f257 c0D ⟨a3o,b6Y,b6Z,I9⟩
def b0A:FG 293 b5h:=dQ f293 c0W
def b6M:FG 258 c3F:=dQ f258 c0E ⟨b0A,a5f,I9⟩
def b7f:FG 317 c4a:=dQ f317 c1j ⟨ZQ,I9⟩
def b7m:FG 333 c4h:=dQ f333 c1x ⟨a3s,a3t,b0F,ZQ,a3r,b0G,b0H,I9⟩
def b7g:FG 318 c4b:=dQ f318 c1k ⟨b7m,I9⟩
def b0I:FG 334 b5p:=dQ f334 c1y
def b0J:FG 335 b5q:=dQ f335 c1z
def b7h:FG 319 c4c:=dQ f319 c1l ⟨b0I,b0J,ZR,I9⟩
def b7i:FG 320 c4d:=dQ f320 c1m ⟨a3s,a3t,ZR,I9⟩
def b7n:FG 336 c4i:=dQ f336 c1A
def b7j:FG 321 c4e:=dQ f321 c1n ⟨b0I,b0J,ZQ,a3r,b7n,I9⟩
def b7a:FG 294 c3V:=dQ f294 c0X ⟨b7f,b7g,b7h,b7i,ZR,b7j,I9⟩
def b0B:FG 295 b5i:=dQ f295 c0Y ⟨a5e,a5f,a3j,b0f,I9⟩
def b7b:FG 296 c3W:=dQ f296 c0Z ⟨a5e,a5f,b0B,I9⟩
def b6N:FG 259 c3G:=dQ f259 c0F ⟨b7a,b0A,b0B,b7b,I9⟩
def b6w:FG 229 c3o:=dQ f229 c0i ⟨b6J,b6K,b6L,b6M,b6N,I9⟩
def b6h:FG 195 c2Y:=dQ f195 b9N ⟨b6s,Rt,b6t,b6u,b6v,b6w,Rx,I9⟩
theorem b2U:∀n,dD P gl 224 ⟨a8n,[(true,(.dat (.prod (.int .i64) (.prod (.int .i64) (.int .i64))))),(false,(.dat (.int .i64)))],[],λx=>(L9 n).1 x.1 x.2⟩/\dD P gl 137 ⟨Ya,[(true,(.dat (.prod (.int .i64) (.prod (.int .i64) (.int .i64))))),(false,(.dat (.int .i64)))],[],λx=>(L9 n).2.1 x.1 x.2⟩/\dD P gl 194 ⟨a8m,[(true,(.dat (.prod (.int .i64) (.prod (.int .i64) (.int .i64))))),(false,(.dat (.int .i64)))],[],λx=>(L9 n).2.2 x.1 x.2.1 x.2.2⟩:=by
 intro n;induction n with
 |zero=>exact⟨(λw ok O vals x r _ _ _ _ _ _ h=>by cases h),(λw ok O vals x r _ _ _ _ _ _ h=>by cases h),(λw ok O vals x r _ _ _ _ _ _ h=>by cases h)⟩
 |succ n ih=>exact⟨dS f224 a8n c1P (c5W (L9 n).1 (L9 n).2.1 (L9 n).2.2) b7D (by kernel_rfl) rfl trivial ⟨ih.2.1,Rx,trivial⟩ trivial λx=>by kernel_rfl,
  dS f137 Ya b3x (c5R (L9 n).1 (L9 n).2.1 (L9 n).2.2) b7y (by kernel_rfl) rfl trivial ⟨b6g,ih.2.2,ih.2.1,b6h,trivial⟩ trivial λx=>by kernel_rfl,
  dS f194 a8m c1N (c5T (L9 n).1 (L9 n).2.1 (L9 n).2.2) b7B (by kernel_rfl) rfl trivial ⟨ih.1,ih.2.1,trivial⟩ trivial λx=>by kernel_rfl⟩
theorem b5I:dD P gl 137 c2w:=(b2U dZ).2.1
def b3K:FG 89 s89:=dQ f89 q89 ⟨a3h,b5I,I9⟩
def b6e:FG 190 c2V:=dQ f190 b9J
def b6F:FG 249 c3x:=dQ f249 c0u
def b6r:FG 223 c3i:=dQ f223 c0d ⟨b6F,I9⟩
def b0m:FG 192 b4V:=dQ f192 b9L ⟨b6r,I9⟩
def b6f:FG 191 c2W:=dQ f191 b9K ⟨b0m,I9⟩
def b5H:FG 136 c2u:=dQ f136 b9c ⟨b6e,b6f,b0m,I9⟩
def c5p:FG 88 s88:=dQ f88 q88 ⟨b5G,b3K,b5H,I9⟩
def c4S:FG 48 s48:=dQ f48 q48 ⟨c5o,c5p,b3K,I9⟩
def c4y:FG 24 s24:=dQ f24 q24 ⟨c4S,I9⟩
def c4o:FG 11 s11:=dQ f11 q11 ⟨c4w,c4x,c4y,I9⟩
def c6w:FG 5 s5:=dQ f5 q5 ⟨c6y,c5b,c4n,c5e,c4o,b3C,I9⟩
def c6u:FG 3 s3:=dQ f3 q3 ⟨c6v,c6w,c5b,c5e,I9⟩
end Gt
