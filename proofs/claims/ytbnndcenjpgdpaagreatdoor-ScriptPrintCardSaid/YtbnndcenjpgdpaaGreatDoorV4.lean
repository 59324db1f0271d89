import Derived.Test.YtbnndcenjpgdpaaGreatDoorV3
import Derived.Test.YtbnndcenjpgdpaaGreatDoorProg
import Derived.Test.YtbnndcenjpgdpaaGreatDoorShelf
import Derived.Deep.QuietTactic
import Derived.BigQuiet
set_option linter.all false
open Go Go.GP Go.Shelf Go.RowKit Go.Proofs Go.Proofs.Tryz
namespace Gt
set_option maxRecDepth 100000
noncomputable abbrev P:Program:=Go.Proofs.Tryz.prog
theorem b5S:a2f P tt=true:=by kernel_rfl
theorem a8F:∀t sh,bZ eqs t=some sh->KE P t sh:=a0z (by kernel_rfl)
theorem dS{f:FuncId}(fn:Func)(ps:List MG)(rt:Ret)(E:Env)(an:Ann){F:Y3 ps->Option rt.den}(h:(P.funcs[f]?,fn.body,fn.ntmps,fn.results.toList,Nat.ble (64*E.nt) 999936,XZ P E.fs)=(some fn,some (Ut fn),E.nt,rt.rs.map (·.1),true,true))(ht:(E.tt,E.eqs)=(tt,eqs))(hm:S_ P E.ms)(hs:a7Y P E.gl E.fs)(hp:T_ P E.pl)(hF:∀x,a6E E ps rt (Ut fn) an x=F x):
  dK P E.gl f ⟨ps,rt.rs.map (·.2),rt.outs.map (·.2),F⟩:=by
 injection h with h1 h;injection h with h2 h;injection h with h3 h;injection h with h4 h;injection h with h5 h6;injection ht with t1 t2;exact MS h1 h2 h3 h4 (a0x h5 (t1▸b5S) (t2▸a8F) h6 hm hs hp) λx r h=>(hF x).trans h
instance:GlNe gl:=⟨by unfold gl;exact List.cons_ne_nil _ _⟩
theorem b6l(b o:Nat)(w:World)(h0:w.cell? ⟨b,o,none⟩=some (.pointer (some ⟨b,o,none⟩))):Calls Go.Proofs.Tryz.prog 28 #[.pointer (some ⟨b,o,none⟩)] w λe w' =>e= .returned (.tuple #[])/\w' =w:=by
 obtain⟨j,hj,_⟩:=wC.1 (show Option.map (λx=>x.size) (Go.Proofs.Tryz.prog.info? 52)=some 2 by kernel_rfl);have t56:=Go.Proofs.Tryz.underlying52;have a56:=Go.Proofs.Tryz.isAgg52;have z56:=Go.Proofs.Tryz.sizeOf52;have v56:=Go.Proofs.Tryz.zeroValue52;have u56:=run_underlying Go.Proofs.Tryz.underlying52;have t53:=Go.Proofs.Tryz.underlying49;have a53:=Go.Proofs.Tryz.isAgg49;have z53:=Go.Proofs.Tryz.sizeOf49;have v53:=Go.Proofs.Tryz.zeroValue49;have u53:=run_underlying Go.Proofs.Tryz.underlying49;have t4:=Go.Proofs.Tryz.underlying4;have a4:=Go.Proofs.Tryz.isAgg4;have z4:=Go.Proofs.Tryz.sizeOf4;have v4:=Go.Proofs.Tryz.zeroValue4;have u4:=run_underlying Go.Proofs.Tryz.underlying4;have t123:=Go.Proofs.Tryz.underlying108;have a123:=Go.Proofs.Tryz.isAgg108;have z123:=Go.Proofs.Tryz.sizeOf108;have v123:=Go.Proofs.Tryz.zeroValue108;have u123:=run_underlying Go.Proofs.Tryz.underlying108
 go_enter Go.Proofs.Tryz.func28,(show Go.Proofs.Tryz.f28.ntmps=20 by kernel_rfl)
 go_wp2
 rw[Lib.run_neq_ptr_same w _ Go.Proofs.Tryz.underlying49 hj]
 go_wp2
 go_end0
 exact⟨rfl,rfl⟩
theorem b2p(b o n tb:Nat)(hon:o<n)(hl:liesAt Go.Proofs.Tryz.prog Go.Proofs.Tryz.prog.depth tb (n / Go.Proofs.Tryz.prog.cellsOf tb) o 52 1=true)(w:World)(h0:w.cell? ⟨b,o,none⟩=some (.pointer none))(hsh:w.shape? b=some (tb,n))(hfz:w.frozen? ⟨b,o,none⟩=false):Calls Go.Proofs.Tryz.prog 28 #[.pointer (some ⟨b,o,none⟩)] w λe w' =>e= .returned (.tuple #[])/\w' =w.setCell ⟨b,o,none⟩ (.pointer (some ⟨b,o,none⟩)):=by
 obtain⟨j,hj,hjs⟩:=wC.1 (show Option.map (λx=>x.size) (Go.Proofs.Tryz.prog.info? 52)=some 2 by kernel_rfl);have t56:=Go.Proofs.Tryz.underlying52;have a56:=Go.Proofs.Tryz.isAgg52;have z56:=Go.Proofs.Tryz.sizeOf52;have v56:=Go.Proofs.Tryz.zeroValue52;have u56:=run_underlying Go.Proofs.Tryz.underlying52;have t53:=Go.Proofs.Tryz.underlying49;have a53:=Go.Proofs.Tryz.isAgg49;have z53:=Go.Proofs.Tryz.sizeOf49;have v53:=Go.Proofs.Tryz.zeroValue49;have u53:=run_underlying Go.Proofs.Tryz.underlying49;have t4:=Go.Proofs.Tryz.underlying4;have a4:=Go.Proofs.Tryz.isAgg4;have z4:=Go.Proofs.Tryz.sizeOf4;have v4:=Go.Proofs.Tryz.zeroValue4;have u4:=run_underlying Go.Proofs.Tryz.underlying4;have t123:=Go.Proofs.Tryz.underlying108;have a123:=Go.Proofs.Tryz.isAgg108;have z123:=Go.Proofs.Tryz.sizeOf108;have v123:=Go.Proofs.Tryz.zeroValue108;have u123:=run_underlying Go.Proofs.Tryz.underlying108
 go_enter Go.Proofs.Tryz.func28,(show Go.Proofs.Tryz.f28.ntmps=20 by kernel_rfl)
 go_wp2
 rw[Lib.run_to_unsafe w ⟨b,o,none⟩ Go.Proofs.Tryz.underlying49 Go.Proofs.Tryz.underlying108 hj (by rw[hjs];decide) hsh hon];simp only[Result.andThen];rw[kS]
 go_wp2
 rw[run_callFunc_extern Go.Proofs.Tryz.func47 (by kernel_rfl) (by kernel_rfl) (by kernel_rfl) (e:=Extern.AbiNoEscape.same) (by kernel_rfl)];rw[Lib.run_noEscape];simp only[Result.andThen];rw[kS]
 go_wp2
 rw[Lib.run_from_unsafe w ⟨b,o,none⟩ Go.Proofs.Tryz.underlying108 Go.Proofs.Tryz.underlying49 hj hsh hl];simp only[Result.andThen];rw[kS]
 go_wp2
 go_end0
 exact⟨rfl,rfl⟩
def a7D:Go.Shelf.Ren:=⟨λ|166=>10|167=>24|240=>28|276=>47|n=>n,λ|72=>52|70=>49|37=>50|164=>108|75=>54|n=>n,λn=>n⟩
theorem b9M(tb o:Nat)(hl:liesAt Go.Proofs.Tryz.prog Go.Proofs.Tryz.prog.depth tb ((o+2) / Go.Proofs.Tryz.prog.cellsOf tb) o 52 1=true):Lw Go.Proofs.Tryz.prog a7D tb o where
 mixed:=by kernel_rfl
 f166:=Go.Proofs.Tryz.func10.trans (congrArg some (by kernel_rfl))
 t72:=Go.Proofs.Tryz.underlying52
 a72:=Go.Proofs.Tryz.isAgg52
 z72:=Go.Proofs.Tryz.sizeOf52
 v72:=Go.Proofs.Tryz.zeroValue52
 t70:=Go.Proofs.Tryz.underlying49
 a70:=Go.Proofs.Tryz.isAgg49
 z70:=Go.Proofs.Tryz.sizeOf49
 v70:=Go.Proofs.Tryz.zeroValue49
 t37:=Go.Proofs.Tryz.underlying50
 a37:=Go.Proofs.Tryz.isAgg50
 z37:=Go.Proofs.Tryz.sizeOf50
 v37:=Go.Proofs.Tryz.zeroValue50
 t3:=Go.Proofs.Tryz.underlying3
 a3:=Go.Proofs.Tryz.isAgg3
 z3:=Go.Proofs.Tryz.sizeOf3
 v3:=Go.Proofs.Tryz.zeroValue3
 t9:=Go.Proofs.Tryz.underlying9
 a9:=Go.Proofs.Tryz.isAgg9
 z9:=Go.Proofs.Tryz.sizeOf9
 v9:=Go.Proofs.Tryz.zeroValue9
 t4:=Go.Proofs.Tryz.underlying4
 a4:=Go.Proofs.Tryz.isAgg4
 z4:=Go.Proofs.Tryz.sizeOf4
 v4:=Go.Proofs.Tryz.zeroValue4
 t164:=Go.Proofs.Tryz.underlying108
 a164:=Go.Proofs.Tryz.isAgg108
 z164:=Go.Proofs.Tryz.sizeOf108
 v164:=Go.Proofs.Tryz.zeroValue108
 e240:=enters_of Go.Proofs.Tryz.func28 (by kernel_rfl) rfl
 used:=λb w=>b6l b o w
 fresh:=λb w=>b2p b o (o+2) tb l9 hl w
theorem b9N:Lw Go.Proofs.Tryz.prog a7D 52 0:=b9M _ _ (by kernel_rfl)
theorem b4V:Lw Go.Proofs.Tryz.prog a7D 81 11:=b9M _ _ (by kernel_rfl)
theorem b4v:Go.Proofs.Builder.Extra Go.Proofs.Tryz.prog a7D where
 sizeBuilder:=by kernel_rfl
 liesBuilder:=by kernel_rfl
 t5:=Go.Proofs.Tryz.underlying5
 a5:=Go.Proofs.Tryz.isAgg5
 z5:=Go.Proofs.Tryz.sizeOf5
 v5:=Go.Proofs.Tryz.zeroValue5
 infoByte:=by kernel_rfl
 cellsByte:=by kernel_rfl
 sizeByte:=by kernel_rfl
 neB5:=by decide
theorem a8I:Go.Proofs.Tryz.prog.funcs[a7D.f 167]? =some (Body.n167 a7D):=Go.Proofs.Tryz.func24.trans (congrArg some (by kernel_rfl))
theorem b6Z(b:Nat)(w:World)(a v:Value)(h:ul w.heap 52 b [] a v):Calls Go.Proofs.Tryz.prog 21 #[.pointer (some ⟨b,0,none⟩)] w λe w' =>e= .returned (.tuple #[])/\w' =(w.setCell ⟨b,0,none⟩ (.pointer none)).setCell ⟨b,1,none⟩ (.slice none 0 0):=by
 have t56:=Go.Proofs.Tryz.underlying52;have a56:=Go.Proofs.Tryz.isAgg52;have z56:=Go.Proofs.Tryz.sizeOf52;have v56:=Go.Proofs.Tryz.zeroValue52;have u56:=run_underlying Go.Proofs.Tryz.underlying52;have t53:=Go.Proofs.Tryz.underlying49;have a53:=Go.Proofs.Tryz.isAgg49;have z53:=Go.Proofs.Tryz.sizeOf49;have v53:=Go.Proofs.Tryz.zeroValue49;have u53:=run_underlying Go.Proofs.Tryz.underlying49;have t54:=Go.Proofs.Tryz.underlying50;have a54:=Go.Proofs.Tryz.isAgg50;have z54:=Go.Proofs.Tryz.sizeOf50;have v54:=Go.Proofs.Tryz.zeroValue50;have u54:=run_underlying Go.Proofs.Tryz.underlying50;have c0:w.cell? ⟨b,0,none⟩=some a:=h.cell0;have c1:w.cell? ⟨b,1,none⟩=some v:=h.cell1;have f0:=h.frozen 0;have f1:=h.frozen 1;have d1:(w.setCell ⟨b,0,none⟩ (.pointer none)).cell? ⟨b,1,none⟩=some v:=(h.set0 (.pointer none)).cell1
 go_enter Go.Proofs.Tryz.func21,(show Go.Proofs.Tryz.f21.ntmps=8 by kernel_rfl)
 go_wp2
 go_end0
 exact⟨rfl,rfl⟩
theorem a0o{h:Array Obj}{blk off:Nat}{v:Value}(e:bW h blk off 1=some [v]):∃c T m,h[blk]? =some (.cells c T m)/\c[off]? =some v:=by
 unfold bW at e;split at e
 .rename_i c T m hc;split at e
  .rename_i hle;refine⟨c,T,m,hc,?_⟩;simp only[G6]at e;have h1:c.toList[off]? =some v:=by
    have:(c.toList.drop off)[0]? =some v:=by have:=congrArg (λl=>l[0]?) e;simpa[kR]using this
    simpa[dW]using this
   simpa using h1
  .cases e
 .cases e
theorem b6L(w:World)(x y:Value)(hp:MO w.heap x 2 5 0 y):Calls Go.Proofs.Tryz.prog 225 #[x] w λe w' =>e= .returned y/\∃n,w' =w.drewN n:=by
 obtain⟨blk,o,b,bo,n,c,rfl,e,h0,h1,rfl⟩:=hp;have hc:w.cell? ⟨blk,o+2,none⟩=some (.slice (some ⟨b,bo,none⟩) n c):=by obtain⟨cs,T,m,e1,e2⟩:=a0o e;simp[World.cell?,e1,e2]
 clear e;obtain⟨j,hj⟩:∃j:Nat,IntKind.i64.wrap ((n:Int) -1)=(j:Int):=⟨_,(fM h0).symm⟩;have e2:L6 .i64 (n:Int) 1=(j:Int):=hj;rw[e2]at h1;rw[e2,I9,jO];have hjn:j<n:=Int.ofNat_lt.1 h1;clear h0 h1 e2;have t3:=Go.Proofs.Tryz.underlying3;have a3:=Go.Proofs.Tryz.isAgg3;have z3:=Go.Proofs.Tryz.sizeOf3;have v3:=Go.Proofs.Tryz.zeroValue3;have u3:=run_underlying Go.Proofs.Tryz.underlying3;have t24:=Go.Proofs.Tryz.underlying24;have a24:=Go.Proofs.Tryz.isAgg24;have z24:=Go.Proofs.Tryz.sizeOf24;have v24:=Go.Proofs.Tryz.zeroValue24;have u24:=run_underlying Go.Proofs.Tryz.underlying24;have t26:=Go.Proofs.Tryz.underlying26;have a26:=Go.Proofs.Tryz.isAgg26;have z26:=Go.Proofs.Tryz.sizeOf26;have v26:=Go.Proofs.Tryz.zeroValue26;have u26:=run_underlying Go.Proofs.Tryz.underlying26;have t46:=Go.Proofs.Tryz.underlying46;have a46:=Go.Proofs.Tryz.isAgg46;have z46:=Go.Proofs.Tryz.sizeOf46;have v46:=Go.Proofs.Tryz.zeroValue46;have u46:=run_underlying Go.Proofs.Tryz.underlying46;have t266:=Go.Proofs.Tryz.underlying266;have a266:=Go.Proofs.Tryz.isAgg266;have z266:=Go.Proofs.Tryz.sizeOf266;have v266:=Go.Proofs.Tryz.zeroValue266;have u266:=run_underlying Go.Proofs.Tryz.underlying266;have t268:=Go.Proofs.Tryz.underlying268;have a268:=Go.Proofs.Tryz.isAgg268;have z268:=Go.Proofs.Tryz.sizeOf268;have v268:=Go.Proofs.Tryz.zeroValue268;have u268:=run_underlying Go.Proofs.Tryz.underlying268;have t363:=Go.Proofs.Tryz.underlying363;have a363:=Go.Proofs.Tryz.isAgg363;have z363:=Go.Proofs.Tryz.sizeOf363;have v363:=Go.Proofs.Tryz.zeroValue363;have u363:=run_underlying Go.Proofs.Tryz.underlying363
 go_enter Go.Proofs.Tryz.func225,(show Go.Proofs.Tryz.f225.ntmps=16 by kernel_rfl)
 go_wp2
 go_quiet (skip)
 go_wp2
 go_ret
 exact⟨rfl,nq,rfl⟩
theorem a1p:YR P 225 2 5:=⟨⟨_,Go.Proofs.Tryz.func225,by kernel_rfl,by kernel_rfl⟩,b6L⟩
theorem dQ{f:FuncId}(fn:Func)(q:FQ){F:Y3 q.ps->Option q.rt.den}(hs:a7Y P q.E.gl q.E.fs:=by exact trivial)(h:(P.funcs[f]?,fn.body,fn.ntmps,fn.results.toList,Nat.ble (64*q.E.nt) 999936,XZ P q.E.fs)=(some fn,some (Ut fn),q.E.nt,q.rt.rs.map (·.1),true,true):=by kernel_rfl)(ht:(q.E.tt,q.E.eqs)=(tt,eqs):=by rfl)(hm:S_ P q.E.ms:=by exact trivial)(hp:T_ P q.E.pl:=by exact trivial)(hF:∀x,a6E q.E q.ps q.rt (Ut fn) q.an x=F x:=by intro x;kernel_rfl):
  dK P q.E.gl f ⟨q.ps,q.rt.rs.map (·.2),q.rt.outs.map (·.2),F⟩:=dS fn q.ps q.rt q.E q.an h ht hm hs hp hF
abbrev FG(n:FuncId)(s:FSpec):=dK P gl n s
def a5X:FG 77 s77:=dQ f77 q77
def z_:FG 139 b0C:=dQ f139 c0r
def b5M:FG 78 s78:=dQ f78 q78 ⟨a5X,z_,J3⟩
def c4v:FG 79 s79:=dQ f79 q79
def WE:FG 43 s43:=dQ f43 q43 ⟨a5X,b5M,c4v,J3⟩
def a5Y:FG 81 b0O:=dQ f81 b5j
def b1c:FG 140 b0D:=dQ f140 a9T ⟨a5Y,J3⟩
def b4f:FG 80 b5w:=dQ f80 b5i ⟨b1c,J3⟩
def b1w:FG 44 s44:=dQ f44 q44 ⟨a5Y,b4f,J3⟩
def a4d:FG 137 b3M:=dQ f137 c0p
def c4t:FG 72 s72:=dQ f72 q72 ⟨a4d,J3⟩
def c4h:FG 41 s41:=dQ f41 q41 ⟨WE,b1w,c4t,J3⟩
def c4a:FG 25 s25:=dQ f25 q25 ⟨c4h,J3⟩
def WF:FG 48 s48:=dQ f48 q48
def a1S:FG 29 s29:=dQ f29 q29 ⟨WF,J3⟩
def b5L:FG 73 s73:=dQ f73 q73
def b7V:FG 206 c2N:=dQ f206 c0K ⟨b5L,J3⟩
def b7E:FG 138 c2t:=dQ f138 c0q ⟨b7V,J3⟩
def c4u:FG 76 s76:=dQ f76 q76 ⟨b7E,J3⟩
def a5W:FG 75 b0N:=dQ f75 b5h ⟨c4u,J3⟩
def b4e:FG 74 b5v:=dQ f74 b5g ⟨a5W,J3⟩
def c4i:FG 42 s42:=dQ f42 q42 ⟨WF,a1S,b5L,a5W,b4e,J3⟩
def a5Z:FG 83 b0P:=dQ f83 b5l
def b1e:FG 141 b0F:=dQ f141 a9V ⟨a5Z,J3⟩
def b4g:FG 82 b5x:=dQ f82 b5k ⟨b1e,J3⟩
def b5G:FG 45 s45:=dQ f45 q45 ⟨a5Z,b4g,J3⟩
def c4b:FG 26 s26:=dQ f26 q26 ⟨c4i,WE,b1w,b5G,J3⟩
def a6a:FG 85 b0Q:=dQ f85 b5n
def b1a:FG 120 b0A:=dQ f120 a9R ⟨a6a,J3⟩
def b4h:FG 84 b5y:=dQ f84 b5m ⟨b1a,J3⟩
def a1Q:FG 142 a3Q:=dQ f142 a9W
def b1b:FG 123 b0B:=dQ f123 a9S ⟨a1Q,J3⟩
def b1f:FG 143 b0G:=dQ f143 a9X ⟨b1b,J3⟩
def c4w:FG 86 s86:=dQ f86 q86 ⟨a1Q,WE,b1f,WF,J3⟩
def b7F:FG 144 c2u:=dQ f144 c0s
def c4x:FG 87 s87:=dQ f87 q87 ⟨b7F,J3⟩
def a1R:FG 146 a3R:=dQ f146 a9Z
def b1j:FG 207 b0J:=dQ f207 b0a ⟨a1R,J3⟩
def b1g:FG 145 b0H:=dQ f145 a9Y ⟨b1j,J3⟩
theorem b7W:dK Go.Proofs.Tryz.prog gl 208 c2O:=SX Go.Proofs.Tryz.strings_Contains_one
def b7G:FG 147 c2w:=dQ f147 c0t ⟨b7W,J3⟩
def b1A:FG 57 s57:=dQ f57 q57
def b5R:FG 97 s97:=dQ f97 q97 ⟨b1A,J3⟩
def b5K:FG 56 s56:=dQ f56 q56
def b8p:FG 355 c3i:=dQ f355 c1m ⟨a1S,J3⟩
def b8q:FG 356 c3j:=dQ f356 c1n
def b1r:FG 357 b7m:=dQ f357 c1o ⟨WF,J3⟩
def b1s:FG 360 b7n:=dQ f360 c1r
def b8r:FG 358 c3k:=dQ f358 c1p ⟨b1s,WF,J3⟩
def b1u:FG 422 b7p:=dQ f422 c1E
def b8s:FG 359 c3l:=dQ f359 c1q ⟨b1r,b1u,J3⟩
def b8D:FG 423 c3x:=dQ f423 c1F
def b8t:FG 361 c3n:=dQ f361 c1s ⟨b1u,b8D,J3⟩
def b8j:FG 288 c3c:=dQ f288 c0Y ⟨b8p,b8q,b1r,b8r,b8s,b1s,b8t,J3⟩
def b7X:FG 209 c2P:=dQ f209 c0L ⟨b5R,b5K,b1A,b8j,J3⟩
def b7H:FG 148 c2x:=dQ f148 c0u ⟨b7X,J3⟩
def c4y:FG 88 s88:=dQ f88 q88 ⟨WE,a1R,b1g,b7G,b7H,J3⟩
theorem b1i:dK Go.Proofs.Tryz.prog gl 168 b7g:=a4i Go.Proofs.Tryz.slices_Sort_int Go.Proofs.Tryz.slices_Sort_int_none
theorem b1m:dK Go.Proofs.Tryz.prog gl 290 b7h:=Xf Go.Proofs.Tryz.slices_Compact_int Go.Proofs.Tryz.slices_Compact_int_empty
def b8u:FG 362 c3o:=dQ f362 c1t ⟨b1i,b1m,J3⟩
def b8k:FG 289 c3d:=dQ f289 c0Z ⟨b8u,J3⟩
def b7Y:FG 210 c2Q:=dQ f210 c0M ⟨b8k,J3⟩
def b7Z:FG 211 c2R:=dQ f211 c0N ⟨b1i,b1m,J3⟩
def b7K:FG 151 c2A:=dQ f151 c0y ⟨b7Y,b7Z,J3⟩
def b7J:FG 150 c2z:=dQ f150 c0x
def c4B:FG 90 s90:=dQ f90 q90 ⟨b7K,b7J,J3⟩
def b7I:FG 149 c2y:=dQ f149 c0w
def c4z:FG 89 s89:=dQ f89 q89 ⟨b7I,J3⟩
def c4j:FG 46 s46:=dQ f46 q46 ⟨b1w,b5G,a6a,b4h,WE,c4w,c4x,c4y,c4B,c4z,J3⟩
def c4c:FG 27 s27:=dQ f27 q27 ⟨c4j,J3⟩
def c4A:FG 9 s9:=dQ f9 q9 ⟨c4a,c4b,c4c,J3⟩
def c5o:FG 8 s8:=dQ f8 q8
def c5m:FG 4 s4:=dQ f4 q4 ⟨c5o,J3⟩
def b5C:FG 18 s18:=dQ f18 q18
theorem b3Z:dK Go.Proofs.Tryz.prog gl 24 b5q:=RH b4V b4v a8I
theorem a5R:dK Go.Proofs.Tryz.prog gl 10 b0y:=OO b4V b4v
theorem c4n:dK Go.Proofs.Tryz.prog gl 54 s54:=a3e (g:=1) Go.Proofs.Tryz.strconv_Itoa (by kernel_rfl) (by kernel_rfl)
def a1T:FG 35 s35:=dQ f35 q35 ⟨c4n,J3⟩
def SC:FG 19 s19:=dQ f19 q19 ⟨b3Z,a5R,a1T,J3⟩
theorem b3Y:dK Go.Proofs.Tryz.prog gl 17 b5p:=Me Go.Proofs.Tryz.lays169 Go.Proofs.Tryz.Builder_Extra_169
theorem b5F:dK Go.Proofs.Tryz.prog gl 37 s37:=Tc Go.Proofs.Tryz.stringslite_HasPrefix
def a5U:FG 20 s20:=dQ f20 q20 ⟨b5F,J3⟩
theorem a5T:dK Go.Proofs.Tryz.prog gl 17 b0I:=Xa Go.Proofs.Tryz.lays169 Go.Proofs.Tryz.Builder_Extra_169
theorem c3X:dK Go.Proofs.Tryz.prog gl 21 s21:=Zb b6Z
def c3Z:FG 23 s23:=dQ f23 q23
theorem a4e:dK Go.Proofs.Tryz.prog gl 297 b3N:=a6C (g:=2) Go.Proofs.Tryz.strings_Cut (by kernel_rfl)
def yN:FG 219 LJ:=dQ f219 c0O ⟨a4e,J3⟩
def b8a:FG 220 c2S:=dQ f220 c0P ⟨yN,J3⟩
def a4f:FG 298 b3O:=dQ f298 c1b ⟨yN,J3⟩
def QU:FG 299 a3S:=dQ f299 c1c
def b8b:FG 221 c2T:=dQ f221 c0Q ⟨yN,a4f,QU,J3⟩
def b7S:FG 177 c2J:=dQ f177 c0H
def b7M:FG 154 c2C:=dQ f154 c0B
def b5P:FG 94 s94:=dQ f94 q94 ⟨b7M,J3⟩
def b7L:FG 153 c2B:=dQ f153 c0A
def b5O:FG 93 s93:=dQ f93 q93 ⟨b7L,J3⟩
def b7T:FG 178 c2K:=dQ f178 c0I ⟨b5P,b5O,J3⟩
def a4c:FG 125 b3L:=dQ f125 c0o ⟨b7S,b7T,J3⟩
def b1n:FG 300 b7i:=dQ f300 c1d ⟨yN,a4c,J3⟩
def b7R:FG 176 c2I:=dQ f176 c0G ⟨b5F,J3⟩
def b7D:FG 124 c2s:=dQ f124 c0n ⟨b7R,J3⟩
def b8G:FG 449 c3A:=dQ f449 c1M
def b1t:FG 406 b7o:=dQ f406 c1B ⟨b7D,b8G,J3⟩
def a4g:FG 334 b3P:=dQ f334 c1j ⟨b1t,J3⟩
def b1h:FG 152 b7f:=dQ f152 c0z
def b1q:FG 335 b7l:=dQ f335 c1k ⟨b1h,b1t,J3⟩
def b8H:FG 450 c3B:=dQ f450 c1N
def b8C:FG 407 c3w:=dQ f407 c1C ⟨b8H,J3⟩
def b8o:FG 336 c3h:=dQ f336 c1l ⟨b8C,J3⟩
def b8i:FG 251 c3b:=dQ f251 c0X ⟨a4g,b1q,b8o,a4c,J3⟩
def b5N:FG 91 s91:=dQ f91 q91 ⟨a1S,J3⟩
def b7U:FG 180 c2M:=dQ f180 c0J ⟨WF,b8i,b5N,J3⟩
def b8l:FG 301 c3e:=dQ f301 c1e ⟨yN,a1S,b7U,J3⟩
def b8c:FG 222 c2V:=dQ f222 c0R ⟨b1n,b8l,QU,J3⟩
def b8d:FG 223 c2W:=dQ f223 c0S ⟨yN,QU,J3⟩
def b8e:FG 224 c2X:=dQ f224 c0T ⟨yN,QU,J3⟩ (hp:=⟨a1p,J3⟩)
def b1k:FG 226 b0K:=dQ f226 b0b ⟨yN,a4f,QU,J3⟩
def b1l:FG 226 b0L:=dQ f226 b0c ⟨yN,a4f,QU,J3⟩
def b8v:FG 366 c3p:=dQ f366 c1u ⟨yN,J3⟩
def b8w:FG 367 c3q:=dQ f367 c1w ⟨yN,J3⟩ (hp:=⟨a1p,J3⟩)
def b8x:FG 368 c3r:=dQ f368 c1x ⟨yN,J3⟩ (hp:=⟨a1p,J3⟩)
def b8y:FG 369 c3s:=dQ f369 c1y ⟨yN,a4g,J3⟩
def b8m:FG 302 c3f:=dQ f302 c1f ⟨yN,b8v,b8w,b8x,b8y,b1n,J3⟩
theorem c4m:dK Go.Proofs.Tryz.prog gl 53 s53:=a0p (E:=⟨8,eqs,tt,gl,[],[],[],[],[],[],[]⟩) (f:=53) (fn:=Go.Proofs.Tryz.f53) (c:=Ut Go.Proofs.Tryz.f53) (t:=.str) (by kernel_rfl) (by kernel_rfl) (by kernel_rfl) (by kernel_rfl)
  (a0x (by kernel_rfl) b5S a8F (by kernel_rfl) trivial trivial trivial) (λb=>by cases b<;>kernel_rfl) (λxs=>by kernel_rfl)
def c4e:FG 33 s33:=dQ f33 q33 ⟨c4m,J3⟩
def c4f:FG 34 s34:=dQ f34 q34
def b5B:FG 14 s14:=dQ f14 q14 ⟨c4e,c4f,J3⟩
def b8E:FG 424 c3y:=dQ f424 c1G
theorem b8B:dK Go.Proofs.Tryz.prog gl 373 c3v:=Td Go.Proofs.Tryz.stringslite_IndexByte
def b1p:FG 305 b7k:=dQ f305 c1i ⟨b8B,J3⟩
def b8I:FG 456 c3C:=dQ f456 c1O ⟨b5M,J3⟩
def a4h:FG 482 b3Q:=dQ f482 c1V ⟨z_,J3⟩
def b8M:FG 481 c3H:=dQ f481 c1T ⟨a4h,J3⟩
def b8N:FG 483 c3I:=dQ f483 c1W ⟨a5U,a4h,J3⟩
def b8O:FG 484 c3J:=dQ f484 c1X ⟨a4c,b1q,a4g,J3⟩
def b8J:FG 457 c3E:=dQ f457 c1P ⟨b8M,a4h,b8N,a5U,a5X,z_,b8O,J3⟩
theorem b8P:dK Go.Proofs.Tryz.prog gl 485 c3K:=Vk Go.Proofs.Tryz.strings_IndexAny_laid
def b8K:FG 458 c3F:=dQ f458 c1Q ⟨b8P,J3⟩
def b8F:FG 425 c3z:=dQ f425 c1H ⟨a5X,z_,b1p,b8I,b8J,b8K,a5U,J3⟩
def b8z:FG 370 c3t:=dQ f370 c1z ⟨b8E,b8F,J3⟩
def NS:FG 459 a1J:=dQ f459 c1R
def A_:FG 426 b0M:=dQ f426 c1I ⟨NS,J3⟩
def b1x:FG 486 b7r:=dQ f486 c1Y
def QW:FG 429 a3U:=dQ f429 c1K
def QV:FG 372 a3T:=dQ f372 c1A
def b1v:FG 428 b7q:=dQ f428 c1J ⟨A_,QV,J3⟩
def b1y:FG 505 b7s:=dQ f505 c1Z ⟨b1v,J3⟩
def y_:FG 102 b0x:=dQ f102 c0f
def b8Q:FG 506 c3M:=dQ f506 c2a ⟨y_,J3⟩
def b1z:FG 511 b7t:=dQ f511 c2c ⟨NS,WE,QV,a4d,J3⟩
def a4b:FG 103 b3K:=dQ f103 c0g
def b8T:FG 514 c3P:=dQ f514 c2e ⟨a4b,J3⟩
def b8S:FG 512 c3O:=dQ f512 c2d ⟨NS,b8T,QV,J3⟩
def a1U:FG 513 a3V:=dQ f513 b0d
def b1d:FG 140 b0E:=dQ f140 a9U ⟨a1U,J3⟩
def b8R:FG 508 c3N:=dQ f508 c2b ⟨NS,WE,QV,a1U,b1d,b1z,QW,a4d,J3⟩
def b0Y:FG 105 b7e:=dQ f105 c0i
def b8L:FG 461 c3G:=dQ f461 c1S ⟨b0Y,J3⟩
theorem b4i:∀n,dK P gl 371 ⟨Yt,[(false,(.dat .bool))],[(true,(.pair (.dat (.sl (.prod (.int .i64) (.prod .str (.prod (.int .i64) (.int .i64)))))) (.pair (.dat (.int .i64)) (.pair (.dat (.int .i64)) (.pair (.dat (.prod (.sl (.prod .str (.sl .str))) (.prod (.sl .str) (.prod (.sl .str) (.prod (.sl .str) (.sl .str)))))) (.pair (.own (.prod (.int .i64) (.int .i64))) (.pair (.dat (.int .i64)) (.dat (.int .i64)))))))))],λx=>(o8 n).1 x⟩/\dK P gl 427 ⟨a5z,[(false,(.dat .bool))],[(true,(.pair (.dat (.sl (.prod (.int .i64) (.prod .str (.prod (.int .i64) (.int .i64)))))) (.pair (.dat (.int .i64)) (.pair (.dat (.int .i64)) (.pair (.dat (.prod (.sl (.prod .str (.sl .str))) (.prod (.sl .str) (.prod (.sl .str) (.prod (.sl .str) (.sl .str)))))) (.pair (.own (.prod (.int .i64) (.int .i64))) (.pair (.dat (.int .i64)) (.dat (.int .i64)))))))))],λx=>(o8 n).2.1 x.1 x.2⟩/\dK P gl 460 ⟨a5A,[(false,(.dat .bool))],[(true,(.pair (.dat (.sl (.prod (.int .i64) (.prod .str (.prod (.int .i64) (.int .i64)))))) (.pair (.dat (.int .i64)) (.pair (.dat (.int .i64)) (.pair (.dat (.prod (.sl (.prod .str (.sl .str))) (.prod (.sl .str) (.prod (.sl .str) (.prod (.sl .str) (.sl .str)))))) (.pair (.own (.prod (.int .i64) (.int .i64))) (.pair (.dat (.int .i64)) (.dat (.int .i64)))))))))],λx=>(o8 n).2.2.1 x⟩/\dK P gl 487 ⟨a9O,[(false,(.dat .bool))],[(true,(.pair (.dat (.sl (.prod (.int .i64) (.prod .str (.prod (.int .i64) (.int .i64)))))) (.pair (.dat (.int .i64)) (.pair (.dat (.int .i64)) (.pair (.dat (.prod (.sl (.prod .str (.sl .str))) (.prod (.sl .str) (.prod (.sl .str) (.prod (.sl .str) (.sl .str)))))) (.pair (.own (.prod (.int .i64) (.int .i64))) (.pair (.dat (.int .i64)) (.dat (.int .i64)))))))))],λx=>(o8 n).2.2.2.1 x⟩/\dK P gl 507 ⟨a9P,[(false,(.dat .bool))],[(true,(.pair (.dat (.sl (.prod (.int .i64) (.prod .str (.prod (.int .i64) (.int .i64)))))) (.pair (.dat (.int .i64)) (.pair (.dat (.int .i64)) (.pair (.dat (.prod (.sl (.prod .str (.sl .str))) (.prod (.sl .str) (.prod (.sl .str) (.prod (.sl .str) (.sl .str)))))) (.pair (.own (.prod (.int .i64) (.int .i64))) (.pair (.dat (.int .i64)) (.dat (.int .i64)))))))))],λx=>(o8 n).2.2.2.2 x.1 x.2⟩:=by
 intro n;induction n with
 |zero=>exact⟨(λw ok O vals x r _ _ _ _ _ _ h=>by cases h),(λw ok O vals x r _ _ _ _ _ _ h=>by cases h),(λw ok O vals x r _ _ _ _ _ _ h=>by cases h),(λw ok O vals x r _ _ _ _ _ _ h=>by cases h),(λw ok O vals x r _ _ _ _ _ _ h=>by cases h)⟩
 |succ n ih=>exact⟨dS f371 Yt b5o (c4V (o8 n).1 (o8 n).2.1 (o8 n).2.2.1 (o8 n).2.2.2.1 (o8 n).2.2.2.2) b9p (by kernel_rfl) rfl trivial ⟨A_,ih.2.1,ih.1,b1v,QW,trivial⟩ trivial λx=>by kernel_rfl,
  dS f427 a5z c2h (c4W (o8 n).1 (o8 n).2.1 (o8 n).2.2.1 (o8 n).2.2.2.1 (o8 n).2.2.2.2) b9q (by kernel_rfl) rfl trivial ⟨ih.2.2.1,NS,b8L,ih.2.1,QW,trivial⟩ trivial λx=>by kernel_rfl,
  dS f460 a5A c2i (c4X (o8 n).1 (o8 n).2.1 (o8 n).2.2.1 (o8 n).2.2.2.1 (o8 n).2.2.2.2) b9r (by kernel_rfl) rfl trivial ⟨A_,NS,b1x,QW,ih.2.2.1,ih.2.2.2.1,trivial⟩ trivial λx=>by kernel_rfl,
  dS f487 a9O c2j (c4Y (o8 n).1 (o8 n).2.1 (o8 n).2.2.1 (o8 n).2.2.2.1 (o8 n).2.2.2.2) b9s (by kernel_rfl) rfl trivial ⟨NS,b1x,QW,A_,ih.1,b1y,QV,b8Q,ih.2.2.2.2,b8R,trivial⟩ trivial λx=>by kernel_rfl,
  dS f507 a9P c2k (c4Z (o8 n).1 (o8 n).2.1 (o8 n).2.2.1 (o8 n).2.2.2.1 (o8 n).2.2.2.2) b9t (by kernel_rfl) rfl trivial ⟨QW,b1z,b1y,ih.1,b8S,trivial⟩ trivial λx=>by kernel_rfl⟩
theorem b8A:dK P gl 371 c3u:=(b4i au).1
def b5J:FG 55 s55:=dQ f55 q55 ⟨b5R,J3⟩
theorem b5Q:dK Go.Proofs.Tryz.prog gl 95 s95:=m_ Go.Proofs.Tryz.strings_Repeat
def c4C:FG 92 s92:=dQ f92 q92 ⟨b1h,a1T,b5Q,J3⟩
def b5I:FG 50 s50:=dQ f50 q50
def c4k:FG 51 s51:=dQ f51 q51 ⟨b5I,b5O,b5P,J3⟩
def c4l:FG 52 s52:=dQ f52 q52 ⟨a1T,b5Q,J3⟩
def a5V:FG 31 s31:=dQ f31 q31 ⟨b5I,c4k,c4l,J3⟩
def b5H:FG 49 s49:=dQ f49 q49 ⟨WF,b5N,a1T,c4C,a5V,J3⟩
def x_:FG 101 b0w:=dQ f101 c0e
def c4E:FG 98 s98:=dQ f98 q98 ⟨b5H,x_,J3⟩
def c4F:FG 99 s99:=dQ f99 q99 ⟨y_,x_,J3⟩
def b7y:FG 100 c2l:=dQ f100 c0d ⟨y_,a4b,x_,J3⟩
def b7z:FG 104 c2n:=dQ f104 c0h
def c4o:FG 58 s58:=dQ f58 q58 ⟨c4E,c4F,b7y,x_,y_,a4b,b7z,b0Y,J3⟩
def b5E:FG 36 s36:=dQ f36 q36 ⟨b5J,b5K,b1A,c4o,J3⟩
def b1o:FG 304 b7j:=dQ f304 c1h ⟨b8z,b8A,QV,b5J,b5E,J3⟩
def b8n:FG 303 c3g:=dQ f303 c1g ⟨a4e,b1o,J3⟩
def b8f:FG 227 c2Y:=dQ f227 c0U ⟨b8m,b5B,b8n,a4e,b1o,b1p,J3⟩ (hp:=⟨a1p,J3⟩)
def b7N:FG 158 c2E:=dQ f158 c0C ⟨yN,b8a,b8b,b8c,b8d,b8e,b1k,b1l,b8f,J3⟩ (hp:=⟨a1p,J3⟩)
def b7A:FG 106 c2o:=dQ f106 c0j ⟨b5C,b7N,c4A,J3⟩
def c4p:FG 59 s59:=dQ f59 q59 ⟨b7A,SC,J3⟩
def b0Z:FG 11 s11:=dQ f11 q11
theorem a5S:dK Go.Proofs.Tryz.prog gl 10 b0z:=Xb b9N b4v
def c3S:FG 12 s12:=dQ f12 q12
def c4d:FG 30 s30:=dQ f30 q30 ⟨b5H,J3⟩
def b5D:FG 32 s32:=dQ f32 q32 ⟨a5V,J3⟩
def c3T:FG 13 s13:=dQ f13 q13 ⟨a1S,c4d,a5V,b5D,b0Z,J3⟩
def c3V:FG 15 s15:=dQ f15 q15 ⟨a1T,a5V,b5D,b5E,b0Z,J3⟩
theorem c3W:dK Go.Proofs.Tryz.prog gl 16 s16:=a2y Go.Proofs.Tryz.lays170
def c4q:FG 6 s6:=dQ f6 q6 ⟨c4A,b0Z,a5S,c3S,c3T,b5B,c3V,c3W,a5T,J3⟩
def b4b:FG 60 b5s:=dQ f60 b5d ⟨SC,J3⟩
def b4c:FG 60 b5t:=dQ f60 b5e ⟨SC,J3⟩
def b4d:FG 60 b5u:=dQ f60 b5f ⟨SC,J3⟩
def b7O:FG 173 c2F:=dQ f173 c0D
def b7P:FG 174 c2G:=dQ f174 c0E
def b8g:FG 248 c2Z:=dQ f248 c0V
def b8h:FG 249 c3a:=dQ f249 c0W
def b7Q:FG 175 c2H:=dQ f175 c0F ⟨b8g,b8h,J3⟩
def b7B:FG 118 c2p:=dQ f118 c0k ⟨b7O,b7P,b7Q,J3⟩
def b7C:FG 119 c2r:=dQ f119 c0l
def c4r:FG 64 s64:=dQ f64 q64 ⟨b7B,SC,b7C,J3⟩
def c4g:FG 38 s38:=dQ f38 q38 ⟨c4p,SC,c4q,a5R,b4b,b4c,b4d,c4r,J3⟩
def c3Y:FG 22 s22:=dQ f22 q22 ⟨c4g,SC,J3⟩
theorem b4a:dK Go.Proofs.Tryz.prog gl 24 b5r:=YY b9N b4v a8I
def c4s:FG 7 s7:=dQ f7 q7 ⟨b5C,SC,b3Y,a5U,a5T,c3X,c3Z,c3Y,a5S,b4a,J3⟩
def c5n:FG 5 s5:=dQ f5 q5 ⟨c4s,J3⟩
def c5l:FG 3 s3:=dQ f3 q3 ⟨c5m,c5n,c4q,c4s,J3⟩
end Gt
