import Derived.Test.YtmppebmaeckklaaGreatDoorV5
import Derived.Test.YtmppebmaeckklaaGreatDoorV3
import Derived.Test.YtmppebmaeckklaaGreatDoorProg
import Derived.Test.YtmppebmaeckklaaGreatDoorShelf
set_option linter.all false
open Go Go.GP Go.Shelf Go.RowKit Go.Proofs Go.Proofs.Tryz
namespace Gt
set_option maxRecDepth 100000
noncomputable abbrev P:Program:=Go.Proofs.Tryz.prog
theorem a2F:a2E P tt=true:=by kernel_rfl
theorem VA:∀t sh,dL eqs t=some sh->LK P t sh:=a0X (by kernel_rfl)
variable {f:FuncId}
theorem dS(fn:Func)(ps:List MG)(rt:Ret)(E:Env)(an:Ann){F:X4 ps->Option rt.den}(h:(P.funcs[f]?,fn.body,fn.ntmps,fn.results.toList,Nat.ble (64*E.nt) 999936,Sj P E.fs)=(some fn,some (FT fn),E.nt,rt.rs.map (·.1),true,true))(ht:(E.tt,E.eqs)=(tt,eqs))(hm:Ux P E.ms)(hs:a2K P E.gl E.fs)(hp:Uz P E.pl)(hF:∀x,a7f E ps rt (FT fn) an x=F x):
  dI P E.gl f ⟨ps,rt.rs.map (·.2),rt.outs.map (·.2),F⟩:=by
 injection h with h1 h;injection h with h2 h;injection h with h3 h;injection h with h4 h;injection h with h5 h6;injection ht with t1 t2;exact NQ h1 h2 h3 h4 (Kt h5 (t1▸a2F) (t2▸VA) h6 hm hs hp) λx r h=>(hF x).trans h
theorem dFS(fn:Func)(ps:List MG)(rt:Ret)(E:Env)(sa:SAnn){F:X4 ps->Option rt.den}(h:(P.funcs[f]?,fn.body,fn.ntmps,fn.results.toList,Nat.ble (64*E.nt) 999936,Sj P E.fs)=(some fn,some (FT fn),E.nt,rt.rs.map (·.1),true,true))(ht:(E.tt,E.eqs)=(tt,eqs))(hm:Ux P E.ms)(hs:a2K P E.gl E.fs)(hp:Uz P E.pl)(hN:XE P E.gl sa)(hF:∀x,Yw E ps rt (λr=>r) (FT fn) sa x=F x):
  dI P E.gl f ⟨ps,rt.rs.map (·.2),rt.outs.map (·.2),F⟩:=by
 injection h with h1 h;injection h with h2 h;injection h with h3 h;injection h with h4 h;injection h with h5 h6;injection ht with t1 t2;exact a0R h1 h2 h3 h4 (Kt h5 (t1▸a2F) (t2▸VA) h6 hm hs hp) hN λx r h=>(hF x).trans h
theorem dNS(fn:Func)(ps:List MG)(rt:Ret)(E:Env)(sa:SAnn){dom:X4 ps->rt.den->Prop}{F:X4 ps->Option Prop}(h:(P.funcs[f]?,fn.body,fn.ntmps,fn.results.toList,Nat.ble (64*E.nt) 999936,Sj P E.fs)=(some fn,some (FT fn),E.nt,rt.rs.map (·.1),true,true))(ht:(E.tt,E.eqs)=(tt,eqs))(hm:Ux P E.ms)(hs:a2K P E.gl E.fs)(hp:Uz P E.pl)(hN:XE P E.gl sa)(hF:∀x,Yw E ps rt (λr=>(dom x r:Prop)) (FT fn) sa x=F x)(hL:∀x,(∃r,dom x r)->F x=some True):
  Qq P E.gl f ⟨rt.den,ps,rt.rs.map (·.2),rt.outs.map (·.2),dom,λa _=>some a⟩:=by
 injection h with h1 h;injection h with h2 h;injection h with h3 h;injection h with h4 h;injection h with h5 h6;injection ht with t1 t2;exact a0S h1 h2 h3 h4 (Kt h5 (t1▸a2F) (t2▸VA) h6 hm hs hp) hN λx hx=>(hF x).trans (hL x hx)
instance:GlNe gl:=⟨by unfold gl;exact List.cons_ne_nil _ _⟩
theorem b6a(b:Nat)(w:World)(h0:w.cell? ⟨b,0,none⟩=some (.pointer (some ⟨b,0,none⟩))):Calls Go.Proofs.Tryz.prog 38 #[.pointer (some ⟨b,0,none⟩)] w λe w' =>e= .returned (.tuple #[])/\w' =w:=by
 obtain⟨j,hj,_⟩:=iG.1 (show Option.map (λx=>x.size) (Go.Proofs.Tryz.prog.info? 80)=some 2 by kernel_rfl);have t69:=Go.Proofs.Tryz.underlying80;have a69:=Go.Proofs.Tryz.isAgg80;have z69:=Go.Proofs.Tryz.sizeOf80;have v69:=Go.Proofs.Tryz.zeroValue80;have u69:=run_underlying Go.Proofs.Tryz.underlying80;have t66:=Go.Proofs.Tryz.underlying77;have a66:=Go.Proofs.Tryz.isAgg77;have z66:=Go.Proofs.Tryz.sizeOf77;have v66:=Go.Proofs.Tryz.zeroValue77;have u66:=run_underlying Go.Proofs.Tryz.underlying77;have t4:=Go.Proofs.Tryz.underlying4;have a4:=Go.Proofs.Tryz.isAgg4;have z4:=Go.Proofs.Tryz.sizeOf4;have v4:=Go.Proofs.Tryz.zeroValue4;have u4:=run_underlying Go.Proofs.Tryz.underlying4;have t132:=Go.Proofs.Tryz.underlying146;have a132:=Go.Proofs.Tryz.isAgg146;have z132:=Go.Proofs.Tryz.sizeOf146;have v132:=Go.Proofs.Tryz.zeroValue146;have u132:=run_underlying Go.Proofs.Tryz.underlying146
 go_enter Go.Proofs.Tryz.func38,(show Go.Proofs.Tryz.f38.ntmps=20 by kernel_rfl)
 go_wp2
 rw[Lib.run_neq_ptr_same w _ Go.Proofs.Tryz.underlying77 hj]
 go_wp2
 go_end0
 exact⟨rfl,rfl⟩
theorem b2A(b:Nat)(w:World)(h0:w.cell? ⟨b,0,none⟩=some (.pointer none))(hsh:w.shape? b=some (80,2))(hfz:w.frozen? ⟨b,0,none⟩=false):Calls Go.Proofs.Tryz.prog 38 #[.pointer (some ⟨b,0,none⟩)] w λe w' =>e= .returned (.tuple #[])/\w' =w.setCell ⟨b,0,none⟩ (.pointer (some ⟨b,0,none⟩)):=by
 obtain⟨j,hj,hjs⟩:=iG.1 (show Option.map (λx=>x.size) (Go.Proofs.Tryz.prog.info? 80)=some 2 by kernel_rfl);have t69:=Go.Proofs.Tryz.underlying80;have a69:=Go.Proofs.Tryz.isAgg80;have z69:=Go.Proofs.Tryz.sizeOf80;have v69:=Go.Proofs.Tryz.zeroValue80;have u69:=run_underlying Go.Proofs.Tryz.underlying80;have t66:=Go.Proofs.Tryz.underlying77;have a66:=Go.Proofs.Tryz.isAgg77;have z66:=Go.Proofs.Tryz.sizeOf77;have v66:=Go.Proofs.Tryz.zeroValue77;have u66:=run_underlying Go.Proofs.Tryz.underlying77;have t4:=Go.Proofs.Tryz.underlying4;have a4:=Go.Proofs.Tryz.isAgg4;have z4:=Go.Proofs.Tryz.sizeOf4;have v4:=Go.Proofs.Tryz.zeroValue4;have u4:=run_underlying Go.Proofs.Tryz.underlying4;have t132:=Go.Proofs.Tryz.underlying146;have a132:=Go.Proofs.Tryz.isAgg146;have z132:=Go.Proofs.Tryz.sizeOf146;have v132:=Go.Proofs.Tryz.zeroValue146;have u132:=run_underlying Go.Proofs.Tryz.underlying146
 go_enter Go.Proofs.Tryz.func38,(show Go.Proofs.Tryz.f38.ntmps=20 by kernel_rfl)
 go_wp2
 rw[Lib.run_to_unsafe w ⟨b,0,none⟩ Go.Proofs.Tryz.underlying77 Go.Proofs.Tryz.underlying146 hj (by rw[hjs];decide) hsh (Nat.zero_lt_succ 1)];simp only[Result.andThen];rw[cu]
 go_wp2
 rw[run_callFunc_extern Go.Proofs.Tryz.func66 (by kernel_rfl) (by kernel_rfl) (by kernel_rfl) (e:=Extern.AbiNoEscape.same) (by kernel_rfl)];rw[Lib.run_noEscape];simp only[Result.andThen];rw[cu]
 go_wp2
 rw[Lib.run_from_unsafe w ⟨b,0,none⟩ Go.Proofs.Tryz.underlying146 Go.Proofs.Tryz.underlying77 hj hsh (by kernel_rfl)];simp only[Result.andThen];rw[cu]
 go_wp2
 go_end0
 exact⟨rfl,rfl⟩
def c1r:Go.Shelf.Ren:=⟨λ|166=>18|240=>38|276=>66|n=>n,λ|72=>80|70=>77|37=>78|164=>146|75=>82|n=>n,λn=>n⟩
theorem c4M:Lw Go.Proofs.Tryz.prog c1r where
 mixed:=by kernel_rfl
 f166:=Go.Proofs.Tryz.func18.trans (congrArg some (by kernel_rfl))
 t72:=Go.Proofs.Tryz.underlying80
 a72:=Go.Proofs.Tryz.isAgg80
 z72:=Go.Proofs.Tryz.sizeOf80
 v72:=Go.Proofs.Tryz.zeroValue80
 t70:=Go.Proofs.Tryz.underlying77
 a70:=Go.Proofs.Tryz.isAgg77
 z70:=Go.Proofs.Tryz.sizeOf77
 v70:=Go.Proofs.Tryz.zeroValue77
 t37:=Go.Proofs.Tryz.underlying78
 a37:=Go.Proofs.Tryz.isAgg78
 z37:=Go.Proofs.Tryz.sizeOf78
 v37:=Go.Proofs.Tryz.zeroValue78
 t3:=Go.Proofs.Tryz.underlying3
 a3:=Go.Proofs.Tryz.isAgg3
 z3:=Go.Proofs.Tryz.sizeOf3
 v3:=Go.Proofs.Tryz.zeroValue3
 t9:=Go.Proofs.Tryz.underlying9
 a9:=Go.Proofs.Tryz.isAgg9
 z9:=Go.Proofs.Tryz.sizeOf9
 v9:=Go.Proofs.Tryz.zeroValue9
 t4:=Go.Proofs.Tryz.underlying4
 a4:=Go.Proofs.Tryz.isAgg4
 z4:=Go.Proofs.Tryz.sizeOf4
 v4:=Go.Proofs.Tryz.zeroValue4
 t164:=Go.Proofs.Tryz.underlying146
 a164:=Go.Proofs.Tryz.isAgg146
 z164:=Go.Proofs.Tryz.sizeOf146
 v164:=Go.Proofs.Tryz.zeroValue146
 e240:=enters_of Go.Proofs.Tryz.func38 (by kernel_rfl) rfl
 used:=b6a
 fresh:=b2A
theorem c5i:Go.Proofs.Builder.Extra Go.Proofs.Tryz.prog c1r where
 sizeBuilder:=by kernel_rfl
 liesBuilder:=by kernel_rfl
 t5:=Go.Proofs.Tryz.underlying5
 a5:=Go.Proofs.Tryz.isAgg5
 z5:=Go.Proofs.Tryz.sizeOf5
 v5:=Go.Proofs.Tryz.zeroValue5
 infoByte:=by kernel_rfl
 cellsByte:=by kernel_rfl
 sizeByte:=by kernel_rfl
 neB5:=by decide
theorem dQ(fn:Func)(q:FQ){F:X4 q.ps->Option q.rt.den}(hs:a2K P q.E.gl q.E.fs:=by exact trivial)(h:(P.funcs[f]?,fn.body,fn.ntmps,fn.results.toList,Nat.ble (64*q.E.nt) 999936,Sj P q.E.fs)=(some fn,some (FT fn),q.E.nt,q.rt.rs.map (·.1),true,true):=by kernel_rfl)(ht:(q.E.tt,q.E.eqs)=(tt,eqs):=by rfl)(hm:Ux P q.E.ms:=by exact trivial)(hp:Uz P q.E.pl:=by exact trivial)(hF:∀x,a7f q.E q.ps q.rt (FT fn) q.an x=F x:=by intro x;kernel_rfl):
  dI P q.E.gl f ⟨q.ps,q.rt.rs.map (·.2),q.rt.outs.map (·.2),F⟩:=dS fn q.ps q.rt q.E q.an h ht hm hs hp hF
abbrev FG(n:FuncId)(s:FSpec):=dI P gl n s
def a6B:FG 89 s89:=dQ f89 q89
def Y_:FG 119 b0J:=dQ f119 b9W
def b5E:FG 90 s90:=dQ f90 q90 ⟨a6B,Y_,N9⟩
def c4c:FG 91 s91:=dQ f91 q91
def Xj:FG 54 s54:=dQ f54 q54 ⟨a6B,b5E,c4c,N9⟩
def a6C:FG 93 b0V:=dQ f93 b4Z
def b1l:FG 120 b0K:=dQ f120 b0n ⟨a6C,N9⟩
def b3Z:FG 92 b5o:=dQ f92 b4Y ⟨b1l,N9⟩
def b1K:FG 55 s55:=dQ f55 q55 ⟨a6C,b3Z,N9⟩
def a4F:FG 117 b3M:=dQ f117 b9U
def c3Z:FG 83 s83:=dQ f83 q83 ⟨a4F,N9⟩
def c3F:FG 52 s52:=dQ f52 q52 ⟨Xj,b1K,c3Z,N9⟩
def c3p:FG 29 s29:=dQ f29 q29 ⟨c3F,N9⟩
def Zl:FG 84 s84:=dQ f84 q84
def b1O:FG 85 s85:=dQ f85 q85 ⟨Zl,N9⟩
def b1L:FG 58 s58:=dQ f58 q58
def b7P:FG 150 c2e:=dQ f150 c0s ⟨b1L,N9⟩
def b7z:FG 118 c1O:=dQ f118 b9V ⟨b7P,N9⟩
def c4a:FG 88 s88:=dQ f88 q88 ⟨b7z,N9⟩
def a6A:FG 87 b0U:=dQ f87 b4X ⟨c4a,N9⟩
def b3Y:FG 86 b5n:=dQ f86 b4W ⟨a6A,N9⟩
def c3G:FG 53 s53:=dQ f53 q53 ⟨Zl,b1O,b1L,a6A,b3Y,N9⟩
def a6D:FG 95 b0W:=dQ f95 b5b
def b1n:FG 121 b0M:=dQ f121 b0p ⟨a6D,N9⟩
def b4a:FG 94 b5p:=dQ f94 b5a ⟨b1n,N9⟩
def b5x:FG 56 s56:=dQ f56 q56 ⟨a6D,b4a,N9⟩
def c3q:FG 30 s30:=dQ f30 q30 ⟨c3G,Xj,b1K,b5x,N9⟩
def a6E:FG 97 b0X:=dQ f97 b5d
def b1o:FG 122 b0N:=dQ f122 b0q ⟨a6E,N9⟩
def b4b:FG 96 b5q:=dQ f96 b5c ⟨b1o,N9⟩
def a2o:FG 123 a4u:=dQ f123 b0r
def b1s:FG 151 b0R:=dQ f151 b0v ⟨a2o,N9⟩
def b1p:FG 124 b0O:=dQ f124 b0s ⟨b1s,N9⟩
def c4d:FG 98 s98:=dQ f98 q98 ⟨a2o,Xj,b1p,Zl,N9⟩
def b7A:FG 125 c1P:=dQ f125 b9X
def c4e:FG 99 s99:=dQ f99 q99 ⟨b7A,N9⟩
def a2p:FG 127 a4v:=dQ f127 b0u
def b1t:FG 152 b0S:=dQ f152 b0w ⟨a2p,N9⟩
def b1q:FG 126 b0P:=dQ f126 b0t ⟨b1t,N9⟩
theorem b5B:dI Go.Proofs.Tryz.prog gl 78 s78:=TC Go.Proofs.Tryz.strings_Contains_one
def b7B:FG 128 c1Q:=dQ f128 b9Y ⟨b5B,N9⟩
def b1I:FG 43 s43:=dQ f43 q43
def b5z:FG 68 s68:=dQ f68 q68 ⟨b1I,N9⟩
def b5v:FG 42 s42:=dQ f42 q42
def b8i:FG 207 c2A:=dQ f207 c0R ⟨b1O,N9⟩
def b8j:FG 208 c2B:=dQ f208 c0S
def b1C:FG 209 b7g:=dQ f209 c0T ⟨Zl,N9⟩
def b1D:FG 212 b7h:=dQ f212 c0W
def b8k:FG 210 c2C:=dQ f210 c0U ⟨b1D,Zl,N9⟩
def b1F:FG 234 b7j:=dQ f234 c1i
def b8l:FG 211 c2E:=dQ f211 c0V ⟨b1C,b1F,N9⟩
def b8v:FG 235 c2P:=dQ f235 c1j
def b8m:FG 213 c2F:=dQ f213 c0X ⟨b1F,b8v,N9⟩
def b8c:FG 184 c2t:=dQ f184 c0I ⟨b8i,b8j,b1C,b8k,b8l,b1D,b8m,N9⟩
def b7Q:FG 153 c2f:=dQ f153 c0t ⟨b5z,b5v,b1I,b8c,N9⟩
def b7C:FG 129 c1R:=dQ f129 b9Z ⟨b7Q,N9⟩
def b7p:FG 100 c1B:=dQ f100 b9K ⟨Xj,a2p,b1q,b7B,b7C,N9⟩
theorem b1x:dI Go.Proofs.Tryz.prog gl 186 b7b:=a4J Go.Proofs.Tryz.slices_Sort_int Go.Proofs.Tryz.slices_Sort_int_none
theorem b1y:dI Go.Proofs.Tryz.prog gl 187 b7c:=XK Go.Proofs.Tryz.slices_Compact_int Go.Proofs.Tryz.slices_Compact_int_empty
def b8n:FG 214 c2G:=dQ f214 c0Y ⟨b1x,b1y,N9⟩
def b8d:FG 185 c2u:=dQ f185 c0J ⟨b8n,N9⟩
def b7R:FG 154 c2g:=dQ f154 c0u ⟨b8d,N9⟩
def b7S:FG 155 c2h:=dQ f155 c0w ⟨b1x,b1y,N9⟩
def b7F:FG 132 c1V:=dQ f132 c0e ⟨b7R,b7S,N9⟩
def b7E:FG 131 c1T:=dQ f131 c0d
def b7r:FG 102 c1E:=dQ f102 b9M ⟨b7F,b7E,N9⟩
def b7D:FG 130 c1S:=dQ f130 c0c
def b7q:FG 101 c1C:=dQ f101 b9L ⟨b7D,N9⟩
def c3H:FG 57 s57:=dQ f57 q57 ⟨b1K,b5x,a6E,b4b,Xj,c4d,c4e,b7p,b7r,b7q,N9⟩
def c3r:FG 31 s31:=dQ f31 q31 ⟨c3H,N9⟩
def b1k:FG 12 s12:=dQ f12 q12 ⟨c3p,c3q,c3r,N9⟩
def c2Y:FG 10 s10:=dQ f10 q10
def c5b:FG 4 s4:=dQ f4 q4 ⟨c2Y,N9⟩
def c2Z:FG 11 s11:=dQ f11 q11
theorem c3f:dI Go.Proofs.Tryz.prog gl 18 s18:=XG c4M c5i
theorem c3O:dI Go.Proofs.Tryz.prog gl 67 s67:=RU (E:=⟨8,eqs,tt,gl,[],[],[],[],[],[],[]⟩) (f:=67) (fn:=Go.Proofs.Tryz.f67) (c:=FT Go.Proofs.Tryz.f67) (t:=.str) (by kernel_rfl) (by kernel_rfl) (by kernel_rfl) (by kernel_rfl)
  (Kt (by kernel_rfl) a2F VA (by kernel_rfl) trivial trivial trivial) (λb=>by cases b<;>kernel_rfl) (λxs=>by kernel_rfl)
def c3w:FG 39 s39:=dQ f39 q39 ⟨c3O,N9⟩
def c3x:FG 40 s40:=dQ f40 q40
def b5s:FG 19 s19:=dQ f19 q19 ⟨c3w,c3x,N9⟩
def b5u:FG 41 s41:=dQ f41 q41 ⟨b5z,N9⟩
def b7J:FG 139 c1Y:=dQ f139 c0i ⟨b1O,N9⟩
theorem b7T:dI Go.Proofs.Tryz.prog gl 166 c2i:=a3D (g:=2) Go.Proofs.Tryz.strconv_Itoa (by kernel_rfl) (by kernel_rfl)
def a4G:FG 140 b3N:=dQ f140 c0j ⟨b7T,N9⟩
def b1u:FG 167 b6Y:=dQ f167 c0x
theorem b1v:dI Go.Proofs.Tryz.prog gl 168 b6Z:=R_ Go.Proofs.Tryz.strings_Repeat
def b7K:FG 141 c1Z:=dQ f141 c0k ⟨b1u,a4G,b1v,N9⟩
def b1w:FG 169 b7a:=dQ f169 c0y
def b8o:FG 221 c2H:=dQ f221 c0Z
def b1z:FG 196 b7d:=dQ f196 c0K ⟨b8o,N9⟩
def b8p:FG 222 c2I:=dQ f222 c1b
def b1A:FG 197 b7e:=dQ f197 c0L ⟨b8p,N9⟩
def b7U:FG 170 c2j:=dQ f170 c0z ⟨b1w,b1z,b1A,N9⟩
def b7V:FG 171 c2k:=dQ f171 c0A ⟨a4G,b1v,N9⟩
def b7L:FG 142 c2a:=dQ f142 c0l ⟨b1w,b7U,b7V,N9⟩
def b7v:FG 110 c1J:=dQ f110 b9Q ⟨Zl,b7J,a4G,b7K,b7L,N9⟩
def a6y:FG 72 s72:=dQ f72 q72
def c3P:FG 69 s69:=dQ f69 q69 ⟨b7v,a6y,N9⟩
def a6z:FG 73 s73:=dQ f73 q73
def c3R:FG 70 s70:=dQ f70 q70 ⟨a6z,a6y,N9⟩
def b1N:FG 74 s74:=dQ f74 q74
def c3S:FG 71 s71:=dQ f71 q71 ⟨a6z,b1N,a6y,N9⟩
def c3T:FG 75 s75:=dQ f75 q75
def b5A:FG 76 s76:=dQ f76 q76
def c3y:FG 44 s44:=dQ f44 q44 ⟨c3P,c3R,c3S,a6y,a6z,b1N,c3T,b5A,N9⟩
def b5t:FG 20 s20:=dQ f20 q20 ⟨b5u,b5v,b1I,c3y,N9⟩
def b1M:FG 62 s62:=dQ f62 q62
def c3z:FG 45 s45:=dQ f45 q45 ⟨b1M,N9⟩
def c3A:FG 46 s46:=dQ f46 q46 ⟨b1M,N9⟩
def c3g:FG 21 s21:=dQ f21 q21 ⟨c3z,c3A,N9⟩
theorem c3h:dI Go.Proofs.Tryz.prog gl 22 s22:=a2W Go.Proofs.Tryz.lays170
theorem c3i:dI Go.Proofs.Tryz.prog gl 23 s23:=XF Go.Proofs.Tryz.lays169 Go.Proofs.Tryz.Builder_Extra_169
def c3Q:FG 7 s7:=dQ f7 q7 ⟨b1k,c3f,b5s,b5t,c3g,c3h,c3i,N9⟩
def c3j:FG 24 s24:=dQ f24 q24
theorem b1j:dI Go.Proofs.Tryz.prog gl 111 b6U:=TG Go.Proofs.Tryz.stringslite_HasPrefix
def c3V:FG 77 s77:=dQ f77 q77 ⟨b1j,N9⟩
def b1J:FG 47 s47:=dQ f47 q47 ⟨c3V,N9⟩
def b5w:FG 48 s48:=dQ f48 q48 ⟨b5B,N9⟩
theorem b7M:dI Go.Proofs.Tryz.prog gl 143 c2b:=l_ Go.Proofs.Tryz.stringslite_Index_one
def b7w:FG 113 c1K:=dQ f113 b9R ⟨b7M,N9⟩
def b5C:FG 79 s79:=dQ f79 q79 ⟨b7w,N9⟩
def b5D:FG 80 s80:=dQ f80 q80
def b7N:FG 144 c2c:=dQ f144 c0n
theorem b7W:dI Go.Proofs.Tryz.prog gl 172 c2l:=TJ Go.Proofs.Tryz.stringslite_IndexByte
def b8a:FG 180 c2r:=dQ f180 c0F ⟨b7W,N9⟩
def b7X:FG 176 c2n:=dQ f176 c0B ⟨b5E,N9⟩
def a4I:FG 201 b3P:=dQ f201 c0N ⟨Y_,N9⟩
def b8e:FG 200 c2w:=dQ f200 c0M ⟨a4I,N9⟩
def a4H:FG 179 b3O:=dQ f179 c0E ⟨b1j,N9⟩
def b8f:FG 202 c2x:=dQ f202 c0O ⟨a4H,a4I,N9⟩
def b8w:FG 250 c2Q:=dQ f250 c1k
def b8x:FG 251 c2R:=dQ f251 c1l ⟨b1A,b1z,N9⟩
def b8q:FG 223 c2J:=dQ f223 c1c ⟨b8w,b8x,N9⟩
def b8z:FG 264 c2T:=dQ f264 c1p
def b1G:FG 252 b7k:=dQ f252 c1m ⟨b1J,b8z,N9⟩
def b8r:FG 224 c2K:=dQ f224 c1d ⟨b1u,b1G,N9⟩
def b8s:FG 225 c2M:=dQ f225 c1e ⟨b1G,N9⟩
def b8g:FG 203 c2y:=dQ f203 c0P ⟨b8q,b8r,b8s,N9⟩
def b7Y:FG 177 c2o:=dQ f177 c0C ⟨b8e,a4I,b8f,a4H,a6B,Y_,b8g,N9⟩
theorem b8h:dI Go.Proofs.Tryz.prog gl 204 c2z:=VM Go.Proofs.Tryz.strings_IndexAny_laid
def b7Z:FG 178 c2p:=dQ f178 c0D ⟨b8h,N9⟩
def b7O:FG 145 c2d:=dQ f145 c0o ⟨a6B,Y_,b8a,b7X,b7Y,b7Z,a4H,N9⟩
def b7x:FG 114 c1M:=dQ f114 b9S ⟨b7N,b7O,N9⟩
def Oz:FG 181 a2k:=dQ f181 c0G
def Z_:FG 146 b0Q:=dQ f146 c0p ⟨Oz,N9⟩
def b1B:FG 205 b7f:=dQ f205 c0Q
def RH:FG 149 a4w:=dQ f149 c0r
def RG:FG 116 a4t:=dQ f116 b9T
def b1r:FG 148 b6X:=dQ f148 c0q ⟨Z_,RG,N9⟩
def b1E:FG 230 b7i:=dQ f230 c1f ⟨b1r,N9⟩
def b8t:FG 231 c2N:=dQ f231 c1g ⟨a6z,N9⟩
def b1H:FG 254 b7l:=dQ f254 c1n ⟨Oz,Xj,RG,a4F,N9⟩
def b8A:FG 265 c2V:=dQ f265 c1q ⟨b1N,N9⟩
def b8y:FG 255 c2S:=dQ f255 c1o ⟨Oz,b8A,RG,N9⟩
def a2q:FG 256 a4x:=dQ f256 b0x
def b1m:FG 120 b0L:=dQ f120 b0o ⟨a2q,N9⟩
def b8u:FG 233 c2O:=dQ f233 c1h ⟨Oz,Xj,RG,a2q,b1m,b1H,RH,a4F,N9⟩
def b8b:FG 183 c2s:=dQ f183 c0H ⟨b5A,N9⟩
theorem b4c:∀n,dI P gl 115 ⟨YZ,[(false,(.dat .bool))],[(true,(.pair (.dat (.sl (.prod (.int .i64) (.prod .str (.prod (.int .i64) (.int .i64)))))) (.pair (.dat (.int .i64)) (.pair (.dat (.int .i64)) (.pair (.dat (.prod (.sl (.prod .str (.sl .str))) (.prod (.sl .str) (.prod (.sl .str) (.prod (.sl .str) (.sl .str)))))) (.pair (.own (.prod (.int .i64) (.int .i64))) (.pair (.dat (.int .i64)) (.dat (.int .i64)))))))))],λx=>(o8 n).1 x⟩/\dI P gl 147 ⟨a6j,[(false,(.dat .bool))],[(true,(.pair (.dat (.sl (.prod (.int .i64) (.prod .str (.prod (.int .i64) (.int .i64)))))) (.pair (.dat (.int .i64)) (.pair (.dat (.int .i64)) (.pair (.dat (.prod (.sl (.prod .str (.sl .str))) (.prod (.sl .str) (.prod (.sl .str) (.prod (.sl .str) (.sl .str)))))) (.pair (.own (.prod (.int .i64) (.int .i64))) (.pair (.dat (.int .i64)) (.dat (.int .i64)))))))))],λx=>(o8 n).2.1 x.1 x.2⟩/\dI P gl 182 ⟨a6k,[(false,(.dat .bool))],[(true,(.pair (.dat (.sl (.prod (.int .i64) (.prod .str (.prod (.int .i64) (.int .i64)))))) (.pair (.dat (.int .i64)) (.pair (.dat (.int .i64)) (.pair (.dat (.prod (.sl (.prod .str (.sl .str))) (.prod (.sl .str) (.prod (.sl .str) (.prod (.sl .str) (.sl .str)))))) (.pair (.own (.prod (.int .i64) (.int .i64))) (.pair (.dat (.int .i64)) (.dat (.int .i64)))))))))],λx=>(o8 n).2.2.1 x⟩/\dI P gl 206 ⟨b0i,[(false,(.dat .bool))],[(true,(.pair (.dat (.sl (.prod (.int .i64) (.prod .str (.prod (.int .i64) (.int .i64)))))) (.pair (.dat (.int .i64)) (.pair (.dat (.int .i64)) (.pair (.dat (.prod (.sl (.prod .str (.sl .str))) (.prod (.sl .str) (.prod (.sl .str) (.prod (.sl .str) (.sl .str)))))) (.pair (.own (.prod (.int .i64) (.int .i64))) (.pair (.dat (.int .i64)) (.dat (.int .i64)))))))))],λx=>(o8 n).2.2.2.1 x⟩/\dI P gl 232 ⟨b0j,[(false,(.dat .bool))],[(true,(.pair (.dat (.sl (.prod (.int .i64) (.prod .str (.prod (.int .i64) (.int .i64)))))) (.pair (.dat (.int .i64)) (.pair (.dat (.int .i64)) (.pair (.dat (.prod (.sl (.prod .str (.sl .str))) (.prod (.sl .str) (.prod (.sl .str) (.prod (.sl .str) (.sl .str)))))) (.pair (.own (.prod (.int .i64) (.int .i64))) (.pair (.dat (.int .i64)) (.dat (.int .i64)))))))))],λx=>(o8 n).2.2.2.2 x.1 x.2⟩:=by
 intro n;induction n with
 |zero=>exact⟨(λw ok O vals x r _ _ _ _ _ _ h=>by cases h),(λw ok O vals x r _ _ _ _ _ _ h=>by cases h),(λw ok O vals x r _ _ _ _ _ _ h=>by cases h),(λw ok O vals x r _ _ _ _ _ _ h=>by cases h),(λw ok O vals x r _ _ _ _ _ _ h=>by cases h)⟩
 |succ n ih=>exact⟨dS f115 YZ b5i (c4F (o8 n).1 (o8 n).2.1 (o8 n).2.2.1 (o8 n).2.2.2.1 (o8 n).2.2.2.2) b8W (by kernel_rfl) rfl trivial ⟨Z_,ih.2.1,ih.1,b1r,RH,trivial⟩ trivial λx=>by kernel_rfl,
  dS f147 a6j c1t (c4G (o8 n).1 (o8 n).2.1 (o8 n).2.2.1 (o8 n).2.2.2.1 (o8 n).2.2.2.2) b8X (by kernel_rfl) rfl trivial ⟨ih.2.2.1,Oz,b8b,ih.2.1,RH,trivial⟩ trivial λx=>by kernel_rfl,
  dS f182 a6k c1u (c4H (o8 n).1 (o8 n).2.1 (o8 n).2.2.1 (o8 n).2.2.2.1 (o8 n).2.2.2.2) b8Y (by kernel_rfl) rfl trivial ⟨Z_,Oz,b1B,RH,ih.2.2.1,ih.2.2.2.1,trivial⟩ trivial λx=>by kernel_rfl,
  dS f206 b0i c1w (c4I (o8 n).1 (o8 n).2.1 (o8 n).2.2.1 (o8 n).2.2.2.1 (o8 n).2.2.2.2) b8Z (by kernel_rfl) rfl trivial ⟨Oz,b1B,RH,Z_,ih.1,b1E,RG,b8t,ih.2.2.2.2,b8u,trivial⟩ trivial λx=>by kernel_rfl,
  dS f232 b0j c1x (c4J (o8 n).1 (o8 n).2.1 (o8 n).2.2.1 (o8 n).2.2.2.1 (o8 n).2.2.2.2) b9a (by kernel_rfl) rfl trivial ⟨RH,b1H,b1E,ih.1,b8y,trivial⟩ trivial λx=>by kernel_rfl⟩
theorem b7y:dI P gl 115 c1N:=(b4c aT).1
def c3X:FG 81 s81:=dQ f81 q81 ⟨b7x,b7y,RG,b5u,b5t,N9⟩
def c3B:FG 49 s49:=dQ f49 q49 ⟨b5C,b5D,c3X,N9⟩
def c3Y:FG 82 s82:=dQ f82 q82
def c3C:FG 50 s50:=dQ f50 q50 ⟨b5C,b1J,b5w,c3Y,b5D,N9⟩
def c3k:FG 25 s25:=dQ f25 q25 ⟨b1J,b5w,c3B,c3C,N9⟩
def c3W:FG 8 s8:=dQ f8 q8 ⟨b1k,c3j,b5s,c3k,N9⟩
def c3E:FG 51 s51:=dQ f51 q51
def c3l:FG 26 s26:=dQ f26 q26 ⟨c3E,N9⟩
def c3n:FG 27 s27:=dQ f27 q27
def c3o:FG 28 s28:=dQ f28 q28
def c4b:FG 9 s9:=dQ f9 q9 ⟨c3l,c3n,c3o,N9⟩
def c5c:FG 5 s5:=dQ f5 q5 ⟨c2Z,c3Q,c3W,c4b,N9⟩
def c3s:FG 34 s34:=dQ f34 q34 ⟨b1L,N9⟩
def a6x:FG 33 b0T:=dQ f33 b4V ⟨c3s,N9⟩
def b3X:FG 32 b5m:=dQ f32 b4U ⟨a6x,N9⟩
def c3a:FG 13 s13:=dQ f13 q13 ⟨a6x,b3X,N9⟩
def c3t:FG 35 s35:=dQ f35 q35
def c3b:FG 14 s14:=dQ f14 q14 ⟨c3t,N9⟩
theorem c3c:dI Go.Proofs.Tryz.prog gl 15 s15:=RU (E:=⟨8,eqs,tt,gl,[],[],[],[],[],[],[]⟩) (f:=15) (fn:=Go.Proofs.Tryz.f15) (c:=FT Go.Proofs.Tryz.f15) (t:=(.prod (.int .i64) (.int .i64))) (by kernel_rfl) (by kernel_rfl) (by kernel_rfl) (by kernel_rfl)
  (Kt (by kernel_rfl) a2F VA (by kernel_rfl) trivial trivial trivial) (λb=>by cases b<;>kernel_rfl) (λxs=>by kernel_rfl)
def c3I:FG 59 s59:=dQ f59 q59
def b7G:FG 133 c1W:=dQ f133 c0f
def b7s:FG 103 c1F:=dQ f103 b9N ⟨b7G,N9⟩
def b5y:FG 61 s61:=dQ f61 q61 ⟨b7s,N9⟩
def c3J:FG 60 s60:=dQ f60 q60 ⟨b5y,N9⟩
def c3u:FG 36 s36:=dQ f36 q36 ⟨c3I,c3J,b5y,N9⟩
def c3d:FG 16 s16:=dQ f16 q16 ⟨c3u,N9⟩
theorem b7H:dI P gl 137 b6V:=dS f137 b4S b5k c5s c5l (by kernel_rfl) rfl trivial trivial trivial λx=>by kernel_rfl
theorem b7I:dI P gl 138 b6W:=dS f138 b4T b5l c5t c5m (by kernel_rfl) rfl trivial trivial trivial λx=>by kernel_rfl
theorem b7u:dI P gl 109 b3L:=dS f109 b4Q b5h c5r c5k (by kernel_rfl) rfl trivial ⟨b7H,b7I,trivial⟩ trivial λx=>by kernel_rfl
def b7t:FG 104 c1G:=dQ f104 b9O ⟨b7u,N9⟩
theorem c3K:Qq P gl 63 s63:=dNS f63 b9I b3K e63 c4B (F:=λx=>AO x.1 x.2) (by kernel_rfl) rfl trivial ⟨b7t,trivial⟩ trivial trivial (λx=>by kernel_rfl) λx hx=>b2t hx
theorem c4m:dI P [] 137 b6V:=dS f137 b4S b5k { c5s with gl:=[] } c5l (by kernel_rfl) rfl trivial trivial trivial λx=>by kernel_rfl
theorem c4n:dI P [] 138 b6W:=dS f138 b4T b5l { c5t with gl:=[] } c5m (by kernel_rfl) rfl trivial trivial trivial λx=>by kernel_rfl
theorem c4k:dI P [] 109 b3L:=dS f109 b4Q b5h { c5r with gl:=[] } c5k (by kernel_rfl) rfl trivial ⟨c4m,c4n,trivial⟩ trivial λx=>by kernel_rfl
theorem c4l:dI P [] 136 c1X:=dS f136 b4R b5j { c5x with gl:=[] } c5q (by kernel_rfl) rfl trivial trivial trivial λx=>by kernel_rfl
theorem c4j:dI P [] 108 c1I:=dS f108 b4P b5g { c5w with gl:=[] } c5p (by kernel_rfl) rfl trivial ⟨c4l,trivial⟩ trivial λx=>by kernel_rfl
theorem c4i:dI P [] 107 c1H:=dS f107 b4O b5f { c5v with gl:=[] } c5o (by kernel_rfl) rfl trivial trivial trivial λx=>by kernel_rfl
theorem c4h:dI P [] 106 c4Z:=dS f106 b4N b5e { c5u with gl:=[] } c5n (by kernel_rfl) rfl trivial ⟨c4k,c4j,c4i,trivial⟩ trivial λx=>by kernel_rfl
theorem b1i:dI P gl 105 b0I:=a1P (g:=106) Go.Proofs.Tryz.laysF6 (λw=>Go.Proofs.Tryz.isAgg61 w) (λw=>Go.Proofs.Tryz.sizeOf61 w) (Go.Proofs.enters_of Go.Proofs.Tryz.func106 (by kernel_rfl) rfl) c4h (λx y hx hy=>a3Z hx hy)
theorem c3M:dI P gl 64 s64:=dFS f64 b9J c1z e64 c4C (by kernel_rfl) rfl trivial ⟨b1i,trivial⟩ trivial trivial λx=>by kernel_rfl
def c3N:FG 65 s65:=dQ f65 q65
theorem c4N:XE P gl b9b:=show(Qq P gl 63 s63/\∃fn,P.funcs[63]? =some fn/\fn.body.isSome=true/\(fn.name== "runtime.NumGoroutine")=false)/\True from⟨⟨c3K,Go.Proofs.Tryz.f63,by kernel_rfl,by kernel_rfl,by kernel_rfl⟩,trivial⟩
theorem c3v:dI P gl 37 s37:=dFS f37 b9H c1y e37 b9b (by kernel_rfl) rfl trivial ⟨b1M,c3M,c3N,trivial⟩ trivial c4N λx=>by kernel_rfl
def c3e:FG 17 s17:=dQ f17 q17 ⟨c3v,N9⟩
def c5d:FG 6 s6:=dQ f6 q6 ⟨b1k,c3a,c3b,c3c,c3d,c3e,N9⟩
def c5a:FG 3 s3:=dQ f3 q3 ⟨c5b,c5c,c5d,c3Q,c3W,c4b,N9⟩
end Gt
