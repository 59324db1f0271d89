import Derived.Test.YtnkflamioafojaaGreatDoorV3
import Derived.Test.YtnkflamioafojaaGreatDoorProg
import Derived.Test.YtnkflamioafojaaGreatDoorShelf
import Derived.Deep.QuietTactic
import Derived.BigQuiet
import Derived.Recover
set_option linter.all false
open Go Go.GP Go.Shelf Go.RowKit Go.Proofs Go.Proofs.Tryz
namespace Gt
set_option maxRecDepth 100000
noncomputable abbrev P:Program:=Go.Proofs.Tryz.prog
theorem a0h:a0g P tt=true:=by kernel_rfl
theorem Uh:∀t sh,bK eqs t=some sh->KE P t sh:=Zx (by kernel_rfl)
theorem dS{f:FuncId}(fn:Func)(ps:List MG)(rt:Ret)(E:Env)(an:Ann){F:V4 ps->Option rt.den}(h:(P.funcs[f]?,fn.body,fn.ntmps,fn.results.toList,Nat.ble (64*E.nt) 999936,WV P E.fs)=(some fn,some (Jg fn),E.nt,rt.rs.map (·.1),true,true))(ht:(E.tt,E.eqs)=(tt,eqs))(hm:Ze P E.ms)(hs:a5c P E.gl E.fs)(hp:Zf P E.pl)(hF:∀x,a4b E ps rt (Jg fn) an x=F x):
  aH P E.gl f ⟨ps,rt.rs.map (·.2),rt.outs.map (·.2),F⟩:=by
 injection h with h1 h;injection h with h2 h;injection h with h3 h;injection h with h4 h;injection h with h5 h6;injection ht with t1 t2;exact MO h1 h2 h3 h4 (Jn h5 (t1▸a0h) (t2▸Uh) h6 hm hs hp) λx r h=>(hF x).trans h
theorem b1X(b:Nat)(w:World)(h0:w.cell? ⟨b,0,none⟩=some (.pointer (some ⟨b,0,none⟩))):Calls Go.Proofs.Tryz.prog 55 #[.pointer (some ⟨b,0,none⟩)] w λe w' =>e= .returned (.tuple #[])/\w' =w:=by
 obtain⟨j,hj,_⟩:=dm.1 (show Option.map (λx=>x.size) (Go.Proofs.Tryz.prog.info? 90)=some 2 by kernel_rfl);have t56:=Go.Proofs.Tryz.underlying90;have a56:=Go.Proofs.Tryz.isAgg90;have z56:=Go.Proofs.Tryz.sizeOf90;have v56:=Go.Proofs.Tryz.zeroValue90;have u56:=run_underlying Go.Proofs.Tryz.underlying90;have t53:=Go.Proofs.Tryz.underlying87;have a53:=Go.Proofs.Tryz.isAgg87;have z53:=Go.Proofs.Tryz.sizeOf87;have v53:=Go.Proofs.Tryz.zeroValue87;have u53:=run_underlying Go.Proofs.Tryz.underlying87;have t4:=Go.Proofs.Tryz.underlying4;have a4:=Go.Proofs.Tryz.isAgg4;have z4:=Go.Proofs.Tryz.sizeOf4;have v4:=Go.Proofs.Tryz.zeroValue4;have u4:=run_underlying Go.Proofs.Tryz.underlying4;have t123:=Go.Proofs.Tryz.underlying186;have a123:=Go.Proofs.Tryz.isAgg186;have z123:=Go.Proofs.Tryz.sizeOf186;have v123:=Go.Proofs.Tryz.zeroValue186;have u123:=run_underlying Go.Proofs.Tryz.underlying186
 go_enter Go.Proofs.Tryz.func55,(show Go.Proofs.Tryz.f55.ntmps=20 by kernel_rfl)
 go_wp2
 rw[Lib.run_neq_ptr_same w _ Go.Proofs.Tryz.underlying87 hj]
 go_wp2
 go_end0
 exact⟨rfl,rfl⟩
theorem a9G(b:Nat)(w:World)(h0:w.cell? ⟨b,0,none⟩=some (.pointer none))(hsh:w.shape? b=some (90,2))(hfz:w.frozen? ⟨b,0,none⟩=false):Calls Go.Proofs.Tryz.prog 55 #[.pointer (some ⟨b,0,none⟩)] w λe w' =>e= .returned (.tuple #[])/\w' =w.setCell ⟨b,0,none⟩ (.pointer (some ⟨b,0,none⟩)):=by
 obtain⟨j,hj,hjs⟩:=dm.1 (show Option.map (λx=>x.size) (Go.Proofs.Tryz.prog.info? 90)=some 2 by kernel_rfl);have t56:=Go.Proofs.Tryz.underlying90;have a56:=Go.Proofs.Tryz.isAgg90;have z56:=Go.Proofs.Tryz.sizeOf90;have v56:=Go.Proofs.Tryz.zeroValue90;have u56:=run_underlying Go.Proofs.Tryz.underlying90;have t53:=Go.Proofs.Tryz.underlying87;have a53:=Go.Proofs.Tryz.isAgg87;have z53:=Go.Proofs.Tryz.sizeOf87;have v53:=Go.Proofs.Tryz.zeroValue87;have u53:=run_underlying Go.Proofs.Tryz.underlying87;have t4:=Go.Proofs.Tryz.underlying4;have a4:=Go.Proofs.Tryz.isAgg4;have z4:=Go.Proofs.Tryz.sizeOf4;have v4:=Go.Proofs.Tryz.zeroValue4;have u4:=run_underlying Go.Proofs.Tryz.underlying4;have t123:=Go.Proofs.Tryz.underlying186;have a123:=Go.Proofs.Tryz.isAgg186;have z123:=Go.Proofs.Tryz.sizeOf186;have v123:=Go.Proofs.Tryz.zeroValue186;have u123:=run_underlying Go.Proofs.Tryz.underlying186
 go_enter Go.Proofs.Tryz.func55,(show Go.Proofs.Tryz.f55.ntmps=20 by kernel_rfl)
 go_wp2
 rw[Lib.run_to_unsafe w ⟨b,0,none⟩ Go.Proofs.Tryz.underlying87 Go.Proofs.Tryz.underlying186 hj (by rw[hjs];decide) hsh (Nat.zero_lt_succ 1)];simp only[Result.andThen];rw[lF]
 go_wp2
 rw[run_callFunc_extern Go.Proofs.Tryz.func107 (by kernel_rfl) (by kernel_rfl) (by kernel_rfl) (e:=Extern.AbiNoEscape.same) (by kernel_rfl)];rw[Lib.run_noEscape];simp only[Result.andThen];rw[lF]
 go_wp2
 rw[Lib.run_from_unsafe w ⟨b,0,none⟩ Go.Proofs.Tryz.underlying186 Go.Proofs.Tryz.underlying87 hj hsh (by kernel_rfl)];simp only[Result.andThen];rw[lF]
 go_wp2
 go_end0
 exact⟨rfl,rfl⟩
def b0r:Go.Shelf.Ren:=⟨λ|166=>25|167=>26|240=>55|276=>107|n=>n,λ|72=>90|70=>87|37=>88|164=>186|75=>94|n=>n,λn=>n⟩
theorem b7b:Lw Go.Proofs.Tryz.prog b0r where
 mixed:=by kernel_rfl
 f166:=Go.Proofs.Tryz.func25.trans (congrArg some (by kernel_rfl))
 t72:=Go.Proofs.Tryz.underlying90
 a72:=Go.Proofs.Tryz.isAgg90
 z72:=Go.Proofs.Tryz.sizeOf90
 v72:=Go.Proofs.Tryz.zeroValue90
 t70:=Go.Proofs.Tryz.underlying87
 a70:=Go.Proofs.Tryz.isAgg87
 z70:=Go.Proofs.Tryz.sizeOf87
 v70:=Go.Proofs.Tryz.zeroValue87
 t37:=Go.Proofs.Tryz.underlying88
 a37:=Go.Proofs.Tryz.isAgg88
 z37:=Go.Proofs.Tryz.sizeOf88
 v37:=Go.Proofs.Tryz.zeroValue88
 t3:=Go.Proofs.Tryz.underlying3
 a3:=Go.Proofs.Tryz.isAgg3
 z3:=Go.Proofs.Tryz.sizeOf3
 v3:=Go.Proofs.Tryz.zeroValue3
 t9:=Go.Proofs.Tryz.underlying9
 a9:=Go.Proofs.Tryz.isAgg9
 z9:=Go.Proofs.Tryz.sizeOf9
 v9:=Go.Proofs.Tryz.zeroValue9
 t4:=Go.Proofs.Tryz.underlying4
 a4:=Go.Proofs.Tryz.isAgg4
 z4:=Go.Proofs.Tryz.sizeOf4
 v4:=Go.Proofs.Tryz.zeroValue4
 t164:=Go.Proofs.Tryz.underlying186
 a164:=Go.Proofs.Tryz.isAgg186
 z164:=Go.Proofs.Tryz.sizeOf186
 v164:=Go.Proofs.Tryz.zeroValue186
 e240:=enters_of Go.Proofs.Tryz.func55 (by kernel_rfl) rfl
 used:=b1X
 fresh:=a9G
theorem c7k:Go.Proofs.Builder.Extra Go.Proofs.Tryz.prog b0r where
 sizeBuilder:=by kernel_rfl
 liesBuilder:=by kernel_rfl
 t5:=Go.Proofs.Tryz.underlying5
 a5:=Go.Proofs.Tryz.isAgg5
 z5:=Go.Proofs.Tryz.sizeOf5
 v5:=Go.Proofs.Tryz.zeroValue5
 infoByte:=by kernel_rfl
 cellsByte:=by kernel_rfl
 sizeByte:=by kernel_rfl
 neB5:=by decide
theorem b1Y:Go.Proofs.Tryz.prog.funcs[b0r.f 167]? =some (Body.n167 b0r):=Go.Proofs.Tryz.func26.trans (congrArg some (by kernel_rfl))
theorem b2d(x y:Value)(w:World):CallsD Go.Proofs.Tryz.prog 63 #[x,y] .returning w λe u' w' =>e= .returned (.tuple #[])/\u' = .returning/\w' =w:=by
 have hr:Go.Proofs.Tryz.f63.results=#[]:=by kernel_rfl
 refine callsD_of_wpS Go.Proofs.Tryz.func63 rfl λc₀ cs hu=>?_;apply wpS_seq;apply wpS_region;simp[wpOpsS,go_sem,recoverD,hu,Exit.thenS];apply wpS_seq;apply wpS_seq;apply wpS_region;simp[wpOpsS,go_sem,Exit.thenS];refine wpS_cond (t:=true) (by simp[Act.eval,Array.replicate]) ?_;simp only[if_true];refine wpS_of_wp (wp_ret ?_);cases c₀;simp_all [bodyPostS,results,Exit.thenS]
theorem c7A:PlP Go.Proofs.Tryz.prog 63 2 0:=λcap hc=>by
 obtain⟨x,y,rfl⟩:∃x y,cap=#[x,y]:=by rcases cap with⟨_|⟨x,_|⟨y,_|⟨z,l⟩⟩⟩⟩<;>simp at hc;exact⟨x,y,rfl⟩
 refine⟨_,_,63,#[x,y],rfl,λw=>?_,λw=>(b2d x y w).mono ?_⟩
 .rfl
 .rintro e u' w' ⟨rfl,rfl,rfl⟩;exact⟨⟨_,rfl⟩,rfl,rfl⟩
theorem dQ{f:FuncId}(fn:Func)(q:FQ){F:V4 q.ps->Option q.rt.den}(hs:a5c P q.E.gl q.E.fs:=by exact trivial)(h:(P.funcs[f]?,fn.body,fn.ntmps,fn.results.toList,Nat.ble (64*q.E.nt) 999936,WV P q.E.fs)=(some fn,some (Jg fn),q.E.nt,q.rt.rs.map (·.1),true,true):=by kernel_rfl)(ht:(q.E.tt,q.E.eqs)=(tt,eqs):=by rfl)(hm:Ze P q.E.ms:=by exact trivial)(hp:Zf P q.E.pl:=by exact trivial)(hF:∀x,a4b q.E q.ps q.rt (Jg fn) q.an x=F x:=by intro x;kernel_rfl):
  aH P q.E.gl f ⟨q.ps,q.rt.rs.map (·.2),q.rt.outs.map (·.2),F⟩:=dS fn q.ps q.rt q.E q.an h ht hm hs hp hF
abbrev FG(n:FuncId)(s:FSpec):=aH P gl n s
def YM:FG 154 a7r:=dQ f154 b8g
def YN:FG 213 a7x:=dQ f213 b8W
def a8e:FG 155 b2y:=dQ f155 b8h ⟨YM,YN,E8⟩
def b3R:FG 156 c3i:=dQ f156 b8i
def OZ:FG 92 s92:=dQ f92 q92 ⟨YM,a8e,b3R,E8⟩
def N_:FG 158 a1A:=dQ f158 a6w
def a8r:FG 214 a7y:=dQ f214 a6D ⟨N_,E8⟩
def a8f:FG 157 a7s:=dQ f157 a6v ⟨a8r,E8⟩
def a9m:FG 93 s93:=dQ f93 q93 ⟨N_,a8f,E8⟩
def a1Z:FG 211 b0H:=dQ f211 b8U
def b3P:FG 149 c3g:=dQ f149 b8d ⟨a1Z,E8⟩
def c7d:FG 90 s90:=dQ f90 q90 ⟨OZ,a9m,b3P,E8⟩
def c6C:FG 47 s47:=dQ f47 q47 ⟨c7d,E8⟩
def ND:FG 150 H_:=dQ f150 b8e
def Qy:FG 106 a1x:=dQ f106 b7x ⟨ND,E8⟩
def a1R:FG 142 b0z:=dQ f142 b7X
def b5e:FG 289 c4z:=dQ f289 b9Y ⟨a1R,E8⟩
def b4s:FG 212 c3M:=dQ f212 b8V ⟨b5e,E8⟩
def b3Q:FG 153 c3h:=dQ f153 b8f ⟨b4s,E8⟩
def M_:FG 152 a1z:=dQ f152 a6u ⟨b3Q,E8⟩
def a8c:FG 151 a7p:=dQ f151 a6s ⟨M_,E8⟩
def c7e:FG 91 s91:=dQ f91 q91 ⟨ND,Qy,a1R,M_,a8c,E8⟩
def O_:FG 160 a1B:=dQ f160 a6y
def a8t:FG 215 a7A:=dQ f215 a6F ⟨O_,E8⟩
def a8g:FG 159 a7t:=dQ f159 a6x ⟨a8t,E8⟩
def b1K:FG 94 s94:=dQ f94 q94 ⟨O_,a8g,E8⟩
def c6D:FG 48 s48:=dQ f48 q48 ⟨c7e,OZ,a9m,b1K,E8⟩
def P_:FG 162 a1C:=dQ f162 a6A
def a8u:FG 216 a7B:=dQ f216 a6G ⟨P_,E8⟩
def a8h:FG 161 a7u:=dQ f161 a6z ⟨a8u,E8⟩
def Q_:FG 217 a1E:=dQ f217 a6H
def a8J:FG 290 a7I:=dQ f290 a6O ⟨Q_,E8⟩
def a8v:FG 218 a7C:=dQ f218 a6I ⟨a8J,E8⟩
def b3S:FG 163 c3j:=dQ f163 b8j ⟨Q_,OZ,a8v,ND,E8⟩
def b4t:FG 219 c3N:=dQ f219 b8X
def b3T:FG 164 c3k:=dQ f164 b8k ⟨b4t,E8⟩
def S_:FG 221 a1F:=dQ f221 a6K
def a8K:FG 291 a7J:=dQ f291 a6P ⟨S_,E8⟩
def a8w:FG 220 a7D:=dQ f220 a6J ⟨a8K,E8⟩
theorem b5f:aH Go.Proofs.Tryz.prog gl 292 c4A:=Sv Go.Proofs.Tryz.strings_Contains_one
def b4u:FG 222 c3O:=dQ f222 b8Y ⟨b5f,E8⟩
def QA:FG 172 a1D:=dQ f172 b8r
def a8x:FG 227 b2G:=dQ f227 b9c ⟨QA,E8⟩
def a1T:FG 171 b0B:=dQ f171 b8q
def b5V:FG 366 c5t:=dQ f366 c1e ⟨Qy,E8⟩
def b5W:FG 367 c5u:=dQ f367 c1f
def a8U:FG 368 b2Z:=dQ f368 c1g ⟨ND,E8⟩
def a8V:FG 371 b3a:=dQ f371 c1j
def b5X:FG 369 c5v:=dQ f369 c1h ⟨a8V,ND,E8⟩
def a8Z:FG 409 b3e:=dQ f409 c1G
def b5Y:FG 370 c5w:=dQ f370 c1i ⟨a8U,a8Z,E8⟩
def b6p:FG 410 c5P:=dQ f410 c1H
def b5Z:FG 372 c5x:=dQ f372 c1k ⟨a8Z,b6p,E8⟩
def b5B:FG 334 c4Z:=dQ f334 c0G ⟨b5V,b5W,a8U,b5X,b5Y,a8V,b5Z,E8⟩
def b5g:FG 293 c4B:=dQ f293 b9Z ⟨a8x,a1T,QA,b5B,E8⟩
def b4v:FG 223 c3P:=dQ f223 b8Z ⟨b5g,E8⟩
def b3U:FG 165 c3l:=dQ f165 b8l ⟨OZ,S_,a8w,b4u,b4v,E8⟩
theorem a8Q:aH Go.Proofs.Tryz.prog gl 324 b2V:=a2n Go.Proofs.Tryz.slices_Sort_int Go.Proofs.Tryz.slices_Sort_int_none
theorem a8R:aH Go.Proofs.Tryz.prog gl 325 b2W:=VV Go.Proofs.Tryz.slices_Compact_int Go.Proofs.Tryz.slices_Compact_int_empty
def b5L:FG 352 c5j:=dQ f352 c0R ⟨a8Q,a8R,E8⟩
def b5u:FG 323 c4R:=dQ f323 c0y ⟨b5L,E8⟩
def b4Y:FG 278 c4t:=dQ f278 b9R ⟨b5u,E8⟩
def b4Z:FG 279 c4u:=dQ f279 b9S ⟨a8Q,a8R,E8⟩
def a8o:FG 204 b2F:=dQ f204 b8Q ⟨b4Y,b4Z,E8⟩
def b4x:FG 225 c3R:=dQ f225 b9b
def b3W:FG 167 c3o:=dQ f167 b8n ⟨a8o,b4x,E8⟩
def b4w:FG 224 c3Q:=dQ f224 b9a
def b3V:FG 166 c3n:=dQ f166 b8m ⟨b4w,E8⟩
def c7f:FG 95 s95:=dQ f95 q95 ⟨a9m,b1K,P_,a8h,OZ,b3S,b3T,b3U,b3W,b3V,E8⟩
def c6E:FG 49 s49:=dQ f49 q49 ⟨c7f,E8⟩
def R_:FG 22 s22:=dQ f22 q22 ⟨c6C,c6D,c6E,E8⟩
def c6l:FG 19 s19:=dQ f19 q19
def c7U:FG 6 s6:=dQ f6 q6 ⟨c6l,E8⟩
def c7V:FG 7 s7:=dQ f7 q7
def c6m:FG 20 s20:=dQ f20 q20
def c6v:FG 30 s30:=dQ f30 q30
theorem c6O:aH Go.Proofs.Tryz.prog gl 64 s64:=XU Go.Proofs.Tryz.strings_Count_one
def NC:FG 128 G_:=dQ f128 b7O
def XD:FG 67 s67:=dQ f67 q67 ⟨NC,E8⟩
theorem a7Y:aH Go.Proofs.Tryz.prog gl 126 b2u:=a3Z (g:=0) Go.Proofs.Tryz.strings_Cut (by kernel_rfl)
def VB:FG 65 s65:=dQ f65 q65 ⟨XD,a7Y,E8⟩
def a1P:FG 127 b0x:=dQ f127 b7N ⟨VB,OZ,XD,E8⟩
def a3G:FG 97 s97:=dQ f97 q97
theorem c6y:aH Go.Proofs.Tryz.prog gl 37 s37:=DX (E:=⟨8,eqs,tt,gl,[],[],[],[],[],[],[]⟩) (f:=37) (fn:=Go.Proofs.Tryz.f37) (c:=Jg Go.Proofs.Tryz.f37) (t:=.str) (by kernel_rfl) (by kernel_rfl) (by kernel_rfl) (by kernel_rfl)
  (Jn (by kernel_rfl) a0h Uh (by kernel_rfl) trivial trivial trivial) (λb=>by cases b<;>kernel_rfl) (λxs=>by kernel_rfl)
def b1J:FG 88 s88:=dQ f88 q88 ⟨c6y,E8⟩
def b3X:FG 168 c3p:=dQ f168 b8o
def b1M:FG 98 s98:=dQ f98 q98 ⟨b1J,b3X,E8⟩
theorem a8L:aH Go.Proofs.Tryz.prog gl 297 b2Q:=SC Go.Proofs.Tryz.stringslite_HasPrefix
def b5F:FG 343 c5d:=dQ f343 c0K ⟨a8L,E8⟩
def b5p:FG 312 c4M:=dQ f312 c0o ⟨b5F,E8⟩
def b5q:FG 313 c4N:=dQ f313 c0p
def a8E:FG 269 b2N:=dQ f269 b9K ⟨b5p,b5q,E8⟩
def a1W:FG 197 b0E:=dQ f197 b8L ⟨a8E,E8⟩
def b3E:FG 129 c2V:=dQ f129 b7P ⟨VB,a1W,NC,XD,E8⟩
def b4T:FG 270 c4o:=dQ f270 b9L
def b4D:FG 237 c3Y:=dQ f237 b9m
def a1U:FG 175 b0C:=dQ f175 b8u ⟨b4D,E8⟩
def b4C:FG 236 c3X:=dQ f236 b9l
def a8i:FG 174 b2z:=dQ f174 b8t ⟨b4C,E8⟩
def a8F:FG 271 b2O:=dQ f271 b9M ⟨a1U,a8i,E8⟩
def a1X:FG 198 b0F:=dQ f198 b8M ⟨b4T,a8F,E8⟩
def a1Q:FG 130 b0y:=dQ f130 b7Q ⟨VB,a1X,NC,E8⟩
def b5r:FG 314 c4O:=dQ f314 c0q
theorem b4S:aH Go.Proofs.Tryz.prog gl 265 c4n:=SE Go.Proofs.Tryz.stringslite_IndexByte
def b5J:FG 347 c5h:=dQ f347 c0O ⟨b4S,E8⟩
def b5G:FG 344 c5e:=dQ f344 c0L ⟨a8e,E8⟩
def a2g:FG 385 b0O:=dQ f385 c1t ⟨YN,E8⟩
def b6h:FG 384 c5G:=dQ f384 c1s ⟨a2g,E8⟩
def a2b:FG 239 b0J:=dQ f239 b9n ⟨a8L,E8⟩
def b6i:FG 386 c5H:=dQ f386 c1u ⟨a2b,a2g,E8⟩
def a8M:FG 299 b2R:=dQ f299 c0c
def a8P:FG 322 b2U:=dQ f322 c0x ⟨a8M,a8E,E8⟩
def b6j:FG 387 c5I:=dQ f387 c1w ⟨a1X,a8P,a1W,E8⟩
def b5H:FG 345 c5f:=dQ f345 c0M ⟨b6h,a2g,b6i,a2b,YM,YN,b6j,E8⟩
theorem b6k:aH Go.Proofs.Tryz.prog gl 388 c5J:=Uy Go.Proofs.Tryz.strings_IndexAny_laid
def b5I:FG 346 c5g:=dQ f346 c0N ⟨b6k,E8⟩
def b5s:FG 315 c4P:=dQ f315 c0r ⟨YM,YN,b5J,b5G,b5H,b5I,a2b,E8⟩
def b4U:FG 272 c4p:=dQ f272 b9N ⟨b5r,b5s,E8⟩
def NF:FG 348 J_:=dQ f348 c0P
def YR:FG 316 a7L:=dQ f316 c0s ⟨NF,E8⟩
def a8W:FG 389 b3b:=dQ f389 c1x
def QC:FG 319 a1I:=dQ f319 c0u
def QB:FG 274 a1G:=dQ f274 b9O
def a8O:FG 318 b2T:=dQ f318 c0t ⟨YR,QB,E8⟩
def a9b:FG 421 b3g:=dQ f421 c1N ⟨a8O,E8⟩
def YP:FG 232 a7F:=dQ f232 b9h
def b6r:FG 422 c5R:=dQ f422 c1O ⟨YP,E8⟩
def a9c:FG 439 b3h:=dQ f439 c1Y ⟨NF,OZ,QB,a1Z,E8⟩
def a2a:FG 233 b0I:=dQ f233 b9i
def b6C:FG 453 c6d:=dQ f453 c2k ⟨a2a,E8⟩
def b6y:FG 440 c5Z:=dQ f440 c1Z ⟨NF,b6C,QB,E8⟩
def V_:FG 441 a1L:=dQ f441 a6R
def a8s:FG 214 a7z:=dQ f214 a6E ⟨V_,E8⟩
def b6s:FG 424 c5S:=dQ f424 c1P ⟨NF,OZ,QB,V_,a8s,a9c,QC,a1Z,E8⟩
def a8y:FG 235 b2H:=dQ f235 b9k
def b5K:FG 350 c5i:=dQ f350 c0Q ⟨a8y,E8⟩
theorem b1a:∀n,aH P gl 273 ⟨Xp,[(false,(.dat .bool))],[(true,(.pair (.dat (.sl (.prod (.int .i64) (.prod .str (.prod (.int .i64) (.int .i64)))))) (.pair (.dat (.int .i64)) (.pair (.dat (.int .i64)) (.pair (.dat (.prod (.sl (.prod .str (.sl .str))) (.prod (.sl .str) (.prod (.sl .str) (.prod (.sl .str) (.sl .str)))))) (.pair (.own (.prod (.int .i64) (.int .i64))) (.pair (.dat (.int .i64)) (.dat (.int .i64)))))))))],λx=>(x9 n).1 x⟩/\aH P gl 317 ⟨a3q,[(false,(.dat .bool))],[(true,(.pair (.dat (.sl (.prod (.int .i64) (.prod .str (.prod (.int .i64) (.int .i64)))))) (.pair (.dat (.int .i64)) (.pair (.dat (.int .i64)) (.pair (.dat (.prod (.sl (.prod .str (.sl .str))) (.prod (.sl .str) (.prod (.sl .str) (.prod (.sl .str) (.sl .str)))))) (.pair (.own (.prod (.int .i64) (.int .i64))) (.pair (.dat (.int .i64)) (.dat (.int .i64)))))))))],λx=>(x9 n).2.1 x.1 x.2⟩/\aH P gl 349 ⟨a3r,[(false,(.dat .bool))],[(true,(.pair (.dat (.sl (.prod (.int .i64) (.prod .str (.prod (.int .i64) (.int .i64)))))) (.pair (.dat (.int .i64)) (.pair (.dat (.int .i64)) (.pair (.dat (.prod (.sl (.prod .str (.sl .str))) (.prod (.sl .str) (.prod (.sl .str) (.prod (.sl .str) (.sl .str)))))) (.pair (.own (.prod (.int .i64) (.int .i64))) (.pair (.dat (.int .i64)) (.dat (.int .i64)))))))))],λx=>(x9 n).2.2.1 x⟩/\aH P gl 390 ⟨a6q,[(false,(.dat .bool))],[(true,(.pair (.dat (.sl (.prod (.int .i64) (.prod .str (.prod (.int .i64) (.int .i64)))))) (.pair (.dat (.int .i64)) (.pair (.dat (.int .i64)) (.pair (.dat (.prod (.sl (.prod .str (.sl .str))) (.prod (.sl .str) (.prod (.sl .str) (.prod (.sl .str) (.sl .str)))))) (.pair (.own (.prod (.int .i64) (.int .i64))) (.pair (.dat (.int .i64)) (.dat (.int .i64)))))))))],λx=>(x9 n).2.2.2.1 x⟩/\aH P gl 423 ⟨a6r,[(false,(.dat .bool))],[(true,(.pair (.dat (.sl (.prod (.int .i64) (.prod .str (.prod (.int .i64) (.int .i64)))))) (.pair (.dat (.int .i64)) (.pair (.dat (.int .i64)) (.pair (.dat (.prod (.sl (.prod .str (.sl .str))) (.prod (.sl .str) (.prod (.sl .str) (.prod (.sl .str) (.sl .str)))))) (.pair (.own (.prod (.int .i64) (.int .i64))) (.pair (.dat (.int .i64)) (.dat (.int .i64)))))))))],λx=>(x9 n).2.2.2.2 x.1 x.2⟩:=by
 intro n;induction n with
 |zero=>exact⟨(λw ok O vals x r _ _ _ _ _ _ h=>by cases h),(λw ok O vals x r _ _ _ _ _ _ h=>by cases h),(λw ok O vals x r _ _ _ _ _ _ h=>by cases h),(λw ok O vals x r _ _ _ _ _ _ h=>by cases h),(λw ok O vals x r _ _ _ _ _ _ h=>by cases h)⟩
 |succ n ih=>exact⟨dS f273 Xp b1D (c7r (x9 n).1 (x9 n).2.1 (x9 n).2.2.1 (x9 n).2.2.2.1 (x9 n).2.2.2.2) b6N (by kernel_rfl) rfl trivial ⟨YR,ih.2.1,ih.1,a8O,QC,trivial⟩ trivial λx=>by kernel_rfl,
  dS f317 a3q c2A (c7t (x9 n).1 (x9 n).2.1 (x9 n).2.2.1 (x9 n).2.2.2.1 (x9 n).2.2.2.2) b6P (by kernel_rfl) rfl trivial ⟨ih.2.2.1,NF,b5K,ih.2.1,QC,trivial⟩ trivial λx=>by kernel_rfl,
  dS f349 a3r c2C (c7v (x9 n).1 (x9 n).2.1 (x9 n).2.2.1 (x9 n).2.2.2.1 (x9 n).2.2.2.2) b6R (by kernel_rfl) rfl trivial ⟨YR,NF,a8W,QC,ih.2.2.1,ih.2.2.2.1,trivial⟩ trivial λx=>by kernel_rfl,
  dS f390 a6q c2E (c7w (x9 n).1 (x9 n).2.1 (x9 n).2.2.1 (x9 n).2.2.2.1 (x9 n).2.2.2.2) b6S (by kernel_rfl) rfl trivial ⟨NF,a8W,QC,YR,ih.1,a9b,QB,b6r,ih.2.2.2.2,b6s,trivial⟩ trivial λx=>by kernel_rfl,
  dS f423 a6r c2F (c7x (x9 n).1 (x9 n).2.1 (x9 n).2.2.1 (x9 n).2.2.2.1 (x9 n).2.2.2.2) b6T (by kernel_rfl) rfl trivial ⟨QC,a9c,a9b,ih.1,b6y,trivial⟩ trivial λx=>by kernel_rfl⟩
theorem b4V:aH P gl 273 c4q:=(b1a jg).1
def a1S:FG 170 b0A:=dQ f170 b8p ⟨a8x,E8⟩
def a8z:FG 241 b2I:=dQ f241 b9o ⟨Qy,E8⟩
theorem b3Y:aH Go.Proofs.Tryz.prog gl 169 c3q:=a0X (g:=2) Go.Proofs.Tryz.strconv_Itoa (by kernel_rfl) (by kernel_rfl)
def a3H:FG 99 s99:=dQ f99 q99 ⟨b3Y,E8⟩
theorem a8j:aH Go.Proofs.Tryz.prog gl 176 b2A:=YD Go.Proofs.Tryz.strings_Repeat
def b4E:FG 242 c3Z:=dQ f242 b9p ⟨a8M,a3H,a8j,E8⟩
def YH:FG 101 a7k:=dQ f101 b7s
def YI:FG 102 a7l:=dQ f102 b7t ⟨YH,a8i,a1U,E8⟩
def b3r:FG 103 c2G:=dQ f103 b7u ⟨a3H,a8j,E8⟩
def a3E:FG 53 s53:=dQ f53 q53 ⟨YH,YI,b3r,E8⟩
def a8k:FG 177 b2B:=dQ f177 b8v ⟨ND,a8z,a3H,b4E,a3E,E8⟩
def YO:FG 231 a7E:=dQ f231 b9g
def b4y:FG 228 c3S:=dQ f228 b9d ⟨a8k,YO,E8⟩
def b4z:FG 229 c3T:=dQ f229 b9e ⟨YP,YO,E8⟩
def b4A:FG 230 c3V:=dQ f230 b9f ⟨YP,a2a,YO,E8⟩
def b4B:FG 234 c3W:=dQ f234 b9j
def b3Z:FG 173 c3r:=dQ f173 b8s ⟨b4y,b4z,b4A,YO,YP,a2a,b4B,a8y,E8⟩
def a7W:FG 100 b2s:=dQ f100 b7r ⟨a1S,a1T,QA,b3Z,E8⟩
def b4n:FG 199 c3G:=dQ f199 b8N ⟨b4U,b4V,QB,a1S,a7W,E8⟩
def b3F:FG 131 c2W:=dQ f131 b7R ⟨b4n,NC,E8⟩
def b5t:FG 320 c4Q:=dQ f320 c0w
def b4W:FG 275 c4r:=dQ f275 b9P ⟨b5t,E8⟩
def a8n:FG 200 b2E:=dQ f200 b8O ⟨b4W,E8⟩
def b1L:FG 96 s96:=dQ f96 q96
def b3G:FG 132 c2X:=dQ f132 b7S ⟨a8n,b1L,XD,E8⟩
def c6P:FG 66 s66:=dQ f66 q66 ⟨a1P,a3G,NC,b1M,VB,XD,b3E,a1Q,a7Y,b3F,b3G,E8⟩
theorem b3H:aH Go.Proofs.Tryz.prog gl 133 c2Y:=Y_ (g:=0) Go.Proofs.Tryz.strings_Split (by kernel_rfl)
def c6Q:FG 68 s68:=dQ f68 q68 ⟨b3H,E8⟩
def c6R:FG 69 s69:=dQ f69 q69 ⟨a1P,VB,a1Q,E8⟩
def YJ:FG 104 a7m:=dQ f104 b7v
def b4X:FG 277 c4s:=dQ f277 b9Q ⟨a1W,a8P,a8n,a1X,E8⟩
def b4o:FG 202 c3H:=dQ f202 b8P ⟨ND,b4X,a8z,E8⟩
def b3I:FG 134 c2Z:=dQ f134 b7T ⟨b4o,NC,E8⟩
def c6S:FG 70 s70:=dQ f70 q70 ⟨a1P,YJ,NC,VB,a1Q,b3I,Qy,E8⟩
def c6w:FG 31 s31:=dQ f31 q31 ⟨c6O,VB,c6P,c6Q,XD,c6R,c6S,E8⟩ (hp:=⟨c7A,E8⟩)
def c6j:FG 11 s11:=dQ f11 q11 ⟨R_,c6v,c6w,E8⟩
theorem b3O:aH Go.Proofs.Tryz.prog gl 148 c3f:=DX (E:=⟨8,eqs,tt,gl,[],[],[],[],[],[],[]⟩) (f:=148) (fn:=Go.Proofs.Tryz.f148) (c:=Jg Go.Proofs.Tryz.f148) (t:=(.prod (.prod (.int .i64) (.int .i64)) (.prod (.int .i64) (.prod (.int .i64) (.int .i64))))) (by kernel_rfl) (by kernel_rfl) (by kernel_rfl) (by kernel_rfl)
  (Jn (by kernel_rfl) a0h Uh (by kernel_rfl) trivial trivial trivial) (λb=>by cases b<;>kernel_rfl) (λxs=>by kernel_rfl)
def c7b:FG 89 s89:=dQ f89 q89 ⟨b3O,E8⟩
theorem c6Y:aH Go.Proofs.Tryz.prog gl 84 s84:=DX (E:=⟨8,eqs,tt,gl,[],[],[],[],[],[],[]⟩) (f:=84) (fn:=Go.Proofs.Tryz.f84) (c:=Jg Go.Proofs.Tryz.f84) (t:=(.prod .str (.prod (.int .i64) (.int .i64)))) (by kernel_rfl) (by kernel_rfl) (by kernel_rfl) (by kernel_rfl)
  (Jn (by kernel_rfl) a0h Uh (by kernel_rfl) trivial trivial trivial) (λb=>by cases b<;>kernel_rfl) (λxs=>by kernel_rfl)
theorem c6X:aH Go.Proofs.Tryz.prog gl 83 s83:=DX (E:=⟨8,eqs,tt,gl,[],[],[],[],[],[],[]⟩) (f:=83) (fn:=Go.Proofs.Tryz.f83) (c:=Jg Go.Proofs.Tryz.f83) (t:=(.prod (.int .i64) (.int .i64))) (by kernel_rfl) (by kernel_rfl) (by kernel_rfl) (by kernel_rfl)
  (Jn (by kernel_rfl) a0h Uh (by kernel_rfl) trivial trivial trivial) (λb=>by cases b<;>kernel_rfl) (λxs=>by kernel_rfl)
def b1I:FG 46 s46:=dQ f46 q46 ⟨b1J,c7b,c6Y,c6X,E8⟩
def b3J:FG 135 c3a:=dQ f135 b7U
def a7Z:FG 136 b2v:=dQ f136 b7V
def c6T:FG 72 s72:=dQ f72 q72 ⟨a3G,b3J,a7Z,E8⟩
def a8a:FG 137 b2w:=dQ f137 b7W
def c6U:FG 73 s73:=dQ f73 q73 ⟨a3G,a7Z,a8a,E8⟩
def c6V:FG 74 s74:=dQ f74 q74 ⟨YJ,E8⟩
def c6W:FG 75 s75:=dQ f75 q75 ⟨YJ,a8a,E8⟩
def c6x:FG 33 s33:=dQ f33 q33 ⟨b1I,c6T,c6U,c6V,c6W,R_,E8⟩
def b1H:FG 14 s14:=dQ f14 q14 ⟨R_,c6x,E8⟩
def c6n:FG 21 s21:=dQ f21 q21 ⟨b1I,b1H,E8⟩
def c6F:FG 50 s50:=dQ f50 q50
def c6G:FG 51 s51:=dQ f51 q51 ⟨OZ,b1L,E8⟩
def c6H:FG 52 s52:=dQ f52 q52 ⟨a3G,b1M,a3H,a3E,a7W,E8⟩
def b3s:FG 105 c2H:=dQ f105 b7w ⟨a8k,E8⟩
def c6I:FG 54 s54:=dQ f54 q54 ⟨YJ,b3s,Qy,a3E,E8⟩
def c6o:FG 23 s23:=dQ f23 q23 ⟨c6F,c6G,c6H,a3E,c6I,E8⟩
theorem c6p:aH Go.Proofs.Tryz.prog gl 24 s24:=a0y Go.Proofs.Tryz.lays170
theorem c6q:aH Go.Proofs.Tryz.prog gl 25 s25:=VQ b7b c7k
theorem c6r:aH Go.Proofs.Tryz.prog gl 26 s26:=XM b7b c7k b1Y
theorem c6s:aH Go.Proofs.Tryz.prog gl 27 s27:=VP Go.Proofs.Tryz.lays169 Go.Proofs.Tryz.Builder_Extra_169
def c7c:FG 9 s9:=dQ f9 q9 ⟨R_,c6o,c6p,c6q,c6r,c6s,E8⟩
def b3K:FG 143 c3b:=dQ f143 b7Y ⟨Qy,E8⟩
def b3L:FG 144 c3c:=dQ f144 b7Z
def c6Z:FG 85 s85:=dQ f85 q85 ⟨b3K,b3L,E8⟩
def c6z:FG 40 s40:=dQ f40 q40 ⟨R_,c6Z,E8⟩
def c6A:FG 41 s41:=dQ f41 q41
def a9j:FG 474 a7N:=dQ f474 a6S
def a1Y:FG 206 b0G:=dQ f206 b8R
def a9i:FG 472 b3n:=dQ f472 c2l
def a2m:FG 475 b0U:=dQ f475 c2o
theorem b7c:BX Go.Proofs.Tryz.prog 268 "Less" 472 (some 269):=Nl (by kernel_rfl)
theorem b2i:BX Go.Proofs.Tryz.prog 268 "Swap" 475 (some 269):=Nl (by kernel_rfl)
def a8G:FG 280 a7G:=dQ f280 a6L ⟨a9i,a2m,E8⟩ (hm:=⟨b7c,b2i,trivial⟩)
theorem b7d:BX Go.Proofs.Tryz.prog 268 "Len" 206 (some 269):=Nl (by kernel_rfl)
theorem c7y:BX Go.Proofs.Tryz.prog 268 "Push" 474 none:=λv w=>show(method _ 268 v "Push").run _ w= .ok (474,v) w by kernel_rfl
def a8p:FG 205 a7v:=dQ f205 a6B ⟨a9j,a1Y,a8G,E8⟩ (hm:=⟨b7d,c7y,trivial⟩)
def a8H:FG 281 a7H:=dQ f281 a6M ⟨a9i,a2m,E8⟩ (hm:=⟨b7c,b2i,trivial⟩)
def b6D:FG 473 c6e:=dQ f473 c2n
theorem c7z:BX Go.Proofs.Tryz.prog 268 "Pop" 473 none:=λv w=>show(method _ 268 v "Pop").run _ w= .ok (473,v) w by kernel_rfl
def a8q:FG 207 a7w:=dQ f207 a6C ⟨a1Y,a2m,a8H,b6D,E8⟩ (hm:=⟨b7d,c7z,b2i,trivial⟩)
def b3M:FG 145 c3d:=dQ f145 b8a ⟨a8o,a8p,a1Y,a8q,E8⟩
def a9l:FG 79 s79:=dQ f79 q79 ⟨a1R,E8⟩
def T_:FG 282 a1H:=dQ f282 a6N ⟨a9l,E8⟩
def b0X:FG 81 b1E:=dQ f81 b1z ⟨T_,E8⟩
def b4p:FG 208 c3I:=dQ f208 b8S ⟨T_,b0X,E8⟩
def b5c:FG 286 c4x:=dQ f286 b9W ⟨QA,E8⟩
def QD:FG 333 a1J:=dQ f333 c0F
def b5w:FG 328 c4T:=dQ f328 c0A ⟨QA,a1T,E8⟩
def b5x:FG 329 c4V:=dQ f329 c0B
def b5y:FG 330 c4W:=dQ f330 c0C ⟨QD,E8⟩
def a8S:FG 356 b2X:=dQ f356 c0T ⟨QD,E8⟩
def a2h:FG 401 b0P:=dQ f401 c1y
def b5N:FG 357 c5l:=dQ f357 c0U ⟨a2h,E8⟩
def b5O:FG 358 c5m:=dQ f358 c0V ⟨a2h,E8⟩
def a8T:FG 360 b2Y:=dQ f360 c0X
def b5P:FG 359 c5n:=dQ f359 c0W ⟨a8T,a2h,E8⟩
def b5z:FG 331 c4X:=dQ f331 c0D ⟨QD,a8S,b5N,b5O,b5P,a8T,E8⟩
def b5Q:FG 361 c5o:=dQ f361 c0Y ⟨a8S,QD,E8⟩
def U_:FG 402 a1K:=dQ f402 a6Q ⟨a9l,E8⟩
def a8d:FG 151 a7q:=dQ f151 a6t ⟨U_,E8⟩
def b5R:FG 362 c5p:=dQ f362 c0Z ⟨U_,a8d,E8⟩
theorem YQ:aH Go.Proofs.Tryz.prog gl 296 a7K:=ZX Go.Proofs.Tryz.bits_Mul64
def b6a:FG 374 c5y:=dQ f374 c1l
def b6z:FG 443 c6a:=dQ f443 c2a ⟨b6a,E8⟩
def a2j:FG 431 b0R:=dQ f431 c1Q ⟨b6z,E8⟩
def b6l:FG 403 c5K:=dQ f403 c1z ⟨YQ,a2j,E8⟩
def a2k:FG 444 b0S:=dQ f444 c2b
def a2l:FG 445 b0T:=dQ f445 c2c
def a9d:FG 446 b3i:=dQ f446 c2d
def a9e:FG 447 b3j:=dQ f447 c2e
def a9f:FG 448 b3k:=dQ f448 c2f
def YS:FG 432 a7M:=dQ f432 c1R ⟨a2k,a2l,a9d,a9e,a9f,E8⟩
def b6m:FG 404 c5M:=dQ f404 c1A ⟨YS,E8⟩
def b5S:FG 363 c5q:=dQ f363 c1b ⟨a9l,b6l,b6m,E8⟩
def a8X:FG 405 b3c:=dQ f405 c1B
def b5T:FG 364 c5r:=dQ f364 c1c ⟨a8X,YI,E8⟩
def b6t:FG 433 c5T:=dQ f433 c1S ⟨YQ,E8⟩
def b6A:FG 449 c6b:=dQ f449 c2g ⟨a2k,a2l,a9d,YQ,a2j,a9e,a9f,E8⟩
def b6u:FG 434 c5V:=dQ f434 c1T ⟨b6A,E8⟩
def a9g:FG 450 b3l:=dQ f450 c2h
def a9h:FG 451 b3m:=dQ f451 c2i
def b6v:FG 435 c5W:=dQ f435 c1V ⟨a9g,a9h,YS,E8⟩
def b6w:FG 436 c5X:=dQ f436 c1W ⟨a2k,a2l,YS,E8⟩
def b6B:FG 452 c6c:=dQ f452 c2j
def b6x:FG 437 c5Y:=dQ f437 c1X ⟨a9g,a9h,YQ,a2j,b6B,E8⟩
def b6n:FG 406 c5N:=dQ f406 c1C ⟨b6t,b6u,b6v,b6w,YS,b6x,E8⟩
def a8Y:FG 407 b3d:=dQ f407 c1E ⟨YH,YI,a1U,a8F,E8⟩
def b6o:FG 408 c5O:=dQ f408 c1F ⟨YH,YI,a8Y,E8⟩
def b5U:FG 365 c5s:=dQ f365 c1d ⟨b6n,a8X,a8Y,b6o,E8⟩
def b5A:FG 332 c4Y:=dQ f332 c0E ⟨b5Q,b5R,b5S,b5T,b5U,E8⟩
def b5d:FG 288 c4y:=dQ f288 b9X ⟨b5w,QA,b5x,b5y,b5z,b5A,QD,E8⟩
theorem b1b:∀n,aH P gl 327 ⟨a6p,[(true,(.dat (.prod (.int .i64) (.prod (.int .i64) (.int .i64))))),(false,(.dat (.int .i64)))],[],λx=>(J5 n).1 x.1 x.2⟩/\aH P gl 210 ⟨Xo,[(true,(.dat (.prod (.int .i64) (.prod (.int .i64) (.int .i64))))),(false,(.dat (.int .i64)))],[],λx=>(J5 n).2.1 x.1 x.2⟩/\aH P gl 287 ⟨a6o,[(true,(.dat (.prod (.int .i64) (.prod (.int .i64) (.int .i64))))),(false,(.dat (.int .i64)))],[],λx=>(J5 n).2.2 x.1 x.2.1 x.2.2⟩:=by
 intro n;induction n with
 |zero=>exact⟨(λw ok O vals x r _ _ _ _ _ _ h=>by cases h),(λw ok O vals x r _ _ _ _ _ _ h=>by cases h),(λw ok O vals x r _ _ _ _ _ _ h=>by cases h)⟩
 |succ n ih=>exact⟨dS f327 a6p c2B (c7u (J5 n).1 (J5 n).2.1 (J5 n).2.2) b6Q (by kernel_rfl) rfl trivial ⟨ih.2.1,QD,trivial⟩ trivial λx=>by kernel_rfl,
  dS f210 Xo b1C (c7o (J5 n).1 (J5 n).2.1 (J5 n).2.2) b6K (by kernel_rfl) rfl trivial ⟨b5c,ih.2.2,ih.2.1,b5d,trivial⟩ trivial λx=>by kernel_rfl,
  dS f287 a6o c2z (c7s (J5 n).1 (J5 n).2.1 (J5 n).2.2) b6O (by kernel_rfl) rfl trivial ⟨ih.1,ih.2.1,trivial⟩ trivial λx=>by kernel_rfl⟩
theorem b4r:aH P gl 210 c3K:=(b1b jg).2.1
def a8b:FG 147 b2x:=dQ f147 b8c ⟨a1S,b4r,E8⟩
def b5a:FG 283 c4v:=dQ f283 b9T
def b5M:FG 355 c5k:=dQ f355 c0S
def b5v:FG 326 c4S:=dQ f326 c0z ⟨b5M,E8⟩
def a8I:FG 285 b2P:=dQ f285 b9V ⟨b5v,E8⟩
def b5b:FG 284 c4w:=dQ f284 b9U ⟨a8I,E8⟩
def b4q:FG 209 c3J:=dQ f209 b8T ⟨b5a,b5b,a8I,E8⟩
def b3N:FG 146 c3e:=dQ f146 b8b ⟨b4p,a8b,b4q,E8⟩
def c7a:FG 86 s86:=dQ f86 q86 ⟨b3M,b3N,a8b,E8⟩
def c6B:FG 42 s42:=dQ f42 q42 ⟨c7a,E8⟩
def c6k:FG 17 s17:=dQ f17 q17 ⟨c6z,c6A,c6B,E8⟩
def c7W:FG 8 s8:=dQ f8 q8 ⟨c6m,c6j,c6n,c7c,c6k,b1H,E8⟩
def a8l:FG 183 b2C:=dQ f183 b8B
def b4M:FG 252 c4h:=dQ f252 b9z
def b4e:FG 184 c3w:=dQ f184 b8C ⟨a8l,b4M,E8⟩
def b4f:FG 185 c3x:=dQ f185 b8D
def Qz:FG 111 a1y:=dQ f111 b7B ⟨a8l,b4e,b4f,E8⟩
def a1V:FG 178 b0D:=dQ f178 b8w
def b3t:FG 108 c2I:=dQ f108 b7y ⟨Qz,a1V,E8⟩
def NE:FG 187 I_:=dQ f187 b8F
def a2c:FG 246 b0K:=dQ f246 b9t
def YK:FG 115 a7n:=dQ f115 b7F ⟨NE,E8⟩
def a8N:FG 300 b2S:=dQ f300 c0d ⟨YK,E8⟩
def b4F:FG 243 c4a:=dQ f243 b9q ⟨a2c,a8N,E8⟩
def b5h:FG 301 c4C:=dQ f301 c0e ⟨a2c,E8⟩
def b4G:FG 244 c4b:=dQ f244 b9r ⟨b5h,E8⟩
def b4a:FG 179 c3s:=dQ f179 b8x ⟨NE,b4F,b4G,E8⟩
def b3u:FG 109 c2J:=dQ f109 b7z ⟨Qz,a1V,b4a,E8⟩
def b4H:FG 245 c4c:=dQ f245 b9s
def b4b:FG 180 c3t:=dQ f180 b8y ⟨Qz,b4H,NE,E8⟩
def b4I:FG 247 c4d:=dQ f247 b9u
def b5i:FG 302 c4E:=dQ f302 c0f
def b4J:FG 248 c4e:=dQ f248 b9v ⟨b5i,E8⟩
def a2f:FG 308 b0N:=dQ f308 c0l
def a2d:FG 256 b0L:=dQ f256 b9D ⟨a2f,E8⟩
def b6b:FG 378 c5z:=dQ f378 c1m
def VA:FG 413 a4Q:=dQ f413 c1I
def b6c:FG 379 c5A:=dQ f379 c1n ⟨VA,YK,E8⟩
def b6d:FG 380 c5B:=dQ f380 c1o
def a2i:FG 415 b0Q:=dQ f415 c1K
def a9a:FG 414 b3f:=dQ f414 c1J ⟨a2i,E8⟩
def b6e:FG 381 c5C:=dQ f381 c1p ⟨VA,NE,a9a,E8⟩
def b6f:FG 382 c5E:=dQ f382 c1q ⟨a2i,VA,NE,E8⟩
def b6q:FG 416 c5Q:=dQ f416 c1M ⟨VA,E8⟩
def b6g:FG 383 c5F:=dQ f383 c1r ⟨a2i,b6q,a9a,VA,E8⟩
def b5C:FG 340 c5a:=dQ f340 c0H ⟨b6b,b6c,b6d,b6e,b6f,b6g,E8⟩
def b5j:FG 303 c4F:=dQ f303 c0g ⟨a2d,a2f,b5C,E8⟩
def b4K:FG 249 c4f:=dQ f249 b9w ⟨b5j,E8⟩
def b4c:FG 181 c3u:=dQ f181 b8z ⟨Qz,a2c,b4I,b4J,b4K,E8⟩
def b5k:FG 304 c4G:=dQ f304 c0h
def b5D:FG 341 c5b:=dQ f341 c0I
def b5l:FG 305 c4H:=dQ f305 c0i ⟨b5D,E8⟩
def a8A:FG 251 b2J:=dQ f251 b9y
def b4L:FG 250 c4g:=dQ f250 b9x ⟨b5k,b5l,a8A,E8⟩
def b4d:FG 182 c3v:=dQ f182 b8A ⟨b4L,a8A,E8⟩
def b3v:FG 110 c2K:=dQ f110 b7A ⟨Qz,a1V,b4b,b4c,b4d,E8⟩
def c6J:FG 56 s56:=dQ f56 q56 ⟨b3t,b3u,b3v,E8⟩
def c6t:FG 28 s28:=dQ f28 q28 ⟨c6J,E8⟩
def a9k:FG 59 s59:=dQ f59 q59
def c6K:FG 57 s57:=dQ f57 q57 ⟨a9k,E8⟩
def b3w:FG 112 c2M:=dQ f112 b7C
def c6L:FG 58 s58:=dQ f58 q58 ⟨a9k,Qz,b3w,E8⟩
def b3x:FG 113 c2N:=dQ f113 b7D
def a8B:FG 253 b2K:=dQ f253 b9A
def b4N:FG 254 c4i:=dQ f254 b9B ⟨a8B,NE,a8N,E8⟩
theorem b0Y:∀n,aH P gl 189 ⟨a3o,[(false,(.dat .str))],[],λx=>(nY n) x⟩:=by
 intro n;induction n with
 |zero=>exact λw ok O vals x r _ _ _ _ _ _ h=>by cases h
 |succ n ih=>exact dS f189 a3o b1A (c7m (nY n)) b6I (by kernel_rfl) rfl trivial ⟨ih,trivial⟩ trivial λx=>by kernel_rfl
theorem b4h:aH P gl 189 c3z:=(b0Y jg)
def YL:FG 118 a7o:=dQ f118 b7I ⟨b4h,E8⟩
def b5m:FG 306 c4I:=dQ f306 c0j
def b5n:FG 307 c4J:=dQ f307 c0k
def b4O:FG 255 c4j:=dQ f255 b9C ⟨b5m,YL,b5n,E8⟩
def a7X:FG 120 b2t:=dQ f120 b7K
def a8D:FG 264 b2M:=dQ f264 b9J
def b4l:FG 193 c3E:=dQ f193 b8J ⟨a8D,E8⟩
def b4m:FG 194 c3F:=dQ f194 b8K ⟨a8D,E8⟩
def b3C:FG 121 c2S:=dQ f121 b7L ⟨a7X,b4l,b4m,E8⟩
def b3D:FG 122 c2T:=dQ f122 b7M ⟨YL,E8⟩
def a3F:FG 62 s62:=dQ f62 q62 ⟨a7X,b3C,b3D,E8⟩
def a8m:FG 186 b2D:=dQ f186 b8E ⟨a8B,NE,b4N,YL,b4O,a3F,E8⟩
def b3y:FG 114 c2O:=dQ f114 b7E ⟨a8m,E8⟩
def c6M:FG 60 s60:=dQ f60 q60 ⟨b3x,b3y,YK,a3F,E8⟩
def b3z:FG 116 c2P:=dQ f116 b7G
def b4g:FG 188 c3y:=dQ f188 b8G
def b3A:FG 117 c2Q:=dQ f117 b7H ⟨b4g,E8⟩
def b4i:FG 190 c3A:=dQ f190 b8H ⟨a2d,E8⟩
def a8C:FG 257 b2L:=dQ f257 b9E
def a2e:FG 258 b0M:=dQ f258 b9F
def b4j:FG 191 c3B:=dQ f191 b8I ⟨a8C,YK,a2e,E8⟩
def b4P:FG 259 c4k:=dQ f259 b9G ⟨a2d,a2f,E8⟩
def b4Q:FG 260 c4l:=dQ f260 b9H
def b4R:FG 262 c4m:=dQ f262 b9I
def b5E:FG 342 c5c:=dQ f342 c0J
def b5o:FG 309 c4K:=dQ f309 c0n ⟨b5E,E8⟩
theorem b0Z:∀n,aH P gl 192 ⟨o_,[(false,(.dat .str)),(false,(.dat (.int .i64)))],[(true,(.dat (.prod (.sl (.prod (.int .i64) (.int .i64))) (.prod (.sl (.prod .str (.sl .str))) (.prod (.sl .str) (.prod (.sl .str) (.prod (.sl .str) (.sl .str))))))))],λx=>(D5 n).1 x.1 x.2⟩/\aH P gl 263 ⟨a6n,[(false,(.dat .str))],[(true,(.dat (.prod (.sl (.prod (.int .i64) (.int .i64))) (.prod (.sl (.prod .str (.sl .str))) (.prod (.sl .str) (.prod (.sl .str) (.prod (.sl .str) (.sl .str))))))))],λx=>(D5 n).2.1 x.1 x.2.1 x.2.2⟩/\aH P gl 261 ⟨a3p,[(false,(.dat .str))],[(true,(.dat (.prod (.sl (.prod (.int .i64) (.int .i64))) (.prod (.sl (.prod .str (.sl .str))) (.prod (.sl .str) (.prod (.sl .str) (.prod (.sl .str) (.sl .str))))))))],λx=>(D5 n).2.2 x.1 x.2.1 x.2.2⟩:=by
 intro n;induction n with
 |zero=>exact⟨(λw ok O vals x r _ _ _ _ _ _ h=>by cases h),(λw ok O vals x r _ _ _ _ _ _ h=>by cases h),(λw ok O vals x r _ _ _ _ _ _ h=>by cases h)⟩
 |succ n ih=>exact⟨dS f192 o_ b1B (c7n (D5 n).1 (D5 n).2.1 (D5 n).2.2) b6J (by kernel_rfl) rfl trivial ⟨b4P,a8C,a8m,b4Q,ih.2.2,a2e,ih.1,b4R,ih.2.1,trivial⟩ trivial λx=>by kernel_rfl,
  dS f263 a6n c2y (c7q (D5 n).1 (D5 n).2.1 (D5 n).2.2) b6M (by kernel_rfl) rfl trivial ⟨a2e,ih.2.2,b5o,trivial⟩ trivial λx=>by kernel_rfl,
  dS f261 a3p c2x (c7p (D5 n).1 (D5 n).2.1 (D5 n).2.2) b6L (by kernel_rfl) rfl trivial ⟨ih.1,trivial⟩ trivial λx=>by kernel_rfl⟩
theorem b4k:aH P gl 192 c3C:=(b0Z jg).1
def b3B:FG 119 c2R:=dQ f119 b7J ⟨b4i,b4j,b4k,E8⟩
def c6N:FG 61 s61:=dQ f61 q61 ⟨b3z,b3A,YL,a3F,b3B,E8⟩
def c6u:FG 29 s29:=dQ f29 q29 ⟨c6K,c6L,a9k,c6M,c6N,a3F,E8⟩
def c6i:FG 10 s10:=dQ f10 q10 ⟨c6t,c6u,E8⟩
def c7T:FG 3 s3:=dQ f3 q3 ⟨c7U,c7V,c7W,c7c,c6i,E8⟩
end Gt
