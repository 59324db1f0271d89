import Derived.Test.YtnkflamioafojaaGreatDoorU3
import Derived.Test.YtnkflamioafojaaGreatDoorProg
import Derived.Test.YtnkflamioafojaaGreatDoorShelf
import Derived.Deep.QuietTactic
import Derived.BigQuiet
import Derived.Recover
set_option linter.all false
open Go Go.GP Go.Shelf Go.RowKit Go.Proofs Go.Proofs.Tryz
namespace Gt
set_option maxRecDepth 100000
noncomputable abbrev P:Program:=Go.Proofs.Tryz.prog
theorem a5E:a5D P tt=true:=by kernel_rfl
theorem YK:∀t sh,fP eqs t=some sh->PZ P t sh:=a3D (by kernel_rfl)
theorem dS{f:FuncId}(fn:Func)(ps:List MG)(rt:Ret)(E:Env)(an:Ann){F:ay ps->Option rt.den}(h:(P.funcs[f]?,fn.body,fn.ntmps,fn.results.toList,Nat.ble (64*E.nt) 999936,a0E P E.fs)=(some fn,some (Oj fn),E.nt,rt.rs.map (·.1),true,true))(ht:(E.tt,E.eqs)=(tt,eqs))(hm:a2W P E.ms)(hs:b1m P E.gl E.fs)(hp:a2X P E.pl)(hF:∀x,a9V E ps rt (Oj fn) an x=F x):
  dH P E.gl f ⟨ps,rt.rs.map (·.2),rt.outs.map (·.2),F⟩:=by
 injection h with h1 h;injection h with h2 h;injection h with h3 h;injection h with h4 h;injection h with h5 h6;injection ht with t1 t2;exact RQ h1 h2 h3 h4 (OA h5 (t1▸a5E) (t2▸YK) h6 hm hs hp) λx r h=>(hF x).trans h
theorem b9y(b:Nat)(w:World)(h0:w.cell? ⟨b,0,none⟩=some (.pointer (some ⟨b,0,none⟩))):Calls Go.Proofs.Tryz.prog 55 #[.pointer (some ⟨b,0,none⟩)] w λe w' =>e= .returned (.tuple #[])/\w' =w:=by
 obtain⟨j,hj,_⟩:=iF.1 (show Option.map (λx=>x.size) (Go.Proofs.Tryz.prog.info? 90)=some 2 by kernel_rfl);have t56:=Go.Proofs.Tryz.underlying90;have a56:=Go.Proofs.Tryz.isAgg90;have z56:=Go.Proofs.Tryz.sizeOf90;have v56:=Go.Proofs.Tryz.zeroValue90;have u56:=run_underlying Go.Proofs.Tryz.underlying90;have t53:=Go.Proofs.Tryz.underlying87;have a53:=Go.Proofs.Tryz.isAgg87;have z53:=Go.Proofs.Tryz.sizeOf87;have v53:=Go.Proofs.Tryz.zeroValue87;have u53:=run_underlying Go.Proofs.Tryz.underlying87;have t4:=Go.Proofs.Tryz.underlying4;have a4:=Go.Proofs.Tryz.isAgg4;have z4:=Go.Proofs.Tryz.sizeOf4;have v4:=Go.Proofs.Tryz.zeroValue4;have u4:=run_underlying Go.Proofs.Tryz.underlying4;have t123:=Go.Proofs.Tryz.underlying186;have a123:=Go.Proofs.Tryz.isAgg186;have z123:=Go.Proofs.Tryz.sizeOf186;have v123:=Go.Proofs.Tryz.zeroValue186;have u123:=run_underlying Go.Proofs.Tryz.underlying186
 go_enter Go.Proofs.Tryz.func55,(show Go.Proofs.Tryz.f55.ntmps=20 by kernel_rfl)
 go_wp2
 rw[Lib.run_neq_ptr_same w _ Go.Proofs.Tryz.underlying87 hj]
 go_wp2
 go_end0
 exact⟨rfl,rfl⟩
theorem b6T(b:Nat)(w:World)(h0:w.cell? ⟨b,0,none⟩=some (.pointer none))(hsh:w.shape? b=some (90,2))(hfz:w.frozen? ⟨b,0,none⟩=false):Calls Go.Proofs.Tryz.prog 55 #[.pointer (some ⟨b,0,none⟩)] w λe w' =>e= .returned (.tuple #[])/\w' =w.setCell ⟨b,0,none⟩ (.pointer (some ⟨b,0,none⟩)):=by
 obtain⟨j,hj,hjs⟩:=iF.1 (show Option.map (λx=>x.size) (Go.Proofs.Tryz.prog.info? 90)=some 2 by kernel_rfl);have t56:=Go.Proofs.Tryz.underlying90;have a56:=Go.Proofs.Tryz.isAgg90;have z56:=Go.Proofs.Tryz.sizeOf90;have v56:=Go.Proofs.Tryz.zeroValue90;have u56:=run_underlying Go.Proofs.Tryz.underlying90;have t53:=Go.Proofs.Tryz.underlying87;have a53:=Go.Proofs.Tryz.isAgg87;have z53:=Go.Proofs.Tryz.sizeOf87;have v53:=Go.Proofs.Tryz.zeroValue87;have u53:=run_underlying Go.Proofs.Tryz.underlying87;have t4:=Go.Proofs.Tryz.underlying4;have a4:=Go.Proofs.Tryz.isAgg4;have z4:=Go.Proofs.Tryz.sizeOf4;have v4:=Go.Proofs.Tryz.zeroValue4;have u4:=run_underlying Go.Proofs.Tryz.underlying4;have t123:=Go.Proofs.Tryz.underlying186;have a123:=Go.Proofs.Tryz.isAgg186;have z123:=Go.Proofs.Tryz.sizeOf186;have v123:=Go.Proofs.Tryz.zeroValue186;have u123:=run_underlying Go.Proofs.Tryz.underlying186
 go_enter Go.Proofs.Tryz.func55,(show Go.Proofs.Tryz.f55.ntmps=20 by kernel_rfl)
 go_wp2
 rw[Lib.run_to_unsafe w ⟨b,0,none⟩ Go.Proofs.Tryz.underlying87 Go.Proofs.Tryz.underlying186 hj (by rw[hjs];decide) hsh (Nat.zero_lt_succ 1)];simp only[Result.andThen];rw[pO]
 go_wp2
 rw[run_callFunc_extern Go.Proofs.Tryz.func107 (by kernel_rfl) (by kernel_rfl) (by kernel_rfl) (e:=Extern.AbiNoEscape.same) (by kernel_rfl)];rw[Lib.run_noEscape];simp only[Result.andThen];rw[pO]
 go_wp2
 rw[Lib.run_from_unsafe w ⟨b,0,none⟩ Go.Proofs.Tryz.underlying186 Go.Proofs.Tryz.underlying87 hj hsh (by kernel_rfl)];simp only[Result.andThen];rw[pO]
 go_wp2
 go_end0
 exact⟨rfl,rfl⟩
def b7A:Go.Shelf.Ren:=⟨λ|166=>25|167=>26|240=>55|276=>107|n=>n,λ|72=>90|70=>87|37=>88|164=>186|75=>94|n=>n,λn=>n⟩
theorem c3W:Lw Go.Proofs.Tryz.prog b7A where
 mixed:=by kernel_rfl
 f166:=Go.Proofs.Tryz.func25.trans (congrArg some (by kernel_rfl))
 t72:=Go.Proofs.Tryz.underlying90
 a72:=Go.Proofs.Tryz.isAgg90
 z72:=Go.Proofs.Tryz.sizeOf90
 v72:=Go.Proofs.Tryz.zeroValue90
 t70:=Go.Proofs.Tryz.underlying87
 a70:=Go.Proofs.Tryz.isAgg87
 z70:=Go.Proofs.Tryz.sizeOf87
 v70:=Go.Proofs.Tryz.zeroValue87
 t37:=Go.Proofs.Tryz.underlying88
 a37:=Go.Proofs.Tryz.isAgg88
 z37:=Go.Proofs.Tryz.sizeOf88
 v37:=Go.Proofs.Tryz.zeroValue88
 t3:=Go.Proofs.Tryz.underlying3
 a3:=Go.Proofs.Tryz.isAgg3
 z3:=Go.Proofs.Tryz.sizeOf3
 v3:=Go.Proofs.Tryz.zeroValue3
 t9:=Go.Proofs.Tryz.underlying9
 a9:=Go.Proofs.Tryz.isAgg9
 z9:=Go.Proofs.Tryz.sizeOf9
 v9:=Go.Proofs.Tryz.zeroValue9
 t4:=Go.Proofs.Tryz.underlying4
 a4:=Go.Proofs.Tryz.isAgg4
 z4:=Go.Proofs.Tryz.sizeOf4
 v4:=Go.Proofs.Tryz.zeroValue4
 t164:=Go.Proofs.Tryz.underlying186
 a164:=Go.Proofs.Tryz.isAgg186
 z164:=Go.Proofs.Tryz.sizeOf186
 v164:=Go.Proofs.Tryz.zeroValue186
 e240:=enters_of Go.Proofs.Tryz.func55 (by kernel_rfl) rfl
 used:=b9y
 fresh:=b6T
theorem d1O:Go.Proofs.Builder.Extra Go.Proofs.Tryz.prog b7A where
 sizeBuilder:=by kernel_rfl
 liesBuilder:=by kernel_rfl
 t5:=Go.Proofs.Tryz.underlying5
 a5:=Go.Proofs.Tryz.isAgg5
 z5:=Go.Proofs.Tryz.sizeOf5
 v5:=Go.Proofs.Tryz.zeroValue5
 infoByte:=by kernel_rfl
 cellsByte:=by kernel_rfl
 sizeByte:=by kernel_rfl
 neB5:=by decide
theorem b9B:Go.Proofs.Tryz.prog.funcs[b7A.f 167]? =some (Body.n167 b7A):=Go.Proofs.Tryz.func26.trans (congrArg some (by kernel_rfl))
theorem b9D(x y:Value)(w:World):CallsD Go.Proofs.Tryz.prog 63 #[x,y] .returning w λe u' w' =>e= .returned (.tuple #[])/\u' = .returning/\w' =w:=by
 have hr:Go.Proofs.Tryz.f63.results=#[]:=by kernel_rfl
 refine callsD_of_wpS Go.Proofs.Tryz.func63 rfl λc₀ cs hu=>?_;apply wpS_seq;apply wpS_region;simp[wpOpsS,go_sem,recoverD,hu,Exit.thenS];apply wpS_seq;apply wpS_seq;apply wpS_region;simp[wpOpsS,go_sem,Exit.thenS];refine wpS_cond (t:=true) (by simp[Act.eval,Array.replicate]) ?_;simp only[if_true];refine wpS_of_wp (wp_ret ?_);cases c₀;simp_all [bodyPostS,results,Exit.thenS]
theorem d1Z:PlP Go.Proofs.Tryz.prog 63 2 0:=λcap hc=>by
 obtain⟨x,y,rfl⟩:∃x y,cap=#[x,y]:=by rcases cap with⟨_|⟨x,_|⟨y,_|⟨z,l⟩⟩⟩⟩<;>simp at hc;exact⟨x,y,rfl⟩
 refine⟨_,_,63,#[x,y],rfl,λw=>?_,λw=>(b9D x y w).mono ?_⟩
 .rfl
 .rintro e u' w' ⟨rfl,rfl,rfl⟩;exact⟨⟨_,rfl⟩,rfl,rfl⟩
theorem dQ{f:FuncId}(fn:Func)(q:FQ){F:ay q.ps->Option q.rt.den}(hs:b1m P q.E.gl q.E.fs:=by exact trivial)(h:(P.funcs[f]?,fn.body,fn.ntmps,fn.results.toList,Nat.ble (64*q.E.nt) 999936,a0E P q.E.fs)=(some fn,some (Oj fn),q.E.nt,q.rt.rs.map (·.1),true,true):=by kernel_rfl)(ht:(q.E.tt,q.E.eqs)=(tt,eqs):=by rfl)(hm:a2W P q.E.ms:=by exact trivial)(hp:a2X P q.E.pl:=by exact trivial)(hF:∀x,a9V q.E q.ps q.rt (Oj fn) q.an x=F x:=by intro x;kernel_rfl):
  dH P q.E.gl f ⟨q.ps,q.rt.rs.map (·.2),q.rt.outs.map (·.2),F⟩:=dS fn q.ps q.rt q.E q.an h ht hm hs hp hF
abbrev FG(n:FuncId)(s:FSpec):=dH P gl n s
def a2G:FG 154 b4t:=dQ f154 c4Y
def a2H:FG 213 b4z:=dQ f213 c5A
def b5n:FG 155 b9Y:=dQ f155 c4Z ⟨a2G,a2H,F7⟩
def c1n:FG 156 c8x:=dQ f156 c5a
def UN:FG 92 s92:=dQ f92 q92 ⟨a2G,b5n,c1n,F7⟩
def a5i:FG 158 a7j:=dQ f158 b3y
def b5y:FG 214 b4A:=dQ f214 b3F ⟨a5i,F7⟩
def b5o:FG 157 b4u:=dQ f157 b3x ⟨b5y,F7⟩
def b6l:FG 93 s93:=dQ f93 q93 ⟨a5i,b5o,F7⟩
def a7J:FG 211 b7U:=dQ f211 c5y
def c1l:FG 149 c8v:=dQ f149 c4V ⟨a7J,F7⟩
def d1F:FG 90 s90:=dQ f90 q90 ⟨UN,b6l,c1l,F7⟩
def d1g:FG 47 s47:=dQ f47 q47 ⟨d1F,F7⟩
def SX:FG 150 a5a:=dQ f150 c4W
def VV:FG 106 a7h:=dQ f106 c4x ⟨SX,F7⟩
def a7C:FG 142 b7N:=dQ f142 c4O
def c2f:FG 289 c9s:=dQ f289 c6l ⟨a7C,F7⟩
def c1E:FG 212 c8O:=dQ f212 c5z ⟨c2f,F7⟩
def c1m:FG 153 c8w:=dQ f153 c4X ⟨c1E,F7⟩
def a5h:FG 152 a7i:=dQ f152 b3w ⟨c1m,F7⟩
def b5l:FG 151 b4r:=dQ f151 b3u ⟨a5h,F7⟩
def d1G:FG 91 s91:=dQ f91 q91 ⟨SX,VV,a7C,a5h,b5l,F7⟩
def a5j:FG 160 a7k:=dQ f160 b3A
def b5A:FG 215 b4C:=dQ f215 b3H ⟨a5j,F7⟩
def b5p:FG 159 b4v:=dQ f159 b3z ⟨b5A,F7⟩
def b8X:FG 94 s94:=dQ f94 q94 ⟨a5j,b5p,F7⟩
def d1h:FG 48 s48:=dQ f48 q48 ⟨d1G,UN,b6l,b8X,F7⟩
def a5k:FG 162 a7l:=dQ f162 b3C
def b5B:FG 216 b4D:=dQ f216 b3I ⟨a5k,F7⟩
def b5q:FG 161 b4w:=dQ f161 b3B ⟨b5B,F7⟩
def a5l:FG 217 a7o:=dQ f217 b3J
def b5M:FG 290 b4K:=dQ f290 b3Q ⟨a5l,F7⟩
def b5C:FG 218 b4E:=dQ f218 b3K ⟨b5M,F7⟩
def c1o:FG 163 c8y:=dQ f163 c5b ⟨a5l,UN,b5C,SX,F7⟩
def c1F:FG 219 c8P:=dQ f219 c5B
def c1p:FG 164 c8A:=dQ f164 c5c ⟨c1F,F7⟩
def a5n:FG 221 a7p:=dQ f221 b3M
def b5N:FG 291 b4L:=dQ f291 b3R ⟨a5n,F7⟩
def b5D:FG 220 b4F:=dQ f220 b3L ⟨b5N,F7⟩
theorem c2g:dH Go.Proofs.Tryz.prog gl 292 c9t:=Xn Go.Proofs.Tryz.strings_Contains_one
def c1G:FG 222 c8Q:=dQ f222 c5C ⟨c2g,F7⟩
def VW:FG 172 a7m:=dQ f172 c5j
def b5E:FG 227 c0h:=dQ f227 c5H ⟨VW,F7⟩
def a7E:FG 171 b7P:=dQ f171 c5i
def c2Q:FG 366 d0a:=dQ f366 c6Z ⟨VV,F7⟩
def c2R:FG 367 d0b:=dQ f367 c7a
def b5W:FG 368 c0y:=dQ f368 c7b ⟨SX,F7⟩
def b5X:FG 371 c0z:=dQ f371 c7e
def c2S:FG 369 d0c:=dQ f369 c7c ⟨b5X,SX,F7⟩
def b6b:FG 409 c0D:=dQ f409 c7t
def c2T:FG 370 d0d:=dQ f370 c7d ⟨b5W,b6b,F7⟩
def c3f:FG 410 d0o:=dQ f410 c7u
def c2V:FG 372 d0e:=dQ f372 c7f ⟨b6b,c3f,F7⟩
def c2x:FG 334 c9J:=dQ f334 c6F ⟨c2Q,c2R,b5W,c2S,c2T,b5X,c2V,F7⟩
def c2h:FG 293 c9u:=dQ f293 c6m ⟨b5E,a7E,VW,c2x,F7⟩
def c1H:FG 223 c8R:=dQ f223 c5E ⟨c2h,F7⟩
def c1q:FG 165 c8B:=dQ f165 c5d ⟨UN,a5n,b5D,c1G,c1H,F7⟩
theorem b5S:dH Go.Proofs.Tryz.prog gl 324 c0t:=a7T Go.Proofs.Tryz.slices_Sort_int Go.Proofs.Tryz.slices_Sort_int_none
theorem b5T:dH Go.Proofs.Tryz.prog gl 325 c0u:=J_ Go.Proofs.Tryz.slices_Compact_int Go.Proofs.Tryz.slices_Compact_int_empty
def c2F:FG 352 c9Q:=dQ f352 c6N ⟨b5S,b5T,F7⟩
def c2o:FG 323 c9C:=dQ f323 c6x ⟨c2F,F7⟩
def c1Z:FG 278 c9m:=dQ f278 c6e ⟨c2o,F7⟩
def c2a:FG 279 c9n:=dQ f279 c6f ⟨b5S,b5T,F7⟩
def b5v:FG 204 c0g:=dQ f204 c5u ⟨c1Z,c2a,F7⟩
def c1J:FG 225 c8T:=dQ f225 c5G
def c1s:FG 167 c8D:=dQ f167 c5f ⟨b5v,c1J,F7⟩
def c1I:FG 224 c8S:=dQ f224 c5F
def c1r:FG 166 c8C:=dQ f166 c5e ⟨c1I,F7⟩
def d1H:FG 95 s95:=dQ f95 q95 ⟨b6l,b8X,a5k,b5q,UN,c1o,c1p,c1q,c1s,c1r,F7⟩
def d1i:FG 49 s49:=dQ f49 q49 ⟨d1H,F7⟩
def a5m:FG 22 s22:=dQ f22 q22 ⟨d1g,d1h,d1i,F7⟩
def d0M:FG 19 s19:=dQ f19 q19
def d4A:FG 6 s6:=dQ f6 q6 ⟨d0M,F7⟩
def d4B:FG 7 s7:=dQ f7 q7
def d0N:FG 20 s20:=dQ f20 q20
def d0U:FG 30 s30:=dQ f30 q30
theorem d1n:dH Go.Proofs.Tryz.prog gl 64 s64:=a1F Go.Proofs.Tryz.strings_Count_one
def SV:FG 128 a4Z:=dQ f128 c4z
def a1l:FG 67 s67:=dQ f67 q67 ⟨SV,F7⟩
theorem b5g:dH Go.Proofs.Tryz.prog gl 126 b9U:=a9T (g:=0) Go.Proofs.Tryz.strings_Cut (by kernel_rfl)
def n_:FG 65 s65:=dQ f65 q65 ⟨a1l,b5g,F7⟩
def a7A:FG 127 b7L:=dQ f127 c4y ⟨n_,UN,a1l,F7⟩
def a9x:FG 97 s97:=dQ f97 q97
theorem b8P:dH Go.Proofs.Tryz.prog gl 37 s37:=IR (E:=⟨8,eqs,tt,gl,[],[],[],[],[],[],[]⟩) (f:=37) (fn:=Go.Proofs.Tryz.f37) (c:=Oj Go.Proofs.Tryz.f37) (t:=.str) (by kernel_rfl) (by kernel_rfl) (by kernel_rfl) (by kernel_rfl)
  (OA (by kernel_rfl) a5E YK (by kernel_rfl) trivial trivial trivial) (λb=>by cases b<;>kernel_rfl) (λxs=>by kernel_rfl)
def b8W:FG 88 s88:=dQ f88 q88 ⟨b8P,F7⟩
def c1t:FG 168 c8E:=dQ f168 c5g
def b8Z:FG 98 s98:=dQ f98 q98 ⟨b8W,c1t,F7⟩
theorem b5O:dH Go.Proofs.Tryz.prog gl 297 c0p:=Xp Go.Proofs.Tryz.stringslite_HasPrefix
def c2y:FG 343 c9K:=dQ f343 c6G ⟨b5O,F7⟩
def c2i:FG 312 c9x:=dQ f312 c6o ⟨c2y,F7⟩
def c2j:FG 313 c9y:=dQ f313 c6p
def b5H:FG 269 c0l:=dQ f269 c5X ⟨c2i,c2j,F7⟩
def a7G:FG 197 b7R:=dQ f197 c5o ⟨b5H,F7⟩
def c0V:FG 129 c8g:=dQ f129 c4A ⟨n_,a7G,SV,a1l,F7⟩
def c1T:FG 270 c9h:=dQ f270 c5Y
def c1Q:FG 237 c8Z:=dQ f237 c5S
def a7F:FG 175 b7Q:=dQ f175 c5m ⟨c1Q,F7⟩
def c1P:FG 236 c8Y:=dQ f236 c5R
def b5r:FG 174 b9Z:=dQ f174 c5l ⟨c1P,F7⟩
def b5I:FG 271 c0n:=dQ f271 c5Z ⟨a7F,b5r,F7⟩
def a7H:FG 198 b7S:=dQ f198 c5p ⟨c1T,b5I,F7⟩
def a7B:FG 130 b7M:=dQ f130 c4B ⟨n_,a7H,SV,F7⟩
def c2k:FG 314 c9z:=dQ f314 c6q
theorem c1S:dH Go.Proofs.Tryz.prog gl 265 c9g:=Xq Go.Proofs.Tryz.stringslite_IndexByte
def c2C:FG 347 c9O:=dQ f347 c6K ⟨c1S,F7⟩
def c2z:FG 344 c9L:=dQ f344 c6H ⟨b5n,F7⟩
def a7M:FG 385 b7X:=dQ f385 c7i ⟨a2H,F7⟩
def c2X:FG 384 d0g:=dQ f384 c7h ⟨a7M,F7⟩
def a7L:FG 239 b7W:=dQ f239 c5T ⟨b5O,F7⟩
def c2Y:FG 386 d0h:=dQ f386 c7j ⟨a7L,a7M,F7⟩
def b5P:FG 299 c0q:=dQ f299 c6n
def b5R:FG 322 c0s:=dQ f322 c6w ⟨b5P,b5H,F7⟩
def c2Z:FG 387 d0i:=dQ f387 c7k ⟨a7H,b5R,a7G,F7⟩
def c2A:FG 345 c9M:=dQ f345 c6I ⟨c2X,a7M,c2Y,a7L,a2G,a2H,c2Z,F7⟩
theorem c3a:dH Go.Proofs.Tryz.prog gl 388 d0j:=YY Go.Proofs.Tryz.strings_IndexAny_laid
def c2B:FG 346 c9N:=dQ f346 c6J ⟨c3a,F7⟩
def c2l:FG 315 c9A:=dQ f315 c6r ⟨a2G,a2H,c2C,c2z,c2A,c2B,a7L,F7⟩
def c1V:FG 272 c9i:=dQ f272 c6a ⟨c2k,c2l,F7⟩
def SY:FG 348 a5b:=dQ f348 c6L
def a2L:FG 316 b4N:=dQ f316 c6s ⟨SY,F7⟩
def b5Y:FG 389 c0A:=dQ f389 c7l
def VY:FG 319 a7s:=dQ f319 c6u
def VX:FG 274 a7q:=dQ f274 c6b
def b5Q:FG 318 c0r:=dQ f318 c6t ⟨a2L,VX,F7⟩
def b6c:FG 421 c0F:=dQ f421 c7v ⟨b5Q,F7⟩
def a2J:FG 232 b4H:=dQ f232 c5N
def c3g:FG 422 d0q:=dQ f422 c7w ⟨a2J,F7⟩
def b6d:FG 439 c0G:=dQ f439 c7F ⟨SY,UN,VX,a7J,F7⟩
def a7K:FG 233 b7V:=dQ f233 c5O
def c3s:FG 453 d0B:=dQ f453 c7R ⟨a7K,F7⟩
def c3o:FG 440 d0x:=dQ f440 c7G ⟨SY,c3s,VX,F7⟩
def a5q:FG 441 a7v:=dQ f441 b3T
def b5z:FG 214 b4B:=dQ f214 b3G ⟨a5q,F7⟩
def c3h:FG 424 d0r:=dQ f424 c7x ⟨SY,UN,VX,a5q,b5z,b6d,VY,a7J,F7⟩
def b5F:FG 235 c0i:=dQ f235 c5Q
def c2E:FG 350 c9P:=dQ f350 c6M ⟨b5F,F7⟩
theorem b8j:∀n,dH P gl 273 ⟨a1b,[(false,(.dat .bool))],[(true,(.pair (.dat (.sl (.prod (.int .i64) (.prod .str (.prod (.int .i64) (.int .i64)))))) (.pair (.dat (.int .i64)) (.pair (.dat (.int .i64)) (.pair (.dat (.prod (.sl (.prod .str (.sl .str))) (.prod (.sl .str) (.prod (.sl .str) (.prod (.sl .str) (.sl .str)))))) (.pair (.own (.prod (.int .i64) (.int .i64))) (.pair (.dat (.int .i64)) (.dat (.int .i64)))))))))],λx=>(x9 n).1 x⟩/\dH P gl 317 ⟨a9h,[(false,(.dat .bool))],[(true,(.pair (.dat (.sl (.prod (.int .i64) (.prod .str (.prod (.int .i64) (.int .i64)))))) (.pair (.dat (.int .i64)) (.pair (.dat (.int .i64)) (.pair (.dat (.prod (.sl (.prod .str (.sl .str))) (.prod (.sl .str) (.prod (.sl .str) (.prod (.sl .str) (.sl .str)))))) (.pair (.own (.prod (.int .i64) (.int .i64))) (.pair (.dat (.int .i64)) (.dat (.int .i64)))))))))],λx=>(x9 n).2.1 x.1 x.2⟩/\dH P gl 349 ⟨a9i,[(false,(.dat .bool))],[(true,(.pair (.dat (.sl (.prod (.int .i64) (.prod .str (.prod (.int .i64) (.int .i64)))))) (.pair (.dat (.int .i64)) (.pair (.dat (.int .i64)) (.pair (.dat (.prod (.sl (.prod .str (.sl .str))) (.prod (.sl .str) (.prod (.sl .str) (.prod (.sl .str) (.sl .str)))))) (.pair (.own (.prod (.int .i64) (.int .i64))) (.pair (.dat (.int .i64)) (.dat (.int .i64)))))))))],λx=>(x9 n).2.2.1 x⟩/\dH P gl 390 ⟨b3s,[(false,(.dat .bool))],[(true,(.pair (.dat (.sl (.prod (.int .i64) (.prod .str (.prod (.int .i64) (.int .i64)))))) (.pair (.dat (.int .i64)) (.pair (.dat (.int .i64)) (.pair (.dat (.prod (.sl (.prod .str (.sl .str))) (.prod (.sl .str) (.prod (.sl .str) (.prod (.sl .str) (.sl .str)))))) (.pair (.own (.prod (.int .i64) (.int .i64))) (.pair (.dat (.int .i64)) (.dat (.int .i64)))))))))],λx=>(x9 n).2.2.2.1 x⟩/\dH P gl 423 ⟨b3t,[(false,(.dat .bool))],[(true,(.pair (.dat (.sl (.prod (.int .i64) (.prod .str (.prod (.int .i64) (.int .i64)))))) (.pair (.dat (.int .i64)) (.pair (.dat (.int .i64)) (.pair (.dat (.prod (.sl (.prod .str (.sl .str))) (.prod (.sl .str) (.prod (.sl .str) (.prod (.sl .str) (.sl .str)))))) (.pair (.own (.prod (.int .i64) (.int .i64))) (.pair (.dat (.int .i64)) (.dat (.int .i64)))))))))],λx=>(x9 n).2.2.2.2 x.1 x.2⟩:=by
 intro n;induction n with
 |zero=>exact⟨(λw ok O vals x r _ _ _ _ _ _ h=>by cases h),(λw ok O vals x r _ _ _ _ _ _ h=>by cases h),(λw ok O vals x r _ _ _ _ _ _ h=>by cases h),(λw ok O vals x r _ _ _ _ _ _ h=>by cases h),(λw ok O vals x r _ _ _ _ _ _ h=>by cases h)⟩
 |succ n ih=>exact⟨dS f273 a1b b8J (d1Q (x9 n).1 (x9 n).2.1 (x9 n).2.2.1 (x9 n).2.2.2.1 (x9 n).2.2.2.2) c3A (by kernel_rfl) rfl trivial ⟨a2L,ih.2.1,ih.1,b5Q,VY,trivial⟩ trivial λx=>by kernel_rfl,
  dS f317 a9h c7Y (d1S (x9 n).1 (x9 n).2.1 (x9 n).2.2.1 (x9 n).2.2.2.1 (x9 n).2.2.2.2) c3C (by kernel_rfl) rfl trivial ⟨ih.2.2.1,SY,c2E,ih.2.1,VY,trivial⟩ trivial λx=>by kernel_rfl,
  dS f349 a9i c8a (d1U (x9 n).1 (x9 n).2.1 (x9 n).2.2.1 (x9 n).2.2.2.1 (x9 n).2.2.2.2) c3F (by kernel_rfl) rfl trivial ⟨a2L,SY,b5Y,VY,ih.2.2.1,ih.2.2.2.1,trivial⟩ trivial λx=>by kernel_rfl,
  dS f390 b3s c8b (d1V (x9 n).1 (x9 n).2.1 (x9 n).2.2.1 (x9 n).2.2.2.1 (x9 n).2.2.2.2) c3G (by kernel_rfl) rfl trivial ⟨SY,b5Y,VY,a2L,ih.1,b6c,VX,c3g,ih.2.2.2.2,c3h,trivial⟩ trivial λx=>by kernel_rfl,
  dS f423 b3t c8c (d1W (x9 n).1 (x9 n).2.1 (x9 n).2.2.1 (x9 n).2.2.2.1 (x9 n).2.2.2.2) c3H (by kernel_rfl) rfl trivial ⟨VY,b6d,b6c,ih.1,c3o,trivial⟩ trivial λx=>by kernel_rfl⟩
theorem c1W:dH P gl 273 c9j:=(b8j lH).1
def a7D:FG 170 b7O:=dQ f170 c5h ⟨b5E,F7⟩
def b5G:FG 241 c0j:=dQ f241 c5V ⟨VV,F7⟩
theorem c1u:dH Go.Proofs.Tryz.prog gl 169 c8F:=a6D (g:=2) Go.Proofs.Tryz.strconv_Itoa (by kernel_rfl) (by kernel_rfl)
def a9y:FG 99 s99:=dQ f99 q99 ⟨c1u,F7⟩
theorem b5s:dH Go.Proofs.Tryz.prog gl 176 c0c:=a2w Go.Proofs.Tryz.strings_Repeat
def c1R:FG 242 c9a:=dQ f242 c5W ⟨b5P,a9y,b5s,F7⟩
def a2D:FG 101 b4o:=dQ f101 c4s
def a2E:FG 102 b4p:=dQ f102 c4t ⟨a2D,b5r,a7F,F7⟩
def c0T:FG 103 c8d:=dQ f103 c4u ⟨a9y,b5s,F7⟩
def a9v:FG 53 s53:=dQ f53 q53 ⟨a2D,a2E,c0T,F7⟩
def b5t:FG 177 c0d:=dQ f177 c5n ⟨SX,b5G,a9y,c1R,a9v,F7⟩
def a2I:FG 231 b4G:=dQ f231 c5M
def c1K:FG 228 c8U:=dQ f228 c5I ⟨b5t,a2I,F7⟩
def c1M:FG 229 c8V:=dQ f229 c5J ⟨a2J,a2I,F7⟩
def c1N:FG 230 c8W:=dQ f230 c5K ⟨a2J,a7K,a2I,F7⟩
def c1O:FG 234 c8X:=dQ f234 c5P
def c1w:FG 173 c8G:=dQ f173 c5k ⟨c1K,c1M,c1N,a2I,a2J,a7K,c1O,b5F,F7⟩
def b5f:FG 100 b9T:=dQ f100 c4r ⟨a7D,a7E,VW,c1w,F7⟩
def c1x:FG 199 c8I:=dQ f199 c5q ⟨c1V,c1W,VX,a7D,b5f,F7⟩
def c0W:FG 131 c8h:=dQ f131 c4C ⟨c1x,SV,F7⟩
def c2n:FG 320 c9B:=dQ f320 c6v
def c1X:FG 275 c9k:=dQ f275 c6c ⟨c2n,F7⟩
def b5u:FG 200 c0f:=dQ f200 c5r ⟨c1X,F7⟩
def b8Y:FG 96 s96:=dQ f96 q96
def c0X:FG 132 c8i:=dQ f132 c4E ⟨b5u,b8Y,a1l,F7⟩
def d1o:FG 66 s66:=dQ f66 q66 ⟨a7A,a9x,SV,b8Z,n_,a1l,c0V,a7B,b5g,c0W,c0X,F7⟩
theorem c0Y:dH Go.Proofs.Tryz.prog gl 133 c8j:=a5u (g:=0) Go.Proofs.Tryz.strings_Split (by kernel_rfl)
def d1p:FG 68 s68:=dQ f68 q68 ⟨c0Y,F7⟩
def d1q:FG 69 s69:=dQ f69 q69 ⟨a7A,n_,a7B,F7⟩
def a2F:FG 104 b4q:=dQ f104 c4v
def c1Y:FG 277 c9l:=dQ f277 c6d ⟨a7G,b5R,b5u,a7H,F7⟩
def c1y:FG 202 c8J:=dQ f202 c5s ⟨SX,c1Y,b5G,F7⟩
def c0Z:FG 134 c8k:=dQ f134 c4F ⟨c1y,SV,F7⟩
def d1r:FG 70 s70:=dQ f70 q70 ⟨a7A,a2F,SV,n_,a7B,c0Z,VV,F7⟩
def d0V:FG 31 s31:=dQ f31 q31 ⟨d1n,n_,d1o,d1p,a1l,d1q,d1r,F7⟩ (hp:=⟨d1Z,F7⟩)
def d0H:FG 11 s11:=dQ f11 q11 ⟨a5m,d0U,d0V,F7⟩
theorem c1k:dH Go.Proofs.Tryz.prog gl 148 c8u:=IR (E:=⟨8,eqs,tt,gl,[],[],[],[],[],[],[]⟩) (f:=148) (fn:=Go.Proofs.Tryz.f148) (c:=Oj Go.Proofs.Tryz.f148) (t:=(.prod (.prod (.int .i64) (.int .i64)) (.prod (.int .i64) (.prod (.int .i64) (.int .i64))))) (by kernel_rfl) (by kernel_rfl) (by kernel_rfl) (by kernel_rfl)
  (OA (by kernel_rfl) a5E YK (by kernel_rfl) trivial trivial trivial) (λb=>by cases b<;>kernel_rfl) (λxs=>by kernel_rfl)
def d1E:FG 89 s89:=dQ f89 q89 ⟨c1k,F7⟩
theorem b8V:dH Go.Proofs.Tryz.prog gl 84 s84:=IR (E:=⟨8,eqs,tt,gl,[],[],[],[],[],[],[]⟩) (f:=84) (fn:=Go.Proofs.Tryz.f84) (c:=Oj Go.Proofs.Tryz.f84) (t:=(.prod .str (.prod (.int .i64) (.int .i64)))) (by kernel_rfl) (by kernel_rfl) (by kernel_rfl) (by kernel_rfl)
  (OA (by kernel_rfl) a5E YK (by kernel_rfl) trivial trivial trivial) (λb=>by cases b<;>kernel_rfl) (λxs=>by kernel_rfl)
theorem b8U:dH Go.Proofs.Tryz.prog gl 83 s83:=IR (E:=⟨8,eqs,tt,gl,[],[],[],[],[],[],[]⟩) (f:=83) (fn:=Go.Proofs.Tryz.f83) (c:=Oj Go.Proofs.Tryz.f83) (t:=(.prod (.int .i64) (.int .i64))) (by kernel_rfl) (by kernel_rfl) (by kernel_rfl) (by kernel_rfl)
  (OA (by kernel_rfl) a5E YK (by kernel_rfl) trivial trivial trivial) (λb=>by cases b<;>kernel_rfl) (λxs=>by kernel_rfl)
def b8S:FG 46 s46:=dQ f46 q46 ⟨b8W,d1E,b8V,b8U,F7⟩
def c1b:FG 135 c8l:=dQ f135 c4G
def b5h:FG 136 b9V:=dQ f136 c4H
def d1t:FG 72 s72:=dQ f72 q72 ⟨a9x,c1b,b5h,F7⟩
def b5i:FG 137 b9W:=dQ f137 c4I
def d1v:FG 73 s73:=dQ f73 q73 ⟨a9x,b5h,b5i,F7⟩
def d1w:FG 74 s74:=dQ f74 q74 ⟨a2F,F7⟩
def d1x:FG 75 s75:=dQ f75 q75 ⟨a2F,b5i,F7⟩
def d0W:FG 33 s33:=dQ f33 q33 ⟨b8S,d1t,d1v,d1w,d1x,a5m,F7⟩
def b5j:FG 14 s14:=dQ f14 q14 ⟨a5m,d0W,F7⟩
def d0O:FG 21 s21:=dQ f21 q21 ⟨b8S,b5j,F7⟩
def d1j:FG 50 s50:=dQ f50 q50
def d1k:FG 51 s51:=dQ f51 q51 ⟨UN,b8Y,F7⟩
def d1l:FG 52 s52:=dQ f52 q52 ⟨a9x,b8Z,a9y,a9v,b5f,F7⟩
def c0U:FG 105 c8e:=dQ f105 c4w ⟨b5t,F7⟩
def d1m:FG 54 s54:=dQ f54 q54 ⟨a2F,c0U,VV,a9v,F7⟩
def d0P:FG 23 s23:=dQ f23 q23 ⟨d1j,d1k,d1l,a9v,d1m,F7⟩
theorem d0Q:dH Go.Proofs.Tryz.prog gl 24 s24:=a5X Go.Proofs.Tryz.lays170
theorem d0R:dH Go.Proofs.Tryz.prog gl 25 s25:=F_ c3W d1O
theorem d0S:dH Go.Proofs.Tryz.prog gl 26 s26:=a1x c3W d1O b9B
theorem d0T:dH Go.Proofs.Tryz.prog gl 27 s27:=E_ Go.Proofs.Tryz.lays169 Go.Proofs.Tryz.Builder_Extra_169
def d4D:FG 9 s9:=dQ f9 q9 ⟨a5m,d0P,d0Q,d0R,d0S,d0T,F7⟩
def c1g:FG 143 c8q:=dQ f143 c4P ⟨VV,F7⟩
def c1h:FG 144 c8r:=dQ f144 c4Q
def d1B:FG 85 s85:=dQ f85 q85 ⟨c1g,c1h,F7⟩
def d1c:FG 40 s40:=dQ f40 q40 ⟨a5m,d1B,F7⟩
def d1d:FG 41 s41:=dQ f41 q41
def b6k:FG 474 b4Q:=dQ f474 b3U
def a7I:FG 206 b7T:=dQ f206 c5v
def b6j:FG 472 c0M:=dQ f472 c7S
def a7R:FG 475 b8c:=dQ f475 c7U
theorem c4b:GV Go.Proofs.Tryz.prog 268 "Less" 472 (some 269):=Sv (by kernel_rfl)
theorem b9H:GV Go.Proofs.Tryz.prog 268 "Swap" 475 (some 269):=Sv (by kernel_rfl)
def b5J:FG 280 b4I:=dQ f280 b3N ⟨b6j,a7R,F7⟩ (hm:=⟨c4b,b9H,trivial⟩)
theorem c4c:GV Go.Proofs.Tryz.prog 268 "Len" 206 (some 269):=Sv (by kernel_rfl)
theorem d1X:GV Go.Proofs.Tryz.prog 268 "Push" 474 none:=λv w=>show(method _ 268 v "Push").run _ w= .ok (474,v) w by kernel_rfl
def b5w:FG 205 b4x:=dQ f205 b3D ⟨b6k,a7I,b5J,F7⟩ (hm:=⟨c4c,d1X,trivial⟩)
def b5K:FG 281 b4J:=dQ f281 b3O ⟨b6j,a7R,F7⟩ (hm:=⟨c4b,b9H,trivial⟩)
def c3t:FG 473 d0C:=dQ f473 c7T
theorem d1Y:GV Go.Proofs.Tryz.prog 268 "Pop" 473 none:=λv w=>show(method _ 268 v "Pop").run _ w= .ok (473,v) w by kernel_rfl
def b5x:FG 207 b4y:=dQ f207 b3E ⟨a7I,a7R,b5K,c3t,F7⟩ (hm:=⟨c4c,d1Y,b9H,trivial⟩)
def c1i:FG 145 c8s:=dQ f145 c4R ⟨b5v,b5w,a7I,b5x,F7⟩
def a5r:FG 79 s79:=dQ f79 q79 ⟨a7C,F7⟩
def a5o:FG 282 a7r:=dQ f282 b3P ⟨a5r,F7⟩
def b8h:FG 81 b8K:=dQ f81 b8E ⟨a5o,F7⟩
def c1A:FG 208 c8L:=dQ f208 c5w ⟨a5o,b8h,F7⟩
def c2d:FG 286 c9q:=dQ f286 c6j ⟨VW,F7⟩
def VZ:FG 333 a7t:=dQ f333 c6E
def c2r:FG 328 c9E:=dQ f328 c6z ⟨VW,a7E,F7⟩
def c2s:FG 329 c9F:=dQ f329 c6A
def c2t:FG 330 c9G:=dQ f330 c6B ⟨VZ,F7⟩
def b5U:FG 356 c0w:=dQ f356 c6P ⟨VZ,F7⟩
def a7N:FG 401 b7Y:=dQ f401 c7m
def c2H:FG 357 c9S:=dQ f357 c6Q ⟨a7N,F7⟩
def c2I:FG 358 c9T:=dQ f358 c6R ⟨a7N,F7⟩
def b5V:FG 360 c0x:=dQ f360 c6T
def c2J:FG 359 c9U:=dQ f359 c6S ⟨b5V,a7N,F7⟩
def c2u:FG 331 c9H:=dQ f331 c6C ⟨VZ,b5U,c2H,c2I,c2J,b5V,F7⟩
def c2K:FG 361 c9V:=dQ f361 c6U ⟨b5U,VZ,F7⟩
def a5p:FG 402 a7u:=dQ f402 b3S ⟨a5r,F7⟩
def b5m:FG 151 b4s:=dQ f151 b3v ⟨a5p,F7⟩
def c2M:FG 362 c9W:=dQ f362 c6V ⟨a5p,b5m,F7⟩
theorem a2K:dH Go.Proofs.Tryz.prog gl 296 b4M:=a4t Go.Proofs.Tryz.bits_Mul64
def c2W:FG 374 d0f:=dQ f374 c7g
def c3p:FG 443 d0y:=dQ f443 c7H ⟨c2W,F7⟩
def a7O:FG 431 b7Z:=dQ f431 c7y ⟨c3p,F7⟩
def c3b:FG 403 d0k:=dQ f403 c7n ⟨a2K,a7O,F7⟩
def a7P:FG 444 b8a:=dQ f444 c7I
def a7Q:FG 445 b8b:=dQ f445 c7J
def b6e:FG 446 c0H:=dQ f446 c7K
def b6f:FG 447 c0I:=dQ f447 c7L
def b6g:FG 448 c0J:=dQ f448 c7M
def a2M:FG 432 b4P:=dQ f432 c7z ⟨a7P,a7Q,b6e,b6f,b6g,F7⟩
def c3c:FG 404 d0l:=dQ f404 c7o ⟨a2M,F7⟩
def c2N:FG 363 c9X:=dQ f363 c6W ⟨a5r,c3b,c3c,F7⟩
def b5Z:FG 405 c0B:=dQ f405 c7p
def c2O:FG 364 c9Y:=dQ f364 c6X ⟨b5Z,a2E,F7⟩
def c3i:FG 433 d0s:=dQ f433 c7A ⟨a2K,F7⟩
def c3q:FG 449 d0z:=dQ f449 c7N ⟨a7P,a7Q,b6e,a2K,a7O,b6f,b6g,F7⟩
def c3j:FG 434 d0t:=dQ f434 c7B ⟨c3q,F7⟩
def b6h:FG 450 c0K:=dQ f450 c7O
def b6i:FG 451 c0L:=dQ f451 c7P
def c3k:FG 435 d0u:=dQ f435 c7C ⟨b6h,b6i,a2M,F7⟩
def c3l:FG 436 d0v:=dQ f436 c7D ⟨a7P,a7Q,a2M,F7⟩
def c3r:FG 452 d0A:=dQ f452 c7Q
def c3n:FG 437 d0w:=dQ f437 c7E ⟨b6h,b6i,a2K,a7O,c3r,F7⟩
def c3d:FG 406 d0m:=dQ f406 c7q ⟨c3i,c3j,c3k,c3l,a2M,c3n,F7⟩
def b6a:FG 407 c0C:=dQ f407 c7r ⟨a2D,a2E,a7F,b5I,F7⟩
def c3e:FG 408 d0n:=dQ f408 c7s ⟨a2D,a2E,b6a,F7⟩
def c2P:FG 365 c9Z:=dQ f365 c6Y ⟨c3d,b5Z,b6a,c3e,F7⟩
def c2w:FG 332 c9I:=dQ f332 c6D ⟨c2K,c2M,c2N,c2O,c2P,F7⟩
def c2e:FG 288 c9r:=dQ f288 c6k ⟨c2r,VW,c2s,c2t,c2u,c2w,VZ,F7⟩
theorem b8k:∀n,dH P gl 327 ⟨b3r,[(true,(.dat (.prod (.int .i64) (.prod (.int .i64) (.int .i64))))),(false,(.dat (.int .i64)))],[],λx=>(D7 n).1 x.1 x.2⟩/\dH P gl 210 ⟨a1a,[(true,(.dat (.prod (.int .i64) (.prod (.int .i64) (.int .i64))))),(false,(.dat (.int .i64)))],[],λx=>(D7 n).2.1 x.1 x.2⟩/\dH P gl 287 ⟨b3q,[(true,(.dat (.prod (.int .i64) (.prod (.int .i64) (.int .i64))))),(false,(.dat (.int .i64)))],[],λx=>(D7 n).2.2 x.1 x.2.1 x.2.2⟩:=by
 intro n;induction n with
 |zero=>exact⟨(λw ok O vals x r _ _ _ _ _ _ h=>by cases h),(λw ok O vals x r _ _ _ _ _ _ h=>by cases h),(λw ok O vals x r _ _ _ _ _ _ h=>by cases h)⟩
 |succ n ih=>exact⟨dS f327 b3r c7Z (d1T (D7 n).1 (D7 n).2.1 (D7 n).2.2) c3E (by kernel_rfl) rfl trivial ⟨ih.2.1,VZ,trivial⟩ trivial λx=>by kernel_rfl,
  dS f210 a1a b8I (d1P (D7 n).1 (D7 n).2.1 (D7 n).2.2) c3z (by kernel_rfl) rfl trivial ⟨c2d,ih.2.2,ih.2.1,c2e,trivial⟩ trivial λx=>by kernel_rfl,
  dS f287 b3q c7X (d1R (D7 n).1 (D7 n).2.1 (D7 n).2.2) c3B (by kernel_rfl) rfl trivial ⟨ih.1,ih.2.1,trivial⟩ trivial λx=>by kernel_rfl⟩
theorem c1C:dH P gl 210 c8N:=(b8k lH).2.1
def b5k:FG 147 b9X:=dQ f147 c4T ⟨a7D,c1C,F7⟩
def c2b:FG 283 c9o:=dQ f283 c6g
def c2G:FG 355 c9R:=dQ f355 c6O
def c2p:FG 326 c9D:=dQ f326 c6y ⟨c2G,F7⟩
def b5L:FG 285 c0o:=dQ f285 c6i ⟨c2p,F7⟩
def c2c:FG 284 c9p:=dQ f284 c6h ⟨b5L,F7⟩
def c1B:FG 209 c8M:=dQ f209 c5x ⟨c2b,c2c,b5L,F7⟩
def c1j:FG 146 c8t:=dQ f146 c4S ⟨c1A,b5k,c1B,F7⟩
def d1C:FG 86 s86:=dQ f86 q86 ⟨c1i,c1j,b5k,F7⟩
def d1e:FG 42 s42:=dQ f42 q42 ⟨d1C,F7⟩
def b8O:FG 17 s17:=dQ f17 q17 ⟨d1c,d1d,d1e,F7⟩
def d4C:FG 8 s8:=dQ f8 q8 ⟨d0N,d0H,d0O,d4D,b8O,b5j,F7⟩
def d1s:FG 71 s71:=dQ f71 q71
def d0I:FG 13 s13:=dQ f13 q13
def b8T:FG 80 s80:=dQ f80 q80
def d1a:FG 38 s38:=dQ f38 q38 ⟨a5r,b8T,F7⟩
def a9w:FG 82 b4R:=dQ f82 b8G ⟨a5r,F7⟩
def b8i:FG 81 b8L:=dQ f81 b8F ⟨a9w,F7⟩
def d1b:FG 39 s39:=dQ f39 q39 ⟨a9w,b8i,b8T,b8U,b8V,F7⟩
def d0K:FG 16 s16:=dQ f16 q16 ⟨b8P,d1a,d1b,F7⟩
def c1c:FG 138 c8m:=dQ f138 c4J
def d1y:FG 76 s76:=dQ f76 q76 ⟨c1c,F7⟩
def d0X:FG 34 s34:=dQ f34 q34 ⟨d1y,F7⟩
def c1d:FG 139 c8n:=dQ f139 c4K
def d1z:FG 77 s77:=dQ f77 q77 ⟨c1d,F7⟩
def d0Y:FG 35 s35:=dQ f35 q35 ⟨d1z,F7⟩
def c1e:FG 140 c8o:=dQ f140 c4M
def c1z:FG 203 c8K:=dQ f203 c5t ⟨d1s,F7⟩
def c1f:FG 141 c8p:=dQ f141 c4N ⟨c1z,F7⟩
def d1A:FG 78 s78:=dQ f78 q78 ⟨c1e,c1f,F7⟩
def d0Z:FG 36 s36:=dQ f36 q36 ⟨d1A,F7⟩
def d0J:FG 15 s15:=dQ f15 q15 ⟨d0X,d0Y,d0Z,F7⟩
def b8Q:FG 43 s43:=dQ f43 q43
def b8R:FG 44 s44:=dQ f44 q44
def d1D:FG 87 s87:=dQ f87 q87 ⟨b8Q,b8R,F7⟩
def d1f:FG 45 s45:=dQ f45 q45 ⟨d1D,F7⟩
def d0L:FG 18 s18:=dQ f18 q18 ⟨b8Q,b8R,d1f,F7⟩
def d4z:FG 5 s5:=dQ f5 q5 ⟨d4A,d4B,d0I,d4C,b5j,d0K,d0J,b8O,d0L,F7⟩
end Gt
