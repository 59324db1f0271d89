import Derived.Test.YtnkflamioafojaaGreatDoorV3
import Derived.Test.YtnkflamioafojaaGreatDoorProg
import Derived.Test.YtnkflamioafojaaGreatDoorShelf
import Derived.Deep.QuietTactic
import Derived.BigQuiet
import Derived.Recover
set_option linter.all false
open Go Go.GP Go.Shelf Go.RowKit Go.Proofs Go.Proofs.Tryz
namespace Gt
set_option maxRecDepth 100000
noncomputable abbrev P:Program:=Go.Proofs.Tryz.prog
theorem a2M:a2L P tt=true:=by kernel_rfl
theorem Wp:∀t sh,eH eqs t=some sh->NJ P t sh:=a1a (by kernel_rfl)
theorem dS{f:FuncId}(fn:Func)(ps:List MG)(rt:Ret)(E:Env)(an:Ann){F:Y8 ps->Option rt.den}(h:(P.funcs[f]?,fn.body,fn.ntmps,fn.results.toList,Nat.ble (64*E.nt) 999936,YM P E.fs)=(some fn,some (Ls fn),E.nt,rt.rs.map (·.1),true,true))(ht:(E.tt,E.eqs)=(tt,eqs))(hm:a0G P E.ms)(hs:a8p P E.gl E.fs)(hp:a0H P E.pl)(hF:∀x,a7g E ps rt (Ls fn) an x=F x):
  cZ P E.gl f ⟨ps,rt.rs.map (·.2),rt.outs.map (·.2),F⟩:=by
 injection h with h1 h;injection h with h2 h;injection h with h3 h;injection h with h4 h;injection h with h5 h6;injection ht with t1 t2;exact PE h1 h2 h3 h4 (LM h5 (t1▸a2M) (t2▸Wp) h6 hm hs hp) λx r h=>(hF x).trans h
theorem b6r(b:Nat)(w:World)(h0:w.cell? ⟨b,0,none⟩=some (.pointer (some ⟨b,0,none⟩))):Calls Go.Proofs.Tryz.prog 55 #[.pointer (some ⟨b,0,none⟩)] w λe w' =>e= .returned (.tuple #[])/\w' =w:=by
 obtain⟨j,hj,_⟩:=gZ.1 (show Option.map (λx=>x.size) (Go.Proofs.Tryz.prog.info? 90)=some 2 by kernel_rfl);have t56:=Go.Proofs.Tryz.underlying90;have a56:=Go.Proofs.Tryz.isAgg90;have z56:=Go.Proofs.Tryz.sizeOf90;have v56:=Go.Proofs.Tryz.zeroValue90;have u56:=run_underlying Go.Proofs.Tryz.underlying90;have t53:=Go.Proofs.Tryz.underlying87;have a53:=Go.Proofs.Tryz.isAgg87;have z53:=Go.Proofs.Tryz.sizeOf87;have v53:=Go.Proofs.Tryz.zeroValue87;have u53:=run_underlying Go.Proofs.Tryz.underlying87;have t4:=Go.Proofs.Tryz.underlying4;have a4:=Go.Proofs.Tryz.isAgg4;have z4:=Go.Proofs.Tryz.sizeOf4;have v4:=Go.Proofs.Tryz.zeroValue4;have u4:=run_underlying Go.Proofs.Tryz.underlying4;have t123:=Go.Proofs.Tryz.underlying186;have a123:=Go.Proofs.Tryz.isAgg186;have z123:=Go.Proofs.Tryz.sizeOf186;have v123:=Go.Proofs.Tryz.zeroValue186;have u123:=run_underlying Go.Proofs.Tryz.underlying186
 go_enter Go.Proofs.Tryz.func55,(show Go.Proofs.Tryz.f55.ntmps=20 by kernel_rfl)
 go_wp2
 rw[Lib.run_neq_ptr_same w _ Go.Proofs.Tryz.underlying87 hj]
 go_wp2
 go_end0
 exact⟨rfl,rfl⟩
theorem b3r(b:Nat)(w:World)(h0:w.cell? ⟨b,0,none⟩=some (.pointer none))(hsh:w.shape? b=some (90,2))(hfz:w.frozen? ⟨b,0,none⟩=false):Calls Go.Proofs.Tryz.prog 55 #[.pointer (some ⟨b,0,none⟩)] w λe w' =>e= .returned (.tuple #[])/\w' =w.setCell ⟨b,0,none⟩ (.pointer (some ⟨b,0,none⟩)):=by
 obtain⟨j,hj,hjs⟩:=gZ.1 (show Option.map (λx=>x.size) (Go.Proofs.Tryz.prog.info? 90)=some 2 by kernel_rfl);have t56:=Go.Proofs.Tryz.underlying90;have a56:=Go.Proofs.Tryz.isAgg90;have z56:=Go.Proofs.Tryz.sizeOf90;have v56:=Go.Proofs.Tryz.zeroValue90;have u56:=run_underlying Go.Proofs.Tryz.underlying90;have t53:=Go.Proofs.Tryz.underlying87;have a53:=Go.Proofs.Tryz.isAgg87;have z53:=Go.Proofs.Tryz.sizeOf87;have v53:=Go.Proofs.Tryz.zeroValue87;have u53:=run_underlying Go.Proofs.Tryz.underlying87;have t4:=Go.Proofs.Tryz.underlying4;have a4:=Go.Proofs.Tryz.isAgg4;have z4:=Go.Proofs.Tryz.sizeOf4;have v4:=Go.Proofs.Tryz.zeroValue4;have u4:=run_underlying Go.Proofs.Tryz.underlying4;have t123:=Go.Proofs.Tryz.underlying186;have a123:=Go.Proofs.Tryz.isAgg186;have z123:=Go.Proofs.Tryz.sizeOf186;have v123:=Go.Proofs.Tryz.zeroValue186;have u123:=run_underlying Go.Proofs.Tryz.underlying186
 go_enter Go.Proofs.Tryz.func55,(show Go.Proofs.Tryz.f55.ntmps=20 by kernel_rfl)
 go_wp2
 rw[Lib.run_to_unsafe w ⟨b,0,none⟩ Go.Proofs.Tryz.underlying87 Go.Proofs.Tryz.underlying186 hj (by rw[hjs];decide) hsh (Nat.zero_lt_succ 1)];simp only[Result.andThen];rw[oO]
 go_wp2
 rw[run_callFunc_extern Go.Proofs.Tryz.func107 (by kernel_rfl) (by kernel_rfl) (by kernel_rfl) (e:=Extern.AbiNoEscape.same) (by kernel_rfl)];rw[Lib.run_noEscape];simp only[Result.andThen];rw[oO]
 go_wp2
 rw[Lib.run_from_unsafe w ⟨b,0,none⟩ Go.Proofs.Tryz.underlying186 Go.Proofs.Tryz.underlying87 hj hsh (by kernel_rfl)];simp only[Result.andThen];rw[oO]
 go_wp2
 go_end0
 exact⟨rfl,rfl⟩
def b4u:Go.Shelf.Ren:=⟨λ|166=>25|167=>26|240=>55|276=>107|n=>n,λ|72=>90|70=>87|37=>88|164=>186|75=>94|n=>n,λn=>n⟩
theorem c0V:Lw Go.Proofs.Tryz.prog b4u where
 mixed:=by kernel_rfl
 f166:=Go.Proofs.Tryz.func25.trans (congrArg some (by kernel_rfl))
 t72:=Go.Proofs.Tryz.underlying90
 a72:=Go.Proofs.Tryz.isAgg90
 z72:=Go.Proofs.Tryz.sizeOf90
 v72:=Go.Proofs.Tryz.zeroValue90
 t70:=Go.Proofs.Tryz.underlying87
 a70:=Go.Proofs.Tryz.isAgg87
 z70:=Go.Proofs.Tryz.sizeOf87
 v70:=Go.Proofs.Tryz.zeroValue87
 t37:=Go.Proofs.Tryz.underlying88
 a37:=Go.Proofs.Tryz.isAgg88
 z37:=Go.Proofs.Tryz.sizeOf88
 v37:=Go.Proofs.Tryz.zeroValue88
 t3:=Go.Proofs.Tryz.underlying3
 a3:=Go.Proofs.Tryz.isAgg3
 z3:=Go.Proofs.Tryz.sizeOf3
 v3:=Go.Proofs.Tryz.zeroValue3
 t9:=Go.Proofs.Tryz.underlying9
 a9:=Go.Proofs.Tryz.isAgg9
 z9:=Go.Proofs.Tryz.sizeOf9
 v9:=Go.Proofs.Tryz.zeroValue9
 t4:=Go.Proofs.Tryz.underlying4
 a4:=Go.Proofs.Tryz.isAgg4
 z4:=Go.Proofs.Tryz.sizeOf4
 v4:=Go.Proofs.Tryz.zeroValue4
 t164:=Go.Proofs.Tryz.underlying186
 a164:=Go.Proofs.Tryz.isAgg186
 z164:=Go.Proofs.Tryz.sizeOf186
 v164:=Go.Proofs.Tryz.zeroValue186
 e240:=enters_of Go.Proofs.Tryz.func55 (by kernel_rfl) rfl
 used:=b6r
 fresh:=b3r
theorem c8V:Go.Proofs.Builder.Extra Go.Proofs.Tryz.prog b4u where
 sizeBuilder:=by kernel_rfl
 liesBuilder:=by kernel_rfl
 t5:=Go.Proofs.Tryz.underlying5
 a5:=Go.Proofs.Tryz.isAgg5
 z5:=Go.Proofs.Tryz.sizeOf5
 v5:=Go.Proofs.Tryz.zeroValue5
 infoByte:=by kernel_rfl
 cellsByte:=by kernel_rfl
 sizeByte:=by kernel_rfl
 neB5:=by decide
theorem b6u:Go.Proofs.Tryz.prog.funcs[b4u.f 167]? =some (Body.n167 b4u):=Go.Proofs.Tryz.func26.trans (congrArg some (by kernel_rfl))
theorem b6B(x y:Value)(w:World):CallsD Go.Proofs.Tryz.prog 63 #[x,y] .returning w λe u' w' =>e= .returned (.tuple #[])/\u' = .returning/\w' =w:=by
 have hr:Go.Proofs.Tryz.f63.results=#[]:=by kernel_rfl
 refine callsD_of_wpS Go.Proofs.Tryz.func63 rfl λc₀ cs hu=>?_;apply wpS_seq;apply wpS_region;simp[wpOpsS,go_sem,recoverD,hu,Exit.thenS];apply wpS_seq;apply wpS_seq;apply wpS_region;simp[wpOpsS,go_sem,Exit.thenS];refine wpS_cond (t:=true) (by simp[Act.eval,Array.replicate]) ?_;simp only[if_true];refine wpS_of_wp (wp_ret ?_);cases c₀;simp_all [bodyPostS,results,Exit.thenS]
theorem c9l:PlP Go.Proofs.Tryz.prog 63 2 0:=λcap hc=>by
 obtain⟨x,y,rfl⟩:∃x y,cap=#[x,y]:=by rcases cap with⟨_|⟨x,_|⟨y,_|⟨z,l⟩⟩⟩⟩<;>simp at hc;exact⟨x,y,rfl⟩
 refine⟨_,_,63,#[x,y],rfl,λw=>?_,λw=>(b6B x y w).mono ?_⟩
 .rfl
 .rintro e u' w' ⟨rfl,rfl,rfl⟩;exact⟨⟨_,rfl⟩,rfl,rfl⟩
theorem dQ{f:FuncId}(fn:Func)(q:FQ){F:Y8 q.ps->Option q.rt.den}(hs:a8p P q.E.gl q.E.fs:=by exact trivial)(h:(P.funcs[f]?,fn.body,fn.ntmps,fn.results.toList,Nat.ble (64*q.E.nt) 999936,YM P q.E.fs)=(some fn,some (Ls fn),q.E.nt,q.rt.rs.map (·.1),true,true):=by kernel_rfl)(ht:(q.E.tt,q.E.eqs)=(tt,eqs):=by rfl)(hm:a0G P q.E.ms:=by exact trivial)(hp:a0H P q.E.pl:=by exact trivial)(hF:∀x,a7g q.E q.ps q.rt (Ls fn) q.an x=F x:=by intro x;kernel_rfl):
  cZ P q.E.gl f ⟨q.ps,q.rt.rs.map (·.2),q.rt.outs.map (·.2),F⟩:=dS fn q.ps q.rt q.E q.an h ht hm hs hp hF
abbrev FG(n:FuncId)(s:FSpec):=cZ P gl n s
def a0h:FG 154 b0R:=dQ f154 c1W
def a0i:FG 213 b0X:=dQ f213 c2A
def b1F:FG 155 b7e:=dQ f155 c1X ⟨a0h,a0i,I4⟩
def b8i:FG 156 c5G:=dQ f156 c1Y
def RN:FG 92 s92:=dQ f92 q92 ⟨a0h,b1F,b8i,I4⟩
def a2q:FG 158 a4t:=dQ f158 a9Z
def b1Q:FG 214 b0Y:=dQ f214 b0g ⟨a2q,I4⟩
def b1G:FG 157 b0S:=dQ f157 a9Y ⟨b1Q,I4⟩
def b2E:FG 93 s93:=dQ f93 q93 ⟨a2q,b1G,I4⟩
def a4T:FG 211 b4L:=dQ f211 c2y
def b8g:FG 149 c5E:=dQ f149 c1S ⟨a4T,I4⟩
def c8E:FG 90 s90:=dQ f90 q90 ⟨RN,b2E,b8g,I4⟩
def c8g:FG 47 s47:=dQ f47 q47 ⟨c8E,I4⟩
def Qd:FG 150 a2j:=dQ f150 c1T
def TJ:FG 106 a4r:=dQ f106 c1z ⟨Qd,I4⟩
def a4M:FG 142 b4E:=dQ f142 c1M
def b8V:FG 289 c6A:=dQ f289 c3l ⟨a4M,I4⟩
def b8w:FG 212 c5X:=dQ f212 c2z ⟨b8V,I4⟩
def b8h:FG 153 c5F:=dQ f153 c1V ⟨b8w,I4⟩
def a2p:FG 152 a4s:=dQ f152 a9X ⟨b8h,I4⟩
def b1D:FG 151 b0P:=dQ f151 a9V ⟨a2p,I4⟩
def c8F:FG 91 s91:=dQ f91 q91 ⟨Qd,TJ,a4M,a2p,b1D,I4⟩
def a2r:FG 160 a4u:=dQ f160 b0b
def b1S:FG 215 b1a:=dQ f215 b0i ⟨a2r,I4⟩
def b1H:FG 159 b0T:=dQ f159 b0a ⟨b1S,I4⟩
def b5X:FG 94 s94:=dQ f94 q94 ⟨a2r,b1H,I4⟩
def c8h:FG 48 s48:=dQ f48 q48 ⟨c8F,RN,b2E,b5X,I4⟩
def a2s:FG 162 a4v:=dQ f162 b0d
def b1T:FG 216 b1b:=dQ f216 b0j ⟨a2s,I4⟩
def b1I:FG 161 b0U:=dQ f161 b0c ⟨b1T,I4⟩
def a2t:FG 217 a4y:=dQ f217 b0k
def b2e:FG 290 b1i:=dQ f290 b0r ⟨a2t,I4⟩
def b1U:FG 218 b1c:=dQ f218 b0l ⟨b2e,I4⟩
def b8j:FG 163 c5H:=dQ f163 c1Z ⟨a2t,RN,b1U,Qd,I4⟩
def b8x:FG 219 c5Y:=dQ f219 c2B
def b8k:FG 164 c5I:=dQ f164 c2a ⟨b8x,I4⟩
def a2v:FG 221 a4z:=dQ f221 b0n
def b2f:FG 291 b1j:=dQ f291 b0s ⟨a2v,I4⟩
def b1V:FG 220 b1d:=dQ f220 b0m ⟨b2f,I4⟩
theorem b8W:cZ Go.Proofs.Tryz.prog gl 292 c6B:=UU Go.Proofs.Tryz.strings_Contains_one
def b8y:FG 222 c5Z:=dQ f222 c2C ⟨b8W,I4⟩
def TK:FG 172 a4w:=dQ f172 c2h
def b1W:FG 227 b7l:=dQ f227 c2H ⟨TK,I4⟩
def a4O:FG 171 b4G:=dQ f171 c2g
def b9B:FG 366 c7i:=dQ f366 c4d ⟨TJ,I4⟩
def b9C:FG 367 c7j:=dQ f367 c4e
def b2o:FG 368 b7A:=dQ f368 c4f ⟨Qd,I4⟩
def b2p:FG 371 b7B:=dQ f371 c4i
def b9D:FG 369 c7k:=dQ f369 c4g ⟨b2p,Qd,I4⟩
def b2t:FG 409 b7F:=dQ f409 c4x
def b9E:FG 370 c7l:=dQ f370 c4h ⟨b2o,b2t,I4⟩
def b9P:FG 410 c7w:=dQ f410 c4y
def b9F:FG 372 c7m:=dQ f372 c4j ⟨b2t,b9P,I4⟩
def b9k:FG 334 c6R:=dQ f334 c3H ⟨b9B,b9C,b2o,b9D,b9E,b2p,b9F,I4⟩
def b8X:FG 293 c6C:=dQ f293 c3n ⟨b1W,a4O,TK,b9k,I4⟩
def b8z:FG 223 c6a:=dQ f223 c2E ⟨b8X,I4⟩
def b8l:FG 165 c5J:=dQ f165 c2b ⟨RN,a2v,b1V,b8y,b8z,I4⟩
theorem b2k:cZ Go.Proofs.Tryz.prog gl 324 b7w:=a5c Go.Proofs.Tryz.slices_Sort_int Go.Proofs.Tryz.slices_Sort_int_none
theorem b2l:cZ Go.Proofs.Tryz.prog gl 325 b7x:=Yb Go.Proofs.Tryz.slices_Compact_int Go.Proofs.Tryz.slices_Compact_int_empty
def b9r:FG 352 c6Y:=dQ f352 c3Q ⟨b2k,b2l,I4⟩
def b9d:FG 323 c6K:=dQ f323 c3y ⟨b9r,I4⟩
def b8P:FG 278 c6u:=dQ f278 c3e ⟨b9d,I4⟩
def b8Q:FG 279 c6v:=dQ f279 c3f ⟨b2k,b2l,I4⟩
def b1N:FG 204 b7k:=dQ f204 c2t ⟨b8P,b8Q,I4⟩
def b8B:FG 225 c6c:=dQ f225 c2G
def b8n:FG 167 c5M:=dQ f167 c2d ⟨b1N,b8B,I4⟩
def b8A:FG 224 c6b:=dQ f224 c2F
def b8m:FG 166 c5K:=dQ f166 c2c ⟨b8A,I4⟩
def c8G:FG 95 s95:=dQ f95 q95 ⟨b2E,b5X,a2s,b1I,RN,b8j,b8k,b8l,b8n,b8m,I4⟩
def c8i:FG 49 s49:=dQ f49 q49 ⟨c8G,I4⟩
def a2u:FG 22 s22:=dQ f22 q22 ⟨c8g,c8h,c8i,I4⟩
def c7Q:FG 19 s19:=dQ f19 q19
def d1X:FG 6 s6:=dQ f6 q6 ⟨c7Q,I4⟩
def d1Y:FG 7 s7:=dQ f7 q7
def c7R:FG 20 s20:=dQ f20 q20
def c7Y:FG 30 s30:=dQ f30 q30
theorem c8n:cZ Go.Proofs.Tryz.prog gl 64 s64:=ZX Go.Proofs.Tryz.strings_Count_one
def Qc:FG 128 a2i:=dQ f128 c1B
def Zx:FG 67 s67:=dQ f67 q67 ⟨Qc,I4⟩
theorem b1z:cZ Go.Proofs.Tryz.prog gl 126 b7a:=a7d (g:=0) Go.Proofs.Tryz.strings_Cut (by kernel_rfl)
def XG:FG 65 s65:=dQ f65 q65 ⟨Zx,b1z,I4⟩
def a4K:FG 127 b4C:=dQ f127 c1A ⟨XG,RN,Zx,I4⟩
def a6F:FG 97 s97:=dQ f97 q97
theorem c8c:cZ Go.Proofs.Tryz.prog gl 37 s37:=Gy (E:=⟨8,eqs,tt,gl,[],[],[],[],[],[],[]⟩) (f:=37) (fn:=Go.Proofs.Tryz.f37) (c:=Ls Go.Proofs.Tryz.f37) (t:=.str) (by kernel_rfl) (by kernel_rfl) (by kernel_rfl) (by kernel_rfl)
  (LM (by kernel_rfl) a2M Wp (by kernel_rfl) trivial trivial trivial) (λb=>by cases b<;>kernel_rfl) (λxs=>by kernel_rfl)
def b5W:FG 88 s88:=dQ f88 q88 ⟨c8c,I4⟩
def b8o:FG 168 c5N:=dQ f168 c2e
def b5Z:FG 98 s98:=dQ f98 q98 ⟨b5W,b8o,I4⟩
theorem b2g:cZ Go.Proofs.Tryz.prog gl 297 b7s:=UW Go.Proofs.Tryz.stringslite_HasPrefix
def b9l:FG 343 c6S:=dQ f343 c3I ⟨b2g,I4⟩
def b8Y:FG 312 c6F:=dQ f312 c3p ⟨b9l,I4⟩
def b8Z:FG 313 c6G:=dQ f313 c3q
def b1Z:FG 269 b7p:=dQ f269 c2X ⟨b8Y,b8Z,I4⟩
def a4Q:FG 197 b4I:=dQ f197 c2n ⟨b1Z,I4⟩
def b7V:FG 129 c5s:=dQ f129 c1C ⟨XG,a4Q,Qc,Zx,I4⟩
def b8K:FG 270 c6p:=dQ f270 c2Y
def b8H:FG 237 c6i:=dQ f237 c2S
def a4P:FG 175 b4H:=dQ f175 c2k ⟨b8H,I4⟩
def b8G:FG 236 c6h:=dQ f236 c2R
def b1J:FG 174 b7f:=dQ f174 c2j ⟨b8G,I4⟩
def b2a:FG 271 b7q:=dQ f271 c2Z ⟨a4P,b1J,I4⟩
def a4R:FG 198 b4J:=dQ f198 c2o ⟨b8K,b2a,I4⟩
def a4L:FG 130 b4D:=dQ f130 c1E ⟨XG,a4R,Qc,I4⟩
def b9a:FG 314 c6H:=dQ f314 c3r
theorem b8J:cZ Go.Proofs.Tryz.prog gl 265 c6o:=UX Go.Proofs.Tryz.stringslite_IndexByte
def b9p:FG 347 c6W:=dQ f347 c3N ⟨b8J,I4⟩
def b9m:FG 344 c6T:=dQ f344 c3J ⟨b1F,I4⟩
def a4W:FG 385 b4O:=dQ f385 c4m ⟨a0i,I4⟩
def b9H:FG 384 c7o:=dQ f384 c4l ⟨a4W,I4⟩
def a4V:FG 239 b4N:=dQ f239 c2T ⟨b2g,I4⟩
def b9I:FG 386 c7p:=dQ f386 c4n ⟨a4V,a4W,I4⟩
def b2h:FG 299 b7t:=dQ f299 c3o
def b2j:FG 322 b7v:=dQ f322 c3x ⟨b2h,b1Z,I4⟩
def b9J:FG 387 c7q:=dQ f387 c4o ⟨a4R,b2j,a4Q,I4⟩
def b9n:FG 345 c6U:=dQ f345 c3K ⟨b9H,a4W,b9I,a4V,a0h,a0i,b9J,I4⟩
theorem b9K:cZ Go.Proofs.Tryz.prog gl 388 c7r:=WL Go.Proofs.Tryz.strings_IndexAny_laid
def b9o:FG 346 c6V:=dQ f346 c3M ⟨b9K,I4⟩
def b9b:FG 315 c6I:=dQ f315 c3s ⟨a0h,a0i,b9p,b9m,b9n,b9o,a4V,I4⟩
def b8L:FG 272 c6q:=dQ f272 c3a ⟨b9a,b9b,I4⟩
def Qe:FG 348 a2k:=dQ f348 c3O
def a0m:FG 316 b1l:=dQ f316 c3t ⟨Qe,I4⟩
def b2q:FG 389 b7C:=dQ f389 c4p
def TM:FG 319 a4C:=dQ f319 c3v
def TL:FG 274 a4A:=dQ f274 c3b
def b2i:FG 318 b7u:=dQ f318 c3u ⟨a0m,TL,I4⟩
def b2u:FG 421 b7H:=dQ f421 c4z ⟨b2i,I4⟩
def a0k:FG 232 b1f:=dQ f232 c2N
def b9Q:FG 422 c7y:=dQ f422 c4A ⟨a0k,I4⟩
def b2v:FG 439 b7I:=dQ f439 c4K ⟨Qe,RN,TL,a4T,I4⟩
def a4U:FG 233 b4M:=dQ f233 c2O
def c0d:FG 453 c7J:=dQ f453 c4Y ⟨a4U,I4⟩
def b9X:FG 440 c7F:=dQ f440 c4M ⟨Qe,c0d,TL,I4⟩
def a2y:FG 441 a4F:=dQ f441 b0u
def b1R:FG 214 b0Z:=dQ f214 b0h ⟨a2y,I4⟩
def b9R:FG 424 c7z:=dQ f424 c4B ⟨Qe,RN,TL,a2y,b1R,b2v,TM,a4T,I4⟩
def b1X:FG 235 b7m:=dQ f235 c2Q
def b9q:FG 350 c6X:=dQ f350 c3P ⟨b1X,I4⟩
theorem b5c:∀n,cZ P gl 273 ⟨Ze,[(false,(.dat .bool))],[(true,(.pair (.dat (.sl (.prod (.int .i64) (.prod .str (.prod (.int .i64) (.int .i64)))))) (.pair (.dat (.int .i64)) (.pair (.dat (.int .i64)) (.pair (.dat (.prod (.sl (.prod .str (.sl .str))) (.prod (.sl .str) (.prod (.sl .str) (.prod (.sl .str) (.sl .str)))))) (.pair (.own (.prod (.int .i64) (.int .i64))) (.pair (.dat (.int .i64)) (.dat (.int .i64)))))))))],λx=>(o8 n).1 x⟩/\cZ P gl 317 ⟨a6l,[(false,(.dat .bool))],[(true,(.pair (.dat (.sl (.prod (.int .i64) (.prod .str (.prod (.int .i64) (.int .i64)))))) (.pair (.dat (.int .i64)) (.pair (.dat (.int .i64)) (.pair (.dat (.prod (.sl (.prod .str (.sl .str))) (.prod (.sl .str) (.prod (.sl .str) (.prod (.sl .str) (.sl .str)))))) (.pair (.own (.prod (.int .i64) (.int .i64))) (.pair (.dat (.int .i64)) (.dat (.int .i64)))))))))],λx=>(o8 n).2.1 x.1 x.2⟩/\cZ P gl 349 ⟨a6m,[(false,(.dat .bool))],[(true,(.pair (.dat (.sl (.prod (.int .i64) (.prod .str (.prod (.int .i64) (.int .i64)))))) (.pair (.dat (.int .i64)) (.pair (.dat (.int .i64)) (.pair (.dat (.prod (.sl (.prod .str (.sl .str))) (.prod (.sl .str) (.prod (.sl .str) (.prod (.sl .str) (.sl .str)))))) (.pair (.own (.prod (.int .i64) (.int .i64))) (.pair (.dat (.int .i64)) (.dat (.int .i64)))))))))],λx=>(o8 n).2.2.1 x⟩/\cZ P gl 390 ⟨a9S,[(false,(.dat .bool))],[(true,(.pair (.dat (.sl (.prod (.int .i64) (.prod .str (.prod (.int .i64) (.int .i64)))))) (.pair (.dat (.int .i64)) (.pair (.dat (.int .i64)) (.pair (.dat (.prod (.sl (.prod .str (.sl .str))) (.prod (.sl .str) (.prod (.sl .str) (.prod (.sl .str) (.sl .str)))))) (.pair (.own (.prod (.int .i64) (.int .i64))) (.pair (.dat (.int .i64)) (.dat (.int .i64)))))))))],λx=>(o8 n).2.2.2.1 x⟩/\cZ P gl 423 ⟨a9T,[(false,(.dat .bool))],[(true,(.pair (.dat (.sl (.prod (.int .i64) (.prod .str (.prod (.int .i64) (.int .i64)))))) (.pair (.dat (.int .i64)) (.pair (.dat (.int .i64)) (.pair (.dat (.prod (.sl (.prod .str (.sl .str))) (.prod (.sl .str) (.prod (.sl .str) (.prod (.sl .str) (.sl .str)))))) (.pair (.own (.prod (.int .i64) (.int .i64))) (.pair (.dat (.int .i64)) (.dat (.int .i64)))))))))],λx=>(o8 n).2.2.2.2 x.1 x.2⟩:=by
 intro n;induction n with
 |zero=>exact⟨(λw ok O vals x r _ _ _ _ _ _ h=>by cases h),(λw ok O vals x r _ _ _ _ _ _ h=>by cases h),(λw ok O vals x r _ _ _ _ _ _ h=>by cases h),(λw ok O vals x r _ _ _ _ _ _ h=>by cases h),(λw ok O vals x r _ _ _ _ _ _ h=>by cases h)⟩
 |succ n ih=>exact⟨dS f273 Ze b5P (c9a (o8 n).1 (o8 n).2.1 (o8 n).2.2.1 (o8 n).2.2.2.1 (o8 n).2.2.2.2) c0y (by kernel_rfl) rfl trivial ⟨a0m,ih.2.1,ih.1,b2i,TM,trivial⟩ trivial λx=>by kernel_rfl,
  dS f317 a6l c5k (c9d (o8 n).1 (o8 n).2.1 (o8 n).2.2.1 (o8 n).2.2.2.1 (o8 n).2.2.2.2) c0A (by kernel_rfl) rfl trivial ⟨ih.2.2.1,Qe,b9q,ih.2.1,TM,trivial⟩ trivial λx=>by kernel_rfl,
  dS f349 a6m c5m (c9f (o8 n).1 (o8 n).2.1 (o8 n).2.2.1 (o8 n).2.2.2.1 (o8 n).2.2.2.2) c0C (by kernel_rfl) rfl trivial ⟨a0m,Qe,b2q,TM,ih.2.2.1,ih.2.2.2.1,trivial⟩ trivial λx=>by kernel_rfl,
  dS f390 a9S c5n (c9g (o8 n).1 (o8 n).2.1 (o8 n).2.2.1 (o8 n).2.2.2.1 (o8 n).2.2.2.2) c0D (by kernel_rfl) rfl trivial ⟨Qe,b2q,TM,a0m,ih.1,b2u,TL,b9Q,ih.2.2.2.2,b9R,trivial⟩ trivial λx=>by kernel_rfl,
  dS f423 a9T c5o (c9h (o8 n).1 (o8 n).2.1 (o8 n).2.2.1 (o8 n).2.2.2.1 (o8 n).2.2.2.2) c0E (by kernel_rfl) rfl trivial ⟨TM,b2v,b2u,ih.1,b9X,trivial⟩ trivial λx=>by kernel_rfl⟩
theorem b8M:cZ P gl 273 c6r:=(b5c aH).1
def a4N:FG 170 b4F:=dQ f170 c2f ⟨b1W,I4⟩
def b1Y:FG 241 b7n:=dQ f241 c2V ⟨TJ,I4⟩
theorem b8p:cZ Go.Proofs.Tryz.prog gl 169 c5O:=a3T (g:=2) Go.Proofs.Tryz.strconv_Itoa (by kernel_rfl) (by kernel_rfl)
def a6G:FG 99 s99:=dQ f99 q99 ⟨b8p,I4⟩
theorem b1K:cZ Go.Proofs.Tryz.prog gl 176 b7g:=Z_ Go.Proofs.Tryz.strings_Repeat
def b8I:FG 242 c6j:=dQ f242 c2W ⟨b2h,a6G,b1K,I4⟩
def a0e:FG 101 b0M:=dQ f101 c1t
def a0f:FG 102 b0N:=dQ f102 c1u ⟨a0e,b1J,a4P,I4⟩
def b7T:FG 103 c5p:=dQ f103 c1w ⟨a6G,b1K,I4⟩
def a6E:FG 53 s53:=dQ f53 q53 ⟨a0e,a0f,b7T,I4⟩
def b1L:FG 177 b7h:=dQ f177 c2l ⟨Qd,b1Y,a6G,b8I,a6E,I4⟩
def a0j:FG 231 b1e:=dQ f231 c2M
def b8C:FG 228 c6d:=dQ f228 c2I ⟨b1L,a0j,I4⟩
def b8D:FG 229 c6e:=dQ f229 c2J ⟨a0k,a0j,I4⟩
def b8E:FG 230 c6f:=dQ f230 c2K ⟨a0k,a4U,a0j,I4⟩
def b8F:FG 234 c6g:=dQ f234 c2P
def b8q:FG 173 c5P:=dQ f173 c2i ⟨b8C,b8D,b8E,a0j,a0k,a4U,b8F,b1X,I4⟩
def b1y:FG 100 b6Z:=dQ f100 c1s ⟨a4N,a4O,TK,b8q,I4⟩
def b8r:FG 199 c5R:=dQ f199 c2p ⟨b8L,b8M,TL,a4N,b1y,I4⟩
def b7W:FG 131 c5t:=dQ f131 c1F ⟨b8r,Qc,I4⟩
def b9c:FG 320 c6J:=dQ f320 c3w
def b8N:FG 275 c6s:=dQ f275 c3c ⟨b9c,I4⟩
def b1M:FG 200 b7j:=dQ f200 c2r ⟨b8N,I4⟩
def b5Y:FG 96 s96:=dQ f96 q96
def b7X:FG 132 c5u:=dQ f132 c1G ⟨b1M,b5Y,Zx,I4⟩
def c8o:FG 66 s66:=dQ f66 q66 ⟨a4K,a6F,Qc,b5Z,XG,Zx,b7V,a4L,b1z,b7W,b7X,I4⟩
theorem b7Y:cZ Go.Proofs.Tryz.prog gl 133 c5v:=a2C (g:=0) Go.Proofs.Tryz.strings_Split (by kernel_rfl)
def c8p:FG 68 s68:=dQ f68 q68 ⟨b7Y,I4⟩
def c8q:FG 69 s69:=dQ f69 q69 ⟨a4K,XG,a4L,I4⟩
def a0g:FG 104 b0O:=dQ f104 c1x
def b8O:FG 277 c6t:=dQ f277 c3d ⟨a4Q,b2j,b1M,a4R,I4⟩
def b8s:FG 202 c5S:=dQ f202 c2s ⟨Qd,b8O,b1Y,I4⟩
def b7Z:FG 134 c5w:=dQ f134 c1H ⟨b8s,Qc,I4⟩
def c8r:FG 70 s70:=dQ f70 q70 ⟨a4K,a0g,Qc,XG,a4L,b7Z,TJ,I4⟩
def c7Z:FG 31 s31:=dQ f31 q31 ⟨c8n,XG,c8o,c8p,Zx,c8q,c8r,I4⟩ (hp:=⟨c9l,I4⟩)
def b5T:FG 11 s11:=dQ f11 q11 ⟨a2u,c7Y,c7Z,I4⟩
theorem b8f:cZ Go.Proofs.Tryz.prog gl 148 c5C:=Gy (E:=⟨8,eqs,tt,gl,[],[],[],[],[],[],[]⟩) (f:=148) (fn:=Go.Proofs.Tryz.f148) (c:=Ls Go.Proofs.Tryz.f148) (t:=(.prod (.prod (.int .i64) (.int .i64)) (.prod (.int .i64) (.prod (.int .i64) (.int .i64))))) (by kernel_rfl) (by kernel_rfl) (by kernel_rfl) (by kernel_rfl)
  (LM (by kernel_rfl) a2M Wp (by kernel_rfl) trivial trivial trivial) (λb=>by cases b<;>kernel_rfl) (λxs=>by kernel_rfl)
def c8C:FG 89 s89:=dQ f89 q89 ⟨b8f,I4⟩
theorem c8y:cZ Go.Proofs.Tryz.prog gl 84 s84:=Gy (E:=⟨8,eqs,tt,gl,[],[],[],[],[],[],[]⟩) (f:=84) (fn:=Go.Proofs.Tryz.f84) (c:=Ls Go.Proofs.Tryz.f84) (t:=(.prod .str (.prod (.int .i64) (.int .i64)))) (by kernel_rfl) (by kernel_rfl) (by kernel_rfl) (by kernel_rfl)
  (LM (by kernel_rfl) a2M Wp (by kernel_rfl) trivial trivial trivial) (λb=>by cases b<;>kernel_rfl) (λxs=>by kernel_rfl)
theorem c8x:cZ Go.Proofs.Tryz.prog gl 83 s83:=Gy (E:=⟨8,eqs,tt,gl,[],[],[],[],[],[],[]⟩) (f:=83) (fn:=Go.Proofs.Tryz.f83) (c:=Ls Go.Proofs.Tryz.f83) (t:=(.prod (.int .i64) (.int .i64))) (by kernel_rfl) (by kernel_rfl) (by kernel_rfl) (by kernel_rfl)
  (LM (by kernel_rfl) a2M Wp (by kernel_rfl) trivial trivial trivial) (λb=>by cases b<;>kernel_rfl) (λxs=>by kernel_rfl)
def b5V:FG 46 s46:=dQ f46 q46 ⟨b5W,c8C,c8y,c8x,I4⟩
def b8a:FG 135 c5x:=dQ f135 c1I
def b1A:FG 136 b7b:=dQ f136 c1J
def c8t:FG 72 s72:=dQ f72 q72 ⟨a6F,b8a,b1A,I4⟩
def b1B:FG 137 b7c:=dQ f137 c1K
def c8u:FG 73 s73:=dQ f73 q73 ⟨a6F,b1A,b1B,I4⟩
def c8v:FG 74 s74:=dQ f74 q74 ⟨a0g,I4⟩
def c8w:FG 75 s75:=dQ f75 q75 ⟨a0g,b1B,I4⟩
def c8b:FG 33 s33:=dQ f33 q33 ⟨b5V,c8t,c8u,c8v,c8w,a2u,I4⟩
def b5U:FG 14 s14:=dQ f14 q14 ⟨a2u,c8b,I4⟩
def c7S:FG 21 s21:=dQ f21 q21 ⟨b5V,b5U,I4⟩
def c8j:FG 50 s50:=dQ f50 q50
def c8k:FG 51 s51:=dQ f51 q51 ⟨RN,b5Y,I4⟩
def c8l:FG 52 s52:=dQ f52 q52 ⟨a6F,b5Z,a6G,a6E,b1y,I4⟩
def b7U:FG 105 c5q:=dQ f105 c1y ⟨b1L,I4⟩
def c8m:FG 54 s54:=dQ f54 q54 ⟨a0g,b7U,TJ,a6E,I4⟩
def c7T:FG 23 s23:=dQ f23 q23 ⟨c8j,c8k,c8l,a6E,c8m,I4⟩
theorem c7U:cZ Go.Proofs.Tryz.prog gl 24 s24:=a3k Go.Proofs.Tryz.lays170
theorem c7V:cZ Go.Proofs.Tryz.prog gl 25 s25:=XX c0V c8V
theorem c7W:cZ Go.Proofs.Tryz.prog gl 26 s26:=ZO c0V c8V b6u
theorem c7X:cZ Go.Proofs.Tryz.prog gl 27 s27:=XW Go.Proofs.Tryz.lays169 Go.Proofs.Tryz.Builder_Extra_169
def c8D:FG 9 s9:=dQ f9 q9 ⟨a2u,c7T,c7U,c7V,c7W,c7X,I4⟩
def b8b:FG 143 c5y:=dQ f143 c1N ⟨TJ,I4⟩
def b8c:FG 144 c5z:=dQ f144 c1O
def c8A:FG 85 s85:=dQ f85 q85 ⟨b8b,b8c,I4⟩
def c8d:FG 40 s40:=dQ f40 q40 ⟨a2u,c8A,I4⟩
def c8e:FG 41 s41:=dQ f41 q41
def b2C:FG 474 b1o:=dQ f474 b0v
def a4S:FG 206 b4K:=dQ f206 c2u
def b2B:FG 472 b7O:=dQ f472 c4Z
def a5b:FG 475 b4T:=dQ f475 c5b
theorem c0W:EQ Go.Proofs.Tryz.prog 268 "Less" 472 (some 269):=PR (by kernel_rfl)
theorem b6H:EQ Go.Proofs.Tryz.prog 268 "Swap" 475 (some 269):=PR (by kernel_rfl)
def b2b:FG 280 b1g:=dQ f280 b0o ⟨b2B,a5b,I4⟩ (hm:=⟨c0W,b6H,trivial⟩)
theorem c0X:EQ Go.Proofs.Tryz.prog 268 "Len" 206 (some 269):=PR (by kernel_rfl)
theorem c9j:EQ Go.Proofs.Tryz.prog 268 "Push" 474 none:=λv w=>show(method _ 268 v "Push").run _ w= .ok (474,v) w by kernel_rfl
def b1O:FG 205 b0V:=dQ f205 b0e ⟨b2C,a4S,b2b,I4⟩ (hm:=⟨c0X,c9j,trivial⟩)
def b2c:FG 281 b1h:=dQ f281 b0p ⟨b2B,a5b,I4⟩ (hm:=⟨c0W,b6H,trivial⟩)
def c0e:FG 473 c7K:=dQ f473 c5a
theorem c9k:EQ Go.Proofs.Tryz.prog 268 "Pop" 473 none:=λv w=>show(method _ 268 v "Pop").run _ w= .ok (473,v) w by kernel_rfl
def b1P:FG 207 b0W:=dQ f207 b0f ⟨a4S,a5b,b2c,c0e,I4⟩ (hm:=⟨c0X,c9k,b6H,trivial⟩)
def b8d:FG 145 c5A:=dQ f145 c1P ⟨b1N,b1O,a4S,b1P,I4⟩
def b2D:FG 79 s79:=dQ f79 q79 ⟨a4M,I4⟩
def a2w:FG 282 a4B:=dQ f282 b0q ⟨b2D,I4⟩
def b5b:FG 81 b5Q:=dQ f81 b5N ⟨a2w,I4⟩
def b8t:FG 208 c5T:=dQ f208 c2w ⟨a2w,b5b,I4⟩
def b8T:FG 286 c6y:=dQ f286 c3j ⟨TK,I4⟩
def TN:FG 333 a4D:=dQ f333 c3G
def b9f:FG 328 c6M:=dQ f328 c3A ⟨TK,a4O,I4⟩
def b9g:FG 329 c6N:=dQ f329 c3B
def b9h:FG 330 c6O:=dQ f330 c3C ⟨TN,I4⟩
def b2m:FG 356 b7y:=dQ f356 c3S ⟨TN,I4⟩
def a4X:FG 401 b4P:=dQ f401 c4q
def b9t:FG 357 c7a:=dQ f357 c3T ⟨a4X,I4⟩
def b9u:FG 358 c7b:=dQ f358 c3V ⟨a4X,I4⟩
def b2n:FG 360 b7z:=dQ f360 c3X
def b9v:FG 359 c7c:=dQ f359 c3W ⟨b2n,a4X,I4⟩
def b9i:FG 331 c6P:=dQ f331 c3E ⟨TN,b2m,b9t,b9u,b9v,b2n,I4⟩
def b9w:FG 361 c7d:=dQ f361 c3Y ⟨b2m,TN,I4⟩
def a2x:FG 402 a4E:=dQ f402 b0t ⟨b2D,I4⟩
def b1E:FG 151 b0Q:=dQ f151 a9W ⟨a2x,I4⟩
def b9x:FG 362 c7e:=dQ f362 c3Z ⟨a2x,b1E,I4⟩
theorem a0l:cZ Go.Proofs.Tryz.prog gl 296 b1k:=a1C Go.Proofs.Tryz.bits_Mul64
def b9G:FG 374 c7n:=dQ f374 c4k
def b9Y:FG 443 c7G:=dQ f443 c4N ⟨b9G,I4⟩
def a4Y:FG 431 b4Q:=dQ f431 c4C ⟨b9Y,I4⟩
def b9L:FG 403 c7s:=dQ f403 c4r ⟨a0l,a4Y,I4⟩
def a4Z:FG 444 b4R:=dQ f444 c4O
def a5a:FG 445 b4S:=dQ f445 c4P
def b2w:FG 446 b7J:=dQ f446 c4Q
def b2x:FG 447 b7K:=dQ f447 c4R
def b2y:FG 448 b7L:=dQ f448 c4S
def a0n:FG 432 b1n:=dQ f432 c4E ⟨a4Z,a5a,b2w,b2x,b2y,I4⟩
def b9M:FG 404 c7t:=dQ f404 c4s ⟨a0n,I4⟩
def b9y:FG 363 c7f:=dQ f363 c4a ⟨b2D,b9L,b9M,I4⟩
def b2r:FG 405 b7D:=dQ f405 c4t
def b9z:FG 364 c7g:=dQ f364 c4b ⟨b2r,a0f,I4⟩
def b9S:FG 433 c7A:=dQ f433 c4F ⟨a0l,I4⟩
def b9Z:FG 449 c7H:=dQ f449 c4T ⟨a4Z,a5a,b2w,a0l,a4Y,b2x,b2y,I4⟩
def b9T:FG 434 c7B:=dQ f434 c4G ⟨b9Z,I4⟩
def b2z:FG 450 b7M:=dQ f450 c4V
def b2A:FG 451 b7N:=dQ f451 c4W
def b9U:FG 435 c7C:=dQ f435 c4H ⟨b2z,b2A,a0n,I4⟩
def b9V:FG 436 c7D:=dQ f436 c4I ⟨a4Z,a5a,a0n,I4⟩
def c0c:FG 452 c7I:=dQ f452 c4X
def b9W:FG 437 c7E:=dQ f437 c4J ⟨b2z,b2A,a0l,a4Y,c0c,I4⟩
def b9N:FG 406 c7u:=dQ f406 c4u ⟨b9S,b9T,b9U,b9V,a0n,b9W,I4⟩
def b2s:FG 407 b7E:=dQ f407 c4v ⟨a0e,a0f,a4P,b2a,I4⟩
def b9O:FG 408 c7v:=dQ f408 c4w ⟨a0e,a0f,b2s,I4⟩
def b9A:FG 365 c7h:=dQ f365 c4c ⟨b9N,b2r,b2s,b9O,I4⟩
def b9j:FG 332 c6Q:=dQ f332 c3F ⟨b9w,b9x,b9y,b9z,b9A,I4⟩
def b8U:FG 288 c6z:=dQ f288 c3k ⟨b9f,TK,b9g,b9h,b9i,b9j,TN,I4⟩
theorem b5d:∀n,cZ P gl 327 ⟨a9R,[(true,(.dat (.prod (.int .i64) (.prod (.int .i64) (.int .i64))))),(false,(.dat (.int .i64)))],[],λx=>(L8 n).1 x.1 x.2⟩/\cZ P gl 210 ⟨Zd,[(true,(.dat (.prod (.int .i64) (.prod (.int .i64) (.int .i64))))),(false,(.dat (.int .i64)))],[],λx=>(L8 n).2.1 x.1 x.2⟩/\cZ P gl 287 ⟨a9Q,[(true,(.dat (.prod (.int .i64) (.prod (.int .i64) (.int .i64))))),(false,(.dat (.int .i64)))],[],λx=>(L8 n).2.2 x.1 x.2.1 x.2.2⟩:=by
 intro n;induction n with
 |zero=>exact⟨(λw ok O vals x r _ _ _ _ _ _ h=>by cases h),(λw ok O vals x r _ _ _ _ _ _ h=>by cases h),(λw ok O vals x r _ _ _ _ _ _ h=>by cases h)⟩
 |succ n ih=>exact⟨dS f327 a9R c5l (c9e (L8 n).1 (L8 n).2.1 (L8 n).2.2) c0B (by kernel_rfl) rfl trivial ⟨ih.2.1,TN,trivial⟩ trivial λx=>by kernel_rfl,
  dS f210 Zd b5O (c8Z (L8 n).1 (L8 n).2.1 (L8 n).2.2) c0x (by kernel_rfl) rfl trivial ⟨b8T,ih.2.2,ih.2.1,b8U,trivial⟩ trivial λx=>by kernel_rfl,
  dS f287 a9Q c5j (c9c (L8 n).1 (L8 n).2.1 (L8 n).2.2) c0z (by kernel_rfl) rfl trivial ⟨ih.1,ih.2.1,trivial⟩ trivial λx=>by kernel_rfl⟩
theorem b8v:cZ P gl 210 c5W:=(b5d aH).2.1
def b1C:FG 147 b7d:=dQ f147 c1R ⟨a4N,b8v,I4⟩
def b8R:FG 283 c6w:=dQ f283 c3g
def b9s:FG 355 c6Z:=dQ f355 c3R
def b9e:FG 326 c6L:=dQ f326 c3z ⟨b9s,I4⟩
def b2d:FG 285 b7r:=dQ f285 c3i ⟨b9e,I4⟩
def b8S:FG 284 c6x:=dQ f284 c3h ⟨b2d,I4⟩
def b8u:FG 209 c5V:=dQ f209 c2x ⟨b8R,b8S,b2d,I4⟩
def b8e:FG 146 c5B:=dQ f146 c1Q ⟨b8t,b1C,b8u,I4⟩
def c8B:FG 86 s86:=dQ f86 q86 ⟨b8d,b8e,b1C,I4⟩
def c8f:FG 42 s42:=dQ f42 q42 ⟨c8B,I4⟩
def c7P:FG 17 s17:=dQ f17 q17 ⟨c8d,c8e,c8f,I4⟩
def d1Z:FG 8 s8:=dQ f8 q8 ⟨c7R,b5T,c7S,c8D,c7P,b5U,I4⟩
def c8s:FG 71 s71:=dQ f71 q71
def c8a:FG 32 s32:=dQ f32 q32 ⟨c8s,I4⟩
def c7O:FG 12 s12:=dQ f12 q12 ⟨c8a,I4⟩
def d1W:FG 4 s4:=dQ f4 q4 ⟨d1X,d1Y,d1Z,c8D,b5T,c7O,I4⟩
end Gt
