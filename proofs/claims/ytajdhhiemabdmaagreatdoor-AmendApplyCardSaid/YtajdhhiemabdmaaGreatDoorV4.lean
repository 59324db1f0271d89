import Derived.Test.YtajdhhiemabdmaaGreatDoorV3
import Derived.Test.YtajdhhiemabdmaaGreatDoorProg
import Derived.Test.YtajdhhiemabdmaaGreatDoorShelf
import Derived.Deep.QuietTactic
import Derived.BigQuiet
import Derived.Recover
set_option linter.all false
open Go Go.GP Go.Shelf Go.RowKit Go.Proofs Go.Proofs.Tryz
namespace Gt
set_option maxRecDepth 100000
noncomputable abbrev P:Program:=Go.Proofs.Tryz.prog
theorem Zc:Zb P tt=true:=by kernel_rfl
theorem Rw:∀t sh,bf eqs t=some sh->IJ P t sh:=XD (by kernel_rfl)
theorem dS{f:FuncId}(fn:Func)(ps:List MG)(rt:Ret)(E:Env)(an:Ann){F:Y7 ps->Option rt.den}(h:(P.funcs[f]?,fn.body,fn.ntmps,fn.results.toList,Nat.ble (64*E.nt) 999936,Vb P E.fs)=(some fn,some (GR fn),E.nt,rt.rs.map (·.1),true,true))(ht:(E.tt,E.eqs)=(tt,eqs))(hm:Xm P E.ms)(hs:a2v P E.gl E.fs)(hp:Xn P E.pl)(hF:∀x,a1y E ps rt (GR fn) an x=F x):
  aQ P E.gl f ⟨ps,rt.rs.map (·.2),rt.outs.map (·.2),F⟩:=by
 injection h with h1 h;injection h with h2 h;injection h with h3 h;injection h with h4 h;injection h with h5 h6;injection ht with t1 t2;exact JV h1 h2 h3 h4 (GZ h5 (t1▸Zc) (t2▸Rw) h6 hm hs hp) λx r h=>(hF x).trans h
theorem a8y(b:Nat)(w:World)(h0:w.cell? ⟨b,0,none⟩=some (.pointer (some ⟨b,0,none⟩))):Calls Go.Proofs.Tryz.prog 75 #[.pointer (some ⟨b,0,none⟩)] w λe w' =>e= .returned (.tuple #[])/\w' =w:=by
 obtain⟨j,hj,_⟩:=bK.1 (show Option.map (λx=>x.size) (Go.Proofs.Tryz.prog.info? 100)=some 2 by kernel_rfl);have t56:=Go.Proofs.Tryz.underlying100;have a56:=Go.Proofs.Tryz.isAgg100;have z56:=Go.Proofs.Tryz.sizeOf100;have v56:=Go.Proofs.Tryz.zeroValue100;have u56:=run_underlying Go.Proofs.Tryz.underlying100;have t53:=Go.Proofs.Tryz.underlying97;have a53:=Go.Proofs.Tryz.isAgg97;have z53:=Go.Proofs.Tryz.sizeOf97;have v53:=Go.Proofs.Tryz.zeroValue97;have u53:=run_underlying Go.Proofs.Tryz.underlying97;have t4:=Go.Proofs.Tryz.underlying4;have a4:=Go.Proofs.Tryz.isAgg4;have z4:=Go.Proofs.Tryz.sizeOf4;have v4:=Go.Proofs.Tryz.zeroValue4;have u4:=run_underlying Go.Proofs.Tryz.underlying4;have t123:=Go.Proofs.Tryz.underlying194;have a123:=Go.Proofs.Tryz.isAgg194;have z123:=Go.Proofs.Tryz.sizeOf194;have v123:=Go.Proofs.Tryz.zeroValue194;have u123:=run_underlying Go.Proofs.Tryz.underlying194
 go_enter Go.Proofs.Tryz.func75,(show Go.Proofs.Tryz.f75.ntmps=20 by kernel_rfl)
 go_wp2
 rw[Lib.run_neq_ptr_same w _ Go.Proofs.Tryz.underlying97 hj]
 go_wp2
 go_end0
 exact⟨rfl,rfl⟩
theorem a6J(b:Nat)(w:World)(h0:w.cell? ⟨b,0,none⟩=some (.pointer none))(hsh:w.shape? b=some (100,2))(hfz:w.frozen? ⟨b,0,none⟩=false):Calls Go.Proofs.Tryz.prog 75 #[.pointer (some ⟨b,0,none⟩)] w λe w' =>e= .returned (.tuple #[])/\w' =w.setCell ⟨b,0,none⟩ (.pointer (some ⟨b,0,none⟩)):=by
 obtain⟨j,hj,hjs⟩:=bK.1 (show Option.map (λx=>x.size) (Go.Proofs.Tryz.prog.info? 100)=some 2 by kernel_rfl);have t56:=Go.Proofs.Tryz.underlying100;have a56:=Go.Proofs.Tryz.isAgg100;have z56:=Go.Proofs.Tryz.sizeOf100;have v56:=Go.Proofs.Tryz.zeroValue100;have u56:=run_underlying Go.Proofs.Tryz.underlying100;have t53:=Go.Proofs.Tryz.underlying97;have a53:=Go.Proofs.Tryz.isAgg97;have z53:=Go.Proofs.Tryz.sizeOf97;have v53:=Go.Proofs.Tryz.zeroValue97;have u53:=run_underlying Go.Proofs.Tryz.underlying97;have t4:=Go.Proofs.Tryz.underlying4;have a4:=Go.Proofs.Tryz.isAgg4;have z4:=Go.Proofs.Tryz.sizeOf4;have v4:=Go.Proofs.Tryz.zeroValue4;have u4:=run_underlying Go.Proofs.Tryz.underlying4;have t123:=Go.Proofs.Tryz.underlying194;have a123:=Go.Proofs.Tryz.isAgg194;have z123:=Go.Proofs.Tryz.sizeOf194;have v123:=Go.Proofs.Tryz.zeroValue194;have u123:=run_underlying Go.Proofs.Tryz.underlying194
 go_enter Go.Proofs.Tryz.func75,(show Go.Proofs.Tryz.f75.ntmps=20 by kernel_rfl)
 go_wp2
 rw[Lib.run_to_unsafe w ⟨b,0,none⟩ Go.Proofs.Tryz.underlying97 Go.Proofs.Tryz.underlying194 hj (by rw[hjs];decide) hsh (Nat.zero_lt_succ 1)];simp only[Result.andThen];rw[kw]
 go_wp2
 rw[run_callFunc_extern Go.Proofs.Tryz.func122 (by kernel_rfl) (by kernel_rfl) (by kernel_rfl) (e:=Extern.AbiNoEscape.same) (by kernel_rfl)];rw[Lib.run_noEscape];simp only[Result.andThen];rw[kw]
 go_wp2
 rw[Lib.run_from_unsafe w ⟨b,0,none⟩ Go.Proofs.Tryz.underlying194 Go.Proofs.Tryz.underlying97 hj hsh (by kernel_rfl)];simp only[Result.andThen];rw[kw]
 go_wp2
 go_end0
 exact⟨rfl,rfl⟩
def a7k:Go.Shelf.Ren:=⟨λ|166=>34|167=>35|240=>75|276=>122|n=>n,λ|72=>100|70=>97|37=>98|164=>194|75=>104|n=>n,λn=>n⟩
theorem b2P:Lw Go.Proofs.Tryz.prog a7k where
 mixed:=by kernel_rfl
 f166:=Go.Proofs.Tryz.func34.trans (congrArg some (by kernel_rfl))
 t72:=Go.Proofs.Tryz.underlying100
 a72:=Go.Proofs.Tryz.isAgg100
 z72:=Go.Proofs.Tryz.sizeOf100
 v72:=Go.Proofs.Tryz.zeroValue100
 t70:=Go.Proofs.Tryz.underlying97
 a70:=Go.Proofs.Tryz.isAgg97
 z70:=Go.Proofs.Tryz.sizeOf97
 v70:=Go.Proofs.Tryz.zeroValue97
 t37:=Go.Proofs.Tryz.underlying98
 a37:=Go.Proofs.Tryz.isAgg98
 z37:=Go.Proofs.Tryz.sizeOf98
 v37:=Go.Proofs.Tryz.zeroValue98
 t3:=Go.Proofs.Tryz.underlying3
 a3:=Go.Proofs.Tryz.isAgg3
 z3:=Go.Proofs.Tryz.sizeOf3
 v3:=Go.Proofs.Tryz.zeroValue3
 t9:=Go.Proofs.Tryz.underlying9
 a9:=Go.Proofs.Tryz.isAgg9
 z9:=Go.Proofs.Tryz.sizeOf9
 v9:=Go.Proofs.Tryz.zeroValue9
 t4:=Go.Proofs.Tryz.underlying4
 a4:=Go.Proofs.Tryz.isAgg4
 z4:=Go.Proofs.Tryz.sizeOf4
 v4:=Go.Proofs.Tryz.zeroValue4
 t164:=Go.Proofs.Tryz.underlying194
 a164:=Go.Proofs.Tryz.isAgg194
 z164:=Go.Proofs.Tryz.sizeOf194
 v164:=Go.Proofs.Tryz.zeroValue194
 e240:=enters_of Go.Proofs.Tryz.func75 (by kernel_rfl) rfl
 used:=a8y
 fresh:=a6J
theorem c1F:Go.Proofs.Builder.Extra Go.Proofs.Tryz.prog a7k where
 sizeBuilder:=by kernel_rfl
 liesBuilder:=by kernel_rfl
 t5:=Go.Proofs.Tryz.underlying5
 a5:=Go.Proofs.Tryz.isAgg5
 z5:=Go.Proofs.Tryz.sizeOf5
 v5:=Go.Proofs.Tryz.zeroValue5
 infoByte:=by kernel_rfl
 cellsByte:=by kernel_rfl
 sizeByte:=by kernel_rfl
 neB5:=by decide
theorem a8z:Go.Proofs.Tryz.prog.funcs[a7k.f 167]? =some (Body.n167 a7k):=Go.Proofs.Tryz.func35.trans (congrArg some (by kernel_rfl))
theorem a8B(x y:Value)(w:World):CallsD Go.Proofs.Tryz.prog 62 #[x,y] .returning w λe u' w' =>e= .returned (.tuple #[])/\u' = .returning/\w' =w:=by
 have hr:Go.Proofs.Tryz.f62.results=#[]:=by kernel_rfl
 refine callsD_of_wpS Go.Proofs.Tryz.func62 rfl λc₀ cs hu=>?_;apply wpS_seq;apply wpS_region;simp[wpOpsS,go_sem,recoverD,hu,Exit.thenS];apply wpS_seq;apply wpS_seq;apply wpS_region;simp[wpOpsS,go_sem,Exit.thenS];refine wpS_cond (t:=true) (by simp[Act.eval,Array.replicate]) ?_;simp only[if_true];refine wpS_of_wp (wp_ret ?_);cases c₀;simp_all [bodyPostS,results,Exit.thenS]
theorem c1R:PlP Go.Proofs.Tryz.prog 62 2 0:=λcap hc=>by
 obtain⟨x,y,rfl⟩:∃x y,cap=#[x,y]:=by rcases cap with⟨_|⟨x,_|⟨y,_|⟨z,l⟩⟩⟩⟩<;>simp at hc;exact⟨x,y,rfl⟩
 refine⟨_,_,62,#[x,y],rfl,λw=>?_,λw=>(a8B x y w).mono ?_⟩
 .rfl
 .rintro e u' w' ⟨rfl,rfl,rfl⟩;exact⟨⟨_,rfl⟩,rfl,rfl⟩
theorem dQ{f:FuncId}(fn:Func)(q:FQ){F:Y7 q.ps->Option q.rt.den}(hs:a2v P q.E.gl q.E.fs:=by exact trivial)(h:(P.funcs[f]?,fn.body,fn.ntmps,fn.results.toList,Nat.ble (64*q.E.nt) 999936,Vb P q.E.fs)=(some fn,some (GR fn),q.E.nt,q.rt.rs.map (·.1),true,true):=by kernel_rfl)(ht:(q.E.tt,q.E.eqs)=(tt,eqs):=by rfl)(hm:Xm P q.E.ms:=by exact trivial)(hp:Xn P q.E.pl:=by exact trivial)(hF:∀x,a1y q.E q.ps q.rt (GR fn) q.an x=F x:=by intro x;kernel_rfl):
  aQ P q.E.gl f ⟨q.ps,q.rt.rs.map (·.2),q.rt.outs.map (·.2),F⟩:=dS fn q.ps q.rt q.E q.an h ht hm hs hp hF
abbrev FG(n:FuncId)(s:FSpec):=aQ P gl n s
def WV:FG 134 a4y:=dQ f134 b3D
def WW:FG 189 a4E:=dQ f189 b4s
def a5l:FG 135 a8V:=dQ f135 b3E ⟨WV,WW,D8⟩
def a9Y:FG 136 b7C:=dQ f136 b3F
def MZ:FG 80 s80:=dQ f80 q80 ⟨WV,a5l,a9Y,D8⟩
def YG:FG 138 t_:=dQ f138 a3J
def a5y:FG 190 a4F:=dQ f190 a3Q ⟨YG,D8⟩
def a5m:FG 137 a4z:=dQ f137 a3I ⟨a5y,D8⟩
def a6p:FG 81 s81:=dQ f81 q81 ⟨YG,a5m,D8⟩
def S_:FG 187 a7A:=dQ f187 b4q
def a9W:FG 128 b7A:=dQ f128 b3z ⟨S_,D8⟩
def c1l:FG 78 s78:=dQ f78 q78 ⟨MZ,a6p,a9W,D8⟩
def c0E:FG 40 s40:=dQ f40 q40 ⟨c1l,D8⟩
def KL:FG 129 YD:=dQ f129 b3A
def Ou:FG 114 p_:=dQ f114 b3m ⟨KL,D8⟩
def K_:FG 130 a7s:=dQ f130 b3B
def b1d:FG 253 b8H:=dQ f253 b5j ⟨K_,D8⟩
def b0w:FG 188 b8a:=dQ f188 b4r ⟨b1d,D8⟩
def a9X:FG 133 b7B:=dQ f133 b3C ⟨b0w,D8⟩
def YF:FG 132 r_:=dQ f132 a3H ⟨a9X,D8⟩
def a5j:FG 131 a4w:=dQ f131 a3F ⟨YF,D8⟩
def c1m:FG 79 s79:=dQ f79 q79 ⟨KL,Ou,K_,YF,a5j,D8⟩
def YH:FG 140 u_:=dQ f140 a3L
def a5A:FG 191 a4H:=dQ f191 a3S ⟨YH,D8⟩
def a5n:FG 139 a4A:=dQ f139 a3K ⟨a5A,D8⟩
def a8p:FG 82 s82:=dQ f82 q82 ⟨YH,a5n,D8⟩
def c0F:FG 41 s41:=dQ f41 q41 ⟨c1m,MZ,a6p,a8p,D8⟩
def YI:FG 142 v_:=dQ f142 a3N
def a5B:FG 192 a4I:=dQ f192 a3T ⟨YI,D8⟩
def a5o:FG 141 a4B:=dQ f141 a3M ⟨a5B,D8⟩
def YK:FG 193 x_:=dQ f193 a3U
def a5N:FG 254 a4Q:=dQ f254 a4c ⟨YK,D8⟩
def a5C:FG 194 a4J:=dQ f194 a3V ⟨a5N,D8⟩
def a9Z:FG 143 b7D:=dQ f143 b3G ⟨YK,MZ,a5C,KL,D8⟩
def b0x:FG 195 b8b:=dQ f195 b4t
def b0a:FG 144 b7E:=dQ f144 b3H ⟨b0x,D8⟩
def YL:FG 197 y_:=dQ f197 a3X
def a5O:FG 255 a4R:=dQ f255 a4d ⟨YL,D8⟩
def a5D:FG 196 a4K:=dQ f196 a3W ⟨a5O,D8⟩
theorem b1e:aQ Go.Proofs.Tryz.prog gl 256 b8I:=Qd Go.Proofs.Tryz.strings_Contains_one
def b0y:FG 198 b8c:=dQ f198 b4u ⟨b1e,D8⟩
def Ov:FG 174 w_:=dQ f174 b4h
def a5H:FG 225 a9g:=dQ f225 b4O ⟨Ov,D8⟩
def P_:FG 173 a7x:=dQ f173 b4g
def b1S:FG 328 b9w:=dQ f328 b6i ⟨Ou,D8⟩
def b1T:FG 329 b9x:=dQ f329 b6j
def a5Z:FG 330 a9t:=dQ f330 b6k ⟨KL,D8⟩
def a6a:FG 333 a9u:=dQ f333 b6n
def b1U:FG 331 b9y:=dQ f331 b6l ⟨a6a,KL,D8⟩
def a6f:FG 369 a9z:=dQ f369 b6G
def b1V:FG 332 b9z:=dQ f332 b6m ⟨a5Z,a6f,D8⟩
def b2h:FG 370 b9L:=dQ f370 b6H
def b1W:FG 334 b9A:=dQ f334 b6o ⟨a6f,b2h,D8⟩
def b1v:FG 293 b8Z:=dQ f293 b5I ⟨b1S,b1T,a5Z,b1U,b1V,a6a,b1W,D8⟩
def b1f:FG 257 b8J:=dQ f257 b5k ⟨a5H,P_,Ov,b1v,D8⟩
def b0z:FG 199 b8d:=dQ f199 b4v ⟨b1f,D8⟩
def b0b:FG 145 b7F:=dQ f145 b3I ⟨MZ,YL,a5D,b0y,b0z,D8⟩
theorem a5V:aQ Go.Proofs.Tryz.prog gl 283 a9p:=a0d Go.Proofs.Tryz.slices_Sort_int Go.Proofs.Tryz.slices_Sort_int_none
theorem a5W:aQ Go.Proofs.Tryz.prog gl 284 a9q:=Uk Go.Proofs.Tryz.slices_Compact_int Go.Proofs.Tryz.slices_Compact_int_empty
def b1I:FG 314 b9m:=dQ f314 b5W ⟨a5V,a5W,D8⟩
def b1o:FG 282 b8S:=dQ f282 b5A ⟨b1I,D8⟩
def b0X:FG 240 b8B:=dQ f240 b5b ⟨b1o,D8⟩
def b0Y:FG 241 b8C:=dQ f241 b5c ⟨a5V,a5W,D8⟩
def a5v:FG 180 a9c:=dQ f180 b4m ⟨b0X,b0Y,D8⟩
def b0B:FG 201 b8f:=dQ f201 b4x
def b0d:FG 147 b7H:=dQ f147 b3K ⟨a5v,b0B,D8⟩
def b0A:FG 200 b8e:=dQ f200 b4w
def b0c:FG 146 b7G:=dQ f146 b3J ⟨b0A,D8⟩
def c1n:FG 83 s83:=dQ f83 q83 ⟨a6p,a8p,YI,a5o,MZ,a9Z,b0a,b0b,b0d,b0c,D8⟩
def c0G:FG 42 s42:=dQ f42 q42 ⟨c1n,D8⟩
def YJ:FG 18 s18:=dQ f18 q18 ⟨c0E,c0F,c0G,D8⟩
def c0e:FG 13 s13:=dQ f13 q13
def c0M:FG 5 s5:=dQ f5 q5 ⟨c0e,D8⟩
def c0V:FG 6 s6:=dQ f6 q6
def c0f:FG 14 s14:=dQ f14 q14
def c0t:FG 30 s30:=dQ f30 q30
theorem c0Y:aQ Go.Proofs.Tryz.prog gl 63 s63:=VX Go.Proofs.Tryz.strings_Count_one
def KJ:FG 106 YC:=dQ f106 b3f
def VE:FG 66 s66:=dQ f66 q66 ⟨KJ,D8⟩
theorem a5e:aQ Go.Proofs.Tryz.prog gl 104 a8Q:=a1w (g:=0) Go.Proofs.Tryz.strings_Cut (by kernel_rfl)
def TM:FG 64 s64:=dQ f64 q64 ⟨VE,a5e,D8⟩
def I_:FG 105 a7q:=dQ f105 b3e ⟨TM,MZ,VE,D8⟩
def a1h:FG 84 s84:=dQ f84 q84
theorem c1z:aQ Go.Proofs.Tryz.prog gl 99 s99:=BH (E:=⟨8,eqs,tt,gl,[],[],[],[],[],[],[]⟩) (f:=99) (fn:=Go.Proofs.Tryz.f99) (c:=GR Go.Proofs.Tryz.f99) (t:=.str) (by kernel_rfl) (by kernel_rfl) (by kernel_rfl) (by kernel_rfl)
  (GZ (by kernel_rfl) Zc Rw (by kernel_rfl) trivial trivial trivial) (λb=>by cases b<;>kernel_rfl) (λxs=>by kernel_rfl)
def a8o:FG 58 s58:=dQ f58 q58 ⟨c1z,D8⟩
def b0o:FG 164 b7S:=dQ f164 b3Z
def a5f:FG 107 a8R:=dQ f107 b3g ⟨a8o,b0o,D8⟩
theorem a5T:aQ Go.Proofs.Tryz.prog gl 279 a9n:=Qg Go.Proofs.Tryz.stringslite_HasPrefix
def b1C:FG 300 b9g:=dQ f300 b5P ⟨a5T,D8⟩
def b1j:FG 265 b8N:=dQ f265 b5q ⟨b1C,D8⟩
def b1k:FG 266 b8O:=dQ f266 b5r
def a5E:FG 214 a9d:=dQ f214 b4G ⟨b1j,b1k,D8⟩
def M_:FG 165 a7u:=dQ f165 b4a ⟨a5E,D8⟩
def a9L:FG 108 b7p:=dQ f108 b3h ⟨TM,M_,KJ,VE,D8⟩
def b0L:FG 215 b8p:=dQ f215 b4H
def b0V:FG 235 b8z:=dQ f235 b4Y
def Q_:FG 177 a7y:=dQ f177 b4k ⟨b0V,D8⟩
def b0U:FG 234 b8y:=dQ f234 b4X
def a5s:FG 176 a8Z:=dQ f176 b4j ⟨b0U,D8⟩
def a5F:FG 216 a9e:=dQ f216 b4I ⟨Q_,a5s,D8⟩
def N_:FG 166 a7v:=dQ f166 b4b ⟨b0L,a5F,D8⟩
def J_:FG 109 a7r:=dQ f109 b3i ⟨TM,N_,KJ,D8⟩
def b1l:FG 267 b8P:=dQ f267 b5s
theorem b0K:aQ Go.Proofs.Tryz.prog gl 210 b8o:=Qh Go.Proofs.Tryz.stringslite_IndexByte
def b1G:FG 304 b9k:=dQ f304 b5T ⟨b0K,D8⟩
def b1D:FG 301 b9h:=dQ f301 b5Q ⟨a5l,D8⟩
def X_:FG 340 a7F:=dQ f340 b6u ⟨WW,D8⟩
def b1Y:FG 339 b9C:=dQ f339 b6t ⟨X_,D8⟩
def U_:FG 237 a7C:=dQ f237 b4Z ⟨a5T,D8⟩
def b1Z:FG 341 b9D:=dQ f341 b6v ⟨U_,X_,D8⟩
def a5U:FG 281 a9o:=dQ f281 b5z
def a5S:FG 275 a9m:=dQ f275 b5y ⟨a5U,a5E,D8⟩
def b2a:FG 342 b9E:=dQ f342 b6w ⟨N_,a5S,M_,D8⟩
def b1E:FG 302 b9i:=dQ f302 b5R ⟨b1Y,X_,b1Z,U_,WV,WW,b2a,D8⟩
theorem b2b:aQ Go.Proofs.Tryz.prog gl 343 b9F:=RS Go.Proofs.Tryz.strings_IndexAny_laid
def b1F:FG 303 b9j:=dQ f303 b5S ⟨b2b,D8⟩
def b1m:FG 268 b8Q:=dQ f268 b5t ⟨WV,WW,b1G,b1D,b1E,b1F,U_,D8⟩
def b0M:FG 217 b8q:=dQ f217 b4J ⟨b1l,b1m,D8⟩
def KN:FG 305 YE:=dQ f305 b5U
def WZ:FG 269 a4S:=dQ f269 b5u ⟨KN,D8⟩
def a6c:FG 344 a9w:=dQ f344 b6x
def OA:FG 272 B_:=dQ f272 b5w
def Oz:FG 219 z_:=dQ f219 b4K
def a5R:FG 271 a9l:=dQ f271 b5v ⟨WZ,Oz,D8⟩
def a6g:FG 375 a9A:=dQ f375 b6I ⟨a5R,D8⟩
def WY:FG 230 a4M:=dQ f230 b4T
def b2i:FG 376 b9M:=dQ f376 b6J ⟨WY,D8⟩
def a6h:FG 395 a9B:=dQ f395 b6S ⟨KN,MZ,Oz,S_,D8⟩
def T_:FG 231 a7B:=dQ f231 b4U
def b2t:FG 409 b9X:=dQ f409 b7e ⟨T_,D8⟩
def b2p:FG 396 b9T:=dQ f396 b6T ⟨KN,b2t,Oz,D8⟩
def YO:FG 397 E_:=dQ f397 a4f
def a5z:FG 190 a4G:=dQ f190 a3R ⟨YO,D8⟩
def b2j:FG 378 b9N:=dQ f378 b6K ⟨KN,MZ,Oz,YO,a5z,a6h,OA,S_,D8⟩
def a5I:FG 233 a9h:=dQ f233 b4W
def b1H:FG 307 b9l:=dQ f307 b5V ⟨a5I,D8⟩
theorem a7M:∀n,aQ P gl 218 ⟨Vw,[(false,(.dat .bool))],[(true,(.pair (.dat (.sl (.prod (.int .i64) (.prod .str (.prod (.int .i64) (.int .i64)))))) (.pair (.dat (.int .i64)) (.pair (.dat (.int .i64)) (.pair (.dat (.prod (.sl (.prod .str (.sl .str))) (.prod (.sl .str) (.prod (.sl .str) (.prod (.sl .str) (.sl .str)))))) (.pair (.own (.prod (.int .i64) (.int .i64))) (.pair (.dat (.int .i64)) (.dat (.int .i64)))))))))],λx=>(x8 n).1 x⟩/\aQ P gl 270 ⟨a0Y,[(false,(.dat .bool))],[(true,(.pair (.dat (.sl (.prod (.int .i64) (.prod .str (.prod (.int .i64) (.int .i64)))))) (.pair (.dat (.int .i64)) (.pair (.dat (.int .i64)) (.pair (.dat (.prod (.sl (.prod .str (.sl .str))) (.prod (.sl .str) (.prod (.sl .str) (.prod (.sl .str) (.sl .str)))))) (.pair (.own (.prod (.int .i64) (.int .i64))) (.pair (.dat (.int .i64)) (.dat (.int .i64)))))))))],λx=>(x8 n).2.1 x.1 x.2⟩/\aQ P gl 306 ⟨a0Z,[(false,(.dat .bool))],[(true,(.pair (.dat (.sl (.prod (.int .i64) (.prod .str (.prod (.int .i64) (.int .i64)))))) (.pair (.dat (.int .i64)) (.pair (.dat (.int .i64)) (.pair (.dat (.prod (.sl (.prod .str (.sl .str))) (.prod (.sl .str) (.prod (.sl .str) (.prod (.sl .str) (.sl .str)))))) (.pair (.own (.prod (.int .i64) (.int .i64))) (.pair (.dat (.int .i64)) (.dat (.int .i64)))))))))],λx=>(x8 n).2.2.1 x⟩/\aQ P gl 345 ⟨a3D,[(false,(.dat .bool))],[(true,(.pair (.dat (.sl (.prod (.int .i64) (.prod .str (.prod (.int .i64) (.int .i64)))))) (.pair (.dat (.int .i64)) (.pair (.dat (.int .i64)) (.pair (.dat (.prod (.sl (.prod .str (.sl .str))) (.prod (.sl .str) (.prod (.sl .str) (.prod (.sl .str) (.sl .str)))))) (.pair (.own (.prod (.int .i64) (.int .i64))) (.pair (.dat (.int .i64)) (.dat (.int .i64)))))))))],λx=>(x8 n).2.2.2.1 x⟩/\aQ P gl 377 ⟨a3E,[(false,(.dat .bool))],[(true,(.pair (.dat (.sl (.prod (.int .i64) (.prod .str (.prod (.int .i64) (.int .i64)))))) (.pair (.dat (.int .i64)) (.pair (.dat (.int .i64)) (.pair (.dat (.prod (.sl (.prod .str (.sl .str))) (.prod (.sl .str) (.prod (.sl .str) (.prod (.sl .str) (.sl .str)))))) (.pair (.own (.prod (.int .i64) (.int .i64))) (.pair (.dat (.int .i64)) (.dat (.int .i64)))))))))],λx=>(x8 n).2.2.2.2 x.1 x.2⟩:=by
 intro n;induction n with
 |zero=>exact⟨(λw ok O vals x r _ _ _ _ _ _ h=>by cases h),(λw ok O vals x r _ _ _ _ _ _ h=>by cases h),(λw ok O vals x r _ _ _ _ _ _ h=>by cases h),(λw ok O vals x r _ _ _ _ _ _ h=>by cases h),(λw ok O vals x r _ _ _ _ _ _ h=>by cases h)⟩
 |succ n ih=>exact⟨dS f218 Vw a8f (c1H (x8 n).1 (x8 n).2.1 (x8 n).2.2.1 (x8 n).2.2.2.1 (x8 n).2.2.2.2) b2C (by kernel_rfl) rfl trivial ⟨WZ,ih.2.1,ih.1,a5R,OA,trivial⟩ trivial λx=>by kernel_rfl,
  dS f270 a0Y b7j (c1J (x8 n).1 (x8 n).2.1 (x8 n).2.2.1 (x8 n).2.2.2.1 (x8 n).2.2.2.2) b2E (by kernel_rfl) rfl trivial ⟨ih.2.2.1,KN,b1H,ih.2.1,OA,trivial⟩ trivial λx=>by kernel_rfl,
  dS f306 a0Z b7l (c1M (x8 n).1 (x8 n).2.1 (x8 n).2.2.1 (x8 n).2.2.2.1 (x8 n).2.2.2.2) b2G (by kernel_rfl) rfl trivial ⟨WZ,KN,a6c,OA,ih.2.2.1,ih.2.2.2.1,trivial⟩ trivial λx=>by kernel_rfl,
  dS f345 a3D b7m (c1N (x8 n).1 (x8 n).2.1 (x8 n).2.2.1 (x8 n).2.2.2.1 (x8 n).2.2.2.2) b2H (by kernel_rfl) rfl trivial ⟨KN,a6c,OA,WZ,ih.1,a6g,Oz,b2i,ih.2.2.2.2,b2j,trivial⟩ trivial λx=>by kernel_rfl,
  dS f377 a3E b7n (c1O (x8 n).1 (x8 n).2.1 (x8 n).2.2.1 (x8 n).2.2.2.1 (x8 n).2.2.2.2) b2I (by kernel_rfl) rfl trivial ⟨OA,a6h,a6g,ih.1,b2p,trivial⟩ trivial λx=>by kernel_rfl⟩
theorem b0N:aQ P gl 218 b8r:=(a7M mf).1
def O_:FG 172 a7w:=dQ f172 b4f ⟨a5H,D8⟩
def a5G:FG 223 a9f:=dQ f223 b4N ⟨Ou,D8⟩
theorem b0r:aQ Go.Proofs.Tryz.prog gl 171 b7V:=ZO (g:=4) Go.Proofs.Tryz.strconv_Itoa (by kernel_rfl) (by kernel_rfl)
def WS:FG 116 a4t:=dQ f116 b3o ⟨b0r,D8⟩
theorem a5t:aQ Go.Proofs.Tryz.prog gl 178 a9a:=WP Go.Proofs.Tryz.strings_Repeat
def b0W:FG 239 b8A:=dQ f239 b5a ⟨a5U,WS,a5t,D8⟩
def WT:FG 118 a4u:=dQ f118 b3q
def WU:FG 119 a4v:=dQ f119 b3r ⟨WT,a5s,Q_,D8⟩
def a9Q:FG 120 b7u:=dQ f120 b3s ⟨WS,a5t,D8⟩
def a1g:FG 73 s73:=dQ f73 q73 ⟨WT,WU,a9Q,D8⟩
def a5u:FG 179 a9b:=dQ f179 b4l ⟨KL,a5G,WS,b0W,a1g,D8⟩
def WX:FG 229 a4L:=dQ f229 b4S
def b0Q:FG 226 b8u:=dQ f226 b4P ⟨a5u,WX,D8⟩
def b0R:FG 227 b8v:=dQ f227 b4Q ⟨WY,WX,D8⟩
def b0S:FG 228 b8w:=dQ f228 b4R ⟨WY,T_,WX,D8⟩
def b0T:FG 232 b8x:=dQ f232 b4V
def b0s:FG 175 b7W:=dQ f175 b4i ⟨b0Q,b0R,b0S,WX,WY,T_,b0T,a5I,D8⟩
def a5h:FG 117 a8T:=dQ f117 b3p ⟨O_,P_,Ov,b0s,D8⟩
def b0p:FG 167 b7T:=dQ f167 b4c ⟨b0M,b0N,Oz,O_,a5h,D8⟩
def a9M:FG 110 b7q:=dQ f110 b3j ⟨b0p,KJ,D8⟩
def b1n:FG 273 b8R:=dQ f273 b5x
def b0O:FG 220 b8s:=dQ f220 b4L ⟨b1n,D8⟩
def a5r:FG 168 a8Y:=dQ f168 b4d ⟨b0O,D8⟩
def a5g:FG 115 a8S:=dQ f115 b3n
def a9N:FG 111 b7r:=dQ f111 b3k ⟨a5r,a5g,VE,D8⟩
def c0Z:FG 65 s65:=dQ f65 q65 ⟨I_,a1h,KJ,a5f,TM,VE,a9L,J_,a5e,a9M,a9N,D8⟩
theorem a9O:aQ Go.Proofs.Tryz.prog gl 112 b7s:=YS (g:=0) Go.Proofs.Tryz.strings_Split (by kernel_rfl)
def c1b:FG 67 s67:=dQ f67 q67 ⟨a9O,D8⟩
def c1c:FG 68 s68:=dQ f68 q68 ⟨I_,TM,J_,D8⟩
def a1i:FG 88 s88:=dQ f88 q88
def b0P:FG 222 b8t:=dQ f222 b4M ⟨M_,a5S,a5r,N_,D8⟩
def b0q:FG 170 b7U:=dQ f170 b4e ⟨KL,b0P,a5G,D8⟩
def a9P:FG 113 b7t:=dQ f113 b3l ⟨b0q,KJ,D8⟩
def c1d:FG 69 s69:=dQ f69 q69 ⟨I_,a1i,KJ,TM,J_,a9P,Ou,D8⟩
def c0u:FG 31 s31:=dQ f31 q31 ⟨c0Y,TM,c0Z,c1b,VE,c1c,c1d,D8⟩ (hp:=⟨c1R,D8⟩)
def c0g:FG 15 s15:=dQ f15 q15 ⟨YJ,c0t,c0u,D8⟩
theorem a9K:aQ Go.Proofs.Tryz.prog gl 100 b7o:=BH (E:=⟨8,eqs,tt,gl,[],[],[],[],[],[],[]⟩) (f:=100) (fn:=Go.Proofs.Tryz.f100) (c:=GR Go.Proofs.Tryz.f100) (t:=(.prod (.prod (.int .i64) (.int .i64)) (.prod (.int .i64) (.prod (.int .i64) (.int .i64))))) (by kernel_rfl) (by kernel_rfl) (by kernel_rfl) (by kernel_rfl)
  (GZ (by kernel_rfl) Zc Rw (by kernel_rfl) trivial trivial trivial) (λb=>by cases b<;>kernel_rfl) (λxs=>by kernel_rfl)
def c0U:FG 59 s59:=dQ f59 q59 ⟨a9K,D8⟩
theorem c0W:aQ Go.Proofs.Tryz.prog gl 60 s60:=BH (E:=⟨8,eqs,tt,gl,[],[],[],[],[],[],[]⟩) (f:=60) (fn:=Go.Proofs.Tryz.f60) (c:=GR Go.Proofs.Tryz.f60) (t:=(.prod .str (.prod (.int .i64) (.int .i64)))) (by kernel_rfl) (by kernel_rfl) (by kernel_rfl) (by kernel_rfl)
  (GZ (by kernel_rfl) Zc Rw (by kernel_rfl) trivial trivial trivial) (λb=>by cases b<;>kernel_rfl) (λxs=>by kernel_rfl)
theorem c0X:aQ Go.Proofs.Tryz.prog gl 61 s61:=BH (E:=⟨8,eqs,tt,gl,[],[],[],[],[],[],[]⟩) (f:=61) (fn:=Go.Proofs.Tryz.f61) (c:=GR Go.Proofs.Tryz.f61) (t:=(.prod (.int .i64) (.int .i64))) (by kernel_rfl) (by kernel_rfl) (by kernel_rfl) (by kernel_rfl)
  (GZ (by kernel_rfl) Zc Rw (by kernel_rfl) trivial trivial trivial) (λb=>by cases b<;>kernel_rfl) (λxs=>by kernel_rfl)
def a8k:FG 29 s29:=dQ f29 q29 ⟨a8o,c0U,c0W,c0X,D8⟩
def c1o:FG 85 s85:=dQ f85 q85
def a8q:FG 86 s86:=dQ f86 q86
def c0H:FG 43 s43:=dQ f43 q43 ⟨a1h,c1o,a8q,D8⟩
def a8r:FG 87 s87:=dQ f87 q87
def c0I:FG 44 s44:=dQ f44 q44 ⟨a1h,a8q,a8r,D8⟩
def c0J:FG 45 s45:=dQ f45 q45 ⟨a1i,D8⟩
def c0K:FG 46 s46:=dQ f46 q46 ⟨a1i,a8r,D8⟩
def c0j:FG 19 s19:=dQ f19 q19 ⟨a8k,c0H,c0I,c0J,c0K,YJ,D8⟩
def b2v:FG 8 s8:=dQ f8 q8 ⟨YJ,c0j,D8⟩
def a8i:FG 11 s11:=dQ f11 q11 ⟨a8k,b2v,D8⟩
def c1f:FG 70 s70:=dQ f70 q70
def c1g:FG 71 s71:=dQ f71 q71 ⟨MZ,a5g,D8⟩
def c1h:FG 72 s72:=dQ f72 q72 ⟨a1h,a5f,WS,a1g,a5h,D8⟩
def a9R:FG 121 b7v:=dQ f121 b3t ⟨a5u,D8⟩
def c1i:FG 74 s74:=dQ f74 q74 ⟨a1i,a9R,Ou,a1g,D8⟩
def c0w:FG 32 s32:=dQ f32 q32 ⟨c1f,c1g,c1h,a1g,c1i,D8⟩
theorem c0x:aQ Go.Proofs.Tryz.prog gl 33 s33:=Zq Go.Proofs.Tryz.lays170
theorem c0y:aQ Go.Proofs.Tryz.prog gl 34 s34:=Ug b2P c1F
theorem c0z:aQ Go.Proofs.Tryz.prog gl 35 s35:=VP b2P c1F a8z
theorem c0A:aQ Go.Proofs.Tryz.prog gl 36 s36:=Uf Go.Proofs.Tryz.lays169 Go.Proofs.Tryz.Builder_Extra_169
def c0h:FG 16 s16:=dQ f16 q16 ⟨YJ,c0w,c0x,c0y,c0z,c0A,D8⟩
def a9S:FG 123 b7w:=dQ f123 b3u ⟨Ou,D8⟩
def a9T:FG 124 b7x:=dQ f124 b3v
def c1j:FG 76 s76:=dQ f76 q76 ⟨a9S,a9T,D8⟩
def c0B:FG 37 s37:=dQ f37 q37 ⟨YJ,c1j,D8⟩
def c0C:FG 38 s38:=dQ f38 q38
def a6o:FG 430 a4V:=dQ f430 a4g
def R_:FG 182 a7z:=dQ f182 b4n
def a6n:FG 428 a9H:=dQ f428 b7f
def a0c:FG 431 a7K:=dQ f431 b7h
theorem b2Q:Ah Go.Proofs.Tryz.prog 250 "Less" 428 (some 251):=Kz (by kernel_rfl)
theorem a8G:Ah Go.Proofs.Tryz.prog 250 "Swap" 431 (some 251):=Kz (by kernel_rfl)
def a5J:FG 242 a4N:=dQ f242 a3Y ⟨a6n,a0c,D8⟩ (hm:=⟨b2Q,a8G,trivial⟩)
theorem b2R:Ah Go.Proofs.Tryz.prog 250 "Len" 182 (some 251):=Kz (by kernel_rfl)
theorem c1P:Ah Go.Proofs.Tryz.prog 250 "Push" 430 none:=λv w=>show(method _ 250 v "Push").run _ w= .ok (430,v) w by kernel_rfl
def a5w:FG 181 a4C:=dQ f181 a3O ⟨a6o,R_,a5J,D8⟩ (hm:=⟨b2R,c1P,trivial⟩)
def a5K:FG 243 a4O:=dQ f243 a3Z ⟨a6n,a0c,D8⟩ (hm:=⟨b2Q,a8G,trivial⟩)
def b2u:FG 429 b9Y:=dQ f429 b7g
theorem c1Q:Ah Go.Proofs.Tryz.prog 250 "Pop" 429 none:=λv w=>show(method _ 250 v "Pop").run _ w= .ok (429,v) w by kernel_rfl
def a5x:FG 183 a4D:=dQ f183 a3P ⟨R_,a0c,a5K,b2u,D8⟩ (hm:=⟨b2R,c1Q,a8G,trivial⟩)
def a9U:FG 125 b7y:=dQ f125 b3w ⟨a5v,a5w,R_,a5x,D8⟩
def V_:FG 246 a7D:=dQ f246 b5d ⟨K_,D8⟩
def YM:FG 245 A_:=dQ f245 a4b ⟨V_,D8⟩
def a5L:FG 244 a4P:=dQ f244 a4a ⟨YM,D8⟩
def b0t:FG 184 b7X:=dQ f184 b4o ⟨YM,a5L,D8⟩
def b1b:FG 250 b8F:=dQ f250 b5h ⟨Ov,D8⟩
def OB:FG 292 C_:=dQ f292 b5H
def b1q:FG 287 b8U:=dQ f287 b5C ⟨Ov,P_,D8⟩
def b1r:FG 288 b8V:=dQ f288 b5D
def b1s:FG 289 b8W:=dQ f289 b5E ⟨OB,D8⟩
def a5X:FG 318 a9r:=dQ f318 b5Y ⟨OB,D8⟩
def Y_:FG 361 a7G:=dQ f361 b6z
def b1K:FG 319 b9o:=dQ f319 b5Z ⟨Y_,D8⟩
def b1L:FG 320 b9p:=dQ f320 b6a ⟨Y_,D8⟩
def a5Y:FG 322 a9s:=dQ f322 b6c
def b1M:FG 321 b9q:=dQ f321 b6b ⟨a5Y,Y_,D8⟩
def b1t:FG 290 b8X:=dQ f290 b5F ⟨OB,a5X,b1K,b1L,b1M,a5Y,D8⟩
def b1N:FG 323 b9r:=dQ f323 b6d ⟨a5X,OB,D8⟩
def YN:FG 362 D_:=dQ f362 a4e ⟨V_,D8⟩
def a5k:FG 131 a4x:=dQ f131 a3G ⟨YN,D8⟩
def b1O:FG 324 b9s:=dQ f324 b6e ⟨YN,a5k,D8⟩
theorem Xa:aQ Go.Proofs.Tryz.prog gl 278 a4T:=Ye Go.Proofs.Tryz.bits_Mul64
def b2c:FG 347 b9G:=dQ f347 b6y
def b2q:FG 399 b9U:=dQ f399 b6U ⟨b2c,D8⟩
def Z_:FG 387 a7H:=dQ f387 b6L ⟨b2q,D8⟩
def b2d:FG 363 b9H:=dQ f363 b6A ⟨Xa,Z_,D8⟩
def a0a:FG 400 a7I:=dQ f400 b6V
def a0b:FG 401 a7J:=dQ f401 b6W
def a6i:FG 402 a9C:=dQ f402 b6X
def a6j:FG 403 a9D:=dQ f403 b6Y
def a6k:FG 404 a9E:=dQ f404 b6Z
def Xb:FG 388 a4U:=dQ f388 b6M ⟨a0a,a0b,a6i,a6j,a6k,D8⟩
def b2e:FG 364 b9I:=dQ f364 b6B ⟨Xb,D8⟩
def b1P:FG 325 b9t:=dQ f325 b6f ⟨V_,b2d,b2e,D8⟩
def a6d:FG 365 a9x:=dQ f365 b6C
def b1Q:FG 326 b9u:=dQ f326 b6g ⟨a6d,WU,D8⟩
def b2k:FG 389 b9O:=dQ f389 b6N ⟨Xa,D8⟩
def b2r:FG 405 b9V:=dQ f405 b7a ⟨a0a,a0b,a6i,Xa,Z_,a6j,a6k,D8⟩
def b2l:FG 390 b9P:=dQ f390 b6O ⟨b2r,D8⟩
def a6l:FG 406 a9F:=dQ f406 b7b
def a6m:FG 407 a9G:=dQ f407 b7c
def b2m:FG 391 b9Q:=dQ f391 b6P ⟨a6l,a6m,Xb,D8⟩
def b2n:FG 392 b9R:=dQ f392 b6Q ⟨a0a,a0b,Xb,D8⟩
def b2s:FG 408 b9W:=dQ f408 b7d
def b2o:FG 393 b9S:=dQ f393 b6R ⟨a6l,a6m,Xa,Z_,b2s,D8⟩
def b2f:FG 366 b9J:=dQ f366 b6D ⟨b2k,b2l,b2m,b2n,Xb,b2o,D8⟩
def a6e:FG 367 a9y:=dQ f367 b6E ⟨WT,WU,Q_,a5F,D8⟩
def b2g:FG 368 b9K:=dQ f368 b6F ⟨WT,WU,a6e,D8⟩
def b1R:FG 327 b9v:=dQ f327 b6h ⟨b2f,a6d,a6e,b2g,D8⟩
def b1u:FG 291 b8Y:=dQ f291 b5G ⟨b1N,b1O,b1P,b1Q,b1R,D8⟩
def b1c:FG 252 b8G:=dQ f252 b5i ⟨b1q,Ov,b1r,b1s,b1t,b1u,OB,D8⟩
theorem a7N:∀n,aQ P gl 286 ⟨a3C,[(true,(.dat (.prod (.int .i64) (.prod (.int .i64) (.int .i64))))),(false,(.dat (.int .i64)))],[],λx=>(H6 n).1 x.1 x.2⟩/\aQ P gl 186 ⟨Vu,[(true,(.dat (.prod (.int .i64) (.prod (.int .i64) (.int .i64))))),(false,(.dat (.int .i64)))],[],λx=>(H6 n).2.1 x.1 x.2⟩/\aQ P gl 251 ⟨a3B,[(true,(.dat (.prod (.int .i64) (.prod (.int .i64) (.int .i64))))),(false,(.dat (.int .i64)))],[],λx=>(H6 n).2.2 x.1 x.2.1 x.2.2⟩:=by
 intro n;induction n with
 |zero=>exact⟨(λw ok O vals x r _ _ _ _ _ _ h=>by cases h),(λw ok O vals x r _ _ _ _ _ _ h=>by cases h),(λw ok O vals x r _ _ _ _ _ _ h=>by cases h)⟩
 |succ n ih=>exact⟨dS f286 a3C b7k (c1K (H6 n).1 (H6 n).2.1 (H6 n).2.2) b2F (by kernel_rfl) rfl trivial ⟨ih.2.1,OB,trivial⟩ trivial λx=>by kernel_rfl,
  dS f186 Vu a8e (c1G (H6 n).1 (H6 n).2.1 (H6 n).2.2) b2B (by kernel_rfl) rfl trivial ⟨b1b,ih.2.2,ih.2.1,b1c,trivial⟩ trivial λx=>by kernel_rfl,
  dS f251 a3B b7i (c1I (H6 n).1 (H6 n).2.1 (H6 n).2.2) b2D (by kernel_rfl) rfl trivial ⟨ih.1,ih.2.1,trivial⟩ trivial λx=>by kernel_rfl⟩
theorem b0v:aQ P gl 186 b7Z:=(a7N mf).2.1
def a5i:FG 127 a8U:=dQ f127 b3y ⟨O_,b0v,D8⟩
def b0Z:FG 247 b8D:=dQ f247 b5e
def b1J:FG 317 b9n:=dQ f317 b5X
def b1p:FG 285 b8T:=dQ f285 b5B ⟨b1J,D8⟩
def a5M:FG 249 a9i:=dQ f249 b5g ⟨b1p,D8⟩
def b1a:FG 248 b8E:=dQ f248 b5f ⟨a5M,D8⟩
def b0u:FG 185 b7Y:=dQ f185 b4p ⟨b0Z,b1a,a5M,D8⟩
def a9V:FG 126 b7z:=dQ f126 b3x ⟨b0t,a5i,b0u,D8⟩
def c1k:FG 77 s77:=dQ f77 q77 ⟨a9U,a9V,a5i,D8⟩
def c0D:FG 39 s39:=dQ f39 q39 ⟨c1k,D8⟩
def c0i:FG 17 s17:=dQ f17 q17 ⟨c0B,c0C,c0D,D8⟩
def c1e:FG 7 s7:=dQ f7 q7 ⟨c0f,c0g,a8i,c0h,c0i,b2v,D8⟩
def a5p:FG 148 a8W:=dQ f148 b3L
def b0C:FG 202 b8g:=dQ f202 b4y
def b0e:FG 149 b7I:=dQ f149 b3M ⟨a5p,b0C,D8⟩
def b0f:FG 150 b7J:=dQ f150 b3N
def YP:FG 89 s89:=dQ f89 q89 ⟨a5p,b0e,b0f,D8⟩
def a6q:FG 90 s90:=dQ f90 q90
def c0O:FG 52 s52:=dQ f52 q52 ⟨YP,a6q,D8⟩
def TK:FG 151 a2h:=dQ f151 b3O
def L_:FG 155 a7t:=dQ f155 b3S
def a5P:FG 258 a9j:=dQ f258 b5l ⟨TK,D8⟩
def b0D:FG 203 b8h:=dQ f203 b4z ⟨a5P,D8⟩
def b0g:FG 152 b7K:=dQ f152 b3P ⟨L_,b0D,D8⟩
def b0E:FG 204 b8i:=dQ f204 b4A ⟨L_,D8⟩
def b0h:FG 153 b7L:=dQ f153 b3Q ⟨b0E,D8⟩
def c1q:FG 91 s91:=dQ f91 q91 ⟨TK,b0g,b0h,D8⟩
def c0P:FG 53 s53:=dQ f53 q53 ⟨YP,a6q,c1q,D8⟩
def b0i:FG 154 b7M:=dQ f154 b3R
def c1r:FG 92 s92:=dQ f92 q92 ⟨YP,b0i,TK,D8⟩
def b0j:FG 156 b7N:=dQ f156 b3T
def b0F:FG 205 b8j:=dQ f205 b4B
def b0k:FG 157 b7O:=dQ f157 b3U ⟨b0F,D8⟩
def a5Q:FG 260 a9k:=dQ f260 b5n
def b1g:FG 259 b8K:=dQ f259 b5m ⟨a5Q,D8⟩
def b1w:FG 294 b9a:=dQ f294 b5J
def TL:FG 335 a2i:=dQ f335 b6p
def b1x:FG 295 b9b:=dQ f295 b5K ⟨TL,a5P,D8⟩
def b1y:FG 296 b9c:=dQ f296 b5L
def W_:FG 337 a7E:=dQ f337 b6r
def a6b:FG 336 a9v:=dQ f336 b6q ⟨W_,D8⟩
def b1z:FG 297 b9d:=dQ f297 b5M ⟨TL,TK,a6b,D8⟩
def b1A:FG 298 b9e:=dQ f298 b5N ⟨W_,TL,TK,D8⟩
def b1X:FG 338 b9B:=dQ f338 b6s ⟨TL,D8⟩
def b1B:FG 299 b9f:=dQ f299 b5O ⟨W_,b1X,a6b,TL,D8⟩
def b1h:FG 261 b8L:=dQ f261 b5o ⟨b1w,b1x,b1y,b1z,b1A,b1B,D8⟩
def b0G:FG 206 b8k:=dQ f206 b4C ⟨b1g,a5Q,b1h,D8⟩
def b0l:FG 158 b7P:=dQ f158 b3V ⟨b0G,D8⟩
def c1s:FG 93 s93:=dQ f93 q93 ⟨YP,L_,b0j,b0k,b0l,D8⟩
def b0H:FG 207 b8l:=dQ f207 b4D
def b1i:FG 262 b8M:=dQ f262 b5p
def b0I:FG 208 b8m:=dQ f208 b4E ⟨b1i,D8⟩
def a5q:FG 160 a8X:=dQ f160 b3X
def b0m:FG 159 b7Q:=dQ f159 b3W ⟨b0H,b0I,a5q,D8⟩
def c1t:FG 94 s94:=dQ f94 q94 ⟨b0m,a5q,D8⟩
def c0Q:FG 54 s54:=dQ f54 q54 ⟨YP,a6q,c1r,c1s,c1t,D8⟩
def a8j:FG 25 s25:=dQ f25 q25 ⟨c0O,c0P,c0Q,D8⟩
def c0k:FG 20 s20:=dQ f20 q20 ⟨a8j,D8⟩
def c0l:FG 21 s21:=dQ f21 q21
def a8l:FG 47 s47:=dQ f47 q47
def c0L:FG 48 s48:=dQ f48 q48
def a8m:FG 49 s49:=dQ f49 q49
def c0n:FG 22 s22:=dQ f22 q22 ⟨a8l,c0L,a8m,D8⟩
def a8n:FG 50 s50:=dQ f50 q50
def c0o:FG 23 s23:=dQ f23 q23 ⟨a8l,a8m,a8n,D8⟩
def c0N:FG 51 s51:=dQ f51 q51
def c0p:FG 24 s24:=dQ f24 q24 ⟨c0N,a8n,D8⟩
def c1p:FG 9 s9:=dQ f9 q9 ⟨c0k,c0l,c0n,c0o,c0p,a8j,D8⟩
def c1u:FG 95 s95:=dQ f95 q95
def c0R:FG 55 s55:=dQ f55 q55 ⟨c1u,D8⟩
def c0q:FG 26 s26:=dQ f26 q26 ⟨c0R,D8⟩
def c1w:FG 96 s96:=dQ f96 q96
def c0S:FG 56 s56:=dQ f56 q56 ⟨c1w,D8⟩
def c0r:FG 27 s27:=dQ f27 q27 ⟨c0S,D8⟩
def c1x:FG 97 s97:=dQ f97 q97
def b0J:FG 209 b8n:=dQ f209 b4F
def b0n:FG 161 b7R:=dQ f161 b3Y ⟨b0J,D8⟩
def c1y:FG 98 s98:=dQ f98 q98 ⟨b0n,D8⟩
def c0T:FG 57 s57:=dQ f57 q57 ⟨c1x,c1y,D8⟩
def c0s:FG 28 s28:=dQ f28 q28 ⟨c0T,D8⟩
def a8h:FG 10 s10:=dQ f10 q10 ⟨c0q,c0r,c0s,D8⟩
def c2b:FG 3 s3:=dQ f3 q3 ⟨c0M,c0V,c1e,b2v,c1p,a8h,D8⟩
def c0d:FG 12 s12:=dQ f12 q12 ⟨c1p,D8⟩
def c2c:FG 4 s4:=dQ f4 q4 ⟨c0M,c0V,c1e,a8i,c0d,a8h,D8⟩
end Gt
