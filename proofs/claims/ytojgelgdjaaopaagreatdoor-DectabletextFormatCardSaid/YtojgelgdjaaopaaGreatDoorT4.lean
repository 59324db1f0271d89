import Derived.Test.YtojgelgdjaaopaaGreatDoorT3
import Derived.Test.YtojgelgdjaaopaaGreatDoorProg
import Derived.Test.YtojgelgdjaaopaaGreatDoorShelf
set_option linter.all false
open Go Go.GP Go.Shelf Go.RowKit Go.Proofs Go.Proofs.Tryz
namespace Gt
set_option maxRecDepth 100000
noncomputable abbrev P:Program:=Go.Proofs.Tryz.prog
theorem a6i:WL P tt=true:=by kernel_rfl
theorem a0O:∀t sh,aX eqs t=some sh->FO P t sh:=Vl (by kernel_rfl)
theorem dS{f:FuncId}(fn:Func)(ps:List MG)(rt:Ret)(E:Env)(an:Ann){F:V7 ps->Option rt.den}(h:(P.funcs[f]?,fn.body,fn.ntmps,fn.results.toList,Nat.ble (64*E.nt) 999936,RS P E.fs)=(some fn,some (NY fn),E.nt,rt.rs.map (·.1),true,true))(ht:(E.tt,E.eqs)=(tt,eqs))(hm:UN P E.ms)(hs:a0r P E.gl E.fs)(hF:∀x,r_ E ps rt (NY fn) an x=F x):
  Z4 P E.gl f ⟨ps,rt.rs.map (·.2),rt.outs.map (·.2),F⟩:=by
 injection h with h1 h;injection h with h2 h;injection h with h3 h;injection h with h4 h;injection h with h5 h6;injection ht with t1 t2;exact HY h1 h2 h3 h4 (Vk h5 (t1▸a6i) (t2▸a0O) h6 hm hs) λx r h=>(hF x).trans h
theorem dQ{f:FuncId}(fn:Func)(q:FQ){F:V7 q.ps->Option q.rt.den}(hs:a0r P q.E.gl q.E.fs:=by exact trivial)(h:(P.funcs[f]?,fn.body,fn.ntmps,fn.results.toList,Nat.ble (64*q.E.nt) 999936,RS P q.E.fs)=(some fn,some (NY fn),q.E.nt,q.rt.rs.map (·.1),true,true):=by kernel_rfl)(ht:(q.E.tt,q.E.eqs)=(tt,eqs):=by rfl)(hm:UN P q.E.ms:=by exact trivial)(hF:∀x,r_ q.E q.ps q.rt (NY fn) q.an x=F x:=by intro x;kernel_rfl):
  Z4 P q.E.gl f ⟨q.ps,q.rt.rs.map (·.2),q.rt.outs.map (·.2),F⟩:=dS fn q.ps q.rt q.E q.an h ht hm hs hF
abbrev FG(n:FuncId)(s:FSpec):=Z4 P gl n s
def b6f:FG 9 s9:=dQ f9 q9
def b6b:FG 4 s4:=dQ f4 q4 ⟨b6f,G9⟩
def b6c:FG 5 s5:=dQ f5 q5
def b4u:FG 10 s10:=dQ f10 q10
def UB:FG 101 a2n:=dQ f101 a9O
def UC:FG 138 a2r:=dQ f138 b0p
def a2J:FG 102 a6M:=dQ f102 a9P ⟨UB,UC,G9⟩
def a7q:FG 103 b2w:=dQ f103 a9Q
def Qq:FG 59 s59:=dQ f59 q59 ⟨UB,a2J,a7q,G9⟩
def Wq:FG 105 Yh:=dQ f105 a1H
def a2P:FG 139 a2s:=dQ f139 a1M ⟨Wq,G9⟩
def a2K:FG 104 a2o:=dQ f104 a1G ⟨a2P,G9⟩
def a3t:FG 60 s60:=dQ f60 q60 ⟨Wq,a2K,G9⟩
def Yx:FG 136 a4P:=dQ f136 b0n
def b5y:FG 94 s94:=dQ f94 q94 ⟨Yx,G9⟩
def b5f:FG 57 s57:=dQ f57 q57 ⟨Qq,a3t,b5y,G9⟩
def b4N:FG 32 s32:=dQ f32 q32 ⟨b5f,G9⟩
def Tf:FG 95 s95:=dQ f95 q95
def a3y:FG 96 s96:=dQ f96 q96 ⟨Tf,G9⟩
def a6h:FG 97 s97:=dQ f97 q97
def a8j:FG 183 b3p:=dQ f183 b0W ⟨a6h,G9⟩
def a7I:FG 137 b2N:=dQ f137 b0o ⟨a8j,G9⟩
def a7p:FG 100 b2v:=dQ f100 a9N ⟨a7I,G9⟩
def ZW:FG 99 a2B:=dQ f99 a5H ⟨a7p,G9⟩
def a5c:FG 98 a5Q:=dQ f98 a5G ⟨ZW,G9⟩
def b5g:FG 58 s58:=dQ f58 q58 ⟨Tf,a3y,a6h,ZW,a5c,G9⟩
def Ws:FG 107 Yi:=dQ f107 a1J
def a2R:FG 140 a2u:=dQ f140 a1O ⟨Ws,G9⟩
def a2L:FG 106 a2p:=dQ f106 a1I ⟨a2R,G9⟩
def a5Z:FG 61 s61:=dQ f61 q61 ⟨Ws,a2L,G9⟩
def b4O:FG 33 s33:=dQ f33 q33 ⟨b5g,Qq,a3t,a5Z,G9⟩
def Wu:FG 109 Yj:=dQ f109 a1L
def a2S:FG 141 a2v:=dQ f141 a1P ⟨Wu,G9⟩
def a2M:FG 108 a2q:=dQ f108 a1K ⟨a2S,G9⟩
def Wv:FG 142 Yl:=dQ f142 a1Q
def a2Z:FG 184 a2z:=dQ f184 a1U ⟨Wv,G9⟩
def a2T:FG 143 a2w:=dQ f143 a1R ⟨a2Z,G9⟩
def a7r:FG 110 b2x:=dQ f110 a9R ⟨Wv,Qq,a2T,Tf,G9⟩
def a7J:FG 144 b2O:=dQ f144 b0q
def a7s:FG 111 b2y:=dQ f111 a9S ⟨a7J,G9⟩
def Wx:FG 146 Ym:=dQ f146 a1T
def a3a:FG 185 a2A:=dQ f185 a1V ⟨Wx,G9⟩
def a2U:FG 145 a2x:=dQ f145 a1S ⟨a3a,G9⟩
theorem a6e:Z4 Go.Proofs.Tryz.prog gl 89 s89:=Na Go.Proofs.Tryz.strings_Contains_one
def a7K:FG 147 b2P:=dQ f147 b0r ⟨a6e,G9⟩
def a3r:FG 40 s40:=dQ f40 q40
def a6a:FG 65 s65:=dQ f65 q65 ⟨a3r,G9⟩
def a5W:FG 39 s39:=dQ f39 q39
def a8J:FG 236 b3S:=dQ f236 b1C ⟨a3y,G9⟩
def a8K:FG 237 b3T:=dQ f237 b1D
def a3k:FG 238 a7e:=dQ f238 b1E ⟨Tf,G9⟩
def a3l:FG 241 a7f:=dQ f241 b1H
def a8L:FG 239 b3U:=dQ f239 b1F ⟨a3l,Tf,G9⟩
def a3n:FG 269 a7h:=dQ f269 b1Y
def a8M:FG 240 b3V:=dQ f240 b1G ⟨a3k,a3n,G9⟩
def a9c:FG 270 b4l:=dQ f270 b1Z
def a8N:FG 242 b3W:=dQ f242 b1I ⟨a3n,a9c,G9⟩
def a8C:FG 215 b3K:=dQ f215 b1r ⟨a8J,a8K,a3k,a8L,a8M,a3l,a8N,G9⟩
def a8k:FG 186 b3q:=dQ f186 b0X ⟨a6a,a5W,a3r,a8C,G9⟩
def a7L:FG 148 b2Q:=dQ f148 b0s ⟨a8k,G9⟩
def a7t:FG 112 b2z:=dQ f112 a9T ⟨Qq,Wx,a2U,a7K,a7L,G9⟩
theorem a3e:Z4 Go.Proofs.Tryz.prog gl 217 a6Y:=YD Go.Proofs.Tryz.slices_Sort_int Go.Proofs.Tryz.slices_Sort_int_none
theorem a3f:Z4 Go.Proofs.Tryz.prog gl 218 a6Z:=QK Go.Proofs.Tryz.slices_Compact_int Go.Proofs.Tryz.slices_Compact_int_empty
def a8O:FG 243 b3X:=dQ f243 b1J ⟨a3e,a3f,G9⟩
def a8D:FG 216 b3L:=dQ f216 b1s ⟨a8O,G9⟩
def a8l:FG 187 b3r:=dQ f187 b0Y ⟨a8D,G9⟩
def a8m:FG 188 b3s:=dQ f188 b0Z ⟨a3e,a3f,G9⟩
def a7O:FG 151 b2T:=dQ f151 b0v ⟨a8l,a8m,G9⟩
def a7N:FG 150 b2S:=dQ f150 b0u
def a7v:FG 114 b2B:=dQ f114 a9V ⟨a7O,a7N,G9⟩
def a7M:FG 149 b2R:=dQ f149 b0t
def a7u:FG 113 b2A:=dQ f113 a9U ⟨a7M,G9⟩
def b5h:FG 62 s62:=dQ f62 q62 ⟨a3t,a5Z,Wu,a2M,Qq,a7r,a7s,a7t,a7v,a7u,G9⟩
def b4P:FG 34 s34:=dQ f34 q34 ⟨b5h,G9⟩
def a5S:FG 13 s13:=dQ f13 q13 ⟨b4N,b4O,b4P,G9⟩
theorem a6r(b:Nat)(w:World)(h0:w.cell? ⟨b,0,none⟩=some (.pointer (some ⟨b,0,none⟩))):Calls Go.Proofs.Tryz.prog 35 #[.pointer (some ⟨b,0,none⟩)] w λe w' =>e= .returned (.tuple #[])/\w' =w:=by
 obtain⟨j,hj,_⟩:=dH.1 (show Option.map (λx=>x.size) (Go.Proofs.Tryz.prog.info? 69)=some 2 by kernel_rfl);have t69:=Go.Proofs.Tryz.underlying69;have a69:=Go.Proofs.Tryz.isAgg69;have z69:=Go.Proofs.Tryz.sizeOf69;have v69:=Go.Proofs.Tryz.zeroValue69;have u69:=run_underlying Go.Proofs.Tryz.underlying69;have t66:=Go.Proofs.Tryz.underlying66;have a66:=Go.Proofs.Tryz.isAgg66;have z66:=Go.Proofs.Tryz.sizeOf66;have v66:=Go.Proofs.Tryz.zeroValue66;have u66:=run_underlying Go.Proofs.Tryz.underlying66;have t4:=Go.Proofs.Tryz.underlying4;have a4:=Go.Proofs.Tryz.isAgg4;have z4:=Go.Proofs.Tryz.sizeOf4;have v4:=Go.Proofs.Tryz.zeroValue4;have u4:=run_underlying Go.Proofs.Tryz.underlying4;have t132:=Go.Proofs.Tryz.underlying132;have a132:=Go.Proofs.Tryz.isAgg132;have z132:=Go.Proofs.Tryz.sizeOf132;have v132:=Go.Proofs.Tryz.zeroValue132;have u132:=run_underlying Go.Proofs.Tryz.underlying132
 go_enter Go.Proofs.Tryz.func35,(show Go.Proofs.Tryz.f35.ntmps=20 by kernel_rfl)
 go_wp2
 rw[Lib.run_neq_ptr_same w _ Go.Proofs.Tryz.underlying66 hj]
 go_wp2
 go_end0
 exact⟨rfl,rfl⟩
theorem a3V(b:Nat)(w:World)(h0:w.cell? ⟨b,0,none⟩=some (.pointer none))(hsh:w.shape? b=some (69,2))(hfz:w.frozen? ⟨b,0,none⟩=false):Calls Go.Proofs.Tryz.prog 35 #[.pointer (some ⟨b,0,none⟩)] w λe w' =>e= .returned (.tuple #[])/\w' =w.setCell ⟨b,0,none⟩ (.pointer (some ⟨b,0,none⟩)):=by
 obtain⟨j,hj,hjs⟩:=dH.1 (show Option.map (λx=>x.size) (Go.Proofs.Tryz.prog.info? 69)=some 2 by kernel_rfl);have t69:=Go.Proofs.Tryz.underlying69;have a69:=Go.Proofs.Tryz.isAgg69;have z69:=Go.Proofs.Tryz.sizeOf69;have v69:=Go.Proofs.Tryz.zeroValue69;have u69:=run_underlying Go.Proofs.Tryz.underlying69;have t66:=Go.Proofs.Tryz.underlying66;have a66:=Go.Proofs.Tryz.isAgg66;have z66:=Go.Proofs.Tryz.sizeOf66;have v66:=Go.Proofs.Tryz.zeroValue66;have u66:=run_underlying Go.Proofs.Tryz.underlying66;have t4:=Go.Proofs.Tryz.underlying4;have a4:=Go.Proofs.Tryz.isAgg4;have z4:=Go.Proofs.Tryz.sizeOf4;have v4:=Go.Proofs.Tryz.zeroValue4;have u4:=run_underlying Go.Proofs.Tryz.underlying4;have t132:=Go.Proofs.Tryz.underlying132;have a132:=Go.Proofs.Tryz.isAgg132;have z132:=Go.Proofs.Tryz.sizeOf132;have v132:=Go.Proofs.Tryz.zeroValue132;have u132:=run_underlying Go.Proofs.Tryz.underlying132
 go_enter Go.Proofs.Tryz.func35,(show Go.Proofs.Tryz.f35.ntmps=20 by kernel_rfl)
 go_wp2
 rw[Lib.run_to_unsafe w ⟨b,0,none⟩ Go.Proofs.Tryz.underlying66 Go.Proofs.Tryz.underlying132 hj (by rw[hjs];decide) hsh (Nat.zero_lt_succ 1)];simp only[Result.andThen];rw[kL]
 go_wp2
 rw[run_callFunc_extern Go.Proofs.Tryz.func63 (by kernel_rfl) (by kernel_rfl) (by kernel_rfl) (e:=Extern.AbiNoEscape.same) (by kernel_rfl)];rw[Lib.run_noEscape];simp only[Result.andThen];rw[kL]
 go_wp2
 rw[Lib.run_from_unsafe w ⟨b,0,none⟩ Go.Proofs.Tryz.underlying132 Go.Proofs.Tryz.underlying66 hj hsh (by kernel_rfl)];simp only[Result.andThen];rw[kL]
 go_wp2
 go_end0
 exact⟨rfl,rfl⟩
def b2n:Go.Shelf.Ren:=⟨λ|166=>14|240=>35|276=>63|n=>n,λ|72=>69|70=>66|37=>67|164=>132|75=>71|n=>n,λn=>n⟩
theorem b5S:Lw Go.Proofs.Tryz.prog b2n where
 mixed:=by kernel_rfl
 f166:=Go.Proofs.Tryz.func14.trans (congrArg some (by kernel_rfl))
 t72:=Go.Proofs.Tryz.underlying69
 a72:=Go.Proofs.Tryz.isAgg69
 z72:=Go.Proofs.Tryz.sizeOf69
 v72:=Go.Proofs.Tryz.zeroValue69
 t70:=Go.Proofs.Tryz.underlying66
 a70:=Go.Proofs.Tryz.isAgg66
 z70:=Go.Proofs.Tryz.sizeOf66
 v70:=Go.Proofs.Tryz.zeroValue66
 t37:=Go.Proofs.Tryz.underlying67
 a37:=Go.Proofs.Tryz.isAgg67
 z37:=Go.Proofs.Tryz.sizeOf67
 v37:=Go.Proofs.Tryz.zeroValue67
 t3:=Go.Proofs.Tryz.underlying3
 a3:=Go.Proofs.Tryz.isAgg3
 z3:=Go.Proofs.Tryz.sizeOf3
 v3:=Go.Proofs.Tryz.zeroValue3
 t9:=Go.Proofs.Tryz.underlying9
 a9:=Go.Proofs.Tryz.isAgg9
 z9:=Go.Proofs.Tryz.sizeOf9
 v9:=Go.Proofs.Tryz.zeroValue9
 t4:=Go.Proofs.Tryz.underlying4
 a4:=Go.Proofs.Tryz.isAgg4
 z4:=Go.Proofs.Tryz.sizeOf4
 v4:=Go.Proofs.Tryz.zeroValue4
 t164:=Go.Proofs.Tryz.underlying132
 a164:=Go.Proofs.Tryz.isAgg132
 z164:=Go.Proofs.Tryz.sizeOf132
 v164:=Go.Proofs.Tryz.zeroValue132
 e240:=enters_of Go.Proofs.Tryz.func35 (by kernel_rfl) rfl
 used:=a6r
 fresh:=a3V
theorem b6h:Go.Proofs.Builder.Extra Go.Proofs.Tryz.prog b2n where
 sizeBuilder:=by kernel_rfl
 liesBuilder:=by kernel_rfl
 t5:=Go.Proofs.Tryz.underlying5
 a5:=Go.Proofs.Tryz.isAgg5
 z5:=Go.Proofs.Tryz.sizeOf5
 v5:=Go.Proofs.Tryz.zeroValue5
 infoByte:=by kernel_rfl
 cellsByte:=by kernel_rfl
 sizeByte:=by kernel_rfl
 neB5:=by decide
theorem b4x:Z4 Go.Proofs.Tryz.prog gl 14 s14:=QG b5S b6h
theorem b5i:Z4 Go.Proofs.Tryz.prog gl 64 s64:=Va (E:=⟨8,eqs,tt,gl,[],[],[],[],[],[]⟩) (f:=64) (fn:=Go.Proofs.Tryz.f64) (c:=NY Go.Proofs.Tryz.f64) (t:=.str) (by kernel_rfl) (by kernel_rfl) (by kernel_rfl) (by kernel_rfl)
  (Vk (by kernel_rfl) a6i a0O (by kernel_rfl) trivial trivial) (λb=>by cases b<;>kernel_rfl) (λxs=>by kernel_rfl)
def b4Q:FG 36 s36:=dQ f36 q36 ⟨b5i,G9⟩
def b4R:FG 37 s37:=dQ f37 q37
def a5T:FG 15 s15:=dQ f15 q15 ⟨b4Q,b4R,G9⟩
def a5V:FG 38 s38:=dQ f38 q38 ⟨a6a,G9⟩
def a7P:FG 152 b2U:=dQ f152 b0w ⟨a3y,G9⟩
theorem a8n:Z4 Go.Proofs.Tryz.prog gl 189 b3t:=XD (g:=2) Go.Proofs.Tryz.strconv_Itoa (by kernel_rfl) (by kernel_rfl)
def Yy:FG 153 a4Q:=dQ f153 b0x ⟨a8n,G9⟩
def a3b:FG 190 a6V:=dQ f190 b1a
theorem a3c:Z4 Go.Proofs.Tryz.prog gl 191 a6W:=Ut Go.Proofs.Tryz.strings_Repeat
def a7Q:FG 154 b2V:=dQ f154 b0y ⟨a3b,Yy,a3c,G9⟩
def a3d:FG 192 a6X:=dQ f192 b1b
def a8P:FG 250 b3Y:=dQ f250 b1K
def a3g:FG 222 a7a:=dQ f222 b1t ⟨a8P,G9⟩
def a8Q:FG 251 b3Z:=dQ f251 b1L
def a3h:FG 223 a7b:=dQ f223 b1u ⟨a8Q,G9⟩
def a8o:FG 193 b3u:=dQ f193 b1c ⟨a3d,a3g,a3h,G9⟩
def a8p:FG 194 b3v:=dQ f194 b1d ⟨Yy,a3c,G9⟩
def a7R:FG 155 b2W:=dQ f155 b0z ⟨a3d,a8o,a8p,G9⟩
def a7w:FG 115 b2C:=dQ f115 a9W ⟨Tf,a7P,Yy,a7Q,a7R,G9⟩
def ZU:FG 69 s69:=dQ f69 q69
def b5j:FG 66 s66:=dQ f66 q66 ⟨a7w,ZU,G9⟩
def ZV:FG 70 s70:=dQ f70 q70
def b5k:FG 67 s67:=dQ f67 q67 ⟨ZV,ZU,G9⟩
def a3u:FG 71 s71:=dQ f71 q71
def b5l:FG 68 s68:=dQ f68 q68 ⟨ZV,a3u,ZU,G9⟩
def b5n:FG 72 s72:=dQ f72 q72
def a6b:FG 73 s73:=dQ f73 q73
def b4S:FG 41 s41:=dQ f41 q41 ⟨b5j,b5k,b5l,ZU,ZV,a3u,b5n,a6b,G9⟩
def a5U:FG 16 s16:=dQ f16 q16 ⟨a5V,a5W,a3r,b4S,G9⟩
def a6c:FG 74 s74:=dQ f74 q74
def b4T:FG 42 s42:=dQ f42 q42 ⟨a6c,G9⟩
def b4U:FG 43 s43:=dQ f43 q43 ⟨a6c,G9⟩
def b4y:FG 17 s17:=dQ f17 q17 ⟨b4T,b4U,G9⟩
theorem b4z:Z4 Go.Proofs.Tryz.prog gl 18 s18:=Xc Go.Proofs.Tryz.lays170
theorem b4A:Z4 Go.Proofs.Tryz.prog gl 19 s19:=QF Go.Proofs.Tryz.lays169 Go.Proofs.Tryz.Builder_Extra_169
def b5m:FG 7 s7:=dQ f7 q7 ⟨a5S,b4x,a5T,a5U,b4y,b4z,b4A,G9⟩
def b4I:FG 27 s27:=dQ f27 q27
theorem a2O:Z4 Go.Proofs.Tryz.prog gl 130 a6P:=Nh Go.Proofs.Tryz.stringslite_HasPrefix
def b5v:FG 88 s88:=dQ f88 q88 ⟨a2O,G9⟩
def a3s:FG 52 s52:=dQ f52 q52 ⟨b5v,G9⟩
def a5Y:FG 53 s53:=dQ f53 q53 ⟨a6e,G9⟩
theorem a8g:Z4 Go.Proofs.Tryz.prog gl 176 b3m:=TR Go.Proofs.Tryz.stringslite_Index_one
def a7F:FG 132 b2K:=dQ f132 b0k ⟨a8g,G9⟩
def a6f:FG 90 s90:=dQ f90 q90 ⟨a7F,G9⟩
def a6g:FG 91 s91:=dQ f91 q91
def a8h:FG 177 b3n:=dQ f177 b0R
theorem a8w:Z4 Go.Proofs.Tryz.prog gl 203 b3E:=Nj Go.Proofs.Tryz.stringslite_IndexByte
def a8A:FG 211 b3I:=dQ f211 b1o ⟨a8w,G9⟩
def a8x:FG 207 b3F:=dQ f207 b1k ⟨a2J,G9⟩
def YB:FG 230 a4T:=dQ f230 b1y ⟨UC,G9⟩
def a8F:FG 229 b3O:=dQ f229 b1x ⟨YB,G9⟩
def YA:FG 210 a4S:=dQ f210 b1n ⟨a2O,G9⟩
def a8G:FG 231 b3P:=dQ f231 b1z ⟨YA,YB,G9⟩
def a9e:FG 291 b4n:=dQ f291 b2e
def a9f:FG 292 b4o:=dQ f292 b2f ⟨a3h,a3g,G9⟩
def a8X:FG 258 b4g:=dQ f258 b1S ⟨a9e,a9f,G9⟩
def a9h:FG 308 b4q:=dQ f308 b2j
def a3p:FG 293 a7j:=dQ f293 b2g ⟨a3s,a9h,G9⟩
def a8Y:FG 259 b4h:=dQ f259 b1T ⟨a3b,a3p,G9⟩
def a8Z:FG 260 b4i:=dQ f260 b1U ⟨a3p,G9⟩
def a8H:FG 232 b3Q:=dQ f232 b1A ⟨a8X,a8Y,a8Z,G9⟩
def a8y:FG 208 b3G:=dQ f208 b1l ⟨a8F,YB,a8G,YA,UB,UC,a8H,G9⟩
theorem a8I:Z4 Go.Proofs.Tryz.prog gl 233 b3R:=OY Go.Proofs.Tryz.strings_IndexAny_laid
def a8z:FG 209 b3H:=dQ f209 b1m ⟨a8I,G9⟩
def a8i:FG 178 b3o:=dQ f178 b0S ⟨UB,UC,a8A,a8x,a8y,a8z,YA,G9⟩
def a7G:FG 133 b2L:=dQ f133 b0l ⟨a8h,a8i,G9⟩
def IE:FG 212 Wn:=dQ f212 b1p
def UD:FG 179 a2y:=dQ f179 b0T ⟨IE,G9⟩
def a3j:FG 234 a7d:=dQ f234 b1B
def Ld:FG 182 Yn:=dQ f182 b0V
def Lc:FG 135 Yk:=dQ f135 b0m
def a2Y:FG 181 a6U:=dQ f181 b0U ⟨UD,Lc,G9⟩
def a3m:FG 265 a7g:=dQ f265 b1V ⟨a2Y,G9⟩
def a9a:FG 266 b4j:=dQ f266 b1W ⟨ZV,G9⟩
def a3q:FG 295 a7k:=dQ f295 b2h ⟨IE,Qq,Lc,Yx,G9⟩
def a9i:FG 309 b4r:=dQ f309 b2k ⟨a3u,G9⟩
def a9g:FG 296 b4p:=dQ f296 b2i ⟨IE,a9i,Lc,G9⟩
def Wy:FG 297 Yo:=dQ f297 a1W
def a2Q:FG 139 a2t:=dQ f139 a1N ⟨Wy,G9⟩
def a9b:FG 268 b4k:=dQ f268 b1X ⟨IE,Qq,Lc,Wy,a2Q,a3q,Ld,Yx,G9⟩
def a8B:FG 214 b3J:=dQ f214 b1q ⟨a6b,G9⟩
theorem a5d:∀n,Z4 P gl 134 ⟨SG,[(false,(.dat .bool))],[(true,(.pair (.dat (.sl (.prod (.int .i64) (.prod .str (.prod (.int .i64) (.int .i64)))))) (.pair (.dat (.int .i64)) (.pair (.dat (.int .i64)) (.pair (.dat (.prod (.sl (.prod .str (.sl .str))) (.prod (.sl .str) (.prod (.sl .str) (.prod (.sl .str) (.sl .str)))))) (.pair (.own (.prod (.int .i64) (.int .i64))) (.pair (.dat (.int .i64)) (.dat (.int .i64)))))))))],λx=>(x8 n).1 x⟩/\Z4 P gl 180 ⟨ZF,[(false,(.dat .bool))],[(true,(.pair (.dat (.sl (.prod (.int .i64) (.prod .str (.prod (.int .i64) (.int .i64)))))) (.pair (.dat (.int .i64)) (.pair (.dat (.int .i64)) (.pair (.dat (.prod (.sl (.prod .str (.sl .str))) (.prod (.sl .str) (.prod (.sl .str) (.prod (.sl .str) (.sl .str)))))) (.pair (.own (.prod (.int .i64) (.int .i64))) (.pair (.dat (.int .i64)) (.dat (.int .i64)))))))))],λx=>(x8 n).2.1 x.1 x.2⟩/\Z4 P gl 213 ⟨ZG,[(false,(.dat .bool))],[(true,(.pair (.dat (.sl (.prod (.int .i64) (.prod .str (.prod (.int .i64) (.int .i64)))))) (.pair (.dat (.int .i64)) (.pair (.dat (.int .i64)) (.pair (.dat (.prod (.sl (.prod .str (.sl .str))) (.prod (.sl .str) (.prod (.sl .str) (.prod (.sl .str) (.sl .str)))))) (.pair (.own (.prod (.int .i64) (.int .i64))) (.pair (.dat (.int .i64)) (.dat (.int .i64)))))))))],λx=>(x8 n).2.2.1 x⟩/\Z4 P gl 235 ⟨a1D,[(false,(.dat .bool))],[(true,(.pair (.dat (.sl (.prod (.int .i64) (.prod .str (.prod (.int .i64) (.int .i64)))))) (.pair (.dat (.int .i64)) (.pair (.dat (.int .i64)) (.pair (.dat (.prod (.sl (.prod .str (.sl .str))) (.prod (.sl .str) (.prod (.sl .str) (.prod (.sl .str) (.sl .str)))))) (.pair (.own (.prod (.int .i64) (.int .i64))) (.pair (.dat (.int .i64)) (.dat (.int .i64)))))))))],λx=>(x8 n).2.2.2.1 x⟩/\Z4 P gl 267 ⟨a1E,[(false,(.dat .bool))],[(true,(.pair (.dat (.sl (.prod (.int .i64) (.prod .str (.prod (.int .i64) (.int .i64)))))) (.pair (.dat (.int .i64)) (.pair (.dat (.int .i64)) (.pair (.dat (.prod (.sl (.prod .str (.sl .str))) (.prod (.sl .str) (.prod (.sl .str) (.prod (.sl .str) (.sl .str)))))) (.pair (.own (.prod (.int .i64) (.int .i64))) (.pair (.dat (.int .i64)) (.dat (.int .i64)))))))))],λx=>(x8 n).2.2.2.2 x.1 x.2⟩:=by
 intro n;induction n with
 |zero=>exact⟨(λw ok O vals x r _ _ _ _ _ h=>by cases h),(λw ok O vals x r _ _ _ _ _ h=>by cases h),(λw ok O vals x r _ _ _ _ _ h=>by cases h),(λw ok O vals x r _ _ _ _ _ h=>by cases h),(λw ok O vals x r _ _ _ _ _ h=>by cases h)⟩
 |succ n ih=>exact⟨dS f134 SG a5I (b5H (x8 n).1 (x8 n).2.1 (x8 n).2.2.1 (x8 n).2.2.2.1 (x8 n).2.2.2.2) a9o (by kernel_rfl) rfl trivial ⟨UD,ih.2.1,ih.1,a2Y,Ld,trivial⟩ λx=>by kernel_rfl,
  dS f180 ZF b2q (b5L (x8 n).1 (x8 n).2.1 (x8 n).2.2.1 (x8 n).2.2.2.1 (x8 n).2.2.2.2) a9s (by kernel_rfl) rfl trivial ⟨ih.2.2.1,IE,a8B,ih.2.1,Ld,trivial⟩ λx=>by kernel_rfl,
  dS f213 ZG b2r (b5O (x8 n).1 (x8 n).2.1 (x8 n).2.2.1 (x8 n).2.2.2.1 (x8 n).2.2.2.2) a9v (by kernel_rfl) rfl trivial ⟨UD,IE,a3j,Ld,ih.2.2.1,ih.2.2.2.1,trivial⟩ λx=>by kernel_rfl,
  dS f235 a1D b2s (b5Q (x8 n).1 (x8 n).2.1 (x8 n).2.2.1 (x8 n).2.2.2.1 (x8 n).2.2.2.2) a9x (by kernel_rfl) rfl trivial ⟨IE,a3j,Ld,UD,ih.1,a3m,Lc,a9a,ih.2.2.2.2,a9b,trivial⟩ λx=>by kernel_rfl,
  dS f267 a1E b2t (b5R (x8 n).1 (x8 n).2.1 (x8 n).2.2.1 (x8 n).2.2.2.1 (x8 n).2.2.2.2) a9y (by kernel_rfl) rfl trivial ⟨Ld,a3q,a3m,ih.1,a9g,trivial⟩ λx=>by kernel_rfl⟩
theorem a7H:Z4 P gl 134 b2M:=(a5d fQ).1
def b5w:FG 92 s92:=dQ f92 q92 ⟨a7G,a7H,Lc,a5V,a5U,G9⟩
def b5c:FG 54 s54:=dQ f54 q54 ⟨a6f,a6g,b5w,G9⟩
def b5x:FG 93 s93:=dQ f93 q93
def b5d:FG 55 s55:=dQ f55 q55 ⟨a6f,a3s,a5Y,b5x,a6g,G9⟩
def b4J:FG 28 s28:=dQ f28 q28 ⟨a3s,a5Y,b5c,b5d,G9⟩
def b4v:FG 11 s11:=dQ f11 q11 ⟨a5S,b4I,a5T,b4J,G9⟩
def b5e:FG 56 s56:=dQ f56 q56
def b4K:FG 29 s29:=dQ f29 q29 ⟨b5e,G9⟩
def b4L:FG 30 s30:=dQ f30 q30
def b4M:FG 31 s31:=dQ f31 q31
def b4w:FG 12 s12:=dQ f12 q12 ⟨b4K,b4L,b4M,G9⟩
def b6d:FG 6 s6:=dQ f6 q6 ⟨b4u,b5m,b4v,b4w,G9⟩
def a2V:FG 156 a6Q:=dQ f156 b0A
def a8q:FG 195 b3w:=dQ f195 b1e
def a7S:FG 157 b2X:=dQ f157 b0B ⟨a2V,a8q,G9⟩
def a7T:FG 158 b2Y:=dQ f158 b0C
def Qo:FG 116 a0e:=dQ f116 a9X ⟨a2V,a7S,a7T,G9⟩
def Yu:FG 117 a4M:=dQ f117 a9Y
def b5o:FG 75 s75:=dQ f75 q75 ⟨Qo,Yu,G9⟩
def IC:FG 123 Wl:=dQ f123 b0d
def Yz:FG 162 a4R:=dQ f162 b0G
def a3w:FG 80 s80:=dQ f80 q80 ⟨IC,G9⟩
def a2W:FG 168 a6S:=dQ f168 b0K ⟨a3w,G9⟩
def a7U:FG 159 b2Z:=dQ f159 b0D ⟨Yz,a2W,G9⟩
def a8r:FG 196 b3x:=dQ f196 b1f ⟨Yz,G9⟩
def a7V:FG 160 b3a:=dQ f160 b0E ⟨a8r,G9⟩
def a7x:FG 118 b2D:=dQ f118 a9Z ⟨IC,a7U,a7V,G9⟩
def b5p:FG 76 s76:=dQ f76 q76 ⟨Qo,Yu,a7x,G9⟩
def a7W:FG 161 b3b:=dQ f161 b0F
def a7y:FG 119 b2E:=dQ f119 b0a ⟨Qo,a7W,IC,G9⟩
def a7X:FG 163 b3c:=dQ f163 b0H
def a8s:FG 197 b3y:=dQ f197 b1g
def a7Y:FG 164 b3d:=dQ f164 b0I ⟨a8s,G9⟩
def Yv:FG 122 a4N:=dQ f122 b0c
def a3v:FG 78 s78:=dQ f78 q78 ⟨Yv,G9⟩
def a8R:FG 252 b4a:=dQ f252 b1M
def Qp:FG 287 a0f:=dQ f287 b2a
def a8S:FG 253 b4b:=dQ f253 b1N ⟨Qp,a3w,G9⟩
def a8T:FG 254 b4c:=dQ f254 b1O
def YC:FG 289 a4U:=dQ f289 b2c
def a3o:FG 288 a7i:=dQ f288 b2b ⟨YC,G9⟩
def a8U:FG 255 b4d:=dQ f255 b1P ⟨Qp,IC,a3o,G9⟩
def a8V:FG 256 b4e:=dQ f256 b1Q ⟨YC,Qp,IC,G9⟩
def a9d:FG 290 b4m:=dQ f290 b2d ⟨Qp,G9⟩
def a8W:FG 257 b4f:=dQ f257 b1R ⟨YC,a9d,a3o,Qp,G9⟩
def a8E:FG 224 b3M:=dQ f224 b1v ⟨a8R,a8S,a8T,a8U,a8V,a8W,G9⟩
def a8t:FG 198 b3z:=dQ f198 b1h ⟨a3v,Yv,a8E,G9⟩
def a7Z:FG 165 b3e:=dQ f165 b0J ⟨a8t,G9⟩
def a7z:FG 120 b2F:=dQ f120 b0b ⟨Qo,Yz,a7X,a7Y,a7Z,G9⟩
def b6m:FG 199 b3A:=dQ f199 b6s
def b6o:FG 225 b3N:=dQ f225 b6u
def b6n:FG 200 b3B:=dQ f200 b6t ⟨b6o,G9⟩
def b6k:FG 167 a6R:=dQ f167 b6r
def b6l:FG 166 b3f:=dQ f166 b6q ⟨b6m,b6n,b6k,G9⟩
def a7A:FG 121 a6N:=dQ f121 b6p ⟨b6l,b6k,G9⟩
def b5q:FG 77 s77:=dQ f77 q77 ⟨Qo,Yu,a7y,a7z,a7A,G9⟩
def b4V:FG 44 s44:=dQ f44 q44 ⟨b5o,b5p,b5q,G9⟩
def b4B:FG 20 s20:=dQ f20 q20 ⟨b4V,G9⟩
def b4C:FG 21 s21:=dQ f21 q21
def b4Z:FG 48 s48:=dQ f48 q48
def b4E:FG 23 s23:=dQ f23 q23 ⟨b4Z,G9⟩
def b4W:FG 45 s45:=dQ f45 q45 ⟨a3v,G9⟩
def a6d:FG 79 s79:=dQ f79 q79
def a3x:FG 81 s81:=dQ f81 q81
def b4X:FG 46 s46:=dQ f46 q46 ⟨a6d,a3w,a3x,G9⟩
def b5r:FG 82 s82:=dQ f82 q82 ⟨a3v,Yv,G9⟩
def a2N:FG 124 a6O:=dQ f124 b0e
def a7B:FG 125 b2G:=dQ f125 b0f ⟨a2N,IC,a2W,G9⟩
theorem a5e:∀n,Z4 P gl 169 ⟨ZE,[(false,(.dat .str))],[],λx=>(mF n) x⟩:=by
 intro n;induction n with
 |zero=>exact λw ok O vals x r _ _ _ _ _ h=>by cases h
 |succ n ih=>exact dS f169 ZE a5L (b5K (mF n)) a9r (by kernel_rfl) rfl trivial ⟨ih,trivial⟩ λx=>by kernel_rfl
theorem a8a:Z4 P gl 169 b3g:=(a5e fQ)
def Yw:FG 126 a4O:=dQ f126 b0g ⟨a8a,G9⟩
def a8b:FG 170 b3h:=dQ f170 b0L
def a8c:FG 171 b3i:=dQ f171 b0M
def a7C:FG 127 b2H:=dQ f127 b0h ⟨a8b,Yw,a8c,G9⟩
def a2X:FG 172 a6T:=dQ f172 b0N
def a3i:FG 226 a7c:=dQ f226 b1w
def a8u:FG 201 b3C:=dQ f201 b1i ⟨a3i,G9⟩
def a8v:FG 202 b3D:=dQ f202 b1j ⟨a3i,G9⟩
def a8d:FG 173 b3j:=dQ f173 b0O ⟨a2X,a8u,a8v,G9⟩
def a8e:FG 174 b3k:=dQ f174 b0P ⟨Yw,G9⟩
def a7D:FG 128 b2I:=dQ f128 b0i ⟨a2X,a8d,a8e,G9⟩
def b5s:FG 83 s83:=dQ f83 q83 ⟨a2N,IC,a7B,Yw,a7C,a7D,G9⟩
def b5t:FG 84 s84:=dQ f84 q84
def b5u:FG 86 s86:=dQ f86 q86
def a8f:FG 175 b3l:=dQ f175 b0Q
def a7E:FG 129 b2J:=dQ f129 b0j ⟨a8f,G9⟩
theorem a9j:∀n,Z4 P gl 47 ⟨a1F,[(false,(.dat .str)),(false,(.dat (.int .i64)))],[(true,(.dat (.prod (.sl (.prod (.int .i64) (.int .i64))) (.prod (.sl (.prod .str (.sl .str))) (.prod (.sl .str) (.prod (.sl .str) (.prod (.sl .str) (.sl .str))))))))],λx=>(A7 n).1 x.1 x.2⟩/\Z4 P gl 85 ⟨a4A,[(false,(.dat .str))],[(true,(.dat (.prod (.sl (.prod (.int .i64) (.int .i64))) (.prod (.sl (.prod .str (.sl .str))) (.prod (.sl .str) (.prod (.sl .str) (.prod (.sl .str) (.sl .str))))))))],λx=>(A7 n).2.1 x.1 x.2.1 x.2.2⟩/\Z4 P gl 87 ⟨a6J,[(false,(.dat .str))],[(true,(.dat (.prod (.sl (.prod (.int .i64) (.int .i64))) (.prod (.sl (.prod .str (.sl .str))) (.prod (.sl .str) (.prod (.sl .str) (.prod (.sl .str) (.sl .str))))))))],λx=>(A7 n).2.2 x.1 x.2.1 x.2.2⟩:=by
 intro n;induction n with
 |zero=>exact⟨(λw ok O vals x r _ _ _ _ _ h=>by cases h),(λw ok O vals x r _ _ _ _ _ h=>by cases h),(λw ok O vals x r _ _ _ _ _ h=>by cases h)⟩
 |succ n ih=>exact⟨dS f47 a1F b2u (e47 (A7 n).1 (A7 n).2.1 (A7 n).2.2) b5C (by kernel_rfl) rfl trivial ⟨b5r,a6d,b5s,b5t,ih.2.1,a3x,ih.1,b5u,ih.2.2,trivial⟩ λx=>by kernel_rfl,
  dS f85 a4A b5Y (e85 (A7 n).1 (A7 n).2.1 (A7 n).2.2) b5D (by kernel_rfl) rfl trivial ⟨ih.1,trivial⟩ λx=>by kernel_rfl,
  dS f87 a6J b5Z (e87 (A7 n).1 (A7 n).2.1 (A7 n).2.2) b5E (by kernel_rfl) rfl trivial ⟨a3x,ih.2.1,a7E,trivial⟩ λx=>by kernel_rfl⟩
theorem b4Y:Z4 P gl 47 s47:=(a9j fQ).1
def b4D:FG 22 s22:=dQ f22 q22 ⟨b4W,b4X,b4Y,G9⟩
def a5X:FG 50 s50:=dQ f50 q50
def b5a:FG 49 s49:=dQ f49 q49
def b4F:FG 24 s24:=dQ f24 q24 ⟨a5X,b5a,G9⟩
def b5b:FG 51 s51:=dQ f51 q51 ⟨a5X,G9⟩
def b4G:FG 25 s25:=dQ f25 q25 ⟨b5b,G9⟩
def b4H:FG 26 s26:=dQ f26 q26
def b6e:FG 8 s8:=dQ f8 q8 ⟨b4B,b4C,b4E,b4D,b4F,b4G,b4H,G9⟩
def b6a:FG 3 s3:=dQ f3 q3 ⟨b6b,b6c,b6d,b5m,b6e,G9⟩
end Gt
