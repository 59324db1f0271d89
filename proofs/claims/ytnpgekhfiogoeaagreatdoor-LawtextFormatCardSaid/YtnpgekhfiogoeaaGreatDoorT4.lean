import Derived.Test.YtnpgekhfiogoeaaGreatDoorT3
import Derived.Test.YtnpgekhfiogoeaaGreatDoorProg
import Derived.Test.YtnpgekhfiogoeaaGreatDoorShelf
import Derived.Deep.QuietTactic
import Derived.BigQuiet
set_option linter.all false
open Go Go.GP Go.Shelf Go.RowKit Go.Proofs Go.Proofs.Tryz
namespace Gt
set_option maxRecDepth 100000
noncomputable abbrev P:Program:=Go.Proofs.Tryz.prog
theorem a7Z:Yk P tt=true:=by kernel_rfl
theorem a2B:∀t sh,bP eqs t=some sh->Hw P t sh:=WT (by kernel_rfl)
theorem dS{f:FuncId}(fn:Func)(ps:List MG)(rt:Ret)(E:Env)(an:Ann){F:X4 ps->Option rt.den}(h:(P.funcs[f]?,fn.body,fn.ntmps,fn.results.toList,Nat.ble (64*E.nt) 999936,Ub P E.fs)=(some fn,some (PP fn),E.nt,rt.rs.map (·.1),true,true))(ht:(E.tt,E.eqs)=(tt,eqs))(hm:Wv P E.ms)(hs:a2d P E.gl E.fs)(hp:Wx P E.pl)(hF:∀x,a1b E ps rt (PP fn) an x=F x):
  dm P E.gl f ⟨ps,rt.rs.map (·.2),rt.outs.map (·.2),F⟩:=by
 injection h with h1 h;injection h with h2 h;injection h with h3 h;injection h with h4 h;injection h with h5 h6;injection ht with t1 t2;exact Jm h1 h2 h3 h4 (WS h5 (t1▸a7Z) (t2▸a2B) h6 hm hs hp) λx r h=>(hF x).trans h
theorem WL{h:Array Obj}{blk off:Nat}{v:Value}(e:bF h blk off 1=some [v]):∃c T m,h[blk]? =some (.cells c T m)/\c[off]? =some v:=by
 unfold bF at e;split at e
 .rename_i c T m hc;split at e
  .rename_i hle;refine⟨c,T,m,hc,?_⟩;simp only[E5]at e;have h1:c.toList[off]? =some v:=by
    have:(c.toList.drop off)[0]? =some v:=by have:=congrArg (λl=>l[0]?) e;simpa[U3]using this
    simpa[U2]using this
   simpa using h1
  .cases e
 .cases e
theorem b1L(w:World)(x y:Value)(hp:Jj w.heap x 2 5 0 y):Calls Go.Proofs.Tryz.prog 63 #[x] w λe w' =>e= .returned y/\∃n,w' =w.drewN n:=by
 obtain⟨blk,o,b,bo,n,c,rfl,e,h0,h1,rfl⟩:=hp;have hc:w.cell? ⟨blk,o+2,none⟩=some (.slice (some ⟨b,bo,none⟩) n c):=by obtain⟨cs,T,m,e1,e2⟩:=WL e;simp[World.cell?,e1,e2]
 clear e;obtain⟨j,hj⟩:∃j:Nat,IntKind.i64.wrap ((n:Int) -1)=(j:Int):=⟨_,(fV h0).symm⟩;have e2:O6 .i64 (n:Int) 1=(j:Int):=hj;rw[e2]at h1;rw[e2,Y1,aC];have hjn:j<n:=Int.ofNat_lt.1 h1;clear h0 h1 e2;have t49:=Go.Proofs.Tryz.underlying49;have a49:=Go.Proofs.Tryz.isAgg49;have z49:=Go.Proofs.Tryz.sizeOf49;have t84:=Go.Proofs.Tryz.underlying84;have a84:=Go.Proofs.Tryz.isAgg84;have z84:=Go.Proofs.Tryz.sizeOf84;have v84:=Go.Proofs.Tryz.zeroValue84;have u84:=run_underlying Go.Proofs.Tryz.underlying84;have t86:=Go.Proofs.Tryz.underlying86;have a86:=Go.Proofs.Tryz.isAgg86;have z86:=Go.Proofs.Tryz.sizeOf86;have v86:=Go.Proofs.Tryz.zeroValue86;have u86:=run_underlying Go.Proofs.Tryz.underlying86;have t26:=Go.Proofs.Tryz.underlying26;have a26:=Go.Proofs.Tryz.isAgg26;have z26:=Go.Proofs.Tryz.sizeOf26;have v26:=Go.Proofs.Tryz.zeroValue26;have u26:=run_underlying Go.Proofs.Tryz.underlying26;have t24:=Go.Proofs.Tryz.underlying24;have a24:=Go.Proofs.Tryz.isAgg24;have z24:=Go.Proofs.Tryz.sizeOf24;have v24:=Go.Proofs.Tryz.zeroValue24;have u24:=run_underlying Go.Proofs.Tryz.underlying24;have t109:=Go.Proofs.Tryz.underlying109;have a109:=Go.Proofs.Tryz.isAgg109;have z109:=Go.Proofs.Tryz.sizeOf109;have v109:=Go.Proofs.Tryz.zeroValue109;have u109:=run_underlying Go.Proofs.Tryz.underlying109;have t3:=Go.Proofs.Tryz.underlying3;have a3:=Go.Proofs.Tryz.isAgg3;have z3:=Go.Proofs.Tryz.sizeOf3;have v3:=Go.Proofs.Tryz.zeroValue3;have u3:=run_underlying Go.Proofs.Tryz.underlying3
 go_enter Go.Proofs.Tryz.func63,(show Go.Proofs.Tryz.f63.ntmps=16 by kernel_rfl)
 go_wp2
 go_quiet (skip)
 go_wp2
 go_ret
 exact⟨rfl,nq,rfl⟩
theorem a3t:JP P 63 2 5:=⟨⟨_,Go.Proofs.Tryz.func63,by kernel_rfl,by kernel_rfl⟩,b1L⟩
theorem dQ{f:FuncId}(fn:Func)(q:FQ){F:X4 q.ps->Option q.rt.den}(hs:a2d P q.E.gl q.E.fs:=by exact trivial)(h:(P.funcs[f]?,fn.body,fn.ntmps,fn.results.toList,Nat.ble (64*q.E.nt) 999936,Ub P q.E.fs)=(some fn,some (PP fn),q.E.nt,q.rt.rs.map (·.1),true,true):=by kernel_rfl)(ht:(q.E.tt,q.E.eqs)=(tt,eqs):=by rfl)(hm:Wv P q.E.ms:=by exact trivial)(hp:Wx P q.E.pl:=by exact trivial)(hF:∀x,a1b q.E q.ps q.rt (PP fn) q.an x=F x:=by intro x;kernel_rfl):
  dm P q.E.gl f ⟨q.ps,q.rt.rs.map (·.2),q.rt.outs.map (·.2),F⟩:=dS fn q.ps q.rt q.E q.an h ht hm hs hp hF
abbrev FG(n:FuncId)(s:FSpec):=dm P gl n s
def VW:FG 121 a4i:=dQ f121 b2h
def VZ:FG 189 a4o:=dQ f189 b3j
def a4J:FG 122 a8G:=dQ f122 b2i ⟨VW,VZ,F9⟩
def a9s:FG 123 b5j:=dQ f123 b2j
def RS:FG 71 s71:=dQ f71 q71 ⟨VW,a4J,a9s,F9⟩
def XP:FG 125 ZJ:=dQ f125 a3A
def a4Y:FG 190 a4p:=dQ f190 a3F ⟨XP,F9⟩
def a4K:FG 124 a4j:=dQ f124 a3z ⟨a4Y,F9⟩
def a5x:FG 72 s72:=dQ f72 q72 ⟨XP,a4K,F9⟩
def d_:FG 187 a6R:=dQ f187 b3h
def a9q:FG 116 b5h:=dQ f116 b2e ⟨d_,F9⟩
def b7Q:FG 69 s69:=dQ f69 q69 ⟨RS,a5x,a9q,F9⟩
def b7x:FG 34 s34:=dQ f34 q34 ⟨b7Q,F9⟩
def RU:FG 76 s76:=dQ f76 q76
def XX:FG 38 s38:=dQ f38 q38 ⟨RU,F9⟩
def a4H:FG 117 a8F:=dQ f117 b2f
def b0y:FG 235 b6p:=dQ f235 b3P ⟨a4H,F9⟩
def b0b:FG 188 b5S:=dQ f188 b3i ⟨b0y,F9⟩
def a9r:FG 120 b5i:=dQ f120 b2g ⟨b0b,F9⟩
def XO:FG 119 ZI:=dQ f119 a3y ⟨a9r,F9⟩
def a4I:FG 118 a4h:=dQ f118 a3x ⟨XO,F9⟩
def b7R:FG 70 s70:=dQ f70 q70 ⟨RU,XX,a4H,XO,a4I,F9⟩
def XQ:FG 127 ZK:=dQ f127 a3C
def a5a:FG 191 a4r:=dQ f191 a3H ⟨XQ,F9⟩
def a4L:FG 126 a4k:=dQ f126 a3B ⟨a5a,F9⟩
def a7S:FG 73 s73:=dQ f73 q73 ⟨XQ,a4L,F9⟩
def b7y:FG 35 s35:=dQ f35 q35 ⟨b7R,RS,a5x,a7S,F9⟩
def XR:FG 129 ZL:=dQ f129 a3E
def a5b:FG 192 a4s:=dQ f192 a3I ⟨XR,F9⟩
def a4M:FG 128 a4l:=dQ f128 a3D ⟨a5b,F9⟩
def XU:FG 193 ZN:=dQ f193 a3J
def a5i:FG 236 a4w:=dQ f236 a3N ⟨XU,F9⟩
def a5c:FG 194 a4t:=dQ f194 a3K ⟨a5i,F9⟩
def a9t:FG 130 b5k:=dQ f130 b2k ⟨XU,RS,a5c,RU,F9⟩
def b0c:FG 195 b5T:=dQ f195 b3k
def a9u:FG 131 b5l:=dQ f131 b2l ⟨b0c,F9⟩
def XV:FG 197 ZO:=dQ f197 a3M
def a5j:FG 237 a4x:=dQ f237 a3O ⟨XV,F9⟩
def a5d:FG 196 a4u:=dQ f196 a3L ⟨a5j,F9⟩
theorem b0z:dm Go.Proofs.Tryz.prog gl 238 b6q:=OL Go.Proofs.Tryz.strings_Contains_one
def b0d:FG 198 b5U:=dQ f198 b3l ⟨b0z,F9⟩
def a5y:FG 85 s85:=dQ f85 q85
def a4R:FG 141 a8L:=dQ f141 b2t ⟨a5y,F9⟩
def a7W:FG 84 s84:=dQ f84 q84
def b1a:FG 293 b6R:=dQ f293 b4u ⟨XX,F9⟩
def b1b:FG 294 b6S:=dQ f294 b4v
def a5r:FG 295 a9b:=dQ f295 b4w ⟨RU,F9⟩
def a5s:FG 298 a9c:=dQ f298 b4z
def b1c:FG 296 b6T:=dQ f296 b4x ⟨a5s,RU,F9⟩
def a5v:FG 319 a9f:=dQ f319 b4L
def b1d:FG 297 b6U:=dQ f297 b4y ⟨a5r,a5v,F9⟩
def b1l:FG 320 b7c:=dQ f320 b4M
def b1e:FG 299 b6V:=dQ f299 b4A ⟨a5v,b1l,F9⟩
def b0L:FG 266 b6C:=dQ f266 b4e ⟨b1a,b1b,a5r,b1c,b1d,a5s,b1e,F9⟩
def b0A:FG 239 b6r:=dQ f239 b3Q ⟨a4R,a7W,a5y,b0L,F9⟩
def b0e:FG 199 b5V:=dQ f199 b3m ⟨b0A,F9⟩
def a9v:FG 132 b5m:=dQ f132 b2m ⟨RS,XV,a5d,b0d,b0e,F9⟩
theorem a5o:dm Go.Proofs.Tryz.prog gl 268 a8Y:=m_ Go.Proofs.Tryz.slices_Sort_int Go.Proofs.Tryz.slices_Sort_int_none
theorem a5p:dm Go.Proofs.Tryz.prog gl 269 a8Z:=SV Go.Proofs.Tryz.slices_Compact_int Go.Proofs.Tryz.slices_Compact_int_empty
def b1f:FG 300 b6W:=dQ f300 b4B ⟨a5o,a5p,F9⟩
def b0M:FG 267 b6D:=dQ f267 b4f ⟨b1f,F9⟩
def b0B:FG 240 b6s:=dQ f240 b3R ⟨b0M,F9⟩
def b0C:FG 241 b6t:=dQ f241 b3S ⟨a5o,a5p,F9⟩
def b0h:FG 202 b5Y:=dQ f202 b3p ⟨b0B,b0C,F9⟩
def b0g:FG 201 b5X:=dQ f201 b3o
def a9x:FG 134 b5o:=dQ f134 b2o ⟨b0h,b0g,F9⟩
def b0f:FG 200 b5W:=dQ f200 b3n
def a9w:FG 133 b5n:=dQ f133 b2n ⟨b0f,F9⟩
def b7S:FG 74 s74:=dQ f74 q74 ⟨a5x,a7S,XR,a4M,RS,a9t,a9u,a9v,a9x,a9w,F9⟩
def b7z:FG 36 s36:=dQ f36 q36 ⟨b7S,F9⟩
def a7N:FG 15 s15:=dQ f15 q15 ⟨b7x,b7y,b7z,F9⟩
def b7j:FG 13 s13:=dQ f13 q13
def b8O:FG 7 s7:=dQ f7 q7 ⟨b7j,F9⟩
def b7k:FG 14 s14:=dQ f14 q14
def b7v:FG 29 s29:=dQ f29 q29
theorem ZV:dm Go.Proofs.Tryz.prog gl 103 a6K:=a0Z (g:=1) Go.Proofs.Tryz.strings_Cut (by kernel_rfl)
def BG:FG 57 s57:=dQ f57 q57 ⟨ZV,F9⟩
def b7K:FG 58 s58:=dQ f58 q58 ⟨BG,F9⟩
def ZW:FG 104 a6L:=dQ f104 b1W ⟨BG,F9⟩
def Nj:FG 105 ZH:=dQ f105 b1X
def b7L:FG 59 s59:=dQ f59 q59 ⟨BG,ZW,Nj,F9⟩
def b0t:FG 223 b6k:=dQ f223 b3G
def b0j:FG 205 b6a:=dQ f205 b3s
def a4P:FG 138 a8J:=dQ f138 b2s ⟨b0j,F9⟩
def b0i:FG 204 b5Z:=dQ f204 b3r
def a4O:FG 137 a8I:=dQ f137 b2r ⟨b0i,F9⟩
def b0u:FG 224 b6l:=dQ f224 b3H ⟨a4P,a4O,F9⟩
def b_:FG 176 a6Q:=dQ f176 b2Z ⟨b0t,b0u,F9⟩
def a4E:FG 106 a8C:=dQ f106 b1Y ⟨BG,b_,F9⟩
theorem a5k:dm Go.Proofs.Tryz.prog gl 244 a8V:=OO Go.Proofs.Tryz.stringslite_HasPrefix
def b1i:FG 310 b6Z:=dQ f310 b4H ⟨a5k,F9⟩
def b0U:FG 284 b6L:=dQ f284 b4n ⟨b1i,F9⟩
def b0V:FG 285 b6M:=dQ f285 b4o
def a5n:FG 258 a8X:=dQ f258 b3Y ⟨b0U,b0V,F9⟩
def h_:FG 226 a6U:=dQ f226 b3J ⟨a5n,F9⟩
def a5e:FG 203 a8R:=dQ f203 b3q
def a5m:FG 256 a8W:=dQ f256 b3W ⟨a5e,a5n,F9⟩
def b1h:FG 309 b6Y:=dQ f309 b4G
def b0T:FG 283 b6K:=dQ f283 b4m ⟨b1h,F9⟩
def b0G:FG 257 b6x:=dQ f257 b3X ⟨b0T,F9⟩
def b0v:FG 225 b6m:=dQ f225 b3I ⟨h_,a5m,b0G,b_,F9⟩
def a4N:FG 135 a8H:=dQ f135 b2p ⟨XX,F9⟩
def a9T:FG 177 b5K:=dQ f177 b3a ⟨RU,b0v,a4N,F9⟩
def a9n:FG 107 b5e:=dQ f107 b1Z ⟨BG,XX,a9T,F9⟩
def b7M:FG 60 s60:=dQ f60 q60 ⟨a4E,a9n,Nj,F9⟩
def b7N:FG 61 s61:=dQ f61 q61 ⟨BG,Nj,F9⟩
def b7O:FG 62 s62:=dQ f62 q62 ⟨BG,Nj,F9⟩ (hp:=⟨a3t,F9⟩)
def a7a:FG 64 a7J:=dQ f64 a7F ⟨BG,ZW,Nj,F9⟩
def a7b:FG 64 a7K:=dQ f64 a7G ⟨BG,ZW,Nj,F9⟩
def a9U:FG 178 b5L:=dQ f178 b3b ⟨BG,F9⟩
def a9V:FG 179 b5M:=dQ f179 b3c ⟨BG,F9⟩ (hp:=⟨a3t,F9⟩)
def a9W:FG 180 b5N:=dQ f180 b3d ⟨BG,F9⟩ (hp:=⟨a3t,F9⟩)
def a9X:FG 181 b5O:=dQ f181 b3e ⟨BG,h_,F9⟩
def a9o:FG 108 b5f:=dQ f108 b2a ⟨BG,a9U,a9V,a9W,a9X,a4E,F9⟩
theorem b7V:dm Go.Proofs.Tryz.prog gl 81 s81:=WM (E:=⟨8,eqs,tt,gl,[],[],[],[],[],[],[]⟩) (f:=81) (fn:=Go.Proofs.Tryz.f81) (c:=PP Go.Proofs.Tryz.f81) (t:=.str) (by kernel_rfl) (by kernel_rfl) (by kernel_rfl) (by kernel_rfl)
  (WS (by kernel_rfl) a7Z a2B (by kernel_rfl) trivial trivial trivial) (λb=>by cases b<;>kernel_rfl) (λxs=>by kernel_rfl)
def b7B:FG 42 s42:=dQ f42 q42 ⟨b7V,F9⟩
def b7C:FG 43 s43:=dQ f43 q43
def a7O:FG 20 s20:=dQ f20 q20 ⟨b7B,b7C,F9⟩
def b0w:FG 227 b6n:=dQ f227 b3K
theorem b0a:dm Go.Proofs.Tryz.prog gl 185 b5R:=OQ Go.Proofs.Tryz.stringslite_IndexByte
def a4G:FG 111 a8E:=dQ f111 b2d ⟨b0a,F9⟩
def b0H:FG 259 b6y:=dQ f259 b3Z ⟨a4J,F9⟩
def j_:FG 287 a6V:=dQ f287 b4q ⟨VZ,F9⟩
def b0W:FG 286 b6N:=dQ f286 b4p ⟨j_,F9⟩
def f_:FG 207 a6S:=dQ f207 b3t ⟨a5k,F9⟩
def b0X:FG 288 b6O:=dQ f288 b4r ⟨f_,j_,F9⟩
def b0Y:FG 289 b6P:=dQ f289 b4s ⟨b_,a5m,h_,F9⟩
def b0I:FG 260 b6z:=dQ f260 b4a ⟨b0W,j_,b0X,f_,VW,VZ,b0Y,F9⟩
theorem b0Z:dm Go.Proofs.Tryz.prog gl 290 b6Q:=Qy Go.Proofs.Tryz.strings_IndexAny_laid
def b0J:FG 261 b6A:=dQ f261 b4b ⟨b0Z,F9⟩
def b0x:FG 228 b6o:=dQ f228 b3L ⟨VW,VZ,a4G,b0H,b0I,b0J,f_,F9⟩
def a9Y:FG 182 b5P:=dQ f182 b3f ⟨b0w,b0x,F9⟩
def JK:FG 262 XM:=dQ f262 b4c
def We:FG 229 a4v:=dQ f229 b3M ⟨JK,F9⟩
def a5q:FG 291 a9a:=dQ f291 b4t
def Nl:FG 232 ZP:=dQ f232 b3O
def Nk:FG 184 ZM:=dQ f184 b3g
def a5h:FG 231 a8U:=dQ f231 b3N ⟨We,Nk,F9⟩
def a5u:FG 315 a9e:=dQ f315 b4I ⟨a5h,F9⟩
def VY:FG 146 a4n:=dQ f146 b2y
def b1j:FG 316 b7a:=dQ f316 b4J ⟨VY,F9⟩
def a5w:FG 332 a9g:=dQ f332 b4N ⟨JK,RS,Nk,d_,F9⟩
def ZX:FG 147 a6M:=dQ f147 b2z
def b1n:FG 341 b7e:=dQ f341 b4P ⟨ZX,F9⟩
def b1m:FG 333 b7d:=dQ f333 b4O ⟨JK,b1n,Nk,F9⟩
def XW:FG 334 ZQ:=dQ f334 a3P
def a4Z:FG 190 a4q:=dQ f190 a3G ⟨XW,F9⟩
def b1k:FG 318 b7b:=dQ f318 b4K ⟨JK,RS,Nk,XW,a4Z,a5w,Nl,d_,F9⟩
def a4S:FG 149 a8M:=dQ f149 b2B
def b0K:FG 264 b6B:=dQ f264 b4d ⟨a4S,F9⟩
theorem a7d:∀n,dm P gl 183 ⟨Uu,[(false,(.dat .bool))],[(true,(.pair (.dat (.sl (.prod (.int .i64) (.prod .str (.prod (.int .i64) (.int .i64)))))) (.pair (.dat (.int .i64)) (.pair (.dat (.int .i64)) (.pair (.dat (.prod (.sl (.prod .str (.sl .str))) (.prod (.sl .str) (.prod (.sl .str) (.prod (.sl .str) (.sl .str)))))) (.pair (.own (.prod (.int .i64) (.int .i64))) (.pair (.dat (.int .i64)) (.dat (.int .i64)))))))))],λx=>(x8 n).1 x⟩/\dm P gl 230 ⟨a0p,[(false,(.dat .bool))],[(true,(.pair (.dat (.sl (.prod (.int .i64) (.prod .str (.prod (.int .i64) (.int .i64)))))) (.pair (.dat (.int .i64)) (.pair (.dat (.int .i64)) (.pair (.dat (.prod (.sl (.prod .str (.sl .str))) (.prod (.sl .str) (.prod (.sl .str) (.prod (.sl .str) (.sl .str)))))) (.pair (.own (.prod (.int .i64) (.int .i64))) (.pair (.dat (.int .i64)) (.dat (.int .i64)))))))))],λx=>(x8 n).2.1 x.1 x.2⟩/\dm P gl 263 ⟨a0q,[(false,(.dat .bool))],[(true,(.pair (.dat (.sl (.prod (.int .i64) (.prod .str (.prod (.int .i64) (.int .i64)))))) (.pair (.dat (.int .i64)) (.pair (.dat (.int .i64)) (.pair (.dat (.prod (.sl (.prod .str (.sl .str))) (.prod (.sl .str) (.prod (.sl .str) (.prod (.sl .str) (.sl .str)))))) (.pair (.own (.prod (.int .i64) (.int .i64))) (.pair (.dat (.int .i64)) (.dat (.int .i64)))))))))],λx=>(x8 n).2.2.1 x⟩/\dm P gl 292 ⟨a3v,[(false,(.dat .bool))],[(true,(.pair (.dat (.sl (.prod (.int .i64) (.prod .str (.prod (.int .i64) (.int .i64)))))) (.pair (.dat (.int .i64)) (.pair (.dat (.int .i64)) (.pair (.dat (.prod (.sl (.prod .str (.sl .str))) (.prod (.sl .str) (.prod (.sl .str) (.prod (.sl .str) (.sl .str)))))) (.pair (.own (.prod (.int .i64) (.int .i64))) (.pair (.dat (.int .i64)) (.dat (.int .i64)))))))))],λx=>(x8 n).2.2.2.1 x⟩/\dm P gl 317 ⟨a3w,[(false,(.dat .bool))],[(true,(.pair (.dat (.sl (.prod (.int .i64) (.prod .str (.prod (.int .i64) (.int .i64)))))) (.pair (.dat (.int .i64)) (.pair (.dat (.int .i64)) (.pair (.dat (.prod (.sl (.prod .str (.sl .str))) (.prod (.sl .str) (.prod (.sl .str) (.prod (.sl .str) (.sl .str)))))) (.pair (.own (.prod (.int .i64) (.int .i64))) (.pair (.dat (.int .i64)) (.dat (.int .i64)))))))))],λx=>(x8 n).2.2.2.2 x.1 x.2⟩:=by
 intro n;induction n with
 |zero=>exact⟨(λw ok O vals x r _ _ _ _ _ _ h=>by cases h),(λw ok O vals x r _ _ _ _ _ _ h=>by cases h),(λw ok O vals x r _ _ _ _ _ _ h=>by cases h),(λw ok O vals x r _ _ _ _ _ _ h=>by cases h),(λw ok O vals x r _ _ _ _ _ _ h=>by cases h)⟩
 |succ n ih=>exact⟨dS f183 Uu a7I (b8p (x8 n).1 (x8 n).2.1 (x8 n).2.2.1 (x8 n).2.2.2.1 (x8 n).2.2.2.2) b1w (by kernel_rfl) rfl trivial ⟨We,ih.2.1,ih.1,a5h,Nl,trivial⟩ trivial λx=>by kernel_rfl,
  dS f230 a0p b4W (b8q (x8 n).1 (x8 n).2.1 (x8 n).2.2.1 (x8 n).2.2.2.1 (x8 n).2.2.2.2) b1x (by kernel_rfl) rfl trivial ⟨ih.2.2.1,JK,b0K,ih.2.1,Nl,trivial⟩ trivial λx=>by kernel_rfl,
  dS f263 a0q b4X (b8r (x8 n).1 (x8 n).2.1 (x8 n).2.2.1 (x8 n).2.2.2.1 (x8 n).2.2.2.2) b1y (by kernel_rfl) rfl trivial ⟨We,JK,a5q,Nl,ih.2.2.1,ih.2.2.2.1,trivial⟩ trivial λx=>by kernel_rfl,
  dS f292 a3v b4Y (b8s (x8 n).1 (x8 n).2.1 (x8 n).2.2.1 (x8 n).2.2.2.1 (x8 n).2.2.2.2) b1z (by kernel_rfl) rfl trivial ⟨JK,a5q,Nl,We,ih.1,a5u,Nk,b1j,ih.2.2.2.2,b1k,trivial⟩ trivial λx=>by kernel_rfl,
  dS f317 a3w b4Z (b8t (x8 n).1 (x8 n).2.1 (x8 n).2.2.1 (x8 n).2.2.2.1 (x8 n).2.2.2.2) b1A (by kernel_rfl) rfl trivial ⟨Nl,a5w,a5u,ih.1,b1m,trivial⟩ trivial λx=>by kernel_rfl⟩
theorem a9Z:dm P gl 183 b5Q:=(a7d ji).1
def a7V:FG 83 s83:=dQ f83 q83 ⟨a4R,F9⟩
theorem b7W:dm Go.Proofs.Tryz.prog gl 82 s82:=Zd (g:=2) Go.Proofs.Tryz.strconv_Itoa (by kernel_rfl) (by kernel_rfl)
def a0F:FG 44 s44:=dQ f44 q44 ⟨b7W,F9⟩
theorem a4Q:dm Go.Proofs.Tryz.prog gl 139 a8K:=VK Go.Proofs.Tryz.strings_Repeat
def a9y:FG 136 b5p:=dQ f136 b2q ⟨a5e,a0F,a4Q,F9⟩
def a7U:FG 78 s78:=dQ f78 q78
def b7T:FG 79 s79:=dQ f79 q79 ⟨a7U,a4O,a4P,F9⟩
def b7U:FG 80 s80:=dQ f80 q80 ⟨a0F,a4Q,F9⟩
def a0E:FG 40 s40:=dQ f40 q40 ⟨a7U,b7T,b7U,F9⟩
def a7T:FG 77 s77:=dQ f77 q77 ⟨RU,a4N,a0F,a9y,a0E,F9⟩
def VX:FG 145 a4m:=dQ f145 b2x
def a9z:FG 142 b5q:=dQ f142 b2u ⟨a7T,VX,F9⟩
def a9A:FG 143 b5r:=dQ f143 b2v ⟨VY,VX,F9⟩
def a9B:FG 144 b5s:=dQ f144 b2w ⟨VY,ZX,VX,F9⟩
def a9C:FG 148 b5t:=dQ f148 b2A
def b7X:FG 86 s86:=dQ f86 q86 ⟨a9z,a9A,a9B,VX,VY,ZX,a9C,a4S,F9⟩
def a7Q:FG 45 s45:=dQ f45 q45 ⟨a7V,a7W,a5y,b7X,F9⟩
def a4F:FG 110 a8D:=dQ f110 b2c ⟨a9Y,a9Z,Nk,a7V,a7Q,F9⟩
def a9p:FG 109 b5g:=dQ f109 b2b ⟨ZV,a4F,F9⟩
def b7P:FG 65 s65:=dQ f65 q65 ⟨a9o,a7O,a9p,ZV,a4F,a4G,F9⟩ (hp:=⟨a3t,F9⟩)
def b7w:FG 30 s30:=dQ f30 q30 ⟨BG,b7K,b7L,b7M,b7N,b7O,a7a,a7b,b7P,F9⟩ (hp:=⟨a3t,F9⟩)
def b7i:FG 11 s11:=dQ f11 q11 ⟨b7v,b7w,a7N,F9⟩
def a4X:FG 17 s17:=dQ f17 q17
theorem a8k(b:Nat)(w:World)(h0:w.cell? ⟨b,0,none⟩=some (.pointer (some ⟨b,0,none⟩))):Calls Go.Proofs.Tryz.prog 37 #[.pointer (some ⟨b,0,none⟩)] w λe w' =>e= .returned (.tuple #[])/\w' =w:=by
 obtain⟨j,hj,_⟩:=ed.1 (show Option.map (λx=>x.size) (Go.Proofs.Tryz.prog.info? 56)=some 2 by kernel_rfl);have t56:=Go.Proofs.Tryz.underlying56;have a56:=Go.Proofs.Tryz.isAgg56;have z56:=Go.Proofs.Tryz.sizeOf56;have v56:=Go.Proofs.Tryz.zeroValue56;have u56:=run_underlying Go.Proofs.Tryz.underlying56;have t53:=Go.Proofs.Tryz.underlying53;have a53:=Go.Proofs.Tryz.isAgg53;have z53:=Go.Proofs.Tryz.sizeOf53;have v53:=Go.Proofs.Tryz.zeroValue53;have u53:=run_underlying Go.Proofs.Tryz.underlying53;have t4:=Go.Proofs.Tryz.underlying4;have a4:=Go.Proofs.Tryz.isAgg4;have z4:=Go.Proofs.Tryz.sizeOf4;have v4:=Go.Proofs.Tryz.zeroValue4;have u4:=run_underlying Go.Proofs.Tryz.underlying4;have t123:=Go.Proofs.Tryz.underlying123;have a123:=Go.Proofs.Tryz.isAgg123;have z123:=Go.Proofs.Tryz.sizeOf123;have v123:=Go.Proofs.Tryz.zeroValue123;have u123:=run_underlying Go.Proofs.Tryz.underlying123
 go_enter Go.Proofs.Tryz.func37,(show Go.Proofs.Tryz.f37.ntmps=20 by kernel_rfl)
 go_wp2
 rw[Lib.run_neq_ptr_same w _ Go.Proofs.Tryz.underlying53 hj]
 go_wp2
 go_end0
 exact⟨rfl,rfl⟩
theorem a5Q(b:Nat)(w:World)(h0:w.cell? ⟨b,0,none⟩=some (.pointer none))(hsh:w.shape? b=some (56,2))(hfz:w.frozen? ⟨b,0,none⟩=false):Calls Go.Proofs.Tryz.prog 37 #[.pointer (some ⟨b,0,none⟩)] w λe w' =>e= .returned (.tuple #[])/\w' =w.setCell ⟨b,0,none⟩ (.pointer (some ⟨b,0,none⟩)):=by
 obtain⟨j,hj,hjs⟩:=ed.1 (show Option.map (λx=>x.size) (Go.Proofs.Tryz.prog.info? 56)=some 2 by kernel_rfl);have t56:=Go.Proofs.Tryz.underlying56;have a56:=Go.Proofs.Tryz.isAgg56;have z56:=Go.Proofs.Tryz.sizeOf56;have v56:=Go.Proofs.Tryz.zeroValue56;have u56:=run_underlying Go.Proofs.Tryz.underlying56;have t53:=Go.Proofs.Tryz.underlying53;have a53:=Go.Proofs.Tryz.isAgg53;have z53:=Go.Proofs.Tryz.sizeOf53;have v53:=Go.Proofs.Tryz.zeroValue53;have u53:=run_underlying Go.Proofs.Tryz.underlying53;have t4:=Go.Proofs.Tryz.underlying4;have a4:=Go.Proofs.Tryz.isAgg4;have z4:=Go.Proofs.Tryz.sizeOf4;have v4:=Go.Proofs.Tryz.zeroValue4;have u4:=run_underlying Go.Proofs.Tryz.underlying4;have t123:=Go.Proofs.Tryz.underlying123;have a123:=Go.Proofs.Tryz.isAgg123;have z123:=Go.Proofs.Tryz.sizeOf123;have v123:=Go.Proofs.Tryz.zeroValue123;have u123:=run_underlying Go.Proofs.Tryz.underlying123
 go_enter Go.Proofs.Tryz.func37,(show Go.Proofs.Tryz.f37.ntmps=20 by kernel_rfl)
 go_wp2
 rw[Lib.run_to_unsafe w ⟨b,0,none⟩ Go.Proofs.Tryz.underlying53 Go.Proofs.Tryz.underlying123 hj (by rw[hjs];decide) hsh (Nat.zero_lt_succ 1)];simp only[Result.andThen];rw[lF]
 go_wp2
 rw[run_callFunc_extern Go.Proofs.Tryz.func75 (by kernel_rfl) (by kernel_rfl) (by kernel_rfl) (e:=Extern.AbiNoEscape.same) (by kernel_rfl)];rw[Lib.run_noEscape];simp only[Result.andThen];rw[lF]
 go_wp2
 rw[Lib.run_from_unsafe w ⟨b,0,none⟩ Go.Proofs.Tryz.underlying123 Go.Proofs.Tryz.underlying53 hj hsh (by kernel_rfl)];simp only[Result.andThen];rw[lF]
 go_wp2
 go_end0
 exact⟨rfl,rfl⟩
def b4S:Go.Shelf.Ren:=⟨λ|166=>16|240=>37|276=>75|n=>n,λ|72=>56|70=>53|37=>54|164=>123|75=>58|n=>n,λn=>n⟩
theorem b8u:Lw Go.Proofs.Tryz.prog b4S where
 mixed:=by kernel_rfl
 f166:=Go.Proofs.Tryz.func16.trans (congrArg some (by kernel_rfl))
 t72:=Go.Proofs.Tryz.underlying56
 a72:=Go.Proofs.Tryz.isAgg56
 z72:=Go.Proofs.Tryz.sizeOf56
 v72:=Go.Proofs.Tryz.zeroValue56
 t70:=Go.Proofs.Tryz.underlying53
 a70:=Go.Proofs.Tryz.isAgg53
 z70:=Go.Proofs.Tryz.sizeOf53
 v70:=Go.Proofs.Tryz.zeroValue53
 t37:=Go.Proofs.Tryz.underlying54
 a37:=Go.Proofs.Tryz.isAgg54
 z37:=Go.Proofs.Tryz.sizeOf54
 v37:=Go.Proofs.Tryz.zeroValue54
 t3:=Go.Proofs.Tryz.underlying3
 a3:=Go.Proofs.Tryz.isAgg3
 z3:=Go.Proofs.Tryz.sizeOf3
 v3:=Go.Proofs.Tryz.zeroValue3
 t9:=Go.Proofs.Tryz.underlying9
 a9:=Go.Proofs.Tryz.isAgg9
 z9:=Go.Proofs.Tryz.sizeOf9
 v9:=Go.Proofs.Tryz.zeroValue9
 t4:=Go.Proofs.Tryz.underlying4
 a4:=Go.Proofs.Tryz.isAgg4
 z4:=Go.Proofs.Tryz.sizeOf4
 v4:=Go.Proofs.Tryz.zeroValue4
 t164:=Go.Proofs.Tryz.underlying123
 a164:=Go.Proofs.Tryz.isAgg123
 z164:=Go.Proofs.Tryz.sizeOf123
 v164:=Go.Proofs.Tryz.zeroValue123
 e240:=enters_of Go.Proofs.Tryz.func37 (by kernel_rfl) rfl
 used:=a8k
 fresh:=a5Q
theorem b8Q:Go.Proofs.Builder.Extra Go.Proofs.Tryz.prog b4S where
 sizeBuilder:=by kernel_rfl
 liesBuilder:=by kernel_rfl
 t5:=Go.Proofs.Tryz.underlying5
 a5:=Go.Proofs.Tryz.isAgg5
 z5:=Go.Proofs.Tryz.sizeOf5
 v5:=Go.Proofs.Tryz.zeroValue5
 infoByte:=by kernel_rfl
 cellsByte:=by kernel_rfl
 sizeByte:=by kernel_rfl
 neB5:=by decide
theorem b7l:dm Go.Proofs.Tryz.prog gl 16 s16:=SL b8u b8Q
def b7m:FG 18 s18:=dQ f18 q18
def b7A:FG 39 s39:=dQ f39 q39 ⟨a7T,F9⟩
def a7P:FG 41 s41:=dQ f41 q41 ⟨a0E,F9⟩
def b7n:FG 19 s19:=dQ f19 q19 ⟨XX,b7A,a0E,a7P,a4X,F9⟩
def b7o:FG 21 s21:=dQ f21 q21 ⟨a0F,a0E,a7P,a7Q,a4X,F9⟩
theorem b7p:dm Go.Proofs.Tryz.prog gl 22 s22:=YD Go.Proofs.Tryz.lays170
theorem b7q:dm Go.Proofs.Tryz.prog gl 23 s23:=SK Go.Proofs.Tryz.lays169 Go.Proofs.Tryz.Builder_Extra_169
def b7Z:FG 9 s9:=dQ f9 q9 ⟨a7N,a4X,b7l,b7m,b7n,a7O,b7o,b7p,b7q,F9⟩
def b8P:FG 8 s8:=dQ f8 q8 ⟨b7k,b7i,b7Z,F9⟩
def a4T:FG 150 a8N:=dQ f150 b2C
def b0k:FG 210 b6b:=dQ f210 b3u
def a9D:FG 151 b5u:=dQ f151 b2D ⟨a4T,b0k,F9⟩
def a9E:FG 152 b5v:=dQ f152 b2E
def XY:FG 87 s87:=dQ f87 q87 ⟨a4T,a9D,a9E,F9⟩
def a5z:FG 88 s88:=dQ f88 q88
def b7D:FG 46 s46:=dQ f46 q46 ⟨XY,a5z,F9⟩
def RV:FG 93 s93:=dQ f93 q93
def ZY:FG 156 a6N:=dQ f156 b2I
def a0G:FG 50 s50:=dQ f50 q50 ⟨RV,F9⟩
def a5f:FG 211 a8S:=dQ f211 b3v ⟨a0G,F9⟩
def a9F:FG 153 b5w:=dQ f153 b2F ⟨ZY,a5f,F9⟩
def b0l:FG 212 b6c:=dQ f212 b3w ⟨ZY,F9⟩
def a9G:FG 154 b5x:=dQ f154 b2G ⟨b0l,F9⟩
def b7Y:FG 89 s89:=dQ f89 q89 ⟨RV,a9F,a9G,F9⟩
def b7E:FG 47 s47:=dQ f47 q47 ⟨XY,a5z,b7Y,F9⟩
def a9H:FG 155 b5y:=dQ f155 b2H
def b8a:FG 90 s90:=dQ f90 q90 ⟨XY,a9H,RV,F9⟩
def a9I:FG 157 b5z:=dQ f157 b2J
def b0m:FG 213 b6d:=dQ f213 b3x
def a9J:FG 158 b5A:=dQ f158 b2K ⟨b0m,F9⟩
def g_:FG 220 a6T:=dQ f220 b3E
def ZZ:FG 167 a6O:=dQ f167 b2T ⟨g_,F9⟩
def b0N:FG 276 b6E:=dQ f276 b4g
def RQ:FG 305 a1Q:=dQ f305 b4C
def b0O:FG 277 b6F:=dQ f277 b4h ⟨RQ,a0G,F9⟩
def b0P:FG 278 b6G:=dQ f278 b4i
def l_:FG 307 a6W:=dQ f307 b4E
def a5t:FG 306 a9d:=dQ f306 b4D ⟨l_,F9⟩
def b0Q:FG 279 b6H:=dQ f279 b4j ⟨RQ,RV,a5t,F9⟩
def b0R:FG 280 b6I:=dQ f280 b4k ⟨l_,RQ,RV,F9⟩
def b1g:FG 308 b6X:=dQ f308 b4F ⟨RQ,F9⟩
def b0S:FG 281 b6J:=dQ f281 b4l ⟨l_,b1g,a5t,RQ,F9⟩
def b0D:FG 250 b6u:=dQ f250 b3T ⟨b0N,b0O,b0P,b0Q,b0R,b0S,F9⟩
def b0n:FG 214 b6e:=dQ f214 b3y ⟨ZZ,g_,b0D,F9⟩
def a9K:FG 159 b5B:=dQ f159 b2L ⟨b0n,F9⟩
def b8b:FG 91 s91:=dQ f91 q91 ⟨XY,ZY,a9I,a9J,a9K,F9⟩
def b0o:FG 215 b6f:=dQ f215 b3z
def b0E:FG 251 b6v:=dQ f251 b3U
def b0p:FG 216 b6g:=dQ f216 b3A ⟨b0E,F9⟩
def a4U:FG 161 a8O:=dQ f161 b2N
def a9L:FG 160 b5C:=dQ f160 b2M ⟨b0o,b0p,a4U,F9⟩
def b8c:FG 92 s92:=dQ f92 q92 ⟨a9L,a4U,F9⟩
def b7F:FG 48 s48:=dQ f48 q48 ⟨XY,a5z,b8a,b8b,b8c,F9⟩
def b7r:FG 24 s24:=dQ f24 q24 ⟨b7D,b7E,b7F,F9⟩
def a5l:FG 25 s25:=dQ f25 q25
def b7G:FG 49 s49:=dQ f49 q49
def b7s:FG 26 s26:=dQ f26 q26 ⟨b7G,F9⟩
def a4V:FG 162 a8P:=dQ f162 b2O
def a9M:FG 163 b5D:=dQ f163 b2P ⟨a4V,RV,a5f,F9⟩
theorem b1o:∀n,dm P gl 99 ⟨a6x,[(false,(.dat .str))],[],λx=>(nS n) x⟩:=by
 intro n;induction n with
 |zero=>exact λw ok O vals x r _ _ _ _ _ _ h=>by cases h
 |succ n ih=>exact dS f99 a6x b5a (e99 (nS n)) b8k (by kernel_rfl) rfl trivial ⟨ih,trivial⟩ trivial λx=>by kernel_rfl
theorem b8g:dm P gl 99 s99:=(b1o ji)
def a0I:FG 55 s55:=dQ f55 q55 ⟨b8g,F9⟩
def b0q:FG 217 b6h:=dQ f217 b3B
def b0r:FG 218 b6i:=dQ f218 b3C
def a9N:FG 164 b5E:=dQ f164 b2Q ⟨b0q,a0I,b0r,F9⟩
def a7Y:FG 95 s95:=dQ f95 q95
def a5g:FG 219 a8T:=dQ f219 b3D
def a9O:FG 165 b5F:=dQ f165 b2R ⟨a5g,F9⟩
def a9P:FG 166 b5G:=dQ f166 b2S ⟨a5g,F9⟩
def b8d:FG 96 s96:=dQ f96 q96 ⟨a7Y,a9O,a9P,F9⟩
def b8e:FG 97 s97:=dQ f97 q97 ⟨a0I,F9⟩
def a0H:FG 52 s52:=dQ f52 q52 ⟨a7Y,b8d,b8e,F9⟩
def a7X:FG 94 s94:=dQ f94 q94 ⟨a4V,RV,a9M,a0I,a9N,a0H,F9⟩
def b7H:FG 51 s51:=dQ f51 q51 ⟨a7X,F9⟩
def a7R:FG 53 s53:=dQ f53 q53 ⟨a0H,F9⟩
def b7t:FG 27 s27:=dQ f27 q27 ⟨a0G,b7H,a0H,a7R,a5l,F9⟩
def b8f:FG 98 s98:=dQ f98 q98
def b7I:FG 54 s54:=dQ f54 q54 ⟨b8f,F9⟩
def a9k:FG 100 b5b:=dQ f100 b1U ⟨ZZ,F9⟩
def a4W:FG 168 a8Q:=dQ f168 b2U
def a_:FG 169 a6P:=dQ f169 b2V
def a9l:FG 101 b5c:=dQ f101 b1V ⟨a4W,a0G,a_,F9⟩
def a9Q:FG 170 b5H:=dQ f170 b2W ⟨ZZ,g_,F9⟩
def a9R:FG 171 b5I:=dQ f171 b2X
def a9S:FG 173 b5J:=dQ f173 b2Y
def b0F:FG 252 b6w:=dQ f252 b3V
def b0s:FG 221 b6j:=dQ f221 b3F ⟨b0F,F9⟩
theorem a7c:∀n,dm P gl 102 ⟨Xz,[(false,(.dat .str)),(false,(.dat (.int .i64)))],[(true,(.dat (.prod (.sl (.prod (.int .i64) (.int .i64))) (.prod (.sl (.prod .str (.sl .str))) (.prod (.sl .str) (.prod (.sl .str) (.prod (.sl .str) (.sl .str))))))))],λx=>(D5 n).1 x.1 x.2⟩/\dm P gl 174 ⟨a3u,[(false,(.dat .str))],[(true,(.dat (.prod (.sl (.prod (.int .i64) (.int .i64))) (.prod (.sl (.prod .str (.sl .str))) (.prod (.sl .str) (.prod (.sl .str) (.prod (.sl .str) (.sl .str))))))))],λx=>(D5 n).2.1 x.1 x.2.1 x.2.2⟩/\dm P gl 172 ⟨a0o,[(false,(.dat .str))],[(true,(.dat (.prod (.sl (.prod (.int .i64) (.int .i64))) (.prod (.sl (.prod .str (.sl .str))) (.prod (.sl .str) (.prod (.sl .str) (.prod (.sl .str) (.sl .str))))))))],λx=>(D5 n).2.2 x.1 x.2.1 x.2.2⟩:=by
 intro n;induction n with
 |zero=>exact⟨(λw ok O vals x r _ _ _ _ _ _ h=>by cases h),(λw ok O vals x r _ _ _ _ _ _ h=>by cases h),(λw ok O vals x r _ _ _ _ _ _ h=>by cases h)⟩
 |succ n ih=>exact⟨dS f102 Xz a7H (b8m (D5 n).1 (D5 n).2.1 (D5 n).2.2) b1t (by kernel_rfl) rfl trivial ⟨a9Q,a4W,a7X,a9R,ih.2.2,a_,ih.1,a9S,ih.2.1,trivial⟩ trivial λx=>by kernel_rfl,
  dS f174 a3u b4V (b8o (D5 n).1 (D5 n).2.1 (D5 n).2.2) b1v (by kernel_rfl) rfl trivial ⟨a_,ih.2.2,b0s,trivial⟩ trivial λx=>by kernel_rfl,
  dS f172 a0o b4U (b8n (D5 n).1 (D5 n).2.1 (D5 n).2.2) b1u (by kernel_rfl) rfl trivial ⟨ih.1,trivial⟩ trivial λx=>by kernel_rfl⟩
theorem a9m:dm P gl 102 b5d:=(a7c ji).1
def b7J:FG 56 s56:=dQ f56 q56 ⟨a9k,a9l,a9m,F9⟩
def b7u:FG 28 s28:=dQ f28 q28 ⟨b7I,a0I,a0H,a7R,b7J,a5l,F9⟩
def b7h:FG 10 s10:=dQ f10 q10 ⟨b7r,a5l,b7s,b7t,b7u,F9⟩
def b8N:FG 3 s3:=dQ f3 q3 ⟨b8O,b8P,b7Z,b7h,F9⟩
end Gt
