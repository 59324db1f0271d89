import Derived.Test.YtnpgekhfiogoeaaGreatDoorV3
import Derived.Test.YtnpgekhfiogoeaaGreatDoorProg
import Derived.Test.YtnpgekhfiogoeaaGreatDoorShelf
import Derived.Deep.QuietTactic
import Derived.BigQuiet
set_option linter.all false
open Go Go.GP Go.Shelf Go.RowKit Go.Proofs Go.Proofs.Tryz
namespace Gt
set_option maxRecDepth 100000
noncomputable abbrev P:Program:=Go.Proofs.Tryz.prog
theorem b0t:Zw P tt=true:=by kernel_rfl
theorem a4j:∀t sh,dO eqs t=some sh->IW P t sh:=XQ (by kernel_rfl)
theorem dS{f:FuncId}(fn:Func)(ps:List MG)(rt:Ret)(E:Env)(an:Ann){F:aP ps->Option rt.den}(h:(P.funcs[f]?,fn.body,fn.ntmps,fn.results.toList,Nat.ble (64*E.nt) 999936,Va P E.fs)=(some fn,some (QT fn),E.nt,rt.rs.map (·.1),true,true))(ht:(E.tt,E.eqs)=(tt,eqs))(hm:Xt P E.ms)(hs:a3G P E.gl E.fs)(hp:Xu P E.pl)(hF:∀x,a2x E ps rt (QT fn) an x=F x):
  ik P E.gl f ⟨ps,rt.rs.map (·.2),rt.outs.map (·.2),F⟩:=by
 injection h with h1 h;injection h with h2 h;injection h with h3 h;injection h with h4 h;injection h with h5 h6;injection ht with t1 t2;exact Kt h1 h2 h3 h4 (XP h5 (t1▸b0t) (t2▸a4j) h6 hm hs hp) λx r h=>(hF x).trans h
theorem XH{h:Array Obj}{blk off:Nat}{v:Value}(e:dE h blk off 1=some [v]):∃c T m,h[blk]? =some (.cells c T m)/\c[off]? =some v:=by
 unfold dE at e;split at e
 .rename_i c T m hc;split at e
  .rename_i hle;refine⟨c,T,m,hc,?_⟩;simp only[F8]at e;have h1:c.toList[off]? =some v:=by
    have:(c.toList.drop off)[0]? =some v:=by have:=congrArg (λl=>l[0]?) e;simpa[V6]using this
    simpa[U8]using this
   simpa using h1
  .cases e
 .cases e
theorem b3T(w:World)(x y:Value)(hp:JZ w.heap x 2 5 0 y):Calls Go.Proofs.Tryz.prog 63 #[x] w λe w' =>e= .returned y/\∃n,w' =w.drewN n:=by
 obtain⟨blk,o,b,bo,n,c,rfl,e,h0,h1,rfl⟩:=hp;have hc:w.cell? ⟨blk,o+2,none⟩=some (.slice (some ⟨b,bo,none⟩) n c):=by obtain⟨cs,T,m,e1,e2⟩:=XH e;simp[World.cell?,e1,e2]
 clear e;obtain⟨j,hj⟩:∃j:Nat,IntKind.i64.wrap ((n:Int) -1)=(j:Int):=⟨_,(gz h0).symm⟩;have e2:L6 .i64 (n:Int) 1=(j:Int):=hj;rw[e2]at h1;rw[e2,E9,Z8];have hjn:j<n:=Int.ofNat_lt.1 h1;clear h0 h1 e2;have t49:=Go.Proofs.Tryz.underlying49;have a49:=Go.Proofs.Tryz.isAgg49;have z49:=Go.Proofs.Tryz.sizeOf49;have t84:=Go.Proofs.Tryz.underlying84;have a84:=Go.Proofs.Tryz.isAgg84;have z84:=Go.Proofs.Tryz.sizeOf84;have v84:=Go.Proofs.Tryz.zeroValue84;have u84:=run_underlying Go.Proofs.Tryz.underlying84;have t86:=Go.Proofs.Tryz.underlying86;have a86:=Go.Proofs.Tryz.isAgg86;have z86:=Go.Proofs.Tryz.sizeOf86;have v86:=Go.Proofs.Tryz.zeroValue86;have u86:=run_underlying Go.Proofs.Tryz.underlying86;have t26:=Go.Proofs.Tryz.underlying26;have a26:=Go.Proofs.Tryz.isAgg26;have z26:=Go.Proofs.Tryz.sizeOf26;have v26:=Go.Proofs.Tryz.zeroValue26;have u26:=run_underlying Go.Proofs.Tryz.underlying26;have t24:=Go.Proofs.Tryz.underlying24;have a24:=Go.Proofs.Tryz.isAgg24;have z24:=Go.Proofs.Tryz.sizeOf24;have v24:=Go.Proofs.Tryz.zeroValue24;have u24:=run_underlying Go.Proofs.Tryz.underlying24;have t109:=Go.Proofs.Tryz.underlying109;have a109:=Go.Proofs.Tryz.isAgg109;have z109:=Go.Proofs.Tryz.sizeOf109;have v109:=Go.Proofs.Tryz.zeroValue109;have u109:=run_underlying Go.Proofs.Tryz.underlying109;have t3:=Go.Proofs.Tryz.underlying3;have a3:=Go.Proofs.Tryz.isAgg3;have z3:=Go.Proofs.Tryz.sizeOf3;have v3:=Go.Proofs.Tryz.zeroValue3;have u3:=run_underlying Go.Proofs.Tryz.underlying3
 go_enter Go.Proofs.Tryz.func63,(show Go.Proofs.Tryz.f63.ntmps=16 by kernel_rfl)
 go_wp2
 go_quiet (skip)
 go_wp2
 go_ret
 exact⟨rfl,nq,rfl⟩
theorem a5w:Ll P 63 2 5:=⟨⟨_,Go.Proofs.Tryz.func63,by kernel_rfl,by kernel_rfl⟩,b3T⟩
theorem dQ{f:FuncId}(fn:Func)(q:FQ){F:aP q.ps->Option q.rt.den}(hs:a3G P q.E.gl q.E.fs:=by exact trivial)(h:(P.funcs[f]?,fn.body,fn.ntmps,fn.results.toList,Nat.ble (64*q.E.nt) 999936,Va P q.E.fs)=(some fn,some (QT fn),q.E.nt,q.rt.rs.map (·.1),true,true):=by kernel_rfl)(ht:(q.E.tt,q.E.eqs)=(tt,eqs):=by rfl)(hm:Xt P q.E.ms:=by exact trivial)(hp:Xu P q.E.pl:=by exact trivial)(hF:∀x,a2x q.E q.ps q.rt (QT fn) q.an x=F x:=by intro x;kernel_rfl):
  ik P q.E.gl f ⟨q.ps,q.rt.rs.map (·.2),q.rt.outs.map (·.2),F⟩:=dS fn q.ps q.rt q.E q.an h ht hm hs hp hF
abbrev FG(n:FuncId)(s:FSpec):=ik P gl n s
def Xc:FG 121 a6l:=dQ f121 b4t
def Xf:FG 189 a6r:=dQ f189 b4Z
def a6O:FG 122 b1i:=dQ f122 b4u ⟨Xc,Xf,J6⟩
def b1O:FG 123 b6y:=dQ f123 b4v
def TT:FG 71 s71:=dQ f71 q71 ⟨Xc,a6O,b1O,J6⟩
def Zc:FG 125 a0d:=dQ f125 a5D
def a6Z:FG 190 a6s:=dQ f190 a5I ⟨Zc,J6⟩
def a6P:FG 124 a6m:=dQ f124 a5C ⟨a6Z,J6⟩
def a7u:FG 72 s72:=dQ f72 q72 ⟨Zc,a6P,J6⟩
def a0t:FG 187 a9p:=dQ f187 b4X
def b1M:FG 116 b6w:=dQ f116 b4q ⟨a0t,J6⟩
def b8A:FG 69 s69:=dQ f69 q69 ⟨TT,a7u,b1M,J6⟩
def b8l:FG 34 s34:=dQ f34 q34 ⟨b8A,J6⟩
def TU:FG 76 s76:=dQ f76 q76
def Zi:FG 38 s38:=dQ f38 q38 ⟨TU,J6⟩
def a6M:FG 117 b1h:=dQ f117 b4r
def b2x:FG 235 b7o:=dQ f235 b5u ⟨a6M,J6⟩
def b2i:FG 188 b6W:=dQ f188 b4Y ⟨b2x,J6⟩
def b1N:FG 120 b6x:=dQ f120 b4s ⟨b2i,J6⟩
def Zb:FG 119 a0c:=dQ f119 a5B ⟨b1N,J6⟩
def a6N:FG 118 a6k:=dQ f118 a5A ⟨Zb,J6⟩
def b8B:FG 70 s70:=dQ f70 q70 ⟨TU,Zi,a6M,Zb,a6N,J6⟩
def Zd:FG 127 a0e:=dQ f127 a5F
def a7b:FG 191 a6u:=dQ f191 a5K ⟨Zd,J6⟩
def a6Q:FG 126 a6n:=dQ f126 a5E ⟨a7b,J6⟩
def b0m:FG 73 s73:=dQ f73 q73 ⟨Zd,a6Q,J6⟩
def b8m:FG 35 s35:=dQ f35 q35 ⟨b8B,TT,a7u,b0m,J6⟩
def Ze:FG 129 a0f:=dQ f129 a5H
def a7c:FG 192 a6v:=dQ f192 a5L ⟨Ze,J6⟩
def a6R:FG 128 a6o:=dQ f128 a5G ⟨a7c,J6⟩
def Zf:FG 193 a0h:=dQ f193 a5M
def a7h:FG 236 a6z:=dQ f236 a5Q ⟨Zf,J6⟩
def a7d:FG 194 a6w:=dQ f194 a5N ⟨a7h,J6⟩
def b1P:FG 130 b6z:=dQ f130 b4w ⟨Zf,TT,a7d,TU,J6⟩
def b2j:FG 195 b6X:=dQ f195 b5a
def b1Q:FG 131 b6A:=dQ f131 b4x ⟨b2j,J6⟩
def Zg:FG 197 a0i:=dQ f197 a5P
def a7i:FG 237 a6A:=dQ f237 a5R ⟨Zg,J6⟩
def a7e:FG 196 a6x:=dQ f196 a5O ⟨a7i,J6⟩
theorem b2y:ik Go.Proofs.Tryz.prog gl 238 b7p:=PZ Go.Proofs.Tryz.strings_Contains_one
def b2k:FG 198 b6Y:=dQ f198 b5b ⟨b2y,J6⟩
def a7v:FG 85 s85:=dQ f85 q85
def a6W:FG 141 b1n:=dQ f141 b4F ⟨a7v,J6⟩
def b0q:FG 84 s84:=dQ f84 q84
def b2Q:FG 293 b7H:=dQ f293 b5Q ⟨Zi,J6⟩
def b2R:FG 294 b7I:=dQ f294 b5R
def a7p:FG 295 b1y:=dQ f295 b5S ⟨TU,J6⟩
def a7q:FG 298 b1z:=dQ f298 b5V
def b2S:FG 296 b7J:=dQ f296 b5T ⟨a7q,TU,J6⟩
def a7s:FG 319 b1C:=dQ f319 b6d
def b2T:FG 297 b7K:=dQ f297 b5U ⟨a7p,a7s,J6⟩
def b3a:FG 320 b7S:=dQ f320 b6e
def b2U:FG 299 b7L:=dQ f299 b5W ⟨a7s,b3a,J6⟩
def b2H:FG 266 b7y:=dQ f266 b5G ⟨b2Q,b2R,a7p,b2S,b2T,a7q,b2U,J6⟩
def b2z:FG 239 b7q:=dQ f239 b5v ⟨a6W,b0q,a7v,b2H,J6⟩
def b2l:FG 199 b6Z:=dQ f199 b5c ⟨b2z,J6⟩
def b1R:FG 132 b6B:=dQ f132 b4y ⟨TT,Zg,a7e,b2k,b2l,J6⟩
theorem a7m:ik Go.Proofs.Tryz.prog gl 268 b1v:=a0x Go.Proofs.Tryz.slices_Sort_int Go.Proofs.Tryz.slices_Sort_int_none
theorem a7n:ik Go.Proofs.Tryz.prog gl 269 b1w:=Ur Go.Proofs.Tryz.slices_Compact_int Go.Proofs.Tryz.slices_Compact_int_empty
def b2V:FG 300 b7M:=dQ f300 b5X ⟨a7m,a7n,J6⟩
def b2I:FG 267 b7z:=dQ f267 b5H ⟨b2V,J6⟩
def b2A:FG 240 b7r:=dQ f240 b5w ⟨b2I,J6⟩
def b2B:FG 241 b7s:=dQ f241 b5x ⟨a7m,a7n,J6⟩
def b2o:FG 202 b7c:=dQ f202 b5f ⟨b2A,b2B,J6⟩
def b2n:FG 201 b7b:=dQ f201 b5e
def b1T:FG 134 b6D:=dQ f134 b4A ⟨b2o,b2n,J6⟩
def b2m:FG 200 b7a:=dQ f200 b5d
def b1S:FG 133 b6C:=dQ f133 b4z ⟨b2m,J6⟩
def b8C:FG 74 s74:=dQ f74 q74 ⟨a7u,b0m,Ze,a6R,TT,b1P,b1Q,b1R,b1T,b1S,J6⟩
def b8n:FG 36 s36:=dQ f36 q36 ⟨b8C,J6⟩
def b0i:FG 15 s15:=dQ f15 q15 ⟨b8l,b8m,b8n,J6⟩
def b7Z:FG 14 s14:=dQ f14 q14
def b8g:FG 29 s29:=dQ f29 q29
theorem a0p:ik Go.Proofs.Tryz.prog gl 103 a9l:=a2u (g:=1) Go.Proofs.Tryz.strings_Cut (by kernel_rfl)
def CX:FG 57 s57:=dQ f57 q57 ⟨a0p,J6⟩
def b8r:FG 58 s58:=dQ f58 q58 ⟨CX,J6⟩
def a0q:FG 104 a9m:=dQ f104 b4e ⟨CX,J6⟩
def OL:FG 105 a0b:=dQ f105 b4f
def b8s:FG 59 s59:=dQ f59 q59 ⟨CX,a0q,OL,J6⟩
def b2r:FG 223 b7i:=dQ f223 b5k
def b2q:FG 205 b7e:=dQ f205 b5i
def a6U:FG 138 b1l:=dQ f138 b4E ⟨b2q,J6⟩
def b2p:FG 204 b7d:=dQ f204 b5h
def a6T:FG 137 b1k:=dQ f137 b4D ⟨b2p,J6⟩
def b2s:FG 224 b7j:=dQ f224 b5l ⟨a6U,a6T,J6⟩
def a0s:FG 176 a9o:=dQ f176 b4O ⟨b2r,b2s,J6⟩
def a6J:FG 106 b1e:=dQ f106 b4g ⟨CX,a0s,J6⟩
theorem a7j:ik Go.Proofs.Tryz.prog gl 244 b1s:=Qb Go.Proofs.Tryz.stringslite_HasPrefix
def b2X:FG 310 b7P:=dQ f310 b5Z ⟨a7j,J6⟩
def b2K:FG 284 b7B:=dQ f284 b5J ⟨b2X,J6⟩
def b2L:FG 285 b7C:=dQ f285 b5K
def a7l:FG 258 b1u:=dQ f258 b5A ⟨b2K,b2L,J6⟩
def a0v:FG 226 a9r:=dQ f226 b5n ⟨a7l,J6⟩
def a7f:FG 203 b1q:=dQ f203 b5g
def a7k:FG 256 b1t:=dQ f256 b5y ⟨a7f,a7l,J6⟩
def b2W:FG 309 b7O:=dQ f309 b5Y
def b2J:FG 283 b7A:=dQ f283 b5I ⟨b2W,J6⟩
def b2C:FG 257 b7t:=dQ f257 b5z ⟨b2J,J6⟩
def b2t:FG 225 b7k:=dQ f225 b5m ⟨a0v,a7k,b2C,a0s,J6⟩
def a6S:FG 135 b1j:=dQ f135 b4B ⟨Zi,J6⟩
def b1Z:FG 177 b6N:=dQ f177 b4P ⟨TU,b2t,a6S,J6⟩
def b1F:FG 107 b6p:=dQ f107 b4h ⟨CX,Zi,b1Z,J6⟩
def b8t:FG 60 s60:=dQ f60 q60 ⟨a6J,b1F,OL,J6⟩
def b8u:FG 61 s61:=dQ f61 q61 ⟨CX,OL,J6⟩
def b8v:FG 62 s62:=dQ f62 q62 ⟨CX,OL,J6⟩ (hp:=⟨a5w,J6⟩)
def a9v:FG 64 b0d:=dQ f64 b0a ⟨CX,a0q,OL,J6⟩
def a9w:FG 64 b0e:=dQ f64 b0b ⟨CX,a0q,OL,J6⟩
def b2a:FG 178 b6O:=dQ f178 b4Q ⟨CX,J6⟩
def b2b:FG 179 b6P:=dQ f179 b4R ⟨CX,J6⟩ (hp:=⟨a5w,J6⟩)
def b2c:FG 180 b6Q:=dQ f180 b4S ⟨CX,J6⟩ (hp:=⟨a5w,J6⟩)
def b2d:FG 181 b6R:=dQ f181 b4T ⟨CX,a0v,J6⟩
def b1G:FG 108 b6q:=dQ f108 b4i ⟨CX,b2a,b2b,b2c,b2d,a6J,J6⟩
theorem b8F:ik Go.Proofs.Tryz.prog gl 81 s81:=XJ (E:=⟨8,eqs,tt,gl,[],[],[],[],[],[],[]⟩) (f:=81) (fn:=Go.Proofs.Tryz.f81) (c:=QT Go.Proofs.Tryz.f81) (t:=.str) (by kernel_rfl) (by kernel_rfl) (by kernel_rfl) (by kernel_rfl)
  (XP (by kernel_rfl) b0t a4j (by kernel_rfl) trivial trivial trivial) (λb=>by cases b<;>kernel_rfl) (λxs=>by kernel_rfl)
def b8p:FG 42 s42:=dQ f42 q42 ⟨b8F,J6⟩
def b8q:FG 43 s43:=dQ f43 q43
def b0j:FG 20 s20:=dQ f20 q20 ⟨b8p,b8q,J6⟩
def b2u:FG 227 b7l:=dQ f227 b5o
theorem b2g:ik Go.Proofs.Tryz.prog gl 185 b6U:=Qc Go.Proofs.Tryz.stringslite_IndexByte
def a6L:FG 111 b1g:=dQ f111 b4l ⟨b2g,J6⟩
def b2D:FG 259 b7u:=dQ f259 b5B ⟨a6O,J6⟩
def a0w:FG 287 a9s:=dQ f287 b5M ⟨Xf,J6⟩
def b2M:FG 286 b7D:=dQ f286 b5L ⟨a0w,J6⟩
def a0u:FG 207 a9q:=dQ f207 b5j ⟨a7j,J6⟩
def b2N:FG 288 b7E:=dQ f288 b5N ⟨a0u,a0w,J6⟩
def b2O:FG 289 b7F:=dQ f289 b5O ⟨a0s,a7k,a0v,J6⟩
def b2E:FG 260 b7v:=dQ f260 b5C ⟨b2M,a0w,b2N,a0u,Xc,Xf,b2O,J6⟩
theorem b2P:ik Go.Proofs.Tryz.prog gl 290 b7G:=RZ Go.Proofs.Tryz.strings_IndexAny_laid
def b2F:FG 261 b7w:=dQ f261 b5D ⟨b2P,J6⟩
def b2v:FG 228 b7m:=dQ f228 b5p ⟨Xc,Xf,a6L,b2D,b2E,b2F,a0u,J6⟩
def b2e:FG 182 b6S:=dQ f182 b4U ⟨b2u,b2v,J6⟩
def KZ:FG 262 YX:=dQ f262 b5E
def Xg:FG 229 a6y:=dQ f229 b5q ⟨KZ,J6⟩
def a7o:FG 291 b1x:=dQ f291 b5P
def OO:FG 232 a0j:=dQ f232 b5s
def OM:FG 184 a0g:=dQ f184 b4V
def a7g:FG 231 b1r:=dQ f231 b5r ⟨Xg,OM,J6⟩
def a7r:FG 315 b1B:=dQ f315 b6a ⟨a7g,J6⟩
def Xe:FG 146 a6q:=dQ f146 b4K
def b2Y:FG 316 b7Q:=dQ f316 b6b ⟨Xe,J6⟩
def a7t:FG 332 b1D:=dQ f332 b6f ⟨KZ,TT,OM,a0t,J6⟩
def a0r:FG 147 a9n:=dQ f147 b4L
def b3c:FG 341 b7U:=dQ f341 b6h ⟨a0r,J6⟩
def b3b:FG 333 b7T:=dQ f333 b6g ⟨KZ,b3c,OM,J6⟩
def Zh:FG 334 a0k:=dQ f334 a5S
def a7a:FG 190 a6t:=dQ f190 a5J ⟨Zh,J6⟩
def b2Z:FG 318 b7R:=dQ f318 b6c ⟨KZ,TT,OM,Zh,a7a,a7t,OO,a0t,J6⟩
def a6X:FG 149 b1o:=dQ f149 b4N
def b2G:FG 264 b7x:=dQ f264 b5F ⟨a6X,J6⟩
theorem a9x:∀n,ik P gl 183 ⟨Vr,[(false,(.dat .bool))],[(true,(.pair (.dat (.sl (.prod (.int .i64) (.prod .str (.prod (.int .i64) (.int .i64)))))) (.pair (.dat (.int .i64)) (.pair (.dat (.int .i64)) (.pair (.dat (.prod (.sl (.prod .str (.sl .str))) (.prod (.sl .str) (.prod (.sl .str) (.prod (.sl .str) (.sl .str)))))) (.pair (.own (.prod (.int .i64) (.int .i64))) (.pair (.dat (.int .i64)) (.dat (.int .i64)))))))))],λx=>(o8 n).1 x⟩/\ik P gl 230 ⟨a1G,[(false,(.dat .bool))],[(true,(.pair (.dat (.sl (.prod (.int .i64) (.prod .str (.prod (.int .i64) (.int .i64)))))) (.pair (.dat (.int .i64)) (.pair (.dat (.int .i64)) (.pair (.dat (.prod (.sl (.prod .str (.sl .str))) (.prod (.sl .str) (.prod (.sl .str) (.prod (.sl .str) (.sl .str)))))) (.pair (.own (.prod (.int .i64) (.int .i64))) (.pair (.dat (.int .i64)) (.dat (.int .i64)))))))))],λx=>(o8 n).2.1 x.1 x.2⟩/\ik P gl 263 ⟨a1H,[(false,(.dat .bool))],[(true,(.pair (.dat (.sl (.prod (.int .i64) (.prod .str (.prod (.int .i64) (.int .i64)))))) (.pair (.dat (.int .i64)) (.pair (.dat (.int .i64)) (.pair (.dat (.prod (.sl (.prod .str (.sl .str))) (.prod (.sl .str) (.prod (.sl .str) (.prod (.sl .str) (.sl .str)))))) (.pair (.own (.prod (.int .i64) (.int .i64))) (.pair (.dat (.int .i64)) (.dat (.int .i64)))))))))],λx=>(o8 n).2.2.1 x⟩/\ik P gl 292 ⟨a5y,[(false,(.dat .bool))],[(true,(.pair (.dat (.sl (.prod (.int .i64) (.prod .str (.prod (.int .i64) (.int .i64)))))) (.pair (.dat (.int .i64)) (.pair (.dat (.int .i64)) (.pair (.dat (.prod (.sl (.prod .str (.sl .str))) (.prod (.sl .str) (.prod (.sl .str) (.prod (.sl .str) (.sl .str)))))) (.pair (.own (.prod (.int .i64) (.int .i64))) (.pair (.dat (.int .i64)) (.dat (.int .i64)))))))))],λx=>(o8 n).2.2.2.1 x⟩/\ik P gl 317 ⟨a5z,[(false,(.dat .bool))],[(true,(.pair (.dat (.sl (.prod (.int .i64) (.prod .str (.prod (.int .i64) (.int .i64)))))) (.pair (.dat (.int .i64)) (.pair (.dat (.int .i64)) (.pair (.dat (.prod (.sl (.prod .str (.sl .str))) (.prod (.sl .str) (.prod (.sl .str) (.prod (.sl .str) (.sl .str)))))) (.pair (.own (.prod (.int .i64) (.int .i64))) (.pair (.dat (.int .i64)) (.dat (.int .i64)))))))))],λx=>(o8 n).2.2.2.2 x.1 x.2⟩:=by
 intro n;induction n with
 |zero=>exact⟨(λw ok O vals x r _ _ _ _ _ _ h=>by cases h),(λw ok O vals x r _ _ _ _ _ _ h=>by cases h),(λw ok O vals x r _ _ _ _ _ _ h=>by cases h),(λw ok O vals x r _ _ _ _ _ _ h=>by cases h),(λw ok O vals x r _ _ _ _ _ _ h=>by cases h)⟩
 |succ n ih=>exact⟨dS f183 Vr b0c (b8P (o8 n).1 (o8 n).2.1 (o8 n).2.2.1 (o8 n).2.2.2.1 (o8 n).2.2.2.2) b3l (by kernel_rfl) rfl trivial ⟨Xg,ih.2.1,ih.1,a7g,OO,trivial⟩ trivial λx=>by kernel_rfl,
  dS f230 a1G b6l (b8Q (o8 n).1 (o8 n).2.1 (o8 n).2.2.1 (o8 n).2.2.2.1 (o8 n).2.2.2.2) b3m (by kernel_rfl) rfl trivial ⟨ih.2.2.1,KZ,b2G,ih.2.1,OO,trivial⟩ trivial λx=>by kernel_rfl,
  dS f263 a1H b6m (b8R (o8 n).1 (o8 n).2.1 (o8 n).2.2.1 (o8 n).2.2.2.1 (o8 n).2.2.2.2) b3n (by kernel_rfl) rfl trivial ⟨Xg,KZ,a7o,OO,ih.2.2.1,ih.2.2.2.1,trivial⟩ trivial λx=>by kernel_rfl,
  dS f292 a5y b6n (b8S (o8 n).1 (o8 n).2.1 (o8 n).2.2.1 (o8 n).2.2.2.1 (o8 n).2.2.2.2) b3o (by kernel_rfl) rfl trivial ⟨KZ,a7o,OO,Xg,ih.1,a7r,OM,b2Y,ih.2.2.2.2,b2Z,trivial⟩ trivial λx=>by kernel_rfl,
  dS f317 a5z b6o (b8T (o8 n).1 (o8 n).2.1 (o8 n).2.2.1 (o8 n).2.2.2.1 (o8 n).2.2.2.2) b3p (by kernel_rfl) rfl trivial ⟨OO,a7t,a7r,ih.1,b3b,trivial⟩ trivial λx=>by kernel_rfl⟩
theorem b2f:ik P gl 183 b6T:=(a9x fQ).1
def b0p:FG 83 s83:=dQ f83 q83 ⟨a6W,J6⟩
theorem b8G:ik Go.Proofs.Tryz.prog gl 82 s82:=u_ (g:=2) Go.Proofs.Tryz.strconv_Itoa (by kernel_rfl) (by kernel_rfl)
def a1Z:FG 44 s44:=dQ f44 q44 ⟨b8G,J6⟩
theorem a6V:ik Go.Proofs.Tryz.prog gl 139 b1m:=WU Go.Proofs.Tryz.strings_Repeat
def b1U:FG 136 b6E:=dQ f136 b4C ⟨a7f,a1Z,a6V,J6⟩
def b0o:FG 78 s78:=dQ f78 q78
def b8D:FG 79 s79:=dQ f79 q79 ⟨b0o,a6T,a6U,J6⟩
def b8E:FG 80 s80:=dQ f80 q80 ⟨a1Z,a6V,J6⟩
def a1Y:FG 40 s40:=dQ f40 q40 ⟨b0o,b8D,b8E,J6⟩
def b0n:FG 77 s77:=dQ f77 q77 ⟨TU,a6S,a1Z,b1U,a1Y,J6⟩
def Xd:FG 145 a6p:=dQ f145 b4J
def b1V:FG 142 b6F:=dQ f142 b4G ⟨b0n,Xd,J6⟩
def b1W:FG 143 b6G:=dQ f143 b4H ⟨Xe,Xd,J6⟩
def b1X:FG 144 b6H:=dQ f144 b4I ⟨Xe,a0r,Xd,J6⟩
def b1Y:FG 148 b6I:=dQ f148 b4M
def b8H:FG 86 s86:=dQ f86 q86 ⟨b1V,b1W,b1X,Xd,Xe,a0r,b1Y,a6X,J6⟩
def b0l:FG 45 s45:=dQ f45 q45 ⟨b0p,b0q,a7v,b8H,J6⟩
def a6K:FG 110 b1f:=dQ f110 b4k ⟨b2e,b2f,OM,b0p,b0l,J6⟩
def b1H:FG 109 b6r:=dQ f109 b4j ⟨a0p,a6K,J6⟩
def b8w:FG 65 s65:=dQ f65 q65 ⟨b1G,b0j,b1H,a0p,a6K,a6L,J6⟩ (hp:=⟨a5w,J6⟩)
def b8h:FG 30 s30:=dQ f30 q30 ⟨CX,b8r,b8s,b8t,b8u,b8v,a9v,a9w,b8w,J6⟩ (hp:=⟨a5w,J6⟩)
def b0h:FG 11 s11:=dQ f11 q11 ⟨b8g,b8h,b0i,J6⟩
def a6Y:FG 17 s17:=dQ f17 q17
theorem b0E(b:Nat)(w:World)(h0:w.cell? ⟨b,0,none⟩=some (.pointer (some ⟨b,0,none⟩))):Calls Go.Proofs.Tryz.prog 37 #[.pointer (some ⟨b,0,none⟩)] w λe w' =>e= .returned (.tuple #[])/\w' =w:=by
 obtain⟨j,hj,_⟩:=gG.1 (show Option.map (λx=>x.size) (Go.Proofs.Tryz.prog.info? 56)=some 2 by kernel_rfl);have t56:=Go.Proofs.Tryz.underlying56;have a56:=Go.Proofs.Tryz.isAgg56;have z56:=Go.Proofs.Tryz.sizeOf56;have v56:=Go.Proofs.Tryz.zeroValue56;have u56:=run_underlying Go.Proofs.Tryz.underlying56;have t53:=Go.Proofs.Tryz.underlying53;have a53:=Go.Proofs.Tryz.isAgg53;have z53:=Go.Proofs.Tryz.sizeOf53;have v53:=Go.Proofs.Tryz.zeroValue53;have u53:=run_underlying Go.Proofs.Tryz.underlying53;have t4:=Go.Proofs.Tryz.underlying4;have a4:=Go.Proofs.Tryz.isAgg4;have z4:=Go.Proofs.Tryz.sizeOf4;have v4:=Go.Proofs.Tryz.zeroValue4;have u4:=run_underlying Go.Proofs.Tryz.underlying4;have t123:=Go.Proofs.Tryz.underlying123;have a123:=Go.Proofs.Tryz.isAgg123;have z123:=Go.Proofs.Tryz.sizeOf123;have v123:=Go.Proofs.Tryz.zeroValue123;have u123:=run_underlying Go.Proofs.Tryz.underlying123
 go_enter Go.Proofs.Tryz.func37,(show Go.Proofs.Tryz.f37.ntmps=20 by kernel_rfl)
 go_wp2
 rw[Lib.run_neq_ptr_same w _ Go.Proofs.Tryz.underlying53 hj]
 go_wp2
 go_end0
 exact⟨rfl,rfl⟩
theorem a7Z(b:Nat)(w:World)(h0:w.cell? ⟨b,0,none⟩=some (.pointer none))(hsh:w.shape? b=some (56,2))(hfz:w.frozen? ⟨b,0,none⟩=false):Calls Go.Proofs.Tryz.prog 37 #[.pointer (some ⟨b,0,none⟩)] w λe w' =>e= .returned (.tuple #[])/\w' =w.setCell ⟨b,0,none⟩ (.pointer (some ⟨b,0,none⟩)):=by
 obtain⟨j,hj,hjs⟩:=gG.1 (show Option.map (λx=>x.size) (Go.Proofs.Tryz.prog.info? 56)=some 2 by kernel_rfl);have t56:=Go.Proofs.Tryz.underlying56;have a56:=Go.Proofs.Tryz.isAgg56;have z56:=Go.Proofs.Tryz.sizeOf56;have v56:=Go.Proofs.Tryz.zeroValue56;have u56:=run_underlying Go.Proofs.Tryz.underlying56;have t53:=Go.Proofs.Tryz.underlying53;have a53:=Go.Proofs.Tryz.isAgg53;have z53:=Go.Proofs.Tryz.sizeOf53;have v53:=Go.Proofs.Tryz.zeroValue53;have u53:=run_underlying Go.Proofs.Tryz.underlying53;have t4:=Go.Proofs.Tryz.underlying4;have a4:=Go.Proofs.Tryz.isAgg4;have z4:=Go.Proofs.Tryz.sizeOf4;have v4:=Go.Proofs.Tryz.zeroValue4;have u4:=run_underlying Go.Proofs.Tryz.underlying4;have t123:=Go.Proofs.Tryz.underlying123;have a123:=Go.Proofs.Tryz.isAgg123;have z123:=Go.Proofs.Tryz.sizeOf123;have v123:=Go.Proofs.Tryz.zeroValue123;have u123:=run_underlying Go.Proofs.Tryz.underlying123
 go_enter Go.Proofs.Tryz.func37,(show Go.Proofs.Tryz.f37.ntmps=20 by kernel_rfl)
 go_wp2
 rw[Lib.run_to_unsafe w ⟨b,0,none⟩ Go.Proofs.Tryz.underlying53 Go.Proofs.Tryz.underlying123 hj (by rw[hjs];decide) hsh (Nat.zero_lt_succ 1)];simp only[Result.andThen];rw[oC]
 go_wp2
 rw[run_callFunc_extern Go.Proofs.Tryz.func75 (by kernel_rfl) (by kernel_rfl) (by kernel_rfl) (e:=Extern.AbiNoEscape.same) (by kernel_rfl)];rw[Lib.run_noEscape];simp only[Result.andThen];rw[oC]
 go_wp2
 rw[Lib.run_from_unsafe w ⟨b,0,none⟩ Go.Proofs.Tryz.underlying123 Go.Proofs.Tryz.underlying53 hj hsh (by kernel_rfl)];simp only[Result.andThen];rw[oC]
 go_wp2
 go_end0
 exact⟨rfl,rfl⟩
def b6i:Go.Shelf.Ren:=⟨λ|166=>16|240=>37|276=>75|n=>n,λ|72=>56|70=>53|37=>54|164=>123|75=>58|n=>n,λn=>n⟩
theorem b8U:Lw Go.Proofs.Tryz.prog b6i where
 mixed:=by kernel_rfl
 f166:=Go.Proofs.Tryz.func16.trans (congrArg some (by kernel_rfl))
 t72:=Go.Proofs.Tryz.underlying56
 a72:=Go.Proofs.Tryz.isAgg56
 z72:=Go.Proofs.Tryz.sizeOf56
 v72:=Go.Proofs.Tryz.zeroValue56
 t70:=Go.Proofs.Tryz.underlying53
 a70:=Go.Proofs.Tryz.isAgg53
 z70:=Go.Proofs.Tryz.sizeOf53
 v70:=Go.Proofs.Tryz.zeroValue53
 t37:=Go.Proofs.Tryz.underlying54
 a37:=Go.Proofs.Tryz.isAgg54
 z37:=Go.Proofs.Tryz.sizeOf54
 v37:=Go.Proofs.Tryz.zeroValue54
 t3:=Go.Proofs.Tryz.underlying3
 a3:=Go.Proofs.Tryz.isAgg3
 z3:=Go.Proofs.Tryz.sizeOf3
 v3:=Go.Proofs.Tryz.zeroValue3
 t9:=Go.Proofs.Tryz.underlying9
 a9:=Go.Proofs.Tryz.isAgg9
 z9:=Go.Proofs.Tryz.sizeOf9
 v9:=Go.Proofs.Tryz.zeroValue9
 t4:=Go.Proofs.Tryz.underlying4
 a4:=Go.Proofs.Tryz.isAgg4
 z4:=Go.Proofs.Tryz.sizeOf4
 v4:=Go.Proofs.Tryz.zeroValue4
 t164:=Go.Proofs.Tryz.underlying123
 a164:=Go.Proofs.Tryz.isAgg123
 z164:=Go.Proofs.Tryz.sizeOf123
 v164:=Go.Proofs.Tryz.zeroValue123
 e240:=enters_of Go.Proofs.Tryz.func37 (by kernel_rfl) rfl
 used:=b0E
 fresh:=a7Z
theorem c0R:Go.Proofs.Builder.Extra Go.Proofs.Tryz.prog b6i where
 sizeBuilder:=by kernel_rfl
 liesBuilder:=by kernel_rfl
 t5:=Go.Proofs.Tryz.underlying5
 a5:=Go.Proofs.Tryz.isAgg5
 z5:=Go.Proofs.Tryz.sizeOf5
 v5:=Go.Proofs.Tryz.zeroValue5
 infoByte:=by kernel_rfl
 cellsByte:=by kernel_rfl
 sizeByte:=by kernel_rfl
 neB5:=by decide
theorem b8a:ik Go.Proofs.Tryz.prog gl 16 s16:=Uj b8U c0R
def b8b:FG 18 s18:=dQ f18 q18
def b8o:FG 39 s39:=dQ f39 q39 ⟨b0n,J6⟩
def b0k:FG 41 s41:=dQ f41 q41 ⟨a1Y,J6⟩
def b8c:FG 19 s19:=dQ f19 q19 ⟨Zi,b8o,a1Y,b0k,a6Y,J6⟩
def b8d:FG 21 s21:=dQ f21 q21 ⟨a1Z,a1Y,b0k,b0l,a6Y,J6⟩
theorem b8e:ik Go.Proofs.Tryz.prog gl 22 s22:=ZO Go.Proofs.Tryz.lays170
theorem b8f:ik Go.Proofs.Tryz.prog gl 23 s23:=Ui Go.Proofs.Tryz.lays169 Go.Proofs.Tryz.Builder_Extra_169
def b8I:FG 9 s9:=dQ f9 q9 ⟨b0i,a6Y,b8a,b8b,b8c,b0j,b8d,b8e,b8f,J6⟩
def c0P:FG 8 s8:=dQ f8 q8 ⟨b7Z,b0h,b8I,J6⟩
def b1I:FG 112 b6s:=dQ f112 b4m
def b8x:FG 66 s66:=dQ f66 q66 ⟨b1I,J6⟩
def b8i:FG 31 s31:=dQ f31 q31 ⟨b8x,J6⟩
def b1J:FG 113 b6t:=dQ f113 b4n
def b8y:FG 67 s67:=dQ f67 q67 ⟨b1J,J6⟩
def b8j:FG 32 s32:=dQ f32 q32 ⟨b8y,J6⟩
def b1K:FG 114 b6u:=dQ f114 b4o
def b2w:FG 234 b7n:=dQ f234 b5t
def b2h:FG 186 b6V:=dQ f186 b4W ⟨b2w,J6⟩
def b1L:FG 115 b6v:=dQ f115 b4p ⟨b2h,J6⟩
def b8z:FG 68 s68:=dQ f68 q68 ⟨b1K,b1L,J6⟩
def b8k:FG 33 s33:=dQ f33 q33 ⟨b8z,J6⟩
def b7Y:FG 12 s12:=dQ f12 q12 ⟨b8i,b8j,b8k,J6⟩
def c0O:FG 5 s5:=dQ f5 q5 ⟨c0P,b0h,b7Y,b8I,J6⟩
end Gt
