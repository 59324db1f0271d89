import Derived.Test.YtnpgekhfiogoeaaGreatDoorT3
import Derived.Test.YtnpgekhfiogoeaaGreatDoorProg
import Derived.Test.YtnpgekhfiogoeaaGreatDoorShelf
import Derived.Deep.QuietTactic
import Derived.BigQuiet
set_option linter.all false
open Go Go.GP Go.Shelf Go.RowKit Go.Proofs Go.Proofs.Tryz
namespace Gt
set_option maxRecDepth 100000
noncomputable abbrev P:Program:=Go.Proofs.Tryz.prog
theorem a7e:XB P tt=true:=by kernel_rfl
theorem a1U:∀t sh,bG eqs t=some sh->GM P t sh:=VY (by kernel_rfl)
theorem dS{f:FuncId}(fn:Func)(ps:List MG)(rt:Ret)(E:Env)(an:Ann){F:W9 ps->Option rt.den}(h:(P.funcs[f]?,fn.body,fn.ntmps,fn.results.toList,Nat.ble (64*E.nt) 999936,Ti P E.fs)=(some fn,some (OV fn),E.nt,rt.rs.map (·.1),true,true))(ht:(E.tt,E.eqs)=(tt,eqs))(hm:VC P E.ms)(hs:a1u P E.gl E.fs)(hp:VD P E.pl)(hF:∀x,a0w E ps rt (OV fn) an x=F x):
  cO P E.gl f ⟨ps,rt.rs.map (·.2),rt.outs.map (·.2),F⟩:=by
 injection h with h1 h;injection h with h2 h;injection h with h3 h;injection h with h4 h;injection h with h5 h6;injection ht with t1 t2;exact IP h1 h2 h3 h4 (VX h5 (t1▸a7e) (t2▸a1U) h6 hm hs hp) λx r h=>(hF x).trans h
theorem VP{h:Array Obj}{blk off:Nat}{v:Value}(e:bi h blk off 1=some [v]):∃c T m,h[blk]? =some (.cells c T m)/\c[off]? =some v:=by
 unfold bi at e;split at e
 .rename_i c T m hc;split at e
  .rename_i hle;refine⟨c,T,m,hc,?_⟩;simp only[D8]at e;have h1:c.toList[off]? =some v:=by
    have:(c.toList.drop off)[0]? =some v:=by have:=congrArg (λl=>l[0]?) e;simpa[U1]using this
    simpa[U0]using this
   simpa using h1
  .cases e
 .cases e
theorem b0R(w:World)(x y:Value)(hp:IK w.heap x 2 5 0 y):Calls Go.Proofs.Tryz.prog 63 #[x] w λe w' =>e= .returned y/\∃n,w' =w.drewN n:=by
 obtain⟨blk,o,b,bo,n,c,rfl,e,h0,h1,rfl⟩:=hp;have hc:w.cell? ⟨blk,o+2,none⟩=some (.slice (some ⟨b,bo,none⟩) n c):=by obtain⟨cs,T,m,e1,e2⟩:=VP e;simp[World.cell?,e1,e2]
 clear e;obtain⟨j,hj⟩:∃j:Nat,IntKind.i64.wrap ((n:Int) -1)=(j:Int):=⟨_,(fM h0).symm⟩;have e2:O5 .i64 (n:Int) 1=(j:Int):=hj;rw[e2]at h1;rw[e2,ax,aO];have hjn:j<n:=Int.ofNat_lt.1 h1;clear h0 h1 e2;have t49:=Go.Proofs.Tryz.underlying49;have a49:=Go.Proofs.Tryz.isAgg49;have z49:=Go.Proofs.Tryz.sizeOf49;have t84:=Go.Proofs.Tryz.underlying84;have a84:=Go.Proofs.Tryz.isAgg84;have z84:=Go.Proofs.Tryz.sizeOf84;have v84:=Go.Proofs.Tryz.zeroValue84;have u84:=run_underlying Go.Proofs.Tryz.underlying84;have t86:=Go.Proofs.Tryz.underlying86;have a86:=Go.Proofs.Tryz.isAgg86;have z86:=Go.Proofs.Tryz.sizeOf86;have v86:=Go.Proofs.Tryz.zeroValue86;have u86:=run_underlying Go.Proofs.Tryz.underlying86;have t26:=Go.Proofs.Tryz.underlying26;have a26:=Go.Proofs.Tryz.isAgg26;have z26:=Go.Proofs.Tryz.sizeOf26;have v26:=Go.Proofs.Tryz.zeroValue26;have u26:=run_underlying Go.Proofs.Tryz.underlying26;have t24:=Go.Proofs.Tryz.underlying24;have a24:=Go.Proofs.Tryz.isAgg24;have z24:=Go.Proofs.Tryz.sizeOf24;have v24:=Go.Proofs.Tryz.zeroValue24;have u24:=run_underlying Go.Proofs.Tryz.underlying24;have t109:=Go.Proofs.Tryz.underlying109;have a109:=Go.Proofs.Tryz.isAgg109;have z109:=Go.Proofs.Tryz.sizeOf109;have v109:=Go.Proofs.Tryz.zeroValue109;have u109:=run_underlying Go.Proofs.Tryz.underlying109;have t3:=Go.Proofs.Tryz.underlying3;have a3:=Go.Proofs.Tryz.isAgg3;have z3:=Go.Proofs.Tryz.sizeOf3;have v3:=Go.Proofs.Tryz.zeroValue3;have u3:=run_underlying Go.Proofs.Tryz.underlying3
 go_enter Go.Proofs.Tryz.func63,(show Go.Proofs.Tryz.f63.ntmps=16 by kernel_rfl)
 go_wp2
 go_quiet (skip)
 go_wp2
 go_ret
 exact⟨rfl,nq,rfl⟩
theorem a2K:Jv P 63 2 5:=⟨⟨_,Go.Proofs.Tryz.func63,by kernel_rfl,by kernel_rfl⟩,b0R⟩
theorem dQ{f:FuncId}(fn:Func)(q:FQ){F:W9 q.ps->Option q.rt.den}(hs:a1u P q.E.gl q.E.fs:=by exact trivial)(h:(P.funcs[f]?,fn.body,fn.ntmps,fn.results.toList,Nat.ble (64*q.E.nt) 999936,Ti P q.E.fs)=(some fn,some (OV fn),q.E.nt,q.rt.rs.map (·.1),true,true):=by kernel_rfl)(ht:(q.E.tt,q.E.eqs)=(tt,eqs):=by rfl)(hm:VC P q.E.ms:=by exact trivial)(hp:VD P q.E.pl:=by exact trivial)(hF:∀x,a0w q.E q.ps q.rt (OV fn) q.an x=F x:=by intro x;kernel_rfl):
  cO P q.E.gl f ⟨q.ps,q.rt.rs.map (·.2),q.rt.outs.map (·.2),F⟩:=dS fn q.ps q.rt q.E q.an h ht hm hs hp hF
abbrev FG(n:FuncId)(s:FSpec):=cO P gl n s
def Vm:FG 121 a3v:=dQ f121 b1n
def Vq:FG 189 a3B:=dQ f189 b2p
def a3W:FG 122 a7K:=dQ f122 b1o ⟨Vm,Vq,F8⟩
def a8w:FG 123 b4n:=dQ f123 b1p
def QV:FG 71 s71:=dQ f71 q71 ⟨Vm,a3W,a8w,F8⟩
def Xi:FG 125 YZ:=dQ f125 a2R
def a4l:FG 190 a3C:=dQ f190 a2W ⟨Xi,F8⟩
def a3X:FG 124 a3w:=dQ f124 a2Q ⟨a4l,F8⟩
def a4K:FG 72 s72:=dQ f72 q72 ⟨Xi,a3X,F8⟩
def Zr:FG 187 a5X:=dQ f187 b2n
def a8u:FG 116 b4l:=dQ f116 b1k ⟨Zr,F8⟩
def b6U:FG 69 s69:=dQ f69 q69 ⟨QV,a4K,a8u,F8⟩
def b6B:FG 34 s34:=dQ f34 q34 ⟨b6U,F8⟩
def QW:FG 76 s76:=dQ f76 q76
def Xo:FG 38 s38:=dQ f38 q38 ⟨QW,F8⟩
def a3U:FG 117 a7J:=dQ f117 b1l
def a9C:FG 235 b5t:=dQ f235 b2V ⟨a3U,F8⟩
def a9f:FG 188 b4W:=dQ f188 b2o ⟨a9C,F8⟩
def a8v:FG 120 b4m:=dQ f120 b1m ⟨a9f,F8⟩
def Xh:FG 119 YY:=dQ f119 a2P ⟨a8v,F8⟩
def a3V:FG 118 a3u:=dQ f118 a2O ⟨Xh,F8⟩
def b6V:FG 70 s70:=dQ f70 q70 ⟨QW,Xo,a3U,Xh,a3V,F8⟩
def Xj:FG 127 Za:=dQ f127 a2T
def a4n:FG 191 a3E:=dQ f191 a2Y ⟨Xj,F8⟩
def a3Y:FG 126 a3x:=dQ f126 a2S ⟨a4n,F8⟩
def a6X:FG 73 s73:=dQ f73 q73 ⟨Xj,a3Y,F8⟩
def b6C:FG 35 s35:=dQ f35 q35 ⟨b6V,QV,a4K,a6X,F8⟩
def Xk:FG 129 Zb:=dQ f129 a2V
def a4o:FG 192 a3F:=dQ f192 a2Z ⟨Xk,F8⟩
def a3Z:FG 128 a3y:=dQ f128 a2U ⟨a4o,F8⟩
def Xl:FG 193 Zd:=dQ f193 a3a
def a4v:FG 236 a3J:=dQ f236 a3e ⟨Xl,F8⟩
def a4p:FG 194 a3G:=dQ f194 a3b ⟨a4v,F8⟩
def a8x:FG 130 b4o:=dQ f130 b1q ⟨Xl,QV,a4p,QW,F8⟩
def a9g:FG 195 b4X:=dQ f195 b2q
def a8y:FG 131 b4p:=dQ f131 b1r ⟨a9g,F8⟩
def Xm:FG 197 Ze:=dQ f197 a3d
def a4w:FG 237 a3K:=dQ f237 a3f ⟨Xm,F8⟩
def a4q:FG 196 a3H:=dQ f196 a3c ⟨a4w,F8⟩
theorem a9D:cO Go.Proofs.Tryz.prog gl 238 b5u:=Ob Go.Proofs.Tryz.strings_Contains_one
def a9h:FG 198 b4Y:=dQ f198 b2r ⟨a9D,F8⟩
def a4L:FG 85 s85:=dQ f85 q85
def a4e:FG 141 a7P:=dQ f141 b1z ⟨a4L,F8⟩
def a7b:FG 84 s84:=dQ f84 q84
def b0e:FG 293 b5V:=dQ f293 b3A ⟨Xo,F8⟩
def b0f:FG 294 b5W:=dQ f294 b3B
def a4E:FG 295 a8f:=dQ f295 b3C ⟨QW,F8⟩
def a4F:FG 298 a8g:=dQ f298 b3F
def b0g:FG 296 b5X:=dQ f296 b3D ⟨a4F,QW,F8⟩
def a4I:FG 319 a8j:=dQ f319 b3R
def b0h:FG 297 b5Y:=dQ f297 b3E ⟨a4E,a4I,F8⟩
def b0p:FG 320 b6g:=dQ f320 b3S
def b0i:FG 299 b5Z:=dQ f299 b3G ⟨a4I,b0p,F8⟩
def a9P:FG 266 b5G:=dQ f266 b3k ⟨b0e,b0f,a4E,b0g,b0h,a4F,b0i,F8⟩
def a9E:FG 239 b5v:=dQ f239 b2W ⟨a4e,a7b,a4L,a9P,F8⟩
def a9i:FG 199 b4Z:=dQ f199 b2s ⟨a9E,F8⟩
def a8z:FG 132 b4q:=dQ f132 b1s ⟨QV,Xm,a4q,a9h,a9i,F8⟩
theorem a4B:cO Go.Proofs.Tryz.prog gl 268 a8c:=Zy Go.Proofs.Tryz.slices_Sort_int Go.Proofs.Tryz.slices_Sort_int_none
theorem a4C:cO Go.Proofs.Tryz.prog gl 269 a8d:=RP Go.Proofs.Tryz.slices_Compact_int Go.Proofs.Tryz.slices_Compact_int_empty
def b0j:FG 300 b6a:=dQ f300 b3H ⟨a4B,a4C,F8⟩
def a9Q:FG 267 b5H:=dQ f267 b3l ⟨b0j,F8⟩
def a9F:FG 240 b5w:=dQ f240 b2X ⟨a9Q,F8⟩
def a9G:FG 241 b5x:=dQ f241 b2Y ⟨a4B,a4C,F8⟩
def a9l:FG 202 b5c:=dQ f202 b2v ⟨a9F,a9G,F8⟩
def a9k:FG 201 b5b:=dQ f201 b2u
def a8B:FG 134 b4s:=dQ f134 b1u ⟨a9l,a9k,F8⟩
def a9j:FG 200 b5a:=dQ f200 b2t
def a8A:FG 133 b4r:=dQ f133 b1t ⟨a9j,F8⟩
def b6W:FG 74 s74:=dQ f74 q74 ⟨a4K,a6X,Xk,a3Z,QV,a8x,a8y,a8z,a8B,a8A,F8⟩
def b6D:FG 36 s36:=dQ f36 q36 ⟨b6W,F8⟩
def a6S:FG 15 s15:=dQ f15 q15 ⟨b6B,b6C,b6D,F8⟩
def b6n:FG 13 s13:=dQ f13 q13
def b7R:FG 7 s7:=dQ f7 q7 ⟨b6n,F8⟩
def b6o:FG 14 s14:=dQ f14 q14
def b6z:FG 29 s29:=dQ f29 q29
theorem Zk:cO Go.Proofs.Tryz.prog gl 103 a5Q:=a0u (g:=1) Go.Proofs.Tryz.strings_Cut (by kernel_rfl)
def AY:FG 57 s57:=dQ f57 q57 ⟨Zk,F8⟩
def b6O:FG 58 s58:=dQ f58 q58 ⟨AY,F8⟩
def Zl:FG 104 a5R:=dQ f104 b1c ⟨AY,F8⟩
def MH:FG 105 YX:=dQ f105 b1d
def b6P:FG 59 s59:=dQ f59 q59 ⟨AY,Zl,MH,F8⟩
def a9x:FG 223 b5o:=dQ f223 b2M
def a9n:FG 205 b5e:=dQ f205 b2y
def a4c:FG 138 a7N:=dQ f138 b1y ⟨a9n,F8⟩
def a9m:FG 204 b5d:=dQ f204 b2x
def a4b:FG 137 a7M:=dQ f137 b1x ⟨a9m,F8⟩
def a9y:FG 224 b5p:=dQ f224 b2N ⟨a4c,a4b,F8⟩
def Zq:FG 176 a5W:=dQ f176 b2f ⟨a9x,a9y,F8⟩
def a3R:FG 106 a7G:=dQ f106 b1e ⟨AY,Zq,F8⟩
theorem a4x:cO Go.Proofs.Tryz.prog gl 244 a7Z:=Oe Go.Proofs.Tryz.stringslite_HasPrefix
def b0m:FG 310 b6d:=dQ f310 b3N ⟨a4x,F8⟩
def a9Y:FG 284 b5P:=dQ f284 b3t ⟨b0m,F8⟩
def a9Z:FG 285 b5Q:=dQ f285 b3u
def a4A:FG 258 a8b:=dQ f258 b3e ⟨a9Y,a9Z,F8⟩
def Zv:FG 226 a6a:=dQ f226 b2P ⟨a4A,F8⟩
def a4r:FG 203 a7V:=dQ f203 b2w
def a4z:FG 256 a8a:=dQ f256 b3c ⟨a4r,a4A,F8⟩
def b0l:FG 309 b6c:=dQ f309 b3M
def a9X:FG 283 b5O:=dQ f283 b3s ⟨b0l,F8⟩
def a9K:FG 257 b5B:=dQ f257 b3d ⟨a9X,F8⟩
def a9z:FG 225 b5q:=dQ f225 b2O ⟨Zv,a4z,a9K,Zq,F8⟩
def a4a:FG 135 a7L:=dQ f135 b1v ⟨Xo,F8⟩
def a8X:FG 177 b4O:=dQ f177 b2g ⟨QW,a9z,a4a,F8⟩
def a8r:FG 107 b4i:=dQ f107 b1f ⟨AY,Xo,a8X,F8⟩
def b6Q:FG 60 s60:=dQ f60 q60 ⟨a3R,a8r,MH,F8⟩
def b6R:FG 61 s61:=dQ f61 q61 ⟨AY,MH,F8⟩
def b6S:FG 62 s62:=dQ f62 q62 ⟨AY,MH,F8⟩ (hp:=⟨a2K,F8⟩)
def a6g:FG 64 a6O:=dQ f64 a6K ⟨AY,Zl,MH,F8⟩
def a6h:FG 64 a6P:=dQ f64 a6L ⟨AY,Zl,MH,F8⟩
def a8Y:FG 178 b4P:=dQ f178 b2h ⟨AY,F8⟩
def a8Z:FG 179 b4Q:=dQ f179 b2i ⟨AY,F8⟩ (hp:=⟨a2K,F8⟩)
def a9a:FG 180 b4R:=dQ f180 b2j ⟨AY,F8⟩ (hp:=⟨a2K,F8⟩)
def a9b:FG 181 b4S:=dQ f181 b2k ⟨AY,Zv,F8⟩
def a8s:FG 108 b4j:=dQ f108 b1g ⟨AY,a8Y,a8Z,a9a,a9b,a3R,F8⟩
theorem b6Z:cO Go.Proofs.Tryz.prog gl 81 s81:=VQ (E:=⟨8,eqs,tt,gl,[],[],[],[],[],[],[]⟩) (f:=81) (fn:=Go.Proofs.Tryz.f81) (c:=OV Go.Proofs.Tryz.f81) (t:=.str) (by kernel_rfl) (by kernel_rfl) (by kernel_rfl) (by kernel_rfl)
  (VX (by kernel_rfl) a7e a1U (by kernel_rfl) trivial trivial trivial) (λb=>by cases b<;>kernel_rfl) (λxs=>by kernel_rfl)
def b6F:FG 42 s42:=dQ f42 q42 ⟨b6Z,F8⟩
def b6G:FG 43 s43:=dQ f43 q43
def a6T:FG 20 s20:=dQ f20 q20 ⟨b6F,b6G,F8⟩
def a9A:FG 227 b5r:=dQ f227 b2Q
theorem a9e:cO Go.Proofs.Tryz.prog gl 185 b4V:=Og Go.Proofs.Tryz.stringslite_IndexByte
def a3T:FG 111 a7I:=dQ f111 b1j ⟨a9e,F8⟩
def a9L:FG 259 b5C:=dQ f259 b3f ⟨a3W,F8⟩
def Zw:FG 287 a6b:=dQ f287 b3w ⟨Vq,F8⟩
def b0a:FG 286 b5R:=dQ f286 b3v ⟨Zw,F8⟩
def Zt:FG 207 a5Y:=dQ f207 b2z ⟨a4x,F8⟩
def b0b:FG 288 b5S:=dQ f288 b3x ⟨Zt,Zw,F8⟩
def b0c:FG 289 b5T:=dQ f289 b3y ⟨Zq,a4z,Zv,F8⟩
def a9M:FG 260 b5D:=dQ f260 b3g ⟨b0a,Zw,b0b,Zt,Vm,Vq,b0c,F8⟩
theorem b0d:cO Go.Proofs.Tryz.prog gl 290 b5U:=PT Go.Proofs.Tryz.strings_IndexAny_laid
def a9N:FG 261 b5E:=dQ f261 b3h ⟨b0d,F8⟩
def a9B:FG 228 b5s:=dQ f228 b2R ⟨Vm,Vq,a3T,a9L,a9M,a9N,Zt,F8⟩
def a9c:FG 182 b4T:=dQ f182 b2l ⟨a9A,a9B,F8⟩
def Jq:FG 262 Xf:=dQ f262 b3i
def Vr:FG 229 a3I:=dQ f229 b2S ⟨Jq,F8⟩
def a4D:FG 291 a8e:=dQ f291 b3z
def MJ:FG 232 Zf:=dQ f232 b2U
def MI:FG 184 Zc:=dQ f184 b2m
def a4u:FG 231 a7Y:=dQ f231 b2T ⟨Vr,MI,F8⟩
def a4H:FG 315 a8i:=dQ f315 b3O ⟨a4u,F8⟩
def Vp:FG 146 a3A:=dQ f146 b1E
def b0n:FG 316 b6e:=dQ f316 b3P ⟨Vp,F8⟩
def a4J:FG 332 a8k:=dQ f332 b3T ⟨Jq,QV,MI,Zr,F8⟩
def Zm:FG 147 a5S:=dQ f147 b1F
def b0r:FG 341 b6i:=dQ f341 b3V ⟨Zm,F8⟩
def b0q:FG 333 b6h:=dQ f333 b3U ⟨Jq,b0r,MI,F8⟩
def Xn:FG 334 Zg:=dQ f334 a3g
def a4m:FG 190 a3D:=dQ f190 a2X ⟨Xn,F8⟩
def b0o:FG 318 b6f:=dQ f318 b3Q ⟨Jq,QV,MI,Xn,a4m,a4J,MJ,Zr,F8⟩
def a4f:FG 149 a7Q:=dQ f149 b1H
def a9O:FG 264 b5F:=dQ f264 b3j ⟨a4f,F8⟩
theorem a6j:∀n,cO P gl 183 ⟨TK,[(false,(.dat .bool))],[(true,(.pair (.dat (.sl (.prod (.int .i64) (.prod .str (.prod (.int .i64) (.int .i64)))))) (.pair (.dat (.int .i64)) (.pair (.dat (.int .i64)) (.pair (.dat (.prod (.sl (.prod .str (.sl .str))) (.prod (.sl .str) (.prod (.sl .str) (.prod (.sl .str) (.sl .str)))))) (.pair (.own (.prod (.int .i64) (.int .i64))) (.pair (.dat (.int .i64)) (.dat (.int .i64)))))))))],λx=>(x8 n).1 x⟩/\cO P gl 230 ⟨J_,[(false,(.dat .bool))],[(true,(.pair (.dat (.sl (.prod (.int .i64) (.prod .str (.prod (.int .i64) (.int .i64)))))) (.pair (.dat (.int .i64)) (.pair (.dat (.int .i64)) (.pair (.dat (.prod (.sl (.prod .str (.sl .str))) (.prod (.sl .str) (.prod (.sl .str) (.prod (.sl .str) (.sl .str)))))) (.pair (.own (.prod (.int .i64) (.int .i64))) (.pair (.dat (.int .i64)) (.dat (.int .i64)))))))))],λx=>(x8 n).2.1 x.1 x.2⟩/\cO P gl 263 ⟨K_,[(false,(.dat .bool))],[(true,(.pair (.dat (.sl (.prod (.int .i64) (.prod .str (.prod (.int .i64) (.int .i64)))))) (.pair (.dat (.int .i64)) (.pair (.dat (.int .i64)) (.pair (.dat (.prod (.sl (.prod .str (.sl .str))) (.prod (.sl .str) (.prod (.sl .str) (.prod (.sl .str) (.sl .str)))))) (.pair (.own (.prod (.int .i64) (.int .i64))) (.pair (.dat (.int .i64)) (.dat (.int .i64)))))))))],λx=>(x8 n).2.2.1 x⟩/\cO P gl 292 ⟨a2M,[(false,(.dat .bool))],[(true,(.pair (.dat (.sl (.prod (.int .i64) (.prod .str (.prod (.int .i64) (.int .i64)))))) (.pair (.dat (.int .i64)) (.pair (.dat (.int .i64)) (.pair (.dat (.prod (.sl (.prod .str (.sl .str))) (.prod (.sl .str) (.prod (.sl .str) (.prod (.sl .str) (.sl .str)))))) (.pair (.own (.prod (.int .i64) (.int .i64))) (.pair (.dat (.int .i64)) (.dat (.int .i64)))))))))],λx=>(x8 n).2.2.2.1 x⟩/\cO P gl 317 ⟨a2N,[(false,(.dat .bool))],[(true,(.pair (.dat (.sl (.prod (.int .i64) (.prod .str (.prod (.int .i64) (.int .i64)))))) (.pair (.dat (.int .i64)) (.pair (.dat (.int .i64)) (.pair (.dat (.prod (.sl (.prod .str (.sl .str))) (.prod (.sl .str) (.prod (.sl .str) (.prod (.sl .str) (.sl .str)))))) (.pair (.own (.prod (.int .i64) (.int .i64))) (.pair (.dat (.int .i64)) (.dat (.int .i64)))))))))],λx=>(x8 n).2.2.2.2 x.1 x.2⟩:=by
 intro n;induction n with
 |zero=>exact⟨(λw ok O vals x r _ _ _ _ _ _ h=>by cases h),(λw ok O vals x r _ _ _ _ _ _ h=>by cases h),(λw ok O vals x r _ _ _ _ _ _ h=>by cases h),(λw ok O vals x r _ _ _ _ _ _ h=>by cases h),(λw ok O vals x r _ _ _ _ _ _ h=>by cases h)⟩
 |succ n ih=>exact⟨dS f183 TK a6N (b7s (x8 n).1 (x8 n).2.1 (x8 n).2.2.1 (x8 n).2.2.2.1 (x8 n).2.2.2.2) b0C (by kernel_rfl) rfl trivial ⟨Vr,ih.2.1,ih.1,a4u,MJ,trivial⟩ trivial λx=>by kernel_rfl,
  dS f230 J_ b4a (b7t (x8 n).1 (x8 n).2.1 (x8 n).2.2.1 (x8 n).2.2.2.1 (x8 n).2.2.2.2) b0D (by kernel_rfl) rfl trivial ⟨ih.2.2.1,Jq,a9O,ih.2.1,MJ,trivial⟩ trivial λx=>by kernel_rfl,
  dS f263 K_ b4b (b7u (x8 n).1 (x8 n).2.1 (x8 n).2.2.1 (x8 n).2.2.2.1 (x8 n).2.2.2.2) b0E (by kernel_rfl) rfl trivial ⟨Vr,Jq,a4D,MJ,ih.2.2.1,ih.2.2.2.1,trivial⟩ trivial λx=>by kernel_rfl,
  dS f292 a2M b4c (b7v (x8 n).1 (x8 n).2.1 (x8 n).2.2.1 (x8 n).2.2.2.1 (x8 n).2.2.2.2) b0F (by kernel_rfl) rfl trivial ⟨Jq,a4D,MJ,Vr,ih.1,a4H,MI,b0n,ih.2.2.2.2,b0o,trivial⟩ trivial λx=>by kernel_rfl,
  dS f317 a2N b4d (b7w (x8 n).1 (x8 n).2.1 (x8 n).2.2.1 (x8 n).2.2.2.1 (x8 n).2.2.2.2) b0G (by kernel_rfl) rfl trivial ⟨MJ,a4J,a4H,ih.1,b0q,trivial⟩ trivial λx=>by kernel_rfl⟩
theorem a9d:cO P gl 183 b4U:=(a6j jq).1
def a7a:FG 83 s83:=dQ f83 q83 ⟨a4e,F8⟩
theorem b7a:cO Go.Proofs.Tryz.prog gl 82 s82:=Yw (g:=2) Go.Proofs.Tryz.strconv_Itoa (by kernel_rfl) (by kernel_rfl)
def a0a:FG 44 s44:=dQ f44 q44 ⟨b7a,F8⟩
theorem a4d:cO Go.Proofs.Tryz.prog gl 139 a7O:=UY Go.Proofs.Tryz.strings_Repeat
def a8C:FG 136 b4t:=dQ f136 b1w ⟨a4r,a0a,a4d,F8⟩
def a6Z:FG 78 s78:=dQ f78 q78
def b6X:FG 79 s79:=dQ f79 q79 ⟨a6Z,a4b,a4c,F8⟩
def b6Y:FG 80 s80:=dQ f80 q80 ⟨a0a,a4d,F8⟩
def Z_:FG 40 s40:=dQ f40 q40 ⟨a6Z,b6X,b6Y,F8⟩
def a6Y:FG 77 s77:=dQ f77 q77 ⟨QW,a4a,a0a,a8C,Z_,F8⟩
def Vo:FG 145 a3z:=dQ f145 b1D
def a8D:FG 142 b4u:=dQ f142 b1A ⟨a6Y,Vo,F8⟩
def a8E:FG 143 b4v:=dQ f143 b1B ⟨Vp,Vo,F8⟩
def a8F:FG 144 b4w:=dQ f144 b1C ⟨Vp,Zm,Vo,F8⟩
def a8G:FG 148 b4x:=dQ f148 b1G
def b7b:FG 86 s86:=dQ f86 q86 ⟨a8D,a8E,a8F,Vo,Vp,Zm,a8G,a4f,F8⟩
def a6V:FG 45 s45:=dQ f45 q45 ⟨a7a,a7b,a4L,b7b,F8⟩
def a3S:FG 110 a7H:=dQ f110 b1i ⟨a9c,a9d,MI,a7a,a6V,F8⟩
def a8t:FG 109 b4k:=dQ f109 b1h ⟨Zk,a3S,F8⟩
def b6T:FG 65 s65:=dQ f65 q65 ⟨a8s,a6T,a8t,Zk,a3S,a3T,F8⟩ (hp:=⟨a2K,F8⟩)
def b6A:FG 30 s30:=dQ f30 q30 ⟨AY,b6O,b6P,b6Q,b6R,b6S,a6g,a6h,b6T,F8⟩ (hp:=⟨a2K,F8⟩)
def b6m:FG 11 s11:=dQ f11 q11 ⟨b6z,b6A,a6S,F8⟩
def a4k:FG 17 s17:=dQ f17 q17
theorem a7p(b:Nat)(w:World)(h0:w.cell? ⟨b,0,none⟩=some (.pointer (some ⟨b,0,none⟩))):Calls Go.Proofs.Tryz.prog 37 #[.pointer (some ⟨b,0,none⟩)] w λe w' =>e= .returned (.tuple #[])/\w' =w:=by
 obtain⟨j,hj,_⟩:=dR.1 (show Option.map (λx=>x.size) (Go.Proofs.Tryz.prog.info? 56)=some 2 by kernel_rfl);have t56:=Go.Proofs.Tryz.underlying56;have a56:=Go.Proofs.Tryz.isAgg56;have z56:=Go.Proofs.Tryz.sizeOf56;have v56:=Go.Proofs.Tryz.zeroValue56;have u56:=run_underlying Go.Proofs.Tryz.underlying56;have t53:=Go.Proofs.Tryz.underlying53;have a53:=Go.Proofs.Tryz.isAgg53;have z53:=Go.Proofs.Tryz.sizeOf53;have v53:=Go.Proofs.Tryz.zeroValue53;have u53:=run_underlying Go.Proofs.Tryz.underlying53;have t4:=Go.Proofs.Tryz.underlying4;have a4:=Go.Proofs.Tryz.isAgg4;have z4:=Go.Proofs.Tryz.sizeOf4;have v4:=Go.Proofs.Tryz.zeroValue4;have u4:=run_underlying Go.Proofs.Tryz.underlying4;have t123:=Go.Proofs.Tryz.underlying123;have a123:=Go.Proofs.Tryz.isAgg123;have z123:=Go.Proofs.Tryz.sizeOf123;have v123:=Go.Proofs.Tryz.zeroValue123;have u123:=run_underlying Go.Proofs.Tryz.underlying123
 go_enter Go.Proofs.Tryz.func37,(show Go.Proofs.Tryz.f37.ntmps=20 by kernel_rfl)
 go_wp2
 rw[Lib.run_neq_ptr_same w _ Go.Proofs.Tryz.underlying53 hj]
 go_wp2
 go_end0
 exact⟨rfl,rfl⟩
theorem a5a(b:Nat)(w:World)(h0:w.cell? ⟨b,0,none⟩=some (.pointer none))(hsh:w.shape? b=some (56,2))(hfz:w.frozen? ⟨b,0,none⟩=false):Calls Go.Proofs.Tryz.prog 37 #[.pointer (some ⟨b,0,none⟩)] w λe w' =>e= .returned (.tuple #[])/\w' =w.setCell ⟨b,0,none⟩ (.pointer (some ⟨b,0,none⟩)):=by
 obtain⟨j,hj,hjs⟩:=dR.1 (show Option.map (λx=>x.size) (Go.Proofs.Tryz.prog.info? 56)=some 2 by kernel_rfl);have t56:=Go.Proofs.Tryz.underlying56;have a56:=Go.Proofs.Tryz.isAgg56;have z56:=Go.Proofs.Tryz.sizeOf56;have v56:=Go.Proofs.Tryz.zeroValue56;have u56:=run_underlying Go.Proofs.Tryz.underlying56;have t53:=Go.Proofs.Tryz.underlying53;have a53:=Go.Proofs.Tryz.isAgg53;have z53:=Go.Proofs.Tryz.sizeOf53;have v53:=Go.Proofs.Tryz.zeroValue53;have u53:=run_underlying Go.Proofs.Tryz.underlying53;have t4:=Go.Proofs.Tryz.underlying4;have a4:=Go.Proofs.Tryz.isAgg4;have z4:=Go.Proofs.Tryz.sizeOf4;have v4:=Go.Proofs.Tryz.zeroValue4;have u4:=run_underlying Go.Proofs.Tryz.underlying4;have t123:=Go.Proofs.Tryz.underlying123;have a123:=Go.Proofs.Tryz.isAgg123;have z123:=Go.Proofs.Tryz.sizeOf123;have v123:=Go.Proofs.Tryz.zeroValue123;have u123:=run_underlying Go.Proofs.Tryz.underlying123
 go_enter Go.Proofs.Tryz.func37,(show Go.Proofs.Tryz.f37.ntmps=20 by kernel_rfl)
 go_wp2
 rw[Lib.run_to_unsafe w ⟨b,0,none⟩ Go.Proofs.Tryz.underlying53 Go.Proofs.Tryz.underlying123 hj (by rw[hjs];decide) hsh (Nat.zero_lt_succ 1)];simp only[Result.andThen];rw[kX]
 go_wp2
 rw[run_callFunc_extern Go.Proofs.Tryz.func75 (by kernel_rfl) (by kernel_rfl) (by kernel_rfl) (e:=Extern.AbiNoEscape.same) (by kernel_rfl)];rw[Lib.run_noEscape];simp only[Result.andThen];rw[kX]
 go_wp2
 rw[Lib.run_from_unsafe w ⟨b,0,none⟩ Go.Proofs.Tryz.underlying123 Go.Proofs.Tryz.underlying53 hj hsh (by kernel_rfl)];simp only[Result.andThen];rw[kX]
 go_wp2
 go_end0
 exact⟨rfl,rfl⟩
def b3W:Go.Shelf.Ren:=⟨λ|166=>16|240=>37|276=>75|n=>n,λ|72=>56|70=>53|37=>54|164=>123|75=>58|n=>n,λn=>n⟩
theorem b7x:Lw Go.Proofs.Tryz.prog b3W where
 mixed:=by kernel_rfl
 f166:=Go.Proofs.Tryz.func16.trans (congrArg some (by kernel_rfl))
 t72:=Go.Proofs.Tryz.underlying56
 a72:=Go.Proofs.Tryz.isAgg56
 z72:=Go.Proofs.Tryz.sizeOf56
 v72:=Go.Proofs.Tryz.zeroValue56
 t70:=Go.Proofs.Tryz.underlying53
 a70:=Go.Proofs.Tryz.isAgg53
 z70:=Go.Proofs.Tryz.sizeOf53
 v70:=Go.Proofs.Tryz.zeroValue53
 t37:=Go.Proofs.Tryz.underlying54
 a37:=Go.Proofs.Tryz.isAgg54
 z37:=Go.Proofs.Tryz.sizeOf54
 v37:=Go.Proofs.Tryz.zeroValue54
 t3:=Go.Proofs.Tryz.underlying3
 a3:=Go.Proofs.Tryz.isAgg3
 z3:=Go.Proofs.Tryz.sizeOf3
 v3:=Go.Proofs.Tryz.zeroValue3
 t9:=Go.Proofs.Tryz.underlying9
 a9:=Go.Proofs.Tryz.isAgg9
 z9:=Go.Proofs.Tryz.sizeOf9
 v9:=Go.Proofs.Tryz.zeroValue9
 t4:=Go.Proofs.Tryz.underlying4
 a4:=Go.Proofs.Tryz.isAgg4
 z4:=Go.Proofs.Tryz.sizeOf4
 v4:=Go.Proofs.Tryz.zeroValue4
 t164:=Go.Proofs.Tryz.underlying123
 a164:=Go.Proofs.Tryz.isAgg123
 z164:=Go.Proofs.Tryz.sizeOf123
 v164:=Go.Proofs.Tryz.zeroValue123
 e240:=enters_of Go.Proofs.Tryz.func37 (by kernel_rfl) rfl
 used:=a7p
 fresh:=a5a
theorem b7T:Go.Proofs.Builder.Extra Go.Proofs.Tryz.prog b3W where
 sizeBuilder:=by kernel_rfl
 liesBuilder:=by kernel_rfl
 t5:=Go.Proofs.Tryz.underlying5
 a5:=Go.Proofs.Tryz.isAgg5
 z5:=Go.Proofs.Tryz.sizeOf5
 v5:=Go.Proofs.Tryz.zeroValue5
 infoByte:=by kernel_rfl
 cellsByte:=by kernel_rfl
 sizeByte:=by kernel_rfl
 neB5:=by decide
theorem b6p:cO Go.Proofs.Tryz.prog gl 16 s16:=RH b7x b7T
def b6q:FG 18 s18:=dQ f18 q18
def b6E:FG 39 s39:=dQ f39 q39 ⟨a6Y,F8⟩
def a6U:FG 41 s41:=dQ f41 q41 ⟨Z_,F8⟩
def b6r:FG 19 s19:=dQ f19 q19 ⟨Xo,b6E,Z_,a6U,a4k,F8⟩
def b6s:FG 21 s21:=dQ f21 q21 ⟨a0a,Z_,a6U,a6V,a4k,F8⟩
theorem b6t:cO Go.Proofs.Tryz.prog gl 22 s22:=XU Go.Proofs.Tryz.lays170
theorem b6u:cO Go.Proofs.Tryz.prog gl 23 s23:=RG Go.Proofs.Tryz.lays169 Go.Proofs.Tryz.Builder_Extra_169
def b7d:FG 9 s9:=dQ f9 q9 ⟨a6S,a4k,b6p,b6q,b6r,a6T,b6s,b6t,b6u,F8⟩
def b7S:FG 8 s8:=dQ f8 q8 ⟨b6o,b6m,b7d,F8⟩
def a4g:FG 150 a7R:=dQ f150 b1I
def a9o:FG 210 b5f:=dQ f210 b2A
def a8H:FG 151 b4y:=dQ f151 b1J ⟨a4g,a9o,F8⟩
def a8I:FG 152 b4z:=dQ f152 b1K
def Xp:FG 87 s87:=dQ f87 q87 ⟨a4g,a8H,a8I,F8⟩
def a4M:FG 88 s88:=dQ f88 q88
def b6H:FG 46 s46:=dQ f46 q46 ⟨Xp,a4M,F8⟩
def QX:FG 93 s93:=dQ f93 q93
def Zn:FG 156 a5T:=dQ f156 b1O
def a0b:FG 50 s50:=dQ f50 q50 ⟨QX,F8⟩
def a4s:FG 211 a7W:=dQ f211 b2B ⟨a0b,F8⟩
def a8J:FG 153 b4A:=dQ f153 b1L ⟨Zn,a4s,F8⟩
def a9p:FG 212 b5g:=dQ f212 b2C ⟨Zn,F8⟩
def a8K:FG 154 b4B:=dQ f154 b1M ⟨a9p,F8⟩
def b7c:FG 89 s89:=dQ f89 q89 ⟨QX,a8J,a8K,F8⟩
def b6I:FG 47 s47:=dQ f47 q47 ⟨Xp,a4M,b7c,F8⟩
def a8L:FG 155 b4C:=dQ f155 b1N
def b7e:FG 90 s90:=dQ f90 q90 ⟨Xp,a8L,QX,F8⟩
def a8M:FG 157 b4D:=dQ f157 b1P
def a9q:FG 213 b5h:=dQ f213 b2D
def a8N:FG 158 b4E:=dQ f158 b1Q ⟨a9q,F8⟩
def Zu:FG 220 a5Z:=dQ f220 b2K
def Zo:FG 167 a5U:=dQ f167 b1Z ⟨Zu,F8⟩
def a9R:FG 276 b5I:=dQ f276 b3m
def QU:FG 305 a1h:=dQ f305 b3I
def a9S:FG 277 b5J:=dQ f277 b3n ⟨QU,a0b,F8⟩
def a9T:FG 278 b5K:=dQ f278 b3o
def Zx:FG 307 a6c:=dQ f307 b3K
def a4G:FG 306 a8h:=dQ f306 b3J ⟨Zx,F8⟩
def a9U:FG 279 b5L:=dQ f279 b3p ⟨QU,QX,a4G,F8⟩
def a9V:FG 280 b5M:=dQ f280 b3q ⟨Zx,QU,QX,F8⟩
def b0k:FG 308 b6b:=dQ f308 b3L ⟨QU,F8⟩
def a9W:FG 281 b5N:=dQ f281 b3r ⟨Zx,b0k,a4G,QU,F8⟩
def a9H:FG 250 b5y:=dQ f250 b2Z ⟨a9R,a9S,a9T,a9U,a9V,a9W,F8⟩
def a9r:FG 214 b5i:=dQ f214 b2E ⟨Zo,Zu,a9H,F8⟩
def a8O:FG 159 b4F:=dQ f159 b1R ⟨a9r,F8⟩
def b7f:FG 91 s91:=dQ f91 q91 ⟨Xp,Zn,a8M,a8N,a8O,F8⟩
def a9s:FG 215 b5j:=dQ f215 b2F
def a9I:FG 251 b5z:=dQ f251 b3a
def a9t:FG 216 b5k:=dQ f216 b2G ⟨a9I,F8⟩
def a4h:FG 161 a7S:=dQ f161 b1T
def a8P:FG 160 b4G:=dQ f160 b1S ⟨a9s,a9t,a4h,F8⟩
def b7g:FG 92 s92:=dQ f92 q92 ⟨a8P,a4h,F8⟩
def b6J:FG 48 s48:=dQ f48 q48 ⟨Xp,a4M,b7e,b7f,b7g,F8⟩
def b6v:FG 24 s24:=dQ f24 q24 ⟨b6H,b6I,b6J,F8⟩
def a4y:FG 25 s25:=dQ f25 q25
def b6K:FG 49 s49:=dQ f49 q49
def b6w:FG 26 s26:=dQ f26 q26 ⟨b6K,F8⟩
def a4i:FG 162 a7T:=dQ f162 b1U
def a8Q:FG 163 b4H:=dQ f163 b1V ⟨a4i,QX,a4s,F8⟩
theorem b0s:∀n,cO P gl 99 ⟨a5E,[(false,(.dat .str))],[],λx=>(mW n) x⟩:=by
 intro n;induction n with
 |zero=>exact λw ok O vals x r _ _ _ _ _ _ h=>by cases h
 |succ n ih=>exact dS f99 a5E b4e (e99 (mW n)) b7n (by kernel_rfl) rfl trivial ⟨ih,trivial⟩ trivial λx=>by kernel_rfl
theorem b7k:cO P gl 99 s99:=(b0s jq)
def a0d:FG 55 s55:=dQ f55 q55 ⟨b7k,F8⟩
def a9u:FG 217 b5l:=dQ f217 b2H
def a9v:FG 218 b5m:=dQ f218 b2I
def a8R:FG 164 b4I:=dQ f164 b1W ⟨a9u,a0d,a9v,F8⟩
def a7d:FG 95 s95:=dQ f95 q95
def a4t:FG 219 a7X:=dQ f219 b2J
def a8S:FG 165 b4J:=dQ f165 b1X ⟨a4t,F8⟩
def a8T:FG 166 b4K:=dQ f166 b1Y ⟨a4t,F8⟩
def b7h:FG 96 s96:=dQ f96 q96 ⟨a7d,a8S,a8T,F8⟩
def b7i:FG 97 s97:=dQ f97 q97 ⟨a0d,F8⟩
def a0c:FG 52 s52:=dQ f52 q52 ⟨a7d,b7h,b7i,F8⟩
def a7c:FG 94 s94:=dQ f94 q94 ⟨a4i,QX,a8Q,a0d,a8R,a0c,F8⟩
def b6L:FG 51 s51:=dQ f51 q51 ⟨a7c,F8⟩
def a6W:FG 53 s53:=dQ f53 q53 ⟨a0c,F8⟩
def b6x:FG 27 s27:=dQ f27 q27 ⟨a0b,b6L,a0c,a6W,a4y,F8⟩
def b7j:FG 98 s98:=dQ f98 q98
def b6M:FG 54 s54:=dQ f54 q54 ⟨b7j,F8⟩
def a8o:FG 100 b4f:=dQ f100 b1a ⟨Zo,F8⟩
def a4j:FG 168 a7U:=dQ f168 b2a
def Zp:FG 169 a5V:=dQ f169 b2b
def a8p:FG 101 b4g:=dQ f101 b1b ⟨a4j,a0b,Zp,F8⟩
def a8U:FG 170 b4L:=dQ f170 b2c ⟨Zo,Zu,F8⟩
def a8V:FG 171 b4M:=dQ f171 b2d
def a8W:FG 173 b4N:=dQ f173 b2e
def a9J:FG 252 b5A:=dQ f252 b3b
def a9w:FG 221 b5n:=dQ f221 b2L ⟨a9J,F8⟩
theorem a6i:∀n,cO P gl 102 ⟨WT,[(false,(.dat .str)),(false,(.dat (.int .i64)))],[(true,(.dat (.prod (.sl (.prod (.int .i64) (.int .i64))) (.prod (.sl (.prod .str (.sl .str))) (.prod (.sl .str) (.prod (.sl .str) (.prod (.sl .str) (.sl .str))))))))],λx=>(J5 n).1 x.1 x.2⟩/\cO P gl 172 ⟨I_,[(false,(.dat .str))],[(true,(.dat (.prod (.sl (.prod (.int .i64) (.int .i64))) (.prod (.sl (.prod .str (.sl .str))) (.prod (.sl .str) (.prod (.sl .str) (.prod (.sl .str) (.sl .str))))))))],λx=>(J5 n).2.1 x.1 x.2.1 x.2.2⟩/\cO P gl 174 ⟨a2L,[(false,(.dat .str))],[(true,(.dat (.prod (.sl (.prod (.int .i64) (.int .i64))) (.prod (.sl (.prod .str (.sl .str))) (.prod (.sl .str) (.prod (.sl .str) (.prod (.sl .str) (.sl .str))))))))],λx=>(J5 n).2.2 x.1 x.2.1 x.2.2⟩:=by
 intro n;induction n with
 |zero=>exact⟨(λw ok O vals x r _ _ _ _ _ _ h=>by cases h),(λw ok O vals x r _ _ _ _ _ _ h=>by cases h),(λw ok O vals x r _ _ _ _ _ _ h=>by cases h)⟩
 |succ n ih=>exact⟨dS f102 WT a6M (b7p (J5 n).1 (J5 n).2.1 (J5 n).2.2) b0z (by kernel_rfl) rfl trivial ⟨a8U,a4j,a7c,a8V,ih.2.1,Zp,ih.1,a8W,ih.2.2,trivial⟩ trivial λx=>by kernel_rfl,
  dS f172 I_ b3Y (b7q (J5 n).1 (J5 n).2.1 (J5 n).2.2) b0A (by kernel_rfl) rfl trivial ⟨ih.1,trivial⟩ trivial λx=>by kernel_rfl,
  dS f174 a2L b3Z (b7r (J5 n).1 (J5 n).2.1 (J5 n).2.2) b0B (by kernel_rfl) rfl trivial ⟨Zp,ih.2.1,a9w,trivial⟩ trivial λx=>by kernel_rfl⟩
theorem a8q:cO P gl 102 b4h:=(a6i jq).1
def b6N:FG 56 s56:=dQ f56 q56 ⟨a8o,a8p,a8q,F8⟩
def b6y:FG 28 s28:=dQ f28 q28 ⟨b6M,a0d,a0c,a6W,b6N,a4y,F8⟩
def b6l:FG 10 s10:=dQ f10 q10 ⟨b6v,a4y,b6w,b6x,b6y,F8⟩
def b7Q:FG 3 s3:=dQ f3 q3 ⟨b7R,b7S,b7d,b6l,F8⟩
end Gt
