import Derived.Test.YtnpgekhfiogoeaaGreatDoorU3
import Derived.Test.YtnpgekhfiogoeaaGreatDoorProg
import Derived.Test.YtnpgekhfiogoeaaGreatDoorShelf
import Derived.Deep.QuietTactic
import Derived.BigQuiet
set_option linter.all false
open Go Go.GP Go.Shelf Go.RowKit Go.Proofs Go.Proofs.Tryz
namespace Gt
set_option maxRecDepth 100000
noncomputable abbrev P:Program:=Go.Proofs.Tryz.prog
theorem b3l:a0Y P tt=true:=by kernel_rfl
theorem a6T:∀t sh,dG eqs t=some sh->Kt P t sh:=w_ (by kernel_rfl)
theorem dS{f:FuncId}(fn:Func)(ps:List MG)(rt:Ret)(E:Env)(an:Ann){F:aT ps->Option rt.den}(h:(P.funcs[f]?,fn.body,fn.ntmps,fn.results.toList,Nat.ble (64*E.nt) 999936,Xx P E.fs)=(some fn,some (Ue fn),E.nt,rt.rs.map (·.1),true,true))(ht:(E.tt,E.eqs)=(tt,eqs))(hm:ZY P E.ms)(hs:a6k P E.gl E.fs)(hp:ZZ P E.pl)(hF:∀x,a5b E ps rt (Ue fn) an x=F x):
  iw P E.gl f ⟨ps,rt.rs.map (·.2),rt.outs.map (·.2),F⟩:=by
 injection h with h1 h;injection h with h2 h;injection h with h3 h;injection h with h4 h;injection h with h5 h6;injection ht with t1 t2;exact MP h1 h2 h3 h4 (v_ h5 (t1▸b3l) (t2▸a6T) h6 hm hs hp) λx r h=>(hF x).trans h
theorem o_{h:Array Obj}{blk off:Nat}{v:Value}(e:dH h blk off 1=some [v]):∃c T m,h[blk]? =some (.cells c T m)/\c[off]? =some v:=by
 unfold dH at e;split at e
 .rename_i c T m hc;split at e
  .rename_i hle;refine⟨c,T,m,hc,?_⟩;simp only[F9]at e;have h1:c.toList[off]? =some v:=by
    have:(c.toList.drop off)[0]? =some v:=by have:=congrArg (λl=>l[0]?) e;simpa[V7]using this
    simpa[U7]using this
   simpa using h1
  .cases e
 .cases e
theorem b7g(w:World)(x y:Value)(hp:ML w.heap x 2 5 0 y):Calls Go.Proofs.Tryz.prog 63 #[x] w λe w' =>e= .returned y/\∃n,w' =w.drewN n:=by
 obtain⟨blk,o,b,bo,n,c,rfl,e,h0,h1,rfl⟩:=hp;have hc:w.cell? ⟨blk,o+2,none⟩=some (.slice (some ⟨b,bo,none⟩) n c):=by obtain⟨cs,T,m,e1,e2⟩:=o_ e;simp[World.cell?,e1,e2]
 clear e;obtain⟨j,hj⟩:∃j:Nat,IntKind.i64.wrap ((n:Int) -1)=(j:Int):=⟨_,(gX h0).symm⟩;have e2:N8 .i64 (n:Int) 1=(j:Int):=hj;rw[e2]at h1;rw[e2,I7,aU];have hjn:j<n:=Int.ofNat_lt.1 h1;clear h0 h1 e2;have t49:=Go.Proofs.Tryz.underlying49;have a49:=Go.Proofs.Tryz.isAgg49;have z49:=Go.Proofs.Tryz.sizeOf49;have t84:=Go.Proofs.Tryz.underlying84;have a84:=Go.Proofs.Tryz.isAgg84;have z84:=Go.Proofs.Tryz.sizeOf84;have v84:=Go.Proofs.Tryz.zeroValue84;have u84:=run_underlying Go.Proofs.Tryz.underlying84;have t86:=Go.Proofs.Tryz.underlying86;have a86:=Go.Proofs.Tryz.isAgg86;have z86:=Go.Proofs.Tryz.sizeOf86;have v86:=Go.Proofs.Tryz.zeroValue86;have u86:=run_underlying Go.Proofs.Tryz.underlying86;have t26:=Go.Proofs.Tryz.underlying26;have a26:=Go.Proofs.Tryz.isAgg26;have z26:=Go.Proofs.Tryz.sizeOf26;have v26:=Go.Proofs.Tryz.zeroValue26;have u26:=run_underlying Go.Proofs.Tryz.underlying26;have t24:=Go.Proofs.Tryz.underlying24;have a24:=Go.Proofs.Tryz.isAgg24;have z24:=Go.Proofs.Tryz.sizeOf24;have v24:=Go.Proofs.Tryz.zeroValue24;have u24:=run_underlying Go.Proofs.Tryz.underlying24;have t109:=Go.Proofs.Tryz.underlying109;have a109:=Go.Proofs.Tryz.isAgg109;have z109:=Go.Proofs.Tryz.sizeOf109;have v109:=Go.Proofs.Tryz.zeroValue109;have u109:=run_underlying Go.Proofs.Tryz.underlying109;have t3:=Go.Proofs.Tryz.underlying3;have a3:=Go.Proofs.Tryz.isAgg3;have z3:=Go.Proofs.Tryz.sizeOf3;have v3:=Go.Proofs.Tryz.zeroValue3;have u3:=run_underlying Go.Proofs.Tryz.underlying3
 go_enter Go.Proofs.Tryz.func63,(show Go.Proofs.Tryz.f63.ntmps=16 by kernel_rfl)
 go_wp2
 go_quiet (skip)
 go_wp2
 go_ret
 exact⟨rfl,nq,rfl⟩
theorem a7S:NY P 63 2 5:=⟨⟨_,Go.Proofs.Tryz.func63,by kernel_rfl,by kernel_rfl⟩,b7g⟩
theorem dQ{f:FuncId}(fn:Func)(q:FQ){F:aT q.ps->Option q.rt.den}(hs:a6k P q.E.gl q.E.fs:=by exact trivial)(h:(P.funcs[f]?,fn.body,fn.ntmps,fn.results.toList,Nat.ble (64*q.E.nt) 999936,Xx P q.E.fs)=(some fn,some (Ue fn),q.E.nt,q.rt.rs.map (·.1),true,true):=by kernel_rfl)(ht:(q.E.tt,q.E.eqs)=(tt,eqs):=by rfl)(hm:ZY P q.E.ms:=by exact trivial)(hp:ZZ P q.E.pl:=by exact trivial)(hF:∀x,a5b q.E q.ps q.rt (Ue fn) q.an x=F x:=by intro x;kernel_rfl):
  iw P q.E.gl f ⟨q.ps,q.rt.rs.map (·.2),q.rt.outs.map (·.2),F⟩:=dS fn q.ps q.rt q.E q.an h ht hm hs hp hF
abbrev FG(n:FuncId)(s:FSpec):=iw P gl n s
def ZE:FG 121 a8I:=dQ f121 b7I
def ZH:FG 189 a8O:=dQ f189 b8o
def a9n:FG 122 b4n:=dQ f122 b7J ⟨ZE,ZH,J7⟩
def b4V:FG 123 b9O:=dQ f123 b7K
def Wi:FG 71 s71:=dQ f71 q71 ⟨ZE,a9n,b4V,J7⟩
def a0G:FG 125 a2x:=dQ f125 a7Z
def a9y:FG 190 a8P:=dQ f190 a8e ⟨a0G,J7⟩
def a9o:FG 124 a8J:=dQ f124 a7Y ⟨a9y,J7⟩
def a9T:FG 72 s72:=dQ f72 q72 ⟨a0G,a9o,J7⟩
def a2O:FG 187 b1T:=dQ f187 b8m
def b4T:FG 116 b9M:=dQ f116 b7F ⟨a2O,J7⟩
def c1Z:FG 69 s69:=dQ f69 q69 ⟨Wi,a9T,b4T,J7⟩
def c1I:FG 34 s34:=dQ f34 q34 ⟨c1Z,J7⟩
def Wj:FG 76 s76:=dQ f76 q76
def a0M:FG 38 s38:=dQ f38 q38 ⟨Wj,J7⟩
def a9l:FG 117 b4m:=dQ f117 b7G
def b5E:FG 235 c0I:=dQ f235 b8J ⟨a9l,J7⟩
def b5p:FG 188 c0p:=dQ f188 b8n ⟨b5E,J7⟩
def b4U:FG 120 b9N:=dQ f120 b7H ⟨b5p,J7⟩
def a0F:FG 119 a2w:=dQ f119 a7X ⟨b4U,J7⟩
def a9m:FG 118 a8H:=dQ f118 a7W ⟨a0F,J7⟩
def c2b:FG 70 s70:=dQ f70 q70 ⟨Wj,a0M,a9l,a0F,a9m,J7⟩
def a0H:FG 127 a2y:=dQ f127 a8b
def a9A:FG 191 a8R:=dQ f191 a8g ⟨a0H,J7⟩
def a9p:FG 126 a8K:=dQ f126 a8a ⟨a9A,J7⟩
def b3g:FG 73 s73:=dQ f73 q73 ⟨a0H,a9p,J7⟩
def c1J:FG 35 s35:=dQ f35 q35 ⟨c2b,Wi,a9T,b3g,J7⟩
def a0I:FG 129 a2z:=dQ f129 a8d
def a9B:FG 192 a8S:=dQ f192 a8h ⟨a0I,J7⟩
def a9q:FG 128 a8L:=dQ f128 a8c ⟨a9B,J7⟩
def a0J:FG 193 a2B:=dQ f193 a8i
def a9G:FG 236 a8W:=dQ f236 a8m ⟨a0J,J7⟩
def a9C:FG 194 a8T:=dQ f194 a8j ⟨a9G,J7⟩
def b4W:FG 130 b9P:=dQ f130 b7L ⟨a0J,Wi,a9C,Wj,J7⟩
def b5q:FG 195 c0q:=dQ f195 b8p
def b4X:FG 131 b9Q:=dQ f131 b7M ⟨b5q,J7⟩
def a0K:FG 197 a2C:=dQ f197 a8l
def a9H:FG 237 a8X:=dQ f237 a8n ⟨a0K,J7⟩
def a9D:FG 196 a8U:=dQ f196 a8k ⟨a9H,J7⟩
theorem b5F:iw Go.Proofs.Tryz.prog gl 238 c0J:=SG Go.Proofs.Tryz.strings_Contains_one
def b5r:FG 198 c0r:=dQ f198 b8q ⟨b5F,J7⟩
def a9U:FG 85 s85:=dQ f85 q85
def a9v:FG 141 b4s:=dQ f141 b7U ⟨a9U,J7⟩
def b3k:FG 84 s84:=dQ f84 q84
def b5X:FG 293 c1c:=dQ f293 b9f ⟨a0M,J7⟩
def b5Y:FG 294 c1d:=dQ f294 b9g
def a9O:FG 295 b4D:=dQ f295 b9h ⟨Wj,J7⟩
def a9P:FG 298 b4E:=dQ f298 b9k
def b5Z:FG 296 c1e:=dQ f296 b9i ⟨a9P,Wj,J7⟩
def a9R:FG 319 b4H:=dQ f319 b9s
def b6a:FG 297 c1f:=dQ f297 b9j ⟨a9O,a9R,J7⟩
def b6h:FG 320 c1n:=dQ f320 b9t
def b6b:FG 299 c1g:=dQ f299 b9l ⟨a9R,b6h,J7⟩
def b5O:FG 266 c0S:=dQ f266 b8V ⟨b5X,b5Y,a9O,b5Z,b6a,a9P,b6b,J7⟩
def b5G:FG 239 c0K:=dQ f239 b8K ⟨a9v,b3k,a9U,b5O,J7⟩
def b5s:FG 199 c0s:=dQ f199 b8r ⟨b5G,J7⟩
def b4Y:FG 132 b9R:=dQ f132 b7N ⟨Wi,a0K,a9D,b5r,b5s,J7⟩
theorem a9L:iw Go.Proofs.Tryz.prog gl 268 b4A:=a2S Go.Proofs.Tryz.slices_Sort_int Go.Proofs.Tryz.slices_Sort_int_none
theorem a9M:iw Go.Proofs.Tryz.prog gl 269 b4B:=WO Go.Proofs.Tryz.slices_Compact_int Go.Proofs.Tryz.slices_Compact_int_empty
def b6c:FG 300 c1h:=dQ f300 b9m ⟨a9L,a9M,J7⟩
def b5P:FG 267 c0T:=dQ f267 b8W ⟨b6c,J7⟩
def b5H:FG 240 c0L:=dQ f240 b8L ⟨b5P,J7⟩
def b5I:FG 241 c0M:=dQ f241 b8M ⟨a9L,a9M,J7⟩
def b5v:FG 202 c0w:=dQ f202 b8u ⟨b5H,b5I,J7⟩
def b5u:FG 201 c0u:=dQ f201 b8t
def b5a:FG 134 b9T:=dQ f134 b7P ⟨b5v,b5u,J7⟩
def b5t:FG 200 c0t:=dQ f200 b8s
def b4Z:FG 133 b9S:=dQ f133 b7O ⟨b5t,J7⟩
def c2c:FG 74 s74:=dQ f74 q74 ⟨a9T,b3g,a0I,a9q,Wi,b4W,b4X,b4Y,b5a,b4Z,J7⟩
def c1K:FG 36 s36:=dQ f36 q36 ⟨c2c,J7⟩
def b3c:FG 15 s15:=dQ f15 q15 ⟨c1I,c1J,c1K,J7⟩
def c1t:FG 13 s13:=dQ f13 q13
def c2a:FG 7 s7:=dQ f7 q7 ⟨c1t,J7⟩
def c1u:FG 14 s14:=dQ f14 q14
def c1C:FG 29 s29:=dQ f29 q29
theorem a2K:iw Go.Proofs.Tryz.prog gl 103 b1P:=a4Z (g:=1) Go.Proofs.Tryz.strings_Cut (by kernel_rfl)
def Eg:FG 57 s57:=dQ f57 q57 ⟨a2K,J7⟩
def c1P:FG 58 s58:=dQ f58 q58 ⟨Eg,J7⟩
def a2L:FG 104 b1Q:=dQ f104 b7t ⟨Eg,J7⟩
def QV:FG 105 a2v:=dQ f105 b7u
def c1Q:FG 59 s59:=dQ f59 q59 ⟨Eg,a2L,QV,J7⟩
def b5y:FG 223 c0C:=dQ f223 b8z
def b5x:FG 205 c0y:=dQ f205 b8x
def a9t:FG 138 b4q:=dQ f138 b7T ⟨b5x,J7⟩
def b5w:FG 204 c0x:=dQ f204 b8w
def a9s:FG 137 b4p:=dQ f137 b7S ⟨b5w,J7⟩
def b5z:FG 224 c0D:=dQ f224 b8A ⟨a9t,a9s,J7⟩
def a2N:FG 176 b1S:=dQ f176 b8d ⟨b5y,b5z,J7⟩
def a9h:FG 106 b4j:=dQ f106 b7v ⟨Eg,a2N,J7⟩
theorem a9I:iw Go.Proofs.Tryz.prog gl 244 b4x:=SK Go.Proofs.Tryz.stringslite_HasPrefix
def b6e:FG 310 c1k:=dQ f310 b9o ⟨a9I,J7⟩
def b5R:FG 284 c0V:=dQ f284 b8Y ⟨b6e,J7⟩
def b5S:FG 285 c0W:=dQ f285 b8Z
def a9K:FG 258 b4z:=dQ f258 b8P ⟨b5R,b5S,J7⟩
def a2Q:FG 226 b1V:=dQ f226 b8C ⟨a9K,J7⟩
def a9E:FG 203 b4v:=dQ f203 b8v
def a9J:FG 256 b4y:=dQ f256 b8N ⟨a9E,a9K,J7⟩
def b6d:FG 309 c1j:=dQ f309 b9n
def b5Q:FG 283 c0U:=dQ f283 b8X ⟨b6d,J7⟩
def b5J:FG 257 c0N:=dQ f257 b8O ⟨b5Q,J7⟩
def b5A:FG 225 c0E:=dQ f225 b8B ⟨a2Q,a9J,b5J,a2N,J7⟩
def a9r:FG 135 b4o:=dQ f135 b7Q ⟨a0M,J7⟩
def b5g:FG 177 c0f:=dQ f177 b8e ⟨Wj,b5A,a9r,J7⟩
def b4M:FG 107 b9F:=dQ f107 b7w ⟨Eg,a0M,b5g,J7⟩
def c1R:FG 60 s60:=dQ f60 q60 ⟨a9h,b4M,QV,J7⟩
def c1S:FG 61 s61:=dQ f61 q61 ⟨Eg,QV,J7⟩
def c1T:FG 62 s62:=dQ f62 q62 ⟨Eg,QV,J7⟩ (hp:=⟨a7S,J7⟩)
def b2e:FG 64 b2Y:=dQ f64 b2V ⟨Eg,a2L,QV,J7⟩
def b2f:FG 64 b2Z:=dQ f64 b2W ⟨Eg,a2L,QV,J7⟩
def b5h:FG 178 c0g:=dQ f178 b8f ⟨Eg,J7⟩
def b5i:FG 179 c0h:=dQ f179 b8g ⟨Eg,J7⟩ (hp:=⟨a7S,J7⟩)
def b5j:FG 180 c0i:=dQ f180 b8h ⟨Eg,J7⟩ (hp:=⟨a7S,J7⟩)
def b5k:FG 181 c0j:=dQ f181 b8i ⟨Eg,a2Q,J7⟩
def b4N:FG 108 b9G:=dQ f108 b7x ⟨Eg,b5h,b5i,b5j,b5k,a9h,J7⟩
theorem c2g:iw Go.Proofs.Tryz.prog gl 81 s81:=p_ (E:=⟨8,eqs,tt,gl,[],[],[],[],[],[],[]⟩) (f:=81) (fn:=Go.Proofs.Tryz.f81) (c:=Ue Go.Proofs.Tryz.f81) (t:=.str) (by kernel_rfl) (by kernel_rfl) (by kernel_rfl) (by kernel_rfl)
  (v_ (by kernel_rfl) b3l a6T (by kernel_rfl) trivial trivial trivial) (λb=>by cases b<;>kernel_rfl) (λxs=>by kernel_rfl)
def c1N:FG 42 s42:=dQ f42 q42 ⟨c2g,J7⟩
def c1O:FG 43 s43:=dQ f43 q43
def b3d:FG 20 s20:=dQ f20 q20 ⟨c1N,c1O,J7⟩
def b5B:FG 227 c0F:=dQ f227 b8D
theorem b5n:iw Go.Proofs.Tryz.prog gl 185 c0n:=SL Go.Proofs.Tryz.stringslite_IndexByte
def a9k:FG 111 b4l:=dQ f111 b7A ⟨b5n,J7⟩
def b5K:FG 259 c0O:=dQ f259 b8Q ⟨a9n,J7⟩
def a2R:FG 287 b1W:=dQ f287 b9b ⟨ZH,J7⟩
def b5T:FG 286 c0X:=dQ f286 b9a ⟨a2R,J7⟩
def a2P:FG 207 b1U:=dQ f207 b8y ⟨a9I,J7⟩
def b5U:FG 288 c0Y:=dQ f288 b9c ⟨a2P,a2R,J7⟩
def b5V:FG 289 c0Z:=dQ f289 b9d ⟨a2N,a9J,a2Q,J7⟩
def b5L:FG 260 c0P:=dQ f260 b8R ⟨b5T,a2R,b5U,a2P,ZE,ZH,b5V,J7⟩
theorem b5W:iw Go.Proofs.Tryz.prog gl 290 c1b:=UV Go.Proofs.Tryz.strings_IndexAny_laid
def b5M:FG 261 c0Q:=dQ f261 b8S ⟨b5W,J7⟩
def b5C:FG 228 c0G:=dQ f228 b8E ⟨ZE,ZH,a9k,b5K,b5L,b5M,a2P,J7⟩
def b5l:FG 182 c0k:=dQ f182 b8j ⟨b5B,b5C,J7⟩
def NM:FG 262 a0D:=dQ f262 b8T
def ZI:FG 229 a8V:=dQ f229 b8F ⟨NM,J7⟩
def a9N:FG 291 b4C:=dQ f291 b9e
def QX:FG 232 a2D:=dQ f232 b8H
def QW:FG 184 a2A:=dQ f184 b8k
def a9F:FG 231 b4w:=dQ f231 b8G ⟨ZI,QW,J7⟩
def a9Q:FG 315 b4G:=dQ f315 b9p ⟨a9F,J7⟩
def ZG:FG 146 a8N:=dQ f146 b7Z
def b6f:FG 316 c1l:=dQ f316 b9q ⟨ZG,J7⟩
def a9S:FG 332 b4I:=dQ f332 b9u ⟨NM,Wi,QW,a2O,J7⟩
def a2M:FG 147 b1R:=dQ f147 b8a
def b6j:FG 341 c1p:=dQ f341 b9w ⟨a2M,J7⟩
def b6i:FG 333 c1o:=dQ f333 b9v ⟨NM,b6j,QW,J7⟩
def a0L:FG 334 a2E:=dQ f334 a8o
def a9z:FG 190 a8Q:=dQ f190 a8f ⟨a0L,J7⟩
def b6g:FG 318 c1m:=dQ f318 b9r ⟨NM,Wi,QW,a0L,a9z,a9S,QX,a2O,J7⟩
def a9w:FG 149 b4t:=dQ f149 b8c
def b5N:FG 264 c0R:=dQ f264 b8U ⟨a9w,J7⟩
theorem b2g:∀n,iw P gl 183 ⟨XN,[(false,(.dat .bool))],[(true,(.pair (.dat (.sl (.prod (.int .i64) (.prod .str (.prod (.int .i64) (.int .i64)))))) (.pair (.dat (.int .i64)) (.pair (.dat (.int .i64)) (.pair (.dat (.prod (.sl (.prod .str (.sl .str))) (.prod (.sl .str) (.prod (.sl .str) (.prod (.sl .str) (.sl .str)))))) (.pair (.own (.prod (.int .i64) (.int .i64))) (.pair (.dat (.int .i64)) (.dat (.int .i64)))))))))],λx=>(o8 n).1 x⟩/\iw P gl 230 ⟨a4g,[(false,(.dat .bool))],[(true,(.pair (.dat (.sl (.prod (.int .i64) (.prod .str (.prod (.int .i64) (.int .i64)))))) (.pair (.dat (.int .i64)) (.pair (.dat (.int .i64)) (.pair (.dat (.prod (.sl (.prod .str (.sl .str))) (.prod (.sl .str) (.prod (.sl .str) (.prod (.sl .str) (.sl .str)))))) (.pair (.own (.prod (.int .i64) (.int .i64))) (.pair (.dat (.int .i64)) (.dat (.int .i64)))))))))],λx=>(o8 n).2.1 x.1 x.2⟩/\iw P gl 263 ⟨a4h,[(false,(.dat .bool))],[(true,(.pair (.dat (.sl (.prod (.int .i64) (.prod .str (.prod (.int .i64) (.int .i64)))))) (.pair (.dat (.int .i64)) (.pair (.dat (.int .i64)) (.pair (.dat (.prod (.sl (.prod .str (.sl .str))) (.prod (.sl .str) (.prod (.sl .str) (.prod (.sl .str) (.sl .str)))))) (.pair (.own (.prod (.int .i64) (.int .i64))) (.pair (.dat (.int .i64)) (.dat (.int .i64)))))))))],λx=>(o8 n).2.2.1 x⟩/\iw P gl 292 ⟨a7T,[(false,(.dat .bool))],[(true,(.pair (.dat (.sl (.prod (.int .i64) (.prod .str (.prod (.int .i64) (.int .i64)))))) (.pair (.dat (.int .i64)) (.pair (.dat (.int .i64)) (.pair (.dat (.prod (.sl (.prod .str (.sl .str))) (.prod (.sl .str) (.prod (.sl .str) (.prod (.sl .str) (.sl .str)))))) (.pair (.own (.prod (.int .i64) (.int .i64))) (.pair (.dat (.int .i64)) (.dat (.int .i64)))))))))],λx=>(o8 n).2.2.2.1 x⟩/\iw P gl 317 ⟨a7U,[(false,(.dat .bool))],[(true,(.pair (.dat (.sl (.prod (.int .i64) (.prod .str (.prod (.int .i64) (.int .i64)))))) (.pair (.dat (.int .i64)) (.pair (.dat (.int .i64)) (.pair (.dat (.prod (.sl (.prod .str (.sl .str))) (.prod (.sl .str) (.prod (.sl .str) (.prod (.sl .str) (.sl .str)))))) (.pair (.own (.prod (.int .i64) (.int .i64))) (.pair (.dat (.int .i64)) (.dat (.int .i64)))))))))],λx=>(o8 n).2.2.2.2 x.1 x.2⟩:=by
 intro n;induction n with
 |zero=>exact⟨(λw ok O vals x r _ _ _ _ _ _ h=>by cases h),(λw ok O vals x r _ _ _ _ _ _ h=>by cases h),(λw ok O vals x r _ _ _ _ _ _ h=>by cases h),(λw ok O vals x r _ _ _ _ _ _ h=>by cases h),(λw ok O vals x r _ _ _ _ _ _ h=>by cases h)⟩
 |succ n ih=>exact⟨dS f183 XN b2X (c2y (o8 n).1 (o8 n).2.1 (o8 n).2.2.1 (o8 n).2.2.2.1 (o8 n).2.2.2.2) b6D (by kernel_rfl) rfl trivial ⟨ZI,ih.2.1,ih.1,a9F,QX,trivial⟩ trivial λx=>by kernel_rfl,
  dS f230 a4g b9B (c2z (o8 n).1 (o8 n).2.1 (o8 n).2.2.1 (o8 n).2.2.2.1 (o8 n).2.2.2.2) b6E (by kernel_rfl) rfl trivial ⟨ih.2.2.1,NM,b5N,ih.2.1,QX,trivial⟩ trivial λx=>by kernel_rfl,
  dS f263 a4h b9C (c2A (o8 n).1 (o8 n).2.1 (o8 n).2.2.1 (o8 n).2.2.2.1 (o8 n).2.2.2.2) b6F (by kernel_rfl) rfl trivial ⟨ZI,NM,a9N,QX,ih.2.2.1,ih.2.2.2.1,trivial⟩ trivial λx=>by kernel_rfl,
  dS f292 a7T b9D (c2B (o8 n).1 (o8 n).2.1 (o8 n).2.2.1 (o8 n).2.2.2.1 (o8 n).2.2.2.2) b6G (by kernel_rfl) rfl trivial ⟨NM,a9N,QX,ZI,ih.1,a9Q,QW,b6f,ih.2.2.2.2,b6g,trivial⟩ trivial λx=>by kernel_rfl,
  dS f317 a7U b9E (c2C (o8 n).1 (o8 n).2.1 (o8 n).2.2.1 (o8 n).2.2.2.1 (o8 n).2.2.2.2) b6H (by kernel_rfl) rfl trivial ⟨QX,a9S,a9Q,ih.1,b6i,trivial⟩ trivial λx=>by kernel_rfl⟩
theorem b5m:iw P gl 183 c0l:=(b2g aG).1
def b3j:FG 83 s83:=dQ f83 q83 ⟨a9v,J7⟩
theorem c2h:iw Go.Proofs.Tryz.prog gl 82 s82:=a1Q (g:=2) Go.Proofs.Tryz.strconv_Itoa (by kernel_rfl) (by kernel_rfl)
def a4A:FG 44 s44:=dQ f44 q44 ⟨c2h,J7⟩
theorem a9u:iw Go.Proofs.Tryz.prog gl 139 b4r:=Zu Go.Proofs.Tryz.strings_Repeat
def b5b:FG 136 b9U:=dQ f136 b7R ⟨a9E,a4A,a9u,J7⟩
def b3i:FG 78 s78:=dQ f78 q78
def c2d:FG 79 s79:=dQ f79 q79 ⟨b3i,a9s,a9t,J7⟩
def c2f:FG 80 s80:=dQ f80 q80 ⟨a4A,a9u,J7⟩
def a4z:FG 40 s40:=dQ f40 q40 ⟨b3i,c2d,c2f,J7⟩
def b3h:FG 77 s77:=dQ f77 q77 ⟨Wj,a9r,a4A,b5b,a4z,J7⟩
def ZF:FG 145 a8M:=dQ f145 b7Y
def b5c:FG 142 b9V:=dQ f142 b7V ⟨b3h,ZF,J7⟩
def b5d:FG 143 b9W:=dQ f143 b7W ⟨ZG,ZF,J7⟩
def b5e:FG 144 b9X:=dQ f144 b7X ⟨ZG,a2M,ZF,J7⟩
def b5f:FG 148 b9Y:=dQ f148 b8b
def c2i:FG 86 s86:=dQ f86 q86 ⟨b5c,b5d,b5e,ZF,ZG,a2M,b5f,a9w,J7⟩
def b3f:FG 45 s45:=dQ f45 q45 ⟨b3j,b3k,a9U,c2i,J7⟩
def a9j:FG 110 b4k:=dQ f110 b7z ⟨b5l,b5m,QW,b3j,b3f,J7⟩
def b4O:FG 109 b9H:=dQ f109 b7y ⟨a2K,a9j,J7⟩
def c1V:FG 65 s65:=dQ f65 q65 ⟨b4N,b3d,b4O,a2K,a9j,a9k,J7⟩ (hp:=⟨a7S,J7⟩)
def c1E:FG 30 s30:=dQ f30 q30 ⟨Eg,c1P,c1Q,c1R,c1S,c1T,b2e,b2f,c1V,J7⟩ (hp:=⟨a7S,J7⟩)
def a9i:FG 11 s11:=dQ f11 q11 ⟨c1C,c1E,b3c,J7⟩
def a9x:FG 17 s17:=dQ f17 q17
theorem b3F(b:Nat)(w:World)(h0:w.cell? ⟨b,0,none⟩=some (.pointer (some ⟨b,0,none⟩))):Calls Go.Proofs.Tryz.prog 37 #[.pointer (some ⟨b,0,none⟩)] w λe w' =>e= .returned (.tuple #[])/\w' =w:=by
 obtain⟨j,hj,_⟩:=gZ.1 (show Option.map (λx=>x.size) (Go.Proofs.Tryz.prog.info? 56)=some 2 by kernel_rfl);have t56:=Go.Proofs.Tryz.underlying56;have a56:=Go.Proofs.Tryz.isAgg56;have z56:=Go.Proofs.Tryz.sizeOf56;have v56:=Go.Proofs.Tryz.zeroValue56;have u56:=run_underlying Go.Proofs.Tryz.underlying56;have t53:=Go.Proofs.Tryz.underlying53;have a53:=Go.Proofs.Tryz.isAgg53;have z53:=Go.Proofs.Tryz.sizeOf53;have v53:=Go.Proofs.Tryz.zeroValue53;have u53:=run_underlying Go.Proofs.Tryz.underlying53;have t4:=Go.Proofs.Tryz.underlying4;have a4:=Go.Proofs.Tryz.isAgg4;have z4:=Go.Proofs.Tryz.sizeOf4;have v4:=Go.Proofs.Tryz.zeroValue4;have u4:=run_underlying Go.Proofs.Tryz.underlying4;have t123:=Go.Proofs.Tryz.underlying123;have a123:=Go.Proofs.Tryz.isAgg123;have z123:=Go.Proofs.Tryz.sizeOf123;have v123:=Go.Proofs.Tryz.zeroValue123;have u123:=run_underlying Go.Proofs.Tryz.underlying123
 go_enter Go.Proofs.Tryz.func37,(show Go.Proofs.Tryz.f37.ntmps=20 by kernel_rfl)
 go_wp2
 rw[Lib.run_neq_ptr_same w _ Go.Proofs.Tryz.underlying53 hj]
 go_wp2
 go_end0
 exact⟨rfl,rfl⟩
theorem b0A(b:Nat)(w:World)(h0:w.cell? ⟨b,0,none⟩=some (.pointer none))(hsh:w.shape? b=some (56,2))(hfz:w.frozen? ⟨b,0,none⟩=false):Calls Go.Proofs.Tryz.prog 37 #[.pointer (some ⟨b,0,none⟩)] w λe w' =>e= .returned (.tuple #[])/\w' =w.setCell ⟨b,0,none⟩ (.pointer (some ⟨b,0,none⟩)):=by
 obtain⟨j,hj,hjs⟩:=gZ.1 (show Option.map (λx=>x.size) (Go.Proofs.Tryz.prog.info? 56)=some 2 by kernel_rfl);have t56:=Go.Proofs.Tryz.underlying56;have a56:=Go.Proofs.Tryz.isAgg56;have z56:=Go.Proofs.Tryz.sizeOf56;have v56:=Go.Proofs.Tryz.zeroValue56;have u56:=run_underlying Go.Proofs.Tryz.underlying56;have t53:=Go.Proofs.Tryz.underlying53;have a53:=Go.Proofs.Tryz.isAgg53;have z53:=Go.Proofs.Tryz.sizeOf53;have v53:=Go.Proofs.Tryz.zeroValue53;have u53:=run_underlying Go.Proofs.Tryz.underlying53;have t4:=Go.Proofs.Tryz.underlying4;have a4:=Go.Proofs.Tryz.isAgg4;have z4:=Go.Proofs.Tryz.sizeOf4;have v4:=Go.Proofs.Tryz.zeroValue4;have u4:=run_underlying Go.Proofs.Tryz.underlying4;have t123:=Go.Proofs.Tryz.underlying123;have a123:=Go.Proofs.Tryz.isAgg123;have z123:=Go.Proofs.Tryz.sizeOf123;have v123:=Go.Proofs.Tryz.zeroValue123;have u123:=run_underlying Go.Proofs.Tryz.underlying123
 go_enter Go.Proofs.Tryz.func37,(show Go.Proofs.Tryz.f37.ntmps=20 by kernel_rfl)
 go_wp2
 rw[Lib.run_to_unsafe w ⟨b,0,none⟩ Go.Proofs.Tryz.underlying53 Go.Proofs.Tryz.underlying123 hj (by rw[hjs];decide) hsh (Nat.zero_lt_succ 1)];simp only[Result.andThen];rw[oP]
 go_wp2
 rw[run_callFunc_extern Go.Proofs.Tryz.func75 (by kernel_rfl) (by kernel_rfl) (by kernel_rfl) (e:=Extern.AbiNoEscape.same) (by kernel_rfl)];rw[Lib.run_noEscape];simp only[Result.andThen];rw[oP]
 go_wp2
 rw[Lib.run_from_unsafe w ⟨b,0,none⟩ Go.Proofs.Tryz.underlying123 Go.Proofs.Tryz.underlying53 hj hsh (by kernel_rfl)];simp only[Result.andThen];rw[oP]
 go_wp2
 go_end0
 exact⟨rfl,rfl⟩
def b9y:Go.Shelf.Ren:=⟨λ|166=>16|240=>37|276=>75|n=>n,λ|72=>56|70=>53|37=>54|164=>123|75=>58|n=>n,λn=>n⟩
theorem c2F:Lw Go.Proofs.Tryz.prog b9y where
 mixed:=by kernel_rfl
 f166:=Go.Proofs.Tryz.func16.trans (congrArg some (by kernel_rfl))
 t72:=Go.Proofs.Tryz.underlying56
 a72:=Go.Proofs.Tryz.isAgg56
 z72:=Go.Proofs.Tryz.sizeOf56
 v72:=Go.Proofs.Tryz.zeroValue56
 t70:=Go.Proofs.Tryz.underlying53
 a70:=Go.Proofs.Tryz.isAgg53
 z70:=Go.Proofs.Tryz.sizeOf53
 v70:=Go.Proofs.Tryz.zeroValue53
 t37:=Go.Proofs.Tryz.underlying54
 a37:=Go.Proofs.Tryz.isAgg54
 z37:=Go.Proofs.Tryz.sizeOf54
 v37:=Go.Proofs.Tryz.zeroValue54
 t3:=Go.Proofs.Tryz.underlying3
 a3:=Go.Proofs.Tryz.isAgg3
 z3:=Go.Proofs.Tryz.sizeOf3
 v3:=Go.Proofs.Tryz.zeroValue3
 t9:=Go.Proofs.Tryz.underlying9
 a9:=Go.Proofs.Tryz.isAgg9
 z9:=Go.Proofs.Tryz.sizeOf9
 v9:=Go.Proofs.Tryz.zeroValue9
 t4:=Go.Proofs.Tryz.underlying4
 a4:=Go.Proofs.Tryz.isAgg4
 z4:=Go.Proofs.Tryz.sizeOf4
 v4:=Go.Proofs.Tryz.zeroValue4
 t164:=Go.Proofs.Tryz.underlying123
 a164:=Go.Proofs.Tryz.isAgg123
 z164:=Go.Proofs.Tryz.sizeOf123
 v164:=Go.Proofs.Tryz.zeroValue123
 e240:=enters_of Go.Proofs.Tryz.func37 (by kernel_rfl) rfl
 used:=b3F
 fresh:=b0A
theorem c4E:Go.Proofs.Builder.Extra Go.Proofs.Tryz.prog b9y where
 sizeBuilder:=by kernel_rfl
 liesBuilder:=by kernel_rfl
 t5:=Go.Proofs.Tryz.underlying5
 a5:=Go.Proofs.Tryz.isAgg5
 z5:=Go.Proofs.Tryz.sizeOf5
 v5:=Go.Proofs.Tryz.zeroValue5
 infoByte:=by kernel_rfl
 cellsByte:=by kernel_rfl
 sizeByte:=by kernel_rfl
 neB5:=by decide
theorem c1w:iw Go.Proofs.Tryz.prog gl 16 s16:=WJ c2F c4E
def c1x:FG 18 s18:=dQ f18 q18
def c1M:FG 39 s39:=dQ f39 q39 ⟨b3h,J7⟩
def b3e:FG 41 s41:=dQ f41 q41 ⟨a4z,J7⟩
def c1y:FG 19 s19:=dQ f19 q19 ⟨a0M,c1M,a4z,b3e,a9x,J7⟩
def c1z:FG 21 s21:=dQ f21 q21 ⟨a4A,a4z,b3e,b3f,a9x,J7⟩
theorem c1A:iw Go.Proofs.Tryz.prog gl 22 s22:=a1o Go.Proofs.Tryz.lays170
theorem c1B:iw Go.Proofs.Tryz.prog gl 23 s23:=WI Go.Proofs.Tryz.lays169 Go.Proofs.Tryz.Builder_Extra_169
def b6k:FG 9 s9:=dQ f9 q9 ⟨b3c,a9x,c1w,c1x,c1y,b3d,c1z,c1A,c1B,J7⟩
def c2e:FG 8 s8:=dQ f8 q8 ⟨c1u,a9i,b6k,J7⟩
def b4P:FG 112 b9I:=dQ f112 b7B
def c1W:FG 66 s66:=dQ f66 q66 ⟨b4P,J7⟩
def c1F:FG 31 s31:=dQ f31 q31 ⟨c1W,J7⟩
def b4Q:FG 113 b9J:=dQ f113 b7C
def c1X:FG 67 s67:=dQ f67 q67 ⟨b4Q,J7⟩
def c1G:FG 32 s32:=dQ f32 q32 ⟨c1X,J7⟩
def b4R:FG 114 b9K:=dQ f114 b7D
def b5D:FG 234 c0H:=dQ f234 b8I
def b5o:FG 186 c0o:=dQ f186 b8l ⟨b5D,J7⟩
def b4S:FG 115 b9L:=dQ f115 b7E ⟨b5o,J7⟩
def c1Y:FG 68 s68:=dQ f68 q68 ⟨b4R,b4S,J7⟩
def c1H:FG 33 s33:=dQ f33 q33 ⟨c1Y,J7⟩
def c1s:FG 12 s12:=dQ f12 q12 ⟨c1F,c1G,c1H,J7⟩
def c4w:FG 4 s4:=dQ f4 q4 ⟨c2a,c2e,b6k,a9i,c1s,J7⟩
def c4x:FG 6 s6:=dQ f6 q6 ⟨c2a,c2e,b6k,a9i,J7⟩
end Gt
