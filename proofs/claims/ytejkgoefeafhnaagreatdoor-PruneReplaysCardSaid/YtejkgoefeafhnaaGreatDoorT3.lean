import Derived.Test.YtejkgoefeafhnaaGreatDoorT2
import Derived.Test.YtejkgoefeafhnaaGreatDoorProg
import Derived.Test.YtejkgoefeafhnaaGreatDoorShelf
set_option linter.all false
open Go Go.GP Go.Proofs.Tryz
namespace Gt
set_option maxRecDepth 100000
noncomputable abbrev P:Program:=Go.Proofs.Tryz.prog
theorem a6E:a6D P tt=true:=by kernel_rfl
theorem Zv:∀t sh,gm eqs t=some sh->Qx P t sh:=a4I (by kernel_rfl)
theorem dS{f:FuncId}(fn:Func)(ps:List MG)(rt:Ret)(E:Env)(an:Ann){F:aW ps->Option rt.den}(h:(P.funcs[f]?,fn.body,fn.ntmps,fn.results.toList,Nat.ble (64*E.nt) 999936,a1J P E.fs)=(some fn,some (OX fn),E.nt,rt.rs.map (·.1),true,true))(ht:(E.tt,E.eqs)=(tt,eqs))(hm:a4g P E.ms)(hs:b2G P E.gl E.fs)(hF:∀x,b0W E ps rt (OX fn) an x=F x):
  jd P E.gl f ⟨ps,rt.rs.map (·.2),rt.outs.map (·.2),F⟩:=by
 injection h with h1 h;injection h with h2 h;injection h with h3 h;injection h with h4 h;injection h with h5 h6;injection ht with t1 t2;exact SK h1 h2 h3 h4 (Pm h5 (t1▸a6E) (t2▸Zv) h6 hm hs) λx r h=>(hF x).trans h
theorem dQ{f:FuncId}(fn:Func)(q:FQ){F:aW q.ps->Option q.rt.den}(hs:b2G P q.E.gl q.E.fs:=by exact trivial)(h:(P.funcs[f]?,fn.body,fn.ntmps,fn.results.toList,Nat.ble (64*q.E.nt) 999936,a1J P q.E.fs)=(some fn,some (OX fn),q.E.nt,q.rt.rs.map (·.1),true,true):=by kernel_rfl)(ht:(q.E.tt,q.E.eqs)=(tt,eqs):=by rfl)(hm:a4g P q.E.ms:=by exact trivial)(hF:∀x,b0W q.E q.ps q.rt (OX fn) q.an x=F x:=by intro x;kernel_rfl):
  jd P q.E.gl f ⟨q.ps,q.rt.rs.map (·.2),q.rt.outs.map (·.2),F⟩:=dS fn q.ps q.rt q.E q.an h ht hm hs hF
abbrev FG(n:FuncId)(s:FSpec):=jd P gl n s
def d4d:FG 11 s11:=dQ f11 q11
def d5K:FG 5 s5:=dQ f5 q5 ⟨d4d,F9⟩
def d5L:FG 6 s6:=dQ f6 q6
def d4s:FG 28 s28:=dQ f28 q28
def d4e:FG 13 s13:=dQ f13 q13 ⟨d4s,F9⟩
theorem d5b:jd Go.Proofs.Tryz.prog gl 87 s87:=JY (E:=⟨8,eqs,tt,gl,[],[],[],[],[],[]⟩) (f:=87) (fn:=Go.Proofs.Tryz.f87) (c:=OX Go.Proofs.Tryz.f87) (t:=.str) (by kernel_rfl) (by kernel_rfl) (by kernel_rfl) (by kernel_rfl)
  (Pm (by kernel_rfl) a6E Zv (by kernel_rfl) trivial trivial) (λb=>by cases b<;>kernel_rfl) (λxs=>by kernel_rfl)
def d4D:FG 45 s45:=dQ f45 q45 ⟨d5b,F9⟩
theorem d5c:jd Go.Proofs.Tryz.prog gl 88 s88:=JY (E:=⟨8,eqs,tt,gl,[],[],[],[],[],[]⟩) (f:=88) (fn:=Go.Proofs.Tryz.f88) (c:=OX Go.Proofs.Tryz.f88) (t:=(.prod (.prod (.int .i64) (.int .i64)) (.prod (.int .i64) (.prod (.int .i64) (.int .i64))))) (by kernel_rfl) (by kernel_rfl) (by kernel_rfl) (by kernel_rfl)
  (Pm (by kernel_rfl) a6E Zv (by kernel_rfl) trivial trivial) (λb=>by cases b<;>kernel_rfl) (λxs=>by kernel_rfl)
def d4E:FG 46 s46:=dQ f46 q46 ⟨d5c,F9⟩
theorem d4F:jd Go.Proofs.Tryz.prog gl 47 s47:=JY (E:=⟨8,eqs,tt,gl,[],[],[],[],[],[]⟩) (f:=47) (fn:=Go.Proofs.Tryz.f47) (c:=OX Go.Proofs.Tryz.f47) (t:=(.prod .str (.prod (.int .i64) (.int .i64)))) (by kernel_rfl) (by kernel_rfl) (by kernel_rfl) (by kernel_rfl)
  (Pm (by kernel_rfl) a6E Zv (by kernel_rfl) trivial trivial) (λb=>by cases b<;>kernel_rfl) (λxs=>by kernel_rfl)
theorem d4G:jd Go.Proofs.Tryz.prog gl 48 s48:=JY (E:=⟨8,eqs,tt,gl,[],[],[],[],[],[]⟩) (f:=48) (fn:=Go.Proofs.Tryz.f48) (c:=OX Go.Proofs.Tryz.f48) (t:=(.prod (.int .i64) (.int .i64))) (by kernel_rfl) (by kernel_rfl) (by kernel_rfl) (by kernel_rfl)
  (Pm (by kernel_rfl) a6E Zv (by kernel_rfl) trivial trivial) (λb=>by cases b<;>kernel_rfl) (λxs=>by kernel_rfl)
def d4q:FG 26 s26:=dQ f26 q26 ⟨d4D,d4E,d4F,d4G,F9⟩
def c0E:FG 49 s49:=dQ f49 q49
def c0C:FG 29 s29:=dQ f29 q29 ⟨c0E,F9⟩
def c0D:FG 30 s30:=dQ f30 q30
def d5d:FG 89 s89:=dQ f89 q89
def d4H:FG 50 s50:=dQ f50 q50 ⟨d5d,F9⟩
def d4r:FG 27 s27:=dQ f27 q27 ⟨c0C,c0D,c0E,d4H,F9⟩
def c0A:FG 12 s12:=dQ f12 q12 ⟨d4q,d4r,F9⟩
def b6N:FG 158 c1X:=dQ f158 c7q
def c3K:FG 198 d1X:=dQ f198 c7R
def c3o:FG 159 d1C:=dQ f159 c7r ⟨b6N,c3K,F9⟩
def c3p:FG 160 d1D:=dQ f160 c7s
def a0f:FG 117 b2m:=dQ f117 c6N ⟨b6N,c3o,c3p,F9⟩
def a6n:FG 162 a8f:=dQ f162 b4V
def b6X:FG 199 b6b:=dQ f199 b5e ⟨a6n,F9⟩
def b6O:FG 161 b5V:=dQ f161 b4U ⟨b6X,F9⟩
def a8t:FG 118 b9h:=dQ f118 c6O ⟨a6n,b6O,F9⟩
def c3I:FG 196 d1V:=dQ f196 c7P
def c3l:FG 152 d1A:=dQ f152 c7m ⟨c3I,F9⟩
def c2V:FG 115 d1j:=dQ f115 c6L ⟨a0f,a8t,c3l,F9⟩
def d4T:FG 75 s75:=dQ f75 q75 ⟨c2V,F9⟩
def a0g:FG 153 b2n:=dQ f153 c7n
def a8u:FG 121 b9i:=dQ f121 c6R ⟨a0g,F9⟩
def a8y:FG 154 b9m:=dQ f154 c7o
def c4m:FG 239 d2x:=dQ f239 c8w ⟨a8y,F9⟩
def c3J:FG 197 d1W:=dQ f197 c7Q ⟨c4m,F9⟩
def c3n:FG 157 d1B:=dQ f157 c7p ⟨c3J,F9⟩
def a6m:FG 156 a8e:=dQ f156 b4T ⟨c3n,F9⟩
def b6L:FG 155 b5T:=dQ f155 b4R ⟨a6m,F9⟩
def c2W:FG 116 d1k:=dQ f116 c6M ⟨a0g,a8u,a8y,a6m,b6L,F9⟩
def a6o:FG 164 a8g:=dQ f164 b4X
def b6Y:FG 200 b6c:=dQ f200 b5f ⟨a6o,F9⟩
def b6P:FG 163 b5W:=dQ f163 b4W ⟨b6Y,F9⟩
def b6C:FG 119 c1Q:=dQ f119 c6P ⟨a6o,b6P,F9⟩
def d4U:FG 76 s76:=dQ f76 q76 ⟨c2W,a0f,a8t,b6C,F9⟩
def a6p:FG 166 a8h:=dQ f166 b4Z
def b6Z:FG 201 b6d:=dQ f201 b5g ⟨a6p,F9⟩
def b6Q:FG 165 b5X:=dQ f165 b4Y ⟨b6Z,F9⟩
def a6r:FG 202 a8j:=dQ f202 b5h
def b7d:FG 240 b6h:=dQ f240 b5l ⟨a6r,F9⟩
def b7a:FG 203 b6e:=dQ f203 b5i ⟨b7d,F9⟩
def c3q:FG 167 d1E:=dQ f167 c7t ⟨a6r,a0f,b7a,a0g,F9⟩
def c3M:FG 204 d1Y:=dQ f204 c7S
def c3r:FG 168 d1F:=dQ f168 c7u ⟨c3M,F9⟩
def a6s:FG 206 a8k:=dQ f206 b5k
def b7e:FG 241 b6i:=dQ f241 b5m ⟨a6s,F9⟩
def b7b:FG 205 b6f:=dQ f205 b5j ⟨b7e,F9⟩
theorem c4n:jd Go.Proofs.Tryz.prog gl 242 d2y:=Yc Go.Proofs.Tryz.strings_Contains_one
def c3N:FG 207 d1Z:=dQ f207 c7T ⟨c4n,F9⟩
def a0i:FG 211 b2p:=dQ f211 c7X
def b6V:FG 179 c1Z:=dQ f179 c7B ⟨a0i,F9⟩
def b7f:FG 245 c2c:=dQ f245 c8A
def c5c:FG 301 d3k:=dQ f301 c9A ⟨a8u,F9⟩
def c5d:FG 302 d3l:=dQ f302 c9B
def b7o:FG 303 c2l:=dQ f303 c9C ⟨a0g,F9⟩
def b7p:FG 306 c2n:=dQ f306 c9F
def c5e:FG 304 d3m:=dQ f304 c9D ⟨b7p,a0g,F9⟩
def b7v:FG 346 c2s:=dQ f346 d0o
def c5f:FG 305 d3n:=dQ f305 c9E ⟨b7o,b7v,F9⟩
def c5E:FG 347 d3L:=dQ f347 d0p
def c5g:FG 307 d3o:=dQ f307 c9G ⟨b7v,c5E,F9⟩
def c4K:FG 273 d2U:=dQ f273 c8Z ⟨c5c,c5d,b7o,c5e,c5f,b7p,c5g,F9⟩
def c4o:FG 243 d2z:=dQ f243 c8x ⟨b6V,b7f,a0i,c4K,F9⟩
def c3O:FG 208 d2a:=dQ f208 c7U ⟨c4o,F9⟩
def c3s:FG 169 d1G:=dQ f169 c7v ⟨a0f,a6s,b7b,c3N,c3O,F9⟩
theorem b7r:jd Go.Proofs.Tryz.prog gl 32 s32:=a8R Go.Proofs.Tryz.slices_Sort_int Go.Proofs.Tryz.slices_Sort_int_none
theorem b7t:jd Go.Proofs.Tryz.prog gl 33 s33:=a0K Go.Proofs.Tryz.slices_Compact_int Go.Proofs.Tryz.slices_Compact_int_empty
def c2Z:FG 123 d1n:=dQ f123 c6T ⟨b7r,b7t,F9⟩
def c0M:FG 82 s82:=dQ f82 q82 ⟨c2Z,F9⟩
def c2Y:FG 122 d1m:=dQ f122 c6S ⟨c0M,F9⟩
def c0N:FG 83 s83:=dQ f83 q83 ⟨b7r,b7t,F9⟩
def b7K:FG 81 s81:=dQ f81 q81 ⟨c2Y,c0N,F9⟩
def c0L:FG 80 s80:=dQ f80 q80
def b7J:FG 41 s41:=dQ f41 q41 ⟨b7K,c0L,F9⟩
def c3P:FG 209 d2b:=dQ f209 c7V
def c3t:FG 170 d1H:=dQ f170 c7w ⟨c3P,F9⟩
def c2X:FG 120 d1l:=dQ f120 c6Q ⟨a8t,b6C,a6p,b6Q,a0f,c3q,c3r,c3s,b7J,c3t,F9⟩
def d4V:FG 77 s77:=dQ f77 q77 ⟨c2X,F9⟩
def d4y:FG 39 s39:=dQ f39 q39 ⟨d4T,d4U,d4V,F9⟩
def d4W:FG 78 s78:=dQ f78 q78 ⟨a8u,F9⟩
def d4X:FG 79 s79:=dQ f79 q79
def d4z:FG 40 s40:=dQ f40 q40 ⟨d4W,d4X,F9⟩
def d4m:FG 22 s22:=dQ f22 q22 ⟨d4y,d4z,F9⟩
def d4n:FG 23 s23:=dQ f23 q23
def d4A:FG 42 s42:=dQ f42 q42 ⟨b7K,c0L,c0M,c0N,F9⟩
def d4B:FG 43 s43:=dQ f43 q43 ⟨b7J,F9⟩
def d4o:FG 24 s24:=dQ f24 q24 ⟨b7J,d4A,d4B,F9⟩
def b7I:FG 393 b6p:=dQ f393 b5o
def a8v:FG 125 b9j:=dQ f125 c6U
def b7H:FG 391 c2F:=dQ f391 d0P
def a8P:FG 394 b9D:=dQ f394 d0R
theorem c6v:IW Go.Proofs.Tryz.prog 216 "Less" 391 (some 217):=Td (by kernel_rfl)
theorem c1x:IW Go.Proofs.Tryz.prog 216 "Swap" 394 (some 217):=Td (by kernel_rfl)
def b6R:FG 171 b5Y:=dQ f171 b5a ⟨b7H,a8P,F9⟩ (hm:=⟨c6v,c1x,trivial⟩)
theorem c6w:IW Go.Proofs.Tryz.prog 216 "Len" 125 (some 217):=Td (by kernel_rfl)
theorem d5z:IW Go.Proofs.Tryz.prog 216 "Push" 393 none:=λv w=>show(method _ 216 v "Push").run _ w= .ok (393,v) w by kernel_rfl
def b6D:FG 124 b5Q:=dQ f124 b4O ⟨b7I,a8v,b6R,F9⟩ (hm:=⟨c6w,d5z,trivial⟩)
def b6S:FG 172 b5Z:=dQ f172 b5b ⟨b7H,a8P,F9⟩ (hm:=⟨c6v,c1x,trivial⟩)
def c5P:FG 392 d3V:=dQ f392 d0Q
theorem d5A:IW Go.Proofs.Tryz.prog 216 "Pop" 392 none:=λv w=>show(method _ 216 v "Pop").run _ w= .ok (392,v) w by kernel_rfl
def b6E:FG 126 b5R:=dQ f126 b4P ⟨a8v,a8P,b6S,c5P,F9⟩ (hm:=⟨c6w,d5A,c1x,trivial⟩)
def d4Z:FG 84 s84:=dQ f84 q84 ⟨b7K,b6D,a8v,b6E,F9⟩
def a8z:FG 175 b9n:=dQ f175 c7x ⟨a8y,F9⟩
def a6q:FG 174 a8i:=dQ f174 b5d ⟨a8z,F9⟩
def b6T:FG 173 b6a:=dQ f173 b5c ⟨a6q,F9⟩
def c3a:FG 127 d1o:=dQ f127 c6V ⟨a6q,b6T,F9⟩
def c3c:FG 129 d1q:=dQ f129 c6X ⟨b6V,F9⟩
def c3w:FG 180 d1K:=dQ f180 c7C ⟨a0i,F9⟩
def WY:FG 218 a8l:=dQ f218 c8d
def c3R:FG 213 d2d:=dQ f213 c7Y ⟨a0i,b7f,F9⟩
def c3S:FG 214 d2e:=dQ f214 c7Z
def c3T:FG 215 d2f:=dQ f215 c8a ⟨WY,F9⟩
def b7g:FG 246 c2d:=dQ f246 c8B ⟨WY,F9⟩
def a8D:FG 274 b9r:=dQ f274 c9a
def c4q:FG 247 d2B:=dQ f247 c8C ⟨a8D,F9⟩
def c4r:FG 248 d2C:=dQ f248 c8D ⟨a8D,F9⟩
def b7h:FG 250 c2e:=dQ f250 c8F
def c4s:FG 249 d2D:=dQ f249 c8E ⟨b7h,a8D,F9⟩
def c3V:FG 216 d2g:=dQ f216 c8b ⟨WY,b7g,c4q,c4r,c4s,b7h,F9⟩
def c4t:FG 251 d2E:=dQ f251 c8G ⟨b7g,WY,F9⟩
def a6t:FG 275 a8n:=dQ f275 b5n ⟨a8z,F9⟩
def b6M:FG 155 b5U:=dQ f155 b4S ⟨a6t,F9⟩
def c4u:FG 252 d2F:=dQ f252 c8H ⟨a6t,b6M,F9⟩
theorem a3T:jd Go.Proofs.Tryz.prog gl 308 b6k:=a5s Go.Proofs.Tryz.bits_Mul64
def c2K:FG 104 d1a:=dQ f104 c6A
def c5F:FG 348 d3M:=dQ f348 d0q ⟨c2K,F9⟩
def a8G:FG 309 b9u:=dQ f309 c9H ⟨c5F,F9⟩
def c4M:FG 276 d2V:=dQ f276 c9c ⟨a3T,a8G,F9⟩
def a8L:FG 349 b9z:=dQ f349 d0r
def a8M:FG 350 b9A:=dQ f350 d0s
def b7w:FG 351 c2t:=dQ f351 d0t
def b7x:FG 352 c2u:=dQ f352 d0u
def b7y:FG 353 c2w:=dQ f353 d0v
def a3U:FG 310 b6l:=dQ f310 c9I ⟨a8L,a8M,b7w,b7x,b7y,F9⟩
def c4N:FG 277 d2W:=dQ f277 c9d ⟨a3U,F9⟩
def c4v:FG 253 d2G:=dQ f253 c8I ⟨a8z,c4M,c4N,F9⟩
def b7i:FG 278 c2f:=dQ f278 c9e
def a8H:FG 311 b9v:=dQ f311 c9J
def c5G:FG 354 d3N:=dQ f354 d0w
def b7q:FG 312 c2o:=dQ f312 c9K ⟨c5G,F9⟩
def c5H:FG 355 d3O:=dQ f355 d0x
def a8I:FG 313 b9w:=dQ f313 c9L ⟨c5H,F9⟩
def a8E:FG 279 b9s:=dQ f279 c9f ⟨a8H,b7q,a8I,F9⟩
def c4w:FG 254 d2H:=dQ f254 c8J ⟨b7i,a8E,F9⟩
def c5h:FG 314 d3p:=dQ f314 c9M ⟨a3T,F9⟩
def c5I:FG 356 d3P:=dQ f356 d0y ⟨a8L,a8M,b7w,a3T,a8G,b7x,b7y,F9⟩
def c5i:FG 315 d3q:=dQ f315 c9N ⟨c5I,F9⟩
def b7z:FG 357 c2x:=dQ f357 d0z
def b7A:FG 358 c2y:=dQ f358 d0A
def c5j:FG 316 d3r:=dQ f316 c9O ⟨b7z,b7A,a3U,F9⟩
def c5k:FG 317 d3s:=dQ f317 c9P ⟨a8L,a8M,a3U,F9⟩
def c5J:FG 359 d3Q:=dQ f359 d0B
def c5l:FG 318 d3t:=dQ f318 c9Q ⟨b7z,b7A,a3T,a8G,c5J,F9⟩
def c4O:FG 280 d2X:=dQ f280 c9g ⟨c5h,c5i,c5j,c5k,a3U,c5l,F9⟩
def c5m:FG 319 d3u:=dQ f319 c9R ⟨a8I,b7q,F9⟩
def b7j:FG 281 c2g:=dQ f281 c9h ⟨a8H,a8E,a8I,c5m,F9⟩
def c4P:FG 282 d2Y:=dQ f282 c9i ⟨a8H,a8E,b7j,F9⟩
def c4x:FG 255 d2I:=dQ f255 c8K ⟨c4O,b7i,b7j,c4P,F9⟩
def c3W:FG 217 d2h:=dQ f217 c8c ⟨c4t,c4u,c4v,c4w,c4x,F9⟩
def c3x:FG 182 d1L:=dQ f182 c7D ⟨c3R,a0i,c3S,c3T,c3V,c3W,WY,F9⟩
theorem b9O:∀n,jd P gl 212 ⟨b4L,[(true,(.dat (.prod (.int .i64) (.prod (.int .i64) (.int .i64))))),(false,(.dat (.int .i64)))],[],λx=>(D7 n).1 x.1 x.2⟩/\jd P gl 130 ⟨a2i,[(true,(.dat (.prod (.int .i64) (.prod (.int .i64) (.int .i64))))),(false,(.dat (.int .i64)))],[],λx=>(D7 n).2.1 x.1 x.2⟩/\jd P gl 181 ⟨b4K,[(true,(.dat (.prod (.int .i64) (.prod (.int .i64) (.int .i64))))),(false,(.dat (.int .i64)))],[],λx=>(D7 n).2.2 x.1 x.2.1 x.2.2⟩:=by
 intro n;induction n with
 |zero=>exact⟨(λw ok O vals x r _ _ _ _ _ h=>by cases h),(λw ok O vals x r _ _ _ _ _ h=>by cases h),(λw ok O vals x r _ _ _ _ _ h=>by cases h)⟩
 |succ n ih=>exact⟨dS f212 b4L d0U (d5u (D7 n).1 (D7 n).2.1 (D7 n).2.2) c6b (by kernel_rfl) rfl trivial ⟨ih.2.1,WY,trivial⟩ λx=>by kernel_rfl,
  dS f130 a2i c0s (d5r (D7 n).1 (D7 n).2.1 (D7 n).2.2) c5Y (by kernel_rfl) rfl trivial ⟨c3w,ih.2.2,ih.2.1,c3x,trivial⟩ λx=>by kernel_rfl,
  dS f181 b4K d0T (d5s (D7 n).1 (D7 n).2.1 (D7 n).2.2) c5Z (by kernel_rfl) rfl trivial ⟨ih.1,ih.2.1,trivial⟩ λx=>by kernel_rfl⟩
theorem c3d:jd P gl 130 d1r:=(b9O iL).2.1
def c0O:FG 86 s86:=dQ f86 q86 ⟨c3c,c3d,F9⟩
def c3u:FG 176 d1I:=dQ f176 c7y
def c4p:FG 244 d2A:=dQ f244 c8y
def c3Q:FG 210 d2c:=dQ f210 c7W ⟨c4p,F9⟩
def b6U:FG 178 c1Y:=dQ f178 c7A ⟨c3Q,F9⟩
def c3v:FG 177 d1J:=dQ f177 c7z ⟨b6U,F9⟩
def c3b:FG 128 d1p:=dQ f128 c6W ⟨c3u,c3v,b6U,F9⟩
def d5a:FG 85 s85:=dQ f85 q85 ⟨c3a,c0O,c3b,F9⟩
def d4C:FG 44 s44:=dQ f44 q44 ⟨d4Z,d5a,c0O,F9⟩
def d4p:FG 25 s25:=dQ f25 q25 ⟨d4C,F9⟩
def b6A:FG 10 s10:=dQ f10 q10 ⟨d4m,d4n,d4o,d4p,F9⟩
def c0F:FG 51 s51:=dQ f51 q51 ⟨b6A,F9⟩
def b0x:FG 91 b6r:=dQ f91 c0q
def b6F:FG 131 b5S:=dQ f131 b4Q ⟨b0x,F9⟩
def b9M:FG 90 c0x:=dQ f90 c0p ⟨b6F,F9⟩
def b9L:FG 52 c0w:=dQ f52 c0n ⟨b0x,b9M,F9⟩
def b0v:FG 53 b6q:=dQ f53 c0o
def c3X:FG 219 d2i:=dQ f219 c8e
def c3y:FG 183 d1M:=dQ f183 c7E ⟨c3X,F9⟩
def c3e:FG 132 d1s:=dQ f132 c6Y ⟨c3y,F9⟩
def d5e:FG 92 s92:=dQ f92 q92 ⟨c3e,F9⟩
def d4I:FG 54 s54:=dQ f54 q54 ⟨c0F,d5e,F9⟩
def d5f:FG 93 s93:=dQ f93 q93
theorem c5Q:∀n,jd P gl 31 ⟨b8P,[],[(true,(.pair (.own (.prod (.int .i64) (.prod (.int .i64) (.prod (.int .i64) (.prod (.int .i64) (.prod (.int .i64) (.prod (.int .i64) (.prod (.int .i64) (.int .i64))))))))) (.pair (.dat (.prod (.sl (.prod .str (.sl .str))) (.prod (.sl (.prod .str (.prod (.prod (.int .i64) (.int .i64)) (.prod (.prod (.int .i64) (.int .i64)) (.sl (.prod (.prod (.int .i64) (.int .i64)) (.prod (.int .i64) (.prod (.int .i64) (.int .i64))))))))) (.sl (.prod .str (.prod (.int .i64) (.prod (.sl (.prod .str (.prod (.int .i64) (.int .i64)))) (.prod (.sl (.prod .str (.prod (.int .i64) (.int .i64)))) (.sl (.prod .str (.prod (.int .i64) (.prod (.int .i64) (.prod (.int .i64) (.prod (.prod (.int .i64) (.int .i64)) (.prod (.sl (.prod (.int .i64) (.int .i64))) (.prod (.sl (.prod (.int .i64) (.int .i64))) .str)))))))))))))))) (.pair (.dat (.int .i64)) (.pair (.dat (.prod (.int .i64) (.prod (.sl (.prod (.int .i64) (.prod (.int .i64) (.int .i64)))) (.sl (.sl (.prod (.int .i64) (.prod (.int .i64) (.int .i64)))))))) (.pair (.own (.ent true true (.prod (.int .i64) (.int .i64)) (.prod (.prod (.int .i64) (.prod (.int .i64) (.int .i64))) (.int .i64)))) (.dat (.prod (.int .i64) (.prod (.int .i64) (.prod (.int .i64) (.int .i64)))))))))))],λx=>(P6 n).1 x.1 x.2.1 x.2.2⟩/\jd P gl 55 ⟨c1H,[],[(true,(.pair (.own (.prod (.int .i64) (.prod (.int .i64) (.prod (.int .i64) (.prod (.int .i64) (.prod (.int .i64) (.prod (.int .i64) (.prod (.int .i64) (.int .i64))))))))) (.pair (.dat (.prod (.sl (.prod .str (.sl .str))) (.prod (.sl (.prod .str (.prod (.prod (.int .i64) (.int .i64)) (.prod (.prod (.int .i64) (.int .i64)) (.sl (.prod (.prod (.int .i64) (.int .i64)) (.prod (.int .i64) (.prod (.int .i64) (.int .i64))))))))) (.sl (.prod .str (.prod (.int .i64) (.prod (.sl (.prod .str (.prod (.int .i64) (.int .i64)))) (.prod (.sl (.prod .str (.prod (.int .i64) (.int .i64)))) (.sl (.prod .str (.prod (.int .i64) (.prod (.int .i64) (.prod (.int .i64) (.prod (.prod (.int .i64) (.int .i64)) (.prod (.sl (.prod (.int .i64) (.int .i64))) (.prod (.sl (.prod (.int .i64) (.int .i64))) .str)))))))))))))))) (.pair (.dat (.int .i64)) (.pair (.dat (.prod (.int .i64) (.prod (.sl (.prod (.int .i64) (.prod (.int .i64) (.int .i64)))) (.sl (.sl (.prod (.int .i64) (.prod (.int .i64) (.int .i64)))))))) (.pair (.own (.ent true true (.prod (.int .i64) (.int .i64)) (.prod (.prod (.int .i64) (.prod (.int .i64) (.int .i64))) (.int .i64)))) (.dat (.prod (.int .i64) (.prod (.int .i64) (.prod (.int .i64) (.int .i64)))))))))))],λx=>(P6 n).2 x.1 x.2.1 x.2.2.1 x.2.2.2⟩:=by
 intro n;induction n with
 |zero=>exact⟨(λw ok O vals x r _ _ _ _ _ h=>by cases h),(λw ok O vals x r _ _ _ _ _ h=>by cases h)⟩
 |succ n ih=>exact⟨dS f31 b8P d0Y (e31 (P6 n).1 (P6 n).2) d5n (by kernel_rfl) rfl trivial ⟨c0F,b9L,b0v,d4I,ih.2,trivial⟩ λx=>by kernel_rfl,
  dS f55 c1H d5H (e55 (P6 n).1 (P6 n).2) d5p (by kernel_rfl) rfl trivial ⟨d5f,b0v,ih.1,trivial⟩ λx=>by kernel_rfl⟩
theorem d4t:jd P gl 31 s31:=(c5Q iL).1
def d4h:FG 16 s16:=dQ f16 q16 ⟨b6A,d4t,F9⟩
def d4i:FG 17 s17:=dQ f17 q17 ⟨b7r,b7t,F9⟩
def d4Y:FG 8 s8:=dQ f8 q8 ⟨d4h,d4i,c0A,b6A,F9⟩
def d4f:FG 14 s14:=dQ f14 q14
def d4g:FG 15 s15:=dQ f15 q15 ⟨c0C,c0D,F9⟩
def d5M:FG 7 s7:=dQ f7 q7 ⟨d4e,c0A,d4Y,d4f,d4g,F9⟩
def b7c:FG 220 c2b:=dQ f220 c8f
def c4y:FG 256 d2J:=dQ f256 c8L
def c3Y:FG 221 d2j:=dQ f221 c8g ⟨b7c,c4y,F9⟩
def c3Z:FG 222 d2k:=dQ f222 c8h
def a0h:FG 185 b2o:=dQ f185 c7F ⟨b7c,c3Y,c3Z,F9⟩
def a8A:FG 186 b9o:=dQ f186 c7G
def c3f:FG 139 d1t:=dQ f139 c6Z ⟨a0h,a8A,F9⟩
def a0j:FG 223 b2q:=dQ f223 c8i
def a3R:FG 227 b6g:=dQ f227 c8m
def b6W:FG 190 c2a:=dQ f190 c7K ⟨a0j,F9⟩
def b6G:FG 143 c1R:=dQ f143 c7d ⟨b6W,F9⟩
def c4a:FG 224 d2l:=dQ f224 c8j ⟨a3R,b6G,F9⟩
def c4z:FG 257 d2K:=dQ f257 c8M ⟨a3R,F9⟩
def c4b:FG 225 d2m:=dQ f225 c8k ⟨c4z,F9⟩
def c3z:FG 187 d1N:=dQ f187 c7H ⟨a0j,c4a,c4b,F9⟩
def c3g:FG 140 d1v:=dQ f140 c7a ⟨a0h,a8A,c3z,F9⟩
def c4c:FG 226 d2n:=dQ f226 c8l
def c3A:FG 188 d1O:=dQ f188 c7I ⟨a0h,c4c,a0j,F9⟩
def c4d:FG 228 d2o:=dQ f228 c8n
def c4A:FG 258 d2L:=dQ f258 c8N
def c4e:FG 229 d2p:=dQ f229 c8o ⟨c4A,F9⟩
def a3S:FG 264 b6j:=dQ f264 c8R
def a8B:FG 235 b9p:=dQ f235 c8t ⟨a3S,F9⟩
def c5n:FG 320 d3v:=dQ f320 c9S
def a0k:FG 360 b2r:=dQ f360 d0C
def c5o:FG 321 d3w:=dQ f321 c9T ⟨a0k,b6W,F9⟩
def c5p:FG 322 d3x:=dQ f322 c9U
def a8N:FG 362 b9B:=dQ f362 d0E
def b7B:FG 361 c2z:=dQ f361 d0D ⟨a8N,F9⟩
def c5q:FG 323 d3y:=dQ f323 c9V ⟨a0k,a0j,b7B,F9⟩
def c5r:FG 324 d3z:=dQ f324 c9W ⟨a8N,a0k,a0j,F9⟩
def c5K:FG 363 d3R:=dQ f363 d0F ⟨a0k,F9⟩
def c5s:FG 325 d3A:=dQ f325 c9X ⟨a8N,c5K,b7B,a0k,F9⟩
def c4Q:FG 283 d2Z:=dQ f283 c9j ⟨c5n,c5o,c5p,c5q,c5r,c5s,F9⟩
def c4B:FG 259 d2M:=dQ f259 c8O ⟨a8B,a3S,c4Q,F9⟩
def c4f:FG 230 d2q:=dQ f230 c8p ⟨c4B,F9⟩
def c3B:FG 189 d1P:=dQ f189 c7J ⟨a0h,a3R,c4d,c4e,c4f,F9⟩
def b6I:FG 146 c1T:=dQ f146 c7g
def c3C:FG 191 d1Q:=dQ f191 c7L
def b6J:FG 148 c1V:=dQ f148 c7i ⟨c3C,F9⟩
def a8w:FG 145 b9k:=dQ f145 c7f
def b6H:FG 144 c1S:=dQ f144 c7e ⟨b6I,b6J,a8w,F9⟩
def a8s:FG 109 b9g:=dQ f109 c6F ⟨b6H,a8w,F9⟩
def c3h:FG 141 d1w:=dQ f141 c7b ⟨a0h,a8A,c3A,c3B,a8s,F9⟩
def c2M:FG 106 d1b:=dQ f106 c6C ⟨c3f,c3g,c3h,F9⟩
def d4M:FG 63 s63:=dQ f63 q63 ⟨c2M,F9⟩
def c3i:FG 142 d1x:=dQ f142 c7c
def c2N:FG 107 d1c:=dQ f107 c6D ⟨c3i,b6G,F9⟩
def c2O:FG 108 d1d:=dQ f108 c6E
def d4N:FG 64 s64:=dQ f64 q64 ⟨c2N,c2O,F9⟩
def d4w:FG 36 s36:=dQ f36 q36 ⟨d4M,d4N,F9⟩
def c0H:FG 65 s65:=dQ f65 q65 ⟨a8s,F9⟩
def b0w:FG 66 s66:=dQ f66 q66
def a8x:FG 147 b9l:=dQ f147 c7h
def c2P:FG 110 d1e:=dQ f110 c6G ⟨b6I,a8s,a8w,a8x,b6J,F9⟩
def d4O:FG 67 s67:=dQ f67 q67 ⟨c2P,b0w,c0H,F9⟩
def c2Q:FG 111 d1f:=dQ f111 c6H
def c3j:FG 149 d1y:=dQ f149 c7j ⟨b6H,a8x,F9⟩
def c2R:FG 112 d1g:=dQ f112 c6I ⟨a8x,c3j,F9⟩
def a8C:FG 260 b9q:=dQ f260 c8P ⟨a3R,F9⟩
def c4g:FG 231 d2r:=dQ f231 c8q ⟨a8C,F9⟩
def c4C:FG 261 d2N:=dQ f261 c8Q
def c4h:FG 232 d2s:=dQ f232 c8r ⟨c4C,F9⟩
def c3E:FG 192 d1R:=dQ f192 c7M ⟨c4g,c4h,F9⟩
def c3G:FG 194 d1T:=dQ f194 c7O ⟨a8B,F9⟩
def c4k:FG 236 d2v:=dQ f236 c8u ⟨a8B,a3S,F9⟩
def b7k:FG 285 c2h:=dQ f285 c9l
def WZ:FG 265 a8m:=dQ f265 c8S ⟨b7k,F9⟩
def c4S:FG 286 d3b:=dQ f286 c9m
def c4E:FG 266 d2O:=dQ f266 c8T ⟨a3S,c4S,F9⟩
def c4F:FG 267 d2P:=dQ f267 c8U
def c4T:FG 287 d3c:=dQ f287 c9n
def c4V:FG 288 d3d:=dQ f288 c9o ⟨WZ,F9⟩
def c4W:FG 289 d3e:=dQ f289 c9p
def TK:FG 290 a6h:=dQ f290 c9q ⟨WZ,F9⟩
def c4G:FG 268 d2Q:=dQ f268 c8V ⟨c4T,c4V,c4W,TK,F9⟩
def c4H:FG 269 d2R:=dQ f269 c8W ⟨WZ,TK,F9⟩
def b7l:FG 291 c2i:=dQ f291 c9r
def b7m:FG 292 c2j:=dQ f292 c9s
def a8J:FG 326 b9x:=dQ f326 c9Y
def b7C:FG 364 c2A:=dQ f364 d0G
def b7s:FG 327 c2p:=dQ f327 c9Z ⟨b7C,F9⟩
def a8K:FG 328 b9y:=dQ f328 d0a ⟨b7C,F9⟩
def b7n:FG 293 c2k:=dQ f293 c9t ⟨a8J,b7s,a8K,F9⟩
def c5M:FG 365 d3S:=dQ f365 d0H ⟨a8C,F9⟩
def c5t:FG 329 d3B:=dQ f329 d0b ⟨c5M,F9⟩
def c4X:FG 294 d3f:=dQ f294 c9u ⟨c5t,WZ,F9⟩
def a3V:FG 330 b6m:=dQ f330 d0c
def a3W:FG 331 b6n:=dQ f331 d0d
def c5u:FG 332 d3C:=dQ f332 d0e
def a3X:FG 366 b6o:=dQ f366 d0I
def c5v:FG 333 d3D:=dQ f333 d0f ⟨a3X,F9⟩
def c4Y:FG 295 d3g:=dQ f295 c9v ⟨a3V,a3W,a8C,c5u,c5v,F9⟩
def a8F:FG 296 b9t:=dQ f296 c9w ⟨TK,F9⟩
def c4I:FG 270 d2S:=dQ f270 c8X ⟨b7l,TK,b7m,b7n,c4X,c4Y,a8F,F9⟩
def c5w:FG 334 d3E:=dQ f334 d0g ⟨b7k,TK,F9⟩
def a8O:FG 371 b9C:=dQ f371 d0N
def c5N:FG 367 d3T:=dQ f367 d0J ⟨a3V,a3W,a8O,a3X,F9⟩
def c5x:FG 335 d3F:=dQ f335 d0h ⟨c5N,F9⟩
def b7D:FG 368 c2B:=dQ f368 d0K
def b7E:FG 369 c2C:=dQ f369 d0L
def b7G:FG 370 c2E:=dQ f370 d0M
def c5y:FG 336 d3G:=dQ f336 d0i ⟨b7D,b7E,b7G,F9⟩
def c5z:FG 337 d3H:=dQ f337 d0j ⟨b7D,b7E,b7G,F9⟩
def c5A:FG 338 d3I:=dQ f338 d0k ⟨a3V,a3W,a8O,a3X,F9⟩
def c5B:FG 339 d3J:=dQ f339 d0l ⟨a3V,a3W,a8O,a3X,F9⟩
def c4Z:FG 297 d3h:=dQ f297 c9x ⟨c5w,c5x,a8F,c5y,c5z,c5A,c5B,F9⟩
def c5O:FG 372 d3U:=dQ f372 d0O ⟨a8K,b7s,F9⟩
def b7u:FG 340 c2r:=dQ f340 d0m ⟨a8J,b7n,a8K,c5O,F9⟩
def c5C:FG 341 d3K:=dQ f341 d0n ⟨a8J,b7u,F9⟩
def c5a:FG 298 d3i:=dQ f298 c9y ⟨TK,b7u,a8F,c5C,F9⟩
def c5b:FG 299 d3j:=dQ f299 c9z ⟨b7m,b7l,TK,F9⟩
def c4J:FG 271 d2T:=dQ f271 c8Y ⟨c4Z,c5a,c5b,F9⟩
def c4l:FG 238 d2w:=dQ f238 c8v ⟨c4E,c4F,WZ,c4G,c4H,c4I,c4J,F9⟩
theorem b9N:∀n,jd P gl 195 ⟨a5I,[(true,(.dat (.prod (.int .i64) (.prod (.int .i64) (.int .i64))))),(false,(.dat (.int .i64)))],[],λx=>(X6 n).1 x.1 x.2.1 x.2.2⟩/\jd P gl 237 ⟨b4M,[(true,(.dat (.prod (.int .i64) (.prod (.int .i64) (.int .i64))))),(false,(.dat (.int .i64)))],[],λx=>(X6 n).2 x.1 x.2.1 x.2.2.1 x.2.2.2⟩:=by
 intro n;induction n with
 |zero=>exact⟨(λw ok O vals x r _ _ _ _ _ h=>by cases h),(λw ok O vals x r _ _ _ _ _ h=>by cases h)⟩
 |succ n ih=>exact⟨dS f195 a5I c0t (d5t (X6 n).1 (X6 n).2) c6a (by kernel_rfl) rfl trivial ⟨c4k,ih.2,ih.1,c4l,trivial⟩ λx=>by kernel_rfl,
  dS f237 b4M d0V (d5w (X6 n).1 (X6 n).2) c6d (by kernel_rfl) rfl trivial ⟨ih.1,WZ,trivial⟩ λx=>by kernel_rfl⟩
theorem c3H:jd P gl 195 d1U:=(b9N iL).1
def b6K:FG 151 c1W:=dQ f151 c7l ⟨c3G,c3H,F9⟩
def c4i:FG 233 d2t:=dQ f233 c8s
def c4R:FG 284 d3a:=dQ f284 c9k
theorem b9P:∀n,jd P gl 234 ⟨b0i,[(false,(.dat (.int .i64)))],[],λx=>(J7 n).1 x.1 x.2.1 x.2.2.1 x.2.2.2⟩/\jd P gl 262 ⟨b4N,[(false,(.dat (.sl (.int .i64))))],[],λx=>(J7 n).2.1 x.1 x.2.1 x.2.2.1 x.2.2.2⟩/\jd P gl 263 ⟨b0j,[(false,(.dat (.int .i64)))],[],λx=>(J7 n).2.2 x.1 x.2.1 x.2.2.1 x.2.2.2⟩:=by
 intro n;induction n with
 |zero=>exact⟨(λw ok O vals x r _ _ _ _ _ h=>by cases h),(λw ok O vals x r _ _ _ _ _ h=>by cases h),(λw ok O vals x r _ _ _ _ _ h=>by cases h)⟩
 |succ n ih=>exact⟨dS f234 b0i c0u (d5v (J7 n).1 (J7 n).2.1 (J7 n).2.2) c6c (by kernel_rfl) rfl trivial ⟨ih.2.1,ih.2.2,trivial⟩ λx=>by kernel_rfl,
  dS f262 b4N d0W (d5x (J7 n).1 (J7 n).2.1 (J7 n).2.2) c6e (by kernel_rfl) rfl trivial ⟨c4R,ih.2.2,trivial⟩ λx=>by kernel_rfl,
  dS f263 b0j d0X (d5y (J7 n).1 (J7 n).2.1 (J7 n).2.2) c6f (by kernel_rfl) rfl trivial ⟨ih.1,trivial⟩ λx=>by kernel_rfl⟩
theorem c4j:jd P gl 234 d2u:=(b9P iL).1
def c3F:FG 193 d1S:=dQ f193 c7N ⟨c4i,c4j,F9⟩
def c3k:FG 150 d1z:=dQ f150 c7k ⟨c3E,b6K,c3F,F9⟩
def c2S:FG 113 d1h:=dQ f113 c6J ⟨c3k,b6K,F9⟩
def c0I:FG 69 s69:=dQ f69 q69 ⟨c2R,c2S,F9⟩
def d4P:FG 68 s68:=dQ f68 q68 ⟨b0w,c2Q,c0I,F9⟩
def d4Q:FG 70 s70:=dQ f70 q70 ⟨b0w,F9⟩
def b7F:FG 37 s37:=dQ f37 q37 ⟨c0H,b0w,d4O,d4P,d4Q,c0I,F9⟩
def c0B:FG 20 s20:=dQ f20 q20 ⟨d4w,b7F,F9⟩
def c0G:FG 58 s58:=dQ f58 q58
def d4J:FG 59 s59:=dQ f59 q59
def d4K:FG 60 s60:=dQ f60 q60 ⟨c0G,b7F,F9⟩
def b6B:FG 105 c1P:=dQ f105 c6B
def d4L:FG 61 s61:=dQ f61 q61 ⟨b6B,F9⟩
theorem c5R:∀n,jd P gl 34 ⟨b8Q,[],[(true,(.pair (.dat (.prod (.sl (.prod .str (.sl .str))) (.prod (.sl (.prod .str (.prod (.prod (.int .i64) (.int .i64)) (.prod (.prod (.int .i64) (.int .i64)) (.sl (.prod (.prod (.int .i64) (.int .i64)) (.prod (.int .i64) (.prod (.int .i64) (.int .i64))))))))) (.sl (.prod .str (.prod (.int .i64) (.prod (.sl (.prod .str (.prod (.int .i64) (.int .i64)))) (.prod (.sl (.prod .str (.prod (.int .i64) (.int .i64)))) (.sl (.prod .str (.prod (.int .i64) (.prod (.int .i64) (.prod (.int .i64) (.prod (.prod (.int .i64) (.int .i64)) (.prod (.sl (.prod (.int .i64) (.int .i64))) (.prod (.sl (.prod (.int .i64) (.int .i64))) .str)))))))))))))))) (.pair (.dat (.int .i64)) (.pair (.dat (.prod (.int .i64) (.prod (.sl (.prod (.int .i64) (.prod (.int .i64) (.int .i64)))) (.sl (.sl (.prod (.int .i64) (.prod (.int .i64) (.int .i64)))))))) (.own (.prod (.int .i64) (.prod (.int .i64) (.prod (.int .i64) (.prod (.int .i64) (.prod (.int .i64) (.prod (.int .i64) (.prod (.int .i64) (.int .i64)))))))))))))],λx=>(Y1 n).1 x.1 x.2.1 x.2.2.1 x.2.2.2⟩/\jd P gl 62 ⟨c1I,[],[(true,(.pair (.dat (.prod (.sl (.prod .str (.sl .str))) (.prod (.sl (.prod .str (.prod (.prod (.int .i64) (.int .i64)) (.prod (.prod (.int .i64) (.int .i64)) (.sl (.prod (.prod (.int .i64) (.int .i64)) (.prod (.int .i64) (.prod (.int .i64) (.int .i64))))))))) (.sl (.prod .str (.prod (.int .i64) (.prod (.sl (.prod .str (.prod (.int .i64) (.int .i64)))) (.prod (.sl (.prod .str (.prod (.int .i64) (.int .i64)))) (.sl (.prod .str (.prod (.int .i64) (.prod (.int .i64) (.prod (.int .i64) (.prod (.prod (.int .i64) (.int .i64)) (.prod (.sl (.prod (.int .i64) (.int .i64))) (.prod (.sl (.prod (.int .i64) (.int .i64))) .str)))))))))))))))) (.pair (.dat (.int .i64)) (.pair (.dat (.prod (.int .i64) (.prod (.sl (.prod (.int .i64) (.prod (.int .i64) (.int .i64)))) (.sl (.sl (.prod (.int .i64) (.prod (.int .i64) (.int .i64)))))))) (.own (.prod (.int .i64) (.prod (.int .i64) (.prod (.int .i64) (.prod (.int .i64) (.prod (.int .i64) (.prod (.int .i64) (.prod (.int .i64) (.int .i64)))))))))))))],λx=>(Y1 n).2 x.1 x.2.1 x.2.2.1 x.2.2.2.1 x.2.2.2.2⟩:=by
 intro n;induction n with
 |zero=>exact⟨(λw ok O vals x r _ _ _ _ _ h=>by cases h),(λw ok O vals x r _ _ _ _ _ h=>by cases h)⟩
 |succ n ih=>exact⟨dS f34 b8Q d0Z (e34 (Y1 n).1 (Y1 n).2) d5o (by kernel_rfl) rfl trivial ⟨c0G,b7F,d4J,d4K,d4L,ih.2,trivial⟩ λx=>by kernel_rfl,
  dS f62 c1I d5I (e62 (Y1 n).1 (Y1 n).2) d5q (by kernel_rfl) rfl trivial ⟨b6B,ih.1,trivial⟩ λx=>by kernel_rfl⟩
theorem d4u:jd P gl 34 s34:=(c5R iL).1
def d4j:FG 18 s18:=dQ f18 q18 ⟨c0B,d4u,F9⟩
def d4v:FG 35 s35:=dQ f35 q35
def d4k:FG 19 s19:=dQ f19 q19 ⟨d4v,F9⟩
def c0K:FG 73 s73:=dQ f73 q73
def c0J:FG 71 s71:=dQ f71 q71 ⟨c0K,F9⟩
def d4R:FG 72 s72:=dQ f72 q72 ⟨c0J,F9⟩
def c2T:FG 114 d1i:=dQ f114 c6K
def d4S:FG 74 s74:=dQ f74 q74 ⟨c2T,F9⟩
def d4x:FG 38 s38:=dQ f38 q38 ⟨c0J,d4R,c0K,d4S,F9⟩
def d4l:FG 21 s21:=dQ f21 q21 ⟨d4x,F9⟩
def d5N:FG 9 s9:=dQ f9 q9 ⟨d4j,d4k,d4l,c0B,F9⟩
def d5J:FG 3 s3:=dQ f3 q3 ⟨d5K,d5L,d5M,d4Y,d5N,F9⟩
end Gt
