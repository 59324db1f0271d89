import Derived.Test.YtfelabniafejgaaGreatDoorT2
import Derived.Test.YtfelabniafejgaaGreatDoorProg
import Derived.Test.YtfelabniafejgaaGreatDoorShelf
set_option linter.all false
open Go Go.GP Go.Proofs.Tryz
namespace Gt
set_option maxRecDepth 100000
noncomputable abbrev P:Program:=Go.Proofs.Tryz.prog
theorem d0t:a3W P tt=true:=by kernel_rfl
theorem b7o:∀t sh,dY eqs t=some sh->OD P t sh:=a2e (by kernel_rfl)
variable {f:FuncId}
theorem dS(fn:Func)(ps:List MG)(rt:Ret)(E:Env)(an:Ann){F:aU ps->Option rt.den}(h:(P.funcs[f]?,fn.body,fn.ntmps,fn.results.toList,Nat.ble (64*E.nt) 999936,j_ P E.fs)=(some fn,some (a0j fn),E.nt,rt.rs.map (·.1),true,true))(ht:(E.tt,E.eqs)=(tt,eqs))(hm:a1F P E.ms)(hs:a9A P E.gl E.fs)(hF:∀x,b4K E ps rt (a0j fn) an x=F x):
  jS P E.gl f ⟨ps,rt.rs.map (·.2),rt.outs.map (·.2),F⟩:=by
 injection h with h1 h;injection h with h2 h;injection h with h3 h;injection h with h4 h;injection h with h5 h6;injection ht with t1 t2;exact a4n h1 h2 h3 h4 (b0i h5 (t1▸d0t) (t2▸b7o) h6 hm hs) λx r h=>(hF x).trans h
theorem jS.glw{s:FSpec}(h:jS P [] f s):jS P gl f s:=λw ok O vals x r hok hO hO2 hgl hrel hF=>h w ok O vals x r hok hO hO2 (λg u h=>by cases h) hrel hF
theorem dQ(fn:Func)(q:FQ){F:aU q.ps->Option q.rt.den}(hs:a9A P q.E.gl q.E.fs:=by exact trivial)(h:(P.funcs[f]?,fn.body,fn.ntmps,fn.results.toList,Nat.ble (64*q.E.nt) 999936,j_ P q.E.fs)=(some fn,some (a0j fn),q.E.nt,q.rt.rs.map (·.1),true,true):=by kernel_rfl)(ht:(q.E.tt,q.E.eqs)=(tt,eqs):=by rfl)(hm:a1F P q.E.ms:=by exact trivial)(hF:∀x,b4K q.E q.ps q.rt (a0j fn) q.an x=F x:=by intro x;kernel_rfl):
  jS P q.E.gl f ⟨q.ps,q.rt.rs.map (·.2),q.rt.outs.map (·.2),F⟩:=dS fn q.ps q.rt q.E q.an h ht hm hs hF
abbrev FG(n:FuncId)(s:FSpec):=jS P gl n s
def c9r:FG 24 s24:=dQ f24 q24
def d0P:FG 9 s9:=dQ f9 q9 ⟨c9r,E9⟩
def c9g:FG 10 s10:=dQ f10 q10
def d0L:FG 4 s4:=dQ f4 q4 ⟨d0P,c9g,E9⟩
def c9h:FG 11 s11:=dQ f11 q11
def b3d:FG 106 b7F:=dQ f106 c1W
def b8W:FG 147 c6P:=dQ f147 c2H
def b8t:FG 107 c6m:=dQ f107 c1X ⟨b3d,b8W,E9⟩
def b8u:FG 108 c6n:=dQ f108 c1Y
def a3N:FG 56 s56:=dQ f56 q56 ⟨b3d,b8t,b8u,E9⟩
def a3G:FG 110 a5r:=dQ f110 b1C
def b3k:FG 148 b2x:=dQ f148 b1H ⟨a3G,E9⟩
def b3e:FG 109 b2t:=dQ f109 b1B ⟨b3k,E9⟩
def b4d:FG 57 s57:=dQ f57 q57 ⟨a3G,b3e,E9⟩
def b8U:FG 145 c6N:=dQ f145 c2F
def d0r:FG 99 s99:=dQ f99 q99 ⟨b8U,E9⟩
def c9O:FG 54 s54:=dQ f54 q54 ⟨a3N,b4d,d0r,E9⟩
def c9s:FG 25 s25:=dQ f25 q25 ⟨c9O,E9⟩
def YO:FG 100 a9h:=dQ f100 c1R
def a5D:FG 101 b5w:=dQ f101 c1S ⟨YO,E9⟩
def a5E:FG 102 b5x:=dQ f102 c1T
def b9m:FG 175 c7f:=dQ f175 c3c ⟨a5E,E9⟩
def b8V:FG 146 c6O:=dQ f146 c2G ⟨b9m,E9⟩
def b8s:FG 105 c6l:=dQ f105 c1V ⟨b8V,E9⟩
def a3F:FG 104 a5q:=dQ f104 b1A ⟨b8s,E9⟩
def b3b:FG 103 b2r:=dQ f103 b1y ⟨a3F,E9⟩
def c9P:FG 55 s55:=dQ f55 q55 ⟨YO,a5D,a5E,a3F,b3b,E9⟩
def a3H:FG 112 a5s:=dQ f112 b1E
def b3l:FG 149 b2y:=dQ f149 b1I ⟨a3H,E9⟩
def b3f:FG 111 b2u:=dQ f111 b1D ⟨b3l,E9⟩
def b6H:FG 58 s58:=dQ f58 q58 ⟨a3H,b3f,E9⟩
def c9t:FG 26 s26:=dQ f26 q26 ⟨c9P,a3N,b4d,b6H,E9⟩
def a3I:FG 114 a5t:=dQ f114 b1G
def b3m:FG 150 b2z:=dQ f150 b1J ⟨a3I,E9⟩
def b3g:FG 113 b2v:=dQ f113 b1F ⟨b3m,E9⟩
def a3J:FG 151 a5u:=dQ f151 b1K
def b3s:FG 176 b2C:=dQ f176 b1O ⟨a3J,E9⟩
def b3n:FG 152 b2A:=dQ f152 b1L ⟨b3s,E9⟩
def b8v:FG 115 c6o:=dQ f115 c1Z ⟨a3J,a3N,b3n,YO,E9⟩
def b8X:FG 153 c6Q:=dQ f153 c2I
def b8w:FG 116 c6p:=dQ f116 c2a ⟨b8X,E9⟩
def a3K:FG 155 a5v:=dQ f155 b1N
def b3t:FG 177 b2D:=dQ f177 b1P ⟨a3K,E9⟩
def b3o:FG 154 b2B:=dQ f154 b1M ⟨b3t,E9⟩
theorem b9n:jS Go.Proofs.Tryz.prog gl 178 c7g:=VX Go.Proofs.Tryz.strings_Contains_one
def b8Y:FG 156 c6R:=dQ f156 c2J ⟨b9n,E9⟩
def YQ:FG 209 a9j:=dQ f209 c3t
def b3x:FG 207 b7N:=dQ f207 c3r ⟨YQ,E9⟩
def b3y:FG 208 b7O:=dQ f208 c3s
def b9Q:FG 242 c7J:=dQ f242 c3O ⟨a5D,E9⟩
def b9R:FG 243 c7K:=dQ f243 c3P
def b3D:FG 244 b7Q:=dQ f244 c3Q ⟨YO,E9⟩
def b3E:FG 247 b7R:=dQ f247 c3T
def b9S:FG 245 c7L:=dQ f245 c3R ⟨b3E,YO,E9⟩
def b3G:FG 277 b7T:=dQ f277 c4q
def b9T:FG 246 c7M:=dQ f246 c3S ⟨b3D,b3G,E9⟩
def c0l:FG 278 c8c:=dQ f278 c4r
def b9U:FG 248 c7N:=dQ f248 c3V ⟨b3G,c0l,E9⟩
def b9z:FG 210 c7s:=dQ f210 c3u ⟨b9Q,b9R,b3D,b9S,b9T,b3E,b9U,E9⟩
def b9o:FG 179 c7h:=dQ f179 c3d ⟨b3x,b3y,YQ,b9z,E9⟩
def b8Z:FG 157 c6S:=dQ f157 c2K ⟨b9o,E9⟩
def b8x:FG 117 c6q:=dQ f117 c2b ⟨a3N,a3K,b3o,b8Y,b8Z,E9⟩
theorem b3h:jS Go.Proofs.Tryz.prog gl 124 b7G:=a5W Go.Proofs.Tryz.slices_Sort_int Go.Proofs.Tryz.slices_Sort_int_none
theorem b3i:jS Go.Proofs.Tryz.prog gl 125 b7H:=Zl Go.Proofs.Tryz.slices_Compact_int Go.Proofs.Tryz.slices_Compact_int_empty
def b8D:FG 123 c6w:=dQ f123 c2h ⟨b3h,b3i,E9⟩
def b6J:FG 69 s69:=dQ f69 q69 ⟨b8D,E9⟩
def b8C:FG 122 c6v:=dQ f122 c2g ⟨b6J,E9⟩
def b6K:FG 70 s70:=dQ f70 q70 ⟨b3h,b3i,E9⟩
def b4e:FG 68 s68:=dQ f68 q68 ⟨b8C,b6K,E9⟩
def b6I:FG 67 s67:=dQ f67 q67
def a7z:FG 36 s36:=dQ f36 q36 ⟨b4e,b6I,E9⟩
def b9a:FG 158 c6T:=dQ f158 c2M
def b8y:FG 118 c6r:=dQ f118 c2c ⟨b9a,E9⟩
def c9Q:FG 59 s59:=dQ f59 q59 ⟨b4d,b6H,a3I,b3g,a3N,b8v,b8w,b8x,a7z,b8y,E9⟩
def c9u:FG 27 s27:=dQ f27 q27 ⟨c9Q,E9⟩
def b6D:FG 14 s14:=dQ f14 q14 ⟨c9s,c9t,c9u,E9⟩
def c9S:FG 60 s60:=dQ f60 q60
def c9v:FG 29 s29:=dQ f29 q29 ⟨c9S,E9⟩
def b5T:FG 28 b6x:=dQ f28 b6q ⟨c9v,E9⟩
def c9T:FG 61 s61:=dQ f61 q61
def c9w:FG 31 s31:=dQ f31 q31 ⟨c9T,E9⟩
def b5U:FG 30 b6y:=dQ f30 b6r ⟨c9w,E9⟩
def c9U:FG 62 s62:=dQ f62 q62
def c9x:FG 33 s33:=dQ f33 q33 ⟨c9U,E9⟩
def b5V:FG 32 b6z:=dQ f32 b6s ⟨c9x,E9⟩
def c9j:FG 15 s15:=dQ f15 q15 ⟨b5T,b5U,b5V,E9⟩
def b9b:FG 159 c6U:=dQ f159 c2N ⟨a5D,E9⟩
def b9c:FG 160 c6V:=dQ f160 c2O
def b8z:FG 119 c6s:=dQ f119 c2d ⟨b9b,b9c,E9⟩
def c9V:FG 63 s63:=dQ f63 q63 ⟨b6D,b8z,E9⟩
def c9W:FG 64 s64:=dQ f64 q64
def b6F:FG 37 s37:=dQ f37 q37 ⟨b4e,b6I,b6J,b6K,E9⟩
def b8A:FG 120 c6t:=dQ f120 c2e ⟨a7z,E9⟩
def c9X:FG 65 s65:=dQ f65 q65 ⟨a7z,b6F,b8A,E9⟩
def b4c:FG 384 b2P:=dQ f384 b1X
def a5F:FG 181 b5y:=dQ f181 c3e
def b4b:FG 382 b8o:=dQ f382 c6d
def a5V:FG 385 b5O:=dQ f385 c6f
theorem c1J:Gw Go.Proofs.Tryz.prog 239 "Less" 382 (some 240):=QD (by kernel_rfl)
theorem b7u:Gw Go.Proofs.Tryz.prog 239 "Swap" 385 (some 240):=QD (by kernel_rfl)
def b3z:FG 211 b2H:=dQ f211 b1S ⟨b4b,a5V,E9⟩ (hm:=⟨c1J,b7u,trivial⟩)
theorem c1K:Gw Go.Proofs.Tryz.prog 239 "Len" 181 (some 240):=QD (by kernel_rfl)
theorem d0G:Gw Go.Proofs.Tryz.prog 239 "Push" 384 none:=λv w=>show(method _ 239 v "Push").run _ w= .ok (384,v) w by kernel_rfl
def b3u:FG 180 b2E:=dQ f180 b1Q ⟨b4c,a5F,b3z,E9⟩ (hm:=⟨c1K,d0G,trivial⟩)
def b3A:FG 212 b2I:=dQ f212 b1T ⟨b4b,a5V,E9⟩ (hm:=⟨c1J,b7u,trivial⟩)
def c1k:FG 383 c8Z:=dQ f383 c6e
theorem d0H:Gw Go.Proofs.Tryz.prog 239 "Pop" 383 none:=λv w=>show(method _ 239 v "Pop").run _ w= .ok (383,v) w by kernel_rfl
def b3v:FG 182 b2F:=dQ f182 b1R ⟨a5F,a5V,b3A,c1k,E9⟩ (hm:=⟨c1K,d0H,b7u,trivial⟩)
def b9d:FG 161 c6W:=dQ f161 c2P ⟨b4e,b3u,a5F,b3v,E9⟩
def a5H:FG 215 b5A:=dQ f215 c3v ⟨a5E,E9⟩
def a3L:FG 214 a5w:=dQ f214 b1V ⟨a5H,E9⟩
def b3B:FG 213 b2J:=dQ f213 b1U ⟨a3L,E9⟩
def b9p:FG 183 c7i:=dQ f183 c3f ⟨a3L,b3B,E9⟩
def b9r:FG 185 c7k:=dQ f185 c3h ⟨b3x,E9⟩
def b9C:FG 219 c7v:=dQ f219 c3z ⟨YQ,E9⟩
def UJ:FG 256 a5x:=dQ f256 c4c
def b9W:FG 251 c7P:=dQ f251 c3X ⟨YQ,b3y,E9⟩
def b9X:FG 252 c7Q:=dQ f252 c3Y
def b9Y:FG 253 c7R:=dQ f253 c3Z ⟨UJ,E9⟩
def b3H:FG 280 b7U:=dQ f280 c4t ⟨UJ,E9⟩
def a5L:FG 308 b5E:=dQ f308 c4W
def c0o:FG 281 c8e:=dQ f281 c4u ⟨a5L,E9⟩
def c0p:FG 282 c8f:=dQ f282 c4v ⟨a5L,E9⟩
def b3I:FG 284 b7V:=dQ f284 c4x
def c0q:FG 283 c8g:=dQ f283 c4w ⟨b3I,a5L,E9⟩
def b9Z:FG 254 c7S:=dQ f254 c4a ⟨UJ,b3H,c0o,c0p,c0q,b3I,E9⟩
def c0r:FG 285 c8h:=dQ f285 c4y ⟨b3H,UJ,E9⟩
def a3M:FG 309 a5z:=dQ f309 b1W ⟨a5H,E9⟩
def b3c:FG 103 b2s:=dQ f103 b1z ⟨a3M,E9⟩
def c0s:FG 286 c8i:=dQ f286 c4z ⟨a3M,b3c,E9⟩
theorem a1t:jS Go.Proofs.Tryz.prog gl 333 b2M:=a2K Go.Proofs.Tryz.bits_Mul64
def b9t:FG 197 c7m:=dQ f197 c3i
def c1f:FG 354 c8U:=dQ f354 c5Q ⟨b9t,E9⟩
def a5P:FG 334 b5I:=dQ f334 c5u ⟨c1f,E9⟩
def c0H:FG 310 c8w:=dQ f310 c4X ⟨a1t,a5P,E9⟩
def a5T:FG 355 b5M:=dQ f355 c5R
def a5U:FG 356 b5N:=dQ f356 c5S
def b3W:FG 357 b8j:=dQ f357 c5T
def b3X:FG 358 b8k:=dQ f358 c5V
def b3Y:FG 359 b8l:=dQ f359 c5W
def a1u:FG 335 b2N:=dQ f335 c5v ⟨a5T,a5U,b3W,b3X,b3Y,E9⟩
def c0I:FG 311 c8x:=dQ f311 c4Y ⟨a1u,E9⟩
def c0t:FG 287 c8j:=dQ f287 c4A ⟨a5H,c0H,c0I,E9⟩
def b3N:FG 312 b8a:=dQ f312 c4Z
def a5Q:FG 336 b5J:=dQ f336 c5w
def c1g:FG 360 c8V:=dQ f360 c5X
def b3R:FG 337 b8e:=dQ f337 c5x ⟨c1g,E9⟩
def c1h:FG 361 c8W:=dQ f361 c5Y
def a5R:FG 338 b5K:=dQ f338 c5y ⟨c1h,E9⟩
def a5M:FG 313 b5F:=dQ f313 c5a ⟨a5Q,b3R,a5R,E9⟩
def c0u:FG 288 c8k:=dQ f288 c4B ⟨b3N,a5M,E9⟩
def c0V:FG 339 c8L:=dQ f339 c5z ⟨a1t,E9⟩
def c1i:FG 362 c8X:=dQ f362 c5Z ⟨a5T,a5U,b3W,a1t,a5P,b3X,b3Y,E9⟩
def c0W:FG 340 c8M:=dQ f340 c5A ⟨c1i,E9⟩
def b3Z:FG 363 b8m:=dQ f363 c6a
def b4a:FG 364 b8n:=dQ f364 c6b
def c0X:FG 341 c8N:=dQ f341 c5B ⟨b3Z,b4a,a1u,E9⟩
def c0Y:FG 342 c8O:=dQ f342 c5C ⟨a5T,a5U,a1u,E9⟩
def c1j:FG 365 c8Y:=dQ f365 c6c
def c0Z:FG 343 c8P:=dQ f343 c5E ⟨b3Z,b4a,a1t,a5P,c1j,E9⟩
def c0J:FG 314 c8y:=dQ f314 c5b ⟨c0V,c0W,c0X,c0Y,a1u,c0Z,E9⟩
def c1b:FG 344 c8Q:=dQ f344 c5F ⟨a5R,b3R,E9⟩
def b3O:FG 315 b8b:=dQ f315 c5c ⟨a5Q,a5M,a5R,c1b,E9⟩
def c0K:FG 316 c8A:=dQ f316 c5d ⟨a5Q,a5M,b3O,E9⟩
def c0w:FG 289 c8l:=dQ f289 c4C ⟨c0J,b3N,b3O,c0K,E9⟩
def c0c:FG 255 c7T:=dQ f255 c4b ⟨c0r,c0s,c0t,c0u,c0w,E9⟩
def b9D:FG 221 c7w:=dQ f221 c3A ⟨b9W,YQ,b9X,b9Y,b9Z,c0c,UJ,E9⟩
theorem b5Y:∀n,jS P gl 250 ⟨b1w,[(true,(.dat (.prod (.int .i64) (.prod (.int .i64) (.int .i64))))),(false,(.dat (.int .i64)))],[],λx=>(C9 n).1 x.1 x.2⟩/\jS P gl 186 ⟨N_,[(true,(.dat (.prod (.int .i64) (.prod (.int .i64) (.int .i64))))),(false,(.dat (.int .i64)))],[],λx=>(C9 n).2.1 x.1 x.2⟩/\jS P gl 220 ⟨b1u,[(true,(.dat (.prod (.int .i64) (.prod (.int .i64) (.int .i64))))),(false,(.dat (.int .i64)))],[],λx=>(C9 n).2.2 x.1 x.2.1 x.2.2⟩:=by
 intro n;induction n with
 |zero=>exact⟨(λw ok O vals x r _ _ _ _ _ h=>by cases h),(λw ok O vals x r _ _ _ _ _ h=>by cases h),(λw ok O vals x r _ _ _ _ _ h=>by cases h)⟩
 |succ n ih=>exact⟨dS f250 b1w c6i (d0D (C9 n).1 (C9 n).2.1 (C9 n).2.2) c1t (by kernel_rfl) rfl trivial ⟨ih.2.1,UJ,trivial⟩ λx=>by kernel_rfl,
  dS f186 N_ b6u (d0y (C9 n).1 (C9 n).2.1 (C9 n).2.2) c1o (by kernel_rfl) rfl trivial ⟨b9C,ih.2.2,ih.2.1,b9D,trivial⟩ λx=>by kernel_rfl,
  dS f220 b1u c6g (d0A (C9 n).1 (C9 n).2.1 (C9 n).2.2) c1q (by kernel_rfl) rfl trivial ⟨ih.1,ih.2.1,trivial⟩ λx=>by kernel_rfl⟩
theorem b9s:jS P gl 186 c7l:=(b5Y jU).2.1
def b3p:FG 163 b7J:=dQ f163 c2R ⟨b9r,b9s,E9⟩
def b9A:FG 216 c7t:=dQ f216 c3w
def c0n:FG 279 c8d:=dQ f279 c4s
def b9V:FG 249 c7O:=dQ f249 c3W ⟨c0n,E9⟩
def b3C:FG 218 b7P:=dQ f218 c3y ⟨b9V,E9⟩
def b9B:FG 217 c7u:=dQ f217 c3x ⟨b3C,E9⟩
def b9q:FG 184 c7j:=dQ f184 c3g ⟨b9A,b9B,b3C,E9⟩
def b9e:FG 162 c6X:=dQ f162 c2Q ⟨b9p,b3p,b9q,E9⟩
def b8B:FG 121 c6u:=dQ f121 c2f ⟨b9d,b9e,b3p,E9⟩
def c9Y:FG 66 s66:=dQ f66 q66 ⟨b8B,E9⟩
def c9y:FG 34 s34:=dQ f34 q34 ⟨c9V,c9W,c9X,c9Y,E9⟩
def c9k:FG 16 s16:=dQ f16 q16 ⟨c9y,E9⟩
def c9z:FG 35 s35:=dQ f35 q35
def c9l:FG 17 s17:=dQ f17 q17 ⟨a7z,c9z,b6F,E9⟩
def c9A:FG 38 s38:=dQ f38 q38
def c9B:FG 39 s39:=dQ f39 q39
def c9Z:FG 71 s71:=dQ f71 q71
def d0a:FG 72 s72:=dQ f72 q72
def c9C:FG 40 s40:=dQ f40 q40 ⟨c9Z,d0a,E9⟩
def c9m:FG 18 s18:=dQ f18 q18 ⟨c9A,c9B,c9C,E9⟩
def c9R:FG 6 s6:=dQ f6 q6 ⟨b6D,c9j,c9k,c9l,c9m,E9⟩
def b6C:FG 12 s12:=dQ f12 q12
def c9i:FG 13 s13:=dQ f13 q13
def d0M:FG 5 s5:=dQ f5 q5 ⟨c9h,c9R,b6C,c9i,E9⟩
def b3j:FG 126 b7I:=dQ f126 c2i
def b9f:FG 166 c6Y:=dQ f166 c2S
def b8E:FG 127 c6x:=dQ f127 c2j ⟨b3j,b9f,E9⟩
def b8F:FG 128 c6y:=dQ f128 c2k
def a3O:FG 73 s73:=dQ f73 q73 ⟨b3j,b8E,b8F,E9⟩
def b4f:FG 74 s74:=dQ f74 q74
def c9D:FG 41 s41:=dQ f41 q41 ⟨a3O,b4f,E9⟩
def YP:FG 129 a9i:=dQ f129 c2l
def a1p:FG 133 b2w:=dQ f133 c2r
def b3w:FG 198 b7M:=dQ f198 c3j ⟨YP,E9⟩
def b3q:FG 167 b7K:=dQ f167 c2T ⟨b3w,E9⟩
def b8G:FG 130 c6z:=dQ f130 c2n ⟨a1p,b3q,E9⟩
def b9g:FG 168 c6Z:=dQ f168 c2V ⟨a1p,E9⟩
def b8H:FG 131 c6A:=dQ f131 c2o ⟨b9g,E9⟩
def d0b:FG 75 s75:=dQ f75 q75 ⟨YP,b8G,b8H,E9⟩
def c9E:FG 42 s42:=dQ f42 q42 ⟨a3O,b4f,d0b,E9⟩
def b8I:FG 132 c6B:=dQ f132 c2p
def d0c:FG 76 s76:=dQ f76 q76 ⟨a3O,b8I,YP,E9⟩
def b8J:FG 134 c6C:=dQ f134 c2s
def b9h:FG 169 c7a:=dQ f169 c2W
def b8K:FG 135 c6D:=dQ f135 c2t ⟨b9h,E9⟩
def a1q:FG 200 b2G:=dQ f200 c3l
def a5G:FG 199 b5z:=dQ f199 c3k ⟨a1q,E9⟩
def b9E:FG 228 c7x:=dQ f228 c3B
def YR:FG 258 a9k:=dQ f258 c4d
def b9F:FG 229 c7y:=dQ f229 c3C ⟨YR,b3w,E9⟩
def b9G:FG 230 c7z:=dQ f230 c3E
def a5I:FG 260 b5B:=dQ f260 c4f
def b3F:FG 259 b7S:=dQ f259 c4e ⟨a5I,E9⟩
def b9H:FG 231 c7A:=dQ f231 c3F ⟨YR,YP,b3F,E9⟩
def b9I:FG 232 c7B:=dQ f232 c3G ⟨a5I,YR,YP,E9⟩
def c0d:FG 261 c7U:=dQ f261 c4g ⟨YR,E9⟩
def b9J:FG 233 c7C:=dQ f233 c3H ⟨a5I,c0d,b3F,YR,E9⟩
def b9u:FG 201 c7n:=dQ f201 c3n ⟨b9E,b9F,b9G,b9H,b9I,b9J,E9⟩
def b9i:FG 170 c7b:=dQ f170 c2X ⟨a5G,a1q,b9u,E9⟩
def b8L:FG 136 c6E:=dQ f136 c2u ⟨b9i,E9⟩
def d0d:FG 77 s77:=dQ f77 q77 ⟨a3O,a1p,b8J,b8K,b8L,E9⟩
theorem d0V:jS P [] 96 s96:=dS f96 d1i d1m { e96 with gl:=[] } d1q (by kernel_rfl) rfl trivial trivial λx=>by kernel_rfl
theorem b6O:jS P gl 96 s96:=jS.glw d0V
theorem d0Y:jS P [] 144 c6M:=dS f144 d0Z d1b { d1s with gl:=[] } d1e (by kernel_rfl) rfl trivial trivial λx=>by kernel_rfl
theorem d0W:jS P [] 98 s98:=dS f98 d1j d1n { e98 with gl:=[] } d1r (by kernel_rfl) rfl trivial ⟨d0Y,trivial⟩ λx=>by kernel_rfl
theorem b6P:jS P gl 98 s98:=jS.glw d0W
theorem d0T:jS P [] 94 s94:=dS f94 d1h d1l { e94 with gl:=[] } d1p (by kernel_rfl) rfl trivial trivial λx=>by kernel_rfl
theorem b4g:jS P gl 94 s94:=jS.glw d0T
theorem d0U:jS P [] 93 s93:=dS f93 d1g d1k { e93 with gl:=[] } d1o (by kernel_rfl) rfl trivial ⟨d0V,d0W,d0T,trivial⟩ λx=>by kernel_rfl
theorem b6N:jS P gl 93 s93:=jS.glw d0U
theorem d1d:jS P [] 51 s51:=jS.thaw rfl rfl (a6K (by kernel_rfl)) (dS f51 c1Q d0J { e51 with gl:=[] } d0x (by kernel_rfl) rfl trivial ⟨d0U,d0T,trivial⟩ λx=>by kernel_rfl)
theorem a7A:jS P gl 51 s51:=jS.glw d1d
theorem d0S:jS P gl 51 d0X:=dS f51 d1a d1c d1t d1f (by kernel_rfl) rfl trivial ⟨b6N,b4g,trivial⟩ λx=>by kernel_rfl
def c9F:FG 43 s43:=dQ f43 q43 ⟨a3O,b4f,d0c,d0d,d0S,E9⟩
def b6E:FG 19 s19:=dQ f19 q19 ⟨c9D,c9E,c9F,E9⟩
def b8M:FG 137 c6F:=dQ f137 c2w
def d0e:FG 78 s78:=dQ f78 q78 ⟨b8M,E9⟩
def c9G:FG 44 s44:=dQ f44 q44 ⟨d0e,E9⟩
def b8N:FG 138 c6G:=dQ f138 c2x
def d0f:FG 79 s79:=dQ f79 q79 ⟨b8N,E9⟩
def c9H:FG 45 s45:=dQ f45 q45 ⟨d0f,E9⟩
def c9I:FG 46 s46:=dQ f46 q46
def c9n:FG 20 s20:=dQ f20 q20 ⟨c9G,c9H,c9I,E9⟩
def d0g:FG 80 s80:=dQ f80 q80 ⟨b6E,E9⟩
def b9j:FG 171 c7c:=dQ f171 c2Y
def b8O:FG 139 c6H:=dQ f139 c2y ⟨b9j,b3q,E9⟩
def b8P:FG 140 c6I:=dQ f140 c2z
def d0h:FG 81 s81:=dQ f81 q81 ⟨b8O,b8P,E9⟩
def c9J:FG 47 s47:=dQ f47 q47 ⟨d0g,d0h,E9⟩
def b6L:FG 82 s82:=dQ f82 q82 ⟨d0S,E9⟩
def a7B:FG 83 s83:=dQ f83 q83
def b4h:FG 97 s97:=dQ f97 q97
def b6G:FG 53 s53:=dQ f53 q53 ⟨b6O,d0S,b4g,b4h,b6P,E9⟩
def d0i:FG 84 s84:=dQ f84 q84 ⟨b6G,a7B,b6L,E9⟩
def b8Q:FG 141 c6J:=dQ f141 c2A
def b9k:FG 172 c7d:=dQ f172 c2Z ⟨b6N,b4h,E9⟩
def b8R:FG 142 c6K:=dQ f142 c2B ⟨b4h,b9k,E9⟩
def a5J:FG 262 b5C:=dQ f262 c4h ⟨a1p,E9⟩
def b9K:FG 234 c7D:=dQ f234 c3I ⟨a5J,E9⟩
def c0e:FG 263 c7V:=dQ f263 c4i
def b9L:FG 235 c7E:=dQ f235 c3J ⟨c0e,E9⟩
def b9v:FG 202 c7o:=dQ f202 c3o ⟨b9K,b9L,E9⟩
def b9x:FG 204 c7q:=dQ f204 c3q ⟨a5G,E9⟩
def b9O:FG 238 c7H:=dQ f238 c3M ⟨a5G,a1q,E9⟩
def b3J:FG 291 b7W:=dQ f291 c4F
def UK:FG 266 a5y:=dQ f266 c4j ⟨b3J,E9⟩
def c0y:FG 292 c8n:=dQ f292 c4G
def c0f:FG 267 c7W:=dQ f267 c4k ⟨a1q,c0y,E9⟩
def c0g:FG 268 c7X:=dQ f268 c4l
def c0z:FG 293 c8o:=dQ f293 c4H
def c0A:FG 294 c8p:=dQ f294 c4I ⟨UK,E9⟩
def c0B:FG 295 c8q:=dQ f295 c4J
def QQ:FG 296 a3x:=dQ f296 c4K ⟨UK,E9⟩
def c0h:FG 269 c7Y:=dQ f269 c4m ⟨c0z,c0A,c0B,QQ,E9⟩
def c0i:FG 270 c7Z:=dQ f270 c4n ⟨UK,QQ,E9⟩
def b3K:FG 297 b7X:=dQ f297 c4M
def b3L:FG 298 b7Y:=dQ f298 c4N
def a5N:FG 317 b5G:=dQ f317 c5e
def b3S:FG 345 b8f:=dQ f345 c5G
def b3P:FG 318 b8c:=dQ f318 c5f ⟨b3S,E9⟩
def a5O:FG 319 b5H:=dQ f319 c5g ⟨b3S,E9⟩
def b3M:FG 299 b7Z:=dQ f299 c4O ⟨a5N,b3P,a5O,E9⟩
def c1c:FG 346 c8R:=dQ f346 c5H ⟨a5J,E9⟩
def c0L:FG 320 c8B:=dQ f320 c5h ⟨c1c,E9⟩
def c0C:FG 300 c8r:=dQ f300 c4P ⟨c0L,UK,E9⟩
def a1r:FG 321 b2K:=dQ f321 c5i
def a1s:FG 322 b2L:=dQ f322 c5j
def c0M:FG 323 c8C:=dQ f323 c5k
def a1v:FG 347 b2O:=dQ f347 c5I
def c0N:FG 324 c8D:=dQ f324 c5l ⟨a1v,E9⟩
def c0D:FG 301 c8s:=dQ f301 c4Q ⟨a1r,a1s,a5J,c0M,c0N,E9⟩
def a5K:FG 302 b5D:=dQ f302 c4R ⟨QQ,E9⟩
def c0j:FG 271 c8a:=dQ f271 c4o ⟨b3K,QQ,b3L,b3M,c0C,c0D,a5K,E9⟩
def c0O:FG 325 c8E:=dQ f325 c5m ⟨b3J,QQ,E9⟩
def a5S:FG 352 b5L:=dQ f352 c5O
def c1d:FG 348 c8S:=dQ f348 c5J ⟨a1r,a1s,a5S,a1v,E9⟩
def c0P:FG 326 c8F:=dQ f326 c5n ⟨c1d,E9⟩
def b3T:FG 349 b8g:=dQ f349 c5K
def b3U:FG 350 b8h:=dQ f350 c5M
def b3V:FG 351 b8i:=dQ f351 c5N
def c0Q:FG 327 c8G:=dQ f327 c5o ⟨b3T,b3U,b3V,E9⟩
def c0R:FG 328 c8H:=dQ f328 c5p ⟨b3T,b3U,b3V,E9⟩
def c0S:FG 329 c8I:=dQ f329 c5q ⟨a1r,a1s,a5S,a1v,E9⟩
def c0T:FG 330 c8J:=dQ f330 c5r ⟨a1r,a1s,a5S,a1v,E9⟩
def c0E:FG 303 c8t:=dQ f303 c4S ⟨c0O,c0P,a5K,c0Q,c0R,c0S,c0T,E9⟩
def c1e:FG 353 c8T:=dQ f353 c5P ⟨a5O,b3P,E9⟩
def b3Q:FG 331 b8d:=dQ f331 c5s ⟨a5N,b3M,a5O,c1e,E9⟩
def c0U:FG 332 c8K:=dQ f332 c5t ⟨a5N,b3Q,E9⟩
def c0F:FG 304 c8u:=dQ f304 c4T ⟨QQ,b3Q,a5K,c0U,E9⟩
def c0G:FG 305 c8v:=dQ f305 c4V ⟨b3L,b3K,QQ,E9⟩
def c0k:FG 272 c8b:=dQ f272 c4p ⟨c0E,c0F,c0G,E9⟩
def b9P:FG 240 c7I:=dQ f240 c3N ⟨c0f,c0g,UK,c0h,c0i,c0j,c0k,E9⟩
theorem b5W:∀n,jS P gl 205 ⟨a3b,[(true,(.dat (.prod (.int .i64) (.prod (.int .i64) (.int .i64))))),(false,(.dat (.int .i64)))],[],λx=>(P9 n).1 x.1 x.2.1 x.2.2⟩/\jS P gl 239 ⟨b1v,[(true,(.dat (.prod (.int .i64) (.prod (.int .i64) (.int .i64))))),(false,(.dat (.int .i64)))],[],λx=>(P9 n).2 x.1 x.2.1 x.2.2.1 x.2.2.2⟩:=by
 intro n;induction n with
 |zero=>exact⟨(λw ok O vals x r _ _ _ _ _ h=>by cases h),(λw ok O vals x r _ _ _ _ _ h=>by cases h)⟩
 |succ n ih=>exact⟨dS f205 a3b b6v (d0z (P9 n).1 (P9 n).2) c1p (by kernel_rfl) rfl trivial ⟨b9O,ih.2,ih.1,b9P,trivial⟩ λx=>by kernel_rfl,
  dS f239 b1v c6h (d0C (P9 n).1 (P9 n).2) c1s (by kernel_rfl) rfl trivial ⟨ih.1,UK,trivial⟩ λx=>by kernel_rfl⟩
theorem b9y:jS P gl 205 c7r:=(b5W jU).1
def b3r:FG 174 b7L:=dQ f174 c3b ⟨b9x,b9y,E9⟩
def b9M:FG 236 c7F:=dQ f236 c3K
def c0x:FG 290 c8m:=dQ f290 c4E
theorem b5X:∀n,jS P gl 237 ⟨a7n,[(false,(.dat (.int .i64)))],[],λx=>(I5 n).1 x.1 x.2.1 x.2.2.1 x.2.2.2⟩/\jS P gl 264 ⟨b1x,[(false,(.dat (.sl (.int .i64))))],[],λx=>(I5 n).2.1 x.1 x.2.1 x.2.2.1 x.2.2.2⟩/\jS P gl 265 ⟨a7o,[(false,(.dat (.int .i64)))],[],λx=>(I5 n).2.2 x.1 x.2.1 x.2.2.1 x.2.2.2⟩:=by
 intro n;induction n with
 |zero=>exact⟨(λw ok O vals x r _ _ _ _ _ h=>by cases h),(λw ok O vals x r _ _ _ _ _ h=>by cases h),(λw ok O vals x r _ _ _ _ _ h=>by cases h)⟩
 |succ n ih=>exact⟨dS f237 a7n b6w (d0B (I5 n).1 (I5 n).2.1 (I5 n).2.2) c1r (by kernel_rfl) rfl trivial ⟨ih.2.1,ih.2.2,trivial⟩ λx=>by kernel_rfl,
  dS f264 b1x c6j (d0E (I5 n).1 (I5 n).2.1 (I5 n).2.2) c1u (by kernel_rfl) rfl trivial ⟨c0x,ih.2.2,trivial⟩ λx=>by kernel_rfl,
  dS f265 a7o c6k (d0F (I5 n).1 (I5 n).2.1 (I5 n).2.2) c1w (by kernel_rfl) rfl trivial ⟨ih.1,trivial⟩ λx=>by kernel_rfl⟩
theorem b9N:jS P gl 237 c7G:=(b5X jU).1
def b9w:FG 203 c7p:=dQ f203 c3p ⟨b9M,b9N,E9⟩
def b9l:FG 173 c7e:=dQ f173 c3a ⟨b9v,b3r,b9w,E9⟩
def b8S:FG 143 c6L:=dQ f143 c2C ⟨b9l,b3r,E9⟩
def b6M:FG 86 s86:=dQ f86 q86 ⟨b8R,b8S,E9⟩
def d0j:FG 85 s85:=dQ f85 q85 ⟨a7B,b8Q,b6M,E9⟩
def d0k:FG 87 s87:=dQ f87 q87 ⟨a7B,E9⟩
def c9K:FG 48 s48:=dQ f48 q48 ⟨b6L,a7B,d0i,d0j,d0k,b6M,E9⟩
def c9o:FG 21 s21:=dQ f21 q21 ⟨c9J,c9K,E9⟩
def d0l:FG 88 s88:=dQ f88 q88
def d0m:FG 89 s89:=dQ f89 q89
def c9L:FG 49 s49:=dQ f49 q49 ⟨d0l,d0m,E9⟩
def d0n:FG 90 s90:=dQ f90 q90
def d0o:FG 91 s91:=dQ f91 q91
def d0p:FG 92 s92:=dQ f92 q92
def c9M:FG 50 s50:=dQ f50 q50 ⟨d0n,d0o,d0p,E9⟩
def c9p:FG 22 s22:=dQ f22 q22 ⟨c9L,c9M,E9⟩
def d0q:FG 95 s95:=dQ f95 q95
def c9N:FG 52 s52:=dQ f52 q52 ⟨d0q,E9⟩
def c9q:FG 23 s23:=dQ f23 q23 ⟨a7A,c9N,b6G,E9⟩
def d0N:FG 7 s7:=dQ f7 q7 ⟨b6E,c9n,c9o,c9p,c9q,E9⟩
def d0O:FG 8 s8:=dQ f8 q8 ⟨b6C,E9⟩
def d0K:FG 3 s3:=dQ f3 q3 ⟨d0L,d0M,c9R,d0N,d0O,E9⟩
end Gt
