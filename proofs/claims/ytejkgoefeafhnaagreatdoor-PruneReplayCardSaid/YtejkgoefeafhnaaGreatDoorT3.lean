import Derived.Test.YtejkgoefeafhnaaGreatDoorT2
import Derived.Test.YtejkgoefeafhnaaGreatDoorProg
import Derived.Test.YtejkgoefeafhnaaGreatDoorShelf
set_option linter.all false
open Go Go.GP Go.Proofs.Tryz
namespace Gt
set_option maxRecDepth 100000
noncomputable abbrev P:Program:=Go.Proofs.Tryz.prog
theorem a6V:a6U P tt=true:=by kernel_rfl
theorem ZY:∀t sh,gB eqs t=some sh->QS P t sh:=a4Y (by kernel_rfl)
theorem dS{f:FuncId}(fn:Func)(ps:List MG)(rt:Ret)(E:Env)(an:Ann){F:dR ps->Option rt.den}(h:(P.funcs[f]?,fn.body,fn.ntmps,fn.results.toList,Nat.ble (64*E.nt) 999936,a2c P E.fs)=(some fn,some (PI fn),E.nt,rt.rs.map (·.1),true,true))(ht:(E.tt,E.eqs)=(tt,eqs))(hm:a4w P E.ms)(hs:b2O P E.gl E.fs)(hF:∀x,b1c E ps rt (PI fn) an x=F x):
  nX P E.gl f ⟨ps,rt.rs.map (·.2),rt.outs.map (·.2),F⟩:=by
 injection h with h1 h;injection h with h2 h;injection h with h3 h;injection h with h4 h;injection h with h5 h6;injection ht with t1 t2;exact TE h1 h2 h3 h4 (PQ h5 (t1▸a6V) (t2▸ZY) h6 hm hs) λx r h=>(hF x).trans h
theorem dQ{f:FuncId}(fn:Func)(q:FQ){F:dR q.ps->Option q.rt.den}(hs:b2O P q.E.gl q.E.fs:=by exact trivial)(h:(P.funcs[f]?,fn.body,fn.ntmps,fn.results.toList,Nat.ble (64*q.E.nt) 999936,a2c P q.E.fs)=(some fn,some (PI fn),q.E.nt,q.rt.rs.map (·.1),true,true):=by kernel_rfl)(ht:(q.E.tt,q.E.eqs)=(tt,eqs):=by rfl)(hm:a4w P q.E.ms:=by exact trivial)(hF:∀x,b1c q.E q.ps q.rt (PI fn) q.an x=F x:=by intro x;kernel_rfl):
  nX P q.E.gl f ⟨q.ps,q.rt.rs.map (·.2),q.rt.outs.map (·.2),F⟩:=dS fn q.ps q.rt q.E q.an h ht hm hs hF
abbrev FG(n:FuncId)(s:FSpec):=nX P gl n s
def c7X:FG 11 s11:=dQ f11 q11
def d1t:FG 5 s5:=dQ f5 q5 ⟨c7X,P7⟩
def d1v:FG 6 s6:=dQ f6 q6
def c8j:FG 28 s28:=dQ f28 q28
def c7Y:FG 13 s13:=dQ f13 q13 ⟨c8j,P7⟩
theorem c8F:nX Go.Proofs.Tryz.prog gl 87 s87:=KF (E:=⟨8,eqs,tt,gl,[],[],[],[],[],[]⟩) (f:=87) (fn:=Go.Proofs.Tryz.f87) (c:=PI Go.Proofs.Tryz.f87) (t:=.str) (by kernel_rfl) (by kernel_rfl) (by kernel_rfl) (by kernel_rfl)
  (PQ (by kernel_rfl) a6V ZY (by kernel_rfl) trivial trivial) (λb=>by cases b<;>kernel_rfl) (λxs=>by kernel_rfl)
def c8q:FG 45 s45:=dQ f45 q45 ⟨c8F,P7⟩
theorem c8G:nX Go.Proofs.Tryz.prog gl 88 s88:=KF (E:=⟨8,eqs,tt,gl,[],[],[],[],[],[]⟩) (f:=88) (fn:=Go.Proofs.Tryz.f88) (c:=PI Go.Proofs.Tryz.f88) (t:=(.prod (.prod (.int .i64) (.int .i64)) (.prod (.int .i64) (.prod (.int .i64) (.int .i64))))) (by kernel_rfl) (by kernel_rfl) (by kernel_rfl) (by kernel_rfl)
  (PQ (by kernel_rfl) a6V ZY (by kernel_rfl) trivial trivial) (λb=>by cases b<;>kernel_rfl) (λxs=>by kernel_rfl)
def c8r:FG 46 s46:=dQ f46 q46 ⟨c8G,P7⟩
theorem c8s:nX Go.Proofs.Tryz.prog gl 47 s47:=KF (E:=⟨8,eqs,tt,gl,[],[],[],[],[],[]⟩) (f:=47) (fn:=Go.Proofs.Tryz.f47) (c:=PI Go.Proofs.Tryz.f47) (t:=(.prod .str (.prod (.int .i64) (.int .i64)))) (by kernel_rfl) (by kernel_rfl) (by kernel_rfl) (by kernel_rfl)
  (PQ (by kernel_rfl) a6V ZY (by kernel_rfl) trivial trivial) (λb=>by cases b<;>kernel_rfl) (λxs=>by kernel_rfl)
theorem c8t:nX Go.Proofs.Tryz.prog gl 48 s48:=KF (E:=⟨8,eqs,tt,gl,[],[],[],[],[],[]⟩) (f:=48) (fn:=Go.Proofs.Tryz.f48) (c:=PI Go.Proofs.Tryz.f48) (t:=(.prod (.int .i64) (.int .i64))) (by kernel_rfl) (by kernel_rfl) (by kernel_rfl) (by kernel_rfl)
  (PQ (by kernel_rfl) a6V ZY (by kernel_rfl) trivial trivial) (λb=>by cases b<;>kernel_rfl) (λxs=>by kernel_rfl)
def c8h:FG 26 s26:=dQ f26 q26 ⟨c8q,c8r,c8s,c8t,P7⟩
def b9V:FG 49 s49:=dQ f49 q49
def b9T:FG 29 s29:=dQ f29 q29 ⟨b9V,P7⟩
def b9U:FG 30 s30:=dQ f30 q30
def c8H:FG 89 s89:=dQ f89 q89
def c8u:FG 50 s50:=dQ f50 q50 ⟨c8H,P7⟩
def c8i:FG 27 s27:=dQ f27 q27 ⟨b9T,b9U,b9V,c8u,P7⟩
def b9S:FG 12 s12:=dQ f12 q12 ⟨c8h,c8i,P7⟩
def b6N:FG 158 c1e:=dQ f158 c4o
def c2i:FG 198 c6R:=dQ f198 c4G
def c1V:FG 159 c6D:=dQ f159 c4p ⟨b6N,c2i,P7⟩
def c1W:FG 160 c6E:=dQ f160 c4q
def a0F:FG 117 b2v:=dQ f117 c3Y ⟨b6N,c1V,c1W,P7⟩
def a6E:FG 162 a8y:=dQ f162 b5d
def b6W:FG 199 b6k:=dQ f199 b5m ⟨a6E,P7⟩
def b6O:FG 161 b6d:=dQ f161 b5c ⟨b6W,P7⟩
def a8J:FG 118 b8Q:=dQ f118 c3Z ⟨a6E,b6O,P7⟩
def c2g:FG 196 c6P:=dQ f196 c4E
def c1S:FG 152 c6B:=dQ f152 c4k ⟨c2g,P7⟩
def c1H:FG 115 c6m:=dQ f115 c3W ⟨a0F,a8J,c1S,P7⟩
def c8w:FG 75 s75:=dQ f75 q75 ⟨c1H,P7⟩
def a0G:FG 153 b2w:=dQ f153 c4l
def a8K:FG 121 b8R:=dQ f121 c4c ⟨a0G,P7⟩
def a8M:FG 154 b8T:=dQ f154 c4m
def c2x:FG 239 c7f:=dQ f239 c4W ⟨a8M,P7⟩
def c2h:FG 197 c6Q:=dQ f197 c4F ⟨c2x,P7⟩
def c1T:FG 157 c6C:=dQ f157 c4n ⟨c2h,P7⟩
def a6D:FG 156 a8x:=dQ f156 b5b ⟨c1T,P7⟩
def b6L:FG 155 b6b:=dQ f155 b4Z ⟨a6D,P7⟩
def c1I:FG 116 c6n:=dQ f116 c3X ⟨a0G,a8K,a8M,a6D,b6L,P7⟩
def a6F:FG 164 a8z:=dQ f164 b5f
def b6X:FG 200 b6l:=dQ f200 b5n ⟨a6F,P7⟩
def b6P:FG 163 b6e:=dQ f163 b5e ⟨b6X,P7⟩
def b6H:FG 119 c1b:=dQ f119 c4a ⟨a6F,b6P,P7⟩
def c8x:FG 76 s76:=dQ f76 q76 ⟨c1I,a0F,a8J,b6H,P7⟩
def a6G:FG 166 a8A:=dQ f166 b5h
def b6Y:FG 201 b6m:=dQ f201 b5o ⟨a6G,P7⟩
def b6Q:FG 165 b6f:=dQ f165 b5g ⟨b6Y,P7⟩
def a6I:FG 202 a8C:=dQ f202 b5p
def b7b:FG 240 b6q:=dQ f240 b5t ⟨a6I,P7⟩
def b6Z:FG 203 b6n:=dQ f203 b5q ⟨b7b,P7⟩
def c1X:FG 167 c6F:=dQ f167 c4r ⟨a6I,a0F,b6Z,a0G,P7⟩
def c2j:FG 204 c6S:=dQ f204 c4H
def c1Y:FG 168 c6G:=dQ f168 c4s ⟨c2j,P7⟩
def a6J:FG 206 a8D:=dQ f206 b5s
def b7c:FG 241 b6r:=dQ f241 b5u ⟨a6J,P7⟩
def b7a:FG 205 b6o:=dQ f205 b5r ⟨b7c,P7⟩
theorem c2y:nX Go.Proofs.Tryz.prog gl 242 c7g:=YC Go.Proofs.Tryz.strings_Contains_one
def c2k:FG 207 c6T:=dQ f207 c4I ⟨c2y,P7⟩
def a0H:FG 211 b2x:=dQ f211 c4N
def b6V:FG 179 c1g:=dQ f179 c4z ⟨a0H,P7⟩
def b7d:FG 245 c1i:=dQ f245 c4Z
def c2Q:FG 301 c7x:=dQ f301 c5t ⟨a8K,P7⟩
def c2R:FG 302 c7y:=dQ f302 c5u
def b7i:FG 303 c1n:=dQ f303 c5v ⟨a0G,P7⟩
def b7j:FG 306 c1o:=dQ f306 c5y
def c2S:FG 304 c7z:=dQ f304 c5w ⟨b7j,a0G,P7⟩
def b7n:FG 346 c1q:=dQ f346 c5N
def c2T:FG 305 c7A:=dQ f305 c5x ⟨b7i,b7n,P7⟩
def c3c:FG 347 c7I:=dQ f347 c5O
def c2V:FG 307 c7B:=dQ f307 c5z ⟨b7n,c3c,P7⟩
def c2K:FG 273 c7s:=dQ f273 c5k ⟨c2Q,c2R,b7i,c2S,c2T,b7j,c2V,P7⟩
def c2z:FG 243 c7h:=dQ f243 c4X ⟨b6V,b7d,a0H,c2K,P7⟩
def c2l:FG 208 c6U:=dQ f208 c4J ⟨c2z,P7⟩
def c1Z:FG 169 c6H:=dQ f169 c4t ⟨a0F,a6J,b7a,c2k,c2l,P7⟩
theorem b7l:nX Go.Proofs.Tryz.prog gl 32 s32:=a8X Go.Proofs.Tryz.slices_Sort_int Go.Proofs.Tryz.slices_Sort_int_none
theorem b7m:nX Go.Proofs.Tryz.prog gl 33 s33:=a1e Go.Proofs.Tryz.slices_Compact_int Go.Proofs.Tryz.slices_Compact_int_empty
def c1M:FG 123 c6q:=dQ f123 c4e ⟨b7l,b7m,P7⟩
def b9Y:FG 82 s82:=dQ f82 q82 ⟨c1M,P7⟩
def c1K:FG 122 c6p:=dQ f122 c4d ⟨b9Y,P7⟩
def b9Z:FG 83 s83:=dQ f83 q83 ⟨b7l,b7m,P7⟩
def b7w:FG 81 s81:=dQ f81 q81 ⟨c1K,b9Z,P7⟩
def b9X:FG 80 s80:=dQ f80 q80
def b7v:FG 41 s41:=dQ f41 q41 ⟨b7w,b9X,P7⟩
def c2n:FG 209 c6V:=dQ f209 c4K
def c2a:FG 170 c6I:=dQ f170 c4u ⟨c2n,P7⟩
def c1J:FG 120 c6o:=dQ f120 c4b ⟨a8J,b6H,a6G,b6Q,a0F,c1X,c1Y,c1Z,b7v,c2a,P7⟩
def c8y:FG 77 s77:=dQ f77 q77 ⟨c1J,P7⟩
def c8l:FG 39 s39:=dQ f39 q39 ⟨c8w,c8x,c8y,P7⟩
def c8A:FG 78 s78:=dQ f78 q78 ⟨a8K,P7⟩
def c8B:FG 79 s79:=dQ f79 q79
def c8m:FG 40 s40:=dQ f40 q40 ⟨c8A,c8B,P7⟩
def c8d:FG 22 s22:=dQ f22 q22 ⟨c8l,c8m,P7⟩
def c8e:FG 23 s23:=dQ f23 q23
def c8n:FG 42 s42:=dQ f42 q42 ⟨b7w,b9X,b9Y,b9Z,P7⟩
def c8o:FG 43 s43:=dQ f43 q43 ⟨b7v,P7⟩
def c8f:FG 24 s24:=dQ f24 q24 ⟨b7v,c8n,c8o,P7⟩
def b7u:FG 393 b6v:=dQ f393 b5w
def a8L:FG 125 b8S:=dQ f125 c4f
def b7t:FG 391 c1y:=dQ f391 c6c
def a8V:FG 394 b9d:=dQ f394 c6e
theorem c3K:Ji Go.Proofs.Tryz.prog 216 "Less" 391 (some 217):=TT (by kernel_rfl)
theorem c0L:Ji Go.Proofs.Tryz.prog 216 "Swap" 394 (some 217):=TT (by kernel_rfl)
def b6R:FG 171 b6g:=dQ f171 b5i ⟨b7t,a8V,P7⟩ (hm:=⟨c3K,c0L,trivial⟩)
theorem c3M:Ji Go.Proofs.Tryz.prog 216 "Len" 125 (some 217):=TT (by kernel_rfl)
theorem c8X:Ji Go.Proofs.Tryz.prog 216 "Push" 393 none:=λv w=>show(method _ 216 v "Push").run _ w= .ok (393,v) w by kernel_rfl
def b6I:FG 124 b5Y:=dQ f124 b4W ⟨b7u,a8L,b6R,P7⟩ (hm:=⟨c3M,c8X,trivial⟩)
def b6S:FG 172 b6h:=dQ f172 b5j ⟨b7t,a8V,P7⟩ (hm:=⟨c3K,c0L,trivial⟩)
def c3i:FG 392 c7P:=dQ f392 c6d
theorem c8Y:Ji Go.Proofs.Tryz.prog 216 "Pop" 392 none:=λv w=>show(method _ 216 v "Pop").run _ w= .ok (392,v) w by kernel_rfl
def b6J:FG 126 b5Z:=dQ f126 b4X ⟨a8L,a8V,b6S,c3i,P7⟩ (hm:=⟨c3M,c8Y,c0L,trivial⟩)
def c8D:FG 84 s84:=dQ f84 q84 ⟨b7w,b6I,a8L,b6J,P7⟩
def a8N:FG 175 b8U:=dQ f175 c4v ⟨a8M,P7⟩
def a6H:FG 174 a8B:=dQ f174 b5l ⟨a8N,P7⟩
def b6T:FG 173 b6i:=dQ f173 b5k ⟨a6H,P7⟩
def c1N:FG 127 c6r:=dQ f127 c4g ⟨a6H,b6T,P7⟩
def c1P:FG 129 c6t:=dQ f129 c4i ⟨b6V,P7⟩
def c2d:FG 180 c6L:=dQ f180 c4A ⟨a0H,P7⟩
def Xw:FG 218 a8E:=dQ f218 c4T
def c2p:FG 213 c6X:=dQ f213 c4O ⟨a0H,b7d,P7⟩
def c2r:FG 214 c6Y:=dQ f214 c4P
def c2s:FG 215 c6Z:=dQ f215 c4Q ⟨Xw,P7⟩
def b7e:FG 246 c1j:=dQ f246 c5a ⟨Xw,P7⟩
def a8O:FG 274 b8W:=dQ f274 c5l
def c2B:FG 247 c7j:=dQ f247 c5b ⟨a8O,P7⟩
def c2C:FG 248 c7k:=dQ f248 c5c ⟨a8O,P7⟩
def b7f:FG 250 c1k:=dQ f250 c5e
def c2E:FG 249 c7l:=dQ f249 c5d ⟨b7f,a8O,P7⟩
def c2t:FG 216 c7a:=dQ f216 c4R ⟨Xw,b7e,c2B,c2C,c2E,b7f,P7⟩
def c2F:FG 251 c7m:=dQ f251 c5f ⟨b7e,Xw,P7⟩
def a6K:FG 275 a8F:=dQ f275 b5v ⟨a8N,P7⟩
def b6M:FG 155 b6c:=dQ f155 b5a ⟨a6K,P7⟩
def c2G:FG 252 c7n:=dQ f252 c5g ⟨a6K,b6M,P7⟩
theorem a4l:nX Go.Proofs.Tryz.prog gl 308 b6s:=a5K Go.Proofs.Tryz.bits_Mul64
def c1G:FG 104 c6l:=dQ f104 c3V
def c3d:FG 348 c7J:=dQ f348 c5P ⟨c1G,P7⟩
def a8Q:FG 309 b8Y:=dQ f309 c5A ⟨c3d,P7⟩
def c2M:FG 276 c7t:=dQ f276 c5m ⟨a4l,a8Q,P7⟩
def a8T:FG 349 b9b:=dQ f349 c5Q
def a8U:FG 350 b9c:=dQ f350 c5R
def b7o:FG 351 c1r:=dQ f351 c5S
def b7p:FG 352 c1s:=dQ f352 c5T
def b7q:FG 353 c1t:=dQ f353 c5V
def a4m:FG 310 b6t:=dQ f310 c5B ⟨a8T,a8U,b7o,b7p,b7q,P7⟩
def c2N:FG 277 c7u:=dQ f277 c5n ⟨a4m,P7⟩
def c2H:FG 253 c7o:=dQ f253 c5h ⟨a8N,c2M,c2N,P7⟩
def b7g:FG 278 c1l:=dQ f278 c5o
def a8R:FG 311 b8Z:=dQ f311 c5C
def c3e:FG 354 c7K:=dQ f354 c5W
def b7k:FG 312 c1p:=dQ f312 c5E ⟨c3e,P7⟩
def c3f:FG 355 c7L:=dQ f355 c5X
def a8S:FG 313 b9a:=dQ f313 c5F ⟨c3f,P7⟩
def a8P:FG 279 b8X:=dQ f279 c5p ⟨a8R,b7k,a8S,P7⟩
def c2I:FG 254 c7p:=dQ f254 c5i ⟨b7g,a8P,P7⟩
def c2W:FG 314 c7C:=dQ f314 c5G ⟨a4l,P7⟩
def c3g:FG 356 c7M:=dQ f356 c5Y ⟨a8T,a8U,b7o,a4l,a8Q,b7p,b7q,P7⟩
def c2X:FG 315 c7D:=dQ f315 c5H ⟨c3g,P7⟩
def b7r:FG 357 c1u:=dQ f357 c5Z
def b7s:FG 358 c1w:=dQ f358 c6a
def c2Y:FG 316 c7E:=dQ f316 c5I ⟨b7r,b7s,a4m,P7⟩
def c2Z:FG 317 c7F:=dQ f317 c5J ⟨a8T,a8U,a4m,P7⟩
def c3h:FG 359 c7N:=dQ f359 c6b
def c3a:FG 318 c7G:=dQ f318 c5K ⟨b7r,b7s,a4l,a8Q,c3h,P7⟩
def c2O:FG 280 c7v:=dQ f280 c5q ⟨c2W,c2X,c2Y,c2Z,a4m,c3a,P7⟩
def c3b:FG 319 c7H:=dQ f319 c5M ⟨a8S,b7k,P7⟩
def b7h:FG 281 c1m:=dQ f281 c5r ⟨a8R,a8P,a8S,c3b,P7⟩
def c2P:FG 282 c7w:=dQ f282 c5s ⟨a8R,a8P,b7h,P7⟩
def c2J:FG 255 c7q:=dQ f255 c5j ⟨c2O,b7g,b7h,c2P,P7⟩
def c2u:FG 217 c7b:=dQ f217 c4S ⟨c2F,c2G,c2H,c2I,c2J,P7⟩
def c2e:FG 182 c6M:=dQ f182 c4B ⟨c2p,a0H,c2r,c2s,c2t,c2u,Xw,P7⟩
theorem b9m:∀n,nX P gl 212 ⟨b4V,[(true,(.dat (.prod (.int .i64) (.prod (.int .i64) (.int .i64))))),(false,(.dat (.int .i64)))],[],λx=>(D7 n).1 x.1 x.2⟩/\nX P gl 130 ⟨a2B,[(true,(.dat (.prod (.int .i64) (.prod (.int .i64) (.int .i64))))),(false,(.dat (.int .i64)))],[],λx=>(D7 n).2.1 x.1 x.2⟩/\nX P gl 181 ⟨b4U,[(true,(.dat (.prod (.int .i64) (.prod (.int .i64) (.int .i64))))),(false,(.dat (.int .i64)))],[],λx=>(D7 n).2.2 x.1 x.2.1 x.2.2⟩:=by
 intro n;induction n with
 |zero=>exact⟨(λw ok O vals x r _ _ _ _ _ h=>by cases h),(λw ok O vals x r _ _ _ _ _ h=>by cases h),(λw ok O vals x r _ _ _ _ _ h=>by cases h)⟩
 |succ n ih=>exact⟨dS f212 b4V c6h (c8V (D7 n).1 (D7 n).2.1 (D7 n).2.2) c3t (by kernel_rfl) rfl trivial ⟨ih.2.1,Xw,trivial⟩ λx=>by kernel_rfl,
  dS f130 a2B b9N (c8T (D7 n).1 (D7 n).2.1 (D7 n).2.2) c3r (by kernel_rfl) rfl trivial ⟨c2d,ih.2.2,ih.2.1,c2e,trivial⟩ λx=>by kernel_rfl,
  dS f181 b4U c6f (c8U (D7 n).1 (D7 n).2.1 (D7 n).2.2) c3s (by kernel_rfl) rfl trivial ⟨ih.1,ih.2.1,trivial⟩ λx=>by kernel_rfl⟩
theorem c1Q:nX P gl 130 c6u:=(b9m jb).2.1
def c0c:FG 86 s86:=dQ f86 q86 ⟨c1P,c1Q,P7⟩
def c2b:FG 176 c6J:=dQ f176 c4w
def c2A:FG 244 c7i:=dQ f244 c4Y
def c2o:FG 210 c6W:=dQ f210 c4M ⟨c2A,P7⟩
def b6U:FG 178 c1f:=dQ f178 c4y ⟨c2o,P7⟩
def c2c:FG 177 c6K:=dQ f177 c4x ⟨b6U,P7⟩
def c1O:FG 128 c6s:=dQ f128 c4h ⟨c2b,c2c,b6U,P7⟩
def c8E:FG 85 s85:=dQ f85 q85 ⟨c1N,c0c,c1O,P7⟩
def c8p:FG 44 s44:=dQ f44 q44 ⟨c8D,c8E,c0c,P7⟩
def c8g:FG 25 s25:=dQ f25 q25 ⟨c8p,P7⟩
def b0C:FG 10 s10:=dQ f10 q10 ⟨c8d,c8e,c8f,c8g,P7⟩
def b9W:FG 51 s51:=dQ f51 q51 ⟨b0C,P7⟩
def b0E:FG 91 b6x:=dQ f91 b9L
def b6K:FG 131 b6a:=dQ f131 b4Y ⟨b0E,P7⟩
def b9l:FG 90 b9P:=dQ f90 b9K ⟨b6K,P7⟩
def b9k:FG 52 b9O:=dQ f52 b9I ⟨b0E,b9l,P7⟩
def b0D:FG 53 b6w:=dQ f53 b9J
def c2w:FG 219 c7c:=dQ f219 c4V
def c2f:FG 183 c6N:=dQ f183 c4C ⟨c2w,P7⟩
def c1R:FG 132 c6v:=dQ f132 c4j ⟨c2f,P7⟩
def c8I:FG 92 s92:=dQ f92 q92 ⟨c1R,P7⟩
def c8v:FG 54 s54:=dQ f54 q54 ⟨b9W,c8I,P7⟩
def c8J:FG 93 s93:=dQ f93 q93
theorem c3j:∀n,nX P gl 31 ⟨b8A,[],[(true,(.pair (.own (.prod (.int .i64) (.prod (.int .i64) (.prod (.int .i64) (.prod (.int .i64) (.prod (.int .i64) (.prod (.int .i64) (.prod (.int .i64) (.int .i64))))))))) (.pair (.dat (.prod (.sl (.prod .str (.sl .str))) (.prod (.sl (.prod .str (.prod (.prod (.int .i64) (.int .i64)) (.prod (.prod (.int .i64) (.int .i64)) (.sl (.prod (.prod (.int .i64) (.int .i64)) (.prod (.int .i64) (.prod (.int .i64) (.int .i64))))))))) (.sl (.prod .str (.prod (.int .i64) (.prod (.sl (.prod .str (.prod (.int .i64) (.int .i64)))) (.prod (.sl (.prod .str (.prod (.int .i64) (.int .i64)))) (.sl (.prod .str (.prod (.int .i64) (.prod (.int .i64) (.prod (.int .i64) (.prod (.prod (.int .i64) (.int .i64)) (.prod (.sl (.prod (.int .i64) (.int .i64))) (.prod (.sl (.prod (.int .i64) (.int .i64))) .str)))))))))))))))) (.pair (.dat (.int .i64)) (.pair (.dat (.prod (.int .i64) (.prod (.sl (.prod (.int .i64) (.prod (.int .i64) (.int .i64)))) (.sl (.sl (.prod (.int .i64) (.prod (.int .i64) (.int .i64)))))))) (.pair (.own (.ent true true (.prod (.int .i64) (.int .i64)) (.prod (.prod (.int .i64) (.prod (.int .i64) (.int .i64))) (.int .i64)))) (.dat (.prod (.int .i64) (.prod (.int .i64) (.prod (.int .i64) (.int .i64)))))))))))],λx=>(P9 n).1 x.1 x.2.1 x.2.2⟩/\nX P gl 55 ⟨c0U,[],[(true,(.pair (.own (.prod (.int .i64) (.prod (.int .i64) (.prod (.int .i64) (.prod (.int .i64) (.prod (.int .i64) (.prod (.int .i64) (.prod (.int .i64) (.int .i64))))))))) (.pair (.dat (.prod (.sl (.prod .str (.sl .str))) (.prod (.sl (.prod .str (.prod (.prod (.int .i64) (.int .i64)) (.prod (.prod (.int .i64) (.int .i64)) (.sl (.prod (.prod (.int .i64) (.int .i64)) (.prod (.int .i64) (.prod (.int .i64) (.int .i64))))))))) (.sl (.prod .str (.prod (.int .i64) (.prod (.sl (.prod .str (.prod (.int .i64) (.int .i64)))) (.prod (.sl (.prod .str (.prod (.int .i64) (.int .i64)))) (.sl (.prod .str (.prod (.int .i64) (.prod (.int .i64) (.prod (.int .i64) (.prod (.prod (.int .i64) (.int .i64)) (.prod (.sl (.prod (.int .i64) (.int .i64))) (.prod (.sl (.prod (.int .i64) (.int .i64))) .str)))))))))))))))) (.pair (.dat (.int .i64)) (.pair (.dat (.prod (.int .i64) (.prod (.sl (.prod (.int .i64) (.prod (.int .i64) (.int .i64)))) (.sl (.sl (.prod (.int .i64) (.prod (.int .i64) (.int .i64)))))))) (.pair (.own (.ent true true (.prod (.int .i64) (.int .i64)) (.prod (.prod (.int .i64) (.prod (.int .i64) (.int .i64))) (.int .i64)))) (.dat (.prod (.int .i64) (.prod (.int .i64) (.prod (.int .i64) (.int .i64)))))))))))],λx=>(P9 n).2 x.1 x.2.1 x.2.2.1 x.2.2.2⟩:=by
 intro n;induction n with
 |zero=>exact⟨(λw ok O vals x r _ _ _ _ _ h=>by cases h),(λw ok O vals x r _ _ _ _ _ h=>by cases h)⟩
 |succ n ih=>exact⟨dS f31 b8A c6j (e31 (P9 n).1 (P9 n).2) c8R (by kernel_rfl) rfl trivial ⟨b9W,b9k,b0D,c8v,ih.2,trivial⟩ λx=>by kernel_rfl,
  dS f55 c0U d0v (e55 (P9 n).1 (P9 n).2) c8S (by kernel_rfl) rfl trivial ⟨c8J,b0D,ih.1,trivial⟩ λx=>by kernel_rfl⟩
theorem c8k:nX P gl 31 s31:=(c3j jb).1
def c8b:FG 16 s16:=dQ f16 q16 ⟨b0C,c8k,P7⟩
def c8c:FG 17 s17:=dQ f17 q17 ⟨b7l,b7m,P7⟩
def c8C:FG 8 s8:=dQ f8 q8 ⟨c8b,c8c,b9S,b0C,P7⟩
def c7Z:FG 14 s14:=dQ f14 q14
def c8a:FG 15 s15:=dQ f15 q15 ⟨b9T,b9U,P7⟩
def d1w:FG 7 s7:=dQ f7 q7 ⟨c7Y,b9S,c8C,c7Z,c8a,P7⟩
def d1s:FG 4 s4:=dQ f4 q4 ⟨d1t,d1v,d1w,b0C,c8C,P7⟩
end Gt
