import Derived.Test.YtpdhfchnaibpmabGreatDoorT2
import Derived.Test.YtpdhfchnaibpmabGreatDoorProg
import Derived.Test.YtpdhfchnaibpmabGreatDoorShelf
set_option linter.all false
open Go Go.GP Go.Proofs.Tryz
namespace Gt
set_option maxRecDepth 100000
noncomputable abbrev P:Program:=Go.Proofs.Tryz.prog
theorem c8P:a7F P tt=true:=by kernel_rfl
theorem c1o:∀t sh,gJ eqs t=some sh->QP P t sh:=a5D (by kernel_rfl)
theorem dS{f:FuncId}(fn:Func)(ps:List MG)(rt:Ret)(E:Env)(an:Ann){F:iy ps->Option rt.den}(h:(P.funcs[f]?,fn.body,fn.ntmps,fn.results.toList,Nat.ble (64*E.nt) 999936,a2s P E.fs)=(some fn,some (a3t fn),E.nt,rt.rs.map (·.1),true,true))(ht:(E.tt,E.eqs)=(tt,eqs))(hm:a4Y P E.ms)(hs:b3v P E.gl E.fs)(hF:∀x,b8A E ps rt (a3t fn) an x=F x):
  qL P E.gl f ⟨ps,rt.rs.map (·.2),rt.outs.map (·.2),F⟩:=by
 injection h with h1 h;injection h with h2 h;injection h with h3 h;injection h with h4 h;injection h with h5 h6;injection ht with t1 t2;exact a8g h1 h2 h3 h4 (b4m h5 (t1▸c8P) (t2▸c1o) h6 hm hs) λx r h=>(hF x).trans h
theorem dQ{f:FuncId}(fn:Func)(q:FQ){F:iy q.ps->Option q.rt.den}(hs:b3v P q.E.gl q.E.fs:=by exact trivial)(h:(P.funcs[f]?,fn.body,fn.ntmps,fn.results.toList,Nat.ble (64*q.E.nt) 999936,a2s P q.E.fs)=(some fn,some (a3t fn),q.E.nt,q.rt.rs.map (·.1),true,true):=by kernel_rfl)(ht:(q.E.tt,q.E.eqs)=(tt,eqs):=by rfl)(hm:a4Y P q.E.ms:=by exact trivial)(hF:∀x,b8A q.E q.ps q.rt (a3t fn) q.an x=F x:=by intro x;kernel_rfl):
  qL P q.E.gl f ⟨q.ps,q.rt.rs.map (·.2),q.rt.outs.map (·.2),F⟩:=dS fn q.ps q.rt q.E q.an h ht hm hs hF
abbrev FG(n:FuncId)(s:FSpec):=qL P gl n s
def c7O:FG 10 s10:=dQ f10 q10
def c7W:FG 18 s18:=dQ f18 q18
def c7P:FG 11 s11:=dQ f11 q11 ⟨c7W,L9⟩
def c9c:FG 4 s4:=dQ f4 q4 ⟨c7O,c7P,L9⟩
def c7Q:FG 12 s12:=dQ f12 q12
def c0J:FG 93 s93:=dQ f93 q93
def c2x:FG 124 c6D:=dQ f124 c4B
def c8N:FG 94 s94:=dQ f94 q94 ⟨c0J,c2x,L9⟩
def c8O:FG 95 s95:=dQ f95 q95
def a7t:FG 61 s61:=dQ f61 q61 ⟨c0J,c8N,c8O,L9⟩
def b1n:FG 97 b6Q:=dQ f97 c0l
def b7g:FG 125 b6B:=dQ f125 b5L ⟨b1n,L9⟩
def b9G:FG 96 c0x:=dQ f96 c0k ⟨b7g,L9⟩
def b7L:FG 62 s62:=dQ f62 q62 ⟨b1n,b9G,L9⟩
def c2u:FG 122 c6B:=dQ f122 c4z
def c8K:FG 87 s87:=dQ f87 q87 ⟨c2u,L9⟩
def c8u:FG 59 s59:=dQ f59 q59 ⟨a7t,b7L,c8K,L9⟩
def c8i:FG 34 s34:=dQ f34 q34 ⟨c8u,L9⟩
def a3f:FG 84 s84:=dQ f84 q84
def b1l:FG 88 s88:=dQ f88 q88 ⟨a3f,L9⟩
def b7N:FG 89 s89:=dQ f89 q89
def c2I:FG 150 c6N:=dQ f150 c4Q ⟨b7N,L9⟩
def c2w:FG 123 c6C:=dQ f123 c4A ⟨c2I,L9⟩
def c8M:FG 92 s92:=dQ f92 q92 ⟨c2w,L9⟩
def b1m:FG 91 b6P:=dQ f91 c0j ⟨c8M,L9⟩
def b9E:FG 90 c0u:=dQ f90 c0h ⟨b1m,L9⟩
def c8w:FG 60 s60:=dQ f60 q60 ⟨a3f,b1l,b7N,b1m,b9E,L9⟩
def b1o:FG 99 b6R:=dQ f99 c0o
def b7h:FG 126 b6C:=dQ f126 b5M ⟨b1o,L9⟩
def b9H:FG 98 c0y:=dQ f98 c0n ⟨b7h,L9⟩
def c0F:FG 63 s63:=dQ f63 q63 ⟨b1o,b9H,L9⟩
def c8j:FG 35 s35:=dQ f35 q35 ⟨c8w,a7t,b7L,c0F,L9⟩
def a7n:FG 101 a9i:=dQ f101 b5K
def b7i:FG 127 b6D:=dQ f127 b5N ⟨a7n,L9⟩
def b7d:FG 100 b6y:=dQ f100 b5J ⟨b7i,L9⟩
def a7o:FG 128 a9j:=dQ f128 b5O
def b7n:FG 151 b6G:=dQ f151 b5S ⟨a7o,L9⟩
def b7j:FG 129 b6E:=dQ f129 b5P ⟨b7n,L9⟩
def c2i:FG 102 c6r:=dQ f102 c4n ⟨a7o,a7t,b7j,a3f,L9⟩
def c2y:FG 130 c6E:=dQ f130 c4C
def c2j:FG 103 c6s:=dQ f103 c4o ⟨c2y,L9⟩
def a7p:FG 132 a9k:=dQ f132 b5R
def b7o:FG 152 b6H:=dQ f152 b5T ⟨a7p,L9⟩
def b7k:FG 131 b6F:=dQ f131 b5Q ⟨b7o,L9⟩
theorem c2J:qL Go.Proofs.Tryz.prog gl 153 c6O:=YP Go.Proofs.Tryz.strings_Contains_one
def c2z:FG 133 c6F:=dQ f133 c4E ⟨c2J,L9⟩
def a1a:FG 179 b2Z:=dQ f179 c5b
def b7r:FG 177 c1O:=dQ f177 c4Z ⟨a1a,L9⟩
def b7s:FG 178 c1P:=dQ f178 c5a
def c2Y:FG 199 c7b:=dQ f199 c5j ⟨b1l,L9⟩
def c2Z:FG 200 c7c:=dQ f200 c5k
def b7x:FG 201 c1R:=dQ f201 c5l ⟨a3f,L9⟩
def b7y:FG 204 c1S:=dQ f204 c5o
def c3a:FG 202 c7d:=dQ f202 c5m ⟨b7y,a3f,L9⟩
def b7z:FG 219 c1T:=dQ f219 c5x
def c3b:FG 203 c7e:=dQ f203 c5n ⟨b7x,b7z,L9⟩
def c3j:FG 220 c7m:=dQ f220 c5y
def c3c:FG 205 c7f:=dQ f205 c5p ⟨b7z,c3j,L9⟩
def c2S:FG 180 c6W:=dQ f180 c5c ⟨c2Y,c2Z,b7x,c3a,c3b,b7y,c3c,L9⟩
def c2K:FG 154 c6P:=dQ f154 c4R ⟨b7r,b7s,a1a,c2S,L9⟩
def c2A:FG 134 c6G:=dQ f134 c4F ⟨c2K,L9⟩
def c2k:FG 104 c6t:=dQ f104 c4p ⟨a7t,a7p,b7k,c2z,c2A,L9⟩
theorem b7e:qL Go.Proofs.Tryz.prog gl 111 c1J:=a9A Go.Proofs.Tryz.slices_Sort_int Go.Proofs.Tryz.slices_Sort_int_none
theorem b7f:qL Go.Proofs.Tryz.prog gl 112 c1K:=a1x Go.Proofs.Tryz.slices_Compact_int Go.Proofs.Tryz.slices_Compact_int_empty
def c2s:FG 110 c6z:=dQ f110 c4v ⟨b7e,b7f,L9⟩
def c0H:FG 74 s74:=dQ f74 q74 ⟨c2s,L9⟩
def c2r:FG 109 c6y:=dQ f109 c4u ⟨c0H,L9⟩
def c0I:FG 75 s75:=dQ f75 q75 ⟨b7e,b7f,L9⟩
def b7M:FG 73 s73:=dQ f73 q73 ⟨c2r,c0I,L9⟩
def c0G:FG 72 s72:=dQ f72 q72
def b1i:FG 45 s45:=dQ f45 q45 ⟨b7M,c0G,L9⟩
def c2B:FG 135 c6H:=dQ f135 c4G
def c2l:FG 105 c6u:=dQ f105 c4q ⟨c2B,L9⟩
def c8x:FG 64 s64:=dQ f64 q64 ⟨b7L,c0F,a7n,b7d,a7t,c2i,c2j,c2k,b1i,c2l,L9⟩
def c8k:FG 36 s36:=dQ f36 q36 ⟨c8x,L9⟩
def c0C:FG 22 s22:=dQ f22 q22 ⟨c8i,c8j,c8k,L9⟩
def c8y:FG 65 s65:=dQ f65 q65
def c8l:FG 38 s38:=dQ f38 q38 ⟨c8y,L9⟩
def b9A:FG 37 c0r:=dQ f37 c0e ⟨c8l,L9⟩
def c8A:FG 66 s66:=dQ f66 q66
def c8m:FG 40 s40:=dQ f40 q40 ⟨c8A,L9⟩
def b9B:FG 39 c0s:=dQ f39 c0f ⟨c8m,L9⟩
def c8B:FG 67 s67:=dQ f67 q67
def c8n:FG 42 s42:=dQ f42 q42 ⟨c8B,L9⟩
def b9C:FG 41 c0t:=dQ f41 c0g ⟨c8n,L9⟩
def c7Y:FG 23 s23:=dQ f23 q23 ⟨b9A,b9B,b9C,L9⟩
def c2C:FG 136 c6I:=dQ f136 c4H ⟨b1l,L9⟩
def c2E:FG 137 c6J:=dQ f137 c4I
def c2n:FG 106 c6v:=dQ f106 c4r ⟨c2C,c2E,L9⟩
def c8C:FG 68 s68:=dQ f68 q68 ⟨c0C,c2n,L9⟩
def c8D:FG 69 s69:=dQ f69 q69
def c0E:FG 46 s46:=dQ f46 q46 ⟨b7M,c0G,c0H,c0I,L9⟩
def c2o:FG 107 c6w:=dQ f107 c4s ⟨b1i,L9⟩
def c8E:FG 70 s70:=dQ f70 q70 ⟨b1i,c0E,c2o,L9⟩
def b7K:FG 278 b6O:=dQ f278 b6b
def a9t:FG 156 b9q:=dQ f156 c4S
def b7J:FG 276 c2e:=dQ f276 c6l
def a9y:FG 279 b9v:=dQ f279 c6n
theorem c4h:IM Go.Proofs.Tryz.prog 268 "Less" 276 (some 269):=TS (by kernel_rfl)
theorem c1t:IM Go.Proofs.Tryz.prog 268 "Swap" 279 (some 269):=TS (by kernel_rfl)
def b7t:FG 181 b6K:=dQ f181 b5W ⟨b7J,a9y,L9⟩ (hm:=⟨c4h,c1t,trivial⟩)
theorem c4i:IM Go.Proofs.Tryz.prog 268 "Len" 156 (some 269):=TS (by kernel_rfl)
theorem c8V:IM Go.Proofs.Tryz.prog 268 "Push" 278 none:=λv w=>show(method _ 268 v "Push").run _ w= .ok (278,v) w by kernel_rfl
def b7p:FG 155 b6I:=dQ f155 b5U ⟨b7K,a9t,b7t,L9⟩ (hm:=⟨c4i,c8V,trivial⟩)
def b7u:FG 182 b6L:=dQ f182 b5X ⟨b7J,a9y,L9⟩ (hm:=⟨c4h,c1t,trivial⟩)
def c3I:FG 277 c7J:=dQ f277 c6m
theorem c8W:IM Go.Proofs.Tryz.prog 268 "Pop" 277 none:=λv w=>show(method _ 268 v "Pop").run _ w= .ok (277,v) w by kernel_rfl
def b7q:FG 157 b6J:=dQ f157 b5V ⟨a9t,a9y,b7u,c3I,L9⟩ (hm:=⟨c4i,c8W,c1t,trivial⟩)
def c2F:FG 138 c6K:=dQ f138 c4J ⟨b7M,b7p,a9t,b7q,L9⟩
def a9u:FG 185 b9r:=dQ f185 c5d ⟨b7N,L9⟩
def a7q:FG 184 a9l:=dQ f184 b5Z ⟨a9u,L9⟩
def b7v:FG 183 b6M:=dQ f183 b5Y ⟨a7q,L9⟩
def c2M:FG 158 c6Q:=dQ f158 c4T ⟨a7q,b7v,L9⟩
def c2O:FG 160 c6S:=dQ f160 c4W ⟨b7r,L9⟩
def c2W:FG 189 c6Z:=dQ f189 c5h ⟨a1a,L9⟩
def XD:FG 213 a9m:=dQ f213 c5w
def c3e:FG 208 c7h:=dQ f208 c5r ⟨a1a,b7s,L9⟩
def c3f:FG 209 c7i:=dQ f209 c5s
def c3g:FG 210 c7j:=dQ f210 c5t ⟨XD,L9⟩
def b7A:FG 222 c1V:=dQ f222 c5A ⟨XD,L9⟩
def a9v:FG 234 b9s:=dQ f234 c5M
def c3l:FG 223 c7o:=dQ f223 c5B ⟨a9v,L9⟩
def c3n:FG 224 c7p:=dQ f224 c5C ⟨a9v,L9⟩
def b7B:FG 226 c1W:=dQ f226 c5F
def c3o:FG 225 c7q:=dQ f225 c5E ⟨b7B,a9v,L9⟩
def c3h:FG 211 c7k:=dQ f211 c5u ⟨XD,b7A,c3l,c3n,c3o,b7B,L9⟩
def c3p:FG 227 c7r:=dQ f227 c5G ⟨b7A,XD,L9⟩
def a7s:FG 235 a9n:=dQ f235 b6a ⟨a9u,L9⟩
def b9F:FG 90 c0w:=dQ f90 c0i ⟨a7s,L9⟩
def c3q:FG 228 c7s:=dQ f228 c5H ⟨a7s,b9F,L9⟩
theorem b1k:qL Go.Proofs.Tryz.prog gl 80 s80:=a6o Go.Proofs.Tryz.bits_Mul64
def c2H:FG 144 c6M:=dQ f144 c4N
def c3F:FG 250 c7G:=dQ f250 c6c ⟨c2H,L9⟩
def a9w:FG 242 b9t:=dQ f242 c5T ⟨c3F,L9⟩
def c3u:FG 236 c7w:=dQ f236 c5N ⟨b1k,a9w,L9⟩
def a9x:FG 251 b9u:=dQ f251 c6d
def b1j:FG 50 s50:=dQ f50 q50
def b7E:FG 252 c1Z:=dQ f252 c6e
def b7F:FG 253 c2a:=dQ f253 c6f
def b7G:FG 254 c2b:=dQ f254 c6g
def a4O:FG 243 b6N:=dQ f243 c5V ⟨a9x,b1j,b7E,b7F,b7G,L9⟩
def c3v:FG 237 c7x:=dQ f237 c5O ⟨a4O,L9⟩
def c3r:FG 229 c7t:=dQ f229 c5I ⟨a9u,c3u,c3v,L9⟩
def b7C:FG 238 c1X:=dQ f238 c5P
def a4M:FG 119 b6z:=dQ f119 c4w
def c2Q:FG 174 c6U:=dQ f174 c4X
def b7m:FG 148 c1N:=dQ f148 c4O ⟨c2Q,L9⟩
def c2R:FG 175 c6V:=dQ f175 c4Y
def a9s:FG 149 b9p:=dQ f149 c4P ⟨c2R,L9⟩
def a4N:FG 120 b6A:=dQ f120 c4x ⟨a4M,b7m,a9s,L9⟩
def c3s:FG 230 c7u:=dQ f230 c5J ⟨b7C,a4N,L9⟩
def c3y:FG 244 c7A:=dQ f244 c5W ⟨b1k,L9⟩
def c3G:FG 255 c7H:=dQ f255 c6h ⟨a9x,b1j,b7E,b1k,a9w,b7F,b7G,L9⟩
def c3z:FG 245 c7B:=dQ f245 c5X ⟨c3G,L9⟩
def b7H:FG 256 c2c:=dQ f256 c6i
def b7I:FG 257 c2d:=dQ f257 c6j
def c3A:FG 246 c7C:=dQ f246 c5Y ⟨b7H,b7I,a4O,L9⟩
def c3B:FG 247 c7D:=dQ f247 c5Z ⟨a9x,b1j,a4O,L9⟩
def c3H:FG 258 c7I:=dQ f258 c6k
def c3C:FG 248 c7E:=dQ f248 c6a ⟨b7H,b7I,b1k,a9w,c3H,L9⟩
def c3w:FG 239 c7y:=dQ f239 c5Q ⟨c3y,c3z,c3A,c3B,a4O,c3C,L9⟩
def c3E:FG 249 c7F:=dQ f249 c6b ⟨a9s,b7m,L9⟩
def b7D:FG 240 c1Y:=dQ f240 c5R ⟨a4M,a4N,a9s,c3E,L9⟩
def c3x:FG 241 c7z:=dQ f241 c5S ⟨a4M,a4N,b7D,L9⟩
def c3t:FG 231 c7v:=dQ f231 c5K ⟨c3w,b7C,b7D,c3x,L9⟩
def c3i:FG 212 c7l:=dQ f212 c5v ⟨c3p,c3q,c3r,c3s,c3t,L9⟩
def c2X:FG 191 c7a:=dQ f191 c5i ⟨c3e,a1a,c3f,c3g,c3h,c3i,XD,L9⟩
theorem b9I:∀n,qL P gl 207 ⟨b5I,[(true,(.dat (.prod (.int .i64) (.prod (.int .i64) (.int .i64))))),(false,(.dat (.int .i64)))],[],λx=>(D7 n).1 x.1 x.2⟩/\qL P gl 161 ⟨a2U,[(true,(.dat (.prod (.int .i64) (.prod (.int .i64) (.int .i64))))),(false,(.dat (.int .i64)))],[],λx=>(D7 n).2.1 x.1 x.2⟩/\qL P gl 190 ⟨b5H,[(true,(.dat (.prod (.int .i64) (.prod (.int .i64) (.int .i64))))),(false,(.dat (.int .i64)))],[],λx=>(D7 n).2.2 x.1 x.2.1 x.2.2⟩:=by
 intro n;induction n with
 |zero=>exact⟨(λw ok O vals x r _ _ _ _ _ h=>by cases h),(λw ok O vals x r _ _ _ _ _ h=>by cases h),(λw ok O vals x r _ _ _ _ _ h=>by cases h)⟩
 |succ n ih=>exact⟨dS f207 b5I c6p (c8U (D7 n).1 (D7 n).2.1 (D7 n).2.2) c3Q (by kernel_rfl) rfl trivial ⟨ih.2.1,XD,trivial⟩ λx=>by kernel_rfl,
  dS f161 a2U c0q (c8S (D7 n).1 (D7 n).2.1 (D7 n).2.2) c3O (by kernel_rfl) rfl trivial ⟨c2W,ih.2.2,ih.2.1,c2X,trivial⟩ λx=>by kernel_rfl,
  dS f190 b5H c6o (c8T (D7 n).1 (D7 n).2.1 (D7 n).2.2) c3P (by kernel_rfl) rfl trivial ⟨ih.1,ih.2.1,trivial⟩ λx=>by kernel_rfl⟩
theorem c2P:qL P gl 161 c6T:=(b9I lG).2.1
def b7l:FG 140 c1M:=dQ f140 c4M ⟨c2O,c2P,L9⟩
def c2T:FG 186 c6X:=dQ f186 c5e
def c3k:FG 221 c7n:=dQ f221 c5z
def c3d:FG 206 c7g:=dQ f206 c5q ⟨c3k,L9⟩
def b7w:FG 188 c1Q:=dQ f188 c5g ⟨c3d,L9⟩
def c2V:FG 187 c6Y:=dQ f187 c5f ⟨b7w,L9⟩
def c2N:FG 159 c6R:=dQ f159 c4V ⟨c2T,c2V,b7w,L9⟩
def c2G:FG 139 c6L:=dQ f139 c4K ⟨c2M,b7l,c2N,L9⟩
def c2p:FG 108 c6x:=dQ f108 c4t ⟨c2F,c2G,b7l,L9⟩
def c8F:FG 71 s71:=dQ f71 q71 ⟨c2p,L9⟩
def c8o:FG 43 s43:=dQ f43 q43 ⟨c8C,c8D,c8E,c8F,L9⟩
def c7Z:FG 24 s24:=dQ f24 q24 ⟨c8o,L9⟩
def c8p:FG 44 s44:=dQ f44 q44
def c8a:FG 25 s25:=dQ f25 q25 ⟨b1i,c8p,c0E,L9⟩
def c8q:FG 47 s47:=dQ f47 q47
def c8r:FG 48 s48:=dQ f48 q48
def c8G:FG 76 s76:=dQ f76 q76
def c8H:FG 77 s77:=dQ f77 q77
def c8s:FG 49 s49:=dQ f49 q49 ⟨c8G,c8H,L9⟩
def c8b:FG 26 s26:=dQ f26 q26 ⟨c8q,c8r,c8s,L9⟩
def c7T:FG 15 s15:=dQ f15 q15 ⟨c0C,c7Y,c7Z,c8a,c8b,L9⟩
def b9D:FG 8 s8:=dQ f8 q8
def c8c:FG 27 s27:=dQ f27 q27 ⟨b9D,L9⟩
def c8d:FG 28 s28:=dQ f28 q28
def c8e:FG 29 s29:=dQ f29 q29 ⟨b1j,L9⟩
def c7U:FG 16 s16:=dQ f16 q16 ⟨c8c,c8d,c8e,L9⟩
def c8v:FG 6 s6:=dQ f6 q6 ⟨c7T,c7U,L9⟩
theorem c8f:qL Go.Proofs.Tryz.prog gl 30 s30:=a8C (g:=0) Go.Proofs.Tryz.strconv_Itoa (by kernel_rfl) (by kernel_rfl)
def a7r:FG 19 s19:=dQ f19 q19 ⟨c8f,L9⟩
def c8g:FG 31 s31:=dQ f31 q31
theorem c0D:qL Go.Proofs.Tryz.prog gl 32 s32:=a4D Go.Proofs.Tryz.strings_Repeat
def c0B:FG 20 s20:=dQ f20 q20 ⟨c8g,a7r,c0D,L9⟩
def c8I:FG 85 s85:=dQ f85 q85 ⟨b1l,L9⟩
def c2t:FG 121 c6A:=dQ f121 c4y ⟨a7r,c0D,L9⟩
def c8J:FG 86 s86:=dQ f86 q86 ⟨a4M,a4N,c2t,L9⟩
def c8t:FG 58 s58:=dQ f58 q58 ⟨a3f,c8I,a7r,c0B,c8J,L9⟩
def c8h:FG 33 s33:=dQ f33 q33 ⟨a7r,c8t,L9⟩
def c7X:FG 21 s21:=dQ f21 q21 ⟨c8h,L9⟩
def c7R:FG 13 s13:=dQ f13 q13 ⟨a7r,c0B,b9D,c7X,L9⟩
def c7V:FG 17 s17:=dQ f17 q17
def c8L:FG 9 s9:=dQ f9 q9 ⟨b9D,c7V,L9⟩
def c7S:FG 14 s14:=dQ f14 q14
def c9d:FG 5 s5:=dQ f5 q5 ⟨c7Q,c8v,c7R,c8L,c7S,L9⟩
def c9e:FG 7 s7:=dQ f7 q7
def c9a:FG 3 s3:=dQ f3 q3 ⟨c9c,c9d,c8v,c9e,b9D,c8L,L9⟩
end Gt
