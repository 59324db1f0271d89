import Derived.Test.YtenobbecpmncbaaGreatDoorT2
import Derived.Test.YtenobbecpmncbaaGreatDoorProg
import Derived.Test.YtenobbecpmncbaaGreatDoorShelf
set_option linter.all false
open Go Go.GP Go.Proofs.Tryz
namespace Gt
set_option maxRecDepth 100000
noncomputable abbrev P:Program:=Go.Proofs.Tryz.prog
theorem c1x:a2f P tt=true:=by kernel_rfl
theorem b4E:∀t sh,dV eqs t=some sh->Ko P t sh:=a0q (by kernel_rfl)
theorem dS{f:FuncId}(fn:Func)(ps:List MG)(rt:Ret)(E:Env)(an:Ann){F:dX ps->Option rt.den}(h:(P.funcs[f]?,fn.body,fn.ntmps,fn.results.toList,Nat.ble (64*E.nt) 999936,Xz P E.fs)=(some fn,some (Yx fn),E.nt,rt.rs.map (·.1),true,true))(ht:(E.tt,E.eqs)=(tt,eqs))(hm:ZO P E.ms)(hs:a7n P E.gl E.fs)(hF:∀x,b2f E ps rt (Yx fn) an x=F x):
  lK P E.gl f ⟨ps,rt.rs.map (·.2),rt.outs.map (·.2),F⟩:=by
 injection h with h1 h;injection h with h2 h;injection h with h3 h;injection h with h4 h;injection h with h5 h6;injection ht with t1 t2;exact a2B h1 h2 h3 h4 (a8d h5 (t1▸c1x) (t2▸b4E) h6 hm hs) λx r h=>(hF x).trans h
theorem dQ{f:FuncId}(fn:Func)(q:FQ){F:dX q.ps->Option q.rt.den}(hs:a7n P q.E.gl q.E.fs:=by exact trivial)(h:(P.funcs[f]?,fn.body,fn.ntmps,fn.results.toList,Nat.ble (64*q.E.nt) 999936,Xz P q.E.fs)=(some fn,some (Yx fn),q.E.nt,q.rt.rs.map (·.1),true,true):=by kernel_rfl)(ht:(q.E.tt,q.E.eqs)=(tt,eqs):=by rfl)(hm:ZO P q.E.ms:=by exact trivial)(hF:∀x,b2f q.E q.ps q.rt (Yx fn) q.an x=F x:=by intro x;kernel_rfl):
  lK P q.E.gl f ⟨q.ps,q.rt.rs.map (·.2),q.rt.outs.map (·.2),F⟩:=dS fn q.ps q.rt q.E q.an h ht hm hs hF
abbrev FG(n:FuncId)(s:FSpec):=lK P gl n s
theorem c0u:FG 10 s10:=dQ f10 q10
theorem c1T:FG 4 s4:=dQ f4 q4 ⟨c0u,I9⟩
theorem c1V:FG 5 s5:=dQ f5 q5
theorem c0w:FG 11 s11:=dQ f11 q11
theorem b0M:FG 102 b5c:=dQ f102 b7k
theorem b5O:FG 137 b9r:=dQ f137 b7F
theorem b5z:FG 103 b9c:=dQ f103 b7l ⟨b0M,b5O,I9⟩
theorem b5A:FG 104 b9d:=dQ f104 b7m
theorem a1U:FG 73 s73:=dQ f73 q73 ⟨b0M,b5z,b5A,I9⟩
theorem a1N:FG 106 a3D:=dQ f106 a9x
theorem b0V:FG 138 b0u:=dQ f138 a9G ⟨a1N,I9⟩
theorem b0N:FG 105 b0m:=dQ f105 a9w ⟨b0V,I9⟩
theorem b1v:FG 74 s74:=dQ f74 q74 ⟨a1N,b0N,I9⟩
theorem b5M:FG 135 b9p:=dQ f135 b7D
theorem c1u:FG 97 s97:=dQ f97 q97 ⟨b5M,I9⟩
theorem c1g:FG 71 s71:=dQ f71 q71 ⟨a1U,b1v,c1u,I9⟩
theorem c0U:FG 50 s50:=dQ f50 q50 ⟨c1g,I9⟩
theorem Yk:FG 92 s92:=dQ f92 q92
theorem a5E:FG 77 s77:=dQ f77 q77 ⟨Yk,I9⟩
theorem b1x:FG 98 s98:=dQ f98 q98
theorem b6a:FG 175 b9D:=dQ f175 b7V ⟨b1x,I9⟩
theorem b5N:FG 136 b9q:=dQ f136 b7E ⟨b6a,I9⟩
theorem b5y:FG 101 b9b:=dQ f101 b7j ⟨b5N,I9⟩
theorem a1M:FG 100 a3C:=dQ f100 a9v ⟨b5y,I9⟩
theorem b3j:FG 99 b3T:=dQ f99 b3L ⟨a1M,I9⟩
theorem c1h:FG 72 s72:=dQ f72 q72 ⟨Yk,a5E,b1x,a1M,b3j,I9⟩
theorem a1O:FG 108 a3E:=dQ f108 a9z
theorem b0W:FG 139 b0v:=dQ f139 a9H ⟨a1O,I9⟩
theorem b0O:FG 107 b0n:=dQ f107 a9y ⟨b0W,I9⟩
theorem b4c:FG 75 s75:=dQ f75 q75 ⟨a1O,b0O,I9⟩
theorem c0V:FG 51 s51:=dQ f51 q51 ⟨c1h,a1U,b1v,b4c,I9⟩
theorem a1P:FG 110 a3F:=dQ f110 a9B
theorem b0X:FG 140 b0w:=dQ f140 a9I ⟨a1P,I9⟩
theorem b0P:FG 109 b0o:=dQ f109 a9A ⟨b0X,I9⟩
theorem a1R:FG 141 a3H:=dQ f141 a9J
theorem b1b:FG 176 b0z:=dQ f176 a9N ⟨a1R,I9⟩
theorem b0Y:FG 142 b0x:=dQ f142 a9K ⟨b1b,I9⟩
theorem b5B:FG 111 b9e:=dQ f111 b7n ⟨a1R,a1U,b0Y,Yk,I9⟩
theorem b5P:FG 143 b9s:=dQ f143 b7G
theorem b5C:FG 112 b9f:=dQ f112 b7o ⟨b5P,I9⟩
theorem a1S:FG 145 a3I:=dQ f145 a9M
theorem b1c:FG 177 b0A:=dQ f177 a9O ⟨a1S,I9⟩
theorem b0Z:FG 144 b0y:=dQ f144 a9L ⟨b1c,I9⟩
theorem b6b:lK Go.Proofs.Tryz.prog gl 178 b9E:=Sv Go.Proofs.Tryz.strings_Contains_one
theorem b5Q:FG 146 b9t:=dQ f146 b7H ⟨b6b,I9⟩
theorem VW:FG 161 a7b:=dQ f161 b7M
theorem b0U:FG 125 b5e:=dQ f125 b7v ⟨VW,I9⟩
theorem b1d:FG 187 b5g:=dQ f187 b7Y
theorem b6t:FG 218 b9W:=dQ f218 b8t ⟨a5E,I9⟩
theorem b6u:FG 219 b9X:=dQ f219 b8u
theorem b1j:FG 220 b5l:=dQ f220 b8v ⟨Yk,I9⟩
theorem b1k:FG 223 b5m:=dQ f223 b8y
theorem b6v:FG 221 b9Y:=dQ f221 b8w ⟨b1k,Yk,I9⟩
theorem b1l:FG 237 b5n:=dQ f237 b8I
theorem b6w:FG 222 b9Z:=dQ f222 b8x ⟨b1j,b1l,I9⟩
theorem b6E:FG 238 c0j:=dQ f238 b8J
theorem b6x:FG 224 c0c:=dQ f224 b8z ⟨b1l,b6E,I9⟩
theorem b6o:FG 205 b9R:=dQ f205 b8l ⟨b6t,b6u,b1j,b6v,b6w,b1k,b6x,I9⟩
theorem b6c:FG 179 b9F:=dQ f179 b7W ⟨b0U,b1d,VW,b6o,I9⟩
theorem b5R:FG 147 b9u:=dQ f147 b7I ⟨b6c,I9⟩
theorem b5D:FG 113 b9g:=dQ f113 b7p ⟨a1U,a1S,b0Z,b5Q,b5R,I9⟩
theorem b4d:lK Go.Proofs.Tryz.prog gl 80 s80:=a3W Go.Proofs.Tryz.slices_Sort_int Go.Proofs.Tryz.slices_Sort_int_none
theorem b4e:lK Go.Proofs.Tryz.prog gl 81 s81:=WB Go.Proofs.Tryz.slices_Compact_int Go.Proofs.Tryz.slices_Compact_int_empty
theorem c1k:FG 79 s79:=dQ f79 q79 ⟨b4d,b4e,I9⟩
theorem b3Z:FG 57 s57:=dQ f57 q57 ⟨c1k,I9⟩
theorem c1j:FG 78 s78:=dQ f78 q78 ⟨b3Z,I9⟩
theorem b4a:FG 58 s58:=dQ f58 q58 ⟨b4d,b4e,I9⟩
theorem b1u:FG 56 s56:=dQ f56 q56 ⟨c1j,b4a,I9⟩
theorem b3Y:FG 55 s55:=dQ f55 q55
theorem b1t:FG 30 s30:=dQ f30 q30 ⟨b1u,b3Y,I9⟩
theorem b5S:FG 148 b9v:=dQ f148 b7J
theorem b5E:FG 114 b9h:=dQ f114 b7q ⟨b5S,I9⟩
theorem c1i:FG 76 s76:=dQ f76 q76 ⟨b1v,b4c,a1P,b0P,a1U,b5B,b5C,b5D,b1t,b5E,I9⟩
theorem c0W:FG 52 s52:=dQ f52 q52 ⟨c1i,I9⟩
theorem c0I:FG 28 s28:=dQ f28 q28 ⟨c0U,c0V,c0W,I9⟩
theorem c0X:FG 53 s53:=dQ f53 q53 ⟨a5E,I9⟩
theorem c0Y:FG 54 s54:=dQ f54 q54
theorem c0J:FG 29 s29:=dQ f29 q29 ⟨c0X,c0Y,I9⟩
theorem c0B:FG 16 s16:=dQ f16 q16 ⟨c0I,c0J,I9⟩
theorem c0C:FG 17 s17:=dQ f17 q17
theorem c0K:FG 31 s31:=dQ f31 q31 ⟨b1u,b3Y,b3Z,b4a,I9⟩
theorem c0L:FG 32 s32:=dQ f32 q32 ⟨b1t,I9⟩
theorem c0D:FG 18 s18:=dQ f18 q18 ⟨b1t,c0K,c0L,I9⟩
theorem b1s:FG 270 b0D:=dQ f270 a9Q
theorem b1w:FG 83 s83:=dQ f83 q83
theorem b1r:FG 268 b5t:=dQ f268 b8U
theorem a3U:FG 271 b2W:=dQ f271 b8W
theorem b7f:Dw Go.Proofs.Tryz.prog 189 "Less" 268 (some 190):=MQ (by kernel_rfl)
theorem b4O:Dw Go.Proofs.Tryz.prog 189 "Swap" 271 (some 190):=MQ (by kernel_rfl)
theorem b0Q:FG 117 b0p:=dQ f117 a9C ⟨b1r,a3U,I9⟩ (hm:=⟨b7f,b4O,trivial⟩)
theorem b7g:Dw Go.Proofs.Tryz.prog 189 "Len" 83 (some 190):=MQ (by kernel_rfl)
theorem c1J:Dw Go.Proofs.Tryz.prog 189 "Push" 270 none:=λv w=>show(method _ 189 v "Push").run _ w= .ok (270,v) w by kernel_rfl
theorem b3h:FG 82 b3R:=dQ f82 b3J ⟨b1s,b1w,b0Q,I9⟩ (hm:=⟨b7g,c1J,trivial⟩)
theorem b0R:FG 118 b0q:=dQ f118 a9D ⟨b1r,a3U,I9⟩ (hm:=⟨b7f,b4O,trivial⟩)
theorem b6I:FG 269 c0o:=dQ f269 b8V
theorem c1K:Dw Go.Proofs.Tryz.prog 189 "Pop" 269 none:=λv w=>show(method _ 189 v "Pop").run _ w= .ok (269,v) w by kernel_rfl
theorem b3i:FG 84 b3S:=dQ f84 b3K ⟨b1w,a3U,b0R,b6I,I9⟩ (hm:=⟨b7g,c1K,b4O,trivial⟩)
theorem c0Z:FG 59 s59:=dQ f59 q59 ⟨b1u,b3h,b1w,b3i,I9⟩
theorem a3O:FG 121 b2Q:=dQ f121 b7r ⟨b1x,I9⟩
theorem a1Q:FG 120 a3G:=dQ f120 a9F ⟨a3O,I9⟩
theorem b0S:FG 119 b0r:=dQ f119 a9E ⟨a1Q,I9⟩
theorem c1l:FG 85 s85:=dQ f85 q85 ⟨a1Q,b0S,I9⟩
theorem c1n:FG 87 s87:=dQ f87 q87 ⟨b0U,I9⟩
theorem b5H:FG 126 b9k:=dQ f126 b7w ⟨VW,I9⟩
theorem QL:FG 168 a3J:=dQ f168 b7S
theorem b5V:FG 163 b9y:=dQ f163 b7N ⟨VW,b1d,I9⟩
theorem b5W:FG 164 b9z:=dQ f164 b7O
theorem b5X:FG 165 b9A:=dQ f165 b7P ⟨QL,I9⟩
theorem b1e:FG 188 b5h:=dQ f188 b7Z ⟨QL,I9⟩
theorem a3Q:FG 207 b2S:=dQ f207 b8m
theorem b6e:FG 189 b9H:=dQ f189 b8a ⟨a3Q,I9⟩
theorem b6f:FG 190 b9I:=dQ f190 b8b ⟨a3Q,I9⟩
theorem b1f:FG 192 b5i:=dQ f192 b8d
theorem b6g:FG 191 b9J:=dQ f191 b8c ⟨b1f,a3Q,I9⟩
theorem b5Y:FG 166 b9B:=dQ f166 b7Q ⟨QL,b1e,b6e,b6f,b6g,b1f,I9⟩
theorem b6h:FG 193 b9K:=dQ f193 b8e ⟨b1e,QL,I9⟩
theorem a1T:FG 208 a3K:=dQ f208 a9P ⟨a3O,I9⟩
theorem b3k:FG 99 b3U:=dQ f99 b3M ⟨a1T,I9⟩
theorem b6i:FG 194 b9L:=dQ f194 b8f ⟨a1T,b3k,I9⟩
theorem a5D:lK Go.Proofs.Tryz.prog gl 63 s63:=a1f Go.Proofs.Tryz.bits_Mul64
theorem b5T:FG 159 b9w:=dQ f159 b7K
theorem b6F:FG 239 c0k:=dQ f239 b8K ⟨b5T,I9⟩
theorem a3R:FG 225 b2T:=dQ f225 b8A ⟨b6F,I9⟩
theorem b6p:FG 209 b9S:=dQ f209 b8n ⟨a5D,a3R,I9⟩
theorem a3S:FG 240 b2U:=dQ f240 b8L
theorem a3T:FG 241 b2V:=dQ f241 b8M
theorem b1m:FG 242 b5o:=dQ f242 b8N
theorem b1n:FG 243 b5p:=dQ f243 b8O
theorem b1o:FG 244 b5q:=dQ f244 b8P
theorem ZE:FG 226 b0B:=dQ f226 b8B ⟨a3S,a3T,b1m,b1n,b1o,I9⟩
theorem b6q:FG 210 b9T:=dQ f210 b8o ⟨ZE,I9⟩
theorem b6j:FG 195 b9M:=dQ f195 b8g ⟨a3O,b6p,b6q,I9⟩
theorem b1h:FG 211 b5j:=dQ f211 b8p
theorem ZB:FG 131 b0s:=dQ f131 b7z
theorem b6m:FG 202 b9P:=dQ f202 b8j
theorem b1a:FG 173 b5f:=dQ f173 b7T ⟨b6m,I9⟩
theorem b6n:FG 203 b9Q:=dQ f203 b8k
theorem a3P:FG 174 b2R:=dQ f174 b7U ⟨b6n,I9⟩
theorem ZC:FG 132 b0t:=dQ f132 b7A ⟨ZB,b1a,a3P,I9⟩
theorem b6k:FG 196 b9N:=dQ f196 b8h ⟨b1h,ZC,I9⟩
theorem b6y:FG 227 c0d:=dQ f227 b8C ⟨a5D,I9⟩
theorem b6G:FG 245 c0l:=dQ f245 b8Q ⟨a3S,a3T,b1m,a5D,a3R,b1n,b1o,I9⟩
theorem b6z:FG 228 c0e:=dQ f228 b8D ⟨b6G,I9⟩
theorem b1p:FG 246 b5r:=dQ f246 b8R
theorem b1q:FG 247 b5s:=dQ f247 b8S
theorem b6A:FG 229 c0f:=dQ f229 b8E ⟨b1p,b1q,ZE,I9⟩
theorem b6B:FG 230 c0g:=dQ f230 b8F ⟨a3S,a3T,ZE,I9⟩
theorem b6H:FG 248 c0n:=dQ f248 b8T
theorem b6C:FG 231 c0h:=dQ f231 b8G ⟨b1p,b1q,a5D,a3R,b6H,I9⟩
theorem b6r:FG 212 b9U:=dQ f212 b8q ⟨b6y,b6z,b6A,b6B,ZE,b6C,I9⟩
theorem b6D:FG 232 c0i:=dQ f232 b8H ⟨a3P,b1a,I9⟩
theorem b1i:FG 213 b5k:=dQ f213 b8r ⟨ZB,ZC,a3P,b6D,I9⟩
theorem b6s:FG 214 b9V:=dQ f214 b8s ⟨ZB,ZC,b1i,I9⟩
theorem b6l:FG 197 b9O:=dQ f197 b8i ⟨b6r,b1h,b1i,b6s,I9⟩
theorem b5Z:FG 167 b9C:=dQ f167 b7R ⟨b6h,b6i,b6j,b6k,b6l,I9⟩
theorem b5I:FG 128 b9l:=dQ f128 b7x ⟨b5V,VW,b5W,b5X,b5Y,b5Z,QL,I9⟩
theorem b3l:∀n,lK P gl 162 ⟨a9u,[(true,(.dat (.prod (.int .i64) (.prod (.int .i64) (.int .i64))))),(false,(.dat (.int .i64)))],[],λx=>(D5 n).1 x.1 x.2⟩/\lK P gl 88 ⟨a6Q,[(true,(.dat (.prod (.int .i64) (.prod (.int .i64) (.int .i64))))),(false,(.dat (.int .i64)))],[],λx=>(D5 n).2.1 x.1 x.2⟩/\lK P gl 127 ⟨a9t,[(true,(.dat (.prod (.int .i64) (.prod (.int .i64) (.int .i64))))),(false,(.dat (.int .i64)))],[],λx=>(D5 n).2.2 x.1 x.2.1 x.2.2⟩:=by
 intro n;induction n with
 |zero=>exact⟨(λw ok O vals x r _ _ _ _ _ h=>by cases h),(λw ok O vals x r _ _ _ _ _ h=>by cases h),(λw ok O vals x r _ _ _ _ _ h=>by cases h)⟩
 |succ n ih=>exact⟨dS f162 a9u b8Z (c1I (D5 n).1 (D5 n).2.1 (D5 n).2.2) b6O (by kernel_rfl) rfl trivial ⟨ih.2.1,QL,trivial⟩ λx=>by kernel_rfl,
  dS f88 a6Q b9a (e88 (D5 n).1 (D5 n).2.1 (D5 n).2.2) c1G (by kernel_rfl) rfl trivial ⟨b5H,ih.2.2,ih.2.1,b5I,trivial⟩ λx=>by kernel_rfl,
  dS f127 a9t b8X (c1H (D5 n).1 (D5 n).2.1 (D5 n).2.2) b6N (by kernel_rfl) rfl trivial ⟨ih.1,ih.2.1,trivial⟩ λx=>by kernel_rfl⟩
theorem c1o:lK P gl 88 s88:=(b3l jS).2.1
theorem b4b:FG 61 s61:=dQ f61 q61 ⟨c1n,c1o,I9⟩
theorem b5F:FG 122 b9i:=dQ f122 b7s
theorem b6d:FG 186 b9G:=dQ f186 b7X
theorem b5U:FG 160 b9x:=dQ f160 b7L ⟨b6d,I9⟩
theorem b0T:FG 124 b5d:=dQ f124 b7u ⟨b5U,I9⟩
theorem b5G:FG 123 b9j:=dQ f123 b7t ⟨b0T,I9⟩
theorem c1m:FG 86 s86:=dQ f86 q86 ⟨b5F,b5G,b0T,I9⟩
theorem c1b:FG 60 s60:=dQ f60 q60 ⟨c1l,b4b,c1m,I9⟩
theorem c0M:FG 33 s33:=dQ f33 q33 ⟨c0Z,c1b,b4b,I9⟩
theorem c0E:FG 19 s19:=dQ f19 q19 ⟨c0M,I9⟩
theorem b6J:FG 8 s8:=dQ f8 q8 ⟨c0B,c0C,c0D,c0E,I9⟩
theorem b3X:FG 23 s23:=dQ f23 q23 ⟨b6J,I9⟩
theorem a5C:FG 47 b0E:=dQ f47 b3H
theorem b3g:FG 69 b3Q:=dQ f69 b3I ⟨a5C,I9⟩
theorem b3f:FG 46 b3P:=dQ f46 b3G ⟨b3g,I9⟩
theorem b3e:FG 24 b3O:=dQ f24 b3E ⟨a5C,b3f,I9⟩
theorem a5A:FG 25 b0C:=dQ f25 b3F
theorem b5L:FG 134 b9o:=dQ f134 b7C
theorem c1t:FG 96 s96:=dQ f96 q96 ⟨b5L,I9⟩
theorem c1f:FG 70 s70:=dQ f70 q70 ⟨c1t,I9⟩
theorem c0S:FG 48 s48:=dQ f48 q48 ⟨c1f,I9⟩
theorem c0H:FG 26 s26:=dQ f26 q26 ⟨b3X,c0S,I9⟩
theorem c0T:FG 49 s49:=dQ f49 q49
theorem b6K:∀n,lK P gl 15 ⟨b2C,[],[(true,(.pair (.own (.prod (.int .i64) (.prod (.int .i64) (.prod (.int .i64) (.prod (.int .i64) (.prod (.int .i64) (.prod (.int .i64) (.prod (.int .i64) (.int .i64))))))))) (.pair (.dat (.prod (.sl (.prod .str (.sl .str))) (.prod (.sl (.prod .str (.prod (.prod (.int .i64) (.int .i64)) (.prod (.prod (.int .i64) (.int .i64)) (.sl (.prod (.prod (.int .i64) (.int .i64)) (.prod (.int .i64) (.prod (.int .i64) (.int .i64))))))))) (.sl (.prod .str (.prod (.int .i64) (.prod (.sl (.prod .str (.prod (.int .i64) (.int .i64)))) (.prod (.sl (.prod .str (.prod (.int .i64) (.int .i64)))) (.sl (.prod .str (.prod (.int .i64) (.prod (.int .i64) (.prod (.int .i64) (.prod (.prod (.int .i64) (.int .i64)) (.prod (.sl (.prod (.int .i64) (.int .i64))) (.prod (.sl (.prod (.int .i64) (.int .i64))) .str)))))))))))))))) (.pair (.dat (.int .i64)) (.pair (.dat (.prod (.int .i64) (.prod (.sl (.prod (.int .i64) (.prod (.int .i64) (.int .i64)))) (.sl (.sl (.prod (.int .i64) (.prod (.int .i64) (.int .i64)))))))) (.pair (.own (.ent true true (.prod (.int .i64) (.int .i64)) (.prod (.prod (.int .i64) (.prod (.int .i64) (.int .i64))) (.int .i64)))) (.dat (.prod (.int .i64) (.prod (.int .i64) (.prod (.int .i64) (.int .i64)))))))))))],λx=>(I8 n).1 x.1 x.2.1 x.2.2⟩/\lK P gl 27 ⟨b4X,[],[(true,(.pair (.own (.prod (.int .i64) (.prod (.int .i64) (.prod (.int .i64) (.prod (.int .i64) (.prod (.int .i64) (.prod (.int .i64) (.prod (.int .i64) (.int .i64))))))))) (.pair (.dat (.prod (.sl (.prod .str (.sl .str))) (.prod (.sl (.prod .str (.prod (.prod (.int .i64) (.int .i64)) (.prod (.prod (.int .i64) (.int .i64)) (.sl (.prod (.prod (.int .i64) (.int .i64)) (.prod (.int .i64) (.prod (.int .i64) (.int .i64))))))))) (.sl (.prod .str (.prod (.int .i64) (.prod (.sl (.prod .str (.prod (.int .i64) (.int .i64)))) (.prod (.sl (.prod .str (.prod (.int .i64) (.int .i64)))) (.sl (.prod .str (.prod (.int .i64) (.prod (.int .i64) (.prod (.int .i64) (.prod (.prod (.int .i64) (.int .i64)) (.prod (.sl (.prod (.int .i64) (.int .i64))) (.prod (.sl (.prod (.int .i64) (.int .i64))) .str)))))))))))))))) (.pair (.dat (.int .i64)) (.pair (.dat (.prod (.int .i64) (.prod (.sl (.prod (.int .i64) (.prod (.int .i64) (.int .i64)))) (.sl (.sl (.prod (.int .i64) (.prod (.int .i64) (.int .i64)))))))) (.pair (.own (.ent true true (.prod (.int .i64) (.int .i64)) (.prod (.prod (.int .i64) (.prod (.int .i64) (.int .i64))) (.int .i64)))) (.dat (.prod (.int .i64) (.prod (.int .i64) (.prod (.int .i64) (.int .i64)))))))))))],λx=>(I8 n).2 x.1 x.2.1 x.2.2.1 x.2.2.2⟩:=by
 intro n;induction n with
 |zero=>exact⟨(λw ok O vals x r _ _ _ _ _ h=>by cases h),(λw ok O vals x r _ _ _ _ _ h=>by cases h)⟩
 |succ n ih=>exact⟨dS f15 b2C b8Y (e15 (I8 n).1 (I8 n).2) c1E (by kernel_rfl) rfl trivial ⟨b3X,b3e,a5A,c0H,ih.2,trivial⟩ λx=>by kernel_rfl,
  dS f27 b4X c1R (e27 (I8 n).1 (I8 n).2) c1F (by kernel_rfl) rfl trivial ⟨c0T,a5A,ih.1,trivial⟩ λx=>by kernel_rfl⟩
theorem c0A:lK P gl 15 s15:=(b6K jS).1
theorem c1e:FG 7 s7:=dQ f7 q7 ⟨b6J,c0A,I9⟩
theorem c0x:FG 12 s12:=dQ f12 q12
theorem b1g:lK Go.Proofs.Tryz.prog gl 21 s21:=Zu Go.Proofs.Tryz.strings_Repeat
theorem c0N:FG 40 s40:=dQ f40 q40
theorem c1c:lK Go.Proofs.Tryz.prog gl 67 s67:=a2V (g:=1) Go.Proofs.Tryz.strconv_Itoa (by kernel_rfl) (by kernel_rfl)
theorem a5B:FG 41 s41:=dQ f41 q41 ⟨c1c,I9⟩
theorem c0O:FG 42 s42:=dQ f42 q42
theorem c1q:FG 93 s93:=dQ f93 q93 ⟨a5E,I9⟩
theorem b5J:FG 130 b9m:=dQ f130 b7y
theorem c1r:FG 94 s94:=dQ f94 q94 ⟨b5J,a5B,b1g,I9⟩
theorem b5K:FG 133 b9n:=dQ f133 b7B ⟨a5B,b1g,I9⟩
theorem c1s:FG 95 s95:=dQ f95 q95 ⟨ZB,ZC,b5K,I9⟩
theorem c1d:FG 68 s68:=dQ f68 q68 ⟨Yk,c1q,a5B,c1r,c1s,I9⟩
theorem c0P:FG 43 s43:=dQ f43 q43 ⟨c1d,I9⟩
theorem c0Q:FG 44 s44:=dQ f44 q44
theorem c0R:FG 45 s45:=dQ f45 q45
theorem c0G:FG 22 s22:=dQ f22 q22 ⟨c0N,a5B,c0O,c0P,c0Q,c0R,I9⟩
theorem c0z:FG 14 s14:=dQ f14 q14 ⟨b1g,c0G,I9⟩
theorem c0y:FG 13 s13:=dQ f13 q13
theorem c0F:FG 20 s20:=dQ f20 q20
theorem c1p:FG 9 s9:=dQ f9 q9 ⟨c0F,I9⟩
theorem c1W:FG 6 s6:=dQ f6 q6 ⟨c0w,c1e,c0x,c0z,c0y,c1p,I9⟩
theorem c1S:FG 3 s3:=dQ f3 q3 ⟨c1T,c1V,c1W,c1e,b6J,c1p,I9⟩
end Gt
