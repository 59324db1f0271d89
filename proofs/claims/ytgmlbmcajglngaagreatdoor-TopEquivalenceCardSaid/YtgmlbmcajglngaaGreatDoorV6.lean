import Derived.Test.YtgmlbmcajglngaaGreatDoorV5
import Derived.Test.YtgmlbmcajglngaaGreatDoorV3
import Derived.Test.YtgmlbmcajglngaaGreatDoorProg
import Derived.Test.YtgmlbmcajglngaaGreatDoorShelf
set_option linter.all false
open Go Go.GP Go.Shelf Go.RowKit Go.Proofs Go.Proofs.Tryz
namespace Gt
set_option maxRecDepth 100000
noncomputable abbrev P:Program:=Go.Proofs.Tryz.prog
theorem a3u:a8b P tt=true:=by kernel_rfl
theorem WG:∀t sh,fZ eqs t=some sh->QS P t sh:=a6j (by kernel_rfl)
variable {f:FuncId}
theorem dS(fn:Func)(ps:List MG)(rt:Ret)(E:Env)(an:Ann){F:bF ps->Option rt.den}(h:(P.funcs[f]?,fn.body,fn.ntmps,fn.results.toList,Nat.ble (64*E.nt) 999936,XF P E.fs)=(some fn,some (Jm fn),E.nt,rt.rs.map (·.1),true,true))(ht:(E.tt,E.eqs)=(tt,eqs))(hm:YZ P E.ms)(hs:a8h P E.gl E.fs)(hp:Zb P E.pl)(hF:∀x,b3l E ps rt (Jm fn) an x=F x):
  iZ P E.gl f ⟨ps,rt.rs.map (·.2),rt.outs.map (·.2),F⟩:=by
 injection h with h1 h;injection h with h2 h;injection h with h3 h;injection h with h4 h;injection h with h5 h6;injection ht with t1 t2;exact TN h1 h2 h3 h4 (MC h5 (t1▸a3u) (t2▸WG) h6 hm hs hp) λx r h=>(hF x).trans h
theorem dFS(fn:Func)(ps:List MG)(rt:Ret)(E:Env)(sa:SAnn){F:bF ps->Option rt.den}(h:(P.funcs[f]?,fn.body,fn.ntmps,fn.results.toList,Nat.ble (64*E.nt) 999936,XF P E.fs)=(some fn,some (Jm fn),E.nt,rt.rs.map (·.1),true,true))(ht:(E.tt,E.eqs)=(tt,eqs))(hm:YZ P E.ms)(hs:a8h P E.gl E.fs)(hp:Zb P E.pl)(hN:a1p P E.gl sa)(hF:∀x,a2k E ps rt (λr=>r) (Jm fn) sa x=F x):
  iZ P E.gl f ⟨ps,rt.rs.map (·.2),rt.outs.map (·.2),F⟩:=by
 injection h with h1 h;injection h with h2 h;injection h with h3 h;injection h with h4 h;injection h with h5 h6;injection ht with t1 t2;exact a6d h1 h2 h3 h4 (MC h5 (t1▸a3u) (t2▸WG) h6 hm hs hp) hN λx r h=>(hF x).trans h
theorem dNS(fn:Func)(ps:List MG)(rt:Ret)(E:Env)(sa:SAnn){dom:bF ps->rt.den->Prop}{F:bF ps->Option Prop}(h:(P.funcs[f]?,fn.body,fn.ntmps,fn.results.toList,Nat.ble (64*E.nt) 999936,XF P E.fs)=(some fn,some (Jm fn),E.nt,rt.rs.map (·.1),true,true))(ht:(E.tt,E.eqs)=(tt,eqs))(hm:YZ P E.ms)(hs:a8h P E.gl E.fs)(hp:Zb P E.pl)(hN:a1p P E.gl sa)(hF:∀x,a2k E ps rt (λr=>(dom x r:Prop)) (Jm fn) sa x=F x)(hL:∀x,(∃r,dom x r)->F x=some True):
  Wj P E.gl f ⟨rt.den,ps,rt.rs.map (·.2),rt.outs.map (·.2),dom,λa _=>some a⟩:=by
 injection h with h1 h;injection h with h2 h;injection h with h3 h;injection h with h4 h;injection h with h5 h6;injection ht with t1 t2;exact a6e h1 h2 h3 h4 (MC h5 (t1▸a3u) (t2▸WG) h6 hm hs hp) hN λx hx=>(hF x).trans (hL x hx)
instance:GlNe gl:=⟨by unfold gl;exact List.cons_ne_nil _ _⟩
theorem dQ(fn:Func)(q:FQ){F:bF q.ps->Option q.rt.den}(hs:a8h P q.E.gl q.E.fs:=by exact trivial)(h:(P.funcs[f]?,fn.body,fn.ntmps,fn.results.toList,Nat.ble (64*q.E.nt) 999936,XF P q.E.fs)=(some fn,some (Jm fn),q.E.nt,q.rt.rs.map (·.1),true,true):=by kernel_rfl)(ht:(q.E.tt,q.E.eqs)=(tt,eqs):=by rfl)(hm:YZ P q.E.ms:=by exact trivial)(hp:Zb P q.E.pl:=by exact trivial)(hF:∀x,b3l q.E q.ps q.rt (Jm fn) q.an x=F x:=by intro x;kernel_rfl):
  iZ P q.E.gl f ⟨q.ps,q.rt.rs.map (·.2),q.rt.outs.map (·.2),F⟩:=dS fn q.ps q.rt q.E q.an h ht hm hs hp hF
abbrev FG(n:FuncId)(s:FSpec):=iZ P gl n s
def c3B:FG 87 s87:=dQ f87 q87
def c6j:FG 141 d1m:=dQ f141 c8Z
def d3C:FG 88 s88:=dQ f88 q88 ⟨c3B,c6j,J5⟩
def d3D:FG 89 s89:=dQ f89 q89
def a7N:FG 51 s51:=dQ f51 q51 ⟨c3B,d3C,d3D,J5⟩
def b2D:FG 91 b8f:=dQ f91 c2T
def b8z:FG 142 b7S:=dQ f142 b7f ⟨b2D,J5⟩
def c1M:FG 90 c3q:=dQ f90 c2S ⟨b8z,J5⟩
def b9d:FG 52 s52:=dQ f52 q52 ⟨b2D,c1M,J5⟩
def c6h:FG 139 d1k:=dQ f139 c8X
def d3A:FG 82 s82:=dQ f82 q82 ⟨c6h,J5⟩
def d3j:FG 49 s49:=dQ f49 q49 ⟨a7N,b9d,d3A,J5⟩
def d2X:FG 32 s32:=dQ f32 q32 ⟨d3j,J5⟩
def a3n:FG 27 s27:=dQ f27 q27
def b2z:FG 46 s46:=dQ f46 q46 ⟨a3n,J5⟩
def b9j:FG 83 s83:=dQ f83 q83
def c6L:FG 189 d1N:=dQ f189 c9A ⟨b9j,J5⟩
def c6i:FG 140 d1l:=dQ f140 c8Y ⟨c6L,J5⟩
def d3B:FG 86 s86:=dQ f86 q86 ⟨c6i,J5⟩
def b2C:FG 85 b8e:=dQ f85 c2R ⟨d3B,J5⟩
def c1J:FG 84 c3o:=dQ f84 c2P ⟨b2C,J5⟩
def d3k:FG 50 s50:=dQ f50 q50 ⟨a3n,b2z,b9j,b2C,c1J,J5⟩
def b2E:FG 93 b8g:=dQ f93 c2W
def b8A:FG 143 b7T:=dQ f143 b7g ⟨b2E,J5⟩
def c1N:FG 92 c3r:=dQ f92 c2V ⟨b8A,J5⟩
def c3y:FG 53 s53:=dQ f53 q53 ⟨b2E,c1N,J5⟩
def d2Y:FG 33 s33:=dQ f33 q33 ⟨d3k,a7N,b9d,c3y,J5⟩
def b2F:FG 95 b8h:=dQ f95 c2Y
def b8B:FG 144 b7U:=dQ f144 b7h ⟨b2F,J5⟩
def c1O:FG 94 c3s:=dQ f94 c2X ⟨b8B,J5⟩
def a7J:FG 145 b0c:=dQ f145 b7i
def b8L:FG 190 b7X:=dQ f190 b7n ⟨a7J,J5⟩
def b8C:FG 146 b7V:=dQ f146 b7j ⟨b8L,J5⟩
def d3F:FG 96 s96:=dQ f96 q96 ⟨a7J,a7N,b8C,a3n,J5⟩
def c6k:FG 147 d1n:=dQ f147 c9a
def d3G:FG 97 s97:=dQ f97 q97 ⟨c6k,J5⟩
def a7K:FG 149 b0d:=dQ f149 b7l
def b8M:FG 191 b7Y:=dQ f191 b7o ⟨a7K,J5⟩
def b8D:FG 148 b7W:=dQ f148 b7k ⟨b8M,J5⟩
theorem c6M:iZ Go.Proofs.Tryz.prog gl 192 d1O:=Yq Go.Proofs.Tryz.strings_Contains_one
def c6l:FG 150 d1o:=dQ f150 c9c ⟨c6M,J5⟩
def TC:FG 67 s67:=dQ f67 q67
def b8y:FG 136 c5j:=dQ f136 c8V ⟨TC,J5⟩
def b8G:FG 172 c5m:=dQ f172 c9n
def c7o:FG 241 d2p:=dQ f241 d0k ⟨b2z,J5⟩
def c7p:FG 242 d2q:=dQ f242 d0l
def b8R:FG 243 c5w:=dQ f243 d0m ⟨a3n,J5⟩
def b8S:FG 246 c5x:=dQ f246 d0p
def c7q:FG 244 d2r:=dQ f244 d0n ⟨b8S,a3n,J5⟩
def b8Y:FG 272 c5E:=dQ f272 d0D
def c7r:FG 245 d2s:=dQ f245 d0o ⟨b8R,b8Y,J5⟩
def c7y:FG 273 d2z:=dQ f273 d0E
def c7s:FG 247 d2t:=dQ f247 d0q ⟨b8Y,c7y,J5⟩
def c7c:FG 221 d2f:=dQ f221 c9V ⟨c7o,c7p,b8R,c7q,c7r,b8S,c7s,J5⟩
def c6N:FG 193 d1P:=dQ f193 c9B ⟨b8y,b8G,TC,c7c,J5⟩
def c6m:FG 151 d1p:=dQ f151 c9d ⟨c6N,J5⟩
def d3H:FG 98 s98:=dQ f98 q98 ⟨a7N,a7K,b8D,c6l,c6m,J5⟩
theorem b9b:iZ Go.Proofs.Tryz.prog gl 39 s39:=b0x Go.Proofs.Tryz.slices_Sort_int Go.Proofs.Tryz.slices_Sort_int_none
theorem b8J:iZ Go.Proofs.Tryz.prog gl 184 c5p:=a1t Go.Proofs.Tryz.slices_Compact_int Go.Proofs.Tryz.slices_Compact_int_empty
def c6Z:FG 213 d2b:=dQ f213 c9T ⟨b9b,b8J,J5⟩
def c6H:FG 183 d1K:=dQ f183 c9y ⟨c6Z,J5⟩
def c6c:FG 129 d1f:=dQ f129 c8R ⟨c6H,J5⟩
def c6d:FG 130 d1g:=dQ f130 c8S ⟨b9b,b8J,J5⟩
def c3A:FG 69 s69:=dQ f69 q69 ⟨c6c,c6d,J5⟩
def c6o:FG 153 d1r:=dQ f153 c9f
def c5J:FG 100 d0O:=dQ f100 c8y ⟨c3A,c6o,J5⟩
def c6n:FG 152 d1q:=dQ f152 c9e
def d3I:FG 99 s99:=dQ f99 q99 ⟨c6n,J5⟩
def d3l:FG 54 s54:=dQ f54 q54 ⟨b9d,c3y,b2F,c1O,a7N,d3F,d3G,d3H,c5J,d3I,J5⟩
def d2Z:FG 34 s34:=dQ f34 q34 ⟨d3l,J5⟩
def b2y:FG 18 s18:=dQ f18 q18 ⟨d2X,d2Y,d2Z,J5⟩
def d2U:FG 29 s29:=dQ f29 q29
def d2H:FG 11 s11:=dQ f11 q11 ⟨d2U,J5⟩
def d2I:FG 12 s12:=dQ f12 q12
def d4r:FG 4 s4:=dQ f4 q4 ⟨d2H,d2I,J5⟩
def d2V:FG 30 s30:=dQ f30 q30
def d2J:FG 13 s13:=dQ f13 q13 ⟨d2V,J5⟩
def d2K:FG 14 s14:=dQ f14 q14
def d3a:FG 35 s35:=dQ f35 q35 ⟨b2z,J5⟩
def d3b:FG 36 s36:=dQ f36 q36
def b8K:FG 19 s19:=dQ f19 q19 ⟨d3a,d3b,J5⟩
def d2L:FG 15 s15:=dQ f15 q15 ⟨b2y,b8K,J5⟩
def d2M:FG 16 s16:=dQ f16 q16
def b9a:FG 299 b8c:=dQ f299 b7q
def b9h:FG 71 s71:=dQ f71 q71
def b8Z:FG 297 c5F:=dQ f297 d0F
def b0v:FG 300 c1y:=dQ f300 d0H
theorem c8n:Jj Go.Proofs.Tryz.prog 165 "Less" 297 (some 166):=Ua (by kernel_rfl)
theorem c4G:Jj Go.Proofs.Tryz.prog 165 "Swap" 300 (some 166):=Ua (by kernel_rfl)
def b8v:FG 131 b7Q:=dQ f131 b7d ⟨b8Z,b0v,J5⟩ (hm:=⟨c8n,c4G,trivial⟩)
theorem c8o:Jj Go.Proofs.Tryz.prog 165 "Len" 71 (some 166):=Ua (by kernel_rfl)
theorem d4l:Jj Go.Proofs.Tryz.prog 165 "Push" 299 none:=λv w=>show(method _ 165 v "Push").run _ w= .ok (299,v) w by kernel_rfl
def c1H:FG 70 c3l:=dQ f70 c2N ⟨b9a,b9h,b8v,J5⟩ (hm:=⟨c8o,d4l,trivial⟩)
def b8w:FG 132 b7R:=dQ f132 b7e ⟨b8Z,b0v,J5⟩ (hm:=⟨c8n,c4G,trivial⟩)
def c7z:FG 298 d2A:=dQ f298 d0G
theorem d4m:Jj Go.Proofs.Tryz.prog 165 "Pop" 298 none:=λv w=>show(method _ 165 v "Pop").run _ w= .ok (298,v) w by kernel_rfl
def c1I:FG 72 c3n:=dQ f72 c2O ⟨b9h,b0v,b8w,c7z,J5⟩ (hm:=⟨c8o,d4m,c4G,trivial⟩)
def b9c:FG 42 s42:=dQ f42 q42 ⟨c3A,c1H,b9h,c1I,J5⟩
def a3o:FG 59 s59:=dQ f59 q59 ⟨b9j,J5⟩
def a7I:FG 117 b0a:=dQ f117 b7c ⟨a3o,J5⟩
def c1E:FG 57 c3i:=dQ f57 c2I ⟨a7I,J5⟩
def b9e:FG 62 s62:=dQ f62 q62 ⟨a7I,c1E,J5⟩
def b9i:FG 80 s80:=dQ f80 q80 ⟨b8y,J5⟩
def c6g:FG 137 d1j:=dQ f137 c8W ⟨TC,J5⟩
def Xp:FG 128 b0b:=dQ f128 c8Q
def c5X:FG 123 d1a:=dQ f123 c8L ⟨TC,b8G,J5⟩
def c5Y:FG 124 d1b:=dQ f124 c8M
def c5Z:FG 125 d1c:=dQ f125 c8N ⟨Xp,J5⟩
def b8H:FG 173 c5n:=dQ f173 c9o ⟨Xp,J5⟩
def b0o:FG 204 c1p:=dQ f204 c9L
def c6z:FG 174 d1C:=dQ f174 c9p ⟨b0o,J5⟩
def c6A:FG 175 d1D:=dQ f175 c9q ⟨b0o,J5⟩
def b8I:FG 177 c5o:=dQ f177 c9s
def c6B:FG 176 d1E:=dQ f176 c9r ⟨b8I,b0o,J5⟩
def c6a:FG 126 d1d:=dQ f126 c8O ⟨Xp,b8H,c6z,c6A,c6B,b8I,J5⟩
def c6C:FG 178 d1F:=dQ f178 c9t ⟨b8H,Xp,J5⟩
def a7M:FG 205 b0f:=dQ f205 b7p ⟨a3o,J5⟩
def c1K:FG 84 c3p:=dQ f84 c2Q ⟨a7M,J5⟩
def c6D:FG 179 d1G:=dQ f179 c9u ⟨a7M,c1K,J5⟩
theorem a5a:iZ Go.Proofs.Tryz.prog gl 225 b8a:=a6O Go.Proofs.Tryz.bits_Mul64
def c5R:FG 116 d0V:=dQ f116 c8F
def c7t:FG 248 d2u:=dQ f248 d0r ⟨c5R,J5⟩
def b0q:FG 226 c1s:=dQ f226 c9Z ⟨c7t,J5⟩
def c6V:FG 206 d1X:=dQ f206 c9M ⟨a5a,b0q,J5⟩
def b0t:FG 249 c1w:=dQ f249 d0s
def b0u:FG 250 c1x:=dQ f250 d0t
def b8T:FG 251 c5y:=dQ f251 d0u
def b8U:FG 252 c5z:=dQ f252 d0v
def b8V:FG 253 c5A:=dQ f253 d0w
def a5b:FG 227 b8b:=dQ f227 d0a ⟨b0t,b0u,b8T,b8U,b8V,J5⟩
def c6W:FG 207 d1Y:=dQ f207 c9N ⟨a5b,J5⟩
def c6E:FG 180 d1H:=dQ f180 c9v ⟨a3o,c6V,c6W,J5⟩
def b8N:FG 208 c5r:=dQ f208 c9O
def b0r:FG 228 c1t:=dQ f228 d0b
def c7u:FG 254 d2v:=dQ f254 d0x
def b8Q:FG 229 c5t:=dQ f229 d0c ⟨c7u,J5⟩
def c7v:FG 255 d2w:=dQ f255 d0y
def b0s:FG 230 c1u:=dQ f230 d0d ⟨c7v,J5⟩
def b0p:FG 209 c1q:=dQ f209 c9P ⟨b0r,b8Q,b0s,J5⟩
def c6F:FG 181 d1I:=dQ f181 c9w ⟨b8N,b0p,J5⟩
def c7g:FG 231 d2j:=dQ f231 d0e ⟨a5a,J5⟩
def c7w:FG 256 d2x:=dQ f256 d0z ⟨b0t,b0u,b8T,a5a,b0q,b8U,b8V,J5⟩
def c7h:FG 232 d2k:=dQ f232 d0f ⟨c7w,J5⟩
def b8W:FG 257 c5B:=dQ f257 d0A
def b8X:FG 258 c5C:=dQ f258 d0B
def c7i:FG 233 d2l:=dQ f233 d0g ⟨b8W,b8X,a5b,J5⟩
def c7j:FG 234 d2m:=dQ f234 d0h ⟨b0t,b0u,a5b,J5⟩
def c7x:FG 259 d2y:=dQ f259 d0C
def c7k:FG 235 d2n:=dQ f235 d0i ⟨b8W,b8X,a5a,b0q,c7x,J5⟩
def c6X:FG 210 d1Z:=dQ f210 c9Q ⟨c7g,c7h,c7i,c7j,a5b,c7k,J5⟩
def c7l:FG 236 d2o:=dQ f236 d0j ⟨b0s,b8Q,J5⟩
def b8O:FG 211 c5s:=dQ f211 c9R ⟨b0r,b0p,b0s,c7l,J5⟩
def c6Y:FG 212 d2a:=dQ f212 c9S ⟨b0r,b0p,b8O,J5⟩
def c6G:FG 182 d1J:=dQ f182 c9x ⟨c6X,b8N,b8O,c6Y,J5⟩
def c6b:FG 127 d1e:=dQ f127 c8P ⟨c6C,c6D,c6E,c6F,c6G,J5⟩
def b9g:FG 68 s68:=dQ f68 q68 ⟨c5X,TC,c5Y,c5Z,c6a,c6b,Xp,J5⟩
theorem c1Q:∀n,iZ P gl 188 ⟨b6V,[(true,(.dat (.prod (.int .i64) (.prod (.int .i64) (.int .i64))))),(false,(.dat (.int .i64)))],[],λx=>(D8 n).1 x.1 x.2⟩/\iZ P gl 81 ⟨b4g,[(true,(.dat (.prod (.int .i64) (.prod (.int .i64) (.int .i64))))),(false,(.dat (.int .i64)))],[],λx=>(D8 n).2.1 x.1 x.2⟩/\iZ P gl 138 ⟨b6T,[(true,(.dat (.prod (.int .i64) (.prod (.int .i64) (.int .i64))))),(false,(.dat (.int .i64)))],[],λx=>(D8 n).2.2 x.1 x.2.1 x.2.2⟩:=by
 intro n;induction n with
 |zero=>exact⟨(λw ok O vals x r _ _ _ _ _ _ h=>by cases h),(λw ok O vals x r _ _ _ _ _ _ h=>by cases h),(λw ok O vals x r _ _ _ _ _ _ h=>by cases h)⟩
 |succ n ih=>exact⟨dS f188 b6V d0M (d4h (D8 n).1 (D8 n).2.1 (D8 n).2.2) c7O (by kernel_rfl) rfl trivial ⟨ih.2.1,Xp,trivial⟩ trivial λx=>by kernel_rfl,
  dS f81 b4g d0N (e81 (D8 n).1 (D8 n).2.1 (D8 n).2.2) d3Z (by kernel_rfl) rfl trivial ⟨c6g,ih.2.2,ih.2.1,b9g,trivial⟩ trivial λx=>by kernel_rfl,
  dS f138 b6T d0L (d4b (D8 n).1 (D8 n).2.1 (D8 n).2.2) c7I (by kernel_rfl) rfl trivial ⟨ih.1,ih.2.1,trivial⟩ trivial λx=>by kernel_rfl⟩
theorem d3z:iZ P gl 81 s81:=(c1Q kK).2.1
def b2A:FG 48 s48:=dQ f48 q48 ⟨b9i,d3z,J5⟩
def c5T:FG 119 d0X:=dQ f119 c8H
def c6U:FG 203 d1W:=dQ f203 c9K
def c6w:FG 168 d1z:=dQ f168 c9j ⟨c6U,J5⟩
def b8u:FG 121 c5h:=dQ f121 c8J ⟨c6w,J5⟩
def c5V:FG 120 d0Y:=dQ f120 c8I ⟨b8u,J5⟩
def b9f:FG 64 s64:=dQ f64 q64 ⟨c5T,c5V,b8u,J5⟩
def d3i:FG 47 s47:=dQ f47 q47 ⟨b9e,b2A,b9f,J5⟩
def d2W:FG 31 s31:=dQ f31 q31 ⟨b9c,d3i,b2A,J5⟩
def d2N:FG 17 s17:=dQ f17 q17 ⟨d2W,J5⟩
def d3o:FG 6 s6:=dQ f6 q6 ⟨d2L,d2M,d2N,J5⟩
theorem c5K:iZ Go.Proofs.Tryz.prog gl 101 d0P:=PS (E:=⟨8,eqs,tt,gl,[],[],[],[],[],[],[]⟩) (f:=101) (fn:=Go.Proofs.Tryz.f101) (c:=Jm Go.Proofs.Tryz.f101) (t:=.str) (by kernel_rfl) (by kernel_rfl) (by kernel_rfl) (by kernel_rfl)
  (MC (by kernel_rfl) a3u WG (by kernel_rfl) trivial trivial trivial) (λb=>by cases b<;>kernel_rfl) (λxs=>by kernel_rfl)
def b8E:FG 154 c5k:=dQ f154 c9g
def c5M:FG 102 d0Q:=dQ f102 c8A ⟨a3o,b8E,J5⟩
def a7L:FG 155 b0e:=dQ f155 b7m ⟨a3o,J5⟩
def c1F:FG 57 c3j:=dQ f57 c2J ⟨a7L,J5⟩
theorem a7O:iZ Go.Proofs.Tryz.prog gl 74 s74:=PS (E:=⟨8,eqs,tt,gl,[],[],[],[],[],[],[]⟩) (f:=74) (fn:=Go.Proofs.Tryz.f74) (c:=Jm Go.Proofs.Tryz.f74) (t:=(.prod (.int .i64) (.int .i64))) (by kernel_rfl) (by kernel_rfl) (by kernel_rfl) (by kernel_rfl)
  (MC (by kernel_rfl) a3u WG (by kernel_rfl) trivial trivial trivial) (λb=>by cases b<;>kernel_rfl) (λxs=>by kernel_rfl)
theorem c6p:iZ Go.Proofs.Tryz.prog gl 156 d1s:=PS (E:=⟨8,eqs,tt,gl,[],[],[],[],[],[],[]⟩) (f:=156) (fn:=Go.Proofs.Tryz.f156) (c:=Jm Go.Proofs.Tryz.f156) (t:=(.prod .str (.prod (.int .i64) (.int .i64)))) (by kernel_rfl) (by kernel_rfl) (by kernel_rfl) (by kernel_rfl)
  (MC (by kernel_rfl) a3u WG (by kernel_rfl) trivial trivial trivial) (λb=>by cases b<;>kernel_rfl) (λxs=>by kernel_rfl)
def c5N:FG 103 d0R:=dQ f103 c8B ⟨a7L,c1F,b8E,a7O,c6p,J5⟩
def d3m:FG 55 s55:=dQ f55 q55 ⟨c5K,c5M,c5N,J5⟩
def c6O:FG 194 d1Q:=dQ f194 c9C ⟨b9i,TC,J5⟩
theorem c1P:∀n,iZ P gl 157 ⟨b2j,[(false,(.own (.prod (.int .i64) (.int .i64))))],[],λx=>(aJ n) x.1 x.2.1 x.2.2⟩:=by
 intro n;induction n with
 |zero=>exact λw ok O vals x r _ _ _ _ _ _ h=>by cases h
 |succ n ih=>exact dS f157 b2j c3b (d4c (aJ n)) c7J (by kernel_rfl) rfl trivial ⟨c6O,ih,trivial⟩ trivial λx=>by kernel_rfl
theorem c6q:iZ P gl 157 d1t:=(c1P kK)
def c5O:FG 104 d0S:=dQ f104 c8C ⟨b9i,c6q,J5⟩
def b8F:FG 170 c5l:=dQ f170 c9l
def c6x:FG 169 d1A:=dQ f169 c9k ⟨b8F,TC,J5⟩
def c6y:FG 171 d1B:=dQ f171 c9m
def c5W:FG 122 d0Z:=dQ f122 c8K ⟨c6x,b8F,c6y,TC,J5⟩
def c3z:FG 65 s65:=dQ f65 q65 ⟨c5W,J5⟩
def b0n:FG 195 c1o:=dQ f195 c9D ⟨c3z,J5⟩
def a0V:FG 199 b4s:=dQ f199 c9H
def c7e:FG 223 d2h:=dQ f223 c9X
def c7f:FG 224 d2i:=dQ f224 c9Y
def c6S:FG 200 d1U:=dQ f200 c9I ⟨a0V,TC,c7e,b9g,c7f,J5⟩
def c6T:FG 201 d1V:=dQ f201 c9J ⟨a0V,J5⟩
theorem c6t:iZ P gl 160 d1x:=dFS f160 c2B c3d d4e c7L (by kernel_rfl) rfl trivial ⟨a7O,b0n,c6S,c6T,trivial⟩ trivial trivial λx=>by kernel_rfl
def c6s:FG 159 d1w:=dQ f159 c9h ⟨a7O,b0n,a0V,J5⟩
def c6P:FG 196 d1R:=dQ f196 c9E ⟨a0V,J5⟩
def c7d:FG 222 d2g:=dQ f222 c9W
def c6Q:FG 197 d1S:=dQ f197 c9F ⟨c7d,J5⟩
def c6R:FG 198 d1T:=dQ f198 c9G ⟨a0V,J5⟩
theorem c6r:iZ P gl 158 d1v:=dFS f158 c2A c3c d4d c7K (by kernel_rfl) rfl trivial ⟨a7O,b0n,c6P,c6Q,c6R,trivial⟩ trivial trivial λx=>by kernel_rfl
def c5P:FG 105 d0T:=dQ f105 c8D ⟨c6t,c6s,c6r,J5⟩
def d3n:FG 56 s56:=dQ f56 q56 ⟨c5O,c5P,J5⟩
def d3c:FG 37 s37:=dQ f37 q37 ⟨b9c,d3m,d3n,J5⟩
def b2B:FG 58 b8d:=dQ f58 c2M ⟨a3o,J5⟩
def c1G:FG 57 c3k:=dQ f57 c2K ⟨b2B,J5⟩
def d3d:FG 38 s38:=dQ f38 q38 ⟨b2B,c1G,J5⟩
def d2O:FG 20 s20:=dQ f20 q20 ⟨d3c,d3d,b9b,J5⟩
theorem c6u:iZ P gl 166 c1n:=dS f166 b6U b7J c8d c2k (by kernel_rfl) rfl trivial trivial trivial λx=>by kernel_rfl
def c5Q:FG 112 d0U:=dQ f112 c8E ⟨c6u,J5⟩
def c6v:FG 167 d1y:=dQ f167 c9i
def c5S:FG 118 d0W:=dQ f118 c8G ⟨c5Q,c6v,J5⟩
def d3p:FG 63 s63:=dQ f63 q63 ⟨c5S,J5⟩
def d3q:FG 66 s66:=dQ f66 q66
def c3x:FG 41 s41:=dQ f41 q41 ⟨c3z,d3q,TC,b9g,J5⟩
def d3e:FG 40 s40:=dQ f40 q40 ⟨b9e,d3p,c3x,b9f,J5⟩
def d2P:FG 21 s21:=dQ f21 q21 ⟨d3e,c3x,J5⟩
def d3r:FG 7 s7:=dQ f7 q7 ⟨b2y,b8K,d2O,d2P,J5⟩
def c6e:FG 133 d1h:=dQ f133 c8T
def d3s:FG 73 s73:=dQ f73 q73 ⟨c6e,J5⟩
def d3t:FG 75 s75:=dQ f75 q75 ⟨b9f,J5⟩
def c6I:FG 185 d1L:=dQ f185 c9z
theorem c7m:iZ P gl 238 c5u:=dS f238 b6X b7L c8f c2n (by kernel_rfl) rfl trivial trivial trivial λx=>by kernel_rfl
theorem c7n:iZ P gl 239 c5v:=dS f239 b6Y b7M c8g c2o (by kernel_rfl) rfl trivial trivial trivial λx=>by kernel_rfl
theorem c7b:iZ P gl 219 c1r:=dS f219 b6W b7K c8e c2l (by kernel_rfl) rfl trivial ⟨c7m,c7n,trivial⟩ trivial λx=>by kernel_rfl
def c7a:FG 214 d2c:=dQ f214 c9U ⟨c7b,J5⟩
theorem c6J:Wj P gl 186 c5q:=dNS f186 c2C b2v d4f c7M (F:=λx=>Fh x.1 x.2) (by kernel_rfl) rfl trivial ⟨c7a,trivial⟩ trivial trivial (λx=>by kernel_rfl) λx hx=>b9V hx
theorem d3P:iZ P [] 238 c5u:=dS f238 b6X b7L { c8f with gl:=[] } c2n (by kernel_rfl) rfl trivial trivial trivial λx=>by kernel_rfl
theorem d3Q:iZ P [] 239 c5v:=dS f239 b6Y b7M { c8g with gl:=[] } c2o (by kernel_rfl) rfl trivial trivial trivial λx=>by kernel_rfl
theorem d3O:iZ P [] 219 c1r:=dS f219 b6W b7K { c8e with gl:=[] } c2l (by kernel_rfl) rfl trivial ⟨d3P,d3Q,trivial⟩ trivial λx=>by kernel_rfl
theorem d3K:iZ P [] 166 c1n:=dS f166 b6U b7J { c8d with gl:=[] } c2k (by kernel_rfl) rfl trivial trivial trivial λx=>by kernel_rfl
theorem d3N:iZ P [] 218 d2e:=dS f218 c2H c3h { d4k with gl:=[] } c7R (by kernel_rfl) rfl trivial ⟨d3K,trivial⟩ trivial λx=>by kernel_rfl
theorem d3M:iZ P [] 217 d2d:=dS f217 c2G c3g { d4j with gl:=[] } c7Q (by kernel_rfl) rfl trivial trivial trivial λx=>by kernel_rfl
theorem d3L:iZ P [] 216 d4p:=dS f216 c2F c3f { d4i with gl:=[] } c7P (by kernel_rfl) rfl trivial ⟨d3O,d3N,d3M,trivial⟩ trivial λx=>by kernel_rfl
theorem b8P:iZ P gl 215 b7Z:=a7k (g:=216) Go.Proofs.Tryz.laysF6 (λw=>Go.Proofs.Tryz.isAgg246 w) (λw=>Go.Proofs.Tryz.sizeOf246 w) (Go.Proofs.enters_of Go.Proofs.Tryz.func216 (by kernel_rfl) rfl) d3L (λx y hx hy=>a9E hx hy)
theorem c6K:iZ P gl 187 d1M:=dFS f187 c2E c3e d4g c7N (by kernel_rfl) rfl trivial ⟨b8P,trivial⟩ trivial trivial λx=>by kernel_rfl
def b8x:FG 135 c5i:=dQ f135 c8U
theorem c8p:a1p P gl c2j:=show(Wj P gl 186 c5q/\∃fn,P.funcs[186]? =some fn/\fn.body.isSome=true/\(fn.name== "runtime.NumGoroutine")=false)/\True from⟨⟨c6J,Go.Proofs.Tryz.f186,by kernel_rfl,by kernel_rfl,by kernel_rfl⟩,trivial⟩
theorem c6f:iZ P gl 134 d1i:=dFS f134 c2z c3a d4a c2j (by kernel_rfl) rfl trivial ⟨c6I,c6K,b8x,trivial⟩ trivial c8p λx=>by kernel_rfl
def d3u:FG 76 s76:=dQ f76 q76 ⟨c6f,J5⟩
def d3f:FG 43 s43:=dQ f43 q43 ⟨b2y,b9e,d3s,a7O,d3t,d3u,J5⟩
def d2Q:FG 22 s22:=dQ f22 q22 ⟨b9c,d3f,J5⟩
def d3v:FG 77 s77:=dQ f77 q77 ⟨b2A,J5⟩
def d3w:FG 78 s78:=dQ f78 q78
def d3x:FG 79 s79:=dQ f79 q79 ⟨b8x,J5⟩
def d3g:FG 44 s44:=dQ f44 q44 ⟨d3v,d3w,d3x,b2A,J5⟩
def d2R:FG 23 s23:=dQ f23 q23 ⟨d3g,J5⟩
def d3y:FG 8 s8:=dQ f8 q8 ⟨b2y,b8K,d2Q,d2R,J5⟩
def c3v:FG 24 s24:=dQ f24 q24
def c3w:FG 25 s25:=dQ f25 q25
def d3h:FG 45 s45:=dQ f45 q45 ⟨c3v,c3w,J5⟩
def d2S:FG 26 s26:=dQ f26 q26 ⟨d3h,J5⟩
def d3E:FG 9 s9:=dQ f9 q9 ⟨c3v,c3w,d2S,J5⟩
def d4s:FG 5 s5:=dQ f5 q5 ⟨d2J,d2K,d3o,d3r,d3y,d3E,J5⟩
def d2T:FG 28 s28:=dQ f28 q28 ⟨b2z,J5⟩
def d2G:FG 10 s10:=dQ f10 q10 ⟨a3n,d2T,J5⟩
def d4q:FG 3 s3:=dQ f3 q3 ⟨d4r,d4s,d3o,d3r,d3y,d3E,d2G,J5⟩
end Gt
