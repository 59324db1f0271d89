import Derived.Test.YtfffbbadpgefmaaGreatDoorU2
import Derived.Test.YtfffbbadpgefmaaGreatDoorProg
import Derived.Test.YtfffbbadpgefmaaGreatDoorShelf
set_option linter.all false
open Go Go.GP Go.Proofs.Tryz
namespace Gt
set_option maxRecDepth 100000
noncomputable abbrev P:Program:=Go.Proofs.Tryz.prog
theorem d5K:YY P tt=true:=by kernel_rfl
theorem c0R:∀t sh,Y9 eqs t=some sh→Gv P t sh:=Xl (by kernel_rfl)
theorem dS {f:FuncId} (fn:Func) (ps:List MG) (rt:Ret) (E:Env) (an:Ann) {F:U4 ps→Option rt.den} (h:(P.funcs[f]?,fn.body,fn.ntmps,fn.results.toList,Nat.ble (64*E.nt) 999936,Xw P E.fs)=(some fn,some (a5Q fn),E.nt,rt.rs.map (·.1),true,true)) (ht:(E.tt,E.eqs)=(tt,eqs)) (hm:a1r P E.ms) (hs:a9U P E.gl E.fs) (hF:∀x,c0q E ps rt (a5Q fn) an x=F x):
  x9 P E.gl f ⟨ps,rt.rs.map (·.2),rt.outs.map (·.2),F⟩:=by
 injection h with h1 h;injection h with h2 h;injection h with h3 h;injection h with h4 h;injection h with h5 h6
 injection ht with t1 t2
 exact Zq h1 h2 h3 h4 (a5Y h5 (t1▸d5K) (t2▸c0R) h6 hm hs) fun x r h=>(hF x).trans h
theorem d5e:x9 P gl 55 s55:=dS f55 c9X d1C e55 d6B (by kernel_rfl) rfl trivial trivial fun x=>by kernel_rfl
theorem d4X:x9 P gl 23 s23:=dS f23 c9t d0Z e23 d5Z (by kernel_rfl) rfl trivial ⟨d5e,trivial⟩ fun x=>by kernel_rfl
theorem d4Y:x9 P gl 24 s24:=dS f24 c9u d1a e24 d6a (by kernel_rfl) rfl trivial trivial fun x=>by kernel_rfl
theorem YH:x9 P gl 10 s10:=dS f10 c9g d0J e10 d5O (by kernel_rfl) rfl trivial ⟨d4X,d4Y,trivial⟩ fun x=>by kernel_rfl
theorem d4Z:x9 P gl 25 s25:=dS f25 c9v d1b e25 d6b (by kernel_rfl) rfl trivial trivial fun x=>by kernel_rfl
theorem a8w:x9 P gl 158 c1r:=dS f158 b2K b6A d8l c5N (by kernel_rfl) rfl trivial trivial fun x=>by kernel_rfl
theorem c3l:x9 P gl 213 d3s:=dS f213 b3v b7l d8W c6z (by kernel_rfl) rfl trivial trivial fun x=>by kernel_rfl
theorem c2H:x9 P gl 159 d2Q:=dS f159 b2L b6B d8m c5O (by kernel_rfl) rfl trivial ⟨a8w,c3l,trivial⟩ fun x=>by kernel_rfl
theorem c2I:x9 P gl 160 d2R:=dS f160 b2M b6C d8n c5P (by kernel_rfl) rfl trivial trivial fun x=>by kernel_rfl
theorem RG:x9 P gl 123 a5b:=dS f123 b2l b6b d7I c5i (by kernel_rfl) rfl trivial ⟨a8w,c2H,c2I,trivial⟩ fun x=>by kernel_rfl
theorem YL:x9 P gl 162 a0y:=dS f162 a2w a3c c0z b0f (by kernel_rfl) rfl trivial trivial fun x=>by kernel_rfl
theorem a8G:x9 P gl 214 a7P:=dS f214 a2D a3j c0G b0m (by kernel_rfl) rfl trivial ⟨YL,trivial⟩ fun x=>by kernel_rfl
theorem a8x:x9 P gl 161 a7J:=dS f161 a2v a3b c0y b0e (by kernel_rfl) rfl trivial ⟨a8G,trivial⟩ fun x=>by kernel_rfl
theorem a0M:x9 P gl 124 b1g:=dS f124 b2m b6c d7J c5j (by kernel_rfl) rfl trivial ⟨YL,a8x,trivial⟩ fun x=>by kernel_rfl
theorem c3j:x9 P gl 211 d3q:=dS f211 b3t b7j d8U c6x (by kernel_rfl) rfl trivial trivial fun x=>by kernel_rfl
theorem c2F:x9 P gl 154 d2O:=dS f154 b2I b6y d8j c5K (by kernel_rfl) rfl trivial ⟨c3j,trivial⟩ fun x=>by kernel_rfl
theorem c2k:x9 P gl 121 d2x:=dS f121 b2j b5Z d7G c5g (by kernel_rfl) rfl trivial ⟨RG,a0M,c2F,trivial⟩ fun x=>by kernel_rfl
theorem d5y:x9 P gl 87 s87:=dS f87 d0w d2c e87 d7b (by kernel_rfl) rfl trivial ⟨c2k,trivial⟩ fun x=>by kernel_rfl
theorem YR:x9 P gl 39 s39:=dS f39 c9L d1p e39 d6p (by kernel_rfl) rfl trivial trivial fun x=>by kernel_rfl
theorem a9x:x9 P gl 67 s67:=dS f67 d0i d1O e67 d6N (by kernel_rfl) rfl trivial ⟨YR,trivial⟩ fun x=>by kernel_rfl
theorem a0K:x9 P gl 105 b1e:=dS f105 b1Y b5M d7t c4S (by kernel_rfl) rfl trivial trivial fun x=>by kernel_rfl
theorem c3O:x9 P gl 265 d3S:=dS f265 b4h b7X d9I c7l (by kernel_rfl) rfl trivial ⟨a0K,trivial⟩ fun x=>by kernel_rfl
theorem c3k:x9 P gl 212 d3r:=dS f212 b3u b7k d8V c6y (by kernel_rfl) rfl trivial ⟨c3O,trivial⟩ fun x=>by kernel_rfl
theorem c2G:x9 P gl 157 d2P:=dS f157 b2J b6z d8k c5M (by kernel_rfl) rfl trivial ⟨c3k,trivial⟩ fun x=>by kernel_rfl
theorem YK:x9 P gl 156 a0x:=dS f156 a2u a3a c0x b0d (by kernel_rfl) rfl trivial ⟨c2G,trivial⟩ fun x=>by kernel_rfl
theorem a8u:x9 P gl 155 a7H:=dS f155 a2s a2Y c0u b0b (by kernel_rfl) rfl trivial ⟨YK,trivial⟩ fun x=>by kernel_rfl
theorem c2l:x9 P gl 122 d2y:=dS f122 b2k b6a d7H c5h (by kernel_rfl) rfl trivial ⟨YR,a9x,a0K,YK,a8u,trivial⟩ fun x=>by kernel_rfl
theorem YM:x9 P gl 164 a0z:=dS f164 a2y a3e c0B b0h (by kernel_rfl) rfl trivial trivial fun x=>by kernel_rfl
theorem a8H:x9 P gl 215 a7Q:=dS f215 a2E a3k c0H b0n (by kernel_rfl) rfl trivial ⟨YM,trivial⟩ fun x=>by kernel_rfl
theorem a8y:x9 P gl 163 a7K:=dS f163 a2x a3d c0A b0g (by kernel_rfl) rfl trivial ⟨a8H,trivial⟩ fun x=>by kernel_rfl
theorem a8q:x9 P gl 125 c1p:=dS f125 b2n b6d d7K c5k (by kernel_rfl) rfl trivial ⟨YM,a8y,trivial⟩ fun x=>by kernel_rfl
theorem d5z:x9 P gl 88 s88:=dS f88 d0x d2d e88 d7c (by kernel_rfl) rfl trivial ⟨c2l,RG,a0M,a8q,trivial⟩ fun x=>by kernel_rfl
theorem YN:x9 P gl 166 a0A:=dS f166 a2A a3g c0D b0j (by kernel_rfl) rfl trivial trivial fun x=>by kernel_rfl
theorem a8I:x9 P gl 216 a7R:=dS f216 a2F a3l c0I b0o (by kernel_rfl) rfl trivial ⟨YN,trivial⟩ fun x=>by kernel_rfl
theorem a8z:x9 P gl 165 a7L:=dS f165 a2z a3f c0C b0i (by kernel_rfl) rfl trivial ⟨a8I,trivial⟩ fun x=>by kernel_rfl
theorem YO:x9 P gl 217 a0C:=dS f217 a2G a3m c0J b0p (by kernel_rfl) rfl trivial trivial fun x=>by kernel_rfl
theorem a8T:x9 P gl 266 a7U:=dS f266 a2L a3r c0O b0u (by kernel_rfl) rfl trivial ⟨YO,trivial⟩ fun x=>by kernel_rfl
theorem a8J:x9 P gl 218 a7S:=dS f218 a2H a3n c0K b0q (by kernel_rfl) rfl trivial ⟨a8T,trivial⟩ fun x=>by kernel_rfl
theorem c2J:x9 P gl 167 d2S:=dS f167 b2N b6D d8o c5Q (by kernel_rfl) rfl trivial ⟨YO,RG,a8J,YR,trivial⟩ fun x=>by kernel_rfl
theorem c3n:x9 P gl 219 d3t:=dS f219 b3w b7m d8X c6A (by kernel_rfl) rfl trivial trivial fun x=>by kernel_rfl
theorem c2K:x9 P gl 168 d2T:=dS f168 b2O b6E d8p c5R (by kernel_rfl) rfl trivial ⟨c3n,trivial⟩ fun x=>by kernel_rfl
theorem YP:x9 P gl 221 a0D:=dS f221 a2J a3p c0M b0s (by kernel_rfl) rfl trivial trivial fun x=>by kernel_rfl
theorem a8U:x9 P gl 267 a7V:=dS f267 a2M a3s c0P b0v (by kernel_rfl) rfl trivial ⟨YP,trivial⟩ fun x=>by kernel_rfl
theorem a8K:x9 P gl 220 a7T:=dS f220 a2I a3o c0L b0r (by kernel_rfl) rfl trivial ⟨a8U,trivial⟩ fun x=>by kernel_rfl
theorem c3P:x9 Go.Proofs.Tryz.prog gl 268 d3T:=Ot Go.Proofs.Tryz.strings_Contains_one
theorem c3o:x9 P gl 222 d3u:=dS f222 b3x b7n d8Y c6B (by kernel_rfl) rfl trivial ⟨c3P,trivial⟩ fun x=>by kernel_rfl
theorem RH:x9 P gl 135 a5c:=dS f135 b2v b6l d7S c5s (by kernel_rfl) rfl trivial trivial fun x=>by kernel_rfl
theorem b9M:x9 P gl 98 s98:=dS f98 d0H d2n e98 d7m (by kernel_rfl) rfl trivial ⟨RH,trivial⟩ fun x=>by kernel_rfl
theorem a8D:x9 P gl 179 c1t:=dS f179 b2X b6N d8y c6b (by kernel_rfl) rfl trivial trivial fun x=>by kernel_rfl
theorem c4w:x9 P gl 328 d4z:=dS f328 b5l b9b e0M c8p (by kernel_rfl) rfl trivial ⟨a9x,trivial⟩ fun x=>by kernel_rfl
theorem c4x:x9 P gl 329 d4A:=dS f329 b5m b9c e0N c8q (by kernel_rfl) rfl trivial trivial fun x=>by kernel_rfl
theorem a9m:x9 P gl 330 c1S:=dS f330 b5n b9d e0O c8r (by kernel_rfl) rfl trivial ⟨YR,trivial⟩ fun x=>by kernel_rfl
theorem a9n:x9 P gl 333 c1T:=dS f333 b5q b9g e0R c8u (by kernel_rfl) rfl trivial trivial fun x=>by kernel_rfl
theorem c4y:x9 P gl 331 d4B:=dS f331 b5o b9e e0P c8s (by kernel_rfl) rfl trivial ⟨a9n,YR,trivial⟩ fun x=>by kernel_rfl
theorem a9o:x9 P gl 345 c1V:=dS f345 b5y b9o e0Z c8D (by kernel_rfl) rfl trivial trivial fun x=>by kernel_rfl
theorem c4z:x9 P gl 332 d4C:=dS f332 b5p b9f e0Q c8t (by kernel_rfl) rfl trivial ⟨a9m,a9o,trivial⟩ fun x=>by kernel_rfl
theorem c4I:x9 P gl 346 d4K:=dS f346 b5z b9p e1a c8E (by kernel_rfl) rfl trivial trivial fun x=>by kernel_rfl
theorem c4A:x9 P gl 334 d4D:=dS f334 b5r b9h e0S c8v (by kernel_rfl) rfl trivial ⟨a9o,c4I,trivial⟩ fun x=>by kernel_rfl
theorem c4m:x9 P gl 304 d4p:=dS f304 b4O b8E e0p c7S (by kernel_rfl) rfl trivial ⟨c4w,c4x,a9m,c4y,c4z,a9n,c4A,trivial⟩ fun x=>by kernel_rfl
theorem c3Q:x9 P gl 269 d3U:=dS f269 b4i b7Y d9J c7m (by kernel_rfl) rfl trivial ⟨b9M,a8D,RH,c4m,trivial⟩ fun x=>by kernel_rfl
theorem c3p:x9 P gl 223 d3v:=dS f223 b3y b7o d8Z c6C (by kernel_rfl) rfl trivial ⟨c3Q,trivial⟩ fun x=>by kernel_rfl
theorem c2M:x9 P gl 169 d2U:=dS f169 b2P b6F d8q c5S (by kernel_rfl) rfl trivial ⟨RG,YP,a8K,c3o,c3p,trivial⟩ fun x=>by kernel_rfl
theorem a8l:x9 Go.Proofs.Tryz.prog gl 106 c1k:=a1e Go.Proofs.Tryz.slices_Sort_int Go.Proofs.Tryz.slices_Sort_int_none
theorem a8m:x9 Go.Proofs.Tryz.prog gl 107 c1l:=SG Go.Proofs.Tryz.slices_Compact_int Go.Proofs.Tryz.slices_Compact_int_empty
theorem d5r:x9 P gl 77 s77:=dS f77 d0m d1S e77 d6R (by kernel_rfl) rfl trivial ⟨a8l,a8m,trivial⟩ fun x=>by kernel_rfl
theorem a9u:x9 P gl 47 s47:=dS f47 c9P d1t e47 d6t (by kernel_rfl) rfl trivial ⟨d5r,trivial⟩ fun x=>by kernel_rfl
theorem c2z:x9 P gl 143 d2J:=dS f143 b2C b6s d8a c5A (by kernel_rfl) rfl trivial ⟨a9u,trivial⟩ fun x=>by kernel_rfl
theorem a8k:x9 P gl 104 c1j:=dS f104 b1X b5L d7s c4R (by kernel_rfl) rfl trivial ⟨a8l,a8m,trivial⟩ fun x=>by kernel_rfl
theorem a0J:x9 P gl 103 b1d:=dS f103 b1W b5K d7r c4Q (by kernel_rfl) rfl trivial ⟨c2z,a8k,trivial⟩ fun x=>by kernel_rfl
theorem a8j:x9 P gl 102 c1i:=dS f102 b1V b5J d7q c4P (by kernel_rfl) rfl trivial trivial fun x=>by kernel_rfl
theorem a9y:x9 P gl 68 s68:=dS f68 d0j d1P e68 d6O (by kernel_rfl) rfl trivial ⟨a0J,a8j,trivial⟩ fun x=>by kernel_rfl
theorem c3q:x9 P gl 224 d3w:=dS f224 b3z b7p d9a c6D (by kernel_rfl) rfl trivial trivial fun x=>by kernel_rfl
theorem c2N:x9 P gl 170 d2V:=dS f170 b2Q b6G d8r c5T (by kernel_rfl) rfl trivial ⟨c3q,trivial⟩ fun x=>by kernel_rfl
theorem c2n:x9 P gl 126 d2z:=dS f126 b2o b6e d7L c5l (by kernel_rfl) rfl trivial ⟨a0M,a8q,YN,a8z,RG,c2J,c2K,c2M,a9y,c2N,trivial⟩ fun x=>by kernel_rfl
theorem d5A:x9 P gl 89 s89:=dS f89 d0y d2e e89 d7d (by kernel_rfl) rfl trivial ⟨c2n,trivial⟩ fun x=>by kernel_rfl
theorem d5f:x9 P gl 56 s56:=dS f56 c9Y d1D e56 d6C (by kernel_rfl) rfl trivial ⟨d5y,d5z,d5A,trivial⟩ fun x=>by kernel_rfl
theorem d5B:x9 P gl 90 s90:=dS f90 d0z d2f e90 d7e (by kernel_rfl) rfl trivial ⟨a9x,trivial⟩ fun x=>by kernel_rfl
theorem d5C:x9 P gl 91 s91:=dS f91 d0A d2g e91 d7f (by kernel_rfl) rfl trivial trivial fun x=>by kernel_rfl
theorem d5g:x9 P gl 57 s57:=dS f57 c9Z d1E e57 d6D (by kernel_rfl) rfl trivial ⟨d5B,d5C,trivial⟩ fun x=>by kernel_rfl
theorem a8V:x9 P gl 27 s27:=dS f27 c9y d1d e27 d6d (by kernel_rfl) rfl trivial ⟨d5f,d5g,trivial⟩ fun x=>by kernel_rfl
theorem a8X:x9 P gl 28 s28:=dS f28 c9A d1e e28 d6e (by kernel_rfl) rfl trivial trivial fun x=>by kernel_rfl
theorem a9s:x9 P gl 371 a8b:=dS f371 a2N a3t c0Q b0w (by kernel_rfl) rfl trivial trivial fun x=>by kernel_rfl
theorem a0N:x9 P gl 128 b1h:=dS f128 b2p b6f d7M c5m (by kernel_rfl) rfl trivial trivial fun x=>by kernel_rfl
theorem a9r:x9 P gl 369 c1X:=dS f369 b5E b9u e1f c8J (by kernel_rfl) rfl trivial trivial fun x=>by kernel_rfl
theorem a1c:x9 P gl 372 b1w:=dS f372 b5G b9w e1h c8L (by kernel_rfl) rfl trivial trivial fun x=>by kernel_rfl
theorem c9e:zo Go.Proofs.Tryz.prog 185 "Less" 369 (some 186):=IE (by kernel_rfl)
theorem c0W:zo Go.Proofs.Tryz.prog 185 "Swap" 372 (some 186):=IE (by kernel_rfl)
theorem a8A:x9 P gl 171 a7M:=dS f171 a2B a3h c0E b0k (by kernel_rfl) rfl ⟨c9e,c0W,trivial⟩ ⟨a9r,a1c,trivial⟩ fun x=>by kernel_rfl
theorem c9f:zo Go.Proofs.Tryz.prog 185 "Len" 128 (some 186):=IE (by kernel_rfl)
theorem e1i:zo Go.Proofs.Tryz.prog 185 "Push" 371 none:=fun v w=>show(method _ 185 v "Push").run _ w= .ok (371,v) w by kernel_rfl
theorem a8r:x9 P gl 127 a7F:=dS f127 a2p a2W c0s a9Z (by kernel_rfl) rfl ⟨c9f,e1i,trivial⟩ ⟨a9s,a0N,a8A,trivial⟩ fun x=>by kernel_rfl
theorem a8B:x9 P gl 172 a7N:=dS f172 a2C a3i c0F b0l (by kernel_rfl) rfl ⟨c9e,c0W,trivial⟩ ⟨a9r,a1c,trivial⟩ fun x=>by kernel_rfl
theorem c4K:x9 P gl 370 d4M:=dS f370 b5F b9v e1g c8K (by kernel_rfl) rfl trivial trivial fun x=>by kernel_rfl
theorem e1j:zo Go.Proofs.Tryz.prog 185 "Pop" 370 none:=fun v w=>show(method _ 185 v "Pop").run _ w= .ok (370,v) w by kernel_rfl
theorem a8s:x9 P gl 129 a7G:=dS f129 a2q a2X c0t b0a (by kernel_rfl) rfl ⟨c9f,e1j,c0W,trivial⟩ ⟨a0N,a1c,a8B,c4K,trivial⟩ fun x=>by kernel_rfl
theorem d5D:x9 P gl 92 s92:=dS f92 d0B d2h e92 d7g (by kernel_rfl) rfl trivial ⟨a0J,a8r,a0N,a8s,trivial⟩ fun x=>by kernel_rfl
theorem a3y:x9 P gl 70 s70:=dS f70 d0l d1R e70 d6Q (by kernel_rfl) rfl trivial ⟨a0K,trivial⟩ fun x=>by kernel_rfl
theorem YI:x9 P gl 108 a0v:=dS f108 a2n a2V c0r a9Y (by kernel_rfl) rfl trivial ⟨a3y,trivial⟩ fun x=>by kernel_rfl
theorem b1B:x9 P gl 72 b9x:=dS f72 a7h a7A c8U b9S (by kernel_rfl) rfl trivial ⟨YI,trivial⟩ fun x=>by kernel_rfl
theorem d5s:x9 P gl 78 s78:=dS f78 d0n d1T e78 d6S (by kernel_rfl) rfl trivial ⟨YI,b1B,trivial⟩ fun x=>by kernel_rfl
theorem d5o:x9 P gl 65 s65:=dS f65 d0h d1M e65 d6L (by kernel_rfl) rfl trivial ⟨b9M,trivial⟩ fun x=>by kernel_rfl
theorem d5I:x9 P gl 99 s99:=dS f99 d0I d2o e99 d7n (by kernel_rfl) rfl trivial ⟨RH,trivial⟩ fun x=>by kernel_rfl
theorem MH:x9 P gl 142 a0w:=dS f142 b2B b6r d7Z c5z (by kernel_rfl) rfl trivial trivial fun x=>by kernel_rfl
theorem c2t:x9 P gl 137 d2E:=dS f137 b2w b6m d7U c5u (by kernel_rfl) rfl trivial ⟨RH,a8D,trivial⟩ fun x=>by kernel_rfl
theorem c2u:x9 P gl 138 d2F:=dS f138 b2x b6n d7V c5v (by kernel_rfl) rfl trivial trivial fun x=>by kernel_rfl
theorem c2w:x9 P gl 139 d2G:=dS f139 b2y b6o d7W c5w (by kernel_rfl) rfl trivial ⟨MH,trivial⟩ fun x=>by kernel_rfl
theorem a8E:x9 P gl 180 c1u:=dS f180 b2Y b6O d8z c6c (by kernel_rfl) rfl trivial ⟨MH,trivial⟩ fun x=>by kernel_rfl
theorem a0Q:x9 P gl 235 b1k:=dS f235 b3K b7A d9l c6O (by kernel_rfl) rfl trivial trivial fun x=>by kernel_rfl
theorem c2R:x9 P gl 181 d2Z:=dS f181 b2Z b6P d8A c6d (by kernel_rfl) rfl trivial ⟨a0Q,trivial⟩ fun x=>by kernel_rfl
theorem c2S:x9 P gl 182 d3a:=dS f182 b3a b6Q d8B c6e (by kernel_rfl) rfl trivial ⟨a0Q,trivial⟩ fun x=>by kernel_rfl
theorem a8F:x9 P gl 184 c1w:=dS f184 b3c b6S d8D c6g (by kernel_rfl) rfl trivial trivial fun x=>by kernel_rfl
theorem c2T:x9 P gl 183 d3b:=dS f183 b3b b6R d8C c6f (by kernel_rfl) rfl trivial ⟨a8F,a0Q,trivial⟩ fun x=>by kernel_rfl
theorem c2x:x9 P gl 140 d2H:=dS f140 b2z b6p d7X c5x (by kernel_rfl) rfl trivial ⟨MH,a8E,c2R,c2S,c2T,a8F,trivial⟩ fun x=>by kernel_rfl
theorem c2V:x9 P gl 185 d3c:=dS f185 b3d b6T d8E c6h (by kernel_rfl) rfl trivial ⟨a8E,MH,trivial⟩ fun x=>by kernel_rfl
theorem YQ:x9 P gl 236 a0E:=dS f236 a2K a3q c0N b0t (by kernel_rfl) rfl trivial ⟨a3y,trivial⟩ fun x=>by kernel_rfl
theorem a8v:x9 P gl 155 a7I:=dS f155 a2t a2Z c0w b0c (by kernel_rfl) rfl trivial ⟨YQ,trivial⟩ fun x=>by kernel_rfl
theorem c2W:x9 P gl 186 d3d:=dS f186 b3e b6U d8F c6i (by kernel_rfl) rfl trivial ⟨YQ,a8v,trivial⟩ fun x=>by kernel_rfl
theorem WA:x9 Go.Proofs.Tryz.prog gl 274 a7W:=XV Go.Proofs.Tryz.bits_Mul64
theorem c3a:x9 P gl 200 d3h:=dS f200 b3i b6Y d8J c6m (by kernel_rfl) rfl trivial trivial fun x=>by kernel_rfl
theorem c4o:x9 P gl 306 d4r:=dS f306 b4Q b8G e0r c7U (by kernel_rfl) rfl trivial ⟨c3a,trivial⟩ fun x=>by kernel_rfl
theorem a0T:x9 P gl 275 b1n:=dS f275 b4n b8d d9O c7r (by kernel_rfl) rfl trivial ⟨c4o,trivial⟩ fun x=>by kernel_rfl
theorem c3z:x9 P gl 237 d3F:=dS f237 b3L b7B d9m c6P (by kernel_rfl) rfl trivial ⟨WA,a0T,trivial⟩ fun x=>by kernel_rfl
theorem a0Y:x9 P gl 307 b1s:=dS f307 b4R b8H e0s c7V (by kernel_rfl) rfl trivial trivial fun x=>by kernel_rfl
theorem a0Z:x9 P gl 308 b1t:=dS f308 b4S b8I e0t c7W (by kernel_rfl) rfl trivial trivial fun x=>by kernel_rfl
theorem a9c:x9 P gl 309 c1I:=dS f309 b4T b8J e0u c7X (by kernel_rfl) rfl trivial trivial fun x=>by kernel_rfl
theorem a9e:x9 P gl 310 c1J:=dS f310 b4U b8K e0v c7Y (by kernel_rfl) rfl trivial trivial fun x=>by kernel_rfl
theorem a9f:x9 P gl 311 c1K:=dS f311 b4V b8L e0w c7Z (by kernel_rfl) rfl trivial trivial fun x=>by kernel_rfl
theorem WB:x9 P gl 276 a7X:=dS f276 b4o b8e d9P c7s (by kernel_rfl) rfl trivial ⟨a0Y,a0Z,a9c,a9e,a9f,trivial⟩ fun x=>by kernel_rfl
theorem c3A:x9 P gl 238 d3G:=dS f238 b3M b7C d9n c6Q (by kernel_rfl) rfl trivial ⟨WB,trivial⟩ fun x=>by kernel_rfl
theorem c2X:x9 P gl 187 d3e:=dS f187 b3f b6V d8G c6j (by kernel_rfl) rfl trivial ⟨a3y,c3z,c3A,trivial⟩ fun x=>by kernel_rfl
theorem a8M:x9 P gl 239 c1y:=dS f239 b3N b7D d9o c6R (by kernel_rfl) rfl trivial trivial fun x=>by kernel_rfl
theorem a0U:x9 P gl 277 b1o:=dS f277 b4p b8f d9Q c7t (by kernel_rfl) rfl trivial trivial fun x=>by kernel_rfl
theorem c4p:x9 P gl 312 d4s:=dS f312 b4W b8M e0x c8a (by kernel_rfl) rfl trivial trivial fun x=>by kernel_rfl
theorem a8W:x9 P gl 278 c1F:=dS f278 b4q b8g d9R c7u (by kernel_rfl) rfl trivial ⟨c4p,trivial⟩ fun x=>by kernel_rfl
theorem c4q:x9 P gl 313 d4t:=dS f313 b4X b8N e0y c8b (by kernel_rfl) rfl trivial trivial fun x=>by kernel_rfl
theorem a0V:x9 P gl 279 b1p:=dS f279 b4r b8h d9S c7v (by kernel_rfl) rfl trivial ⟨c4q,trivial⟩ fun x=>by kernel_rfl
theorem a0R:x9 P gl 240 b1l:=dS f240 b3O b7E d9p c6S (by kernel_rfl) rfl trivial ⟨a0U,a8W,a0V,trivial⟩ fun x=>by kernel_rfl
theorem c2Y:x9 P gl 188 d3f:=dS f188 b3g b6W d8H c6k (by kernel_rfl) rfl trivial ⟨a8M,a0R,trivial⟩ fun x=>by kernel_rfl
theorem c3W:x9 P gl 280 d3Z:=dS f280 b4s b8i d9T c7w (by kernel_rfl) rfl trivial ⟨WA,trivial⟩ fun x=>by kernel_rfl
theorem c4r:x9 P gl 314 d4u:=dS f314 b4Y b8O e0z c8c (by kernel_rfl) rfl trivial ⟨a0Y,a0Z,a9c,WA,a0T,a9e,a9f,trivial⟩ fun x=>by kernel_rfl
theorem c3X:x9 P gl 281 d4a:=dS f281 b4t b8j d9U c7x (by kernel_rfl) rfl trivial ⟨c4r,trivial⟩ fun x=>by kernel_rfl
theorem a9g:x9 P gl 315 c1M:=dS f315 b4Z b8P e0A c8d (by kernel_rfl) rfl trivial trivial fun x=>by kernel_rfl
theorem a9h:x9 P gl 316 c1N:=dS f316 b5a b8Q e0B c8e (by kernel_rfl) rfl trivial trivial fun x=>by kernel_rfl
theorem c3Y:x9 P gl 282 d4b:=dS f282 b4u b8k d9V c7y (by kernel_rfl) rfl trivial ⟨a9g,a9h,WB,trivial⟩ fun x=>by kernel_rfl
theorem c3Z:x9 P gl 283 d4c:=dS f283 b4v b8l d9W c7z (by kernel_rfl) rfl trivial ⟨a0Y,a0Z,WB,trivial⟩ fun x=>by kernel_rfl
theorem c4s:x9 P gl 317 d4v:=dS f317 b5b b8R e0C c8f (by kernel_rfl) rfl trivial trivial fun x=>by kernel_rfl
theorem c4a:x9 P gl 284 d4d:=dS f284 b4w b8m d9X c7A (by kernel_rfl) rfl trivial ⟨a9g,a9h,WA,a0T,c4s,trivial⟩ fun x=>by kernel_rfl
theorem c3B:x9 P gl 241 d3H:=dS f241 b3P b7F d9q c6T (by kernel_rfl) rfl trivial ⟨c3W,c3X,c3Y,c3Z,WB,c4a,trivial⟩ fun x=>by kernel_rfl
theorem c4b:x9 P gl 285 d4e:=dS f285 b4x b8n d9Y c7B (by kernel_rfl) rfl trivial ⟨a0V,a8W,trivial⟩ fun x=>by kernel_rfl
theorem a8N:x9 P gl 242 c1z:=dS f242 b3Q b7G d9r c6U (by kernel_rfl) rfl trivial ⟨a0U,a0R,a0V,c4b,trivial⟩ fun x=>by kernel_rfl
theorem c3C:x9 P gl 243 d3I:=dS f243 b3R b7H d9s c6V (by kernel_rfl) rfl trivial ⟨a0U,a0R,a8N,trivial⟩ fun x=>by kernel_rfl
theorem c2Z:x9 P gl 189 d3g:=dS f189 b3h b6X d8I c6l (by kernel_rfl) rfl trivial ⟨c3B,a8M,a8N,c3C,trivial⟩ fun x=>by kernel_rfl
theorem c2y:x9 P gl 141 d2I:=dS f141 b2A b6q d7Y c5y (by kernel_rfl) rfl trivial ⟨c2V,c2W,c2X,c2Y,c2Z,trivial⟩ fun x=>by kernel_rfl
theorem c2c:x9 P gl 101 d2p:=dS f101 b1U b5I d7p c4O (by kernel_rfl) rfl trivial ⟨c2t,RH,c2u,c2w,c2x,c2y,MH,trivial⟩ fun x=>by kernel_rfl
theorem b1F:∀n,x9 P gl 136 ⟨a7e,[(true,(.dat (.prod (.int .i64) (.prod (.int .i64) (.int .i64))))),(false,(.dat (.int .i64)))],[],fun x=>(A7 n).1 x.1 x.2⟩∧x9 P gl 66 ⟨a4I,[(true,(.dat (.prod (.int .i64) (.prod (.int .i64) (.int .i64))))),(false,(.dat (.int .i64)))],[],fun x=>(A7 n).2.1 x.1 x.2⟩∧x9 P gl 100 ⟨a7d,[(true,(.dat (.prod (.int .i64) (.prod (.int .i64) (.int .i64))))),(false,(.dat (.int .i64)))],[],fun x=>(A7 n).2.2 x.1 x.2.1 x.2.2⟩:=by
 intro n
 induction n with
 | zero=>exact⟨(fun w ok O vals x r _ _ _ _ _ h=>by cases h),(fun w ok O vals x r _ _ _ _ _ h=>by cases h),(fun w ok O vals x r _ _ _ _ _ h=>by cases h)⟩
 | succ n ih=>exact⟨dS f136 a7e d0O (d7T (A7 n).1 (A7 n).2.1 (A7 n).2.2) c5t (by kernel_rfl) rfl trivial ⟨ih.2.1,MH,trivial⟩ fun x=>by kernel_rfl,
  dS f66 a4I d1N (e66 (A7 n).1 (A7 n).2.1 (A7 n).2.2) d6M (by kernel_rfl) rfl trivial ⟨d5I,ih.2.2,ih.2.1,c2c,trivial⟩ fun x=>by kernel_rfl,
  dS f100 a7d d0K (d7o (A7 n).1 (A7 n).2.1 (A7 n).2.2) c4N (by kernel_rfl) rfl trivial ⟨ih.1,ih.2.1,trivial⟩ fun x=>by kernel_rfl⟩
theorem d5p:x9 P gl 66 s66:=(b1F bJ).2.1
theorem a9t:x9 P gl 38 s38:=dS f38 c9K d1o e38 d6o (by kernel_rfl) rfl trivial ⟨d5o,d5p,trivial⟩ fun x=>by kernel_rfl
theorem c2d:x9 P gl 109 d2q:=dS f109 b1Z b5N d7u c4T (by kernel_rfl) rfl trivial trivial fun x=>by kernel_rfl
theorem c3b:x9 P gl 201 d3i:=dS f201 b3j b6Z d8K c6n (by kernel_rfl) rfl trivial trivial fun x=>by kernel_rfl
theorem c2A:x9 P gl 146 d2K:=dS f146 b2D b6t d8b c5B (by kernel_rfl) rfl trivial ⟨c3b,trivial⟩ fun x=>by kernel_rfl
theorem a8n:x9 P gl 111 c1m:=dS f111 b2b b5P d7w c4W (by kernel_rfl) rfl trivial ⟨c2A,trivial⟩ fun x=>by kernel_rfl
theorem c2e:x9 P gl 110 d2r:=dS f110 b2a b5O d7v c4V (by kernel_rfl) rfl trivial ⟨a8n,trivial⟩ fun x=>by kernel_rfl
theorem d5t:x9 P gl 79 s79:=dS f79 d0o d1U e79 d6T (by kernel_rfl) rfl trivial ⟨c2d,c2e,a8n,trivial⟩ fun x=>by kernel_rfl
theorem b9H:x9 P gl 49 s49:=dS f49 c9R d1w e49 d6v (by kernel_rfl) rfl trivial ⟨d5s,a9t,d5t,trivial⟩ fun x=>by kernel_rfl
theorem d5h:x9 P gl 58 s58:=dS f58 d0a d1F e58 d6E (by kernel_rfl) rfl trivial ⟨d5D,b9H,a9t,trivial⟩ fun x=>by kernel_rfl
theorem a8Z:x9 P gl 29 s29:=dS f29 c9B d1f e29 d6f (by kernel_rfl) rfl trivial ⟨d5h,trivial⟩ fun x=>by kernel_rfl
theorem a3w:x9 P gl 12 s12:=dS f12 c9k d0M e12 d5Q (by kernel_rfl) rfl trivial ⟨a8V,a8X,a8Z,trivial⟩ fun x=>by kernel_rfl
theorem a8S:x9 P gl 26 s26:=dS f26 c9w d1c e26 d6c (by kernel_rfl) rfl trivial trivial fun x=>by kernel_rfl
theorem YJ:x9 P gl 11 s11:=dS f11 c9j d0L e11 d5P (by kernel_rfl) rfl trivial ⟨d4Z,a3w,a8S,trivial⟩ fun x=>by kernel_rfl
theorem b9C:x9 P gl 20 s20:=dS f20 c9q d0W e20 d5W (by kernel_rfl) rfl trivial trivial fun x=>by kernel_rfl
theorem e4F:x9 P gl 40 s40:=dS f40 e4v e4z e40 e4N (by kernel_rfl) rfl trivial ⟨a9x,trivial⟩ fun x=>by kernel_rfl
theorem e4D:x9 P gl 16 s16:=dS f16 e1l e1n e16 e4L (by kernel_rfl) rfl trivial ⟨YR,e4F,trivial⟩ fun x=>by kernel_rfl
theorem e4U:x9 P gl 5 s5:=dS f5 ps5 rt5 e5 an5 (by kernel_rfl) rfl trivial ⟨YH,YJ,a3w,e4D,trivial⟩ fun x=>by kernel_rfl
theorem e4G:x9 Go.Proofs.Tryz.prog gl 43 s43:=e1L (E:=⟨8,eqs,tt,gl,[],[],[],[],[]⟩) (f:=43) (fn:=Go.Proofs.Tryz.f43) (c:=a5Q Go.Proofs.Tryz.f43) (t:=.str) (by kernel_rfl) (by kernel_rfl) (by kernel_rfl) (by kernel_rfl)
  (a5Y (by kernel_rfl) d5K c0R (by kernel_rfl) trivial trivial) (fun b=>by cases b <;> kernel_rfl) (fun xs=>by kernel_rfl)
theorem e4a:x9 P gl 71 s71:=dS f71 e4y e4C e71 e4Q (by kernel_rfl) rfl trivial trivial fun x=>by kernel_rfl
theorem e4H:x9 P gl 44 s44:=dS f44 e4w e4A e44 e4O (by kernel_rfl) rfl trivial ⟨a3y,e4a,trivial⟩ fun x=>by kernel_rfl
theorem e2T:x9 P gl 73 e3D:=dS f73 e3y e3A e4u e4d (by kernel_rfl) rfl trivial ⟨a3y,trivial⟩ fun x=>by kernel_rfl
theorem e3S:x9 P gl 72 e3Y:=dS f72 e3x e3z e4t e4c (by kernel_rfl) rfl trivial ⟨e2T,trivial⟩ fun x=>by kernel_rfl
theorem e4J:x9 Go.Proofs.Tryz.prog gl 74 s74:=e1L (E:=⟨8,eqs,tt,gl,[],[],[],[],[]⟩) (f:=74) (fn:=Go.Proofs.Tryz.f74) (c:=a5Q Go.Proofs.Tryz.f74) (t:=(.prod (.int .i64) (.int .i64))) (by kernel_rfl) (by kernel_rfl) (by kernel_rfl) (by kernel_rfl)
  (a5Y (by kernel_rfl) d5K c0R (by kernel_rfl) trivial trivial) (fun b=>by cases b <;> kernel_rfl) (fun xs=>by kernel_rfl)
theorem e4K:x9 Go.Proofs.Tryz.prog gl 75 s75:=e1L (E:=⟨8,eqs,tt,gl,[],[],[],[],[]⟩) (f:=75) (fn:=Go.Proofs.Tryz.f75) (c:=a5Q Go.Proofs.Tryz.f75) (t:=(.prod .str (.prod (.int .i64) (.int .i64)))) (by kernel_rfl) (by kernel_rfl) (by kernel_rfl) (by kernel_rfl)
  (a5Y (by kernel_rfl) d5K c0R (by kernel_rfl) trivial trivial) (fun b=>by cases b <;> kernel_rfl) (fun xs=>by kernel_rfl)
theorem e4I:x9 P gl 45 s45:=dS f45 e4x e4B e45 e4P (by kernel_rfl) rfl trivial ⟨e2T,e3S,e4a,e4J,e4K,trivial⟩ fun x=>by kernel_rfl
theorem e4E:x9 P gl 19 s19:=dS f19 e1m e1o e19 e4M (by kernel_rfl) rfl trivial ⟨e4G,e4H,e4I,trivial⟩ fun x=>by kernel_rfl
theorem e4V:x9 P gl 7 s7:=dS f7 ps7 rt7 e7 an7 (by kernel_rfl) rfl trivial ⟨YH,YJ,a3w,e4E,b9C,trivial⟩ fun x=>by kernel_rfl
end Gt
