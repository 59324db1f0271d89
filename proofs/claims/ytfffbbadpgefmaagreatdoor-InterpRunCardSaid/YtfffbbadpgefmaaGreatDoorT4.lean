import Derived.Test.YtfffbbadpgefmaaGreatDoorT3
import Derived.Test.YtfffbbadpgefmaaGreatDoorProg
import Derived.Test.YtfffbbadpgefmaaGreatDoorShelf
set_option linter.all false
open Go Go.GP Go.Proofs.Tryz
namespace Gt
set_option maxRecDepth 100000
noncomputable abbrev P:Program:=Go.Proofs.Tryz.prog
theorem d5K:YY P tt=true:=by kernel_rfl
theorem c0R:∀t sh,Y9 eqs t=some sh→Gv P t sh:=Xl (by kernel_rfl)
theorem dS {f:FuncId} (fn:Func) (ps:List MG) (rt:Ret) (E:Env) (an:Ann) {F:U4 ps→Option rt.den} (h:(P.funcs[f]?,fn.body,fn.ntmps,fn.results.toList,Nat.ble (64*E.nt) 999936,Xw P E.fs)=(some fn,some (a5Q fn),E.nt,rt.rs.map (·.1),true,true)) (ht:(E.tt,E.eqs)=(tt,eqs)) (hm:a1r P E.ms) (hs:a9U P E.gl E.fs) (hF:∀x,c0q E ps rt (a5Q fn) an x=F x):
  x9 P E.gl f ⟨ps,rt.rs.map (·.2),rt.outs.map (·.2),F⟩:=by
 injection h with h1 h;injection h with h2 h;injection h with h3 h;injection h with h4 h;injection h with h5 h6
 injection ht with t1 t2
 exact Zq h1 h2 h3 h4 (a5Y h5 (t1▸d5K) (t2▸c0R) h6 hm hs) fun x r h=>(hF x).trans h
theorem d5e:x9 P gl 55 s55:=dS f55 c9X d1C e55 d6B (by kernel_rfl) rfl trivial trivial fun x=>by kernel_rfl
theorem d4X:x9 P gl 23 s23:=dS f23 c9t d0Z e23 d5Z (by kernel_rfl) rfl trivial ⟨d5e,trivial⟩ fun x=>by kernel_rfl
theorem d4Y:x9 P gl 24 s24:=dS f24 c9u d1a e24 d6a (by kernel_rfl) rfl trivial trivial fun x=>by kernel_rfl
theorem YH:x9 P gl 10 s10:=dS f10 c9g d0J e10 d5O (by kernel_rfl) rfl trivial ⟨d4X,d4Y,trivial⟩ fun x=>by kernel_rfl
theorem d4Z:x9 P gl 25 s25:=dS f25 c9v d1b e25 d6b (by kernel_rfl) rfl trivial trivial fun x=>by kernel_rfl
theorem a8w:x9 P gl 158 c1r:=dS f158 b2K b6A d8l c5N (by kernel_rfl) rfl trivial trivial fun x=>by kernel_rfl
theorem c3l:x9 P gl 213 d3s:=dS f213 b3v b7l d8W c6z (by kernel_rfl) rfl trivial trivial fun x=>by kernel_rfl
theorem c2H:x9 P gl 159 d2Q:=dS f159 b2L b6B d8m c5O (by kernel_rfl) rfl trivial ⟨a8w,c3l,trivial⟩ fun x=>by kernel_rfl
theorem c2I:x9 P gl 160 d2R:=dS f160 b2M b6C d8n c5P (by kernel_rfl) rfl trivial trivial fun x=>by kernel_rfl
theorem RG:x9 P gl 123 a5b:=dS f123 b2l b6b d7I c5i (by kernel_rfl) rfl trivial ⟨a8w,c2H,c2I,trivial⟩ fun x=>by kernel_rfl
theorem YL:x9 P gl 162 a0y:=dS f162 a2w a3c c0z b0f (by kernel_rfl) rfl trivial trivial fun x=>by kernel_rfl
theorem a8G:x9 P gl 214 a7P:=dS f214 a2D a3j c0G b0m (by kernel_rfl) rfl trivial ⟨YL,trivial⟩ fun x=>by kernel_rfl
theorem a8x:x9 P gl 161 a7J:=dS f161 a2v a3b c0y b0e (by kernel_rfl) rfl trivial ⟨a8G,trivial⟩ fun x=>by kernel_rfl
theorem a0M:x9 P gl 124 b1g:=dS f124 b2m b6c d7J c5j (by kernel_rfl) rfl trivial ⟨YL,a8x,trivial⟩ fun x=>by kernel_rfl
theorem c3j:x9 P gl 211 d3q:=dS f211 b3t b7j d8U c6x (by kernel_rfl) rfl trivial trivial fun x=>by kernel_rfl
theorem c2F:x9 P gl 154 d2O:=dS f154 b2I b6y d8j c5K (by kernel_rfl) rfl trivial ⟨c3j,trivial⟩ fun x=>by kernel_rfl
theorem c2k:x9 P gl 121 d2x:=dS f121 b2j b5Z d7G c5g (by kernel_rfl) rfl trivial ⟨RG,a0M,c2F,trivial⟩ fun x=>by kernel_rfl
theorem d5y:x9 P gl 87 s87:=dS f87 d0w d2c e87 d7b (by kernel_rfl) rfl trivial ⟨c2k,trivial⟩ fun x=>by kernel_rfl
theorem YR:x9 P gl 39 s39:=dS f39 c9L d1p e39 d6p (by kernel_rfl) rfl trivial trivial fun x=>by kernel_rfl
theorem a9x:x9 P gl 67 s67:=dS f67 d0i d1O e67 d6N (by kernel_rfl) rfl trivial ⟨YR,trivial⟩ fun x=>by kernel_rfl
theorem a0K:x9 P gl 105 b1e:=dS f105 b1Y b5M d7t c4S (by kernel_rfl) rfl trivial trivial fun x=>by kernel_rfl
theorem c3O:x9 P gl 265 d3S:=dS f265 b4h b7X d9I c7l (by kernel_rfl) rfl trivial ⟨a0K,trivial⟩ fun x=>by kernel_rfl
theorem c3k:x9 P gl 212 d3r:=dS f212 b3u b7k d8V c6y (by kernel_rfl) rfl trivial ⟨c3O,trivial⟩ fun x=>by kernel_rfl
theorem c2G:x9 P gl 157 d2P:=dS f157 b2J b6z d8k c5M (by kernel_rfl) rfl trivial ⟨c3k,trivial⟩ fun x=>by kernel_rfl
theorem YK:x9 P gl 156 a0x:=dS f156 a2u a3a c0x b0d (by kernel_rfl) rfl trivial ⟨c2G,trivial⟩ fun x=>by kernel_rfl
theorem a8u:x9 P gl 155 a7H:=dS f155 a2s a2Y c0u b0b (by kernel_rfl) rfl trivial ⟨YK,trivial⟩ fun x=>by kernel_rfl
theorem c2l:x9 P gl 122 d2y:=dS f122 b2k b6a d7H c5h (by kernel_rfl) rfl trivial ⟨YR,a9x,a0K,YK,a8u,trivial⟩ fun x=>by kernel_rfl
theorem YM:x9 P gl 164 a0z:=dS f164 a2y a3e c0B b0h (by kernel_rfl) rfl trivial trivial fun x=>by kernel_rfl
theorem a8H:x9 P gl 215 a7Q:=dS f215 a2E a3k c0H b0n (by kernel_rfl) rfl trivial ⟨YM,trivial⟩ fun x=>by kernel_rfl
theorem a8y:x9 P gl 163 a7K:=dS f163 a2x a3d c0A b0g (by kernel_rfl) rfl trivial ⟨a8H,trivial⟩ fun x=>by kernel_rfl
theorem a8q:x9 P gl 125 c1p:=dS f125 b2n b6d d7K c5k (by kernel_rfl) rfl trivial ⟨YM,a8y,trivial⟩ fun x=>by kernel_rfl
theorem d5z:x9 P gl 88 s88:=dS f88 d0x d2d e88 d7c (by kernel_rfl) rfl trivial ⟨c2l,RG,a0M,a8q,trivial⟩ fun x=>by kernel_rfl
theorem YN:x9 P gl 166 a0A:=dS f166 a2A a3g c0D b0j (by kernel_rfl) rfl trivial trivial fun x=>by kernel_rfl
theorem a8I:x9 P gl 216 a7R:=dS f216 a2F a3l c0I b0o (by kernel_rfl) rfl trivial ⟨YN,trivial⟩ fun x=>by kernel_rfl
theorem a8z:x9 P gl 165 a7L:=dS f165 a2z a3f c0C b0i (by kernel_rfl) rfl trivial ⟨a8I,trivial⟩ fun x=>by kernel_rfl
theorem YO:x9 P gl 217 a0C:=dS f217 a2G a3m c0J b0p (by kernel_rfl) rfl trivial trivial fun x=>by kernel_rfl
theorem a8T:x9 P gl 266 a7U:=dS f266 a2L a3r c0O b0u (by kernel_rfl) rfl trivial ⟨YO,trivial⟩ fun x=>by kernel_rfl
theorem a8J:x9 P gl 218 a7S:=dS f218 a2H a3n c0K b0q (by kernel_rfl) rfl trivial ⟨a8T,trivial⟩ fun x=>by kernel_rfl
theorem c2J:x9 P gl 167 d2S:=dS f167 b2N b6D d8o c5Q (by kernel_rfl) rfl trivial ⟨YO,RG,a8J,YR,trivial⟩ fun x=>by kernel_rfl
theorem c3n:x9 P gl 219 d3t:=dS f219 b3w b7m d8X c6A (by kernel_rfl) rfl trivial trivial fun x=>by kernel_rfl
theorem c2K:x9 P gl 168 d2T:=dS f168 b2O b6E d8p c5R (by kernel_rfl) rfl trivial ⟨c3n,trivial⟩ fun x=>by kernel_rfl
theorem YP:x9 P gl 221 a0D:=dS f221 a2J a3p c0M b0s (by kernel_rfl) rfl trivial trivial fun x=>by kernel_rfl
theorem a8U:x9 P gl 267 a7V:=dS f267 a2M a3s c0P b0v (by kernel_rfl) rfl trivial ⟨YP,trivial⟩ fun x=>by kernel_rfl
theorem a8K:x9 P gl 220 a7T:=dS f220 a2I a3o c0L b0r (by kernel_rfl) rfl trivial ⟨a8U,trivial⟩ fun x=>by kernel_rfl
theorem c3P:x9 Go.Proofs.Tryz.prog gl 268 d3T:=Ot Go.Proofs.Tryz.strings_Contains_one
theorem c3o:x9 P gl 222 d3u:=dS f222 b3x b7n d8Y c6B (by kernel_rfl) rfl trivial ⟨c3P,trivial⟩ fun x=>by kernel_rfl
theorem RH:x9 P gl 135 a5c:=dS f135 b2v b6l d7S c5s (by kernel_rfl) rfl trivial trivial fun x=>by kernel_rfl
theorem b9M:x9 P gl 98 s98:=dS f98 d0H d2n e98 d7m (by kernel_rfl) rfl trivial ⟨RH,trivial⟩ fun x=>by kernel_rfl
theorem a8D:x9 P gl 179 c1t:=dS f179 b2X b6N d8y c6b (by kernel_rfl) rfl trivial trivial fun x=>by kernel_rfl
theorem c4w:x9 P gl 328 d4z:=dS f328 b5l b9b e0M c8p (by kernel_rfl) rfl trivial ⟨a9x,trivial⟩ fun x=>by kernel_rfl
theorem c4x:x9 P gl 329 d4A:=dS f329 b5m b9c e0N c8q (by kernel_rfl) rfl trivial trivial fun x=>by kernel_rfl
theorem a9m:x9 P gl 330 c1S:=dS f330 b5n b9d e0O c8r (by kernel_rfl) rfl trivial ⟨YR,trivial⟩ fun x=>by kernel_rfl
theorem a9n:x9 P gl 333 c1T:=dS f333 b5q b9g e0R c8u (by kernel_rfl) rfl trivial trivial fun x=>by kernel_rfl
theorem c4y:x9 P gl 331 d4B:=dS f331 b5o b9e e0P c8s (by kernel_rfl) rfl trivial ⟨a9n,YR,trivial⟩ fun x=>by kernel_rfl
theorem a9o:x9 P gl 345 c1V:=dS f345 b5y b9o e0Z c8D (by kernel_rfl) rfl trivial trivial fun x=>by kernel_rfl
theorem c4z:x9 P gl 332 d4C:=dS f332 b5p b9f e0Q c8t (by kernel_rfl) rfl trivial ⟨a9m,a9o,trivial⟩ fun x=>by kernel_rfl
theorem c4I:x9 P gl 346 d4K:=dS f346 b5z b9p e1a c8E (by kernel_rfl) rfl trivial trivial fun x=>by kernel_rfl
theorem c4A:x9 P gl 334 d4D:=dS f334 b5r b9h e0S c8v (by kernel_rfl) rfl trivial ⟨a9o,c4I,trivial⟩ fun x=>by kernel_rfl
theorem c4m:x9 P gl 304 d4p:=dS f304 b4O b8E e0p c7S (by kernel_rfl) rfl trivial ⟨c4w,c4x,a9m,c4y,c4z,a9n,c4A,trivial⟩ fun x=>by kernel_rfl
theorem c3Q:x9 P gl 269 d3U:=dS f269 b4i b7Y d9J c7m (by kernel_rfl) rfl trivial ⟨b9M,a8D,RH,c4m,trivial⟩ fun x=>by kernel_rfl
theorem c3p:x9 P gl 223 d3v:=dS f223 b3y b7o d8Z c6C (by kernel_rfl) rfl trivial ⟨c3Q,trivial⟩ fun x=>by kernel_rfl
theorem c2M:x9 P gl 169 d2U:=dS f169 b2P b6F d8q c5S (by kernel_rfl) rfl trivial ⟨RG,YP,a8K,c3o,c3p,trivial⟩ fun x=>by kernel_rfl
theorem a8l:x9 Go.Proofs.Tryz.prog gl 106 c1k:=a1e Go.Proofs.Tryz.slices_Sort_int Go.Proofs.Tryz.slices_Sort_int_none
theorem a8m:x9 Go.Proofs.Tryz.prog gl 107 c1l:=SG Go.Proofs.Tryz.slices_Compact_int Go.Proofs.Tryz.slices_Compact_int_empty
theorem d5r:x9 P gl 77 s77:=dS f77 d0m d1S e77 d6R (by kernel_rfl) rfl trivial ⟨a8l,a8m,trivial⟩ fun x=>by kernel_rfl
theorem a9u:x9 P gl 47 s47:=dS f47 c9P d1t e47 d6t (by kernel_rfl) rfl trivial ⟨d5r,trivial⟩ fun x=>by kernel_rfl
theorem c2z:x9 P gl 143 d2J:=dS f143 b2C b6s d8a c5A (by kernel_rfl) rfl trivial ⟨a9u,trivial⟩ fun x=>by kernel_rfl
theorem a8k:x9 P gl 104 c1j:=dS f104 b1X b5L d7s c4R (by kernel_rfl) rfl trivial ⟨a8l,a8m,trivial⟩ fun x=>by kernel_rfl
theorem a0J:x9 P gl 103 b1d:=dS f103 b1W b5K d7r c4Q (by kernel_rfl) rfl trivial ⟨c2z,a8k,trivial⟩ fun x=>by kernel_rfl
theorem a8j:x9 P gl 102 c1i:=dS f102 b1V b5J d7q c4P (by kernel_rfl) rfl trivial trivial fun x=>by kernel_rfl
theorem a9y:x9 P gl 68 s68:=dS f68 d0j d1P e68 d6O (by kernel_rfl) rfl trivial ⟨a0J,a8j,trivial⟩ fun x=>by kernel_rfl
theorem c3q:x9 P gl 224 d3w:=dS f224 b3z b7p d9a c6D (by kernel_rfl) rfl trivial trivial fun x=>by kernel_rfl
theorem c2N:x9 P gl 170 d2V:=dS f170 b2Q b6G d8r c5T (by kernel_rfl) rfl trivial ⟨c3q,trivial⟩ fun x=>by kernel_rfl
theorem c2n:x9 P gl 126 d2z:=dS f126 b2o b6e d7L c5l (by kernel_rfl) rfl trivial ⟨a0M,a8q,YN,a8z,RG,c2J,c2K,c2M,a9y,c2N,trivial⟩ fun x=>by kernel_rfl
theorem d5A:x9 P gl 89 s89:=dS f89 d0y d2e e89 d7d (by kernel_rfl) rfl trivial ⟨c2n,trivial⟩ fun x=>by kernel_rfl
theorem d5f:x9 P gl 56 s56:=dS f56 c9Y d1D e56 d6C (by kernel_rfl) rfl trivial ⟨d5y,d5z,d5A,trivial⟩ fun x=>by kernel_rfl
theorem d5B:x9 P gl 90 s90:=dS f90 d0z d2f e90 d7e (by kernel_rfl) rfl trivial ⟨a9x,trivial⟩ fun x=>by kernel_rfl
theorem d5C:x9 P gl 91 s91:=dS f91 d0A d2g e91 d7f (by kernel_rfl) rfl trivial trivial fun x=>by kernel_rfl
theorem d5g:x9 P gl 57 s57:=dS f57 c9Z d1E e57 d6D (by kernel_rfl) rfl trivial ⟨d5B,d5C,trivial⟩ fun x=>by kernel_rfl
theorem a8V:x9 P gl 27 s27:=dS f27 c9y d1d e27 d6d (by kernel_rfl) rfl trivial ⟨d5f,d5g,trivial⟩ fun x=>by kernel_rfl
theorem a8X:x9 P gl 28 s28:=dS f28 c9A d1e e28 d6e (by kernel_rfl) rfl trivial trivial fun x=>by kernel_rfl
theorem a9s:x9 P gl 371 a8b:=dS f371 a2N a3t c0Q b0w (by kernel_rfl) rfl trivial trivial fun x=>by kernel_rfl
theorem a0N:x9 P gl 128 b1h:=dS f128 b2p b6f d7M c5m (by kernel_rfl) rfl trivial trivial fun x=>by kernel_rfl
theorem a9r:x9 P gl 369 c1X:=dS f369 b5E b9u e1f c8J (by kernel_rfl) rfl trivial trivial fun x=>by kernel_rfl
theorem a1c:x9 P gl 372 b1w:=dS f372 b5G b9w e1h c8L (by kernel_rfl) rfl trivial trivial fun x=>by kernel_rfl
theorem c9e:zo Go.Proofs.Tryz.prog 185 "Less" 369 (some 186):=IE (by kernel_rfl)
theorem c0W:zo Go.Proofs.Tryz.prog 185 "Swap" 372 (some 186):=IE (by kernel_rfl)
theorem a8A:x9 P gl 171 a7M:=dS f171 a2B a3h c0E b0k (by kernel_rfl) rfl ⟨c9e,c0W,trivial⟩ ⟨a9r,a1c,trivial⟩ fun x=>by kernel_rfl
theorem c9f:zo Go.Proofs.Tryz.prog 185 "Len" 128 (some 186):=IE (by kernel_rfl)
theorem e1i:zo Go.Proofs.Tryz.prog 185 "Push" 371 none:=fun v w=>show(method _ 185 v "Push").run _ w= .ok (371,v) w by kernel_rfl
theorem a8r:x9 P gl 127 a7F:=dS f127 a2p a2W c0s a9Z (by kernel_rfl) rfl ⟨c9f,e1i,trivial⟩ ⟨a9s,a0N,a8A,trivial⟩ fun x=>by kernel_rfl
theorem a8B:x9 P gl 172 a7N:=dS f172 a2C a3i c0F b0l (by kernel_rfl) rfl ⟨c9e,c0W,trivial⟩ ⟨a9r,a1c,trivial⟩ fun x=>by kernel_rfl
theorem c4K:x9 P gl 370 d4M:=dS f370 b5F b9v e1g c8K (by kernel_rfl) rfl trivial trivial fun x=>by kernel_rfl
theorem e1j:zo Go.Proofs.Tryz.prog 185 "Pop" 370 none:=fun v w=>show(method _ 185 v "Pop").run _ w= .ok (370,v) w by kernel_rfl
theorem a8s:x9 P gl 129 a7G:=dS f129 a2q a2X c0t b0a (by kernel_rfl) rfl ⟨c9f,e1j,c0W,trivial⟩ ⟨a0N,a1c,a8B,c4K,trivial⟩ fun x=>by kernel_rfl
theorem d5D:x9 P gl 92 s92:=dS f92 d0B d2h e92 d7g (by kernel_rfl) rfl trivial ⟨a0J,a8r,a0N,a8s,trivial⟩ fun x=>by kernel_rfl
theorem a3y:x9 P gl 70 s70:=dS f70 d0l d1R e70 d6Q (by kernel_rfl) rfl trivial ⟨a0K,trivial⟩ fun x=>by kernel_rfl
theorem YI:x9 P gl 108 a0v:=dS f108 a2n a2V c0r a9Y (by kernel_rfl) rfl trivial ⟨a3y,trivial⟩ fun x=>by kernel_rfl
theorem b1B:x9 P gl 72 b9x:=dS f72 a7h a7A c8U b9S (by kernel_rfl) rfl trivial ⟨YI,trivial⟩ fun x=>by kernel_rfl
theorem d5s:x9 P gl 78 s78:=dS f78 d0n d1T e78 d6S (by kernel_rfl) rfl trivial ⟨YI,b1B,trivial⟩ fun x=>by kernel_rfl
theorem d5o:x9 P gl 65 s65:=dS f65 d0h d1M e65 d6L (by kernel_rfl) rfl trivial ⟨b9M,trivial⟩ fun x=>by kernel_rfl
theorem d5I:x9 P gl 99 s99:=dS f99 d0I d2o e99 d7n (by kernel_rfl) rfl trivial ⟨RH,trivial⟩ fun x=>by kernel_rfl
theorem MH:x9 P gl 142 a0w:=dS f142 b2B b6r d7Z c5z (by kernel_rfl) rfl trivial trivial fun x=>by kernel_rfl
theorem c2t:x9 P gl 137 d2E:=dS f137 b2w b6m d7U c5u (by kernel_rfl) rfl trivial ⟨RH,a8D,trivial⟩ fun x=>by kernel_rfl
theorem c2u:x9 P gl 138 d2F:=dS f138 b2x b6n d7V c5v (by kernel_rfl) rfl trivial trivial fun x=>by kernel_rfl
theorem c2w:x9 P gl 139 d2G:=dS f139 b2y b6o d7W c5w (by kernel_rfl) rfl trivial ⟨MH,trivial⟩ fun x=>by kernel_rfl
theorem a8E:x9 P gl 180 c1u:=dS f180 b2Y b6O d8z c6c (by kernel_rfl) rfl trivial ⟨MH,trivial⟩ fun x=>by kernel_rfl
theorem a0Q:x9 P gl 235 b1k:=dS f235 b3K b7A d9l c6O (by kernel_rfl) rfl trivial trivial fun x=>by kernel_rfl
theorem c2R:x9 P gl 181 d2Z:=dS f181 b2Z b6P d8A c6d (by kernel_rfl) rfl trivial ⟨a0Q,trivial⟩ fun x=>by kernel_rfl
theorem c2S:x9 P gl 182 d3a:=dS f182 b3a b6Q d8B c6e (by kernel_rfl) rfl trivial ⟨a0Q,trivial⟩ fun x=>by kernel_rfl
theorem a8F:x9 P gl 184 c1w:=dS f184 b3c b6S d8D c6g (by kernel_rfl) rfl trivial trivial fun x=>by kernel_rfl
theorem c2T:x9 P gl 183 d3b:=dS f183 b3b b6R d8C c6f (by kernel_rfl) rfl trivial ⟨a8F,a0Q,trivial⟩ fun x=>by kernel_rfl
theorem c2x:x9 P gl 140 d2H:=dS f140 b2z b6p d7X c5x (by kernel_rfl) rfl trivial ⟨MH,a8E,c2R,c2S,c2T,a8F,trivial⟩ fun x=>by kernel_rfl
theorem c2V:x9 P gl 185 d3c:=dS f185 b3d b6T d8E c6h (by kernel_rfl) rfl trivial ⟨a8E,MH,trivial⟩ fun x=>by kernel_rfl
theorem YQ:x9 P gl 236 a0E:=dS f236 a2K a3q c0N b0t (by kernel_rfl) rfl trivial ⟨a3y,trivial⟩ fun x=>by kernel_rfl
theorem a8v:x9 P gl 155 a7I:=dS f155 a2t a2Z c0w b0c (by kernel_rfl) rfl trivial ⟨YQ,trivial⟩ fun x=>by kernel_rfl
theorem c2W:x9 P gl 186 d3d:=dS f186 b3e b6U d8F c6i (by kernel_rfl) rfl trivial ⟨YQ,a8v,trivial⟩ fun x=>by kernel_rfl
theorem WA:x9 Go.Proofs.Tryz.prog gl 274 a7W:=XV Go.Proofs.Tryz.bits_Mul64
theorem c3a:x9 P gl 200 d3h:=dS f200 b3i b6Y d8J c6m (by kernel_rfl) rfl trivial trivial fun x=>by kernel_rfl
theorem c4o:x9 P gl 306 d4r:=dS f306 b4Q b8G e0r c7U (by kernel_rfl) rfl trivial ⟨c3a,trivial⟩ fun x=>by kernel_rfl
theorem a0T:x9 P gl 275 b1n:=dS f275 b4n b8d d9O c7r (by kernel_rfl) rfl trivial ⟨c4o,trivial⟩ fun x=>by kernel_rfl
theorem c3z:x9 P gl 237 d3F:=dS f237 b3L b7B d9m c6P (by kernel_rfl) rfl trivial ⟨WA,a0T,trivial⟩ fun x=>by kernel_rfl
theorem a0Y:x9 P gl 307 b1s:=dS f307 b4R b8H e0s c7V (by kernel_rfl) rfl trivial trivial fun x=>by kernel_rfl
theorem a0Z:x9 P gl 308 b1t:=dS f308 b4S b8I e0t c7W (by kernel_rfl) rfl trivial trivial fun x=>by kernel_rfl
theorem a9c:x9 P gl 309 c1I:=dS f309 b4T b8J e0u c7X (by kernel_rfl) rfl trivial trivial fun x=>by kernel_rfl
theorem a9e:x9 P gl 310 c1J:=dS f310 b4U b8K e0v c7Y (by kernel_rfl) rfl trivial trivial fun x=>by kernel_rfl
theorem a9f:x9 P gl 311 c1K:=dS f311 b4V b8L e0w c7Z (by kernel_rfl) rfl trivial trivial fun x=>by kernel_rfl
theorem WB:x9 P gl 276 a7X:=dS f276 b4o b8e d9P c7s (by kernel_rfl) rfl trivial ⟨a0Y,a0Z,a9c,a9e,a9f,trivial⟩ fun x=>by kernel_rfl
theorem c3A:x9 P gl 238 d3G:=dS f238 b3M b7C d9n c6Q (by kernel_rfl) rfl trivial ⟨WB,trivial⟩ fun x=>by kernel_rfl
theorem c2X:x9 P gl 187 d3e:=dS f187 b3f b6V d8G c6j (by kernel_rfl) rfl trivial ⟨a3y,c3z,c3A,trivial⟩ fun x=>by kernel_rfl
theorem a8M:x9 P gl 239 c1y:=dS f239 b3N b7D d9o c6R (by kernel_rfl) rfl trivial trivial fun x=>by kernel_rfl
theorem a0U:x9 P gl 277 b1o:=dS f277 b4p b8f d9Q c7t (by kernel_rfl) rfl trivial trivial fun x=>by kernel_rfl
theorem c4p:x9 P gl 312 d4s:=dS f312 b4W b8M e0x c8a (by kernel_rfl) rfl trivial trivial fun x=>by kernel_rfl
theorem a8W:x9 P gl 278 c1F:=dS f278 b4q b8g d9R c7u (by kernel_rfl) rfl trivial ⟨c4p,trivial⟩ fun x=>by kernel_rfl
theorem c4q:x9 P gl 313 d4t:=dS f313 b4X b8N e0y c8b (by kernel_rfl) rfl trivial trivial fun x=>by kernel_rfl
theorem a0V:x9 P gl 279 b1p:=dS f279 b4r b8h d9S c7v (by kernel_rfl) rfl trivial ⟨c4q,trivial⟩ fun x=>by kernel_rfl
theorem a0R:x9 P gl 240 b1l:=dS f240 b3O b7E d9p c6S (by kernel_rfl) rfl trivial ⟨a0U,a8W,a0V,trivial⟩ fun x=>by kernel_rfl
theorem c2Y:x9 P gl 188 d3f:=dS f188 b3g b6W d8H c6k (by kernel_rfl) rfl trivial ⟨a8M,a0R,trivial⟩ fun x=>by kernel_rfl
theorem c3W:x9 P gl 280 d3Z:=dS f280 b4s b8i d9T c7w (by kernel_rfl) rfl trivial ⟨WA,trivial⟩ fun x=>by kernel_rfl
theorem c4r:x9 P gl 314 d4u:=dS f314 b4Y b8O e0z c8c (by kernel_rfl) rfl trivial ⟨a0Y,a0Z,a9c,WA,a0T,a9e,a9f,trivial⟩ fun x=>by kernel_rfl
theorem c3X:x9 P gl 281 d4a:=dS f281 b4t b8j d9U c7x (by kernel_rfl) rfl trivial ⟨c4r,trivial⟩ fun x=>by kernel_rfl
theorem a9g:x9 P gl 315 c1M:=dS f315 b4Z b8P e0A c8d (by kernel_rfl) rfl trivial trivial fun x=>by kernel_rfl
theorem a9h:x9 P gl 316 c1N:=dS f316 b5a b8Q e0B c8e (by kernel_rfl) rfl trivial trivial fun x=>by kernel_rfl
theorem c3Y:x9 P gl 282 d4b:=dS f282 b4u b8k d9V c7y (by kernel_rfl) rfl trivial ⟨a9g,a9h,WB,trivial⟩ fun x=>by kernel_rfl
theorem c3Z:x9 P gl 283 d4c:=dS f283 b4v b8l d9W c7z (by kernel_rfl) rfl trivial ⟨a0Y,a0Z,WB,trivial⟩ fun x=>by kernel_rfl
theorem c4s:x9 P gl 317 d4v:=dS f317 b5b b8R e0C c8f (by kernel_rfl) rfl trivial trivial fun x=>by kernel_rfl
theorem c4a:x9 P gl 284 d4d:=dS f284 b4w b8m d9X c7A (by kernel_rfl) rfl trivial ⟨a9g,a9h,WA,a0T,c4s,trivial⟩ fun x=>by kernel_rfl
theorem c3B:x9 P gl 241 d3H:=dS f241 b3P b7F d9q c6T (by kernel_rfl) rfl trivial ⟨c3W,c3X,c3Y,c3Z,WB,c4a,trivial⟩ fun x=>by kernel_rfl
theorem c4b:x9 P gl 285 d4e:=dS f285 b4x b8n d9Y c7B (by kernel_rfl) rfl trivial ⟨a0V,a8W,trivial⟩ fun x=>by kernel_rfl
theorem a8N:x9 P gl 242 c1z:=dS f242 b3Q b7G d9r c6U (by kernel_rfl) rfl trivial ⟨a0U,a0R,a0V,c4b,trivial⟩ fun x=>by kernel_rfl
theorem c3C:x9 P gl 243 d3I:=dS f243 b3R b7H d9s c6V (by kernel_rfl) rfl trivial ⟨a0U,a0R,a8N,trivial⟩ fun x=>by kernel_rfl
theorem c2Z:x9 P gl 189 d3g:=dS f189 b3h b6X d8I c6l (by kernel_rfl) rfl trivial ⟨c3B,a8M,a8N,c3C,trivial⟩ fun x=>by kernel_rfl
theorem c2y:x9 P gl 141 d2I:=dS f141 b2A b6q d7Y c5y (by kernel_rfl) rfl trivial ⟨c2V,c2W,c2X,c2Y,c2Z,trivial⟩ fun x=>by kernel_rfl
theorem c2c:x9 P gl 101 d2p:=dS f101 b1U b5I d7p c4O (by kernel_rfl) rfl trivial ⟨c2t,RH,c2u,c2w,c2x,c2y,MH,trivial⟩ fun x=>by kernel_rfl
theorem b1F:∀n,x9 P gl 136 ⟨a7e,[(true,(.dat (.prod (.int .i64) (.prod (.int .i64) (.int .i64))))),(false,(.dat (.int .i64)))],[],fun x=>(A7 n).1 x.1 x.2⟩∧x9 P gl 66 ⟨a4I,[(true,(.dat (.prod (.int .i64) (.prod (.int .i64) (.int .i64))))),(false,(.dat (.int .i64)))],[],fun x=>(A7 n).2.1 x.1 x.2⟩∧x9 P gl 100 ⟨a7d,[(true,(.dat (.prod (.int .i64) (.prod (.int .i64) (.int .i64))))),(false,(.dat (.int .i64)))],[],fun x=>(A7 n).2.2 x.1 x.2.1 x.2.2⟩:=by
 intro n
 induction n with
 | zero=>exact⟨(fun w ok O vals x r _ _ _ _ _ h=>by cases h),(fun w ok O vals x r _ _ _ _ _ h=>by cases h),(fun w ok O vals x r _ _ _ _ _ h=>by cases h)⟩
 | succ n ih=>exact⟨dS f136 a7e d0O (d7T (A7 n).1 (A7 n).2.1 (A7 n).2.2) c5t (by kernel_rfl) rfl trivial ⟨ih.2.1,MH,trivial⟩ fun x=>by kernel_rfl,
  dS f66 a4I d1N (e66 (A7 n).1 (A7 n).2.1 (A7 n).2.2) d6M (by kernel_rfl) rfl trivial ⟨d5I,ih.2.2,ih.2.1,c2c,trivial⟩ fun x=>by kernel_rfl,
  dS f100 a7d d0K (d7o (A7 n).1 (A7 n).2.1 (A7 n).2.2) c4N (by kernel_rfl) rfl trivial ⟨ih.1,ih.2.1,trivial⟩ fun x=>by kernel_rfl⟩
theorem d5p:x9 P gl 66 s66:=(b1F bJ).2.1
theorem a9t:x9 P gl 38 s38:=dS f38 c9K d1o e38 d6o (by kernel_rfl) rfl trivial ⟨d5o,d5p,trivial⟩ fun x=>by kernel_rfl
theorem c2d:x9 P gl 109 d2q:=dS f109 b1Z b5N d7u c4T (by kernel_rfl) rfl trivial trivial fun x=>by kernel_rfl
theorem c3b:x9 P gl 201 d3i:=dS f201 b3j b6Z d8K c6n (by kernel_rfl) rfl trivial trivial fun x=>by kernel_rfl
theorem c2A:x9 P gl 146 d2K:=dS f146 b2D b6t d8b c5B (by kernel_rfl) rfl trivial ⟨c3b,trivial⟩ fun x=>by kernel_rfl
theorem a8n:x9 P gl 111 c1m:=dS f111 b2b b5P d7w c4W (by kernel_rfl) rfl trivial ⟨c2A,trivial⟩ fun x=>by kernel_rfl
theorem c2e:x9 P gl 110 d2r:=dS f110 b2a b5O d7v c4V (by kernel_rfl) rfl trivial ⟨a8n,trivial⟩ fun x=>by kernel_rfl
theorem d5t:x9 P gl 79 s79:=dS f79 d0o d1U e79 d6T (by kernel_rfl) rfl trivial ⟨c2d,c2e,a8n,trivial⟩ fun x=>by kernel_rfl
theorem b9H:x9 P gl 49 s49:=dS f49 c9R d1w e49 d6v (by kernel_rfl) rfl trivial ⟨d5s,a9t,d5t,trivial⟩ fun x=>by kernel_rfl
theorem d5h:x9 P gl 58 s58:=dS f58 d0a d1F e58 d6E (by kernel_rfl) rfl trivial ⟨d5D,b9H,a9t,trivial⟩ fun x=>by kernel_rfl
theorem a8Z:x9 P gl 29 s29:=dS f29 c9B d1f e29 d6f (by kernel_rfl) rfl trivial ⟨d5h,trivial⟩ fun x=>by kernel_rfl
theorem a3w:x9 P gl 12 s12:=dS f12 c9k d0M e12 d5Q (by kernel_rfl) rfl trivial ⟨a8V,a8X,a8Z,trivial⟩ fun x=>by kernel_rfl
theorem a8S:x9 P gl 26 s26:=dS f26 c9w d1c e26 d6c (by kernel_rfl) rfl trivial trivial fun x=>by kernel_rfl
theorem YJ:x9 P gl 11 s11:=dS f11 c9j d0L e11 d5P (by kernel_rfl) rfl trivial ⟨d4Z,a3w,a8S,trivial⟩ fun x=>by kernel_rfl
theorem a8L:x9 P gl 225 c1x:=dS f225 b3A b7q d9b c6E (by kernel_rfl) rfl trivial trivial fun x=>by kernel_rfl
theorem c3R:x9 P gl 270 d3V:=dS f270 b4j b7Z d9K c7n (by kernel_rfl) rfl trivial trivial fun x=>by kernel_rfl
theorem c3r:x9 P gl 226 d3x:=dS f226 b3B b7r d9c c6F (by kernel_rfl) rfl trivial ⟨a8L,c3R,trivial⟩ fun x=>by kernel_rfl
theorem c3s:x9 P gl 227 d3y:=dS f227 b3C b7s d9d c6G (by kernel_rfl) rfl trivial trivial fun x=>by kernel_rfl
theorem RI:x9 P gl 173 a5d:=dS f173 b2R b6H d8s c5V (by kernel_rfl) rfl trivial ⟨a8L,c3r,c3s,trivial⟩ fun x=>by kernel_rfl
theorem a0P:x9 P gl 174 b1j:=dS f174 b2S b6I d8t c5W (by kernel_rfl) rfl trivial trivial fun x=>by kernel_rfl
theorem c2o:x9 P gl 130 d2A:=dS f130 b2q b6g d7N c5n (by kernel_rfl) rfl trivial ⟨RI,a0P,trivial⟩ fun x=>by kernel_rfl
theorem RJ:x9 P gl 228 a5e:=dS f228 b3D b7t d9e c6H (by kernel_rfl) rfl trivial trivial fun x=>by kernel_rfl
theorem Wx:x9 P gl 112 a7E:=dS f112 b2c b5Q d7x c4X (by kernel_rfl) rfl trivial trivial fun x=>by kernel_rfl
theorem a8C:x9 P gl 178 c1s:=dS f178 b2W b6M d8x c6a (by kernel_rfl) rfl trivial ⟨RJ,trivial⟩ fun x=>by kernel_rfl
theorem a8t:x9 P gl 134 c1q:=dS f134 b2u b6k d7R c5r (by kernel_rfl) rfl trivial ⟨a8C,trivial⟩ fun x=>by kernel_rfl
theorem c3t:x9 P gl 229 d3z:=dS f229 b3E b7u d9f c6I (by kernel_rfl) rfl trivial ⟨Wx,a8t,trivial⟩ fun x=>by kernel_rfl
theorem c3S:x9 P gl 271 d3W:=dS f271 b4k b8a d9L c7o (by kernel_rfl) rfl trivial ⟨Wx,trivial⟩ fun x=>by kernel_rfl
theorem c3u:x9 P gl 230 d3A:=dS f230 b3F b7v d9g c6J (by kernel_rfl) rfl trivial ⟨c3S,trivial⟩ fun x=>by kernel_rfl
theorem c2O:x9 P gl 175 d2W:=dS f175 b2T b6J d8u c5X (by kernel_rfl) rfl trivial ⟨RJ,c3t,c3u,trivial⟩ fun x=>by kernel_rfl
theorem c2p:x9 P gl 131 d2B:=dS f131 b2r b6h d7O c5o (by kernel_rfl) rfl trivial ⟨RI,a0P,c2O,trivial⟩ fun x=>by kernel_rfl
theorem c3v:x9 P gl 231 d3B:=dS f231 b3G b7w d9h c6K (by kernel_rfl) rfl trivial trivial fun x=>by kernel_rfl
theorem c2P:x9 P gl 176 d2X:=dS f176 b2U b6K d8v c5Y (by kernel_rfl) rfl trivial ⟨RI,c3v,RJ,trivial⟩ fun x=>by kernel_rfl
theorem c3w:x9 P gl 232 d3C:=dS f232 b3H b7x d9i c6L (by kernel_rfl) rfl trivial trivial fun x=>by kernel_rfl
theorem c3T:x9 P gl 272 d3X:=dS f272 b4l b8b d9M c7p (by kernel_rfl) rfl trivial trivial fun x=>by kernel_rfl
theorem c3x:x9 P gl 233 d3D:=dS f233 b3I b7y d9j c6M (by kernel_rfl) rfl trivial ⟨c3T,trivial⟩ fun x=>by kernel_rfl
theorem Wy:x9 P gl 202 a7O:=dS f202 b3k b7a d8L c6o (by kernel_rfl) rfl trivial trivial fun x=>by kernel_rfl
theorem a0O:x9 P gl 148 b1i:=dS f148 b2F b6v d8d c5E (by kernel_rfl) rfl trivial ⟨Wy,trivial⟩ fun x=>by kernel_rfl
theorem c4B:x9 P gl 335 d4E:=dS f335 b5s b9i e0T c8w (by kernel_rfl) rfl trivial trivial fun x=>by kernel_rfl
theorem RN:x9 P gl 347 a5f:=dS f347 b5A b9q e1b c8F (by kernel_rfl) rfl trivial trivial fun x=>by kernel_rfl
theorem c4C:x9 P gl 336 d4F:=dS f336 b5t b9j e0U c8x (by kernel_rfl) rfl trivial ⟨RN,a8C,trivial⟩ fun x=>by kernel_rfl
theorem c4E:x9 P gl 337 d4G:=dS f337 b5u b9k e0V c8y (by kernel_rfl) rfl trivial trivial fun x=>by kernel_rfl
theorem a1b:x9 P gl 349 b1v:=dS f349 b5C b9s e1d c8H (by kernel_rfl) rfl trivial trivial fun x=>by kernel_rfl
theorem a9p:x9 P gl 348 c1W:=dS f348 b5B b9r e1c c8G (by kernel_rfl) rfl trivial ⟨a1b,trivial⟩ fun x=>by kernel_rfl
theorem c4F:x9 P gl 338 d4H:=dS f338 b5v b9l e0W c8A (by kernel_rfl) rfl trivial ⟨RN,RJ,a9p,trivial⟩ fun x=>by kernel_rfl
theorem c4G:x9 P gl 339 d4I:=dS f339 b5w b9m e0X c8B (by kernel_rfl) rfl trivial ⟨a1b,RN,RJ,trivial⟩ fun x=>by kernel_rfl
theorem c4J:x9 P gl 350 d4L:=dS f350 b5D b9t e1e c8I (by kernel_rfl) rfl trivial ⟨RN,trivial⟩ fun x=>by kernel_rfl
theorem c4H:x9 P gl 340 d4J:=dS f340 b5x b9n e0Y c8C (by kernel_rfl) rfl trivial ⟨a1b,c4J,a9p,RN,trivial⟩ fun x=>by kernel_rfl
theorem c4n:x9 P gl 305 d4q:=dS f305 b4P b8F e0q c7T (by kernel_rfl) rfl trivial ⟨c4B,c4C,c4E,c4F,c4G,c4H,trivial⟩ fun x=>by kernel_rfl
theorem c3V:x9 P gl 273 d3Y:=dS f273 b4m b8c d9N c7q (by kernel_rfl) rfl trivial ⟨a0O,Wy,c4n,trivial⟩ fun x=>by kernel_rfl
theorem c3y:x9 P gl 234 d3E:=dS f234 b3J b7z d9k c6N (by kernel_rfl) rfl trivial ⟨c3V,trivial⟩ fun x=>by kernel_rfl
theorem c2Q:x9 P gl 177 d2Y:=dS f177 b2V b6L d8w c5Z (by kernel_rfl) rfl trivial ⟨RI,Wx,c3w,c3x,c3y,trivial⟩ fun x=>by kernel_rfl
theorem a8p:x9 P gl 115 c1o:=dS f115 b2f b5T d7A c5a (by kernel_rfl) rfl trivial trivial fun x=>by kernel_rfl
theorem d5u:x9 P gl 81 s81:=dS f81 d0q d1W e81 d6V (by kernel_rfl) rfl trivial trivial fun x=>by kernel_rfl
theorem a9v:x9 P gl 51 s51:=dS f51 c9T d1y e51 d6x (by kernel_rfl) rfl trivial ⟨d5u,trivial⟩ fun x=>by kernel_rfl
theorem a0L:x9 P gl 114 b1f:=dS f114 b2e b5S d7z c4Z (by kernel_rfl) rfl trivial trivial fun x=>by kernel_rfl
theorem a8o:x9 P gl 113 c1n:=dS f113 b2d b5R d7y c4Y (by kernel_rfl) rfl trivial ⟨a8p,a9v,a0L,trivial⟩ fun x=>by kernel_rfl
theorem a9A:x9 P gl 82 s82:=dS f82 d0r d1X e82 d6W (by kernel_rfl) rfl trivial ⟨a8o,a0L,trivial⟩ fun x=>by kernel_rfl
theorem c2r:x9 P gl 132 d2C:=dS f132 b2s b6i d7P c5p (by kernel_rfl) rfl trivial ⟨RI,a0P,c2P,c2Q,a9A,trivial⟩ fun x=>by kernel_rfl
theorem d5E:x9 P gl 93 s93:=dS f93 d0C d2i e93 d7h (by kernel_rfl) rfl trivial ⟨c2o,c2p,c2r,trivial⟩ fun x=>by kernel_rfl
theorem d5i:x9 P gl 59 s59:=dS f59 d0b d1G e59 d6F (by kernel_rfl) rfl trivial ⟨d5E,trivial⟩ fun x=>by kernel_rfl
theorem c2s:x9 P gl 133 d2D:=dS f133 b2t b6j d7Q c5q (by kernel_rfl) rfl trivial trivial fun x=>by kernel_rfl
theorem d5F:x9 P gl 94 s94:=dS f94 d0D d2j e94 d7i (by kernel_rfl) rfl trivial ⟨c2s,a8t,trivial⟩ fun x=>by kernel_rfl
theorem d5G:x9 P gl 95 s95:=dS f95 d0E d2k e95 d7j (by kernel_rfl) rfl trivial trivial fun x=>by kernel_rfl
theorem d5j:x9 P gl 60 s60:=dS f60 d0c d1H e60 d6G (by kernel_rfl) rfl trivial ⟨d5F,d5G,trivial⟩ fun x=>by kernel_rfl
theorem a9a:x9 P gl 30 s30:=dS f30 c9C d1g e30 d6g (by kernel_rfl) rfl trivial ⟨d5i,d5j,trivial⟩ fun x=>by kernel_rfl
theorem UO:x9 P gl 33 s33:=dS f33 c9F d1j e33 d6j (by kernel_rfl) rfl trivial trivial fun x=>by kernel_rfl
theorem d5a:x9 P gl 32 s32:=dS f32 c9E d1i e32 d6i (by kernel_rfl) rfl trivial trivial fun x=>by kernel_rfl
theorem d5k:x9 P gl 61 s61:=dS f61 d0d d1I e61 d6H (by kernel_rfl) rfl trivial trivial fun x=>by kernel_rfl
theorem a9B:x9 P gl 96 s96:=dS f96 d0F d2l e96 d7k (by kernel_rfl) rfl trivial trivial fun x=>by kernel_rfl
theorem d5H:x9 P gl 97 s97:=dS f97 d0G d2m e97 d7l (by kernel_rfl) rfl trivial ⟨a8o,a9B,trivial⟩ fun x=>by kernel_rfl
theorem d5l:x9 P gl 62 s62:=dS f62 d0e d1J e62 d6I (by kernel_rfl) rfl trivial ⟨a9B,d5H,trivial⟩ fun x=>by kernel_rfl
theorem a9z:x9 P gl 80 s80:=dS f80 d0p d1V e80 d6U (by kernel_rfl) rfl trivial ⟨Wx,trivial⟩ fun x=>by kernel_rfl
theorem b9I:x9 P gl 50 s50:=dS f50 c9S d1x e50 d6w (by kernel_rfl) rfl trivial ⟨a9z,trivial⟩ fun x=>by kernel_rfl
theorem c2B:x9 P gl 147 d2L:=dS f147 b2E b6u d8c c5C (by kernel_rfl) rfl trivial trivial fun x=>by kernel_rfl
theorem c2f:x9 P gl 116 d2s:=dS f116 b2g b5U d7B c5b (by kernel_rfl) rfl trivial ⟨c2B,trivial⟩ fun x=>by kernel_rfl
theorem d5w:x9 P gl 84 s84:=dS f84 d0t d1Z e84 d6Y (by kernel_rfl) rfl trivial ⟨b9I,c2f,trivial⟩ fun x=>by kernel_rfl
theorem c2g:x9 P gl 117 d2t:=dS f117 b2h b5V d7C c5c (by kernel_rfl) rfl trivial ⟨a0O,trivial⟩ fun x=>by kernel_rfl
theorem c2C:x9 P gl 149 d2M:=dS f149 b2G b6w d8e c5F (by kernel_rfl) rfl trivial ⟨a0O,Wy,trivial⟩ fun x=>by kernel_rfl
theorem a8O:x9 P gl 250 c1A:=dS f250 b3S b7I d9t c6W (by kernel_rfl) rfl trivial trivial fun x=>by kernel_rfl
theorem MI:x9 P gl 203 a0B:=dS f203 b3l b7b d8M c6p (by kernel_rfl) rfl trivial ⟨a8O,trivial⟩ fun x=>by kernel_rfl
theorem c3E:x9 P gl 251 d3J:=dS f251 b3T b7J d9u c6X (by kernel_rfl) rfl trivial trivial fun x=>by kernel_rfl
theorem c3c:x9 P gl 204 d3j:=dS f204 b3m b7c d8N c6q (by kernel_rfl) rfl trivial ⟨Wy,c3E,trivial⟩ fun x=>by kernel_rfl
theorem c3d:x9 P gl 205 d3k:=dS f205 b3n b7d d8O c6r (by kernel_rfl) rfl trivial trivial fun x=>by kernel_rfl
theorem c3F:x9 P gl 252 d3K:=dS f252 b3U b7K d9v c6Y (by kernel_rfl) rfl trivial trivial fun x=>by kernel_rfl
theorem c3G:x9 P gl 253 d3L:=dS f253 b3V b7L d9w c6Z (by kernel_rfl) rfl trivial ⟨MI,trivial⟩ fun x=>by kernel_rfl
theorem c3H:x9 P gl 254 d3M:=dS f254 b3W b7M d9x c7a (by kernel_rfl) rfl trivial trivial fun x=>by kernel_rfl
theorem Ja:x9 P gl 255 YC:=dS f255 b3X b7N d9y c7b (by kernel_rfl) rfl trivial ⟨MI,trivial⟩ fun x=>by kernel_rfl
theorem c3e:x9 P gl 206 d3l:=dS f206 b3o b7e d8P c6s (by kernel_rfl) rfl trivial ⟨c3F,c3G,c3H,Ja,trivial⟩ fun x=>by kernel_rfl
theorem c3f:x9 P gl 207 d3m:=dS f207 b3p b7f d8Q c6t (by kernel_rfl) rfl trivial ⟨MI,Ja,trivial⟩ fun x=>by kernel_rfl
theorem a8P:x9 P gl 256 c1B:=dS f256 b3Y b7O d9z c7c (by kernel_rfl) rfl trivial trivial fun x=>by kernel_rfl
theorem a8Q:x9 P gl 257 c1C:=dS f257 b3Z b7P d9A c7d (by kernel_rfl) rfl trivial trivial fun x=>by kernel_rfl
theorem a0W:x9 P gl 287 b1q:=dS f287 b4y b8o d9Z c7C (by kernel_rfl) rfl trivial trivial fun x=>by kernel_rfl
theorem a9i:x9 P gl 318 c1O:=dS f318 b5c b8S e0D c8g (by kernel_rfl) rfl trivial trivial fun x=>by kernel_rfl
theorem a8Y:x9 P gl 288 c1G:=dS f288 b4z b8p e0a c7D (by kernel_rfl) rfl trivial ⟨a9i,trivial⟩ fun x=>by kernel_rfl
theorem a0X:x9 P gl 289 b1r:=dS f289 b4A b8q e0b c7E (by kernel_rfl) rfl trivial ⟨a9i,trivial⟩ fun x=>by kernel_rfl
theorem a8R:x9 P gl 258 c1E:=dS f258 b4a b7Q d9B c7e (by kernel_rfl) rfl trivial ⟨a0W,a8Y,a0X,trivial⟩ fun x=>by kernel_rfl
theorem c4t:x9 P gl 319 d4w:=dS f319 b5d b8T e0E c8h (by kernel_rfl) rfl trivial ⟨a9z,trivial⟩ fun x=>by kernel_rfl
theorem c4c:x9 P gl 290 d4f:=dS f290 b4B b8r e0c c7F (by kernel_rfl) rfl trivial ⟨c4t,trivial⟩ fun x=>by kernel_rfl
theorem c3I:x9 P gl 259 d3N:=dS f259 b4b b7R d9C c7f (by kernel_rfl) rfl trivial ⟨c4c,MI,trivial⟩ fun x=>by kernel_rfl
theorem WC:x9 P gl 291 a7Y:=dS f291 b4C b8s e0d c7G (by kernel_rfl) rfl trivial trivial fun x=>by kernel_rfl
theorem WE:x9 P gl 292 a7Z:=dS f292 b4D b8t e0e c7H (by kernel_rfl) rfl trivial trivial fun x=>by kernel_rfl
theorem c4d:x9 P gl 293 d4g:=dS f293 b4E b8u e0f c7I (by kernel_rfl) rfl trivial trivial fun x=>by kernel_rfl
theorem WF:x9 P gl 320 a8a:=dS f320 b5e b8U e0F c8i (by kernel_rfl) rfl trivial trivial fun x=>by kernel_rfl
theorem c4e:x9 P gl 294 d4h:=dS f294 b4F b8v e0g c7J (by kernel_rfl) rfl trivial ⟨WF,trivial⟩ fun x=>by kernel_rfl
theorem c3J:x9 P gl 260 d3O:=dS f260 b4c b7S d9D c7g (by kernel_rfl) rfl trivial ⟨WC,WE,a9z,c4d,c4e,trivial⟩ fun x=>by kernel_rfl
theorem a0S:x9 P gl 261 b1m:=dS f261 b4d b7T d9E c7h (by kernel_rfl) rfl trivial ⟨Ja,trivial⟩ fun x=>by kernel_rfl
theorem c3g:x9 P gl 208 d3n:=dS f208 b3q b7g d8R c6u (by kernel_rfl) rfl trivial ⟨a8P,Ja,a8Q,a8R,c3I,c3J,a0S,trivial⟩ fun x=>by kernel_rfl
theorem c4f:x9 P gl 295 d4i:=dS f295 b4G b8w e0h c7K (by kernel_rfl) rfl trivial ⟨a8O,Ja,trivial⟩ fun x=>by kernel_rfl
theorem a1a:x9 P gl 325 b1u:=dS f325 b5j b8Z e0K c8n (by kernel_rfl) rfl trivial trivial fun x=>by kernel_rfl
theorem c4u:x9 P gl 321 d4x:=dS f321 b5f b8V e0G c8j (by kernel_rfl) rfl trivial ⟨WC,WE,a1a,WF,trivial⟩ fun x=>by kernel_rfl
theorem c4g:x9 P gl 296 d4j:=dS f296 b4H b8x e0i c7L (by kernel_rfl) rfl trivial ⟨c4u,trivial⟩ fun x=>by kernel_rfl
theorem a9j:x9 P gl 322 c1P:=dS f322 b5g b8W e0H c8k (by kernel_rfl) rfl trivial trivial fun x=>by kernel_rfl
theorem a9k:x9 P gl 323 c1Q:=dS f323 b5h b8X e0I c8l (by kernel_rfl) rfl trivial trivial fun x=>by kernel_rfl
theorem a9l:x9 P gl 324 c1R:=dS f324 b5i b8Y e0J c8m (by kernel_rfl) rfl trivial trivial fun x=>by kernel_rfl
theorem c4h:x9 P gl 297 d4k:=dS f297 b4I b8y e0j c7M (by kernel_rfl) rfl trivial ⟨a9j,a9k,a9l,trivial⟩ fun x=>by kernel_rfl
theorem c4i:x9 P gl 298 d4l:=dS f298 b4J b8z e0k c7N (by kernel_rfl) rfl trivial ⟨a9j,a9k,a9l,trivial⟩ fun x=>by kernel_rfl
theorem c4j:x9 P gl 299 d4m:=dS f299 b4K b8A e0l c7O (by kernel_rfl) rfl trivial ⟨WC,WE,a1a,WF,trivial⟩ fun x=>by kernel_rfl
theorem c4k:x9 P gl 300 d4n:=dS f300 b4L b8B e0m c7P (by kernel_rfl) rfl trivial ⟨WC,WE,a1a,WF,trivial⟩ fun x=>by kernel_rfl
theorem c3K:x9 P gl 262 d3P:=dS f262 b4e b7U d9F c7i (by kernel_rfl) rfl trivial ⟨c4f,c4g,a0S,c4h,c4i,c4j,c4k,trivial⟩ fun x=>by kernel_rfl
theorem c4v:x9 P gl 326 d4y:=dS f326 b5k b9a e0L c8o (by kernel_rfl) rfl trivial ⟨a0X,a8Y,trivial⟩ fun x=>by kernel_rfl
theorem a9b:x9 P gl 301 c1H:=dS f301 b4M b8C e0n c7Q (by kernel_rfl) rfl trivial ⟨a0W,a8R,a0X,c4v,trivial⟩ fun x=>by kernel_rfl
theorem c4l:x9 P gl 302 d4o:=dS f302 b4N b8D e0o c7R (by kernel_rfl) rfl trivial ⟨a0W,a9b,trivial⟩ fun x=>by kernel_rfl
theorem c3M:x9 P gl 263 d3Q:=dS f263 b4f b7V d9G c7j (by kernel_rfl) rfl trivial ⟨Ja,a9b,a0S,c4l,trivial⟩ fun x=>by kernel_rfl
theorem c3N:x9 P gl 264 d3R:=dS f264 b4g b7W d9H c7k (by kernel_rfl) rfl trivial ⟨a8Q,a8P,Ja,trivial⟩ fun x=>by kernel_rfl
theorem c3h:x9 P gl 209 d3o:=dS f209 b3r b7h d8S c6v (by kernel_rfl) rfl trivial ⟨c3K,c3M,c3N,trivial⟩ fun x=>by kernel_rfl
theorem c2E:x9 P gl 151 d2N:=dS f151 b2H b6x d8g c5H (by kernel_rfl) rfl trivial ⟨c3c,c3d,MI,c3e,c3f,c3g,c3h,trivial⟩ fun x=>by kernel_rfl
theorem b1D:∀n,x9 P gl 118 ⟨Yj,[(true,(.dat (.prod (.int .i64) (.prod (.int .i64) (.int .i64))))),(false,(.dat (.int .i64)))],[],fun x=>(J5 n).1 x.1 x.2.1 x.2.2⟩∧x9 P gl 150 ⟨a7f,[(true,(.dat (.prod (.int .i64) (.prod (.int .i64) (.int .i64))))),(false,(.dat (.int .i64)))],[],fun x=>(J5 n).2 x.1 x.2.1 x.2.2.1 x.2.2.2⟩:=by
 intro n
 induction n with
 | zero=>exact⟨(fun w ok O vals x r _ _ _ _ _ h=>by cases h),(fun w ok O vals x r _ _ _ _ _ h=>by cases h)⟩
 | succ n ih=>exact⟨dS f118 Yj b5W (d7D (J5 n).1 (J5 n).2) c5d (by kernel_rfl) rfl trivial ⟨c2C,ih.2,ih.1,c2E,trivial⟩ fun x=>by kernel_rfl,
  dS f150 a7f d0R (d8f (J5 n).1 (J5 n).2) c5G (by kernel_rfl) rfl trivial ⟨ih.1,MI,trivial⟩ fun x=>by kernel_rfl⟩
theorem c2h:x9 P gl 118 d2u:=(b1D bJ).1
theorem b9L:x9 P gl 85 s85:=dS f85 d0u d2a e85 d6Z (by kernel_rfl) rfl trivial ⟨c2g,c2h,trivial⟩ fun x=>by kernel_rfl
theorem c2i:x9 P gl 119 d2v:=dS f119 b2i b5X d7E c5e (by kernel_rfl) rfl trivial trivial fun x=>by kernel_rfl
theorem c3i:x9 P gl 210 d3p:=dS f210 b3s b7i d8T c6w (by kernel_rfl) rfl trivial trivial fun x=>by kernel_rfl
theorem b1E:∀n,x9 P gl 120 ⟨a2o,[(false,(.dat (.int .i64)))],[],fun x=>(F9 n).1 x.1 x.2.1 x.2.2.1 x.2.2.2⟩∧x9 P gl 152 ⟨a7g,[(false,(.dat (.sl (.int .i64))))],[],fun x=>(F9 n).2.1 x.1 x.2.1 x.2.2.1 x.2.2.2⟩∧x9 P gl 153 ⟨a2r,[(false,(.dat (.int .i64)))],[],fun x=>(F9 n).2.2 x.1 x.2.1 x.2.2.1 x.2.2.2⟩:=by
 intro n
 induction n with
 | zero=>exact⟨(fun w ok O vals x r _ _ _ _ _ h=>by cases h),(fun w ok O vals x r _ _ _ _ _ h=>by cases h),(fun w ok O vals x r _ _ _ _ _ h=>by cases h)⟩
 | succ n ih=>exact⟨dS f120 a2o b5Y (d7F (F9 n).1 (F9 n).2.1 (F9 n).2.2) c5f (by kernel_rfl) rfl trivial ⟨ih.2.1,ih.2.2,trivial⟩ fun x=>by kernel_rfl,
  dS f152 a7g d0S (d8h (F9 n).1 (F9 n).2.1 (F9 n).2.2) c5I (by kernel_rfl) rfl trivial ⟨c3i,ih.2.2,trivial⟩ fun x=>by kernel_rfl,
  dS f153 a2r d0T (d8i (F9 n).1 (F9 n).2.1 (F9 n).2.2) c5J (by kernel_rfl) rfl trivial ⟨ih.1,trivial⟩ fun x=>by kernel_rfl⟩
theorem c2j:x9 P gl 120 d2w:=(b1E bJ).1
theorem d5x:x9 P gl 86 s86:=dS f86 d0v d2b e86 d7a (by kernel_rfl) rfl trivial ⟨c2i,c2j,trivial⟩ fun x=>by kernel_rfl
theorem b9K:x9 P gl 54 s54:=dS f54 c9W d1B e54 d6A (by kernel_rfl) rfl trivial ⟨d5w,b9L,d5x,trivial⟩ fun x=>by kernel_rfl
theorem d5m:x9 P gl 63 s63:=dS f63 d0f d1K e63 d6J (by kernel_rfl) rfl trivial ⟨b9K,b9L,trivial⟩ fun x=>by kernel_rfl
theorem a3x:x9 P gl 34 s34:=dS f34 c9G d1k e34 d6k (by kernel_rfl) rfl trivial ⟨d5l,d5m,trivial⟩ fun x=>by kernel_rfl
theorem a9d:x9 P gl 31 s31:=dS f31 c9D d1h e31 d6h (by kernel_rfl) rfl trivial ⟨UO,d5k,a3x,trivial⟩ fun x=>by kernel_rfl
theorem a9q:x9 P gl 35 s35:=dS f35 c9H d1l e35 d6l (by kernel_rfl) rfl trivial ⟨UO,trivial⟩ fun x=>by kernel_rfl
theorem d4S:x9 P gl 13 s13:=dS f13 c9l d0N e13 d5R (by kernel_rfl) rfl trivial ⟨a9a,UO,d5a,a9d,a9q,a3x,trivial⟩ fun x=>by kernel_rfl
theorem b9C:x9 P gl 20 s20:=dS f20 c9q d0W e20 d5W (by kernel_rfl) rfl trivial trivial fun x=>by kernel_rfl
theorem d5n:x9 P gl 64 s64:=dS f64 d0g d1L e64 d6K (by kernel_rfl) rfl trivial ⟨b9C,a8S,trivial⟩ fun x=>by kernel_rfl
theorem d5b:x9 P gl 36 s36:=dS f36 c9I d1m e36 d6m (by kernel_rfl) rfl trivial ⟨d5n,trivial⟩ fun x=>by kernel_rfl
theorem d4T:x9 P gl 14 s14:=dS f14 c9m d0P e14 d5S (by kernel_rfl) rfl trivial ⟨b9C,a8S,d5b,trivial⟩ fun x=>by kernel_rfl
theorem e1p:x9 P gl 3 s3:=dS f3 ps3 rt3 e3 an3 (by kernel_rfl) rfl trivial ⟨YH,YJ,a3w,d4S,d4T,trivial⟩ fun x=>by kernel_rfl
theorem a3z:x9 P gl 76 a8c:=dS f76 a7j a7C c8W b9U (by kernel_rfl) rfl trivial ⟨a3y,trivial⟩ fun x=>by kernel_rfl
theorem b1C:x9 P gl 72 b9y:=dS f72 a7i a7B c8V b9T (by kernel_rfl) rfl trivial ⟨a3z,trivial⟩ fun x=>by kernel_rfl
theorem b9F:x9 P gl 46 s46:=dS f46 c9O d1s e46 d6s (by kernel_rfl) rfl trivial ⟨a3z,b1C,trivial⟩ fun x=>by kernel_rfl
theorem d5c:x9 P gl 37 s37:=dS f37 c9J d1n e37 d6n (by kernel_rfl) rfl trivial ⟨b9F,trivial⟩ fun x=>by kernel_rfl
theorem d4U:x9 P gl 15 s15:=dS f15 c9n d0Q e15 d5T (by kernel_rfl) rfl trivial ⟨d5c,a9t,trivial⟩ fun x=>by kernel_rfl
theorem e1q:x9 P gl 4 s4:=dS f4 ps4 rt4 e4 an4 (by kernel_rfl) rfl trivial ⟨YH,YJ,a3w,d4U,trivial⟩ fun x=>by kernel_rfl
theorem d5q:x9 P gl 69 s69:=dS f69 d0k d1Q e69 d6P (by kernel_rfl) rfl trivial ⟨a0J,a8j,a9u,a8k,trivial⟩ fun x=>by kernel_rfl
theorem b9G:x9 P gl 48 s48:=dS f48 c9Q d1v e48 d6u (by kernel_rfl) rfl trivial ⟨a9y,trivial⟩ fun x=>by kernel_rfl
theorem b9E:x9 P gl 41 s41:=dS f41 c9M d1q e41 d6q (by kernel_rfl) rfl trivial ⟨a9y,d5q,b9G,trivial⟩ fun x=>by kernel_rfl
theorem b9B:x9 P gl 17 s17:=dS f17 c9o d0U e17 d5U (by kernel_rfl) rfl trivial ⟨a8V,a8X,b9E,a8Z,trivial⟩ fun x=>by kernel_rfl
theorem a9w:x9 P gl 52 s52:=dS f52 c9U d1z e52 d6y (by kernel_rfl) rfl trivial ⟨a9A,trivial⟩ fun x=>by kernel_rfl
theorem d5v:x9 P gl 83 s83:=dS f83 d0s d1Y e83 d6X (by kernel_rfl) rfl trivial ⟨a8p,a9A,a0L,a9B,a9v,trivial⟩ fun x=>by kernel_rfl
theorem b9J:x9 P gl 53 s53:=dS f53 c9V d1A e53 d6z (by kernel_rfl) rfl trivial ⟨d5v,UO,a9w,trivial⟩ fun x=>by kernel_rfl
theorem d5d:x9 P gl 42 s42:=dS f42 c9N d1r e42 d6r (by kernel_rfl) rfl trivial ⟨a9w,UO,b9J,a9d,a9q,a3x,trivial⟩ fun x=>by kernel_rfl
theorem d4V:x9 P gl 18 s18:=dS f18 c9p d0V e18 d5V (by kernel_rfl) rfl trivial ⟨a9a,d5d,trivial⟩ fun x=>by kernel_rfl
theorem e1r:x9 P gl 6 s6:=dS f6 ps6 rt6 e6 an6 (by kernel_rfl) rfl trivial ⟨YH,YJ,b9B,d4V,trivial⟩ fun x=>by kernel_rfl
theorem b9D:x9 P gl 21 s21:=dS f21 c9r d0X e21 d5X (by kernel_rfl) rfl trivial ⟨a8V,a8X,b9F,a9u,b9E,b9G,a8Z,b9H,trivial⟩ fun x=>by kernel_rfl
theorem d4W:x9 P gl 22 s22:=dS f22 c9s d0Y e22 d5Y (by kernel_rfl) rfl trivial ⟨a9a,UO,b9I,a9v,a9w,b9J,a9d,a9q,a3x,b9K,trivial⟩ fun x=>by kernel_rfl
theorem e1s:x9 P gl 8 s8:=dS f8 ps8 rt8 e8 an8 (by kernel_rfl) rfl trivial ⟨YH,YJ,b9D,d4W,trivial⟩ fun x=>by kernel_rfl
theorem e1t:x9 P gl 9 s9:=dS f9 ps9 rt9 e9 an9 (by kernel_rfl) rfl trivial ⟨YH,YJ,a3w,b9B,b9D,trivial⟩ fun x=>by kernel_rfl
end Gt
