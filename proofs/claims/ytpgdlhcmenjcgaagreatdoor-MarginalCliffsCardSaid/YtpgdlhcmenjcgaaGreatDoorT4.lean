import Derived.Test.YtpgdlhcmenjcgaaGreatDoorT3
import Derived.Test.YtpgdlhcmenjcgaaGreatDoorProg
import Derived.Test.YtpgdlhcmenjcgaaGreatDoorShelf
set_option linter.all false
open Go Go.GP Go.Proofs.Tryz
namespace Gt
set_option maxRecDepth 100000
noncomputable abbrev P:Program:=Go.Proofs.Tryz.prog
theorem d3T:Xy P tt=true:=by kernel_rfl
theorem b8Q:∀t sh,Y3 eqs t=some sh→Ff P t sh:=VF (by kernel_rfl)
theorem dS {f:FuncId} (fn:Func) (ps:List MG) (rt:Ret) (E:Env) (an:Ann) {F:S9 ps→Option rt.den} (h:(P.funcs[f]?,fn.body,fn.ntmps,fn.results.toList,Nat.ble (64*E.nt) 999936,VO P E.fs)=(some fn,some (a3R fn),E.nt,rt.rs.map (·.1),true,true)) (ht:(E.tt,E.eqs)=(tt,eqs)) (hm:ZG P E.ms) (hs:a8a P E.gl E.fs) (hF:∀x,b8y E ps rt (a3R fn) an x=F x):
  A8 P E.gl f ⟨ps,rt.rs.map (·.2),rt.outs.map (·.2),F⟩:=by
 injection h with h1 h;injection h with h2 h;injection h with h3 h;injection h with h4 h;injection h with h5 h6
 injection ht with t1 t2
 exact XP h1 h2 h3 h4 (a3Z h5 (t1▸d3T) (t2▸b8Q) h6 hm hs) fun x r h=>(hF x).trans h
theorem d2Y:A8 P gl 18 s18:=dS f18 c7o c8S e18 d4f (by kernel_rfl) rfl trivial trivial fun x=>by kernel_rfl
theorem a9F:A8 P gl 7 s7:=dS f7 ps7 rt7 e7 an7 (by kernel_rfl) rfl trivial ⟨d2Y,trivial⟩ fun x=>by kernel_rfl
theorem a9G:A8 P gl 8 s8:=dS f8 ps8 rt8 e8 an8 (by kernel_rfl) rfl trivial trivial fun x=>by kernel_rfl
theorem d3c:A8 P gl 29 s29:=dS f29 c7z c9j e29 d4q (by kernel_rfl) rfl trivial trivial fun x=>by kernel_rfl
theorem d2Z:A8 P gl 19 s19:=dS f19 c7p c8U e19 d4g (by kernel_rfl) rfl trivial ⟨d3c,trivial⟩ fun x=>by kernel_rfl
theorem d3a:A8 P gl 20 s20:=dS f20 c7q c8W e20 d4h (by kernel_rfl) rfl trivial trivial fun x=>by kernel_rfl
theorem b7Q:A8 P gl 89 s89:=dS f89 c8F d0o e89 d5v (by kernel_rfl) rfl trivial trivial fun x=>by kernel_rfl
theorem c0i:A8 P gl 127 d0G:=dS f127 b0E b4l d6b c3i (by kernel_rfl) rfl trivial trivial fun x=>by kernel_rfl
theorem d3O:A8 P gl 90 s90:=dS f90 c8G d0p e90 d5w (by kernel_rfl) rfl trivial ⟨b7Q,c0i,trivial⟩ fun x=>by kernel_rfl
theorem d3P:A8 P gl 91 s91:=dS f91 c8H d0q e91 d5x (by kernel_rfl) rfl trivial trivial fun x=>by kernel_rfl
theorem Xq:A8 P gl 62 s62:=dS f62 c8f c9P e62 d4W (by kernel_rfl) rfl trivial ⟨b7Q,d3O,d3P,trivial⟩ fun x=>by kernel_rfl
theorem a1F:A8 P gl 93 a6t:=dS f93 a5r a5U c6R b8b (by kernel_rfl) rfl trivial trivial fun x=>by kernel_rfl
theorem a6L:A8 P gl 128 a5Z:=dS f128 a0H a1h b8z a8e (by kernel_rfl) rfl trivial ⟨a1F,trivial⟩ fun x=>by kernel_rfl
theorem a9K:A8 P gl 92 b7v:=dS f92 a5q a5T c6Q b8a (by kernel_rfl) rfl trivial ⟨a6L,trivial⟩ fun x=>by kernel_rfl
theorem a7E:A8 P gl 63 s63:=dS f63 c8g c9Q e63 d4X (by kernel_rfl) rfl trivial ⟨a1F,a9K,trivial⟩ fun x=>by kernel_rfl
theorem c0g:A8 P gl 125 d0E:=dS f125 b0C b4j d5Z c3g (by kernel_rfl) rfl trivial trivial fun x=>by kernel_rfl
theorem d3M:A8 P gl 82 s82:=dS f82 c8A d0j e82 d5q (by kernel_rfl) rfl trivial ⟨c0g,trivial⟩ fun x=>by kernel_rfl
theorem d3w:A8 P gl 60 s60:=dS f60 c8d c9N e60 d4U (by kernel_rfl) rfl trivial ⟨Xq,a7E,d3M,trivial⟩ fun x=>by kernel_rfl
theorem d3i:A8 P gl 43 s43:=dS f43 c7M c9w e43 d4D (by kernel_rfl) rfl trivial ⟨d3w,trivial⟩ fun x=>by kernel_rfl
theorem Xr:A8 P gl 83 s83:=dS f83 c8B d0k e83 d5r (by kernel_rfl) rfl trivial trivial fun x=>by kernel_rfl
theorem a7H:A8 P gl 84 s84:=dS f84 c8C d0l e84 d5s (by kernel_rfl) rfl trivial ⟨Xr,trivial⟩ fun x=>by kernel_rfl
theorem a7I:A8 P gl 85 s85:=dS f85 c8D d0m e85 d5t (by kernel_rfl) rfl trivial trivial fun x=>by kernel_rfl
theorem c0I:A8 P gl 166 d1e:=dS f166 b1e b4N d6D c3N (by kernel_rfl) rfl trivial ⟨a7I,trivial⟩ fun x=>by kernel_rfl
theorem c0h:A8 P gl 126 d0F:=dS f126 b0D b4k d6a c3h (by kernel_rfl) rfl trivial ⟨c0I,trivial⟩ fun x=>by kernel_rfl
theorem d3N:A8 P gl 88 s88:=dS f88 c8E d0n e88 d5u (by kernel_rfl) rfl trivial ⟨c0h,trivial⟩ fun x=>by kernel_rfl
theorem a1E:A8 P gl 87 a6s:=dS f87 a5p a5S c6P b7Z (by kernel_rfl) rfl trivial ⟨d3N,trivial⟩ fun x=>by kernel_rfl
theorem a9H:A8 P gl 86 b7t:=dS f86 a5n a5Q c6N b7X (by kernel_rfl) rfl trivial ⟨a1E,trivial⟩ fun x=>by kernel_rfl
theorem d3x:A8 P gl 61 s61:=dS f61 c8e c9O e61 d4V (by kernel_rfl) rfl trivial ⟨Xr,a7H,a7I,a1E,a9H,trivial⟩ fun x=>by kernel_rfl
theorem a1G:A8 P gl 95 a6u:=dS f95 a5t a5W c6T b8d (by kernel_rfl) rfl trivial trivial fun x=>by kernel_rfl
theorem a6M:A8 P gl 129 a6a:=dS f129 a0I a1i b8A a8f (by kernel_rfl) rfl trivial ⟨a1G,trivial⟩ fun x=>by kernel_rfl
theorem a9L:A8 P gl 94 b7w:=dS f94 a5s a5V c6S b8c (by kernel_rfl) rfl trivial ⟨a6M,trivial⟩ fun x=>by kernel_rfl
theorem b7O:A8 P gl 64 s64:=dS f64 c8h c9R e64 d4Y (by kernel_rfl) rfl trivial ⟨a1G,a9L,trivial⟩ fun x=>by kernel_rfl
theorem d3j:A8 P gl 44 s44:=dS f44 c7N c9x e44 d4E (by kernel_rfl) rfl trivial ⟨d3x,Xq,a7E,b7O,trivial⟩ fun x=>by kernel_rfl
theorem a1H:A8 P gl 97 a6v:=dS f97 a5v a5Y c6V b8f (by kernel_rfl) rfl trivial trivial fun x=>by kernel_rfl
theorem a6N:A8 P gl 130 a6b:=dS f130 a0J a1j b8B a8g (by kernel_rfl) rfl trivial ⟨a1H,trivial⟩ fun x=>by kernel_rfl
theorem a9M:A8 P gl 96 b7x:=dS f96 a5u a5X c6U b8e (by kernel_rfl) rfl trivial ⟨a6N,trivial⟩ fun x=>by kernel_rfl
theorem Xm:A8 P gl 131 YQ:=dS f131 a0K a1k b8C a8h (by kernel_rfl) rfl trivial trivial fun x=>by kernel_rfl
theorem a6W:A8 P gl 167 a6h:=dS f167 a0Q a1q b8I a8n (by kernel_rfl) rfl trivial ⟨Xm,trivial⟩ fun x=>by kernel_rfl
theorem a6O:A8 P gl 132 a6c:=dS f132 a0L a1l b8D a8i (by kernel_rfl) rfl trivial ⟨a6W,trivial⟩ fun x=>by kernel_rfl
theorem d3Q:A8 P gl 98 s98:=dS f98 c8I d0r e98 d5y (by kernel_rfl) rfl trivial ⟨Xm,Xq,a6O,Xr,trivial⟩ fun x=>by kernel_rfl
theorem c0j:A8 P gl 133 d0H:=dS f133 b0F b4m d6c c3j (by kernel_rfl) rfl trivial trivial fun x=>by kernel_rfl
theorem d3R:A8 P gl 99 s99:=dS f99 c8J d0s e99 d5z (by kernel_rfl) rfl trivial ⟨c0j,trivial⟩ fun x=>by kernel_rfl
theorem Xn:A8 P gl 135 YR:=dS f135 a0N a1n b8F a8k (by kernel_rfl) rfl trivial trivial fun x=>by kernel_rfl
theorem a6X:A8 P gl 168 a6i:=dS f168 a0R a1r b8J a8o (by kernel_rfl) rfl trivial ⟨Xn,trivial⟩ fun x=>by kernel_rfl
theorem a6P:A8 P gl 134 a6d:=dS f134 a0M a1m b8E a8j (by kernel_rfl) rfl trivial ⟨a6X,trivial⟩ fun x=>by kernel_rfl
theorem c0J:A8 Go.Proofs.Tryz.prog gl 169 d1f:=MS Go.Proofs.Tryz.strings_Contains_one
theorem c0k:A8 P gl 136 d0I:=dS f136 b0G b4n d6d c3k (by kernel_rfl) rfl trivial ⟨c0J,trivial⟩ fun x=>by kernel_rfl
theorem Qe:A8 P gl 199 a3j:=dS f199 b1y b5i d7a c4l (by kernel_rfl) rfl trivial trivial fun x=>by kernel_rfl
theorem a7c:A8 P gl 181 b9t:=dS f181 b1k b4T d6J c3T (by kernel_rfl) rfl trivial ⟨Qe,trivial⟩ fun x=>by kernel_rfl
theorem a7d:A8 P gl 198 b9u:=dS f198 b1x b5h d6Z c4k (by kernel_rfl) rfl trivial trivial fun x=>by kernel_rfl
theorem c1p:A8 P gl 233 d1L:=dS f233 b1S b5C d7x c4J (by kernel_rfl) rfl trivial ⟨a7H,trivial⟩ fun x=>by kernel_rfl
theorem c1q:A8 P gl 234 d1M:=dS f234 b1T b5D d7y c4K (by kernel_rfl) rfl trivial trivial fun x=>by kernel_rfl
theorem a7h:A8 P gl 235 b9v:=dS f235 b1U b5E d7z c4M (by kernel_rfl) rfl trivial ⟨Xr,trivial⟩ fun x=>by kernel_rfl
theorem a7i:A8 P gl 238 b9w:=dS f238 b1X b5H d7C c4P (by kernel_rfl) rfl trivial trivial fun x=>by kernel_rfl
theorem c1r:A8 P gl 236 d1N:=dS f236 b1V b5F d7A c4N (by kernel_rfl) rfl trivial ⟨a7i,Xr,trivial⟩ fun x=>by kernel_rfl
theorem a7q:A8 P gl 283 b9D:=dS f283 b2G b6q d8l c5z (by kernel_rfl) rfl trivial trivial fun x=>by kernel_rfl
theorem c1s:A8 P gl 237 d1O:=dS f237 b1W b5G d7B c4O (by kernel_rfl) rfl trivial ⟨a7h,a7q,trivial⟩ fun x=>by kernel_rfl
theorem c1X:A8 P gl 284 d2p:=dS f284 b2H b6r d8m c5A (by kernel_rfl) rfl trivial trivial fun x=>by kernel_rfl
theorem c1t:A8 P gl 239 d1P:=dS f239 b1Y b5I d7D c4Q (by kernel_rfl) rfl trivial ⟨a7q,c1X,trivial⟩ fun x=>by kernel_rfl
theorem c0Z:A8 P gl 200 d1w:=dS f200 b1z b5j d7b c4m (by kernel_rfl) rfl trivial ⟨c1p,c1q,a7h,c1r,c1s,a7i,c1t,trivial⟩ fun x=>by kernel_rfl
theorem c0K:A8 P gl 170 d1g:=dS f170 b1f b4O d6E c3O (by kernel_rfl) rfl trivial ⟨a7c,a7d,Qe,c0Z,trivial⟩ fun x=>by kernel_rfl
theorem c0l:A8 P gl 137 d0J:=dS f137 b0H b4o d6e c3l (by kernel_rfl) rfl trivial ⟨c0K,trivial⟩ fun x=>by kernel_rfl
theorem b9T:A8 P gl 100 d0t:=dS f100 b0d b3K d5A c2F (by kernel_rfl) rfl trivial ⟨Xq,Xn,a6P,c0k,c0l,trivial⟩ fun x=>by kernel_rfl
theorem a6Q:A8 Go.Proofs.Tryz.prog gl 141 b9p:=Zt Go.Proofs.Tryz.slices_Sort_int Go.Proofs.Tryz.slices_Sort_int_none
theorem a6R:A8 Go.Proofs.Tryz.prog gl 142 b9q:=QA Go.Proofs.Tryz.slices_Compact_int Go.Proofs.Tryz.slices_Compact_int_empty
theorem c0p:A8 P gl 140 d0M:=dS f140 b0K b4r d6h c3p (by kernel_rfl) rfl trivial ⟨a6Q,a6R,trivial⟩ fun x=>by kernel_rfl
theorem a6D:A8 P gl 106 b9h:=dS f106 b0j b3Q d5G c2M (by kernel_rfl) rfl trivial ⟨c0p,trivial⟩ fun x=>by kernel_rfl
theorem c0o:A8 P gl 139 d0L:=dS f139 b0J b4q d6g c3o (by kernel_rfl) rfl trivial ⟨a6D,trivial⟩ fun x=>by kernel_rfl
theorem a6E:A8 P gl 107 b9i:=dS f107 b0k b3R d5H c2N (by kernel_rfl) rfl trivial ⟨a6Q,a6R,trivial⟩ fun x=>by kernel_rfl
theorem YY:A8 P gl 105 a9h:=dS f105 b0i b3P d5F c2K (by kernel_rfl) rfl trivial ⟨c0o,a6E,trivial⟩ fun x=>by kernel_rfl
theorem a6C:A8 P gl 104 b9g:=dS f104 b0h b3O d5E c2J (by kernel_rfl) rfl trivial trivial fun x=>by kernel_rfl
theorem a7F:A8 P gl 67 s67:=dS f67 c8k c9U e67 d5b (by kernel_rfl) rfl trivial ⟨YY,a6C,trivial⟩ fun x=>by kernel_rfl
theorem c0n:A8 P gl 138 d0K:=dS f138 b0I b4p d6f c3n (by kernel_rfl) rfl trivial trivial fun x=>by kernel_rfl
theorem b9U:A8 P gl 101 d0u:=dS f101 b0e b3L d5B c2G (by kernel_rfl) rfl trivial ⟨c0n,trivial⟩ fun x=>by kernel_rfl
theorem d3y:A8 P gl 65 s65:=dS f65 c8i c9S e65 d4Z (by kernel_rfl) rfl trivial ⟨a7E,b7O,a1H,a9M,Xq,d3Q,d3R,b9T,a7F,b9U,trivial⟩ fun x=>by kernel_rfl
theorem d3k:A8 P gl 45 s45:=dS f45 c7O c9y e45 d4F (by kernel_rfl) rfl trivial ⟨d3y,trivial⟩ fun x=>by kernel_rfl
theorem b7G:A8 P gl 30 s30:=dS f30 c7A c9k e30 d4r (by kernel_rfl) rfl trivial ⟨d3i,d3j,d3k,trivial⟩ fun x=>by kernel_rfl
theorem a7e:A8 P gl 21 s21:=dS f21 c7r c8X e21 d4i (by kernel_rfl) rfl trivial ⟨b7G,trivial⟩ fun x=>by kernel_rfl
theorem b9V:A8 P gl 102 d0v:=dS f102 b0f b3M d5C c2H (by kernel_rfl) rfl trivial ⟨a7H,trivial⟩ fun x=>by kernel_rfl
theorem b9W:A8 P gl 103 d0w:=dS f103 b0g b3N d5D c2I (by kernel_rfl) rfl trivial trivial fun x=>by kernel_rfl
theorem d3z:A8 P gl 66 s66:=dS f66 c8j c9T e66 d5a (by kernel_rfl) rfl trivial ⟨b9V,b9W,trivial⟩ fun x=>by kernel_rfl
theorem d3l:A8 P gl 46 s46:=dS f46 c7P c9z e46 d4G (by kernel_rfl) rfl trivial ⟨b7G,d3z,trivial⟩ fun x=>by kernel_rfl
theorem d3m:A8 P gl 47 s47:=dS f47 c7Q c9A e47 d4H (by kernel_rfl) rfl trivial trivial fun x=>by kernel_rfl
theorem d3A:A8 P gl 68 s68:=dS f68 c8l c9V e68 d5c (by kernel_rfl) rfl trivial ⟨YY,a6C,a6D,a6E,trivial⟩ fun x=>by kernel_rfl
theorem d3B:A8 P gl 69 s69:=dS f69 c8m c9W e69 d5d (by kernel_rfl) rfl trivial ⟨a7F,trivial⟩ fun x=>by kernel_rfl
theorem d3n:A8 P gl 48 s48:=dS f48 c7R c9B e48 d4I (by kernel_rfl) rfl trivial ⟨a7F,d3A,d3B,trivial⟩ fun x=>by kernel_rfl
theorem a7C:A8 P gl 357 a6r:=dS f357 a0Z a1x b8P a8u (by kernel_rfl) rfl trivial trivial fun x=>by kernel_rfl
theorem Zc:A8 P gl 144 a9l:=dS f144 b0L b4s d6i c3q (by kernel_rfl) rfl trivial trivial fun x=>by kernel_rfl
theorem a7B:A8 P gl 355 b9O:=dS f355 b3G b7q d9l c6C (by kernel_rfl) rfl trivial trivial fun x=>by kernel_rfl
theorem Zr:A8 P gl 358 a9A:=dS f358 b3I b7s d9n c6E (by kernel_rfl) rfl trivial trivial fun x=>by kernel_rfl
theorem c7a:yA Go.Proofs.Tryz.prog 205 "Less" 355 (some 206):=Hg (by kernel_rfl)
theorem b8V:yA Go.Proofs.Tryz.prog 205 "Swap" 358 (some 206):=Hg (by kernel_rfl)
theorem a6Y:A8 P gl 173 a6j:=dS f173 a0S a1s b8K a8p (by kernel_rfl) rfl ⟨c7a,b8V,trivial⟩ ⟨a7B,Zr,trivial⟩ fun x=>by kernel_rfl
theorem c7b:yA Go.Proofs.Tryz.prog 205 "Len" 144 (some 206):=Hg (by kernel_rfl)
theorem d9o:yA Go.Proofs.Tryz.prog 205 "Push" 357 none:=fun v w=>show(method _ 205 v "Push").run _ w= .ok (357,v) w by kernel_rfl
theorem a6S:A8 P gl 143 a6e:=dS f143 a0O a1o b8G a8l (by kernel_rfl) rfl ⟨c7b,d9o,trivial⟩ ⟨a7C,Zc,a6Y,trivial⟩ fun x=>by kernel_rfl
theorem a6Z:A8 P gl 174 a6k:=dS f174 a0T a1t b8L a8q (by kernel_rfl) rfl ⟨c7a,b8V,trivial⟩ ⟨a7B,Zr,trivial⟩ fun x=>by kernel_rfl
theorem c2A:A8 P gl 356 d2P:=dS f356 b3H b7r d9m c6D (by kernel_rfl) rfl trivial trivial fun x=>by kernel_rfl
theorem d9p:yA Go.Proofs.Tryz.prog 205 "Pop" 356 none:=fun v w=>show(method _ 205 v "Pop").run _ w= .ok (356,v) w by kernel_rfl
theorem a6T:A8 P gl 145 a6f:=dS f145 a0P a1p b8H a8m (by kernel_rfl) rfl ⟨c7b,d9p,b8V,trivial⟩ ⟨Zc,Zr,a6Z,c2A,trivial⟩ fun x=>by kernel_rfl
theorem b9X:A8 P gl 108 d0x:=dS f108 b0l b3S d5I c2O (by kernel_rfl) rfl trivial ⟨YY,a6S,Zc,a6T,trivial⟩ fun x=>by kernel_rfl
theorem Zd:A8 P gl 177 a9m:=dS f177 b1g b4P d6F c3P (by kernel_rfl) rfl trivial ⟨a7I,trivial⟩ fun x=>by kernel_rfl
theorem Xo:A8 P gl 176 YS:=dS f176 a0V a1v b8N a8s (by kernel_rfl) rfl trivial ⟨Zd,trivial⟩ fun x=>by kernel_rfl
theorem a7a:A8 P gl 175 a6l:=dS f175 a0U a1u b8M a8r (by kernel_rfl) rfl trivial ⟨Xo,trivial⟩ fun x=>by kernel_rfl
theorem c0q:A8 P gl 146 d0N:=dS f146 b0M b4t d6j c3r (by kernel_rfl) rfl trivial ⟨Xo,a7a,trivial⟩ fun x=>by kernel_rfl
theorem c0s:A8 P gl 148 d0P:=dS f148 b0O b4v d6l c3t (by kernel_rfl) rfl trivial ⟨a7c,trivial⟩ fun x=>by kernel_rfl
theorem c0N:A8 P gl 182 d1j:=dS f182 b1l b4U d6K c3V (by kernel_rfl) rfl trivial ⟨Qe,trivial⟩ fun x=>by kernel_rfl
theorem KQ:A8 P gl 218 YT:=dS f218 b1G b5q d7j c4u (by kernel_rfl) rfl trivial trivial fun x=>by kernel_rfl
theorem c1c:A8 P gl 213 d1y:=dS f213 b1B b5l d7e c4p (by kernel_rfl) rfl trivial ⟨Qe,a7d,trivial⟩ fun x=>by kernel_rfl
theorem c1d:A8 P gl 214 d1z:=dS f214 b1C b5m d7f c4q (by kernel_rfl) rfl trivial trivial fun x=>by kernel_rfl
theorem c1e:A8 P gl 215 d1A:=dS f215 b1D b5n d7g c4r (by kernel_rfl) rfl trivial ⟨KQ,trivial⟩ fun x=>by kernel_rfl
theorem a7k:A8 P gl 247 b9x:=dS f247 b2a b5K d7F c4S (by kernel_rfl) rfl trivial ⟨KQ,trivial⟩ fun x=>by kernel_rfl
theorem Zh:A8 P gl 286 a9q:=dS f286 b2I b6s d8n c5B (by kernel_rfl) rfl trivial trivial fun x=>by kernel_rfl
theorem c1w:A8 P gl 248 d1R:=dS f248 b2b b5L d7G c4T (by kernel_rfl) rfl trivial ⟨Zh,trivial⟩ fun x=>by kernel_rfl
theorem c1x:A8 P gl 249 d1S:=dS f249 b2c b5M d7H c4V (by kernel_rfl) rfl trivial ⟨Zh,trivial⟩ fun x=>by kernel_rfl
theorem a7l:A8 P gl 251 b9y:=dS f251 b2e b5O d7J c4X (by kernel_rfl) rfl trivial trivial fun x=>by kernel_rfl
theorem c1y:A8 P gl 250 d1T:=dS f250 b2d b5N d7I c4W (by kernel_rfl) rfl trivial ⟨a7l,Zh,trivial⟩ fun x=>by kernel_rfl
theorem c1f:A8 P gl 216 d1B:=dS f216 b1E b5o d7h c4s (by kernel_rfl) rfl trivial ⟨KQ,a7k,c1w,c1x,c1y,a7l,trivial⟩ fun x=>by kernel_rfl
theorem c1z:A8 P gl 252 d1U:=dS f252 b2f b5P d7K c4Y (by kernel_rfl) rfl trivial ⟨a7k,KQ,trivial⟩ fun x=>by kernel_rfl
theorem Xp:A8 P gl 287 YV:=dS f287 a0Y a1w b8O a8t (by kernel_rfl) rfl trivial ⟨Zd,trivial⟩ fun x=>by kernel_rfl
theorem a9I:A8 P gl 86 b7u:=dS f86 a5o a5R c6O b7Y (by kernel_rfl) rfl trivial ⟨Xp,trivial⟩ fun x=>by kernel_rfl
theorem c1A:A8 P gl 253 d1V:=dS f253 b2g b5Q d7L c4Z (by kernel_rfl) rfl trivial ⟨Xp,a9I,trivial⟩ fun x=>by kernel_rfl
theorem a1C:A8 Go.Proofs.Tryz.prog gl 37 s37:=Wv Go.Proofs.Tryz.bits_Mul64
theorem d3L:A8 P gl 81 s81:=dS f81 c8y d0i e81 d5p (by kernel_rfl) rfl trivial trivial fun x=>by kernel_rfl
theorem d3v:A8 P gl 59 s59:=dS f59 c8c c9M e59 d4T (by kernel_rfl) rfl trivial ⟨d3L,trivial⟩ fun x=>by kernel_rfl
theorem a7D:A8 P gl 38 s38:=dS f38 c7H c9r e38 d4y (by kernel_rfl) rfl trivial ⟨d3v,trivial⟩ fun x=>by kernel_rfl
theorem c1Y:A8 P gl 288 d2q:=dS f288 b2J b6t d8o c5C (by kernel_rfl) rfl trivial ⟨a1C,a7D,trivial⟩ fun x=>by kernel_rfl
theorem Zp:A8 P gl 331 a9y:=dS f331 b3y b7i d9d c6u (by kernel_rfl) rfl trivial trivial fun x=>by kernel_rfl
theorem Zq:A8 P gl 332 a9z:=dS f332 b3z b7j d9e c6v (by kernel_rfl) rfl trivial trivial fun x=>by kernel_rfl
theorem a7y:A8 P gl 333 b9L:=dS f333 b3A b7k d9f c6w (by kernel_rfl) rfl trivial trivial fun x=>by kernel_rfl
theorem a7z:A8 P gl 334 b9M:=dS f334 b3B b7l d9g c6x (by kernel_rfl) rfl trivial trivial fun x=>by kernel_rfl
theorem a7A:A8 P gl 335 b9N:=dS f335 b3C b7m d9h c6y (by kernel_rfl) rfl trivial trivial fun x=>by kernel_rfl
theorem UW:A8 P gl 316 a6p:=dS f316 b3j b6T d8O c6f (by kernel_rfl) rfl trivial ⟨Zp,Zq,a7y,a7z,a7A,trivial⟩ fun x=>by kernel_rfl
theorem c1Z:A8 P gl 289 d2r:=dS f289 b2K b6u d8p c5E (by kernel_rfl) rfl trivial ⟨UW,trivial⟩ fun x=>by kernel_rfl
theorem c1B:A8 P gl 254 d1W:=dS f254 b2h b5R d7M c5a (by kernel_rfl) rfl trivial ⟨Zd,c1Y,c1Z,trivial⟩ fun x=>by kernel_rfl
theorem a7r:A8 P gl 290 b9E:=dS f290 b2L b6v d8q c5F (by kernel_rfl) rfl trivial trivial fun x=>by kernel_rfl
theorem Zm:A8 P gl 317 a9v:=dS f317 b3k b6U d8P c6g (by kernel_rfl) rfl trivial trivial fun x=>by kernel_rfl
theorem c2x:A8 P gl 336 d2M:=dS f336 b3D b7n d9i c6z (by kernel_rfl) rfl trivial trivial fun x=>by kernel_rfl
theorem a7w:A8 P gl 318 b9J:=dS f318 b3l b6V d8Q c6h (by kernel_rfl) rfl trivial ⟨c2x,trivial⟩ fun x=>by kernel_rfl
theorem c2y:A8 P gl 337 d2N:=dS f337 b3E b7o d9j c6A (by kernel_rfl) rfl trivial trivial fun x=>by kernel_rfl
theorem Zn:A8 P gl 319 a9w:=dS f319 b3m b6W d8R c6i (by kernel_rfl) rfl trivial ⟨c2y,trivial⟩ fun x=>by kernel_rfl
theorem Zi:A8 P gl 291 a9r:=dS f291 b2M b6w d8r c5G (by kernel_rfl) rfl trivial ⟨Zm,a7w,Zn,trivial⟩ fun x=>by kernel_rfl
theorem c1C:A8 P gl 255 d1X:=dS f255 b2i b5S d7N c5b (by kernel_rfl) rfl trivial ⟨a7r,Zi,trivial⟩ fun x=>by kernel_rfl
theorem c2n:A8 P gl 320 d2E:=dS f320 b3n b6X d8S c6j (by kernel_rfl) rfl trivial ⟨a1C,trivial⟩ fun x=>by kernel_rfl
theorem c2z:A8 P gl 338 d2O:=dS f338 b3F b7p d9k c6B (by kernel_rfl) rfl trivial ⟨Zp,Zq,a7y,a1C,a7D,a7z,a7A,trivial⟩ fun x=>by kernel_rfl
theorem c2o:A8 P gl 321 d2F:=dS f321 b3o b6Y d8T c6k (by kernel_rfl) rfl trivial ⟨c2z,trivial⟩ fun x=>by kernel_rfl
theorem b7H:A8 P gl 35 s35:=dS f35 c7F c9p e35 d4w (by kernel_rfl) rfl trivial trivial fun x=>by kernel_rfl
theorem b7I:A8 P gl 36 s36:=dS f36 c7G c9q e36 d4x (by kernel_rfl) rfl trivial trivial fun x=>by kernel_rfl
theorem c2p:A8 P gl 322 d2G:=dS f322 b3p b6Z d8U c6l (by kernel_rfl) rfl trivial ⟨b7H,b7I,UW,trivial⟩ fun x=>by kernel_rfl
theorem c2r:A8 P gl 323 d2H:=dS f323 b3q b7a d8V c6m (by kernel_rfl) rfl trivial ⟨Zp,Zq,UW,trivial⟩ fun x=>by kernel_rfl
theorem d3h:A8 P gl 39 s39:=dS f39 c7I c9s e39 d4z (by kernel_rfl) rfl trivial trivial fun x=>by kernel_rfl
theorem b7D:A8 P gl 25 s25:=dS f25 c7v c9f e25 d4m (by kernel_rfl) rfl trivial ⟨b7H,b7I,a1C,a7D,d3h,trivial⟩ fun x=>by kernel_rfl
theorem c2a:A8 P gl 292 d2s:=dS f292 b2N b6x d8s c5H (by kernel_rfl) rfl trivial ⟨c2n,c2o,c2p,c2r,UW,b7D,trivial⟩ fun x=>by kernel_rfl
theorem c2s:A8 P gl 324 d2I:=dS f324 b3r b7b d8W c6n (by kernel_rfl) rfl trivial ⟨Zn,a7w,trivial⟩ fun x=>by kernel_rfl
theorem a7s:A8 P gl 293 b9F:=dS f293 b2O b6y d8t c5I (by kernel_rfl) rfl trivial ⟨Zm,Zi,Zn,c2s,trivial⟩ fun x=>by kernel_rfl
theorem c2b:A8 P gl 294 d2t:=dS f294 b2P b6z d8u c5J (by kernel_rfl) rfl trivial ⟨Zm,Zi,a7s,trivial⟩ fun x=>by kernel_rfl
theorem c1E:A8 P gl 256 d1Y:=dS f256 b2j b5T d7O c5c (by kernel_rfl) rfl trivial ⟨c2a,a7r,a7s,c2b,trivial⟩ fun x=>by kernel_rfl
theorem c1g:A8 P gl 217 d1C:=dS f217 b1F b5p d7i c4t (by kernel_rfl) rfl trivial ⟨c1z,c1A,c1B,c1C,c1E,trivial⟩ fun x=>by kernel_rfl
theorem c0O:A8 P gl 184 d1k:=dS f184 b1m b4V d6M c3X (by kernel_rfl) rfl trivial ⟨c1c,Qe,c1d,c1e,c1f,c1g,KQ,trivial⟩ fun x=>by kernel_rfl
theorem a9P:∀n,A8 P gl 212 ⟨a5l,[(true,(.dat (.prod (.int .i64) (.prod (.int .i64) (.int .i64))))),(false,(.dat (.int .i64)))],[],fun x=>(C9 n).1 x.1 x.2⟩∧A8 P gl 149 ⟨SK,[(true,(.dat (.prod (.int .i64) (.prod (.int .i64) (.int .i64))))),(false,(.dat (.int .i64)))],[],fun x=>(C9 n).2.1 x.1 x.2⟩∧A8 P gl 183 ⟨a5j,[(true,(.dat (.prod (.int .i64) (.prod (.int .i64) (.int .i64))))),(false,(.dat (.int .i64)))],[],fun x=>(C9 n).2.2 x.1 x.2.1 x.2.2⟩:=by
 intro n
 induction n with
 | zero=>exact⟨(fun w ok O vals x r _ _ _ _ _ h=>by cases h),(fun w ok O vals x r _ _ _ _ _ h=>by cases h),(fun w ok O vals x r _ _ _ _ _ h=>by cases h)⟩
 | succ n ih=>exact⟨dS f212 a5l c8Y (d7d (C9 n).1 (C9 n).2.1 (C9 n).2.2) c4o (by kernel_rfl) rfl trivial ⟨ih.2.1,KQ,trivial⟩ fun x=>by kernel_rfl,
  dS f149 SK b4w (d6m (C9 n).1 (C9 n).2.1 (C9 n).2.2) c3u (by kernel_rfl) rfl trivial ⟨c0N,ih.2.2,ih.2.1,c0O,trivial⟩ fun x=>by kernel_rfl,
  dS f183 a5j c8T (d6L (C9 n).1 (C9 n).2.1 (C9 n).2.2) c3W (by kernel_rfl) rfl trivial ⟨ih.1,ih.2.1,trivial⟩ fun x=>by kernel_rfl⟩
theorem c0t:A8 P gl 149 d0Q:=(a9P bK).2.1
theorem a6F:A8 P gl 110 b9j:=dS f110 b0n b3U d5K c2Q (by kernel_rfl) rfl trivial ⟨c0s,c0t,trivial⟩ fun x=>by kernel_rfl
theorem c0L:A8 P gl 178 d1h:=dS f178 b1h b4Q d6G c3Q (by kernel_rfl) rfl trivial trivial fun x=>by kernel_rfl
theorem c1u:A8 P gl 246 d1Q:=dS f246 b1Z b5J d7E c4R (by kernel_rfl) rfl trivial trivial fun x=>by kernel_rfl
theorem c1b:A8 P gl 211 d1x:=dS f211 b1A b5k d7c c4n (by kernel_rfl) rfl trivial ⟨c1u,trivial⟩ fun x=>by kernel_rfl
theorem a7b:A8 P gl 180 b9s:=dS f180 b1j b4S d6I c3S (by kernel_rfl) rfl trivial ⟨c1b,trivial⟩ fun x=>by kernel_rfl
theorem c0M:A8 P gl 179 d1i:=dS f179 b1i b4R d6H c3R (by kernel_rfl) rfl trivial ⟨a7b,trivial⟩ fun x=>by kernel_rfl
theorem c0r:A8 P gl 147 d0O:=dS f147 b0N b4u d6k c3s (by kernel_rfl) rfl trivial ⟨c0L,c0M,a7b,trivial⟩ fun x=>by kernel_rfl
theorem b9Y:A8 P gl 109 d0y:=dS f109 b0m b3T d5J c2P (by kernel_rfl) rfl trivial ⟨c0q,a6F,c0r,trivial⟩ fun x=>by kernel_rfl
theorem d3C:A8 P gl 70 s70:=dS f70 c8n c9X e70 d5e (by kernel_rfl) rfl trivial ⟨b9X,b9Y,a6F,trivial⟩ fun x=>by kernel_rfl
theorem d3o:A8 P gl 49 s49:=dS f49 c7S c9C e49 d4J (by kernel_rfl) rfl trivial ⟨d3C,trivial⟩ fun x=>by kernel_rfl
theorem d3d:A8 P gl 31 s31:=dS f31 c7B c9l e31 d4s (by kernel_rfl) rfl trivial ⟨d3l,d3m,d3n,d3o,trivial⟩ fun x=>by kernel_rfl
theorem a7f:A8 P gl 22 s22:=dS f22 c7s c8Z e22 d4j (by kernel_rfl) rfl trivial ⟨d3d,trivial⟩ fun x=>by kernel_rfl
theorem a6B:A8 P gl 10 s10:=dS f10 c7d c8K e10 d3X (by kernel_rfl) rfl trivial ⟨a7e,a7f,trivial⟩ fun x=>by kernel_rfl
theorem b7A:A8 P gl 12 s12:=dS f12 c7f c8M e12 d3Z (by kernel_rfl) rfl trivial ⟨a7e,a7f,b7D,trivial⟩ fun x=>by kernel_rfl
theorem d3b:A8 P gl 28 s28:=dS f28 c7y c9i e28 d4p (by kernel_rfl) rfl trivial trivial fun x=>by kernel_rfl
theorem a6U:A8 P gl 15 s15:=dS f15 c7k c8P e15 d4c (by kernel_rfl) rfl trivial ⟨a7e,d3b,a7f,trivial⟩ fun x=>by kernel_rfl
theorem b7C:A8 P gl 17 s17:=dS f17 c7n c8R e17 d4e (by kernel_rfl) rfl trivial trivial fun x=>by kernel_rfl
theorem a9J:A8 P gl 9 s9:=dS f9 ps9 rt9 e9 an9 (by kernel_rfl) rfl trivial ⟨d2Z,d3a,a6B,b7A,a6U,b7C,trivial⟩ fun x=>by kernel_rfl
theorem a6V:A8 P gl 150 b9r:=dS f150 b0P b4x d6n c3v (by kernel_rfl) rfl trivial trivial fun x=>by kernel_rfl
theorem c0P:A8 P gl 185 d1l:=dS f185 b1n b4W d6N c3Y (by kernel_rfl) rfl trivial trivial fun x=>by kernel_rfl
theorem c0u:A8 P gl 151 d0R:=dS f151 b0Q b4y d6o c3w (by kernel_rfl) rfl trivial ⟨a6V,c0P,trivial⟩ fun x=>by kernel_rfl
theorem c0w:A8 P gl 152 d0S:=dS f152 b0R b4z d6p c3x (by kernel_rfl) rfl trivial trivial fun x=>by kernel_rfl
theorem Qc:A8 P gl 111 a3h:=dS f111 b0o b3V d5L c2R (by kernel_rfl) rfl trivial ⟨a6V,c0u,c0w,trivial⟩ fun x=>by kernel_rfl
theorem YZ:A8 P gl 112 a9i:=dS f112 b0p b3W d5M c2S (by kernel_rfl) rfl trivial trivial fun x=>by kernel_rfl
theorem d3D:A8 P gl 71 s71:=dS f71 c8o c9Y e71 d5f (by kernel_rfl) rfl trivial ⟨Qc,YZ,trivial⟩ fun x=>by kernel_rfl
theorem Qd:A8 P gl 153 a3i:=dS f153 b0S b4A d6q c3y (by kernel_rfl) rfl trivial trivial fun x=>by kernel_rfl
theorem UR:A8 P gl 157 a6g:=dS f157 b0W b4E d6u c3C (by kernel_rfl) rfl trivial trivial fun x=>by kernel_rfl
theorem a6G:A8 P gl 116 b9k:=dS f116 b0t b4a d5Q c2X (by kernel_rfl) rfl trivial ⟨Qd,trivial⟩ fun x=>by kernel_rfl
theorem b7P:A8 P gl 75 s75:=dS f75 c8s d0c e75 d5j (by kernel_rfl) rfl trivial ⟨a6G,trivial⟩ fun x=>by kernel_rfl
theorem c0x:A8 P gl 154 d0T:=dS f154 b0T b4B d6r c3z (by kernel_rfl) rfl trivial ⟨UR,b7P,trivial⟩ fun x=>by kernel_rfl
theorem c0Q:A8 P gl 186 d1m:=dS f186 b1o b4X d6O c3Z (by kernel_rfl) rfl trivial ⟨UR,trivial⟩ fun x=>by kernel_rfl
theorem c0y:A8 P gl 155 d0U:=dS f155 b0U b4C d6s c3A (by kernel_rfl) rfl trivial ⟨c0Q,trivial⟩ fun x=>by kernel_rfl
theorem b9Z:A8 P gl 113 d0z:=dS f113 b0q b3X d5N c2T (by kernel_rfl) rfl trivial ⟨Qd,c0x,c0y,trivial⟩ fun x=>by kernel_rfl
theorem d3E:A8 P gl 72 s72:=dS f72 c8p c9Z e72 d5g (by kernel_rfl) rfl trivial ⟨Qc,YZ,b9Z,trivial⟩ fun x=>by kernel_rfl
theorem c0z:A8 P gl 156 d0V:=dS f156 b0V b4D d6t c3B (by kernel_rfl) rfl trivial trivial fun x=>by kernel_rfl
theorem c0c:A8 P gl 114 d0A:=dS f114 b0r b3Y d5O c2V (by kernel_rfl) rfl trivial ⟨Qc,c0z,Qd,trivial⟩ fun x=>by kernel_rfl
theorem c0A:A8 P gl 158 d0W:=dS f158 b0X b4F d6v c3E (by kernel_rfl) rfl trivial trivial fun x=>by kernel_rfl
theorem c0R:A8 P gl 187 d1n:=dS f187 b1p b4Y d6P c4a (by kernel_rfl) rfl trivial trivial fun x=>by kernel_rfl
theorem c0B:A8 P gl 159 d0X:=dS f159 b0Y b4G d6w c3F (by kernel_rfl) rfl trivial ⟨c0R,trivial⟩ fun x=>by kernel_rfl
theorem UT:A8 P gl 219 a6m:=dS f219 b1H b5r d7k c4v (by kernel_rfl) rfl trivial trivial fun x=>by kernel_rfl
theorem Ze:A8 P gl 193 a9n:=dS f193 b1u b5e d6V c4g (by kernel_rfl) rfl trivial ⟨UT,trivial⟩ fun x=>by kernel_rfl
theorem c1F:A8 P gl 257 d1Z:=dS f257 b2k b5U d7P c5d (by kernel_rfl) rfl trivial trivial fun x=>by kernel_rfl
theorem Qg:A8 P gl 295 a3k:=dS f295 b2Q b6A d8v c5K (by kernel_rfl) rfl trivial trivial fun x=>by kernel_rfl
theorem c1G:A8 P gl 258 d2a:=dS f258 b2l b5V d7Q c5e (by kernel_rfl) rfl trivial ⟨Qg,a6G,trivial⟩ fun x=>by kernel_rfl
theorem c1H:A8 P gl 259 d2b:=dS f259 b2m b5W d7R c5f (by kernel_rfl) rfl trivial trivial fun x=>by kernel_rfl
theorem Zj:A8 P gl 297 a9s:=dS f297 b2S b6C d8x c5N (by kernel_rfl) rfl trivial trivial fun x=>by kernel_rfl
theorem a7t:A8 P gl 296 b9G:=dS f296 b2R b6B d8w c5M (by kernel_rfl) rfl trivial ⟨Zj,trivial⟩ fun x=>by kernel_rfl
theorem c1I:A8 P gl 260 d2c:=dS f260 b2n b5X d7S c5g (by kernel_rfl) rfl trivial ⟨Qg,Qd,a7t,trivial⟩ fun x=>by kernel_rfl
theorem c1J:A8 P gl 261 d2d:=dS f261 b2o b5Y d7T c5h (by kernel_rfl) rfl trivial ⟨Zj,Qg,Qd,trivial⟩ fun x=>by kernel_rfl
theorem c2c:A8 P gl 298 d2u:=dS f298 b2T b6D d8y c5O (by kernel_rfl) rfl trivial ⟨Qg,trivial⟩ fun x=>by kernel_rfl
theorem c1K:A8 P gl 262 d2e:=dS f262 b2p b5Z d7U c5i (by kernel_rfl) rfl trivial ⟨Zj,c2c,a7t,Qg,trivial⟩ fun x=>by kernel_rfl
theorem c1h:A8 P gl 220 d1D:=dS f220 b1I b5s d7l c4w (by kernel_rfl) rfl trivial ⟨c1F,c1G,c1H,c1I,c1J,c1K,trivial⟩ fun x=>by kernel_rfl
theorem c0S:A8 P gl 188 d1o:=dS f188 b1q b4Z d6Q c4b (by kernel_rfl) rfl trivial ⟨Ze,UT,c1h,trivial⟩ fun x=>by kernel_rfl
theorem c0C:A8 P gl 160 d0Y:=dS f160 b0Z b4H d6x c3G (by kernel_rfl) rfl trivial ⟨c0S,trivial⟩ fun x=>by kernel_rfl
theorem c0d:A8 P gl 115 d0B:=dS f115 b0s b3Z d5P c2W (by kernel_rfl) rfl trivial ⟨Qc,UR,c0A,c0B,c0C,trivial⟩ fun x=>by kernel_rfl
theorem a6I:A8 P gl 119 b9m:=dS f119 b0w b4d d5T c3a (by kernel_rfl) rfl trivial trivial fun x=>by kernel_rfl
theorem c0D:A8 P gl 161 d0Z:=dS f161 b1a b4I d6y c3H (by kernel_rfl) rfl trivial trivial fun x=>by kernel_rfl
theorem a6J:A8 P gl 121 b9n:=dS f121 b0y b4f d5V c3c (by kernel_rfl) rfl trivial ⟨c0D,trivial⟩ fun x=>by kernel_rfl
theorem Za:A8 P gl 118 a9j:=dS f118 b0v b4c d5S c2Z (by kernel_rfl) rfl trivial trivial fun x=>by kernel_rfl
theorem a6H:A8 P gl 117 b9l:=dS f117 b0u b4b d5R c2Y (by kernel_rfl) rfl trivial ⟨a6I,a6J,Za,trivial⟩ fun x=>by kernel_rfl
theorem a7G:A8 P gl 76 s76:=dS f76 c8t d0d e76 d5k (by kernel_rfl) rfl trivial ⟨a6H,Za,trivial⟩ fun x=>by kernel_rfl
theorem d3F:A8 P gl 73 s73:=dS f73 c8q d0a e73 d5h (by kernel_rfl) rfl trivial ⟨Qc,YZ,c0c,c0d,a7G,trivial⟩ fun x=>by kernel_rfl
theorem d3p:A8 P gl 50 s50:=dS f50 c7T c9D e50 d4K (by kernel_rfl) rfl trivial ⟨d3D,d3E,d3F,trivial⟩ fun x=>by kernel_rfl
theorem d3e:A8 P gl 32 s32:=dS f32 c7C c9m e32 d4t (by kernel_rfl) rfl trivial ⟨d3p,trivial⟩ fun x=>by kernel_rfl
theorem a7g:A8 P gl 23 s23:=dS f23 c7t c9d e23 d4k (by kernel_rfl) rfl trivial ⟨d3e,trivial⟩ fun x=>by kernel_rfl
theorem d3G:A8 P gl 74 s74:=dS f74 c8r d0b e74 d5i (by kernel_rfl) rfl trivial trivial fun x=>by kernel_rfl
theorem d3q:A8 P gl 51 s51:=dS f51 c7U c9E e51 d4L (by kernel_rfl) rfl trivial ⟨d3G,b7P,trivial⟩ fun x=>by kernel_rfl
theorem d3r:A8 P gl 52 s52:=dS f52 c7V c9F e52 d4M (by kernel_rfl) rfl trivial trivial fun x=>by kernel_rfl
theorem d3f:A8 P gl 33 s33:=dS f33 c7D c9n e33 d4u (by kernel_rfl) rfl trivial ⟨d3q,d3r,trivial⟩ fun x=>by kernel_rfl
theorem b7M:A8 P gl 53 s53:=dS f53 c7W c9G e53 d4N (by kernel_rfl) rfl trivial ⟨a7G,trivial⟩ fun x=>by kernel_rfl
theorem a1D:A8 P gl 54 s54:=dS f54 c7X c9H e54 d4O (by kernel_rfl) rfl trivial trivial fun x=>by kernel_rfl
theorem Zb:A8 P gl 120 a9k:=dS f120 b0x b4e d5U c3b (by kernel_rfl) rfl trivial trivial fun x=>by kernel_rfl
theorem d3H:A8 P gl 77 s77:=dS f77 c8u d0e e77 d5l (by kernel_rfl) rfl trivial ⟨a6I,a7G,Za,Zb,a6J,trivial⟩ fun x=>by kernel_rfl
theorem d3s:A8 P gl 55 s55:=dS f55 c7Y c9I e55 d4P (by kernel_rfl) rfl trivial ⟨d3H,a1D,b7M,trivial⟩ fun x=>by kernel_rfl
theorem d3I:A8 P gl 78 s78:=dS f78 c8v d0f e78 d5m (by kernel_rfl) rfl trivial trivial fun x=>by kernel_rfl
theorem c0e:A8 P gl 122 d0C:=dS f122 b0z b4g d5W c3d (by kernel_rfl) rfl trivial ⟨a6H,Zb,trivial⟩ fun x=>by kernel_rfl
theorem d3J:A8 P gl 79 s79:=dS f79 c8w d0g e79 d5n (by kernel_rfl) rfl trivial ⟨Zb,c0e,trivial⟩ fun x=>by kernel_rfl
theorem Zf:A8 P gl 221 a9o:=dS f221 b1J b5t d7m c4x (by kernel_rfl) rfl trivial ⟨UR,trivial⟩ fun x=>by kernel_rfl
theorem c0T:A8 P gl 189 d1p:=dS f189 b1r b5a d6R c4c (by kernel_rfl) rfl trivial ⟨Zf,trivial⟩ fun x=>by kernel_rfl
theorem c1i:A8 P gl 222 d1E:=dS f222 b1K b5u d7n c4y (by kernel_rfl) rfl trivial trivial fun x=>by kernel_rfl
theorem c0U:A8 P gl 190 d1q:=dS f190 b1s b5b d6S c4d (by kernel_rfl) rfl trivial ⟨c1i,trivial⟩ fun x=>by kernel_rfl
theorem c0E:A8 P gl 162 d1a:=dS f162 b1b b4J d6z c3I (by kernel_rfl) rfl trivial ⟨c0T,c0U,trivial⟩ fun x=>by kernel_rfl
theorem c0G:A8 P gl 164 d1c:=dS f164 b1d b4L d6B c3K (by kernel_rfl) rfl trivial ⟨Ze,trivial⟩ fun x=>by kernel_rfl
theorem c0X:A8 P gl 194 d1t:=dS f194 b1v b5f d6W c4h (by kernel_rfl) rfl trivial ⟨Ze,UT,trivial⟩ fun x=>by kernel_rfl
theorem a7m:A8 P gl 264 b9z:=dS f264 b2r b6b d7W c5k (by kernel_rfl) rfl trivial trivial fun x=>by kernel_rfl
theorem KR:A8 P gl 225 YU:=dS f225 b1L b5v d7q c4B (by kernel_rfl) rfl trivial ⟨a7m,trivial⟩ fun x=>by kernel_rfl
theorem c1N:A8 P gl 265 d2g:=dS f265 b2s b6c d7X c5l (by kernel_rfl) rfl trivial trivial fun x=>by kernel_rfl
theorem c1j:A8 P gl 226 d1F:=dS f226 b1M b5w d7r c4C (by kernel_rfl) rfl trivial ⟨UT,c1N,trivial⟩ fun x=>by kernel_rfl
theorem c1k:A8 P gl 227 d1G:=dS f227 b1N b5x d7s c4E (by kernel_rfl) rfl trivial trivial fun x=>by kernel_rfl
theorem c1O:A8 P gl 266 d2h:=dS f266 b2t b6d d7Y c5m (by kernel_rfl) rfl trivial trivial fun x=>by kernel_rfl
theorem c1P:A8 P gl 267 d2i:=dS f267 b2u b6e d7Z c5n (by kernel_rfl) rfl trivial ⟨KR,trivial⟩ fun x=>by kernel_rfl
theorem c1Q:A8 P gl 268 d2j:=dS f268 b2v b6f d8a c5o (by kernel_rfl) rfl trivial trivial fun x=>by kernel_rfl
theorem Ib:A8 P gl 269 Xh:=dS f269 b2w b6g d8b c5p (by kernel_rfl) rfl trivial ⟨KR,trivial⟩ fun x=>by kernel_rfl
theorem c1l:A8 P gl 228 d1H:=dS f228 b1O b5y d7t c4F (by kernel_rfl) rfl trivial ⟨c1O,c1P,c1Q,Ib,trivial⟩ fun x=>by kernel_rfl
theorem c1m:A8 P gl 229 d1I:=dS f229 b1P b5z d7u c4G (by kernel_rfl) rfl trivial ⟨KR,Ib,trivial⟩ fun x=>by kernel_rfl
theorem a7n:A8 P gl 270 b9A:=dS f270 b2x b6h d8c c5q (by kernel_rfl) rfl trivial trivial fun x=>by kernel_rfl
theorem a7o:A8 P gl 271 b9B:=dS f271 b2y b6i d8d c5r (by kernel_rfl) rfl trivial trivial fun x=>by kernel_rfl
theorem Zk:A8 P gl 299 a9t:=dS f299 b2U b6E d8z c5P (by kernel_rfl) rfl trivial trivial fun x=>by kernel_rfl
theorem a7x:A8 P gl 325 b9K:=dS f325 b3s b7c d8X c6o (by kernel_rfl) rfl trivial trivial fun x=>by kernel_rfl
theorem a7u:A8 P gl 300 b9H:=dS f300 b2V b6F d8A c5Q (by kernel_rfl) rfl trivial ⟨a7x,trivial⟩ fun x=>by kernel_rfl
theorem Zl:A8 P gl 301 a9u:=dS f301 b2W b6G d8B c5R (by kernel_rfl) rfl trivial ⟨a7x,trivial⟩ fun x=>by kernel_rfl
theorem a7p:A8 P gl 272 b9C:=dS f272 b2z b6j d8e c5s (by kernel_rfl) rfl trivial ⟨Zk,a7u,Zl,trivial⟩ fun x=>by kernel_rfl
theorem c2t:A8 P gl 326 d2J:=dS f326 b3t b7d d8Y c6p (by kernel_rfl) rfl trivial ⟨Zf,trivial⟩ fun x=>by kernel_rfl
theorem c2d:A8 P gl 302 d2v:=dS f302 b2X b6H d8C c5S (by kernel_rfl) rfl trivial ⟨c2t,trivial⟩ fun x=>by kernel_rfl
theorem c1R:A8 P gl 273 d2k:=dS f273 b2A b6k d8f c5t (by kernel_rfl) rfl trivial ⟨c2d,KR,trivial⟩ fun x=>by kernel_rfl
theorem UU:A8 P gl 303 a6n:=dS f303 b2Y b6I d8D c5T (by kernel_rfl) rfl trivial trivial fun x=>by kernel_rfl
theorem UV:A8 P gl 304 a6o:=dS f304 b2Z b6J d8E c5V (by kernel_rfl) rfl trivial trivial fun x=>by kernel_rfl
theorem c2e:A8 P gl 305 d2w:=dS f305 b3a b6K d8F c5W (by kernel_rfl) rfl trivial trivial fun x=>by kernel_rfl
theorem UX:A8 P gl 327 a6q:=dS f327 b3u b7e d8Z c6q (by kernel_rfl) rfl trivial trivial fun x=>by kernel_rfl
theorem c2f:A8 P gl 306 d2x:=dS f306 b3b b6L d8G c5X (by kernel_rfl) rfl trivial ⟨UX,trivial⟩ fun x=>by kernel_rfl
theorem c1S:A8 P gl 274 d2l:=dS f274 b2B b6l d8g c5u (by kernel_rfl) rfl trivial ⟨UU,UV,Zf,c2e,c2f,trivial⟩ fun x=>by kernel_rfl
theorem Zg:A8 P gl 275 a9p:=dS f275 b2C b6m d8h c5v (by kernel_rfl) rfl trivial ⟨Ib,trivial⟩ fun x=>by kernel_rfl
theorem c1n:A8 P gl 230 d1J:=dS f230 b1Q b5A d7v c4H (by kernel_rfl) rfl trivial ⟨a7n,Ib,a7o,a7p,c1R,c1S,Zg,trivial⟩ fun x=>by kernel_rfl
theorem c2g:A8 P gl 307 d2y:=dS f307 b3c b6M d8H c5Y (by kernel_rfl) rfl trivial ⟨a7m,Ib,trivial⟩ fun x=>by kernel_rfl
theorem Zo:A8 P gl 329 a9x:=dS f329 b3w b7g d9b c6s (by kernel_rfl) rfl trivial trivial fun x=>by kernel_rfl
theorem c2u:A8 P gl 328 d2K:=dS f328 b3v b7f d9a c6r (by kernel_rfl) rfl trivial ⟨UU,UV,Zo,UX,trivial⟩ fun x=>by kernel_rfl
theorem c2h:A8 P gl 308 d2z:=dS f308 b3d b6N d8I c5Z (by kernel_rfl) rfl trivial ⟨c2u,trivial⟩ fun x=>by kernel_rfl
theorem b7J:A8 P gl 40 s40:=dS f40 c7J c9t e40 d4A (by kernel_rfl) rfl trivial trivial fun x=>by kernel_rfl
theorem b7K:A8 P gl 41 s41:=dS f41 c7K c9u e41 d4B (by kernel_rfl) rfl trivial trivial fun x=>by kernel_rfl
theorem b7L:A8 P gl 42 s42:=dS f42 c7L c9v e42 d4C (by kernel_rfl) rfl trivial trivial fun x=>by kernel_rfl
theorem c2i:A8 P gl 309 d2A:=dS f309 b3e b6O d8J c6a (by kernel_rfl) rfl trivial ⟨b7J,b7K,b7L,trivial⟩ fun x=>by kernel_rfl
theorem b7E:A8 P gl 26 s26:=dS f26 c7w c9g e26 d4n (by kernel_rfl) rfl trivial ⟨b7J,b7K,b7L,trivial⟩ fun x=>by kernel_rfl
theorem c2j:A8 P gl 310 d2B:=dS f310 b3f b6P d8K c6b (by kernel_rfl) rfl trivial ⟨UU,UV,Zo,UX,trivial⟩ fun x=>by kernel_rfl
theorem c2k:A8 P gl 311 d2C:=dS f311 b3g b6Q d8L c6c (by kernel_rfl) rfl trivial ⟨UU,UV,Zo,UX,trivial⟩ fun x=>by kernel_rfl
theorem c1T:A8 P gl 276 d2m:=dS f276 b2D b6n d8i c5w (by kernel_rfl) rfl trivial ⟨c2g,c2h,Zg,c2i,b7E,c2j,c2k,trivial⟩ fun x=>by kernel_rfl
theorem c2w:A8 P gl 330 d2L:=dS f330 b3x b7h d9c c6t (by kernel_rfl) rfl trivial ⟨Zl,a7u,trivial⟩ fun x=>by kernel_rfl
theorem a7v:A8 P gl 312 b9I:=dS f312 b3h b6R d8M c6d (by kernel_rfl) rfl trivial ⟨Zk,a7p,Zl,c2w,trivial⟩ fun x=>by kernel_rfl
theorem c2l:A8 P gl 313 d2D:=dS f313 b3i b6S d8N c6e (by kernel_rfl) rfl trivial ⟨Zk,a7v,trivial⟩ fun x=>by kernel_rfl
theorem c1V:A8 P gl 277 d2n:=dS f277 b2E b6o d8j c5x (by kernel_rfl) rfl trivial ⟨Ib,a7v,Zg,c2l,trivial⟩ fun x=>by kernel_rfl
theorem c1W:A8 P gl 278 d2o:=dS f278 b2F b6p d8k c5y (by kernel_rfl) rfl trivial ⟨a7o,a7n,Ib,trivial⟩ fun x=>by kernel_rfl
theorem c1o:A8 P gl 231 d1K:=dS f231 b1R b5B d7w c4I (by kernel_rfl) rfl trivial ⟨c1T,c1V,c1W,trivial⟩ fun x=>by kernel_rfl
theorem c0Y:A8 P gl 196 d1v:=dS f196 b1w b5g d6Y c4j (by kernel_rfl) rfl trivial ⟨c1j,c1k,KR,c1l,c1m,c1n,c1o,trivial⟩ fun x=>by kernel_rfl
theorem a9N:∀n,A8 P gl 165 ⟨WN,[(true,(.dat (.prod (.int .i64) (.prod (.int .i64) (.int .i64))))),(false,(.dat (.int .i64)))],[],fun x=>(I8 n).1 x.1 x.2.1 x.2.2⟩∧A8 P gl 195 ⟨a5k,[(true,(.dat (.prod (.int .i64) (.prod (.int .i64) (.int .i64))))),(false,(.dat (.int .i64)))],[],fun x=>(I8 n).2 x.1 x.2.1 x.2.2.1 x.2.2.2⟩:=by
 intro n
 induction n with
 | zero=>exact⟨(fun w ok O vals x r _ _ _ _ _ h=>by cases h),(fun w ok O vals x r _ _ _ _ _ h=>by cases h)⟩
 | succ n ih=>exact⟨dS f165 WN b4M (d6C (I8 n).1 (I8 n).2) c3M (by kernel_rfl) rfl trivial ⟨c0X,ih.2,ih.1,c0Y,trivial⟩ fun x=>by kernel_rfl,
  dS f195 a5k c8V (d6X (I8 n).1 (I8 n).2) c4i (by kernel_rfl) rfl trivial ⟨ih.1,KR,trivial⟩ fun x=>by kernel_rfl⟩
theorem c0H:A8 P gl 165 d1d:=(a9N bK).1
theorem a6K:A8 P gl 124 b9o:=dS f124 b0B b4i d5Y c3f (by kernel_rfl) rfl trivial ⟨c0G,c0H,trivial⟩ fun x=>by kernel_rfl
theorem c0V:A8 P gl 191 d1r:=dS f191 b1t b5c d6T c4e (by kernel_rfl) rfl trivial trivial fun x=>by kernel_rfl
theorem c1M:A8 P gl 263 d2f:=dS f263 b2q b6a d7V c5j (by kernel_rfl) rfl trivial trivial fun x=>by kernel_rfl
theorem a9O:∀n,A8 P gl 192 ⟨a0W,[(false,(.dat (.int .i64)))],[],fun x=>(F9 n).1 x.1 x.2.1 x.2.2.1 x.2.2.2⟩∧A8 P gl 223 ⟨a5m,[(false,(.dat (.sl (.int .i64))))],[],fun x=>(F9 n).2.1 x.1 x.2.1 x.2.2.1 x.2.2.2⟩∧A8 P gl 224 ⟨a0X,[(false,(.dat (.int .i64)))],[],fun x=>(F9 n).2.2 x.1 x.2.1 x.2.2.1 x.2.2.2⟩:=by
 intro n
 induction n with
 | zero=>exact⟨(fun w ok O vals x r _ _ _ _ _ h=>by cases h),(fun w ok O vals x r _ _ _ _ _ h=>by cases h),(fun w ok O vals x r _ _ _ _ _ h=>by cases h)⟩
 | succ n ih=>exact⟨dS f192 a0W b5d (d6U (F9 n).1 (F9 n).2.1 (F9 n).2.2) c4f (by kernel_rfl) rfl trivial ⟨ih.2.1,ih.2.2,trivial⟩ fun x=>by kernel_rfl,
  dS f223 a5m c9a (d7o (F9 n).1 (F9 n).2.1 (F9 n).2.2) c4z (by kernel_rfl) rfl trivial ⟨c1M,ih.2.2,trivial⟩ fun x=>by kernel_rfl,
  dS f224 a0X c9c (d7p (F9 n).1 (F9 n).2.1 (F9 n).2.2) c4A (by kernel_rfl) rfl trivial ⟨ih.1,trivial⟩ fun x=>by kernel_rfl⟩
theorem c0W:A8 P gl 192 d1s:=(a9O bK).1
theorem c0F:A8 P gl 163 d1b:=dS f163 b1c b4K d6A c3J (by kernel_rfl) rfl trivial ⟨c0V,c0W,trivial⟩ fun x=>by kernel_rfl
theorem c0f:A8 P gl 123 d0D:=dS f123 b0A b4h d5X c3e (by kernel_rfl) rfl trivial ⟨c0E,a6K,c0F,trivial⟩ fun x=>by kernel_rfl
theorem d3K:A8 P gl 80 s80:=dS f80 c8x d0h e80 d5o (by kernel_rfl) rfl trivial ⟨c0f,a6K,trivial⟩ fun x=>by kernel_rfl
theorem b7N:A8 P gl 57 s57:=dS f57 c8a c9K e57 d4R (by kernel_rfl) rfl trivial ⟨d3J,d3K,trivial⟩ fun x=>by kernel_rfl
theorem d3t:A8 P gl 56 s56:=dS f56 c7Z c9J e56 d4Q (by kernel_rfl) rfl trivial ⟨a1D,d3I,b7N,trivial⟩ fun x=>by kernel_rfl
theorem d3u:A8 P gl 58 s58:=dS f58 c8b c9L e58 d4S (by kernel_rfl) rfl trivial ⟨a1D,trivial⟩ fun x=>by kernel_rfl
theorem d3g:A8 P gl 34 s34:=dS f34 c7E c9o e34 d4v (by kernel_rfl) rfl trivial ⟨b7M,a1D,d3s,d3t,d3u,b7N,trivial⟩ fun x=>by kernel_rfl
theorem a7j:A8 P gl 24 s24:=dS f24 c7u c9e e24 d4l (by kernel_rfl) rfl trivial ⟨d3f,d3g,trivial⟩ fun x=>by kernel_rfl
theorem d2V:A8 P gl 11 s11:=dS f11 c7e c8L e11 d3Y (by kernel_rfl) rfl trivial ⟨a7g,a7j,trivial⟩ fun x=>by kernel_rfl
theorem d9s:A8 P gl 3 s3:=dS f3 ps3 rt3 e3 an3 (by kernel_rfl) rfl trivial ⟨a9F,a9G,a9J,a6B,d2V,trivial⟩ fun x=>by kernel_rfl
theorem d2W:A8 P gl 13 s13:=dS f13 c7g c8N e13 d4a (by kernel_rfl) rfl trivial ⟨a7g,a7j,b7E,trivial⟩ fun x=>by kernel_rfl
theorem d9t:A8 P gl 4 s4:=dS f4 ps4 rt4 e4 an4 (by kernel_rfl) rfl trivial ⟨a9F,a9G,a9J,b7A,d2W,trivial⟩ fun x=>by kernel_rfl
theorem b7F:A8 P gl 27 s27:=dS f27 c7x c9h e27 d4o (by kernel_rfl) rfl trivial trivial fun x=>by kernel_rfl
theorem b7B:A8 P gl 14 s14:=dS f14 c7h c8O e14 d4b (by kernel_rfl) rfl trivial ⟨b7F,trivial⟩ fun x=>by kernel_rfl
theorem d2X:A8 P gl 16 s16:=dS f16 c7l c8Q e16 d4d (by kernel_rfl) rfl trivial ⟨a7g,b7F,a7j,trivial⟩ fun x=>by kernel_rfl
theorem d9u:A8 P gl 5 s5:=dS f5 ps5 rt5 e5 an5 (by kernel_rfl) rfl trivial ⟨a9F,a9G,b7B,a9J,a6U,d2X,b7C,trivial⟩ fun x=>by kernel_rfl
theorem d9v:A8 P gl 6 s6:=dS f6 ps6 rt6 e6 an6 (by kernel_rfl) rfl trivial ⟨a9F,a9G,b7B,a9J,a6U,a6B,trivial⟩ fun x=>by kernel_rfl
end Gt
