import Derived.Test.YtamfjfpncfkggaaGreatDoorT2
import Derived.Test.YtamfjfpncfkggaaGreatDoorProg
import Derived.Test.YtamfjfpncfkggaaGreatDoorShelf
set_option linter.all false
open Go Go.GP Go.Proofs.Tryz
namespace Gt
set_option maxRecDepth 100000
noncomputable abbrev P:Program:=Go.Proofs.Tryz.prog
theorem c3o:WS P tt=true:=by kernel_rfl
theorem b3X:∀t sh,Y3 eqs t=some sh→BU P t sh:=UH (by kernel_rfl)
theorem dS {f:FuncId} (fn:Func) (ps:List MG) (rt:Ret) (E:Env) (an:Ann) {F:aK ps→Option rt.den} (h:(P.funcs[f]?,fn.body,fn.ntmps,fn.results.toList,Nat.ble (64*E.nt) 999936,UT P E.fs)=(some fn,some (a3f fn),E.nt,rt.rs.map (·.1),true,true)) (ht:(E.tt,E.eqs)=(tt,eqs)) (hm:Zb P E.ms) (hs:a7t P E.gl E.fs) (hF:∀x,b3I E ps rt (a3f fn) an x=F x):
  D5 P E.gl f ⟨ps,rt.rs.map (·.2),rt.outs.map (·.2),F⟩:=by
 injection h with h1 h;injection h with h2 h;injection h with h3 h;injection h with h4 h;injection h with h5 h6
 injection ht with t1 t2
 exact Xk h1 h2 h3 h4 (a3u h5 (t1▸c3o) (t2▸b3X) h6 hm hs) fun x r h=>(hF x).trans h
theorem c2t:D5 P gl 29 s29:=dS f29 b8n b9K e29 c3O (by kernel_rfl) rfl trivial trivial fun x=>by kernel_rfl
theorem c2f:D5 P gl 16 s16:=dS f16 b7Z b9x e16 c3z (by kernel_rfl) rfl trivial ⟨c2t,trivial⟩ fun x=>by kernel_rfl
theorem c2g:D5 P gl 17 s17:=dS f17 b8a b9y e17 c3A (by kernel_rfl) rfl trivial trivial fun x=>by kernel_rfl
theorem c2b:D5 P gl 10 s10:=dS f10 b7S b9p e10 c3t (by kernel_rfl) rfl trivial ⟨c2f,c2g,trivial⟩ fun x=>by kernel_rfl
theorem c2d:D5 P gl 14 s14:=dS f14 b7X b9u e14 c3x (by kernel_rfl) rfl trivial trivial fun x=>by kernel_rfl
theorem b2Q:D5 P gl 72 s72:=dS f72 b8Z c0A e72 c4B (by kernel_rfl) rfl trivial trivial fun x=>by kernel_rfl
theorem c3l:D5 P gl 98 s98:=dS f98 b9o c0Q e98 c4T (by kernel_rfl) rfl trivial trivial fun x=>by kernel_rfl
theorem c2X:D5 P gl 73 s73:=dS f73 b9a c0B e73 c4C (by kernel_rfl) rfl trivial ⟨b2Q,c3l,trivial⟩ fun x=>by kernel_rfl
theorem c2Y:D5 P gl 74 s74:=dS f74 b9b c0C e74 c4E (by kernel_rfl) rfl trivial trivial fun x=>by kernel_rfl
theorem WG:D5 P gl 49 s49:=dS f49 b8E c0d e49 c4g (by kernel_rfl) rfl trivial ⟨b2Q,c2X,c2Y,trivial⟩ fun x=>by kernel_rfl
theorem a0W:D5 P gl 76 a6c:=dS f76 a4X a5H b7A b3e (by kernel_rfl) rfl trivial trivial fun x=>by kernel_rfl
theorem a9c:D5 P gl 99 b2E:=dS f99 a5e a5O b7H b3l (by kernel_rfl) rfl trivial ⟨a0W,trivial⟩ fun x=>by kernel_rfl
theorem a8X:D5 P gl 75 b2z:=dS f75 a4W a5G b7z b3d (by kernel_rfl) rfl trivial ⟨a9c,trivial⟩ fun x=>by kernel_rfl
theorem a6Q:D5 P gl 50 s50:=dS f50 b8F c0e e50 c4h (by kernel_rfl) rfl trivial ⟨a0W,a8X,trivial⟩ fun x=>by kernel_rfl
theorem c3j:D5 P gl 96 s96:=dS f96 b9m c0O e96 c4R (by kernel_rfl) rfl trivial trivial fun x=>by kernel_rfl
theorem c2T:D5 P gl 65 s65:=dS f65 b8U c0u e65 c4w (by kernel_rfl) rfl trivial ⟨c3j,trivial⟩ fun x=>by kernel_rfl
theorem c2I:D5 P gl 47 s47:=dS f47 b8C b9Z e47 c4e (by kernel_rfl) rfl trivial ⟨WG,a6Q,c2T,trivial⟩ fun x=>by kernel_rfl
theorem c2u:D5 P gl 30 s30:=dS f30 b8o b9L e30 c3P (by kernel_rfl) rfl trivial ⟨c2I,trivial⟩ fun x=>by kernel_rfl
theorem WH:D5 P gl 66 s66:=dS f66 b8V c0w e66 c4x (by kernel_rfl) rfl trivial trivial fun x=>by kernel_rfl
theorem a6S:D5 P gl 67 s67:=dS f67 b8W c0x e67 c4y (by kernel_rfl) rfl trivial ⟨WH,trivial⟩ fun x=>by kernel_rfl
theorem a6T:D5 P gl 68 s68:=dS f68 b8X c0y e68 c4z (by kernel_rfl) rfl trivial trivial fun x=>by kernel_rfl
theorem b4S:D5 P gl 124 c1b:=dS f124 a9E b1f c5h b5W (by kernel_rfl) rfl trivial ⟨a6T,trivial⟩ fun x=>by kernel_rfl
theorem c3k:D5 P gl 97 s97:=dS f97 b9n c0P e97 c4S (by kernel_rfl) rfl trivial ⟨b4S,trivial⟩ fun x=>by kernel_rfl
theorem c2W:D5 P gl 71 s71:=dS f71 b8Y c0z e71 c4A (by kernel_rfl) rfl trivial ⟨c3k,trivial⟩ fun x=>by kernel_rfl
theorem a0V:D5 P gl 70 a6b:=dS f70 a4V a5F b7y b3c (by kernel_rfl) rfl trivial ⟨c2W,trivial⟩ fun x=>by kernel_rfl
theorem a8V:D5 P gl 69 b2x:=dS f69 a4T a5D b7w b3a (by kernel_rfl) rfl trivial ⟨a0V,trivial⟩ fun x=>by kernel_rfl
theorem c2J:D5 P gl 48 s48:=dS f48 b8D c0c e48 c4f (by kernel_rfl) rfl trivial ⟨WH,a6S,a6T,a0V,a8V,trivial⟩ fun x=>by kernel_rfl
theorem a0X:D5 P gl 78 a6d:=dS f78 a4Z a5J b7C b3g (by kernel_rfl) rfl trivial trivial fun x=>by kernel_rfl
theorem a6p:D5 P gl 100 a5P:=dS f100 a0i a0D b3J a7w (by kernel_rfl) rfl trivial ⟨a0X,trivial⟩ fun x=>by kernel_rfl
theorem a8Y:D5 P gl 77 b2A:=dS f77 a4Y a5I b7B b3f (by kernel_rfl) rfl trivial ⟨a6p,trivial⟩ fun x=>by kernel_rfl
theorem b2L:D5 P gl 51 s51:=dS f51 b8G c0f e51 c4i (by kernel_rfl) rfl trivial ⟨a0X,a8Y,trivial⟩ fun x=>by kernel_rfl
theorem c2w:D5 P gl 31 s31:=dS f31 b8p b9M e31 c3Q (by kernel_rfl) rfl trivial ⟨c2J,WG,a6Q,b2L,trivial⟩ fun x=>by kernel_rfl
theorem a0Y:D5 P gl 80 a6e:=dS f80 a5b a5L b7E b3i (by kernel_rfl) rfl trivial trivial fun x=>by kernel_rfl
theorem a6q:D5 P gl 101 a5Q:=dS f101 a0j a0E b3K a7x (by kernel_rfl) rfl trivial ⟨a0Y,trivial⟩ fun x=>by kernel_rfl
theorem a8Z:D5 P gl 79 b2B:=dS f79 a5a a5K b7D b3h (by kernel_rfl) rfl trivial ⟨a6q,trivial⟩ fun x=>by kernel_rfl
theorem WB:D5 P gl 102 Yr:=dS f102 a0k a0F b3L a7y (by kernel_rfl) rfl trivial trivial fun x=>by kernel_rfl
theorem a6y:D5 P gl 125 a5W:=dS f125 a0s a0N b3T a7G (by kernel_rfl) rfl trivial ⟨WB,trivial⟩ fun x=>by kernel_rfl
theorem a6r:D5 P gl 103 a5R:=dS f103 a0l a0G b3M a7z (by kernel_rfl) rfl trivial ⟨a6y,trivial⟩ fun x=>by kernel_rfl
theorem c2Z:D5 P gl 81 s81:=dS f81 b9c c0D e81 c4F (by kernel_rfl) rfl trivial ⟨WB,WG,a6r,WH,trivial⟩ fun x=>by kernel_rfl
theorem b4K:D5 P gl 104 c0S:=dS f104 a9t b0U c4V b5K (by kernel_rfl) rfl trivial trivial fun x=>by kernel_rfl
theorem c3a:D5 P gl 82 s82:=dS f82 b9d c0E e82 c4G (by kernel_rfl) rfl trivial ⟨b4K,trivial⟩ fun x=>by kernel_rfl
theorem WC:D5 P gl 106 Yt:=dS f106 a0n a0I b3O a7B (by kernel_rfl) rfl trivial trivial fun x=>by kernel_rfl
theorem a6z:D5 P gl 126 a5X:=dS f126 a0t a0O b3U a7H (by kernel_rfl) rfl trivial ⟨WC,trivial⟩ fun x=>by kernel_rfl
theorem a6s:D5 P gl 105 a5S:=dS f105 a0m a0H b3N a7A (by kernel_rfl) rfl trivial ⟨a6z,trivial⟩ fun x=>by kernel_rfl
theorem b4T:D5 Go.Proofs.Tryz.prog gl 127 c1c:=JX Go.Proofs.Tryz.strings_Contains_one
theorem b4L:D5 P gl 107 c0T:=dS f107 a9u b0V c4W b5L (by kernel_rfl) rfl trivial ⟨b4T,trivial⟩ fun x=>by kernel_rfl
theorem OM:D5 P gl 141 a2u:=dS f141 a9I b1j c5l b6a (by kernel_rfl) rfl trivial trivial fun x=>by kernel_rfl
theorem a6x:D5 P gl 120 b4r:=dS f120 a9B b1c c5d b5S (by kernel_rfl) rfl trivial ⟨OM,trivial⟩ fun x=>by kernel_rfl
theorem a6A:D5 P gl 150 b4s:=dS f150 a9P b1q c5t b6i (by kernel_rfl) rfl trivial trivial fun x=>by kernel_rfl
theorem b5m:D5 P gl 170 c1w:=dS f170 b0c b1D c5H b6v (by kernel_rfl) rfl trivial ⟨a6S,trivial⟩ fun x=>by kernel_rfl
theorem b5n:D5 P gl 171 c1x:=dS f171 b0d b1E c5I b6w (by kernel_rfl) rfl trivial trivial fun x=>by kernel_rfl
theorem a6D:D5 P gl 172 b4v:=dS f172 b0e b1F c5J b6x (by kernel_rfl) rfl trivial ⟨WH,trivial⟩ fun x=>by kernel_rfl
theorem a6E:D5 P gl 175 b4w:=dS f175 b0h b1I c5N b6A (by kernel_rfl) rfl trivial trivial fun x=>by kernel_rfl
theorem b5o:D5 P gl 173 c1y:=dS f173 b0f b1G c5K b6y (by kernel_rfl) rfl trivial ⟨a6E,WH,trivial⟩ fun x=>by kernel_rfl
theorem a6H:D5 P gl 191 b4z:=dS f191 b0r b1S c5Y b6K (by kernel_rfl) rfl trivial trivial fun x=>by kernel_rfl
theorem b5p:D5 P gl 174 c1z:=dS f174 b0g b1H c5M b6z (by kernel_rfl) rfl trivial ⟨a6D,a6H,trivial⟩ fun x=>by kernel_rfl
theorem b5v:D5 P gl 192 c1G:=dS f192 b0s b1T c5Z b6L (by kernel_rfl) rfl trivial trivial fun x=>by kernel_rfl
theorem b5q:D5 P gl 176 c1A:=dS f176 b0i b1J c5O b6B (by kernel_rfl) rfl trivial ⟨a6H,b5v,trivial⟩ fun x=>by kernel_rfl
theorem b5c:D5 P gl 151 c1l:=dS f151 a9Q b1r c5u b6j (by kernel_rfl) rfl trivial ⟨b5m,b5n,a6D,b5o,b5p,a6E,b5q,trivial⟩ fun x=>by kernel_rfl
theorem b4U:D5 P gl 128 c1d:=dS f128 a9F b1g c5i b5X (by kernel_rfl) rfl trivial ⟨a6x,a6A,OM,b5c,trivial⟩ fun x=>by kernel_rfl
theorem b4M:D5 P gl 108 c0U:=dS f108 a9v b0W c4X b5M (by kernel_rfl) rfl trivial ⟨b4U,trivial⟩ fun x=>by kernel_rfl
theorem c3b:D5 P gl 83 s83:=dS f83 b9e c0F e83 c4H (by kernel_rfl) rfl trivial ⟨WG,WC,a6s,b4L,b4M,trivial⟩ fun x=>by kernel_rfl
theorem b2R:D5 Go.Proofs.Tryz.prog gl 87 s87:=YL Go.Proofs.Tryz.slices_Sort_int Go.Proofs.Tryz.slices_Sort_int_none
theorem b2S:D5 Go.Proofs.Tryz.prog gl 88 s88:=Pq Go.Proofs.Tryz.slices_Compact_int Go.Proofs.Tryz.slices_Compact_int_empty
theorem c3e:D5 P gl 86 s86:=dS f86 b9h c0I e86 c4K (by kernel_rfl) rfl trivial ⟨b2R,b2S,trivial⟩ fun x=>by kernel_rfl
theorem b2N:D5 P gl 58 s58:=dS f58 b8N c0n e58 c4p (by kernel_rfl) rfl trivial ⟨c3e,trivial⟩ fun x=>by kernel_rfl
theorem c3d:D5 P gl 85 s85:=dS f85 b9g c0H e85 c4J (by kernel_rfl) rfl trivial ⟨b2N,trivial⟩ fun x=>by kernel_rfl
theorem b2O:D5 P gl 59 s59:=dS f59 b8O c0o e59 c4q (by kernel_rfl) rfl trivial ⟨b2R,b2S,trivial⟩ fun x=>by kernel_rfl
theorem a6R:D5 P gl 57 s57:=dS f57 b8M c0l e57 c4o (by kernel_rfl) rfl trivial ⟨c3d,b2O,trivial⟩ fun x=>by kernel_rfl
theorem b2M:D5 P gl 56 s56:=dS f56 b8L c0k e56 c4n (by kernel_rfl) rfl trivial trivial fun x=>by kernel_rfl
theorem a0U:D5 P gl 40 s40:=dS f40 b8v b9S e40 c3X (by kernel_rfl) rfl trivial ⟨a6R,b2M,trivial⟩ fun x=>by kernel_rfl
theorem b4N:D5 P gl 109 c0V:=dS f109 a9w b0X c4Y b5N (by kernel_rfl) rfl trivial trivial fun x=>by kernel_rfl
theorem c3c:D5 P gl 84 s84:=dS f84 b9f c0G e84 c4I (by kernel_rfl) rfl trivial ⟨b4N,trivial⟩ fun x=>by kernel_rfl
theorem c2K:D5 P gl 52 s52:=dS f52 b8H c0g e52 c4j (by kernel_rfl) rfl trivial ⟨a6Q,b2L,a0Y,a8Z,WG,c2Z,c3a,c3b,a0U,c3c,trivial⟩ fun x=>by kernel_rfl
theorem c2x:D5 P gl 32 s32:=dS f32 b8q b9N e32 c3R (by kernel_rfl) rfl trivial ⟨c2K,trivial⟩ fun x=>by kernel_rfl
theorem b2J:D5 P gl 18 s18:=dS f18 b8b b9z e18 c3B (by kernel_rfl) rfl trivial ⟨c2u,c2w,c2x,trivial⟩ fun x=>by kernel_rfl
theorem c2M:D5 P gl 53 s53:=dS f53 b8I c0h e53 c4k (by kernel_rfl) rfl trivial trivial fun x=>by kernel_rfl
theorem c2y:D5 P gl 34 s34:=dS f34 b8r b9O e34 c3S (by kernel_rfl) rfl trivial ⟨c2M,trivial⟩ fun x=>by kernel_rfl
theorem a8S:D5 P gl 33 b2u:=dS f33 a4Q a5A b7t b2X (by kernel_rfl) rfl trivial ⟨c2y,trivial⟩ fun x=>by kernel_rfl
theorem c2N:D5 P gl 54 s54:=dS f54 b8J c0i e54 c4l (by kernel_rfl) rfl trivial trivial fun x=>by kernel_rfl
theorem c2z:D5 P gl 36 s36:=dS f36 b8s b9P e36 c3T (by kernel_rfl) rfl trivial ⟨c2N,trivial⟩ fun x=>by kernel_rfl
theorem a8T:D5 P gl 35 b2v:=dS f35 a4R a5B b7u b2Y (by kernel_rfl) rfl trivial ⟨c2z,trivial⟩ fun x=>by kernel_rfl
theorem c2O:D5 P gl 55 s55:=dS f55 b8K c0j e55 c4m (by kernel_rfl) rfl trivial trivial fun x=>by kernel_rfl
theorem c2A:D5 P gl 38 s38:=dS f38 b8t b9Q e38 c3V (by kernel_rfl) rfl trivial ⟨c2O,trivial⟩ fun x=>by kernel_rfl
theorem a8U:D5 P gl 37 b2w:=dS f37 a4S a5C b7v b2Z (by kernel_rfl) rfl trivial ⟨c2A,trivial⟩ fun x=>by kernel_rfl
theorem c2h:D5 P gl 19 s19:=dS f19 b8c b9A e19 c3C (by kernel_rfl) rfl trivial ⟨a8S,a8T,a8U,trivial⟩ fun x=>by kernel_rfl
theorem c2P:D5 P gl 60 s60:=dS f60 b8P c0p e60 c4r (by kernel_rfl) rfl trivial ⟨a6S,trivial⟩ fun x=>by kernel_rfl
theorem c2Q:D5 P gl 61 s61:=dS f61 b8Q c0q e61 c4s (by kernel_rfl) rfl trivial trivial fun x=>by kernel_rfl
theorem c2F:D5 P gl 44 s44:=dS f44 b8z b9W e44 c4b (by kernel_rfl) rfl trivial ⟨c2P,c2Q,trivial⟩ fun x=>by kernel_rfl
theorem c2o:D5 P gl 25 s25:=dS f25 b8j b9G e25 c3J (by kernel_rfl) rfl trivial ⟨b2J,c2F,trivial⟩ fun x=>by kernel_rfl
theorem c2p:D5 P gl 26 s26:=dS f26 b8k b9H e26 c3K (by kernel_rfl) rfl trivial trivial fun x=>by kernel_rfl
theorem b2K:D5 P gl 41 s41:=dS f41 b8w b9T e41 c3Y (by kernel_rfl) rfl trivial ⟨a6R,b2M,b2N,b2O,trivial⟩ fun x=>by kernel_rfl
theorem c2G:D5 P gl 45 s45:=dS f45 b8A b9X e45 c4c (by kernel_rfl) rfl trivial ⟨a0U,trivial⟩ fun x=>by kernel_rfl
theorem c2r:D5 P gl 27 s27:=dS f27 b8l b9I e27 c3M (by kernel_rfl) rfl trivial ⟨a0U,b2K,c2G,trivial⟩ fun x=>by kernel_rfl
theorem a6P:D5 P gl 237 a6a:=dS f237 a0v a0Q b3W a7J (by kernel_rfl) rfl trivial trivial fun x=>by kernel_rfl
theorem a6U:D5 P gl 90 s90:=dS f90 b9i c0J e90 c4M (by kernel_rfl) rfl trivial trivial fun x=>by kernel_rfl
theorem a6O:D5 P gl 235 b4G:=dS f235 b0Q b2r c6x b7j (by kernel_rfl) rfl trivial trivial fun x=>by kernel_rfl
theorem YJ:D5 P gl 238 a8N:=dS f238 b0S b2t c6z b7l (by kernel_rfl) rfl trivial trivial fun x=>by kernel_rfl
theorem b7Q:uQ Go.Proofs.Tryz.prog 186 "Less" 235 (some 187):=Ep (by kernel_rfl)
theorem b4e:uQ Go.Proofs.Tryz.prog 186 "Swap" 238 (some 187):=Ep (by kernel_rfl)
theorem a6t:D5 P gl 112 a5T:=dS f112 a0o a0J b3P a7C (by kernel_rfl) rfl ⟨b7Q,b4e,trivial⟩ ⟨a6O,YJ,trivial⟩ fun x=>by kernel_rfl
theorem b7R:uQ Go.Proofs.Tryz.prog 186 "Len" 90 (some 187):=Ep (by kernel_rfl)
theorem c6B:uQ Go.Proofs.Tryz.prog 186 "Push" 237 none:=fun v w=>show(method _ 186 v "Push").run _ w= .ok (237,v) w by kernel_rfl
theorem a9a:D5 P gl 89 b2C:=dS f89 a5c a5M b7F b3j (by kernel_rfl) rfl ⟨b7R,c6B,trivial⟩ ⟨a6P,a6U,a6t,trivial⟩ fun x=>by kernel_rfl
theorem a6u:D5 P gl 113 a5U:=dS f113 a0p a0K b3Q a7D (by kernel_rfl) rfl ⟨b7Q,b4e,trivial⟩ ⟨a6O,YJ,trivial⟩ fun x=>by kernel_rfl
theorem b5H:D5 P gl 236 c1T:=dS f236 b0R b2s c6y b7k (by kernel_rfl) rfl trivial trivial fun x=>by kernel_rfl
theorem c6C:uQ Go.Proofs.Tryz.prog 186 "Pop" 236 none:=fun v w=>show(method _ 186 v "Pop").run _ w= .ok (236,v) w by kernel_rfl
theorem a9b:D5 P gl 91 b2D:=dS f91 a5d a5N b7G b3k (by kernel_rfl) rfl ⟨b7R,c6C,b4e,trivial⟩ ⟨a6U,YJ,a6u,b5H,trivial⟩ fun x=>by kernel_rfl
theorem c2R:D5 P gl 62 s62:=dS f62 b8R c0r e62 c4t (by kernel_rfl) rfl trivial ⟨a6R,a9a,a6U,a9b,trivial⟩ fun x=>by kernel_rfl
theorem YB:D5 P gl 116 a8F:=dS f116 a9x b0Y c4Z b5O (by kernel_rfl) rfl trivial ⟨a6T,trivial⟩ fun x=>by kernel_rfl
theorem WE:D5 P gl 115 Yu:=dS f115 a0r a0M b3S a7F (by kernel_rfl) rfl trivial ⟨YB,trivial⟩ fun x=>by kernel_rfl
theorem a6v:D5 P gl 114 a5V:=dS f114 a0q a0L b3R a7E (by kernel_rfl) rfl trivial ⟨WE,trivial⟩ fun x=>by kernel_rfl
theorem c3f:D5 P gl 92 s92:=dS f92 b9j c0K e92 c4N (by kernel_rfl) rfl trivial ⟨WE,a6v,trivial⟩ fun x=>by kernel_rfl
theorem c3h:D5 P gl 94 s94:=dS f94 b9l c0M e94 c4P (by kernel_rfl) rfl trivial ⟨a6x,trivial⟩ fun x=>by kernel_rfl
theorem b4Q:D5 P gl 121 c0Y:=dS f121 a9C b1d c5e b5T (by kernel_rfl) rfl trivial ⟨OM,trivial⟩ fun x=>by kernel_rfl
theorem IW:D5 P gl 148 Yv:=dS f148 a9O b1p c5s b6h (by kernel_rfl) rfl trivial trivial fun x=>by kernel_rfl
theorem b4X:D5 P gl 143 c1g:=dS f143 a9J b1k c5n b6c (by kernel_rfl) rfl trivial ⟨OM,a6A,trivial⟩ fun x=>by kernel_rfl
theorem b4Y:D5 P gl 144 c1h:=dS f144 a9K b1l c5o b6d (by kernel_rfl) rfl trivial trivial fun x=>by kernel_rfl
theorem b4Z:D5 P gl 145 c1i:=dS f145 a9L b1m c5p b6e (by kernel_rfl) rfl trivial ⟨IW,trivial⟩ fun x=>by kernel_rfl
theorem a6B:D5 P gl 159 b4t:=dS f159 a9S b1t c5w b6l (by kernel_rfl) rfl trivial ⟨IW,trivial⟩ fun x=>by kernel_rfl
theorem YC:D5 P gl 178 a8G:=dS f178 b0j b1K c5P b6C (by kernel_rfl) rfl trivial trivial fun x=>by kernel_rfl
theorem b5e:D5 P gl 160 c1n:=dS f160 a9T b1u c5x b6m (by kernel_rfl) rfl trivial ⟨YC,trivial⟩ fun x=>by kernel_rfl
theorem b5f:D5 P gl 161 c1o:=dS f161 a9U b1v c5y b6n (by kernel_rfl) rfl trivial ⟨YC,trivial⟩ fun x=>by kernel_rfl
theorem a6C:D5 P gl 163 b4u:=dS f163 a9W b1x c5A b6p (by kernel_rfl) rfl trivial trivial fun x=>by kernel_rfl
theorem b5g:D5 P gl 162 c1p:=dS f162 a9V b1w c5z b6o (by kernel_rfl) rfl trivial ⟨a6C,YC,trivial⟩ fun x=>by kernel_rfl
theorem b5a:D5 P gl 146 c1j:=dS f146 a9M b1n c5q b6f (by kernel_rfl) rfl trivial ⟨IW,a6B,b5e,b5f,b5g,a6C,trivial⟩ fun x=>by kernel_rfl
theorem b5h:D5 P gl 164 c1q:=dS f164 a9X b1y c5B b6q (by kernel_rfl) rfl trivial ⟨a6B,IW,trivial⟩ fun x=>by kernel_rfl
theorem WF:D5 P gl 179 Yw:=dS f179 a0u a0P b3V a7I (by kernel_rfl) rfl trivial ⟨YB,trivial⟩ fun x=>by kernel_rfl
theorem a8W:D5 P gl 69 b2y:=dS f69 a4U a5E b7x b3b (by kernel_rfl) rfl trivial ⟨WF,trivial⟩ fun x=>by kernel_rfl
theorem b5i:D5 P gl 165 c1r:=dS f165 a9Y b1z c5C b6r (by kernel_rfl) rfl trivial ⟨WF,a8W,trivial⟩ fun x=>by kernel_rfl
theorem TQ:D5 Go.Proofs.Tryz.prog gl 193 a5Y:=VC Go.Proofs.Tryz.bits_Mul64
theorem b4V:D5 P gl 139 c1e:=dS f139 a9G b1h c5j b5Y (by kernel_rfl) rfl trivial trivial fun x=>by kernel_rfl
theorem b5C:D5 P gl 207 c1O:=dS f207 b0E b2f c6l b6X (by kernel_rfl) rfl trivial ⟨b4V,trivial⟩ fun x=>by kernel_rfl
theorem YE:D5 P gl 194 a8I:=dS f194 b0t b1U c6a b6M (by kernel_rfl) rfl trivial ⟨b5C,trivial⟩ fun x=>by kernel_rfl
theorem b5r:D5 P gl 180 c1B:=dS f180 b0k b1L c5Q b6D (by kernel_rfl) rfl trivial ⟨TQ,YE,trivial⟩ fun x=>by kernel_rfl
theorem YH:D5 P gl 208 a8L:=dS f208 b0F b2g c6m b6Y (by kernel_rfl) rfl trivial trivial fun x=>by kernel_rfl
theorem YI:D5 P gl 209 a8M:=dS f209 b0G b2h c6n b6Z (by kernel_rfl) rfl trivial trivial fun x=>by kernel_rfl
theorem a6J:D5 P gl 210 b4B:=dS f210 b0H b2i c6o b7a (by kernel_rfl) rfl trivial trivial fun x=>by kernel_rfl
theorem a6K:D5 P gl 211 b4C:=dS f211 b0I b2j c6p b7b (by kernel_rfl) rfl trivial trivial fun x=>by kernel_rfl
theorem a6L:D5 P gl 212 b4D:=dS f212 b0J b2k c6q b7c (by kernel_rfl) rfl trivial trivial fun x=>by kernel_rfl
theorem TR:D5 P gl 195 a5Z:=dS f195 b0u b1V c6b b6N (by kernel_rfl) rfl trivial ⟨YH,YI,a6J,a6K,a6L,trivial⟩ fun x=>by kernel_rfl
theorem b5s:D5 P gl 181 c1C:=dS f181 b0l b1M c5R b6E (by kernel_rfl) rfl trivial ⟨TR,trivial⟩ fun x=>by kernel_rfl
theorem b5j:D5 P gl 166 c1s:=dS f166 a9Z b1A c5E b6s (by kernel_rfl) rfl trivial ⟨YB,b5r,b5s,trivial⟩ fun x=>by kernel_rfl
theorem a6F:D5 P gl 182 b4x:=dS f182 b0m b1N c5S b6F (by kernel_rfl) rfl trivial trivial fun x=>by kernel_rfl
theorem YF:D5 P gl 196 a8J:=dS f196 b0v b1W c6c b6O (by kernel_rfl) rfl trivial trivial fun x=>by kernel_rfl
theorem b5D:D5 P gl 213 c1P:=dS f213 b0K b2l c6r b7d (by kernel_rfl) rfl trivial trivial fun x=>by kernel_rfl
theorem a6I:D5 P gl 197 b4A:=dS f197 b0w b1X c6d b6P (by kernel_rfl) rfl trivial ⟨b5D,trivial⟩ fun x=>by kernel_rfl
theorem b5E:D5 P gl 214 c1Q:=dS f214 b0L b2m c6s b7e (by kernel_rfl) rfl trivial trivial fun x=>by kernel_rfl
theorem YG:D5 P gl 198 a8K:=dS f198 b0x b1Y c6e b6Q (by kernel_rfl) rfl trivial ⟨b5E,trivial⟩ fun x=>by kernel_rfl
theorem YD:D5 P gl 183 a8H:=dS f183 b0n b1O c5T b6G (by kernel_rfl) rfl trivial ⟨YF,a6I,YG,trivial⟩ fun x=>by kernel_rfl
theorem b5k:D5 P gl 167 c1t:=dS f167 b0a b1B c5F b6t (by kernel_rfl) rfl trivial ⟨a6F,YD,trivial⟩ fun x=>by kernel_rfl
theorem b5w:D5 P gl 199 c1H:=dS f199 b0y b1Z c6f b6R (by kernel_rfl) rfl trivial ⟨TQ,trivial⟩ fun x=>by kernel_rfl
theorem b5F:D5 P gl 215 c1R:=dS f215 b0M b2n c6t b7f (by kernel_rfl) rfl trivial ⟨YH,YI,a6J,TQ,YE,a6K,a6L,trivial⟩ fun x=>by kernel_rfl
theorem b5x:D5 P gl 200 c1I:=dS f200 b0z b2a c6g b6S (by kernel_rfl) rfl trivial ⟨b5F,trivial⟩ fun x=>by kernel_rfl
theorem a6M:D5 P gl 216 b4E:=dS f216 b0N b2o c6u b7g (by kernel_rfl) rfl trivial trivial fun x=>by kernel_rfl
theorem a6N:D5 P gl 217 b4F:=dS f217 b0O b2p c6v b7h (by kernel_rfl) rfl trivial trivial fun x=>by kernel_rfl
theorem b5y:D5 P gl 201 c1J:=dS f201 b0A b2b c6h b6T (by kernel_rfl) rfl trivial ⟨a6M,a6N,TR,trivial⟩ fun x=>by kernel_rfl
theorem b5z:D5 P gl 202 c1K:=dS f202 b0B b2c c6i b6U (by kernel_rfl) rfl trivial ⟨YH,YI,TR,trivial⟩ fun x=>by kernel_rfl
theorem b5G:D5 P gl 218 c1S:=dS f218 b0P b2q c6w b7i (by kernel_rfl) rfl trivial trivial fun x=>by kernel_rfl
theorem b5A:D5 P gl 203 c1M:=dS f203 b0C b2d c6j b6V (by kernel_rfl) rfl trivial ⟨a6M,a6N,TQ,YE,b5G,trivial⟩ fun x=>by kernel_rfl
theorem b5t:D5 P gl 184 c1E:=dS f184 b0o b1P c5V b6H (by kernel_rfl) rfl trivial ⟨b5w,b5x,b5y,b5z,TR,b5A,trivial⟩ fun x=>by kernel_rfl
theorem b5B:D5 P gl 204 c1N:=dS f204 b0D b2e c6k b6W (by kernel_rfl) rfl trivial ⟨YG,a6I,trivial⟩ fun x=>by kernel_rfl
theorem a6G:D5 P gl 185 b4y:=dS f185 b0p b1Q c5W b6I (by kernel_rfl) rfl trivial ⟨YF,YD,YG,b5B,trivial⟩ fun x=>by kernel_rfl
theorem b5u:D5 P gl 186 c1F:=dS f186 b0q b1R c5X b6J (by kernel_rfl) rfl trivial ⟨YF,YD,a6G,trivial⟩ fun x=>by kernel_rfl
theorem b5l:D5 P gl 168 c1u:=dS f168 b0b b1C c5G b6u (by kernel_rfl) rfl trivial ⟨b5t,a6F,a6G,b5u,trivial⟩ fun x=>by kernel_rfl
theorem b5b:D5 P gl 147 c1k:=dS f147 a9N b1o c5r b6g (by kernel_rfl) rfl trivial ⟨b5h,b5i,b5j,b5k,b5l,trivial⟩ fun x=>by kernel_rfl
theorem b4R:D5 P gl 123 c0Z:=dS f123 a9D b1e c5g b5V (by kernel_rfl) rfl trivial ⟨b4X,OM,b4Y,b4Z,b5a,b5b,IW,trivial⟩ fun x=>by kernel_rfl
theorem a9d:∀n,D5 P gl 142 ⟨a4P,[(true,(.dat (.prod (.int .i64) (.prod (.int .i64) (.int .i64))))),(false,(.dat (.int .i64)))],[],fun x=>(x8 n).1 x.1 x.2⟩∧D5 P gl 95 ⟨a2l,[(true,(.dat (.prod (.int .i64) (.prod (.int .i64) (.int .i64))))),(false,(.dat (.int .i64)))],[],fun x=>(x8 n).2.1 x.1 x.2⟩∧D5 P gl 122 ⟨a4O,[(true,(.dat (.prod (.int .i64) (.prod (.int .i64) (.int .i64))))),(false,(.dat (.int .i64)))],[],fun x=>(x8 n).2.2 x.1 x.2.1 x.2.2⟩:=by
 intro n
 induction n with
 | zero=>exact⟨(fun w ok O vals x r _ _ _ _ _ h=>by cases h),(fun w ok O vals x r _ _ _ _ _ h=>by cases h),(fun w ok O vals x r _ _ _ _ _ h=>by cases h)⟩
 | succ n ih=>exact⟨dS f142 a4P b9v (c5m (x8 n).1 (x8 n).2.1 (x8 n).2.2) b6b (by kernel_rfl) rfl trivial ⟨ih.2.1,IW,trivial⟩ fun x=>by kernel_rfl,
  dS f95 a2l c0N (e95 (x8 n).1 (x8 n).2.1 (x8 n).2.2) c4Q (by kernel_rfl) rfl trivial ⟨b4Q,ih.2.2,ih.2.1,b4R,trivial⟩ fun x=>by kernel_rfl,
  dS f122 a4O b9s (c5f (x8 n).1 (x8 n).2.1 (x8 n).2.2) b5U (by kernel_rfl) rfl trivial ⟨ih.1,ih.2.1,trivial⟩ fun x=>by kernel_rfl⟩
theorem c3i:D5 P gl 95 s95:=(a9d dN).2.1
theorem b2P:D5 P gl 64 s64:=dS f64 b8T c0t e64 c4v (by kernel_rfl) rfl trivial ⟨c3h,c3i,trivial⟩ fun x=>by kernel_rfl
theorem b4O:D5 P gl 117 c0W:=dS f117 a9y b0Z c5a b5P (by kernel_rfl) rfl trivial trivial fun x=>by kernel_rfl
theorem b5d:D5 P gl 158 c1m:=dS f158 a9R b1s c5v b6k (by kernel_rfl) rfl trivial trivial fun x=>by kernel_rfl
theorem b4W:D5 P gl 140 c1f:=dS f140 a9H b1i c5k b5Z (by kernel_rfl) rfl trivial ⟨b5d,trivial⟩ fun x=>by kernel_rfl
theorem a6w:D5 P gl 119 b4q:=dS f119 a9A b1b c5c b5R (by kernel_rfl) rfl trivial ⟨b4W,trivial⟩ fun x=>by kernel_rfl
theorem b4P:D5 P gl 118 c0X:=dS f118 a9z b1a c5b b5Q (by kernel_rfl) rfl trivial ⟨a6w,trivial⟩ fun x=>by kernel_rfl
theorem c3g:D5 P gl 93 s93:=dS f93 b9k c0L e93 c4O (by kernel_rfl) rfl trivial ⟨b4O,b4P,a6w,trivial⟩ fun x=>by kernel_rfl
theorem c2S:D5 P gl 63 s63:=dS f63 b8S c0s e63 c4u (by kernel_rfl) rfl trivial ⟨c3f,b2P,c3g,trivial⟩ fun x=>by kernel_rfl
theorem c2H:D5 P gl 46 s46:=dS f46 b8B b9Y e46 c4d (by kernel_rfl) rfl trivial ⟨c2R,c2S,b2P,trivial⟩ fun x=>by kernel_rfl
theorem c2s:D5 P gl 28 s28:=dS f28 b8m b9J e28 c3N (by kernel_rfl) rfl trivial ⟨c2H,trivial⟩ fun x=>by kernel_rfl
theorem c2c:D5 P gl 13 s13:=dS f13 b7W b9t e13 c3w (by kernel_rfl) rfl trivial ⟨c2o,c2p,c2r,c2s,trivial⟩ fun x=>by kernel_rfl
theorem c2i:D5 P gl 20 s20:=dS f20 b8e b9B e20 c3E (by kernel_rfl) rfl trivial ⟨c2c,trivial⟩ fun x=>by kernel_rfl
theorem c2B:D5 P gl 39 s39:=dS f39 b8u b9R e39 c3W (by kernel_rfl) rfl trivial trivial fun x=>by kernel_rfl
theorem c2j:D5 P gl 21 s21:=dS f21 b8f b9C e21 c3F (by kernel_rfl) rfl trivial ⟨a0U,c2B,b2K,trivial⟩ fun x=>by kernel_rfl
theorem c2k:D5 P gl 22 s22:=dS f22 b8g b9D e22 c3G (by kernel_rfl) rfl trivial trivial fun x=>by kernel_rfl
theorem c2l:D5 P gl 23 s23:=dS f23 b8h b9E e23 c3H (by kernel_rfl) rfl trivial trivial fun x=>by kernel_rfl
theorem c2C:D5 P gl 42 s42:=dS f42 b8x b9U e42 c3Z (by kernel_rfl) rfl trivial trivial fun x=>by kernel_rfl
theorem c2E:D5 P gl 43 s43:=dS f43 b8y b9V e43 c4a (by kernel_rfl) rfl trivial trivial fun x=>by kernel_rfl
theorem c2n:D5 P gl 24 s24:=dS f24 b8i b9F e24 c3I (by kernel_rfl) rfl trivial ⟨c2C,c2E,trivial⟩ fun x=>by kernel_rfl
theorem b2I:D5 P gl 12 s12:=dS f12 b7U b9r e12 c3v (by kernel_rfl) rfl trivial ⟨c2k,c2l,c2n,trivial⟩ fun x=>by kernel_rfl
theorem b2H:D5 P gl 11 s11:=dS f11 b7T b9q e11 c3u (by kernel_rfl) rfl trivial ⟨b2J,c2h,c2i,c2j,b2I,trivial⟩ fun x=>by kernel_rfl
theorem c2e:D5 P gl 15 s15:=dS f15 b7Y b9w e15 c3y (by kernel_rfl) rfl trivial trivial fun x=>by kernel_rfl
theorem c2V:D5 P gl 7 s7:=dS f7 ps7 rt7 e7 an7 (by kernel_rfl) rfl trivial trivial fun x=>by kernel_rfl
theorem c6H:D5 P gl 9 s9:=dS f9 ps9 rt9 e9 an9 (by kernel_rfl) rfl trivial ⟨c2d,b2H,c2e,c2V,trivial⟩ fun x=>by kernel_rfl
theorem c6G:D5 P gl 4 s4:=dS f4 ps4 rt4 e4 an4 (by kernel_rfl) rfl trivial ⟨c2b,c6H,b2H,c2V,b2I,trivial⟩ fun x=>by kernel_rfl
end Gt
