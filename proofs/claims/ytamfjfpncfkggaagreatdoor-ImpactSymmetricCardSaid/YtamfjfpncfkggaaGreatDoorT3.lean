import Derived.Test.YtamfjfpncfkggaaGreatDoorT2
import Derived.Test.YtamfjfpncfkggaaGreatDoorProg
import Derived.Test.YtamfjfpncfkggaaGreatDoorShelf
set_option linter.all false
open Go Go.GP Go.Proofs.Tryz
namespace Gt
set_option maxRecDepth 100000
noncomputable abbrev P:Program:=Go.Proofs.Tryz.prog
theorem c0L:UB P tt=true:=by kernel_rfl
theorem b1E:∀t sh,V8 eqs t=some sh→AU P t sh:=RD (by kernel_rfl)
theorem dS {f:FuncId} (fn:Func) (ps:List MG) (rt:Ret) (E:Env) (an:Ann) {F:ax ps→Option rt.den} (h:(P.funcs[f]?,fn.body,fn.ntmps,fn.results.toList,Nat.ble (64*E.nt) 999936,RX P E.fs)=(some fn,some (a0V fn),E.nt,rt.rs.map (·.1),true,true)) (ht:(E.tt,E.eqs)=(tt,eqs)) (hm:WS P E.ms) (hs:a5a P E.gl E.fs) (hF:∀x,b1p E ps rt (a0V fn) an x=F x):
  D5 P E.gl f ⟨ps,rt.rs.map (·.2),rt.outs.map (·.2),F⟩:=by
 injection h with h1 h;injection h with h2 h;injection h with h3 h;injection h with h4 h;injection h with h5 h6
 injection ht with t1 t2
 exact UT h1 h2 h3 h4 (a1k h5 (t1▸c0L) (t2▸b1E) h6 hm hs) fun x r h=>(hF x).trans h
theorem b3r:D5 P gl 7 s7:=dS f7 ps7 rt7 e7 an7 (by kernel_rfl) rfl trivial trivial fun x=>by kernel_rfl
theorem c4l:D5 P gl 8 s8:=dS f8 ps8 rt8 e8 an8 (by kernel_rfl) rfl trivial trivial fun x=>by kernel_rfl
theorem b9E:D5 P gl 14 s14:=dS f14 b5K b7h e14 c0U (by kernel_rfl) rfl trivial trivial fun x=>by kernel_rfl
theorem b0z:D5 P gl 72 s72:=dS f72 b6M b8j e72 c2a (by kernel_rfl) rfl trivial trivial fun x=>by kernel_rfl
theorem c0J:D5 P gl 98 s98:=dS f98 b7b b8z e98 c2s (by kernel_rfl) rfl trivial trivial fun x=>by kernel_rfl
theorem c0u:D5 P gl 73 s73:=dS f73 b6N b8k e73 c2b (by kernel_rfl) rfl trivial ⟨b0z,c0J,trivial⟩ fun x=>by kernel_rfl
theorem c0w:D5 P gl 74 s74:=dS f74 b6O b8l e74 c2c (by kernel_rfl) rfl trivial trivial fun x=>by kernel_rfl
theorem Uo:D5 P gl 49 s49:=dS f49 b6r b7O e49 c1C (by kernel_rfl) rfl trivial ⟨b0z,c0u,c0w,trivial⟩ fun x=>by kernel_rfl
theorem YL:D5 P gl 76 a3J:=dS f76 a2J a3o b5o b0N (by kernel_rfl) rfl trivial trivial fun x=>by kernel_rfl
theorem a6M:D5 P gl 99 b0n:=dS f99 a2Q a3v b5v b0U (by kernel_rfl) rfl trivial ⟨YL,trivial⟩ fun x=>by kernel_rfl
theorem a6H:D5 P gl 75 b0i:=dS f75 a2I a3n b5n b0M (by kernel_rfl) rfl trivial ⟨a6M,trivial⟩ fun x=>by kernel_rfl
theorem a4w:D5 P gl 50 s50:=dS f50 b6s b7P e50 c1E (by kernel_rfl) rfl trivial ⟨YL,a6H,trivial⟩ fun x=>by kernel_rfl
theorem c0H:D5 P gl 96 s96:=dS f96 b6Z b8x e96 c2p (by kernel_rfl) rfl trivial trivial fun x=>by kernel_rfl
theorem c0s:D5 P gl 65 s65:=dS f65 b6H b8e e65 c1V (by kernel_rfl) rfl trivial ⟨c0H,trivial⟩ fun x=>by kernel_rfl
theorem c0h:D5 P gl 47 s47:=dS f47 b6p b7M e47 c1A (by kernel_rfl) rfl trivial ⟨Uo,a4w,c0s,trivial⟩ fun x=>by kernel_rfl
theorem b9T:D5 P gl 30 s30:=dS f30 b6b b7y e30 c1l (by kernel_rfl) rfl trivial ⟨c0h,trivial⟩ fun x=>by kernel_rfl
theorem Ur:D5 P gl 66 s66:=dS f66 b6I b8f e66 c1W (by kernel_rfl) rfl trivial trivial fun x=>by kernel_rfl
theorem a4y:D5 P gl 67 s67:=dS f67 b6J b8g e67 c1X (by kernel_rfl) rfl trivial ⟨Ur,trivial⟩ fun x=>by kernel_rfl
theorem a4z:D5 P gl 68 s68:=dS f68 b6K b8h e68 c1Y (by kernel_rfl) rfl trivial trivial fun x=>by kernel_rfl
theorem b2B:D5 P gl 124 b8I:=dS f124 a7n a8O c2H b3J (by kernel_rfl) rfl trivial ⟨a4z,trivial⟩ fun x=>by kernel_rfl
theorem c0I:D5 P gl 97 s97:=dS f97 b7a b8y e97 c2r (by kernel_rfl) rfl trivial ⟨b2B,trivial⟩ fun x=>by kernel_rfl
theorem c0t:D5 P gl 71 s71:=dS f71 b6L b8i e71 c1Z (by kernel_rfl) rfl trivial ⟨c0I,trivial⟩ fun x=>by kernel_rfl
theorem YK:D5 P gl 70 a3I:=dS f70 a2H a3m b5m b0L (by kernel_rfl) rfl trivial ⟨c0t,trivial⟩ fun x=>by kernel_rfl
theorem a6F:D5 P gl 69 b0g:=dS f69 a2F a3k b5k b0J (by kernel_rfl) rfl trivial ⟨YK,trivial⟩ fun x=>by kernel_rfl
theorem c0i:D5 P gl 48 s48:=dS f48 b6q b7N e48 c1B (by kernel_rfl) rfl trivial ⟨Ur,a4y,a4z,YK,a6F,trivial⟩ fun x=>by kernel_rfl
theorem YM:D5 P gl 78 a3K:=dS f78 a2L a3q b5q b0P (by kernel_rfl) rfl trivial trivial fun x=>by kernel_rfl
theorem a3U:D5 P gl 100 a3w:=dS f100 XW Yr b1q a5e (by kernel_rfl) rfl trivial ⟨YM,trivial⟩ fun x=>by kernel_rfl
theorem a6I:D5 P gl 77 b0j:=dS f77 a2K a3p b5p b0O (by kernel_rfl) rfl trivial ⟨a3U,trivial⟩ fun x=>by kernel_rfl
theorem b0u:D5 P gl 51 s51:=dS f51 b6t b7Q e51 c1F (by kernel_rfl) rfl trivial ⟨YM,a6I,trivial⟩ fun x=>by kernel_rfl
theorem b9U:D5 P gl 31 s31:=dS f31 b6c b7z e31 c1m (by kernel_rfl) rfl trivial ⟨c0i,Uo,a4w,b0u,trivial⟩ fun x=>by kernel_rfl
theorem YN:D5 P gl 80 a3L:=dS f80 a2N a3s b5s b0R (by kernel_rfl) rfl trivial trivial fun x=>by kernel_rfl
theorem a3V:D5 P gl 101 a3x:=dS f101 XX Yt b1r a5f (by kernel_rfl) rfl trivial ⟨YN,trivial⟩ fun x=>by kernel_rfl
theorem a6J:D5 P gl 79 b0k:=dS f79 a2M a3r b5r b0Q (by kernel_rfl) rfl trivial ⟨a3V,trivial⟩ fun x=>by kernel_rfl
theorem Uk:D5 P gl 102 VZ:=dS f102 XY Yu b1s a5g (by kernel_rfl) rfl trivial trivial fun x=>by kernel_rfl
theorem a4e:D5 P gl 125 a3D:=dS f125 Yg YC b1A a5o (by kernel_rfl) rfl trivial ⟨Uk,trivial⟩ fun x=>by kernel_rfl
theorem a3W:D5 P gl 103 a3y:=dS f103 XZ Yv b1t a5h (by kernel_rfl) rfl trivial ⟨a4e,trivial⟩ fun x=>by kernel_rfl
theorem c0x:D5 P gl 81 s81:=dS f81 b6P b8m e81 c2d (by kernel_rfl) rfl trivial ⟨Uk,Uo,a3W,Ur,trivial⟩ fun x=>by kernel_rfl
theorem b2t:D5 P gl 104 b8A:=dS f104 a7c a8D c2t b3x (by kernel_rfl) rfl trivial trivial fun x=>by kernel_rfl
theorem c0y:D5 P gl 82 s82:=dS f82 b6Q b8n e82 c2e (by kernel_rfl) rfl trivial ⟨b2t,trivial⟩ fun x=>by kernel_rfl
theorem Ul:D5 P gl 106 We:=dS f106 Yb Yx b1v a5j (by kernel_rfl) rfl trivial trivial fun x=>by kernel_rfl
theorem a4f:D5 P gl 126 a3E:=dS f126 Yh YD b1B a5p (by kernel_rfl) rfl trivial ⟨Ul,trivial⟩ fun x=>by kernel_rfl
theorem a3X:D5 P gl 105 a3z:=dS f105 Ya Yw b1u a5i (by kernel_rfl) rfl trivial ⟨a4f,trivial⟩ fun x=>by kernel_rfl
theorem b2C:D5 Go.Proofs.Tryz.prog gl 127 b8J:=IC Go.Proofs.Tryz.strings_Contains_one
theorem b2u:D5 P gl 107 b8B:=dS f107 a7d a8E c2u b3y (by kernel_rfl) rfl trivial ⟨b2C,trivial⟩ fun x=>by kernel_rfl
theorem LZ:D5 P gl 141 a0n:=dS f141 a7r a8S c2M b3N (by kernel_rfl) rfl trivial trivial fun x=>by kernel_rfl
theorem a4d:D5 P gl 120 b1Y:=dS f120 a7k a8L c2C b3F (by kernel_rfl) rfl trivial ⟨LZ,trivial⟩ fun x=>by kernel_rfl
theorem a4g:D5 P gl 150 b1Z:=dS f150 a7y a8Z c2V b3V (by kernel_rfl) rfl trivial trivial fun x=>by kernel_rfl
theorem b2V:D5 P gl 170 b9c:=dS f170 a7L a9m c3i b4i (by kernel_rfl) rfl trivial ⟨a4y,trivial⟩ fun x=>by kernel_rfl
theorem b2W:D5 P gl 171 b9d:=dS f171 a7M a9n c3j b4j (by kernel_rfl) rfl trivial trivial fun x=>by kernel_rfl
theorem a4j:D5 P gl 172 b2c:=dS f172 a7N a9o c3k b4k (by kernel_rfl) rfl trivial ⟨Ur,trivial⟩ fun x=>by kernel_rfl
theorem a4k:D5 P gl 175 b2d:=dS f175 a7Q a9r c3o b4n (by kernel_rfl) rfl trivial trivial fun x=>by kernel_rfl
theorem b2X:D5 P gl 173 b9e:=dS f173 a7O a9p c3l b4l (by kernel_rfl) rfl trivial ⟨a4k,Ur,trivial⟩ fun x=>by kernel_rfl
theorem a4n:D5 P gl 191 b2g:=dS f191 a8a a9B c3y b4x (by kernel_rfl) rfl trivial trivial fun x=>by kernel_rfl
theorem b2Y:D5 P gl 174 b9f:=dS f174 a7P a9q c3n b4m (by kernel_rfl) rfl trivial ⟨a4j,a4n,trivial⟩ fun x=>by kernel_rfl
theorem b3e:D5 P gl 192 b9l:=dS f192 a8b a9C c3z b4y (by kernel_rfl) rfl trivial trivial fun x=>by kernel_rfl
theorem b2Z:D5 P gl 176 b9g:=dS f176 a7R a9s c3p b4o (by kernel_rfl) rfl trivial ⟨a4n,b3e,trivial⟩ fun x=>by kernel_rfl
theorem b2L:D5 P gl 151 b8S:=dS f151 a7z a9a c2W b3W (by kernel_rfl) rfl trivial ⟨b2V,b2W,a4j,b2X,b2Y,a4k,b2Z,trivial⟩ fun x=>by kernel_rfl
theorem b2D:D5 P gl 128 b8K:=dS f128 a7o a8P c2I b3K (by kernel_rfl) rfl trivial ⟨a4d,a4g,LZ,b2L,trivial⟩ fun x=>by kernel_rfl
theorem b2v:D5 P gl 108 b8C:=dS f108 a7e a8F c2w b3z (by kernel_rfl) rfl trivial ⟨b2D,trivial⟩ fun x=>by kernel_rfl
theorem c0z:D5 P gl 83 s83:=dS f83 b6R b8o e83 c2f (by kernel_rfl) rfl trivial ⟨Uo,Ul,a3X,b2u,b2v,trivial⟩ fun x=>by kernel_rfl
theorem b0A:D5 Go.Proofs.Tryz.prog gl 87 s87:=WE Go.Proofs.Tryz.slices_Sort_int Go.Proofs.Tryz.slices_Sort_int_none
theorem b0B:D5 Go.Proofs.Tryz.prog gl 88 s88:=MR Go.Proofs.Tryz.slices_Compact_int Go.Proofs.Tryz.slices_Compact_int_empty
theorem c0C:D5 P gl 86 s86:=dS f86 b6U b8r e86 c2i (by kernel_rfl) rfl trivial ⟨b0A,b0B,trivial⟩ fun x=>by kernel_rfl
theorem b0w:D5 P gl 58 s58:=dS f58 b6A b7X e58 c1N (by kernel_rfl) rfl trivial ⟨c0C,trivial⟩ fun x=>by kernel_rfl
theorem c0B:D5 P gl 85 s85:=dS f85 b6T b8q e85 c2h (by kernel_rfl) rfl trivial ⟨b0w,trivial⟩ fun x=>by kernel_rfl
theorem b0x:D5 P gl 59 s59:=dS f59 b6B b7Y e59 c1O (by kernel_rfl) rfl trivial ⟨b0A,b0B,trivial⟩ fun x=>by kernel_rfl
theorem a4x:D5 P gl 57 s57:=dS f57 b6z b7W e57 c1M (by kernel_rfl) rfl trivial ⟨c0B,b0x,trivial⟩ fun x=>by kernel_rfl
theorem b0v:D5 P gl 56 s56:=dS f56 b6y b7V e56 c1K (by kernel_rfl) rfl trivial trivial fun x=>by kernel_rfl
theorem YJ:D5 P gl 40 s40:=dS f40 b6i b7F e40 c1s (by kernel_rfl) rfl trivial ⟨a4x,b0v,trivial⟩ fun x=>by kernel_rfl
theorem b2w:D5 P gl 109 b8D:=dS f109 a7f a8G c2x b3A (by kernel_rfl) rfl trivial trivial fun x=>by kernel_rfl
theorem c0A:D5 P gl 84 s84:=dS f84 b6S b8p e84 c2g (by kernel_rfl) rfl trivial ⟨b2w,trivial⟩ fun x=>by kernel_rfl
theorem c0j:D5 P gl 52 s52:=dS f52 b6u b7R e52 c1G (by kernel_rfl) rfl trivial ⟨a4w,b0u,YN,a6J,Uo,c0x,c0y,c0z,YJ,c0A,trivial⟩ fun x=>by kernel_rfl
theorem b9V:D5 P gl 32 s32:=dS f32 b6d b7A e32 c1n (by kernel_rfl) rfl trivial ⟨c0j,trivial⟩ fun x=>by kernel_rfl
theorem b0s:D5 P gl 18 s18:=dS f18 b5O b7m e18 c0Y (by kernel_rfl) rfl trivial ⟨b9T,b9U,b9V,trivial⟩ fun x=>by kernel_rfl
theorem c0k:D5 P gl 53 s53:=dS f53 b6v b7S e53 c1H (by kernel_rfl) rfl trivial trivial fun x=>by kernel_rfl
theorem b9W:D5 P gl 34 s34:=dS f34 b6e b7B e34 c1o (by kernel_rfl) rfl trivial ⟨c0k,trivial⟩ fun x=>by kernel_rfl
theorem a6C:D5 P gl 33 b0d:=dS f33 a2C a3h b5h b0G (by kernel_rfl) rfl trivial ⟨b9W,trivial⟩ fun x=>by kernel_rfl
theorem c0l:D5 P gl 54 s54:=dS f54 b6w b7T e54 c1I (by kernel_rfl) rfl trivial trivial fun x=>by kernel_rfl
theorem b9X:D5 P gl 36 s36:=dS f36 b6f b7C e36 c1p (by kernel_rfl) rfl trivial ⟨c0l,trivial⟩ fun x=>by kernel_rfl
theorem a6D:D5 P gl 35 b0e:=dS f35 a2D a3i b5i b0H (by kernel_rfl) rfl trivial ⟨b9X,trivial⟩ fun x=>by kernel_rfl
theorem c0n:D5 P gl 55 s55:=dS f55 b6x b7U e55 c1J (by kernel_rfl) rfl trivial trivial fun x=>by kernel_rfl
theorem b9Y:D5 P gl 38 s38:=dS f38 b6g b7D e38 c1q (by kernel_rfl) rfl trivial ⟨c0n,trivial⟩ fun x=>by kernel_rfl
theorem a6E:D5 P gl 37 b0f:=dS f37 a2E a3j b5j b0I (by kernel_rfl) rfl trivial ⟨b9Y,trivial⟩ fun x=>by kernel_rfl
theorem b9I:D5 P gl 19 s19:=dS f19 b5P b7n e19 c0Z (by kernel_rfl) rfl trivial ⟨a6C,a6D,a6E,trivial⟩ fun x=>by kernel_rfl
theorem c0o:D5 P gl 60 s60:=dS f60 b6C b7Z e60 c1P (by kernel_rfl) rfl trivial ⟨a4y,trivial⟩ fun x=>by kernel_rfl
theorem c0p:D5 P gl 61 s61:=dS f61 b6D b8a e61 c1Q (by kernel_rfl) rfl trivial trivial fun x=>by kernel_rfl
theorem c0e:D5 P gl 44 s44:=dS f44 b6m b7J e44 c1x (by kernel_rfl) rfl trivial ⟨c0o,c0p,trivial⟩ fun x=>by kernel_rfl
theorem b9O:D5 P gl 25 s25:=dS f25 b5W b7t e25 c1g (by kernel_rfl) rfl trivial ⟨b0s,c0e,trivial⟩ fun x=>by kernel_rfl
theorem b9P:D5 P gl 26 s26:=dS f26 b5X b7u e26 c1h (by kernel_rfl) rfl trivial trivial fun x=>by kernel_rfl
theorem b0t:D5 P gl 41 s41:=dS f41 b6j b7G e41 c1t (by kernel_rfl) rfl trivial ⟨a4x,b0v,b0w,b0x,trivial⟩ fun x=>by kernel_rfl
theorem c0f:D5 P gl 45 s45:=dS f45 b6n b7K e45 c1y (by kernel_rfl) rfl trivial ⟨YJ,trivial⟩ fun x=>by kernel_rfl
theorem b9Q:D5 P gl 27 s27:=dS f27 b5Y b7v e27 c1i (by kernel_rfl) rfl trivial ⟨YJ,b0t,c0f,trivial⟩ fun x=>by kernel_rfl
theorem a4v:D5 P gl 237 a3H:=dS f237 Yj YF b1D a5r (by kernel_rfl) rfl trivial trivial fun x=>by kernel_rfl
theorem a4A:D5 P gl 90 s90:=dS f90 b6V b8s e90 c2j (by kernel_rfl) rfl trivial trivial fun x=>by kernel_rfl
theorem a4u:D5 P gl 235 b2n:=dS f235 a8z b0a c4a b4W (by kernel_rfl) rfl trivial trivial fun x=>by kernel_rfl
theorem WC:D5 P gl 238 a6w:=dS f238 a8B b0c c4c b4Y (by kernel_rfl) rfl trivial trivial fun x=>by kernel_rfl
theorem b5C:uo Go.Proofs.Tryz.prog 186 "Less" 235 (some 187):=Dc (by kernel_rfl)
theorem b1M:uo Go.Proofs.Tryz.prog 186 "Swap" 238 (some 187):=Dc (by kernel_rfl)
theorem a3Z:D5 P gl 112 a3A:=dS f112 Yc Yy b1w a5k (by kernel_rfl) rfl ⟨b5C,b1M,trivial⟩ ⟨a4u,WC,trivial⟩ fun x=>by kernel_rfl
theorem b5D:uo Go.Proofs.Tryz.prog 186 "Len" 90 (some 187):=Dc (by kernel_rfl)
theorem c4d:uo Go.Proofs.Tryz.prog 186 "Push" 237 none:=fun v w=>show(method _ 186 v "Push").run _ w= .ok (237,v) w by kernel_rfl
theorem a6K:D5 P gl 89 b0l:=dS f89 a2O a3t b5t b0S (by kernel_rfl) rfl ⟨b5D,c4d,trivial⟩ ⟨a4v,a4A,a3Z,trivial⟩ fun x=>by kernel_rfl
theorem a4a:D5 P gl 113 a3B:=dS f113 Yd Yz b1x a5l (by kernel_rfl) rfl ⟨b5C,b1M,trivial⟩ ⟨a4u,WC,trivial⟩ fun x=>by kernel_rfl
theorem b3q:D5 P gl 236 b9x:=dS f236 a8A b0b c4b b4X (by kernel_rfl) rfl trivial trivial fun x=>by kernel_rfl
theorem c4e:uo Go.Proofs.Tryz.prog 186 "Pop" 236 none:=fun v w=>show(method _ 186 v "Pop").run _ w= .ok (236,v) w by kernel_rfl
theorem a6L:D5 P gl 91 b0m:=dS f91 a2P a3u b5u b0T (by kernel_rfl) rfl ⟨b5D,c4e,b1M,trivial⟩ ⟨a4A,WC,a4a,b3q,trivial⟩ fun x=>by kernel_rfl
theorem c0q:D5 P gl 62 s62:=dS f62 b6E b8b e62 c1R (by kernel_rfl) rfl trivial ⟨a4x,a6K,a4A,a6L,trivial⟩ fun x=>by kernel_rfl
theorem Wq:D5 P gl 116 a6o:=dS f116 a7g a8H c2y b3B (by kernel_rfl) rfl trivial ⟨a4z,trivial⟩ fun x=>by kernel_rfl
theorem Um:D5 P gl 115 Wh:=dS f115 Yf YB b1z a5n (by kernel_rfl) rfl trivial ⟨Wq,trivial⟩ fun x=>by kernel_rfl
theorem a4b:D5 P gl 114 a3C:=dS f114 Ye YA b1y a5m (by kernel_rfl) rfl trivial ⟨Um,trivial⟩ fun x=>by kernel_rfl
theorem c0D:D5 P gl 92 s92:=dS f92 b6W b8t e92 c2k (by kernel_rfl) rfl trivial ⟨Um,a4b,trivial⟩ fun x=>by kernel_rfl
theorem c0F:D5 P gl 94 s94:=dS f94 b6Y b8v e94 c2n (by kernel_rfl) rfl trivial ⟨a4d,trivial⟩ fun x=>by kernel_rfl
theorem b2z:D5 P gl 121 b8G:=dS f121 a7l a8M c2E b3G (by kernel_rfl) rfl trivial ⟨LZ,trivial⟩ fun x=>by kernel_rfl
theorem GK:D5 P gl 148 Wi:=dS f148 a7x a8Y c2T b3U (by kernel_rfl) rfl trivial trivial fun x=>by kernel_rfl
theorem b2G:D5 P gl 143 b8N:=dS f143 a7s a8T c2O b3P (by kernel_rfl) rfl trivial ⟨LZ,a4g,trivial⟩ fun x=>by kernel_rfl
theorem b2H:D5 P gl 144 b8O:=dS f144 a7t a8U c2P b3Q (by kernel_rfl) rfl trivial trivial fun x=>by kernel_rfl
theorem b2I:D5 P gl 145 b8P:=dS f145 a7u a8V c2Q b3R (by kernel_rfl) rfl trivial ⟨GK,trivial⟩ fun x=>by kernel_rfl
theorem a4h:D5 P gl 159 b2a:=dS f159 a7B a9c c2Y b3Y (by kernel_rfl) rfl trivial ⟨GK,trivial⟩ fun x=>by kernel_rfl
theorem Ws:D5 P gl 178 a6p:=dS f178 a7S a9t c3q b4p (by kernel_rfl) rfl trivial trivial fun x=>by kernel_rfl
theorem b2N:D5 P gl 160 b8U:=dS f160 a7C a9d c2Z b3Z (by kernel_rfl) rfl trivial ⟨Ws,trivial⟩ fun x=>by kernel_rfl
theorem b2O:D5 P gl 161 b8V:=dS f161 a7D a9e c3a b4a (by kernel_rfl) rfl trivial ⟨Ws,trivial⟩ fun x=>by kernel_rfl
theorem a4i:D5 P gl 163 b2b:=dS f163 a7F a9g c3c b4c (by kernel_rfl) rfl trivial trivial fun x=>by kernel_rfl
theorem b2P:D5 P gl 162 b8W:=dS f162 a7E a9f c3b b4b (by kernel_rfl) rfl trivial ⟨a4i,Ws,trivial⟩ fun x=>by kernel_rfl
theorem b2J:D5 P gl 146 b8Q:=dS f146 a7v a8W c2R b3S (by kernel_rfl) rfl trivial ⟨GK,a4h,b2N,b2O,b2P,a4i,trivial⟩ fun x=>by kernel_rfl
theorem b2Q:D5 P gl 164 b8X:=dS f164 a7G a9h c3d b4d (by kernel_rfl) rfl trivial ⟨a4h,GK,trivial⟩ fun x=>by kernel_rfl
theorem Un:D5 P gl 179 Wj:=dS f179 Yi YE b1C a5q (by kernel_rfl) rfl trivial ⟨Wq,trivial⟩ fun x=>by kernel_rfl
theorem a6G:D5 P gl 69 b0h:=dS f69 a2G a3l b5l b0K (by kernel_rfl) rfl trivial ⟨Un,trivial⟩ fun x=>by kernel_rfl
theorem b2R:D5 P gl 165 b8Y:=dS f165 a7H a9i c3e b4e (by kernel_rfl) rfl trivial ⟨Un,a6G,trivial⟩ fun x=>by kernel_rfl
theorem QH:D5 Go.Proofs.Tryz.prog gl 193 a3F:=Tc Go.Proofs.Tryz.bits_Mul64
theorem b2E:D5 P gl 139 b8L:=dS f139 a7p a8Q c2J b3L (by kernel_rfl) rfl trivial trivial fun x=>by kernel_rfl
theorem b3l:D5 P gl 207 b9s:=dS f207 a8n a9O c3N b4K (by kernel_rfl) rfl trivial ⟨b2E,trivial⟩ fun x=>by kernel_rfl
theorem Wv:D5 P gl 194 a6r:=dS f194 a8c a9D c3A b4z (by kernel_rfl) rfl trivial ⟨b3l,trivial⟩ fun x=>by kernel_rfl
theorem b3a:D5 P gl 180 b9h:=dS f180 a7T a9u c3r b4q (by kernel_rfl) rfl trivial ⟨QH,Wv,trivial⟩ fun x=>by kernel_rfl
theorem WA:D5 P gl 208 a6u:=dS f208 a8o a9P c3O b4L (by kernel_rfl) rfl trivial trivial fun x=>by kernel_rfl
theorem WB:D5 P gl 209 a6v:=dS f209 a8p a9Q c3P b4M (by kernel_rfl) rfl trivial trivial fun x=>by kernel_rfl
theorem a4p:D5 P gl 210 b2i:=dS f210 a8q a9R c3Q b4N (by kernel_rfl) rfl trivial trivial fun x=>by kernel_rfl
theorem a4q:D5 P gl 211 b2j:=dS f211 a8r a9S c3R b4O (by kernel_rfl) rfl trivial trivial fun x=>by kernel_rfl
theorem a4r:D5 P gl 212 b2k:=dS f212 a8s a9T c3S b4P (by kernel_rfl) rfl trivial trivial fun x=>by kernel_rfl
theorem QI:D5 P gl 195 a3G:=dS f195 a8d a9E c3B b4A (by kernel_rfl) rfl trivial ⟨WA,WB,a4p,a4q,a4r,trivial⟩ fun x=>by kernel_rfl
theorem b3b:D5 P gl 181 b9i:=dS f181 a7U a9v c3s b4r (by kernel_rfl) rfl trivial ⟨QI,trivial⟩ fun x=>by kernel_rfl
theorem b2S:D5 P gl 166 b8Z:=dS f166 a7I a9j c3f b4f (by kernel_rfl) rfl trivial ⟨Wq,b3a,b3b,trivial⟩ fun x=>by kernel_rfl
theorem a4l:D5 P gl 182 b2e:=dS f182 a7V a9w c3t b4s (by kernel_rfl) rfl trivial trivial fun x=>by kernel_rfl
theorem Wx:D5 P gl 196 a6s:=dS f196 a8e a9F c3C b4B (by kernel_rfl) rfl trivial trivial fun x=>by kernel_rfl
theorem b3m:D5 P gl 213 b9t:=dS f213 a8t a9U c3T b4Q (by kernel_rfl) rfl trivial trivial fun x=>by kernel_rfl
theorem a4o:D5 P gl 197 b2h:=dS f197 a8f a9G c3E b4C (by kernel_rfl) rfl trivial ⟨b3m,trivial⟩ fun x=>by kernel_rfl
theorem b3n:D5 P gl 214 b9u:=dS f214 a8u a9V c3V b4R (by kernel_rfl) rfl trivial trivial fun x=>by kernel_rfl
theorem Wy:D5 P gl 198 a6t:=dS f198 a8g a9H c3F b4D (by kernel_rfl) rfl trivial ⟨b3n,trivial⟩ fun x=>by kernel_rfl
theorem Wu:D5 P gl 183 a6q:=dS f183 a7W a9x c3u b4t (by kernel_rfl) rfl trivial ⟨Wx,a4o,Wy,trivial⟩ fun x=>by kernel_rfl
theorem b2T:D5 P gl 167 b9a:=dS f167 a7J a9k c3g b4g (by kernel_rfl) rfl trivial ⟨a4l,Wu,trivial⟩ fun x=>by kernel_rfl
theorem b3f:D5 P gl 199 b9m:=dS f199 a8h a9I c3G b4E (by kernel_rfl) rfl trivial ⟨QH,trivial⟩ fun x=>by kernel_rfl
theorem b3o:D5 P gl 215 b9v:=dS f215 a8v a9W c3W b4S (by kernel_rfl) rfl trivial ⟨WA,WB,a4p,QH,Wv,a4q,a4r,trivial⟩ fun x=>by kernel_rfl
theorem b3g:D5 P gl 200 b9n:=dS f200 a8i a9J c3H b4F (by kernel_rfl) rfl trivial ⟨b3o,trivial⟩ fun x=>by kernel_rfl
theorem a4s:D5 P gl 216 b2l:=dS f216 a8w a9X c3X b4T (by kernel_rfl) rfl trivial trivial fun x=>by kernel_rfl
theorem a4t:D5 P gl 217 b2m:=dS f217 a8x a9Y c3Y b4U (by kernel_rfl) rfl trivial trivial fun x=>by kernel_rfl
theorem b3h:D5 P gl 201 b9o:=dS f201 a8j a9K c3I b4G (by kernel_rfl) rfl trivial ⟨a4s,a4t,QI,trivial⟩ fun x=>by kernel_rfl
theorem b3i:D5 P gl 202 b9p:=dS f202 a8k a9L c3J b4H (by kernel_rfl) rfl trivial ⟨WA,WB,QI,trivial⟩ fun x=>by kernel_rfl
theorem b3p:D5 P gl 218 b9w:=dS f218 a8y a9Z c3Z b4V (by kernel_rfl) rfl trivial trivial fun x=>by kernel_rfl
theorem b3j:D5 P gl 203 b9q:=dS f203 a8l a9M c3K b4I (by kernel_rfl) rfl trivial ⟨a4s,a4t,QH,Wv,b3p,trivial⟩ fun x=>by kernel_rfl
theorem b3c:D5 P gl 184 b9j:=dS f184 a7X a9y c3v b4u (by kernel_rfl) rfl trivial ⟨b3f,b3g,b3h,b3i,QI,b3j,trivial⟩ fun x=>by kernel_rfl
theorem b3k:D5 P gl 204 b9r:=dS f204 a8m a9N c3M b4J (by kernel_rfl) rfl trivial ⟨Wy,a4o,trivial⟩ fun x=>by kernel_rfl
theorem a4m:D5 P gl 185 b2f:=dS f185 a7Y a9z c3w b4v (by kernel_rfl) rfl trivial ⟨Wx,Wu,Wy,b3k,trivial⟩ fun x=>by kernel_rfl
theorem b3d:D5 P gl 186 b9k:=dS f186 a7Z a9A c3x b4w (by kernel_rfl) rfl trivial ⟨Wx,Wu,a4m,trivial⟩ fun x=>by kernel_rfl
theorem b2U:D5 P gl 168 b9b:=dS f168 a7K a9l c3h b4h (by kernel_rfl) rfl trivial ⟨b3c,a4l,a4m,b3d,trivial⟩ fun x=>by kernel_rfl
theorem b2K:D5 P gl 147 b8R:=dS f147 a7w a8X c2S b3T (by kernel_rfl) rfl trivial ⟨b2Q,b2R,b2S,b2T,b2U,trivial⟩ fun x=>by kernel_rfl
theorem b2A:D5 P gl 123 b8H:=dS f123 a7m a8N c2G b3I (by kernel_rfl) rfl trivial ⟨b2G,LZ,b2H,b2I,b2J,b2K,GK,trivial⟩ fun x=>by kernel_rfl
theorem a6N:∀n,D5 P gl 142 ⟨a2B,[(true,(.dat (.prod (.int .i64) (.prod (.int .i64) (.int .i64))))),(false,(.dat (.int .i64)))],[],fun x=>(x8 n).1 x.1 x.2⟩∧D5 P gl 95 ⟨a0f,[(true,(.dat (.prod (.int .i64) (.prod (.int .i64) (.int .i64))))),(false,(.dat (.int .i64)))],[],fun x=>(x8 n).2.1 x.1 x.2⟩∧D5 P gl 122 ⟨a2A,[(true,(.dat (.prod (.int .i64) (.prod (.int .i64) (.int .i64))))),(false,(.dat (.int .i64)))],[],fun x=>(x8 n).2.2 x.1 x.2.1 x.2.2⟩:=by
 intro n
 induction n with
 | zero=>exact⟨(fun w ok O vals x r _ _ _ _ _ h=>by cases h),(fun w ok O vals x r _ _ _ _ _ h=>by cases h),(fun w ok O vals x r _ _ _ _ _ h=>by cases h)⟩
 | succ n ih=>exact⟨dS f142 a2B b7i (c2N (x8 n).1 (x8 n).2.1 (x8 n).2.2) b3O (by kernel_rfl) rfl trivial ⟨ih.2.1,GK,trivial⟩ fun x=>by kernel_rfl,
  dS f95 a0f b8w (e95 (x8 n).1 (x8 n).2.1 (x8 n).2.2) c2o (by kernel_rfl) rfl trivial ⟨b2z,ih.2.2,ih.2.1,b2A,trivial⟩ fun x=>by kernel_rfl,
  dS f122 a2A b7f (c2F (x8 n).1 (x8 n).2.1 (x8 n).2.2) b3H (by kernel_rfl) rfl trivial ⟨ih.1,ih.2.1,trivial⟩ fun x=>by kernel_rfl⟩
theorem c0G:D5 P gl 95 s95:=(a6N dK).2.1
theorem b0y:D5 P gl 64 s64:=dS f64 b6G b8d e64 c1T (by kernel_rfl) rfl trivial ⟨c0F,c0G,trivial⟩ fun x=>by kernel_rfl
theorem b2x:D5 P gl 117 b8E:=dS f117 a7h a8I c2z b3C (by kernel_rfl) rfl trivial trivial fun x=>by kernel_rfl
theorem b2M:D5 P gl 158 b8T:=dS f158 a7A a9b c2X b3X (by kernel_rfl) rfl trivial trivial fun x=>by kernel_rfl
theorem b2F:D5 P gl 140 b8M:=dS f140 a7q a8R c2K b3M (by kernel_rfl) rfl trivial ⟨b2M,trivial⟩ fun x=>by kernel_rfl
theorem a4c:D5 P gl 119 b1X:=dS f119 a7j a8K c2B b3E (by kernel_rfl) rfl trivial ⟨b2F,trivial⟩ fun x=>by kernel_rfl
theorem b2y:D5 P gl 118 b8F:=dS f118 a7i a8J c2A b3D (by kernel_rfl) rfl trivial ⟨a4c,trivial⟩ fun x=>by kernel_rfl
theorem c0E:D5 P gl 93 s93:=dS f93 b6X b8u e93 c2l (by kernel_rfl) rfl trivial ⟨b2x,b2y,a4c,trivial⟩ fun x=>by kernel_rfl
theorem c0r:D5 P gl 63 s63:=dS f63 b6F b8c e63 c1S (by kernel_rfl) rfl trivial ⟨c0D,b0y,c0E,trivial⟩ fun x=>by kernel_rfl
theorem c0g:D5 P gl 46 s46:=dS f46 b6o b7L e46 c1z (by kernel_rfl) rfl trivial ⟨c0q,c0r,b0y,trivial⟩ fun x=>by kernel_rfl
theorem b9R:D5 P gl 28 s28:=dS f28 b5Z b7w e28 c1j (by kernel_rfl) rfl trivial ⟨c0g,trivial⟩ fun x=>by kernel_rfl
theorem b0r:D5 P gl 13 s13:=dS f13 b5J b7g e13 c0T (by kernel_rfl) rfl trivial ⟨b9O,b9P,b9Q,b9R,trivial⟩ fun x=>by kernel_rfl
theorem b9J:D5 P gl 20 s20:=dS f20 b5R b7o e20 c1b (by kernel_rfl) rfl trivial ⟨b0r,trivial⟩ fun x=>by kernel_rfl
theorem b9Z:D5 P gl 39 s39:=dS f39 b6h b7E e39 c1r (by kernel_rfl) rfl trivial trivial fun x=>by kernel_rfl
theorem b9K:D5 P gl 21 s21:=dS f21 b5S b7p e21 c1c (by kernel_rfl) rfl trivial ⟨YJ,b9Z,b0t,trivial⟩ fun x=>by kernel_rfl
theorem b9L:D5 P gl 22 s22:=dS f22 b5T b7q e22 c1d (by kernel_rfl) rfl trivial trivial fun x=>by kernel_rfl
theorem b9M:D5 P gl 23 s23:=dS f23 b5U b7r e23 c1e (by kernel_rfl) rfl trivial trivial fun x=>by kernel_rfl
theorem c0c:D5 P gl 42 s42:=dS f42 b6k b7H e42 c1u (by kernel_rfl) rfl trivial trivial fun x=>by kernel_rfl
theorem c0d:D5 P gl 43 s43:=dS f43 b6l b7I e43 c1w (by kernel_rfl) rfl trivial trivial fun x=>by kernel_rfl
theorem b9N:D5 P gl 24 s24:=dS f24 b5V b7s e24 c1f (by kernel_rfl) rfl trivial ⟨c0c,c0d,trivial⟩ fun x=>by kernel_rfl
theorem b9D:D5 P gl 12 s12:=dS f12 b5H b7e e12 c0S (by kernel_rfl) rfl trivial ⟨b9L,b9M,b9N,trivial⟩ fun x=>by kernel_rfl
theorem a3Y:D5 P gl 11 s11:=dS f11 b5G b7d e11 c0R (by kernel_rfl) rfl trivial ⟨b0s,b9I,b9J,b9K,b9D,trivial⟩ fun x=>by kernel_rfl
theorem b9F:D5 P gl 15 s15:=dS f15 b5L b7j e15 c0V (by kernel_rfl) rfl trivial trivial fun x=>by kernel_rfl
theorem b3s:D5 P gl 9 s9:=dS f9 ps9 rt9 e9 an9 (by kernel_rfl) rfl trivial ⟨b9E,a3Y,b9F,b3r,trivial⟩ fun x=>by kernel_rfl
theorem c4i:D5 P gl 3 s3:=dS f3 ps3 rt3 e3 an3 (by kernel_rfl) rfl trivial ⟨b3r,c4l,b3s,trivial⟩ fun x=>by kernel_rfl
theorem b9S:D5 P gl 29 s29:=dS f29 b6a b7x e29 c1k (by kernel_rfl) rfl trivial trivial fun x=>by kernel_rfl
theorem b9G:D5 P gl 16 s16:=dS f16 b5M b7k e16 c0W (by kernel_rfl) rfl trivial ⟨b9S,trivial⟩ fun x=>by kernel_rfl
theorem b9H:D5 P gl 17 s17:=dS f17 b5N b7l e17 c0X (by kernel_rfl) rfl trivial trivial fun x=>by kernel_rfl
theorem b0q:D5 P gl 10 s10:=dS f10 b5F b7c e10 c0Q (by kernel_rfl) rfl trivial ⟨b9G,b9H,trivial⟩ fun x=>by kernel_rfl
theorem c4j:D5 P gl 5 s5:=dS f5 ps5 rt5 e5 an5 (by kernel_rfl) rfl trivial ⟨b0q,b3s,a3Y,b0r,b3r,trivial⟩ fun x=>by kernel_rfl
theorem c4k:D5 P gl 6 s6:=dS f6 ps6 rt6 e6 an6 (by kernel_rfl) rfl trivial ⟨b0q,b3s,a3Y,trivial⟩ fun x=>by kernel_rfl
end Gt
