import Derived.Test.YtabfelfinddgkaaGreatDoorT2
import Derived.Test.YtabfelfinddgkaaGreatDoorProg
import Derived.Test.YtabfelfinddgkaaGreatDoorShelf
set_option linter.all false
open Go Go.GP Go.Proofs.Tryz
namespace Gt
set_option maxRecDepth 100000
noncomputable abbrev P:Program:=Go.Proofs.Tryz.prog
theorem OB:OA P tt=true:=by kernel_rfl
theorem FN:∀t sh,J6 eqs t=some sh→xx P t sh:=MJ (by kernel_rfl)
theorem dS {f:FuncId} (fn:Func) (ps:List MG) (rt:Ret) (E:Env) (an:Ann) {F:O6 ps→Option rt.den} (h:(P.funcs[f]?,fn.body,fn.ntmps,fn.results.toList,Nat.ble (64*E.nt) 999936,MO P E.fs)=(some fn,some (BG fn),E.nt,rt.rs.map (·.1),true,true)) (ht:(E.tt,E.eqs)=(tt,eqs)) (hm:QK P E.ms) (hs:Zv P E.gl E.fs) (hF:∀x,VB E ps rt (BG fn) an x=F x):
  o8 P E.gl f ⟨ps,rt.rs.map (·.2),rt.outs.map (·.2),F⟩:=by
 injection h with h1 h;injection h with h2 h;injection h with h3 h;injection h with h4 h;injection h with h5 h6
 injection ht with t1 t2
 exact yQ h1 h2 h3 h4 (vW h5 (t1▸OB) (t2▸FN) h6 hm hs) fun x r h=>(hF x).trans h
theorem b5s:o8 P gl 14 s14:=dS f14 b1q b2I e14 b6F (by kernel_rfl) rfl trivial trivial fun x=>by kernel_rfl
theorem b5W:o8 P gl 6 s6:=dS f6 ps6 rt6 e6 an6 (by kernel_rfl) rfl trivial ⟨b5s,trivial⟩ fun x=>by kernel_rfl
theorem a5C:o8 P gl 58 s58:=dS f58 b2f b3y e58 b7t (by kernel_rfl) rfl trivial trivial fun x=>by kernel_rfl
theorem b6r:o8 P gl 89 s89:=dS f89 b2z b3T e89 b7O (by kernel_rfl) rfl trivial trivial fun x=>by kernel_rfl
theorem b5V:o8 P gl 59 s59:=dS f59 b2g b3z e59 b7u (by kernel_rfl) rfl trivial ⟨a5C,b6r,trivial⟩ fun x=>by kernel_rfl
theorem b5X:o8 P gl 60 s60:=dS f60 b2h b3A e60 b7v (by kernel_rfl) rfl trivial trivial fun x=>by kernel_rfl
theorem Oh:o8 P gl 32 s32:=dS f32 b1J b3c e32 b6X (by kernel_rfl) rfl trivial ⟨a5C,b5V,b5X,trivial⟩ fun x=>by kernel_rfl
theorem TJ:o8 P gl 62 Yd:=dS f62 WY XB b0N a5N (by kernel_rfl) rfl trivial trivial fun x=>by kernel_rfl
theorem a0Q:o8 P gl 90 a5n:=dS f90 Xd XG b0S a5S (by kernel_rfl) rfl trivial ⟨TJ,trivial⟩ fun x=>by kernel_rfl
theorem a0N:o8 P gl 61 a5k:=dS f61 WX XA b0M a5M (by kernel_rfl) rfl trivial ⟨a0Q,trivial⟩ fun x=>by kernel_rfl
theorem YX:o8 P gl 33 s33:=dS f33 b1K b3d e33 b6Y (by kernel_rfl) rfl trivial ⟨TJ,a0N,trivial⟩ fun x=>by kernel_rfl
theorem b6p:o8 P gl 87 s87:=dS f87 b2x b3R e87 b7M (by kernel_rfl) rfl trivial trivial fun x=>by kernel_rfl
theorem b5T:o8 P gl 51 s51:=dS f51 b2a b3t e51 b7o (by kernel_rfl) rfl trivial ⟨b6p,trivial⟩ fun x=>by kernel_rfl
theorem b5E:o8 P gl 30 s30:=dS f30 b1H b3a e30 b6V (by kernel_rfl) rfl trivial ⟨Oh,YX,b5T,trivial⟩ fun x=>by kernel_rfl
theorem b5t:o8 P gl 15 s15:=dS f15 b1r b2J e15 b6G (by kernel_rfl) rfl trivial ⟨b5E,trivial⟩ fun x=>by kernel_rfl
theorem Oi:o8 P gl 52 s52:=dS f52 b2b b3u e52 b7p (by kernel_rfl) rfl trivial trivial fun x=>by kernel_rfl
theorem YZ:o8 P gl 53 s53:=dS f53 b2c b3v e53 b7q (by kernel_rfl) rfl trivial ⟨Oi,trivial⟩ fun x=>by kernel_rfl
theorem Za:o8 P gl 54 s54:=dS f54 b2d b3w e54 b7r (by kernel_rfl) rfl trivial trivial fun x=>by kernel_rfl
theorem a7q:o8 P gl 115 b4e:=dS f115 a1v a3t b8e a8Q (by kernel_rfl) rfl trivial ⟨Za,trivial⟩ fun x=>by kernel_rfl
theorem b6q:o8 P gl 88 s88:=dS f88 b2y b3S e88 b7N (by kernel_rfl) rfl trivial ⟨a7q,trivial⟩ fun x=>by kernel_rfl
theorem b5U:o8 P gl 57 s57:=dS f57 b2e b3x e57 b7s (by kernel_rfl) rfl trivial ⟨b6q,trivial⟩ fun x=>by kernel_rfl
theorem TG:o8 P gl 56 Yc:=dS f56 WW Xz b0L a5L (by kernel_rfl) rfl trivial ⟨b5U,trivial⟩ fun x=>by kernel_rfl
theorem a0L:o8 P gl 55 a5i:=dS f55 WU Xx b0J a5J (by kernel_rfl) rfl trivial ⟨TG,trivial⟩ fun x=>by kernel_rfl
theorem b5F:o8 P gl 31 s31:=dS f31 b1I b3b e31 b6W (by kernel_rfl) rfl trivial ⟨Oi,YZ,Za,TG,a0L,trivial⟩ fun x=>by kernel_rfl
theorem TK:o8 P gl 64 Ye:=dS f64 Xa XD b0P a5P (by kernel_rfl) rfl trivial trivial fun x=>by kernel_rfl
theorem a0R:o8 P gl 91 a5o:=dS f91 Xe XH b0T a5T (by kernel_rfl) rfl trivial ⟨TK,trivial⟩ fun x=>by kernel_rfl
theorem a0O:o8 P gl 63 a5l:=dS f63 WZ XC b0O a5O (by kernel_rfl) rfl trivial ⟨a0R,trivial⟩ fun x=>by kernel_rfl
theorem a5z:o8 P gl 34 s34:=dS f34 b1L b3e e34 b6Z (by kernel_rfl) rfl trivial ⟨TK,a0O,trivial⟩ fun x=>by kernel_rfl
theorem b5u:o8 P gl 16 s16:=dS f16 b1s b2K e16 b6H (by kernel_rfl) rfl trivial ⟨b5F,Oh,YX,a5z,trivial⟩ fun x=>by kernel_rfl
theorem TL:o8 P gl 66 Yf:=dS f66 Xc XF b0R a5R (by kernel_rfl) rfl trivial trivial fun x=>by kernel_rfl
theorem a0S:o8 P gl 92 a5p:=dS f92 Xf XI b0U a5U (by kernel_rfl) rfl trivial ⟨TL,trivial⟩ fun x=>by kernel_rfl
theorem a0P:o8 P gl 65 a5m:=dS f65 Xb XE b0Q a5Q (by kernel_rfl) rfl trivial ⟨a0S,trivial⟩ fun x=>by kernel_rfl
theorem TM:o8 P gl 93 Yg:=dS f93 Xg XJ b0V a5V (by kernel_rfl) rfl trivial trivial fun x=>by kernel_rfl
theorem Yt:o8 P gl 116 XO:=dS f116 RZ Tc a6d ZA (by kernel_rfl) rfl trivial ⟨TM,trivial⟩ fun x=>by kernel_rfl
theorem a0T:o8 P gl 94 a5q:=dS f94 Xh XK b0W a5W (by kernel_rfl) rfl trivial ⟨Yt,trivial⟩ fun x=>by kernel_rfl
theorem b5Y:o8 P gl 67 s67:=dS f67 b2i b3B e67 b7w (by kernel_rfl) rfl trivial ⟨TM,Oh,a0T,Oi,trivial⟩ fun x=>by kernel_rfl
theorem b6t:o8 P gl 95 s95:=dS f95 b2A b3U e95 b7P (by kernel_rfl) rfl trivial trivial fun x=>by kernel_rfl
theorem b5Z:o8 P gl 68 s68:=dS f68 b2j b3C e68 b7x (by kernel_rfl) rfl trivial ⟨b6t,trivial⟩ fun x=>by kernel_rfl
theorem TN:o8 P gl 97 Yh:=dS f97 Xj XM b0Y a5Y (by kernel_rfl) rfl trivial trivial fun x=>by kernel_rfl
theorem Yu:o8 P gl 117 XP:=dS f117 Si Td a6e ZB (by kernel_rfl) rfl trivial ⟨TN,trivial⟩ fun x=>by kernel_rfl
theorem a0U:o8 P gl 96 a5r:=dS f96 Xi XL b0X a5X (by kernel_rfl) rfl trivial ⟨Yu,trivial⟩ fun x=>by kernel_rfl
theorem a7r:o8 Go.Proofs.Tryz.prog gl 118 b4f:=Et Go.Proofs.Tryz.strings_Contains_one
theorem b6u:o8 P gl 98 s98:=dS f98 b2B b3V e98 b7Q (by kernel_rfl) rfl trivial ⟨a7r,trivial⟩ fun x=>by kernel_rfl
theorem Ic:o8 P gl 146 UX:=dS f146 a1K a3I b8t a9f (by kernel_rfl) rfl trivial trivial fun x=>by kernel_rfl
theorem Yz:o8 P gl 144 a6N:=dS f144 a1I a3G b8r a9d (by kernel_rfl) rfl trivial ⟨Ic,trivial⟩ fun x=>by kernel_rfl
theorem YA:o8 P gl 145 a6O:=dS f145 a1J a3H b8s a9e (by kernel_rfl) rfl trivial trivial fun x=>by kernel_rfl
theorem a7I:o8 P gl 165 b4w:=dS f165 a1S a3R b8C a9o (by kernel_rfl) rfl trivial ⟨YZ,trivial⟩ fun x=>by kernel_rfl
theorem a7J:o8 P gl 166 b4x:=dS f166 a1T a3S b8D a9p (by kernel_rfl) rfl trivial trivial fun x=>by kernel_rfl
theorem YE:o8 P gl 167 a6P:=dS f167 a1U a3T b8E a9q (by kernel_rfl) rfl trivial ⟨Oi,trivial⟩ fun x=>by kernel_rfl
theorem YF:o8 P gl 170 a6Q:=dS f170 a1X a3W b8H a9t (by kernel_rfl) rfl trivial trivial fun x=>by kernel_rfl
theorem a7K:o8 P gl 168 b4y:=dS f168 a1V a3U b8F a9r (by kernel_rfl) rfl trivial ⟨YF,Oi,trivial⟩ fun x=>by kernel_rfl
theorem YK:o8 P gl 189 a6S:=dS f189 a2g a4f b8R a9D (by kernel_rfl) rfl trivial trivial fun x=>by kernel_rfl
theorem a7L:o8 P gl 169 b4z:=dS f169 a1W a3V b8G a9s (by kernel_rfl) rfl trivial ⟨YE,YK,trivial⟩ fun x=>by kernel_rfl
theorem a7S:o8 P gl 190 b4G:=dS f190 a2h a4g b8S a9E (by kernel_rfl) rfl trivial trivial fun x=>by kernel_rfl
theorem a7M:o8 P gl 171 b4A:=dS f171 a1Y a3X b8I a9u (by kernel_rfl) rfl trivial ⟨YK,a7S,trivial⟩ fun x=>by kernel_rfl
theorem a7B:o8 P gl 147 b4p:=dS f147 a1L a3J b8u a9g (by kernel_rfl) rfl trivial ⟨a7I,a7J,YE,a7K,a7L,YF,a7M,trivial⟩ fun x=>by kernel_rfl
theorem a7s:o8 P gl 119 b4g:=dS f119 a1w a3u b8f a8R (by kernel_rfl) rfl trivial ⟨Yz,YA,Ic,a7B,trivial⟩ fun x=>by kernel_rfl
theorem b6v:o8 P gl 99 s99:=dS f99 b2C b3W e99 b7R (by kernel_rfl) rfl trivial ⟨a7s,trivial⟩ fun x=>by kernel_rfl
theorem b6a:o8 P gl 69 s69:=dS f69 b2k b3D e69 b7y (by kernel_rfl) rfl trivial ⟨Oh,TN,a0U,b6u,b6v,trivial⟩ fun x=>by kernel_rfl
theorem Zc:o8 Go.Proofs.Tryz.prog gl 73 s73:=Qu Go.Proofs.Tryz.slices_Sort_int Go.Proofs.Tryz.slices_Sort_int_none
theorem Zd:o8 Go.Proofs.Tryz.prog gl 74 s74:=Iz Go.Proofs.Tryz.slices_Compact_int Go.Proofs.Tryz.slices_Compact_int_empty
theorem a7D:o8 P gl 156 b4r:=dS f156 a1N a3L b8w a9i (by kernel_rfl) rfl trivial ⟨Zc,Zd,trivial⟩ fun x=>by kernel_rfl
theorem Yx:o8 P gl 139 a6L:=dS f139 a1E a3C b8n a8Z (by kernel_rfl) rfl trivial ⟨a7D,trivial⟩ fun x=>by kernel_rfl
theorem a7t:o8 P gl 120 b4h:=dS f120 a1x a3v b8g a8S (by kernel_rfl) rfl trivial ⟨Yx,trivial⟩ fun x=>by kernel_rfl
theorem Yv:o8 P gl 121 a6K:=dS f121 a1y a3w b8h a8T (by kernel_rfl) rfl trivial ⟨Zc,Zd,trivial⟩ fun x=>by kernel_rfl
theorem Qh:o8 P gl 102 a0x:=dS f102 a1n a3l b7V a8H (by kernel_rfl) rfl trivial ⟨a7t,Yv,trivial⟩ fun x=>by kernel_rfl
theorem Yp:o8 P gl 101 a6I:=dS f101 a1m a3k b7U a8G (by kernel_rfl) rfl trivial trivial fun x=>by kernel_rfl
theorem Zb:o8 P gl 71 s71:=dS f71 b2m b3F e71 b7A (by kernel_rfl) rfl trivial ⟨Qh,Yp,trivial⟩ fun x=>by kernel_rfl
theorem a7j:o8 P gl 100 b3X:=dS f100 a1l a3j b7T a8F (by kernel_rfl) rfl trivial trivial fun x=>by kernel_rfl
theorem b6b:o8 P gl 70 s70:=dS f70 b2l b3E e70 b7z (by kernel_rfl) rfl trivial ⟨a7j,trivial⟩ fun x=>by kernel_rfl
theorem b5G:o8 P gl 35 s35:=dS f35 b1M b3f e35 b7a (by kernel_rfl) rfl trivial ⟨YX,a5z,TL,a0P,Oh,b5Y,b5Z,b6a,Zb,b6b,trivial⟩ fun x=>by kernel_rfl
theorem b5v:o8 P gl 17 s17:=dS f17 b1t b2L e17 b6I (by kernel_rfl) rfl trivial ⟨b5G,trivial⟩ fun x=>by kernel_rfl
theorem a8z:o8 P gl 7 s7:=dS f7 ps7 rt7 e7 an7 (by kernel_rfl) rfl trivial ⟨b5t,b5u,b5v,trivial⟩ fun x=>by kernel_rfl
theorem b5H:o8 P gl 36 s36:=dS f36 b1N b3g e36 b7b (by kernel_rfl) rfl trivial trivial fun x=>by kernel_rfl
theorem b5w:o8 P gl 18 s18:=dS f18 b1u b2M e18 b6J (by kernel_rfl) rfl trivial ⟨b5H,trivial⟩ fun x=>by kernel_rfl
theorem b6l:o8 Go.Proofs.Tryz.prog gl 83 s83:=qj (E:=⟨8,eqs,tt,gl,[],[],[],[],[],[]⟩) (f:=83) (fn:=Go.Proofs.Tryz.f83) (c:=BG Go.Proofs.Tryz.f83) (t:=.str) (by kernel_rfl) (by kernel_rfl) (by kernel_rfl) (by kernel_rfl)
  (vW (by kernel_rfl) OB FN (by kernel_rfl) trivial trivial) (fun b=>by cases b <;> kernel_rfl) (fun xs=>by kernel_rfl)
theorem b5N:o8 P gl 43 s43:=dS f43 b1U b3n e43 b7i (by kernel_rfl) rfl trivial ⟨b6l,trivial⟩ fun x=>by kernel_rfl
theorem b6m:o8 Go.Proofs.Tryz.prog gl 84 s84:=qj (E:=⟨8,eqs,tt,gl,[],[],[],[],[],[]⟩) (f:=84) (fn:=Go.Proofs.Tryz.f84) (c:=BG Go.Proofs.Tryz.f84) (t:=(.prod (.prod (.int .i64) (.int .i64)) (.prod (.int .i64) (.prod (.int .i64) (.int .i64))))) (by kernel_rfl) (by kernel_rfl) (by kernel_rfl) (by kernel_rfl)
  (vW (by kernel_rfl) OB FN (by kernel_rfl) trivial trivial) (fun b=>by cases b <;> kernel_rfl) (fun xs=>by kernel_rfl)
theorem b5O:o8 P gl 44 s44:=dS f44 b1V b3o e44 b7j (by kernel_rfl) rfl trivial ⟨b6m,trivial⟩ fun x=>by kernel_rfl
theorem b5P:o8 Go.Proofs.Tryz.prog gl 45 s45:=qj (E:=⟨8,eqs,tt,gl,[],[],[],[],[],[]⟩) (f:=45) (fn:=Go.Proofs.Tryz.f45) (c:=BG Go.Proofs.Tryz.f45) (t:=(.prod .str (.prod (.int .i64) (.int .i64)))) (by kernel_rfl) (by kernel_rfl) (by kernel_rfl) (by kernel_rfl)
  (vW (by kernel_rfl) OB FN (by kernel_rfl) trivial trivial) (fun b=>by cases b <;> kernel_rfl) (fun xs=>by kernel_rfl)
theorem b5Q:o8 Go.Proofs.Tryz.prog gl 46 s46:=qj (E:=⟨8,eqs,tt,gl,[],[],[],[],[],[]⟩) (f:=46) (fn:=Go.Proofs.Tryz.f46) (c:=BG Go.Proofs.Tryz.f46) (t:=(.prod (.int .i64) (.int .i64))) (by kernel_rfl) (by kernel_rfl) (by kernel_rfl) (by kernel_rfl)
  (vW (by kernel_rfl) OB FN (by kernel_rfl) trivial trivial) (fun b=>by cases b <;> kernel_rfl) (fun xs=>by kernel_rfl)
theorem b5B:o8 P gl 24 s24:=dS f24 b1B b2U e24 b6P (by kernel_rfl) rfl trivial ⟨b5N,b5O,b5P,b5Q,trivial⟩ fun x=>by kernel_rfl
theorem a5A:o8 P gl 47 s47:=dS f47 b1W b3p e47 b7k (by kernel_rfl) rfl trivial trivial fun x=>by kernel_rfl
theorem a5w:o8 P gl 27 s27:=dS f27 b1E b2X e27 b6S (by kernel_rfl) rfl trivial ⟨a5A,trivial⟩ fun x=>by kernel_rfl
theorem a5x:o8 P gl 28 s28:=dS f28 b1F b2Y e28 b6T (by kernel_rfl) rfl trivial trivial fun x=>by kernel_rfl
theorem b6n:o8 P gl 85 s85:=dS f85 b2v b3P e85 b7K (by kernel_rfl) rfl trivial trivial fun x=>by kernel_rfl
theorem b5R:o8 P gl 48 s48:=dS f48 b1X b3q e48 b7l (by kernel_rfl) rfl trivial ⟨b6n,trivial⟩ fun x=>by kernel_rfl
theorem b5C:o8 P gl 25 s25:=dS f25 b1C b2V e25 b6Q (by kernel_rfl) rfl trivial ⟨a5w,a5x,a5A,b5R,trivial⟩ fun x=>by kernel_rfl
theorem TF:o8 P gl 10 s10:=dS f10 b1l b2D e10 b6B (by kernel_rfl) rfl trivial ⟨b5B,b5C,trivial⟩ fun x=>by kernel_rfl
theorem a7x:o8 P gl 137 b4l:=dS f137 a1C a3A b8l a8X (by kernel_rfl) rfl trivial ⟨YZ,trivial⟩ fun x=>by kernel_rfl
theorem a7y:o8 P gl 138 b4m:=dS f138 a1D a3B b8m a8Y (by kernel_rfl) rfl trivial trivial fun x=>by kernel_rfl
theorem a7l:o8 P gl 110 b3Z:=dS f110 a1q a3o b7Z a8L (by kernel_rfl) rfl trivial ⟨a7x,a7y,trivial⟩ fun x=>by kernel_rfl
theorem b6d:o8 P gl 75 s75:=dS f75 b2n b3H e75 b7C (by kernel_rfl) rfl trivial ⟨a8z,a7l,trivial⟩ fun x=>by kernel_rfl
theorem b6e:o8 P gl 76 s76:=dS f76 b2o b3I e76 b7D (by kernel_rfl) rfl trivial trivial fun x=>by kernel_rfl
theorem a7m:o8 P gl 111 b4a:=dS f111 a1r a3p b8a a8M (by kernel_rfl) rfl trivial ⟨Qh,Yp,Yx,Yv,trivial⟩ fun x=>by kernel_rfl
theorem a7n:o8 P gl 112 b4b:=dS f112 a1s a3q b8b a8N (by kernel_rfl) rfl trivial ⟨Zb,trivial⟩ fun x=>by kernel_rfl
theorem b6f:o8 P gl 77 s77:=dS f77 b2p b3J e77 b7E (by kernel_rfl) rfl trivial ⟨Zb,a7m,a7n,trivial⟩ fun x=>by kernel_rfl
theorem YW:o8 P gl 264 Yb:=dS f264 SG TB a6p ZN (by kernel_rfl) rfl trivial trivial fun x=>by kernel_rfl
theorem Qi:o8 P gl 158 a0y:=dS f158 a1O a3M b8x a9j (by kernel_rfl) rfl trivial trivial fun x=>by kernel_rfl
theorem YV:o8 P gl 262 a7d:=dS f262 a3g a5f b9S b0E (by kernel_rfl) rfl trivial trivial fun x=>by kernel_rfl
theorem Qs:o8 P gl 265 a0H:=dS f265 a3i a5h b9U b0G (by kernel_rfl) rfl trivial trivial fun x=>by kernel_rfl
theorem b1f:oz Go.Proofs.Tryz.prog 255 "Less" 262 (some 256):=zf (by kernel_rfl)
theorem a6w:oz Go.Proofs.Tryz.prog 255 "Swap" 265 (some 256):=zf (by kernel_rfl)
theorem YG:o8 P gl 174 XW:=dS f174 Sz Tq a6k ZI (by kernel_rfl) rfl ⟨b1f,a6w,trivial⟩ ⟨YV,Qs,trivial⟩ fun x=>by kernel_rfl
theorem b1g:oz Go.Proofs.Tryz.prog 255 "Len" 158 (some 256):=zf (by kernel_rfl)
theorem b9V:oz Go.Proofs.Tryz.prog 255 "Push" 264 none:=fun v w=>show(method _ 255 v "Push").run _ w= .ok (264,v) w by kernel_rfl
theorem YC:o8 P gl 157 XU:=dS f157 Su Tm a6i ZG (by kernel_rfl) rfl ⟨b1g,b9V,trivial⟩ ⟨YW,Qi,YG,trivial⟩ fun x=>by kernel_rfl
theorem YH:o8 P gl 175 XX:=dS f175 SA Tu a6l ZJ (by kernel_rfl) rfl ⟨b1f,a6w,trivial⟩ ⟨YV,Qs,trivial⟩ fun x=>by kernel_rfl
theorem a8y:o8 P gl 263 b5m:=dS f263 a3h a5g b9T b0F (by kernel_rfl) rfl trivial trivial fun x=>by kernel_rfl
theorem b9W:oz Go.Proofs.Tryz.prog 255 "Pop" 263 none:=fun v w=>show(method _ 255 v "Pop").run _ w= .ok (263,v) w by kernel_rfl
theorem YD:o8 P gl 159 XV:=dS f159 Sv Tn a6j ZH (by kernel_rfl) rfl ⟨b1g,b9W,a6w,trivial⟩ ⟨Qi,Qs,YH,a8y,trivial⟩ fun x=>by kernel_rfl
theorem a7z:o8 P gl 140 b4n:=dS f140 a1F a3D b8o a9a (by kernel_rfl) rfl trivial ⟨Qh,YC,Qi,YD,trivial⟩ fun x=>by kernel_rfl
theorem Qj:o8 P gl 178 a0z:=dS f178 a2a a3Z b8K a9w (by kernel_rfl) rfl trivial ⟨Za,trivial⟩ fun x=>by kernel_rfl
theorem Oe:o8 P gl 177 Qa:=dS f177 SC Tz a6n ZL (by kernel_rfl) rfl trivial ⟨Qj,trivial⟩ fun x=>by kernel_rfl
theorem YI:o8 P gl 176 XY:=dS f176 SB Tv a6m ZK (by kernel_rfl) rfl trivial ⟨Oe,trivial⟩ fun x=>by kernel_rfl
theorem a7E:o8 P gl 160 b4s:=dS f160 a1P a3N b8y a9k (by kernel_rfl) rfl trivial ⟨Oe,YI,trivial⟩ fun x=>by kernel_rfl
theorem a7G:o8 P gl 162 b4u:=dS f162 a1R a3P b8A a9m (by kernel_rfl) rfl trivial ⟨Yz,trivial⟩ fun x=>by kernel_rfl
theorem a7Q:o8 P gl 182 b4E:=dS f182 a2e a4d b8O a9A (by kernel_rfl) rfl trivial ⟨Ic,trivial⟩ fun x=>by kernel_rfl
theorem Dl:o8 P gl 199 Qb:=dS f199 a2p a4o b9b a9N (by kernel_rfl) rfl trivial trivial fun x=>by kernel_rfl
theorem a7V:o8 P gl 194 b4J:=dS f194 a2k a4j b8W a9I (by kernel_rfl) rfl trivial ⟨Ic,YA,trivial⟩ fun x=>by kernel_rfl
theorem a7W:o8 P gl 195 b4K:=dS f195 a2l a4k b8X a9J (by kernel_rfl) rfl trivial trivial fun x=>by kernel_rfl
theorem a7X:o8 P gl 196 b4L:=dS f196 a2m a4l b8Y a9K (by kernel_rfl) rfl trivial ⟨Dl,trivial⟩ fun x=>by kernel_rfl
theorem YL:o8 P gl 203 a6T:=dS f203 a2r a4q b9d a9P (by kernel_rfl) rfl trivial ⟨Dl,trivial⟩ fun x=>by kernel_rfl
theorem Qk:o8 P gl 213 a0A:=dS f213 a2B a4A b9n a9Z (by kernel_rfl) rfl trivial trivial fun x=>by kernel_rfl
theorem a8b:o8 P gl 204 b4P:=dS f204 a2s a4r b9e a9Q (by kernel_rfl) rfl trivial ⟨Qk,trivial⟩ fun x=>by kernel_rfl
theorem a8c:o8 P gl 205 b4Q:=dS f205 a2t a4s b9f a9R (by kernel_rfl) rfl trivial ⟨Qk,trivial⟩ fun x=>by kernel_rfl
theorem YM:o8 P gl 207 a6U:=dS f207 a2v a4u b9h a9T (by kernel_rfl) rfl trivial trivial fun x=>by kernel_rfl
theorem a8d:o8 P gl 206 b4R:=dS f206 a2u a4t b9g a9S (by kernel_rfl) rfl trivial ⟨YM,Qk,trivial⟩ fun x=>by kernel_rfl
theorem a7Y:o8 P gl 197 b4M:=dS f197 a2n a4m b8Z a9L (by kernel_rfl) rfl trivial ⟨Dl,YL,a8b,a8c,a8d,YM,trivial⟩ fun x=>by kernel_rfl
theorem a8e:o8 P gl 208 b4S:=dS f208 a2w a4v b9i a9U (by kernel_rfl) rfl trivial ⟨YL,Dl,trivial⟩ fun x=>by kernel_rfl
theorem Og:o8 P gl 214 Qc:=dS f214 SE TA a6o ZM (by kernel_rfl) rfl trivial ⟨Qj,trivial⟩ fun x=>by kernel_rfl
theorem a0M:o8 P gl 55 a5j:=dS f55 WV Xy b0K a5K (by kernel_rfl) rfl trivial ⟨Og,trivial⟩ fun x=>by kernel_rfl
theorem a8f:o8 P gl 209 b4T:=dS f209 a2x a4w b9j a9V (by kernel_rfl) rfl trivial ⟨Og,a0M,trivial⟩ fun x=>by kernel_rfl
theorem Ls:o8 Go.Proofs.Tryz.prog gl 222 XZ:=Nw Go.Proofs.Tryz.bits_Mul64
theorem a7w:o8 P gl 136 b4k:=dS f136 a1B a3z b8k a8W (by kernel_rfl) rfl trivial trivial fun x=>by kernel_rfl
theorem a8t:o8 P gl 234 b5h:=dS f234 a2U a4T b9G b0s (by kernel_rfl) rfl trivial ⟨a7w,trivial⟩ fun x=>by kernel_rfl
theorem Qm:o8 P gl 223 a0C:=dS f223 a2J a4I b9v b0h (by kernel_rfl) rfl trivial ⟨a8t,trivial⟩ fun x=>by kernel_rfl
theorem a8j:o8 P gl 215 b4X:=dS f215 a2C a4B b9o b0a (by kernel_rfl) rfl trivial ⟨Ls,Qm,trivial⟩ fun x=>by kernel_rfl
theorem Qp:o8 P gl 235 a0F:=dS f235 a2V a4U b9H b0t (by kernel_rfl) rfl trivial trivial fun x=>by kernel_rfl
theorem Qq:o8 P gl 236 a0G:=dS f236 a2W a4V b9I b0u (by kernel_rfl) rfl trivial trivial fun x=>by kernel_rfl
theorem YQ:o8 P gl 237 a6Y:=dS f237 a2X a4W b9J b0v (by kernel_rfl) rfl trivial trivial fun x=>by kernel_rfl
theorem YR:o8 P gl 238 a6Z:=dS f238 a2Y a4X b9K b0w (by kernel_rfl) rfl trivial trivial fun x=>by kernel_rfl
theorem YS:o8 P gl 239 a7a:=dS f239 a2Z a4Y b9L b0x (by kernel_rfl) rfl trivial trivial fun x=>by kernel_rfl
theorem Lt:o8 P gl 224 Ya:=dS f224 a2K a4J b9w b0i (by kernel_rfl) rfl trivial ⟨Qp,Qq,YQ,YR,YS,trivial⟩ fun x=>by kernel_rfl
theorem a8k:o8 P gl 216 b4Y:=dS f216 a2D a4C b9p b0b (by kernel_rfl) rfl trivial ⟨Lt,trivial⟩ fun x=>by kernel_rfl
theorem a8g:o8 P gl 210 b4U:=dS f210 a2y a4x b9k a9W (by kernel_rfl) rfl trivial ⟨Qj,a8j,a8k,trivial⟩ fun x=>by kernel_rfl
theorem YN:o8 P gl 217 a6V:=dS f217 a2E a4D b9q b0c (by kernel_rfl) rfl trivial trivial fun x=>by kernel_rfl
theorem Qn:o8 P gl 225 a0D:=dS f225 a2L a4K b9x b0j (by kernel_rfl) rfl trivial trivial fun x=>by kernel_rfl
theorem a8u:o8 P gl 240 b5i:=dS f240 a3a a4Z b9M b0y (by kernel_rfl) rfl trivial trivial fun x=>by kernel_rfl
theorem YP:o8 P gl 226 a6X:=dS f226 a2M a4L b9y b0k (by kernel_rfl) rfl trivial ⟨a8u,trivial⟩ fun x=>by kernel_rfl
theorem a8v:o8 P gl 241 b5j:=dS f241 a3b a5a b9N b0z (by kernel_rfl) rfl trivial trivial fun x=>by kernel_rfl
theorem Qo:o8 P gl 227 a0E:=dS f227 a2N a4M b9z b0l (by kernel_rfl) rfl trivial ⟨a8v,trivial⟩ fun x=>by kernel_rfl
theorem Ql:o8 P gl 218 a0B:=dS f218 a2F a4E b9r b0d (by kernel_rfl) rfl trivial ⟨Qn,YP,Qo,trivial⟩ fun x=>by kernel_rfl
theorem a8h:o8 P gl 211 b4V:=dS f211 a2z a4y b9l a9X (by kernel_rfl) rfl trivial ⟨YN,Ql,trivial⟩ fun x=>by kernel_rfl
theorem a8n:o8 P gl 228 b5b:=dS f228 a2O a4N b9A b0m (by kernel_rfl) rfl trivial ⟨Ls,trivial⟩ fun x=>by kernel_rfl
theorem a8w:o8 P gl 242 b5k:=dS f242 a3c a5b b9O b0A (by kernel_rfl) rfl trivial ⟨Qp,Qq,YQ,Ls,Qm,YR,YS,trivial⟩ fun x=>by kernel_rfl
theorem a8o:o8 P gl 229 b5c:=dS f229 a2P a4O b9B b0n (by kernel_rfl) rfl trivial ⟨a8w,trivial⟩ fun x=>by kernel_rfl
theorem YT:o8 P gl 243 a7b:=dS f243 a3d a5c b9P b0B (by kernel_rfl) rfl trivial trivial fun x=>by kernel_rfl
theorem YU:o8 P gl 244 a7c:=dS f244 a3e a5d b9Q b0C (by kernel_rfl) rfl trivial trivial fun x=>by kernel_rfl
theorem a8p:o8 P gl 230 b5d:=dS f230 a2Q a4P b9C b0o (by kernel_rfl) rfl trivial ⟨YT,YU,Lt,trivial⟩ fun x=>by kernel_rfl
theorem a8q:o8 P gl 231 b5e:=dS f231 a2R a4Q b9D b0p (by kernel_rfl) rfl trivial ⟨Qp,Qq,Lt,trivial⟩ fun x=>by kernel_rfl
theorem a8x:o8 P gl 245 b5l:=dS f245 a3f a5e b9R b0D (by kernel_rfl) rfl trivial trivial fun x=>by kernel_rfl
theorem a8r:o8 P gl 232 b5f:=dS f232 a2S a4R b9E b0q (by kernel_rfl) rfl trivial ⟨YT,YU,Ls,Qm,a8x,trivial⟩ fun x=>by kernel_rfl
theorem a8l:o8 P gl 219 b4Z:=dS f219 a2G a4F b9s b0e (by kernel_rfl) rfl trivial ⟨a8n,a8o,a8p,a8q,Lt,a8r,trivial⟩ fun x=>by kernel_rfl
theorem a8s:o8 P gl 233 b5g:=dS f233 a2T a4S b9F b0r (by kernel_rfl) rfl trivial ⟨Qo,YP,trivial⟩ fun x=>by kernel_rfl
theorem YO:o8 P gl 220 a6W:=dS f220 a2H a4G b9t b0f (by kernel_rfl) rfl trivial ⟨Qn,Ql,Qo,a8s,trivial⟩ fun x=>by kernel_rfl
theorem a8m:o8 P gl 221 b5a:=dS f221 a2I a4H b9u b0g (by kernel_rfl) rfl trivial ⟨Qn,Ql,YO,trivial⟩ fun x=>by kernel_rfl
theorem a8i:o8 P gl 212 b4W:=dS f212 a2A a4z b9m a9Y (by kernel_rfl) rfl trivial ⟨a8l,YN,YO,a8m,trivial⟩ fun x=>by kernel_rfl
theorem a7Z:o8 P gl 198 b4N:=dS f198 a2o a4n b9a a9M (by kernel_rfl) rfl trivial ⟨a8e,a8f,a8g,a8h,a8i,trivial⟩ fun x=>by kernel_rfl
theorem a7R:o8 P gl 184 b4F:=dS f184 a2f a4e b8Q a9C (by kernel_rfl) rfl trivial ⟨a7V,Ic,a7W,a7X,a7Y,a7Z,Dl,trivial⟩ fun x=>by kernel_rfl
theorem a0W:∀n,o8 P gl 193 ⟨WT,[(true,(.dat (.prod (.int .i64) (.prod (.int .i64) (.int .i64))))),(false,(.dat (.int .i64)))],[],fun x=>(A8 n).1 x.1 x.2⟩∧o8 P gl 163 ⟨JF,[(true,(.dat (.prod (.int .i64) (.prod (.int .i64) (.int .i64))))),(false,(.dat (.int .i64)))],[],fun x=>(A8 n).2.1 x.1 x.2⟩∧o8 P gl 183 ⟨WS,[(true,(.dat (.prod (.int .i64) (.prod (.int .i64) (.int .i64))))),(false,(.dat (.int .i64)))],[],fun x=>(A8 n).2.2 x.1 x.2.1 x.2.2⟩:=by
 intro n
 induction n with
 | zero=>exact⟨(fun w ok O vals x r _ _ _ _ _ h=>by cases h),(fun w ok O vals x r _ _ _ _ _ h=>by cases h),(fun w ok O vals x r _ _ _ _ _ h=>by cases h)⟩
 | succ n ih=>exact⟨dS f193 WT b2P (b8V (A8 n).1 (A8 n).2.1 (A8 n).2.2) a9H (by kernel_rfl) rfl trivial ⟨ih.2.1,Dl,trivial⟩ fun x=>by kernel_rfl,
  dS f163 JF a3Q (b8B (A8 n).1 (A8 n).2.1 (A8 n).2.2) a9n (by kernel_rfl) rfl trivial ⟨a7Q,ih.2.2,ih.2.1,a7R,trivial⟩ fun x=>by kernel_rfl,
  dS f183 WS b2N (b8P (A8 n).1 (A8 n).2.1 (A8 n).2.2) a9B (by kernel_rfl) rfl trivial ⟨ih.1,ih.2.1,trivial⟩ fun x=>by kernel_rfl⟩
theorem a7H:o8 P gl 163 b4v:=(a0W bH).2.1
theorem Yy:o8 P gl 142 a6M:=dS f142 a1H a3F b8q a9c (by kernel_rfl) rfl trivial ⟨a7G,a7H,trivial⟩ fun x=>by kernel_rfl
theorem a7O:o8 P gl 179 b4C:=dS f179 a2b a4a b8L a9x (by kernel_rfl) rfl trivial trivial fun x=>by kernel_rfl
theorem a8a:o8 P gl 202 b4O:=dS f202 a2q a4p b9c a9O (by kernel_rfl) rfl trivial trivial fun x=>by kernel_rfl
theorem a7U:o8 P gl 192 b4I:=dS f192 a2j a4i b8U a9G (by kernel_rfl) rfl trivial ⟨a8a,trivial⟩ fun x=>by kernel_rfl
theorem YJ:o8 P gl 181 a6R:=dS f181 a2d a4c b8N a9z (by kernel_rfl) rfl trivial ⟨a7U,trivial⟩ fun x=>by kernel_rfl
theorem a7P:o8 P gl 180 b4D:=dS f180 a2c a4b b8M a9y (by kernel_rfl) rfl trivial ⟨YJ,trivial⟩ fun x=>by kernel_rfl
theorem a7F:o8 P gl 161 b4t:=dS f161 a1Q a3O b8z a9l (by kernel_rfl) rfl trivial ⟨a7O,a7P,YJ,trivial⟩ fun x=>by kernel_rfl
theorem a7A:o8 P gl 141 b4o:=dS f141 a1G a3E b8p a9b (by kernel_rfl) rfl trivial ⟨a7E,Yy,a7F,trivial⟩ fun x=>by kernel_rfl
theorem a7o:o8 P gl 113 b4c:=dS f113 a1t a3r b8c a8O (by kernel_rfl) rfl trivial ⟨a7z,a7A,Yy,trivial⟩ fun x=>by kernel_rfl
theorem b6g:o8 P gl 78 s78:=dS f78 b2q b3K e78 b7F (by kernel_rfl) rfl trivial ⟨a7o,trivial⟩ fun x=>by kernel_rfl
theorem YY:o8 P gl 39 s39:=dS f39 b1Q b3j e39 b7e (by kernel_rfl) rfl trivial ⟨b6d,b6e,b6f,b6g,trivial⟩ fun x=>by kernel_rfl
theorem Yq:o8 P gl 103 a6J:=dS f103 a1o a3m b7W a8I (by kernel_rfl) rfl trivial ⟨YY,trivial⟩ fun x=>by kernel_rfl
theorem Oc:o8 P gl 123 PZ:=dS f123 Sl Ti a6g ZE (by kernel_rfl) rfl trivial trivial fun x=>by kernel_rfl
theorem YB:o8 P gl 148 XR:=dS f148 Sr Tj a6h ZF (by kernel_rfl) rfl trivial ⟨Oc,trivial⟩ fun x=>by kernel_rfl
theorem Yw:o8 P gl 122 XQ:=dS f122 Sj Tf a6f ZC (by kernel_rfl) rfl trivial ⟨YB,trivial⟩ fun x=>by kernel_rfl
theorem Yr:o8 P gl 104 XN:=dS f104 RX SX a6b Zy (by kernel_rfl) rfl trivial ⟨Oc,Yw,trivial⟩ fun x=>by kernel_rfl
theorem Ob:o8 P gl 105 PY:=dS f105 RY SY a6c Zz (by kernel_rfl) rfl trivial trivial fun x=>by kernel_rfl
theorem a7T:o8 P gl 191 b4H:=dS f191 a2i a4h b8T a9F (by kernel_rfl) rfl trivial trivial fun x=>by kernel_rfl
theorem a7N:o8 P gl 172 b4B:=dS f172 a1Z a3Y b8J a9v (by kernel_rfl) rfl trivial ⟨a7T,trivial⟩ fun x=>by kernel_rfl
theorem a7C:o8 P gl 149 b4q:=dS f149 a1M a3K b8v a9h (by kernel_rfl) rfl trivial ⟨a7N,trivial⟩ fun x=>by kernel_rfl
theorem a7u:o8 P gl 124 b4i:=dS f124 a1z a3x b8i a8U (by kernel_rfl) rfl trivial ⟨a7C,trivial⟩ fun x=>by kernel_rfl
theorem a7k:o8 P gl 106 b3Y:=dS f106 a1p a3n b7X a8J (by kernel_rfl) rfl trivial ⟨Yq,a7u,trivial⟩ fun x=>by kernel_rfl
theorem a7v:o8 P gl 125 b4j:=dS f125 a1A a3y b8j a8V (by kernel_rfl) rfl trivial trivial fun x=>by kernel_rfl
theorem a0V:∀n,o8 P gl 107 ⟨WR,[],[(true,(.pair (.own (.prod (.int .i64) (.prod (.int .i64) (.prod (.int .i64) (.prod (.int .i64) (.prod (.int .i64) (.prod (.int .i64) (.prod (.int .i64) (.int .i64))))))))) (.pair (.dat (.prod (.sl (.prod .str (.sl .str))) (.prod (.sl (.prod .str (.prod (.prod (.int .i64) (.int .i64)) (.prod (.prod (.int .i64) (.int .i64)) (.sl (.prod (.prod (.int .i64) (.int .i64)) (.prod (.int .i64) (.prod (.int .i64) (.int .i64))))))))) (.sl (.prod .str (.prod (.int .i64) (.prod (.sl (.prod .str (.prod (.int .i64) (.int .i64)))) (.prod (.sl (.prod .str (.prod (.int .i64) (.int .i64)))) (.sl (.prod .str (.prod (.int .i64) (.prod (.int .i64) (.prod (.int .i64) (.prod (.prod (.int .i64) (.int .i64)) (.prod (.sl (.prod (.int .i64) (.int .i64))) (.prod (.sl (.prod (.int .i64) (.int .i64))) .str)))))))))))))))) (.pair (.dat (.int .i64)) (.pair (.dat (.prod (.int .i64) (.prod (.sl (.prod (.int .i64) (.prod (.int .i64) (.int .i64)))) (.sl (.sl (.prod (.int .i64) (.prod (.int .i64) (.int .i64)))))))) (.pair (.own (.ent true true (.prod (.int .i64) (.int .i64)) (.prod (.prod (.int .i64) (.prod (.int .i64) (.int .i64))) (.int .i64)))) (.dat (.prod (.int .i64) (.prod (.int .i64) (.prod (.int .i64) (.int .i64)))))))))))],fun x=>(F5 n).1 x.1 x.2.1 x.2.2.1 x.2.2.2⟩∧o8 P gl 72 ⟨a0n,[],[(true,(.pair (.own (.prod (.int .i64) (.prod (.int .i64) (.prod (.int .i64) (.prod (.int .i64) (.prod (.int .i64) (.prod (.int .i64) (.prod (.int .i64) (.int .i64))))))))) (.pair (.dat (.prod (.sl (.prod .str (.sl .str))) (.prod (.sl (.prod .str (.prod (.prod (.int .i64) (.int .i64)) (.prod (.prod (.int .i64) (.int .i64)) (.sl (.prod (.prod (.int .i64) (.int .i64)) (.prod (.int .i64) (.prod (.int .i64) (.int .i64))))))))) (.sl (.prod .str (.prod (.int .i64) (.prod (.sl (.prod .str (.prod (.int .i64) (.int .i64)))) (.prod (.sl (.prod .str (.prod (.int .i64) (.int .i64)))) (.sl (.prod .str (.prod (.int .i64) (.prod (.int .i64) (.prod (.int .i64) (.prod (.prod (.int .i64) (.int .i64)) (.prod (.sl (.prod (.int .i64) (.int .i64))) (.prod (.sl (.prod (.int .i64) (.int .i64))) .str)))))))))))))))) (.pair (.dat (.int .i64)) (.pair (.dat (.prod (.int .i64) (.prod (.sl (.prod (.int .i64) (.prod (.int .i64) (.int .i64)))) (.sl (.sl (.prod (.int .i64) (.prod (.int .i64) (.int .i64)))))))) (.pair (.own (.ent true true (.prod (.int .i64) (.int .i64)) (.prod (.prod (.int .i64) (.prod (.int .i64) (.int .i64))) (.int .i64)))) (.dat (.prod (.int .i64) (.prod (.int .i64) (.prod (.int .i64) (.int .i64)))))))))))],fun x=>(F5 n).2 x.1 x.2.1 x.2.2⟩:=by
 intro n
 induction n with
 | zero=>exact⟨(fun w ok O vals x r _ _ _ _ _ h=>by cases h),(fun w ok O vals x r _ _ _ _ _ h=>by cases h)⟩
 | succ n ih=>exact⟨dS f107 WR b2E (b7Y (F5 n).1 (F5 n).2) a8K (by kernel_rfl) rfl trivial ⟨a7v,Ob,ih.2,trivial⟩ fun x=>by kernel_rfl,
  dS f72 a0n b3G (e72 (F5 n).1 (F5 n).2) b7B (by kernel_rfl) rfl trivial ⟨Yq,Yr,Ob,a7k,ih.1,trivial⟩ fun x=>by kernel_rfl⟩
theorem b6c:o8 P gl 72 s72:=(a0V bH).2
theorem b5I:o8 P gl 37 s37:=dS f37 b1O b3h e37 b7c (by kernel_rfl) rfl trivial ⟨YY,b6c,trivial⟩ fun x=>by kernel_rfl
theorem b5J:o8 P gl 38 s38:=dS f38 b1P b3i e38 b7d (by kernel_rfl) rfl trivial ⟨Zc,Zd,trivial⟩ fun x=>by kernel_rfl
theorem b5x:o8 P gl 19 s19:=dS f19 b1v b2O e19 b6K (by kernel_rfl) rfl trivial ⟨b5I,b5J,TF,YY,trivial⟩ fun x=>by kernel_rfl
theorem a5v:o8 P gl 20 s20:=dS f20 b1w b2Q e20 b6L (by kernel_rfl) rfl trivial trivial fun x=>by kernel_rfl
theorem a5t:o8 P gl 12 s12:=dS f12 b1o b2G e12 b6D (by kernel_rfl) rfl trivial ⟨a5w,a5x,trivial⟩ fun x=>by kernel_rfl
theorem a8A:o8 P gl 8 s8:=dS f8 ps8 rt8 e8 an8 (by kernel_rfl) rfl trivial ⟨b5w,TF,b5x,a5v,a5t,trivial⟩ fun x=>by kernel_rfl
theorem a5B:o8 P gl 49 s49:=dS f49 b1Y b3r e49 b7m (by kernel_rfl) rfl trivial trivial fun x=>by kernel_rfl
theorem a5y:o8 P gl 29 s29:=dS f29 b1G b2Z e29 b6U (by kernel_rfl) rfl trivial ⟨a5B,trivial⟩ fun x=>by kernel_rfl
theorem a5u:o8 P gl 13 s13:=dS f13 b1p b2H e13 b6E (by kernel_rfl) rfl trivial ⟨a5y,trivial⟩ fun x=>by kernel_rfl
theorem b6o:o8 P gl 86 s86:=dS f86 b2w b3Q e86 b7L (by kernel_rfl) rfl trivial trivial fun x=>by kernel_rfl
theorem b5S:o8 P gl 50 s50:=dS f50 b1Z b3s e50 b7n (by kernel_rfl) rfl trivial ⟨b6o,trivial⟩ fun x=>by kernel_rfl
theorem b5D:o8 P gl 26 s26:=dS f26 b1D b2W e26 b6R (by kernel_rfl) rfl trivial ⟨a5y,a5u,a5B,b5S,trivial⟩ fun x=>by kernel_rfl
theorem b5r:o8 P gl 11 s11:=dS f11 b1m b2F e11 b6C (by kernel_rfl) rfl trivial ⟨b5D,trivial⟩ fun x=>by kernel_rfl
theorem b6h:o8 P gl 79 s79:=dS f79 b2r b3L e79 b7G (by kernel_rfl) rfl trivial trivial fun x=>by kernel_rfl
theorem b5K:o8 P gl 40 s40:=dS f40 b1R b3k e40 b7f (by kernel_rfl) rfl trivial ⟨b6h,trivial⟩ fun x=>by kernel_rfl
theorem b5y:o8 P gl 21 s21:=dS f21 b1x b2R e21 b6M (by kernel_rfl) rfl trivial ⟨b5K,trivial⟩ fun x=>by kernel_rfl
theorem b6i:o8 P gl 80 s80:=dS f80 b2s b3M e80 b7H (by kernel_rfl) rfl trivial trivial fun x=>by kernel_rfl
theorem b5L:o8 P gl 41 s41:=dS f41 b1S b3l e41 b7g (by kernel_rfl) rfl trivial ⟨b6i,trivial⟩ fun x=>by kernel_rfl
theorem b5z:o8 P gl 22 s22:=dS f22 b1y b2S e22 b6N (by kernel_rfl) rfl trivial ⟨b5L,trivial⟩ fun x=>by kernel_rfl
theorem b6j:o8 P gl 81 s81:=dS f81 b2t b3N e81 b7I (by kernel_rfl) rfl trivial trivial fun x=>by kernel_rfl
theorem a7p:o8 P gl 114 b4d:=dS f114 a1u a3s b8d a8P (by kernel_rfl) rfl trivial ⟨a5v,trivial⟩ fun x=>by kernel_rfl
theorem b6k:o8 P gl 82 s82:=dS f82 b2u b3O e82 b7J (by kernel_rfl) rfl trivial ⟨a7p,trivial⟩ fun x=>by kernel_rfl
theorem b5M:o8 P gl 42 s42:=dS f42 b1T b3m e42 b7h (by kernel_rfl) rfl trivial ⟨b6j,b6k,trivial⟩ fun x=>by kernel_rfl
theorem b5A:o8 P gl 23 s23:=dS f23 b1A b2T e23 b6O (by kernel_rfl) rfl trivial ⟨b5M,trivial⟩ fun x=>by kernel_rfl
theorem b6s:o8 P gl 9 s9:=dS f9 ps9 rt9 e9 an9 (by kernel_rfl) rfl trivial ⟨b5y,b5z,b5A,trivial⟩ fun x=>by kernel_rfl
theorem c0f:o8 P gl 3 s3:=dS f3 ps3 rt3 e3 an3 (by kernel_rfl) rfl trivial ⟨b5W,a8z,a8A,TF,b5r,b6s,trivial⟩ fun x=>by kernel_rfl
theorem c0g:o8 P gl 4 s4:=dS f4 ps4 rt4 e4 an4 (by kernel_rfl) rfl trivial ⟨a8A,a5t,a5u,trivial⟩ fun x=>by kernel_rfl
theorem c0h:o8 P gl 5 s5:=dS f5 ps5 rt5 e5 an5 (by kernel_rfl) rfl trivial ⟨b5W,a8z,a8A,TF,b6s,trivial⟩ fun x=>by kernel_rfl
end Gt
