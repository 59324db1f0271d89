import Derived.Test.YtoilbhecaokonabGreatDoorT2
import Derived.Test.YtoilbhecaokonabGreatDoorProg
import Derived.Test.YtoilbhecaokonabGreatDoorShelf
set_option linter.all false
open Go Go.GP Go.Proofs.Tryz
namespace Gt
set_option maxRecDepth 100000
noncomputable abbrev P:Program:=Go.Proofs.Tryz.prog
theorem a8Z:RJ P tt=true:=by kernel_rfl
theorem a1V:∀t sh,Z4 eqs t=some sh->Bd P t sh:=Qa (by kernel_rfl)
theorem dS{f:FuncId}(fn:Func)(ps:List MG)(rt:Ret)(E:Env)(an:Ann){F:bC ps->Option rt.den}(h:(P.funcs[f]?,fn.body,fn.ntmps,fn.results.toList,Nat.ble (64*E.nt) 999936,MW P E.fs)=(some fn,some (Ob fn),E.nt,rt.rs.map (·.1),true,true))(ht:(E.tt,E.eqs)=(tt,eqs))(hm:PH P E.ms)(hs:WY P E.gl E.fs)(hF:∀x,a0a E ps rt (Ob fn) an x=F x):
  ig P E.gl f ⟨ps,rt.rs.map (·.2),rt.outs.map (·.2),F⟩:=by
 injection h with h1 h;injection h with h2 h;injection h with h3 h;injection h with h4 h;injection h with h5 h6;injection ht with t1 t2;exact SC h1 h2 h3 h4 (XA h5 (t1▸a8Z) (t2▸a1V) h6 hm hs) λx r h=>(hF x).trans h
theorem dQ{f:FuncId}(fn:Func)(q:FQ){F:bC q.ps->Option q.rt.den}(hs:WY P q.E.gl q.E.fs:=by exact trivial)(h:(P.funcs[f]?,fn.body,fn.ntmps,fn.results.toList,Nat.ble (64*q.E.nt) 999936,MW P q.E.fs)=(some fn,some (Ob fn),q.E.nt,q.rt.rs.map (·.1),true,true):=by kernel_rfl)(ht:(q.E.tt,q.E.eqs)=(tt,eqs):=by rfl)(hm:PH P q.E.ms:=by exact trivial)(hF:∀x,a0a q.E q.ps q.rt (Ob fn) q.an x=F x:=by intro x;kernel_rfl):
  ig P q.E.gl f ⟨q.ps,q.rt.rs.map (·.2),q.rt.outs.map (·.2),F⟩:=dS fn q.ps q.rt q.E q.an h ht hm hs hF
abbrev FG(n:FuncId)(s:FSpec):=ig P gl n s
def a9s:FG 4 s4:=dQ f4 q4
def a7Z:FG 10 s10:=dQ f10 q10
def a1L:FG 94 s94:=dQ f94 q94
def a2S:FG 125 a6Q:=dQ f125 a4U
def a8X:FG 95 s95:=dQ f95 q95 ⟨a1L,a2S,F6⟩
def a8Y:FG 96 s96:=dQ f96 q96
def Rt:FG 62 s62:=dQ f62 q62 ⟨a1L,a8X,a8Y,F6⟩
def Vz:FG 98 ZB:=dQ f98 a1r
def ZN:FG 126 Zl:=dQ f126 YD ⟨Vz,F6⟩
def a0S:FG 97 a1A:=dQ f97 a1q ⟨ZN,F6⟩
def A_:FG 63 s63:=dQ f63 q63 ⟨Vz,a0S,F6⟩
def a2Q:FG 123 a6O:=dQ f123 a4S
def a8U:FG 88 s88:=dQ f88 q88 ⟨a2Q,F6⟩
def a8G:FG 60 s60:=dQ f60 q60 ⟨Rt,A_,a8U,F6⟩
def a8t:FG 35 s35:=dQ f35 q35 ⟨a8G,F6⟩
def NP:FG 85 s85:=dQ f85 q85
def Vx:FG 89 s89:=dQ f89 q89 ⟨NP,F6⟩
def C_:FG 90 s90:=dQ f90 q90
def a3c:FG 151 a7a:=dQ f151 a5h ⟨C_,F6⟩
def a2R:FG 124 a6P:=dQ f124 a4T ⟨a3c,F6⟩
def a8W:FG 93 s93:=dQ f93 q93 ⟨a2R,F6⟩
def Vy:FG 92 ZA:=dQ f92 a1p ⟨a8W,F6⟩
def a0Q:FG 91 a1y:=dQ f91 a1n ⟨Vy,F6⟩
def a8H:FG 61 s61:=dQ f61 q61 ⟨NP,Vx,C_,Vy,a0Q,F6⟩
def QZ:FG 100 TP:=dQ f100 YA
def ZO:FG 127 Zm:=dQ f127 YE ⟨QZ,F6⟩
def a0T:FG 99 a1B:=dQ f99 a1s ⟨ZO,F6⟩
def a1H:FG 64 s64:=dQ f64 q64 ⟨QZ,a0T,F6⟩
def a8u:FG 36 s36:=dQ f36 q36 ⟨a8H,Rt,A_,a1H,F6⟩
def Rf:FG 102 TQ:=dQ f102 YC
def ZP:FG 128 Zn:=dQ f128 YF ⟨Rf,F6⟩
def ZK:FG 101 Zi:=dQ f101 YB ⟨ZP,F6⟩
def Rh:FG 129 TR:=dQ f129 YG
def ZW:FG 152 Zq:=dQ f152 YK ⟨Rh,F6⟩
def ZR:FG 130 Zo:=dQ f130 YH ⟨ZW,F6⟩
def a2G:FG 103 a6E:=dQ f103 a4G ⟨Rh,Rt,ZR,NP,F6⟩
def a2T:FG 131 a6R:=dQ f131 a4V
def a2H:FG 104 a6F:=dQ f104 a4H ⟨a2T,F6⟩
def Ri:FG 133 TS:=dQ f133 YJ
def ZX:FG 153 Zr:=dQ f153 YL ⟨Ri,F6⟩
def ZT:FG 132 Zp:=dQ f132 YI ⟨ZX,F6⟩
theorem a3d:ig Go.Proofs.Tryz.prog gl 154 a7b:=Iz Go.Proofs.Tryz.strings_Contains_one
def a2U:FG 134 a6S:=dQ f134 a4W ⟨a3d,F6⟩
def Lp:FG 180 WN:=dQ f180 a5r
def a_:FG 178 a2q:=dQ f178 a5p ⟨Lp,F6⟩
def b_:FG 179 a2r:=dQ f179 a5q
def a3q:FG 200 a7o:=dQ f200 a5z ⟨Vx,F6⟩
def a3r:FG 201 a7p:=dQ f201 a5A
def j_:FG 202 a2t:=dQ f202 a5B ⟨NP,F6⟩
def l_:FG 205 a2u:=dQ f205 a5E
def a3s:FG 203 a7q:=dQ f203 a5C ⟨l_,NP,F6⟩
def m_:FG 220 a2v:=dQ f220 a5N
def a3t:FG 204 a7r:=dQ f204 a5D ⟨j_,m_,F6⟩
def a3B:FG 221 a7z:=dQ f221 a5O
def a3u:FG 206 a7s:=dQ f206 a5F ⟨m_,a3B,F6⟩
def a3l:FG 181 a7j:=dQ f181 a5s ⟨a3q,a3r,j_,a3s,a3t,l_,a3u,F6⟩
def a3e:FG 155 a7c:=dQ f155 a5i ⟨a_,b_,Lp,a3l,F6⟩
def a2V:FG 135 a6T:=dQ f135 a4X ⟨a3e,F6⟩
def a2I:FG 105 a6G:=dQ f105 a4I ⟨Rt,Ri,ZT,a2U,a2V,F6⟩
theorem ZL:ig Go.Proofs.Tryz.prog gl 112 a2m:=Ui Go.Proofs.Tryz.slices_Sort_int Go.Proofs.Tryz.slices_Sort_int_none
theorem ZM:ig Go.Proofs.Tryz.prog gl 113 a2n:=LP Go.Proofs.Tryz.slices_Compact_int Go.Proofs.Tryz.slices_Compact_int_empty
def a2O:FG 111 a6M:=dQ f111 a4O ⟨ZL,ZM,F6⟩
def a1J:FG 75 s75:=dQ f75 q75 ⟨a2O,F6⟩
def a2N:FG 110 a6L:=dQ f110 a4N ⟨a1J,F6⟩
def a1K:FG 76 s76:=dQ f76 q76 ⟨ZL,ZM,F6⟩
def B_:FG 74 s74:=dQ f74 q74 ⟨a2N,a1K,F6⟩
def a1I:FG 73 s73:=dQ f73 q73
def Vt:FG 46 s46:=dQ f46 q46 ⟨B_,a1I,F6⟩
def a2W:FG 136 a6U:=dQ f136 a4Y
def a2J:FG 106 a6H:=dQ f106 a4J ⟨a2W,F6⟩
def a8I:FG 65 s65:=dQ f65 q65 ⟨A_,a1H,Rf,ZK,Rt,a2G,a2H,a2I,Vt,a2J,F6⟩
def a8v:FG 37 s37:=dQ f37 q37 ⟨a8I,F6⟩
def a1E:FG 23 s23:=dQ f23 q23 ⟨a8t,a8u,a8v,F6⟩
def a8J:FG 66 s66:=dQ f66 q66
def a8w:FG 39 s39:=dQ f39 q39 ⟨a8J,F6⟩
def a0N:FG 38 a1v:=dQ f38 a1k ⟨a8w,F6⟩
def a8K:FG 67 s67:=dQ f67 q67
def a8x:FG 41 s41:=dQ f41 q41 ⟨a8K,F6⟩
def a0O:FG 40 a1w:=dQ f40 a1l ⟨a8x,F6⟩
def a8L:FG 68 s68:=dQ f68 q68
def a8y:FG 43 s43:=dQ f43 q43 ⟨a8L,F6⟩
def a0P:FG 42 a1x:=dQ f42 a1m ⟨a8y,F6⟩
def a8j:FG 24 s24:=dQ f24 q24 ⟨a0N,a0O,a0P,F6⟩
def a2X:FG 137 a6V:=dQ f137 a4Z ⟨Vx,F6⟩
def a2Y:FG 138 a6W:=dQ f138 a5a
def a2K:FG 107 a6I:=dQ f107 a4K ⟨a2X,a2Y,F6⟩
def a8M:FG 69 s69:=dQ f69 q69 ⟨a1E,a2K,F6⟩
def a8N:FG 70 s70:=dQ f70 q70
def a1G:FG 47 s47:=dQ f47 q47 ⟨B_,a1I,a1J,a1K,F6⟩
def a2L:FG 108 a6J:=dQ f108 a4L ⟨Vt,F6⟩
def a8O:FG 71 s71:=dQ f71 q71 ⟨Vt,a1G,a2L,F6⟩
def z_:FG 279 Zz:=dQ f279 YT
def Ub:FG 157 a0D:=dQ f157 a5j
def y_:FG 277 a2F:=dQ f277 a6y
def Ug:FG 280 a0I:=dQ f280 a6A
theorem a4A:tu Go.Proofs.Tryz.prog 265 "Less" 277 (some 266):=Dq (by kernel_rfl)
theorem a2b:tu Go.Proofs.Tryz.prog 265 "Swap" 280 (some 266):=Dq (by kernel_rfl)
def d_:FG 182 Zv:=dQ f182 YO ⟨y_,Ug,F6⟩ (hm:=⟨a4A,a2b,trivial⟩)
theorem a4B:tu Go.Proofs.Tryz.prog 265 "Len" 157 (some 266):=Dq (by kernel_rfl)
theorem a9j:tu Go.Proofs.Tryz.prog 265 "Push" 279 none:=λv w=>show(method _ 265 v "Push").run _ w= .ok (279,v) w by kernel_rfl
def ZY:FG 156 Zt:=dQ f156 YM ⟨z_,Ub,d_,F6⟩ (hm:=⟨a4B,a9j,trivial⟩)
def f_:FG 183 Zw:=dQ f183 YP ⟨y_,Ug,F6⟩ (hm:=⟨a4A,a2b,trivial⟩)
def a3Y:FG 278 a7W:=dQ f278 a6z
theorem a9k:tu Go.Proofs.Tryz.prog 265 "Pop" 278 none:=λv w=>show(method _ 265 v "Pop").run _ w= .ok (278,v) w by kernel_rfl
def ZZ:FG 158 Zu:=dQ f158 YN ⟨Ub,Ug,f_,a3Y,F6⟩ (hm:=⟨a4B,a9k,a2b,trivial⟩)
def a2Z:FG 139 a6X:=dQ f139 a5b ⟨B_,ZY,Ub,ZZ,F6⟩
def Uc:FG 186 a0E:=dQ f186 a5t ⟨C_,F6⟩
def Rj:FG 185 TT:=dQ f185 YR ⟨Uc,F6⟩
def g_:FG 184 Zx:=dQ f184 YQ ⟨Rj,F6⟩
def a3f:FG 159 a7d:=dQ f159 a5k ⟨Rj,g_,F6⟩
def a3h:FG 161 a7f:=dQ f161 a5m ⟨a_,F6⟩
def a3o:FG 190 a7m:=dQ f190 a5x ⟨Lp,F6⟩
def Gu:FG 214 TU:=dQ f214 a5M
def a3w:FG 209 a7u:=dQ f209 a5H ⟨Lp,b_,F6⟩
def a3x:FG 210 a7v:=dQ f210 a5I
def a3y:FG 211 a7w:=dQ f211 a5J ⟨Gu,F6⟩
def n_:FG 223 a2w:=dQ f223 a5Q ⟨Gu,F6⟩
def Ud:FG 235 a0F:=dQ f235 a6a
def a3D:FG 224 a7B:=dQ f224 a5R ⟨Ud,F6⟩
def a3E:FG 225 a7C:=dQ f225 a5S ⟨Ud,F6⟩
def o_:FG 227 a2x:=dQ f227 a5U
def a3F:FG 226 a7D:=dQ f226 a5T ⟨o_,Ud,F6⟩
def a3z:FG 212 a7x:=dQ f212 a5K ⟨Gu,n_,a3D,a3E,a3F,o_,F6⟩
def a3G:FG 228 a7E:=dQ f228 a5V ⟨n_,Gu,F6⟩
def Ro:FG 236 TV:=dQ f236 YS ⟨Uc,F6⟩
def a0R:FG 91 a1z:=dQ f91 a1o ⟨Ro,F6⟩
def a3H:FG 229 a7F:=dQ f229 a5W ⟨Ro,a0R,F6⟩
theorem Vw:ig Go.Proofs.Tryz.prog gl 81 s81:=QB Go.Proofs.Tryz.bits_Mul64
def a3b:FG 145 a6Z:=dQ f145 a5e
def a3V:FG 251 a7T:=dQ f251 a6p ⟨a3b,F6⟩
def Ue:FG 243 a0G:=dQ f243 a6h ⟨a3V,F6⟩
def a3L:FG 237 a7J:=dQ f237 a6b ⟨Vw,Ue,F6⟩
def Uf:FG 252 a0H:=dQ f252 a6q
def Vu:FG 51 s51:=dQ f51 q51
def t_:FG 253 a2A:=dQ f253 a6r
def u_:FG 254 a2B:=dQ f254 a6s
def v_:FG 255 a2C:=dQ f255 a6t
def Pn:FG 244 Zy:=dQ f244 a6i ⟨Uf,Vu,t_,u_,v_,F6⟩
def a3M:FG 238 a7K:=dQ f238 a6c ⟨Pn,F6⟩
def a3I:FG 230 a7G:=dQ f230 a5X ⟨Uc,a3L,a3M,F6⟩
def p_:FG 239 a2y:=dQ f239 a6d
def Pj:FG 120 Zj:=dQ f120 a4P
def a3j:FG 175 a7h:=dQ f175 a5n
def ZV:FG 149 a2p:=dQ f149 a5f ⟨a3j,F6⟩
def a3k:FG 176 a7i:=dQ f176 a5o
def Ua:FG 150 a0C:=dQ f150 a5g ⟨a3k,F6⟩
def Pm:FG 121 Zk:=dQ f121 a4Q ⟨Pj,ZV,Ua,F6⟩
def a3J:FG 231 a7H:=dQ f231 a5Y ⟨p_,Pm,F6⟩
def a3P:FG 245 a7N:=dQ f245 a6j ⟨Vw,F6⟩
def a3W:FG 256 a7U:=dQ f256 a6u ⟨Uf,Vu,t_,Vw,Ue,u_,v_,F6⟩
def a3Q:FG 246 a7O:=dQ f246 a6k ⟨a3W,F6⟩
def w_:FG 257 a2D:=dQ f257 a6v
def x_:FG 258 a2E:=dQ f258 a6w
def a3R:FG 247 a7P:=dQ f247 a6l ⟨w_,x_,Pn,F6⟩
def a3S:FG 248 a7Q:=dQ f248 a6m ⟨Uf,Vu,Pn,F6⟩
def a3X:FG 259 a7V:=dQ f259 a6x
def a3T:FG 249 a7R:=dQ f249 a6n ⟨w_,x_,Vw,Ue,a3X,F6⟩
def a3N:FG 240 a7L:=dQ f240 a6e ⟨a3P,a3Q,a3R,a3S,Pn,a3T,F6⟩
def a3U:FG 250 a7S:=dQ f250 a6o ⟨Ua,ZV,F6⟩
def r_:FG 241 a2z:=dQ f241 a6f ⟨Pj,Pm,Ua,a3U,F6⟩
def a3O:FG 242 a7M:=dQ f242 a6g ⟨Pj,Pm,r_,F6⟩
def a3K:FG 232 a7I:=dQ f232 a5Z ⟨a3N,p_,r_,a3O,F6⟩
def a3A:FG 213 a7y:=dQ f213 a5L ⟨a3G,a3H,a3I,a3J,a3K,F6⟩
def a3p:FG 192 a7n:=dQ f192 a5y ⟨a3w,Lp,a3x,a3y,a3z,a3A,Gu,F6⟩
theorem a0U:∀n,ig P gl 208 ⟨Yz,[(true,(.dat (.prod (.int .i64) (.prod (.int .i64) (.int .i64))))),(false,(.dat (.int .i64)))],[],λx=>(F5 n).1 x.1 x.2⟩/\ig P gl 162 ⟨NF,[(true,(.dat (.prod (.int .i64) (.prod (.int .i64) (.int .i64))))),(false,(.dat (.int .i64)))],[],λx=>(F5 n).2.1 x.1 x.2⟩/\ig P gl 191 ⟨Yy,[(true,(.dat (.prod (.int .i64) (.prod (.int .i64) (.int .i64))))),(false,(.dat (.int .i64)))],[],λx=>(F5 n).2.2 x.1 x.2.1 x.2.2⟩:=by
 intro n;induction n with
 |zero=>exact⟨(λw ok O vals x r _ _ _ _ _ h=>by cases h),(λw ok O vals x r _ _ _ _ _ h=>by cases h),(λw ok O vals x r _ _ _ _ _ h=>by cases h)⟩
 |succ n ih=>exact⟨dS f208 Yz a6C (a9g (F5 n).1 (F5 n).2.1 (F5 n).2.2) a4h (by kernel_rfl) rfl trivial ⟨ih.2.1,Gu,trivial⟩ λx=>by kernel_rfl,
  dS f162 NF a1u (a9e (F5 n).1 (F5 n).2.1 (F5 n).2.2) a4f (by kernel_rfl) rfl trivial ⟨a3o,ih.2.2,ih.2.1,a3p,trivial⟩ λx=>by kernel_rfl,
  dS f191 Yy a6B (a9f (F5 n).1 (F5 n).2.1 (F5 n).2.2) a4g (by kernel_rfl) rfl trivial ⟨ih.1,ih.2.1,trivial⟩ λx=>by kernel_rfl⟩
theorem a3i:ig P gl 162 a7g:=(a0U lF).2.1
def ZU:FG 141 a2o:=dQ f141 a5d ⟨a3h,a3i,F6⟩
def a3m:FG 187 a7k:=dQ f187 a5u
def a3C:FG 222 a7A:=dQ f222 a5P
def a3v:FG 207 a7t:=dQ f207 a5G ⟨a3C,F6⟩
def h_:FG 189 a2s:=dQ f189 a5w ⟨a3v,F6⟩
def a3n:FG 188 a7l:=dQ f188 a5v ⟨h_,F6⟩
def a3g:FG 160 a7e:=dQ f160 a5l ⟨a3m,a3n,h_,F6⟩
def a3a:FG 140 a6Y:=dQ f140 a5c ⟨a3f,ZU,a3g,F6⟩
def a2M:FG 109 a6K:=dQ f109 a4M ⟨a2Z,a3a,ZU,F6⟩
def a8P:FG 72 s72:=dQ f72 q72 ⟨a2M,F6⟩
def a8z:FG 44 s44:=dQ f44 q44 ⟨a8M,a8N,a8O,a8P,F6⟩
def a8k:FG 25 s25:=dQ f25 q25 ⟨a8z,F6⟩
def a8A:FG 45 s45:=dQ f45 q45
def a8l:FG 26 s26:=dQ f26 q26 ⟨Vt,a8A,a1G,F6⟩
def a8B:FG 48 s48:=dQ f48 q48
def a8C:FG 49 s49:=dQ f49 q49
def a8Q:FG 77 s77:=dQ f77 q77
def a8R:FG 78 s78:=dQ f78 q78
def a8D:FG 50 s50:=dQ f50 q50 ⟨a8Q,a8R,F6⟩
def a8m:FG 27 s27:=dQ f27 q27 ⟨a8B,a8C,a8D,F6⟩
def a8g:FG 18 s18:=dQ f18 q18 ⟨a1E,a8j,a8k,a8l,a8m,F6⟩
def ZQ:FG 13 s13:=dQ f13 q13
def a8n:FG 28 s28:=dQ f28 q28 ⟨ZQ,F6⟩
def a8o:FG 29 s29:=dQ f29 q29
def a8p:FG 30 s30:=dQ f30 q30 ⟨Vu,F6⟩
def a8h:FG 19 s19:=dQ f19 q19 ⟨a8n,a8o,a8p,F6⟩
def a8a:FG 11 s11:=dQ f11 q11 ⟨a8g,a8h,F6⟩
theorem a8q:ig Go.Proofs.Tryz.prog gl 31 s31:=Tc (g:=0) Go.Proofs.Tryz.strconv_Itoa (by kernel_rfl) (by kernel_rfl)
def Rk:FG 20 s20:=dQ f20 q20 ⟨a8q,F6⟩
def a8r:FG 32 s32:=dQ f32 q32
theorem a1F:ig Go.Proofs.Tryz.prog gl 33 s33:=OX Go.Proofs.Tryz.strings_Repeat
def a1D:FG 21 s21:=dQ f21 q21 ⟨a8r,Rk,a1F,F6⟩
def a8S:FG 86 s86:=dQ f86 q86 ⟨Vx,F6⟩
def a2P:FG 122 a6N:=dQ f122 a4R ⟨Rk,a1F,F6⟩
def a8T:FG 87 s87:=dQ f87 q87 ⟨Pj,Pm,a2P,F6⟩
def a8E:FG 59 s59:=dQ f59 q59 ⟨NP,a8S,Rk,a1D,a8T,F6⟩
def a8s:FG 34 s34:=dQ f34 q34 ⟨Rk,a8E,F6⟩
def a8i:FG 22 s22:=dQ f22 q22 ⟨a8s,F6⟩
def a8b:FG 12 s12:=dQ f12 q12 ⟨Rk,a1D,ZQ,a8i,F6⟩
def a8c:FG 14 s14:=dQ f14 q14
def a8F:FG 6 s6:=dQ f6 q6 ⟨ZQ,a8c,F6⟩
def a8V:FG 9 s9:=dQ f9 q9
def a9t:FG 5 s5:=dQ f5 q5 ⟨a7Z,a8a,a8b,a8F,a8V,F6⟩
def a8d:FG 15 s15:=dQ f15 q15
def a8e:FG 16 s16:=dQ f16 q16
def a8f:FG 17 s17:=dQ f17 q17
def a9u:FG 7 s7:=dQ f7 q7 ⟨a8d,a8e,a8f,F6⟩
def a9v:FG 8 s8:=dQ f8 q8
def a9r:FG 3 s3:=dQ f3 q3 ⟨a9s,a9t,a8F,a9u,a9v,a8V,F6⟩
end Gt
