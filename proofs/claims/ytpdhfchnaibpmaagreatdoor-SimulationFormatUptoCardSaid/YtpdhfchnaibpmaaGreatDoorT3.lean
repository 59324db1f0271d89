import Derived.Test.YtpdhfchnaibpmaaGreatDoorT2
import Derived.Test.YtpdhfchnaibpmaaGreatDoorProg
import Derived.Test.YtpdhfchnaibpmaaGreatDoorShelf
set_option linter.all false
open Go Go.GP Go.Proofs.Tryz
namespace Gt
set_option maxRecDepth 100000
noncomputable abbrev P:Program:=Go.Proofs.Tryz.prog
theorem a3I:MB P tt=true:=by kernel_rfl
theorem Xk:∀t sh,X8 eqs t=some sh->yX P t sh:=Kv (by kernel_rfl)
theorem dS{f:FuncId}(fn:Func)(ps:List MG)(rt:Ret)(E:Env)(an:Ann){F:ai ps->Option rt.den}(h:(P.funcs[f]?,fn.body,fn.ntmps,fn.results.toList,Nat.ble (64*E.nt) 999936,IC P E.fs)=(some fn,some (Jk fn),E.nt,rt.rs.map (·.1),true,true))(ht:(E.tt,E.eqs)=(tt,eqs))(hm:JY P E.ms)(hs:QH P E.gl E.fs)(hF:∀x,Vu E ps rt (Jk fn) an x=F x):
  dV P E.gl f ⟨ps,rt.rs.map (·.2),rt.outs.map (·.2),F⟩:=by
 injection h with h1 h;injection h with h2 h;injection h with h3 h;injection h with h4 h;injection h with h5 h6;injection ht with t1 t2;exact MV h1 h2 h3 h4 (QY h5 (t1▸a3I) (t2▸Xk) h6 hm hs) λx r h=>(hF x).trans h
theorem dQ{f:FuncId}(fn:Func)(q:FQ){F:ai q.ps->Option q.rt.den}(hs:QH P q.E.gl q.E.fs:=by exact trivial)(h:(P.funcs[f]?,fn.body,fn.ntmps,fn.results.toList,Nat.ble (64*q.E.nt) 999936,IC P q.E.fs)=(some fn,some (Jk fn),q.E.nt,q.rt.rs.map (·.1),true,true):=by kernel_rfl)(ht:(q.E.tt,q.E.eqs)=(tt,eqs):=by rfl)(hm:JY P q.E.ms:=by exact trivial)(hF:∀x,Vu q.E q.ps q.rt (Jk fn) q.an x=F x:=by intro x;kernel_rfl):
  dV P q.E.gl f ⟨q.ps,q.rt.rs.map (·.2),q.rt.outs.map (·.2),F⟩:=dS fn q.ps q.rt q.E q.an h ht hm hs hF
abbrev FG(n:FuncId)(s:FSpec):=dV P gl n s
def a3V:FG 4 s4:=dQ f4 q4
def a3Z:FG 9 s9:=dQ f9 q9
def Uj:FG 119 Xv:=dQ f119 ZW
def Yn:FG 149 a1x:=dQ f149 u_
def XZ:FG 120 a1j:=dQ f120 ZX ⟨Uj,Yn,D9⟩
def Ya:FG 121 a1k:=dQ f121 ZY
def LV:FG 84 s84:=dQ f84 q84 ⟨Uj,XZ,Ya,D9⟩
def LD:FG 123 NQ:=dQ f123 Sv
def Uu:FG 150 TM:=dQ f150 SE ⟨LD,D9⟩
def Uk:FG 122 TJ:=dQ f122 Su ⟨Uu,D9⟩
def Vd:FG 85 s85:=dQ f85 q85 ⟨LD,Uk,D9⟩
def Yl:FG 147 a1v:=dQ f147 r_
def XX:FG 114 a1h:=dQ f114 ZT ⟨Yl,D9⟩
def a3w:FG 82 s82:=dQ f82 q82 ⟨LV,Vd,XX,D9⟩
def a3f:FG 52 s52:=dQ f52 q52 ⟨a3w,D9⟩
def Jd:FG 75 s75:=dQ f75 q75
def JM:FG 107 TB:=dQ f107 ZL ⟨Jd,D9⟩
def Ob:FG 115 Wh:=dQ f115 ZU
def Yz:FG 172 a1I:=dQ f172 G_ ⟨Ob,D9⟩
def Ym:FG 148 a1w:=dQ f148 t_ ⟨Yz,D9⟩
def XY:FG 118 a1i:=dQ f118 ZV ⟨Ym,D9⟩
def LC:FG 117 NP:=dQ f117 Sr ⟨XY,D9⟩
def Uh:FG 116 TF:=dQ f116 Sj ⟨LC,D9⟩
def a3x:FG 83 s83:=dQ f83 q83 ⟨Jd,JM,Ob,LC,Uh,D9⟩
def LG:FG 125 NR:=dQ f125 SA
def Uw:FG 151 TN:=dQ f151 SG ⟨LG,D9⟩
def Ul:FG 124 TK:=dQ f124 Sz ⟨Uw,D9⟩
def Xc:FG 86 s86:=dQ f86 q86 ⟨LG,Ul,D9⟩
def a3g:FG 53 s53:=dQ f53 q53 ⟨a3x,LV,Vd,Xc,D9⟩
def LH:FG 127 NS:=dQ f127 SC
def Ux:FG 152 TP:=dQ f152 SH ⟨LH,D9⟩
def Um:FG 126 TL:=dQ f126 SB ⟨Ux,D9⟩
def LK:FG 153 NT:=dQ f153 SI
def UB:FG 173 TS:=dQ f173 SQ ⟨LK,D9⟩
def Uy:FG 154 TQ:=dQ f154 SK ⟨UB,D9⟩
def Yb:FG 128 a1l:=dQ f128 ZZ ⟨LK,LV,Uy,Jd,D9⟩
def Yo:FG 155 a1y:=dQ f155 v_
def Yc:FG 129 a1m:=dQ f129 a_ ⟨Yo,D9⟩
def LM:FG 157 NU:=dQ f157 SN
def UC:FG 174 TT:=dQ f174 SS ⟨LM,D9⟩
def Uz:FG 156 TR:=dQ f156 SL ⟨UC,D9⟩
theorem YA:dV Go.Proofs.Tryz.prog gl 175 a1J:=Ez Go.Proofs.Tryz.strings_Contains_one
def Yp:FG 158 a1z:=dQ f158 w_ ⟨YA,D9⟩
def Hl:FG 197 Qy:=dQ f197 O_
def UF:FG 195 XB:=dQ f195 M_ ⟨Hl,D9⟩
def UG:FG 196 XC:=dQ f196 N_
def YL:FG 217 a1U:=dQ f217 W_ ⟨JM,D9⟩
def YM:FG 218 a1V:=dQ f218 X_
def UL:FG 219 XE:=dQ f219 Y_ ⟨Jd,D9⟩
def UM:FG 222 XF:=dQ f222 a0b
def YN:FG 220 a1W:=dQ f220 Z_ ⟨UM,Jd,D9⟩
def UN:FG 237 XG:=dQ f237 a0k
def YO:FG 221 a1X:=dQ f221 a0a ⟨UL,UN,D9⟩
def YW:FG 238 a2f:=dQ f238 a0l
def YP:FG 223 a1Y:=dQ f223 a0c ⟨UN,YW,D9⟩
def YG:FG 198 a1P:=dQ f198 P_ ⟨YL,YM,UL,YN,YO,UM,YP,D9⟩
def YB:FG 176 a1K:=dQ f176 H_ ⟨UF,UG,Hl,YG,D9⟩
def Yq:FG 159 a1A:=dQ f159 x_ ⟨YB,D9⟩
def Yd:FG 130 a1n:=dQ f130 b_ ⟨LV,LM,Uz,Yp,Yq,D9⟩
theorem Un:dV Go.Proofs.Tryz.prog gl 137 Xw:=Om Go.Proofs.Tryz.slices_Sort_int Go.Proofs.Tryz.slices_Sort_int_none
theorem Uo:dV Go.Proofs.Tryz.prog gl 138 Xx:=HY Go.Proofs.Tryz.slices_Compact_int Go.Proofs.Tryz.slices_Compact_int_empty
def Yj:FG 136 a1t:=dQ f136 l_ ⟨Un,Uo,D9⟩
def Xe:FG 97 s97:=dQ f97 q97 ⟨Yj,D9⟩
def Yi:FG 135 a1s:=dQ f135 j_ ⟨Xe,D9⟩
def Xf:FG 98 s98:=dQ f98 q98 ⟨Un,Uo,D9⟩
def Ve:FG 96 s96:=dQ f96 q96 ⟨Yi,Xf,D9⟩
def Xd:FG 95 s95:=dQ f95 q95
def PL:FG 63 s63:=dQ f63 q63 ⟨Ve,Xd,D9⟩
def Yr:FG 160 a1B:=dQ f160 y_
def Ye:FG 131 a1o:=dQ f131 d_ ⟨Yr,D9⟩
def a3y:FG 87 s87:=dQ f87 q87 ⟨Vd,Xc,LH,Um,LV,Yb,Yc,Yd,PL,Ye,D9⟩
def a3h:FG 54 s54:=dQ f54 q54 ⟨a3y,D9⟩
def WY:FG 32 s32:=dQ f32 q32 ⟨a3f,a3g,a3h,D9⟩
def a3z:FG 88 s88:=dQ f88 q88
def a3i:FG 56 s56:=dQ f56 q56 ⟨a3z,D9⟩
def Wv:FG 55 WR:=dQ f55 WN ⟨a3i,D9⟩
def a3A:FG 89 s89:=dQ f89 q89
def a3j:FG 58 s58:=dQ f58 q58 ⟨a3A,D9⟩
def Wx:FG 57 WS:=dQ f57 WO ⟨a3j,D9⟩
def a3B:FG 90 s90:=dQ f90 q90
def a3k:FG 60 s60:=dQ f60 q60 ⟨a3B,D9⟩
def Wy:FG 59 WT:=dQ f59 WP ⟨a3k,D9⟩
def a2V:FG 33 s33:=dQ f33 q33 ⟨Wv,Wx,Wy,D9⟩
def Yt:FG 161 a1C:=dQ f161 z_ ⟨JM,D9⟩
def Yu:FG 162 a1D:=dQ f162 A_
def Yf:FG 132 a1p:=dQ f132 f_ ⟨Yt,Yu,D9⟩
def a3C:FG 91 s91:=dQ f91 q91 ⟨WY,Yf,D9⟩
def a3D:FG 92 s92:=dQ f92 q92
def Xa:FG 64 s64:=dQ f64 q64 ⟨Ve,Xd,Xe,Xf,D9⟩
def Yg:FG 133 a1q:=dQ f133 g_ ⟨PL,D9⟩
def a3E:FG 93 s93:=dQ f93 q93 ⟨PL,Xa,Yg,D9⟩
def Va:FG 296 Ub:=dQ f296 Tj
def Oe:FG 178 Wj:=dQ f178 I_
def UZ:FG 294 XQ:=dQ f294 a0V
def Ol:FG 297 Ws:=dQ f297 a0X
theorem ZF:qW Go.Proofs.Tryz.prog 271 "Less" 294 (some 272):=Az (by kernel_rfl)
theorem Xn:qW Go.Proofs.Tryz.prog 271 "Swap" 297 (some 272):=Az (by kernel_rfl)
def UH:FG 199 TW:=dQ f199 SY ⟨UZ,Ol,D9⟩ (hm:=⟨ZF,Xn,trivial⟩)
theorem ZG:qW Go.Proofs.Tryz.prog 271 "Len" 178 (some 272):=Az (by kernel_rfl)
theorem a3P:qW Go.Proofs.Tryz.prog 271 "Push" 296 none:=λv w=>show(method _ 271 v "Push").run _ w= .ok (296,v) w by kernel_rfl
def UD:FG 177 TU:=dQ f177 SV ⟨Va,Oe,UH,D9⟩ (hm:=⟨ZG,a3P,trivial⟩)
def UI:FG 200 TY:=dQ f200 Tc ⟨UZ,Ol,D9⟩ (hm:=⟨ZF,Xn,trivial⟩)
def Zu:FG 295 a2C:=dQ f295 a0W
theorem a3Q:qW Go.Proofs.Tryz.prog 271 "Pop" 295 none:=λv w=>show(method _ 271 v "Pop").run _ w= .ok (295,v) w by kernel_rfl
def UE:FG 179 TV:=dQ f179 SX ⟨Oe,Ol,UI,Zu,D9⟩ (hm:=⟨ZG,a3Q,Xn,trivial⟩)
def Yv:FG 163 a1E:=dQ f163 B_ ⟨Ve,UD,Oe,UE,D9⟩
def Og:FG 203 Wl:=dQ f203 Q_ ⟨Ob,D9⟩
def LQ:FG 202 NV:=dQ f202 Tf ⟨Og,D9⟩
def UJ:FG 201 TZ:=dQ f201 Td ⟨LQ,D9⟩
def YC:FG 180 a1L:=dQ f180 J_ ⟨LQ,UJ,D9⟩
def YE:FG 182 a1N:=dQ f182 L_ ⟨UF,D9⟩
def YJ:FG 207 a1S:=dQ f207 U_ ⟨Hl,D9⟩
def DD:FG 231 NW:=dQ f231 a0j
def YR:FG 226 a2a:=dQ f226 a0e ⟨Hl,UG,D9⟩
def YS:FG 227 a2b:=dQ f227 a0f
def YT:FG 228 a2c:=dQ f228 a0g ⟨DD,D9⟩
def UO:FG 240 XH:=dQ f240 a0n ⟨DD,D9⟩
def Oh:FG 252 Wn:=dQ f252 a0x
def YY:FG 241 a2h:=dQ f241 a0o ⟨Oh,D9⟩
def YZ:FG 242 a2i:=dQ f242 a0p ⟨Oh,D9⟩
def UQ:FG 244 XI:=dQ f244 a0r
def Za:FG 243 a2j:=dQ f243 a0q ⟨UQ,Oh,D9⟩
def YU:FG 229 a2d:=dQ f229 a0h ⟨DD,UO,YY,YZ,Za,UQ,D9⟩
def Zb:FG 245 a2k:=dQ f245 a0s ⟨UO,DD,D9⟩
def LU:FG 253 NY:=dQ f253 Ti ⟨Og,D9⟩
def Ui:FG 116 TG:=dQ f116 Sl ⟨LU,D9⟩
def Zc:FG 246 a2l:=dQ f246 a0t ⟨LU,Ui,D9⟩
theorem PN:dV Go.Proofs.Tryz.prog gl 71 s71:=KR Go.Proofs.Tryz.bits_Mul64
def Yk:FG 140 a1u:=dQ f140 m_
def Zq:FG 268 a2z:=dQ f268 a0M ⟨Yk,D9⟩
def Oi:FG 260 Wp:=dQ f260 a0E ⟨Zq,D9⟩
def Zg:FG 254 a2p:=dQ f254 a0y ⟨PN,Oi,D9⟩
def Oj:FG 269 Wq:=dQ f269 a0N
def PM:FG 68 s68:=dQ f68 q68
def UU:FG 270 XL:=dQ f270 a0O
def UV:FG 271 XM:=dQ f271 a0P
def UW:FG 272 XN:=dQ f272 a0Q
def JQ:FG 261 Ua:=dQ f261 a0F ⟨Oj,PM,UU,UV,UW,D9⟩
def Zh:FG 255 a2q:=dQ f255 a0z ⟨JQ,D9⟩
def Zd:FG 247 a2m:=dQ f247 a0u ⟨Og,Zg,Zh,D9⟩
def UR:FG 256 XJ:=dQ f256 a0A
def JO:FG 108 TC:=dQ f108 ZM
def Yx:FG 170 a1G:=dQ f170 E_
def Ur:FG 144 Xy:=dQ f144 n_ ⟨Yx,D9⟩
def Yy:FG 171 a1H:=dQ f171 F_
def Oc:FG 145 Wi:=dQ f145 o_ ⟨Yy,D9⟩
def JP:FG 109 TE:=dQ f109 ZN ⟨JO,Ur,Oc,D9⟩
def Ze:FG 248 a2n:=dQ f248 a0v ⟨UR,JP,D9⟩
def Zk:FG 262 a2t:=dQ f262 a0G ⟨PN,D9⟩
def Zr:FG 273 a2A:=dQ f273 a0R ⟨Oj,PM,UU,PN,Oi,UV,UW,D9⟩
def Zl:FG 263 a2u:=dQ f263 a0H ⟨Zr,D9⟩
def UX:FG 274 XO:=dQ f274 a0S
def UY:FG 275 XP:=dQ f275 a0T
def Zm:FG 264 a2v:=dQ f264 a0I ⟨UX,UY,JQ,D9⟩
def Zn:FG 265 a2w:=dQ f265 a0J ⟨Oj,PM,JQ,D9⟩
def Zt:FG 276 a2B:=dQ f276 a0U
def Zo:FG 266 a2x:=dQ f266 a0K ⟨UX,UY,PN,Oi,Zt,D9⟩
def Zi:FG 257 a2r:=dQ f257 a0B ⟨Zk,Zl,Zm,Zn,JQ,Zo,D9⟩
def Zp:FG 267 a2y:=dQ f267 a0L ⟨Oc,Ur,D9⟩
def UT:FG 258 XK:=dQ f258 a0C ⟨JO,JP,Oc,Zp,D9⟩
def Zj:FG 259 a2s:=dQ f259 a0D ⟨JO,JP,UT,D9⟩
def Zf:FG 249 a2o:=dQ f249 a0w ⟨Zi,UR,UT,Zj,D9⟩
def YV:FG 230 a2e:=dQ f230 a0i ⟨Zb,Zc,Zd,Ze,Zf,D9⟩
def YK:FG 209 a1T:=dQ f209 V_ ⟨YR,Hl,YS,YT,YU,YV,DD,D9⟩
theorem WA:∀n,dV P gl 225 ⟨Si,[(true,(.dat (.prod (.int .i64) (.prod (.int .i64) (.int .i64))))),(false,(.dat (.int .i64)))],[],λx=>(E8 n).1 x.1 x.2⟩/\dV P gl 183 ⟨IX,[(true,(.dat (.prod (.int .i64) (.prod (.int .i64) (.int .i64))))),(false,(.dat (.int .i64)))],[],λx=>(E8 n).2.1 x.1 x.2⟩/\dV P gl 208 ⟨RZ,[(true,(.dat (.prod (.int .i64) (.prod (.int .i64) (.int .i64))))),(false,(.dat (.int .i64)))],[],λx=>(E8 n).2.2 x.1 x.2.1 x.2.2⟩:=by
 intro n;induction n with
 |zero=>exact⟨(λw ok O vals x r _ _ _ _ _ h=>by cases h),(λw ok O vals x r _ _ _ _ _ h=>by cases h),(λw ok O vals x r _ _ _ _ _ h=>by cases h)⟩
 |succ n ih=>exact⟨dS f225 Si a1a (a3O (E8 n).1 (E8 n).2.1 (E8 n).2.2) Zy (by kernel_rfl) rfl trivial ⟨ih.2.1,DD,trivial⟩ λx=>by kernel_rfl,
  dS f183 IX WQ (a3M (E8 n).1 (E8 n).2.1 (E8 n).2.2) Zw (by kernel_rfl) rfl trivial ⟨YJ,ih.2.2,ih.2.1,YK,trivial⟩ λx=>by kernel_rfl,
  dS f208 RZ a0Z (a3N (E8 n).1 (E8 n).2.1 (E8 n).2.2) Zx (by kernel_rfl) rfl trivial ⟨ih.1,ih.2.1,trivial⟩ λx=>by kernel_rfl⟩
theorem YF:dV P gl 183 a1O:=(WA mZ).2.1
def UA:FG 165 XA:=dQ f165 D_ ⟨YE,YF,D9⟩
def YH:FG 204 a1Q:=dQ f204 R_
def YX:FG 239 a2g:=dQ f239 a0m
def YQ:FG 224 a1Z:=dQ f224 a0d ⟨YX,D9⟩
def UK:FG 206 XD:=dQ f206 T_ ⟨YQ,D9⟩
def YI:FG 205 a1R:=dQ f205 S_ ⟨UK,D9⟩
def YD:FG 181 a1M:=dQ f181 K_ ⟨YH,YI,UK,D9⟩
def Yw:FG 164 a1F:=dQ f164 C_ ⟨YC,UA,YD,D9⟩
def Yh:FG 134 a1r:=dQ f134 h_ ⟨Yv,Yw,UA,D9⟩
def a3F:FG 94 s94:=dQ f94 q94 ⟨Yh,D9⟩
def a3l:FG 61 s61:=dQ f61 q61 ⟨a3C,a3D,a3E,a3F,D9⟩
def a2W:FG 34 s34:=dQ f34 q34 ⟨a3l,D9⟩
def a3m:FG 62 s62:=dQ f62 q62
def a2X:FG 35 s35:=dQ f35 q35 ⟨PL,a3m,Xa,D9⟩
def a3n:FG 65 s65:=dQ f65 q65
def a3o:FG 66 s66:=dQ f66 q66
def a3G:FG 99 s99:=dQ f99 q99
def XR:FG 100 a1c:=dQ f100 ZK
def a3p:FG 67 s67:=dQ f67 q67 ⟨a3G,XR,D9⟩
def a2Y:FG 36 s36:=dQ f36 q36 ⟨a3n,a3o,a3p,D9⟩
def a2L:FG 21 s21:=dQ f21 q21 ⟨WY,a2V,a2W,a2X,a2Y,D9⟩
def Ut:FG 15 s15:=dQ f15 q15
def a2Z:FG 37 s37:=dQ f37 q37 ⟨Ut,D9⟩
def a3a:FG 38 s38:=dQ f38 q38
def a3b:FG 39 s39:=dQ f39 q39 ⟨PM,D9⟩
def a2M:FG 22 s22:=dQ f22 q22 ⟨a2Z,a3a,a3b,D9⟩
def a2F:FG 10 s10:=dQ f10 q10 ⟨a2L,a2M,D9⟩
theorem a2O:dV Go.Proofs.Tryz.prog gl 24 s24:=Nq (g:=0) Go.Proofs.Tryz.strconv_Itoa (by kernel_rfl) (by kernel_rfl)
def LJ:FG 13 s13:=dQ f13 q13 ⟨a2O,D9⟩
def a2P:FG 25 s25:=dQ f25 q25
theorem WX:dV Go.Proofs.Tryz.prog gl 26 s26:=JK Go.Proofs.Tryz.strings_Repeat
def WV:FG 14 s14:=dQ f14 q14 ⟨a2P,LJ,WX,D9⟩
def a3r:FG 76 s76:=dQ f76 q76 ⟨JM,D9⟩
def XT:FG 110 a1d:=dQ f110 ZO ⟨LJ,WX,D9⟩
def a3s:FG 77 s77:=dQ f77 q77 ⟨JO,JP,XT,D9⟩
def a3c:FG 47 s47:=dQ f47 q47 ⟨Jd,a3r,LJ,WV,a3s,D9⟩
def a2Q:FG 27 s27:=dQ f27 q27 ⟨LJ,a3c,D9⟩
def a2I:FG 16 s16:=dQ f16 q16 ⟨a2Q,D9⟩
def a3q:FG 7 s7:=dQ f7 q7 ⟨LJ,WV,Ut,a2I,D9⟩
def a2N:FG 23 s23:=dQ f23 q23
def a2G:FG 11 s11:=dQ f11 q11 ⟨Ut,a2N,D9⟩
def a2H:FG 12 s12:=dQ f12 q12
def a3W:FG 5 s5:=dQ f5 q5 ⟨a3Z,a2F,a3q,a2G,a2H,D9⟩
theorem Zv:∀n,dV P gl 28 ⟨VU,[(false,(.dat .str))],[],λx=>(gG n) x⟩:=by
 intro n;induction n with
 |zero=>exact λw ok O vals x r _ _ _ _ _ h=>by cases h
 |succ n ih=>exact dS f28 VU a1b (e28 (gG n)) a3K (by kernel_rfl) rfl trivial ⟨ih,trivial⟩ λx=>by kernel_rfl
theorem a2R:dV P gl 28 s28:=(Zv mZ)
def LP:FG 17 s17:=dQ f17 q17 ⟨a2R,D9⟩
def a2S:FG 29 s29:=dQ f29 q29
def a2T:FG 30 s30:=dQ f30 q30
def WW:FG 18 s18:=dQ f18 q18 ⟨a2S,LP,a2T,D9⟩
def a2J:FG 19 s19:=dQ f19 q19
def WZ:FG 49 s49:=dQ f49 q49
def Vb:FG 48 s48:=dQ f48 q48
def XU:FG 111 a1e:=dQ f111 ZP ⟨Vb,D9⟩
def a3t:FG 78 s78:=dQ f78 q78 ⟨XU,D9⟩
def a3d:FG 50 s50:=dQ f50 q50 ⟨WZ,Vb,a3t,D9⟩
def Xb:FG 79 s79:=dQ f79 q79
def Us:FG 146 Xz:=dQ f146 p_
def XV:FG 112 a1f:=dQ f112 ZQ ⟨Us,D9⟩
def XW:FG 113 a1g:=dQ f113 ZR ⟨Us,D9⟩
def a3u:FG 80 s80:=dQ f80 q80 ⟨Xb,XV,XW,D9⟩
def a3v:FG 81 s81:=dQ f81 q81 ⟨LP,D9⟩
def a3e:FG 51 s51:=dQ f51 q51 ⟨Xb,a3u,a3v,D9⟩
def a2U:FG 31 s31:=dQ f31 q31 ⟨WZ,Vb,a3d,LP,WW,a3e,D9⟩
def a2K:FG 20 s20:=dQ f20 q20 ⟨LP,a2U,D9⟩
def a3Y:FG 8 s8:=dQ f8 q8 ⟨LP,WW,a2J,a2K,D9⟩
def a3X:FG 6 s6:=dQ f6 q6
def a3U:FG 3 s3:=dQ f3 q3 ⟨a3V,a3W,a3q,a3Y,a3X,D9⟩
end Gt
