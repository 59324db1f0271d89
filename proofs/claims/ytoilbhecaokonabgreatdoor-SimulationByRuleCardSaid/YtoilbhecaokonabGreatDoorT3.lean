import Derived.Test.YtoilbhecaokonabGreatDoorT2
import Derived.Test.YtoilbhecaokonabGreatDoorProg
import Derived.Test.YtoilbhecaokonabGreatDoorShelf
set_option linter.all false
open Go Go.GP Go.Proofs.Tryz
namespace Gt
set_option maxRecDepth 100000
noncomputable abbrev P:Program:=Go.Proofs.Tryz.prog
theorem a2l:KN P tt=true:=by kernel_rfl
theorem VW:∀t sh,X4 eqs t=some sh->yg P t sh:=Js (by kernel_rfl)
theorem dS{f:FuncId}(fn:Func)(ps:List MG)(rt:Ret)(E:Env)(an:Ann){F:ay ps->Option rt.den}(h:(P.funcs[f]?,fn.body,fn.ntmps,fn.results.toList,Nat.ble (64*E.nt) 999936,He P E.fs)=(some fn,some (Iu fn),E.nt,rt.rs.map (·.1),true,true))(ht:(E.tt,E.eqs)=(tt,eqs))(hm:Jk P E.ms)(hs:PL P E.gl E.fs)(hF:∀x,Uk E ps rt (Iu fn) an x=F x):
  eY P E.gl f ⟨ps,rt.rs.map (·.2),rt.outs.map (·.2),F⟩:=by
 injection h with h1 h;injection h with h2 h;injection h with h3 h;injection h with h4 h;injection h with h5 h6;injection ht with t1 t2;exact Lj h1 h2 h3 h4 (Qh h5 (t1▸a2l) (t2▸VW) h6 hm hs) λx r h=>(hF x).trans h
theorem dQ{f:FuncId}(fn:Func)(q:FQ){F:ay q.ps->Option q.rt.den}(hs:PL P q.E.gl q.E.fs:=by exact trivial)(h:(P.funcs[f]?,fn.body,fn.ntmps,fn.results.toList,Nat.ble (64*q.E.nt) 999936,He P q.E.fs)=(some fn,some (Iu fn),q.E.nt,q.rt.rs.map (·.1),true,true):=by kernel_rfl)(ht:(q.E.tt,q.E.eqs)=(tt,eqs):=by rfl)(hm:Jk P q.E.ms:=by exact trivial)(hF:∀x,Uk q.E q.ps q.rt (Iu fn) q.an x=F x:=by intro x;kernel_rfl):
  eY P q.E.gl f ⟨q.ps,q.rt.rs.map (·.2),q.rt.outs.map (·.2),F⟩:=dS fn q.ps q.rt q.E q.an h ht hm hs hF
abbrev FG(n:FuncId)(s:FSpec):=eY P gl n s
def a2x:FG 4 s4:=dQ f4 q4
def a1k:FG 10 s10:=dQ f10 q10
def VQ:FG 94 s94:=dQ f94 q94
def Xf:FG 125 a0b:=dQ f125 YW
def a2i:FG 95 s95:=dQ f95 q95 ⟨VQ,Xf,E8⟩
def a2j:FG 96 s96:=dQ f96 q96
def KD:FG 62 s62:=dQ f62 q62 ⟨VQ,a2i,a2j,E8⟩
def Oq:FG 98 Su:=dQ f98 Vw
def SL:FG 126 RI:=dQ f126 QQ ⟨Oq,E8⟩
def UY:FG 97 VF:=dQ f97 Vu ⟨SL,E8⟩
def TS:FG 63 s63:=dQ f63 q63 ⟨Oq,UY,E8⟩
def Xd:FG 123 Z_:=dQ f123 YU
def a2f:FG 88 s88:=dQ f88 q88 ⟨Xd,E8⟩
def a1R:FG 60 s60:=dQ f60 q60 ⟨KD,TS,a2f,E8⟩
def a1E:FG 35 s35:=dQ f35 q35 ⟨a1R,E8⟩
def Ij:FG 85 s85:=dQ f85 q85
def Om:FG 89 s89:=dQ f89 q89 ⟨Ij,E8⟩
def TU:FG 90 s90:=dQ f90 q90
def Xp:FG 151 a0l:=dQ f151 Zj ⟨TU,E8⟩
def Xe:FG 124 a0a:=dQ f124 YV ⟨Xp,E8⟩
def a2h:FG 93 s93:=dQ f93 q93 ⟨Xe,E8⟩
def Oo:FG 92 Sr:=dQ f92 Vt ⟨a2h,E8⟩
def UW:FG 91 VD:=dQ f91 Vr ⟨Oo,E8⟩
def a1S:FG 61 s61:=dQ f61 q61 ⟨Ij,Om,TU,Oo,UW,E8⟩
def Ku:FG 100 Me:=dQ f100 QN
def SN:FG 127 RJ:=dQ f127 QR ⟨Ku,E8⟩
def UZ:FG 99 VG:=dQ f99 Vx ⟨SN,E8⟩
def VM:FG 64 s64:=dQ f64 q64 ⟨Ku,UZ,E8⟩
def a1F:FG 36 s36:=dQ f36 q36 ⟨a1S,KD,TS,VM,E8⟩
def Kv:FG 102 MB:=dQ f102 QP
def SQ:FG 128 RN:=dQ f128 QS ⟨Kv,E8⟩
def SG:FG 101 RF:=dQ f101 QO ⟨SQ,E8⟩
def Kw:FG 129 MC:=dQ f129 QT
def Td:FG 152 RS:=dQ f152 QX ⟨Kw,E8⟩
def SV:FG 130 RP:=dQ f130 QU ⟨Td,E8⟩
def WT:FG 103 P_:=dQ f103 YI ⟨Kw,KD,SV,Ij,E8⟩
def Xg:FG 131 a0c:=dQ f131 YX
def WU:FG 104 Q_:=dQ f104 YJ ⟨Xg,E8⟩
def Ky:FG 133 MF:=dQ f133 QW
def Tf:FG 153 RU:=dQ f153 QY ⟨Ky,E8⟩
def SX:FG 132 RQ:=dQ f132 QV ⟨Tf,E8⟩
theorem Xq:eY Go.Proofs.Tryz.prog gl 154 a0m:=DW Go.Proofs.Tryz.strings_Contains_one
def Xh:FG 134 a0d:=dQ f134 YY ⟨Xq,E8⟩
def Gi:FG 180 PD:=dQ f180 Zu
def Tm:FG 178 WB:=dQ f178 Zr ⟨Gi,E8⟩
def Tn:FG 179 WC:=dQ f179 Zt
def XE:FG 200 a0z:=dQ f200 ZC ⟨Om,E8⟩
def XF:FG 201 a0A:=dQ f201 ZE
def TA:FG 202 WF:=dQ f202 ZF ⟨Ij,E8⟩
def TB:FG 205 WG:=dQ f205 ZI
def XG:FG 203 a0B:=dQ f203 ZG ⟨TB,Ij,E8⟩
def TC:FG 220 WH:=dQ f220 ZR
def XH:FG 204 a0C:=dQ f204 ZH ⟨TA,TC,E8⟩
def XP:FG 221 a0K:=dQ f221 ZT
def XI:FG 206 a0D:=dQ f206 ZJ ⟨TC,XP,E8⟩
def Xz:FG 181 a0u:=dQ f181 Zv ⟨XE,XF,TA,XG,XH,TB,XI,E8⟩
def Xr:FG 155 a0n:=dQ f155 Zk ⟨Tm,Tn,Gi,Xz,E8⟩
def Xi:FG 135 a0e:=dQ f135 YZ ⟨Xr,E8⟩
def WV:FG 105 R_:=dQ f105 YK ⟨KD,Ky,SX,Xh,Xi,E8⟩
theorem SH:eY Go.Proofs.Tryz.prog gl 112 Wv:=MV Go.Proofs.Tryz.slices_Sort_int Go.Proofs.Tryz.slices_Sort_int_none
theorem SK:eY Go.Proofs.Tryz.prog gl 113 Wx:=Gv Go.Proofs.Tryz.slices_Compact_int Go.Proofs.Tryz.slices_Compact_int_empty
def Xb:FG 111 X_:=dQ f111 YQ ⟨SH,SK,E8⟩
def VO:FG 75 s75:=dQ f75 q75 ⟨Xb,E8⟩
def Xa:FG 110 W_:=dQ f110 YP ⟨VO,E8⟩
def VP:FG 76 s76:=dQ f76 q76 ⟨SH,SK,E8⟩
def TT:FG 74 s74:=dQ f74 q74 ⟨Xa,VP,E8⟩
def VN:FG 73 s73:=dQ f73 q73
def Oi:FG 46 s46:=dQ f46 q46 ⟨TT,VN,E8⟩
def Xj:FG 136 a0f:=dQ f136 Za
def WW:FG 106 S_:=dQ f106 YL ⟨Xj,E8⟩
def a1T:FG 65 s65:=dQ f65 q65 ⟨TS,VM,Kv,SG,KD,WT,WU,WV,Oi,WW,E8⟩
def a1G:FG 37 s37:=dQ f37 q37 ⟨a1T,E8⟩
def VJ:FG 23 s23:=dQ f23 q23 ⟨a1E,a1F,a1G,E8⟩
def a1U:FG 66 s66:=dQ f66 q66
def a1H:FG 39 s39:=dQ f39 q39 ⟨a1U,E8⟩
def UT:FG 38 VA:=dQ f38 Vo ⟨a1H,E8⟩
def a1V:FG 67 s67:=dQ f67 q67
def a1I:FG 41 s41:=dQ f41 q41 ⟨a1V,E8⟩
def UU:FG 40 VB:=dQ f40 Vp ⟨a1I,E8⟩
def a1W:FG 68 s68:=dQ f68 q68
def a1J:FG 43 s43:=dQ f43 q43 ⟨a1W,E8⟩
def UV:FG 42 VC:=dQ f42 Vq ⟨a1J,E8⟩
def a1u:FG 24 s24:=dQ f24 q24 ⟨UT,UU,UV,E8⟩
def Xk:FG 137 a0g:=dQ f137 Zb ⟨Om,E8⟩
def Xl:FG 138 a0h:=dQ f138 Zc
def WX:FG 107 T_:=dQ f107 YM ⟨Xk,Xl,E8⟩
def a1X:FG 69 s69:=dQ f69 q69 ⟨VJ,WX,E8⟩
def a1Y:FG 70 s70:=dQ f70 q70
def VL:FG 47 s47:=dQ f47 q47 ⟨TT,VN,VO,VP,E8⟩
def WY:FG 108 U_:=dQ f108 YN ⟨Oi,E8⟩
def a1Z:FG 71 s71:=dQ f71 q71 ⟨Oi,VL,WY,E8⟩
def TR:FG 279 Sl:=dQ f279 Ro
def MN:FG 157 UK:=dQ f157 Zl
def TQ:FG 277 WS:=dQ f277 J_
def MS:FG 280 UQ:=dQ f280 L_
theorem YC:qj Go.Proofs.Tryz.prog 265 "Less" 277 (some 266):=zG (by kernel_rfl)
theorem VY:qj Go.Proofs.Tryz.prog 265 "Swap" 280 (some 266):=zG (by kernel_rfl)
def Tq:FG 182 RY:=dQ f182 Rh ⟨TQ,MS,E8⟩ (hm:=⟨YC,VY,trivial⟩)
theorem YD:qj Go.Proofs.Tryz.prog 265 "Len" 157 (some 266):=zG (by kernel_rfl)
theorem a2r:qj Go.Proofs.Tryz.prog 265 "Push" 279 none:=λv w=>show(method _ 265 v "Push").run _ w= .ok (279,v) w by kernel_rfl
def Ti:FG 156 RV:=dQ f156 QZ ⟨TR,MN,Tq,E8⟩ (hm:=⟨YD,a2r,trivial⟩)
def Tu:FG 183 RZ:=dQ f183 Ri ⟨TQ,MS,E8⟩ (hm:=⟨YC,VY,trivial⟩)
def Yo:FG 278 a1h:=dQ f278 K_
theorem a2s:qj Go.Proofs.Tryz.prog 265 "Pop" 278 none:=λv w=>show(method _ 265 v "Pop").run _ w= .ok (278,v) w by kernel_rfl
def Tj:FG 158 RX:=dQ f158 Rf ⟨MN,MS,Tu,Yo,E8⟩ (hm:=⟨YD,a2s,VY,trivial⟩)
def Xm:FG 139 a0i:=dQ f139 Zd ⟨TT,Ti,MN,Tj,E8⟩
def MO:FG 186 UL:=dQ f186 Zw ⟨TU,E8⟩
def Kz:FG 185 MH:=dQ f185 Rk ⟨MO,E8⟩
def Tv:FG 184 Si:=dQ f184 Rj ⟨Kz,E8⟩
def Xt:FG 159 a0o:=dQ f159 Zm ⟨Kz,Tv,E8⟩
def Xv:FG 161 a0q:=dQ f161 Zo ⟨Tm,E8⟩
def XC:FG 190 a0x:=dQ f190 ZA ⟨Gi,E8⟩
def CU:FG 214 MI:=dQ f214 ZQ
def XK:FG 209 a0F:=dQ f209 ZL ⟨Gi,Tn,E8⟩
def XL:FG 210 a0G:=dQ f210 ZM
def XM:FG 211 a0H:=dQ f211 ZN ⟨CU,E8⟩
def TE:FG 223 WI:=dQ f223 ZV ⟨CU,E8⟩
def MP:FG 235 UM:=dQ f235 h_
def XR:FG 224 a0M:=dQ f224 ZW ⟨MP,E8⟩
def XU:FG 225 a0N:=dQ f225 ZX ⟨MP,E8⟩
def TF:FG 227 WJ:=dQ f227 ZZ
def XV:FG 226 a0O:=dQ f226 ZY ⟨TF,MP,E8⟩
def XN:FG 212 a0I:=dQ f212 ZO ⟨CU,TE,XR,XU,XV,TF,E8⟩
def XW:FG 228 a0P:=dQ f228 a_ ⟨TE,CU,E8⟩
def KC:FG 236 MJ:=dQ f236 Rn ⟨MO,E8⟩
def UX:FG 91 VE:=dQ f91 Vs ⟨KC,E8⟩
def XX:FG 229 a0Q:=dQ f229 b_ ⟨KC,UX,E8⟩
theorem Ol:eY Go.Proofs.Tryz.prog gl 81 s81:=JL Go.Proofs.Tryz.bits_Mul64
def Xo:FG 145 a0k:=dQ f145 Zg
def Yl:FG 251 a1e:=dQ f251 A_ ⟨Xo,E8⟩
def MQ:FG 243 UN:=dQ f243 r_ ⟨Yl,E8⟩
def Yb:FG 237 a0U:=dQ f237 j_ ⟨Ol,MQ,E8⟩
def MR:FG 252 UO:=dQ f252 B_
def Oj:FG 51 s51:=dQ f51 q51
def TK:FG 253 WN:=dQ f253 C_
def TL:FG 254 WO:=dQ f254 D_
def TM:FG 255 WP:=dQ f255 E_
def Jd:FG 244 Sj:=dQ f244 t_ ⟨MR,Oj,TK,TL,TM,E8⟩
def Yc:FG 238 a0V:=dQ f238 l_ ⟨Jd,E8⟩
def XY:FG 230 a0R:=dQ f230 d_ ⟨MO,Yb,Yc,E8⟩
def TG:FG 239 WL:=dQ f239 m_
def Jb:FG 120 RG:=dQ f120 YR
def Xx:FG 175 a0s:=dQ f175 Zp
def Tc:FG 149 WA:=dQ f149 Zh ⟨Xx,E8⟩
def Xy:FG 176 a0t:=dQ f176 Zq
def MM:FG 150 UJ:=dQ f150 Zi ⟨Xy,E8⟩
def Jc:FG 121 RH:=dQ f121 YS ⟨Jb,Tc,MM,E8⟩
def XZ:FG 231 a0S:=dQ f231 f_ ⟨TG,Jc,E8⟩
def Yf:FG 245 a0Y:=dQ f245 u_ ⟨Ol,E8⟩
def Ym:FG 256 a1f:=dQ f256 F_ ⟨MR,Oj,TK,Ol,MQ,TL,TM,E8⟩
def Yg:FG 246 a0Z:=dQ f246 v_ ⟨Ym,E8⟩
def TN:FG 257 WQ:=dQ f257 G_
def TP:FG 258 WR:=dQ f258 H_
def Yh:FG 247 a1a:=dQ f247 w_ ⟨TN,TP,Jd,E8⟩
def Yi:FG 248 a1b:=dQ f248 x_ ⟨MR,Oj,Jd,E8⟩
def Yn:FG 259 a1g:=dQ f259 I_
def Yj:FG 249 a1c:=dQ f249 y_ ⟨TN,TP,Ol,MQ,Yn,E8⟩
def Yd:FG 240 a0W:=dQ f240 n_ ⟨Yf,Yg,Yh,Yi,Jd,Yj,E8⟩
def Yk:FG 250 a1d:=dQ f250 z_ ⟨MM,Tc,E8⟩
def TJ:FG 241 WM:=dQ f241 o_ ⟨Jb,Jc,MM,Yk,E8⟩
def Ye:FG 242 a0X:=dQ f242 p_ ⟨Jb,Jc,TJ,E8⟩
def Ya:FG 232 a0T:=dQ f232 g_ ⟨Yd,TG,TJ,Ye,E8⟩
def XO:FG 213 a0J:=dQ f213 ZP ⟨XW,XX,XY,XZ,Ya,E8⟩
def XD:FG 192 a0y:=dQ f192 ZB ⟨XK,Gi,XL,XM,XN,XO,CU,E8⟩
theorem Va:∀n,eY P gl 208 ⟨QM,[(true,(.dat (.prod (.int .i64) (.prod (.int .i64) (.int .i64))))),(false,(.dat (.int .i64)))],[],λx=>(E5 n).1 x.1 x.2⟩/\eY P gl 162 ⟨Ib,[(true,(.dat (.prod (.int .i64) (.prod (.int .i64) (.int .i64))))),(false,(.dat (.int .i64)))],[],λx=>(E5 n).2.1 x.1 x.2⟩/\eY P gl 191 ⟨QL,[(true,(.dat (.prod (.int .i64) (.prod (.int .i64) (.int .i64))))),(false,(.dat (.int .i64)))],[],λx=>(E5 n).2.2 x.1 x.2.1 x.2.2⟩:=by
 intro n;induction n with
 |zero=>exact⟨(λw ok O vals x r _ _ _ _ _ h=>by cases h),(λw ok O vals x r _ _ _ _ _ h=>by cases h),(λw ok O vals x r _ _ _ _ _ h=>by cases h)⟩
 |succ n ih=>exact⟨dS f208 QM O_ (a2q (E5 n).1 (E5 n).2.1 (E5 n).2.2) Yt (by kernel_rfl) rfl trivial ⟨ih.2.1,CU,trivial⟩ λx=>by kernel_rfl,
  dS f162 Ib Vz (a2o (E5 n).1 (E5 n).2.1 (E5 n).2.2) Yq (by kernel_rfl) rfl trivial ⟨XC,ih.2.2,ih.2.1,XD,trivial⟩ λx=>by kernel_rfl,
  dS f191 QL N_ (a2p (E5 n).1 (E5 n).2.1 (E5 n).2.2) Yr (by kernel_rfl) rfl trivial ⟨ih.1,ih.2.1,trivial⟩ λx=>by kernel_rfl⟩
theorem Xw:eY P gl 162 a0r:=(Va nK).2.1
def SY:FG 141 Wy:=dQ f141 Zf ⟨Xv,Xw,E8⟩
def XA:FG 187 a0v:=dQ f187 Zx
def XQ:FG 222 a0L:=dQ f222 ZU
def XJ:FG 207 a0E:=dQ f207 ZK ⟨XQ,E8⟩
def Tz:FG 189 WE:=dQ f189 Zz ⟨XJ,E8⟩
def XB:FG 188 a0w:=dQ f188 Zy ⟨Tz,E8⟩
def Xu:FG 160 a0p:=dQ f160 Zn ⟨XA,XB,Tz,E8⟩
def Xn:FG 140 a0j:=dQ f140 Ze ⟨Xt,SY,Xu,E8⟩
def WZ:FG 109 V_:=dQ f109 YO ⟨Xm,Xn,SY,E8⟩
def a2a:FG 72 s72:=dQ f72 q72 ⟨WZ,E8⟩
def a1K:FG 44 s44:=dQ f44 q44 ⟨a1X,a1Y,a1Z,a2a,E8⟩
def a1v:FG 25 s25:=dQ f25 q25 ⟨a1K,E8⟩
def a1L:FG 45 s45:=dQ f45 q45
def a1w:FG 26 s26:=dQ f26 q26 ⟨Oi,a1L,VL,E8⟩
def a1M:FG 48 s48:=dQ f48 q48
def a1N:FG 49 s49:=dQ f49 q49
def a2b:FG 77 s77:=dQ f77 q77
def a2c:FG 78 s78:=dQ f78 q78
def a1O:FG 50 s50:=dQ f50 q50 ⟨a2b,a2c,E8⟩
def a1x:FG 27 s27:=dQ f27 q27 ⟨a1M,a1N,a1O,E8⟩
def a1r:FG 18 s18:=dQ f18 q18 ⟨VJ,a1u,a1v,a1w,a1x,E8⟩
def SS:FG 13 s13:=dQ f13 q13
def a1y:FG 28 s28:=dQ f28 q28 ⟨SS,E8⟩
def a1z:FG 29 s29:=dQ f29 q29
def a1A:FG 30 s30:=dQ f30 q30 ⟨Oj,E8⟩
def a1s:FG 19 s19:=dQ f19 q19 ⟨a1y,a1z,a1A,E8⟩
def a1l:FG 11 s11:=dQ f11 q11 ⟨a1r,a1s,E8⟩
theorem a1B:eY Go.Proofs.Tryz.prog gl 31 s31:=LG (g:=0) Go.Proofs.Tryz.strconv_Itoa (by kernel_rfl) (by kernel_rfl)
def KA:FG 20 s20:=dQ f20 q20 ⟨a1B,E8⟩
def a1C:FG 32 s32:=dQ f32 q32
theorem VK:eY Go.Proofs.Tryz.prog gl 33 s33:=IZ Go.Proofs.Tryz.strings_Repeat
def VI:FG 21 s21:=dQ f21 q21 ⟨a1C,KA,VK,E8⟩
def a2d:FG 86 s86:=dQ f86 q86 ⟨Om,E8⟩
def Xc:FG 122 Y_:=dQ f122 YT ⟨KA,VK,E8⟩
def a2e:FG 87 s87:=dQ f87 q87 ⟨Jb,Jc,Xc,E8⟩
def a1P:FG 59 s59:=dQ f59 q59 ⟨Ij,a2d,KA,VI,a2e,E8⟩
def a1D:FG 34 s34:=dQ f34 q34 ⟨KA,a1P,E8⟩
def a1t:FG 22 s22:=dQ f22 q22 ⟨a1D,E8⟩
def a1m:FG 12 s12:=dQ f12 q12 ⟨KA,VI,SS,a1t,E8⟩
def a1n:FG 14 s14:=dQ f14 q14
def a1Q:FG 6 s6:=dQ f6 q6 ⟨SS,a1n,E8⟩
def a2g:FG 9 s9:=dQ f9 q9
def a2y:FG 5 s5:=dQ f5 q5 ⟨a1k,a1l,a1m,a1Q,a2g,E8⟩
def a1o:FG 15 s15:=dQ f15 q15
def a1p:FG 16 s16:=dQ f16 q16
def a1q:FG 17 s17:=dQ f17 q17
def a2z:FG 7 s7:=dQ f7 q7 ⟨a1o,a1p,a1q,E8⟩
def a2A:FG 8 s8:=dQ f8 q8
def a2w:FG 3 s3:=dQ f3 q3 ⟨a2x,a2y,a1Q,a2z,a2A,a2g,E8⟩
end Gt
