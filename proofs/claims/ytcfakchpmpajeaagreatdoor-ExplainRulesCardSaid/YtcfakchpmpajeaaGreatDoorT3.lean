import Derived.Test.YtcfakchpmpajeaaGreatDoorT2
import Derived.Test.YtcfakchpmpajeaaGreatDoorProg
import Derived.Test.YtcfakchpmpajeaaGreatDoorShelf
set_option linter.all false
open Go Go.GP Go.Proofs.Tryz
namespace Gt
set_option maxRecDepth 100000
noncomputable abbrev P:Program:=Go.Proofs.Tryz.prog
theorem a8E:FV P tt=true:=by kernel_rfl
theorem Zq:∀t sh,H9 eqs t=some sh→qZ P t sh:=En (by kernel_rfl)
theorem dS {f:FuncId} (fn:Func) (ps:List MG) (rt:Ret) (E:Env) (an:Ann) {F:I9 ps→Option rt.den} (h:(P.funcs[f]?,fn.body,fn.ntmps,fn.results.toList,Nat.ble (64*E.nt) 999936,Eu P E.fs)=(some fn,some (Nk fn),E.nt,rt.rs.map (·.1),true,true)) (ht:(E.tt,E.eqs)=(tt,eqs)) (hm:IJ P E.ms) (hs:QP P E.gl E.fs) (hF:∀x,YO E ps rt (Nk fn) an x=F x):
  o5 P E.gl f ⟨ps,rt.rs.map (·.2),rt.outs.map (·.2),F⟩:=by
 injection h with h1 h;injection h with h2 h;injection h with h3 h;injection h with h4 h;injection h with h5 h6
 injection ht with t1 t2
 exact Gw h1 h2 h3 h4 (NE h5 (t1▸a8E) (t2▸Zq) h6 hm hs) fun x r h=>(hF x).trans h
theorem a7M:o5 P gl 16 s16:=dS f16 a4f a5l e16 a8N (by kernel_rfl) rfl trivial trivial fun x=>by kernel_rfl
theorem PT:o5 P gl 128 ZL:=dS f128 Ub Wy b0d a1T (by kernel_rfl) rfl trivial trivial fun x=>by kernel_rfl
theorem a0F:o5 P gl 162 a6M:=dS f162 Uz WW b0z a2p (by kernel_rfl) rfl trivial trivial fun x=>by kernel_rfl
theorem a0q:o5 P gl 129 a6x:=dS f129 Uc WA b0e a1U (by kernel_rfl) rfl trivial ⟨PT,a0F,trivial⟩ fun x=>by kernel_rfl
theorem a0r:o5 P gl 130 a6y:=dS f130 Ud WB b0f a1V (by kernel_rfl) rfl trivial trivial fun x=>by kernel_rfl
theorem FK:o5 P gl 95 s95:=dS f95 a4Z a6g e95 a9I (by kernel_rfl) rfl trivial ⟨PT,a0q,a0r,trivial⟩ fun x=>by kernel_rfl
theorem Fv:o5 P gl 132 Hz:=dS f132 Ju Kt YW QZ (by kernel_rfl) rfl trivial trivial fun x=>by kernel_rfl
theorem Qc:o5 P gl 163 Po:=dS f163 JE KE Zf Ru (by kernel_rfl) rfl trivial ⟨Fv,trivial⟩ fun x=>by kernel_rfl
theorem PU:o5 P gl 131 OY:=dS f131 Jt Kr YV QY (by kernel_rfl) rfl trivial ⟨Qc,trivial⟩ fun x=>by kernel_rfl
theorem QG:o5 P gl 96 s96:=dS f96 a5a a6h e96 a9J (by kernel_rfl) rfl trivial ⟨Fv,PU,trivial⟩ fun x=>by kernel_rfl
theorem a0D:o5 P gl 160 a6K:=dS f160 Ux WU b0x a2n (by kernel_rfl) rfl trivial trivial fun x=>by kernel_rfl
theorem a0o:o5 P gl 123 a6v:=dS f123 TY Wu b0a a1Q (by kernel_rfl) rfl trivial ⟨a0D,trivial⟩ fun x=>by kernel_rfl
theorem a8y:o5 P gl 93 s93:=dS f93 a4X a6e e93 a9G (by kernel_rfl) rfl trivial ⟨FK,QG,a0o,trivial⟩ fun x=>by kernel_rfl
theorem a8m:o5 P gl 61 s61:=dS f61 a4I a5P e61 a9r (by kernel_rfl) rfl trivial ⟨a8y,trivial⟩ fun x=>by kernel_rfl
theorem xm:o5 P gl 118 Hw:=dS f118 TS Wl a9V a1L (by kernel_rfl) rfl trivial trivial fun x=>by kernel_rfl
theorem KZ:o5 P gl 99 s99:=dS f99 a5d a6k e99 a9M (by kernel_rfl) rfl trivial ⟨xm,trivial⟩ fun x=>by kernel_rfl
theorem Il:o5 P gl 124 SN:=dS f124 TZ Wv b0b a1R (by kernel_rfl) rfl trivial trivial fun x=>by kernel_rfl
theorem a0Q:o5 P gl 189 a6X:=dS f189 UO Xl b0P a2F (by kernel_rfl) rfl trivial ⟨Il,trivial⟩ fun x=>by kernel_rfl
theorem a0E:o5 P gl 161 a6L:=dS f161 Uy WV b0y a2o (by kernel_rfl) rfl trivial ⟨a0Q,trivial⟩ fun x=>by kernel_rfl
theorem a0p:o5 P gl 127 a6w:=dS f127 Ua Wx b0c a1S (by kernel_rfl) rfl trivial ⟨a0E,trivial⟩ fun x=>by kernel_rfl
theorem Fq:o5 P gl 126 Hy:=dS f126 Js Kq YU QX (by kernel_rfl) rfl trivial ⟨a0p,trivial⟩ fun x=>by kernel_rfl
theorem PR:o5 P gl 125 OW:=dS f125 Jq JZ YS QV (by kernel_rfl) rfl trivial ⟨Fq,trivial⟩ fun x=>by kernel_rfl
theorem a8z:o5 P gl 94 s94:=dS f94 a4Y a6f e94 a9H (by kernel_rfl) rfl trivial ⟨xm,KZ,Il,Fq,PR,trivial⟩ fun x=>by kernel_rfl
theorem Fz:o5 P gl 134 HY:=dS f134 Jw Kv YY Rh (by kernel_rfl) rfl trivial trivial fun x=>by kernel_rfl
theorem Qd:o5 P gl 164 Pq:=dS f164 JF KF Zg Rw (by kernel_rfl) rfl trivial ⟨Fz,trivial⟩ fun x=>by kernel_rfl
theorem PV:o5 P gl 133 OZ:=dS f133 Jv Ku YX Rf (by kernel_rfl) rfl trivial ⟨Qd,trivial⟩ fun x=>by kernel_rfl
theorem YC:o5 P gl 97 s97:=dS f97 a5b a6i e97 a9K (by kernel_rfl) rfl trivial ⟨Fz,PV,trivial⟩ fun x=>by kernel_rfl
theorem a8n:o5 P gl 62 s62:=dS f62 a4J a5Q e62 a9s (by kernel_rfl) rfl trivial ⟨a8z,FK,QG,YC,trivial⟩ fun x=>by kernel_rfl
theorem FB:o5 P gl 136 Ia:=dS f136 Jz Ky Za Rj (by kernel_rfl) rfl trivial trivial fun x=>by kernel_rfl
theorem Qe:o5 P gl 165 Pv:=dS f165 JG KG Zh Rx (by kernel_rfl) rfl trivial ⟨FB,trivial⟩ fun x=>by kernel_rfl
theorem PW:o5 P gl 135 Pg:=dS f135 Jy Kw YZ Ri (by kernel_rfl) rfl trivial ⟨Qe,trivial⟩ fun x=>by kernel_rfl
theorem FD:o5 P gl 166 Ic:=dS f166 JH KH Zi Ry (by kernel_rfl) rfl trivial trivial fun x=>by kernel_rfl
theorem Qj:o5 P gl 190 Pz:=dS f190 JL KN Zm RG (by kernel_rfl) rfl trivial ⟨FD,trivial⟩ fun x=>by kernel_rfl
theorem Qg:o5 P gl 167 Px:=dS f167 JI KI Zj Rz (by kernel_rfl) rfl trivial ⟨Qj,trivial⟩ fun x=>by kernel_rfl
theorem a0s:o5 P gl 137 a6z:=dS f137 Ue WC b0g a1W (by kernel_rfl) rfl trivial ⟨FD,FK,Qg,xm,trivial⟩ fun x=>by kernel_rfl
theorem a0G:o5 P gl 168 a6N:=dS f168 UA WX b0A a2q (by kernel_rfl) rfl trivial trivial fun x=>by kernel_rfl
theorem a0t:o5 P gl 138 a6A:=dS f138 Uf WE b0h a1X (by kernel_rfl) rfl trivial ⟨a0G,trivial⟩ fun x=>by kernel_rfl
theorem FH:o5 P gl 170 Ie:=dS f170 JK KL Zl RF (by kernel_rfl) rfl trivial trivial fun x=>by kernel_rfl
theorem Qk:o5 P gl 191 PD:=dS f191 JM KO Zn RH (by kernel_rfl) rfl trivial ⟨FH,trivial⟩ fun x=>by kernel_rfl
theorem Qh:o5 P gl 169 Py:=dS f169 JJ KJ Zk RD (by kernel_rfl) rfl trivial ⟨Qk,trivial⟩ fun x=>by kernel_rfl
theorem a0R:o5 Go.Proofs.Tryz.prog gl 192 a6Y:=yB Go.Proofs.Tryz.strings_Contains_one
theorem a0H:o5 P gl 171 a6O:=dS f171 UB WY b0B a2r (by kernel_rfl) rfl trivial ⟨a0R,trivial⟩ fun x=>by kernel_rfl
theorem AB:o5 P gl 175 MK:=dS f175 UF Xc b0F a2v (by kernel_rfl) rfl trivial trivial fun x=>by kernel_rfl
theorem Qb:o5 P gl 149 ZN:=dS f149 Um WM b0o a2e (by kernel_rfl) rfl trivial ⟨AB,trivial⟩ fun x=>by kernel_rfl
theorem Ql:o5 P gl 195 ZP:=dS f195 UT Xo b0S a2I (by kernel_rfl) rfl trivial trivial fun x=>by kernel_rfl
theorem a1j:o5 P gl 225 a7q:=dS f225 Vr XK b1n a3d (by kernel_rfl) rfl trivial ⟨KZ,trivial⟩ fun x=>by kernel_rfl
theorem a1k:o5 P gl 226 a7r:=dS f226 Vs XL b1o a3e (by kernel_rfl) rfl trivial trivial fun x=>by kernel_rfl
theorem Qq:o5 P gl 227 ZV:=dS f227 Vt XM b1p a3f (by kernel_rfl) rfl trivial ⟨xm,trivial⟩ fun x=>by kernel_rfl
theorem Qr:o5 P gl 230 ZW:=dS f230 Vx XP b1s a3i (by kernel_rfl) rfl trivial trivial fun x=>by kernel_rfl
theorem a1l:o5 P gl 228 a7s:=dS f228 Vu XN b1q a3g (by kernel_rfl) rfl trivial ⟨Qr,xm,trivial⟩ fun x=>by kernel_rfl
theorem Qs:o5 P gl 244 ZX:=dS f244 VH Yb b1C a3s (by kernel_rfl) rfl trivial trivial fun x=>by kernel_rfl
theorem a1m:o5 P gl 229 a7t:=dS f229 Vw XO b1r a3h (by kernel_rfl) rfl trivial ⟨Qq,Qs,trivial⟩ fun x=>by kernel_rfl
theorem a1u:o5 P gl 245 a7B:=dS f245 VI Yc b1D a3t (by kernel_rfl) rfl trivial trivial fun x=>by kernel_rfl
theorem a1n:o5 P gl 231 a7u:=dS f231 Vy XQ b1t a3j (by kernel_rfl) rfl trivial ⟨Qs,a1u,trivial⟩ fun x=>by kernel_rfl
theorem a1e:o5 P gl 213 a7l:=dS f213 Vh XC b1f a2V (by kernel_rfl) rfl trivial ⟨a1j,a1k,Qq,a1l,a1m,Qr,a1n,trivial⟩ fun x=>by kernel_rfl
theorem a0S:o5 P gl 193 a6Z:=dS f193 UQ Xm b0Q a2G (by kernel_rfl) rfl trivial ⟨Qb,Ql,AB,a1e,trivial⟩ fun x=>by kernel_rfl
theorem a0I:o5 P gl 172 a6P:=dS f172 UC WZ b0C a2s (by kernel_rfl) rfl trivial ⟨a0S,trivial⟩ fun x=>by kernel_rfl
theorem a0u:o5 P gl 139 a6B:=dS f139 Ug WF b0i a1Y (by kernel_rfl) rfl trivial ⟨FK,FH,Qh,a0H,a0I,trivial⟩ fun x=>by kernel_rfl
theorem Qz:o5 Go.Proofs.Tryz.prog gl 26 s26:=Iz Go.Proofs.Tryz.slices_Sort_int Go.Proofs.Tryz.slices_Sort_int_none
theorem QA:o5 Go.Proofs.Tryz.prog gl 27 s27:=AZ Go.Proofs.Tryz.slices_Compact_int Go.Proofs.Tryz.slices_Compact_int_empty
theorem a0f:o5 P gl 101 a6m:=dS f101 TM VY a9P a1F (by kernel_rfl) rfl trivial ⟨Qz,QA,trivial⟩ fun x=>by kernel_rfl
theorem Yz:o5 P gl 68 s68:=dS f68 a4P a5W e68 a9y (by kernel_rfl) rfl trivial ⟨a0f,trivial⟩ fun x=>by kernel_rfl
theorem a0e:o5 P gl 100 a6l:=dS f100 TL VX a9O a1E (by kernel_rfl) rfl trivial ⟨Yz,trivial⟩ fun x=>by kernel_rfl
theorem YA:o5 P gl 69 s69:=dS f69 a4Q a5X e69 a9z (by kernel_rfl) rfl trivial ⟨Qz,QA,trivial⟩ fun x=>by kernel_rfl
theorem QF:o5 P gl 67 s67:=dS f67 a4O a5V e67 a9x (by kernel_rfl) rfl trivial ⟨a0e,YA,trivial⟩ fun x=>by kernel_rfl
theorem Yy:o5 P gl 66 s66:=dS f66 a4N a5U e66 a9w (by kernel_rfl) rfl trivial trivial fun x=>by kernel_rfl
theorem QE:o5 P gl 39 s39:=dS f39 a4w a5D e39 a9f (by kernel_rfl) rfl trivial ⟨QF,Yy,trivial⟩ fun x=>by kernel_rfl
theorem a0J:o5 P gl 173 a6Q:=dS f173 UD Xa b0D a2t (by kernel_rfl) rfl trivial trivial fun x=>by kernel_rfl
theorem a0v:o5 P gl 140 a6C:=dS f140 Uh WG b0j a1Z (by kernel_rfl) rfl trivial ⟨a0J,trivial⟩ fun x=>by kernel_rfl
theorem a8A:o5 P gl 98 s98:=dS f98 a5c a6j e98 a9L (by kernel_rfl) rfl trivial ⟨QG,YC,FB,PW,FK,a0s,a0t,a0u,QE,a0v,trivial⟩ fun x=>by kernel_rfl
theorem a8o:o5 P gl 63 s63:=dS f63 a4K a5R e63 a9t (by kernel_rfl) rfl trivial ⟨a8A,trivial⟩ fun x=>by kernel_rfl
theorem a8a:o5 P gl 37 s37:=dS f37 a4u a5B e37 a9d (by kernel_rfl) rfl trivial ⟨a8m,a8n,a8o,trivial⟩ fun x=>by kernel_rfl
theorem a8p:o5 P gl 64 s64:=dS f64 a4L a5S e64 a9u (by kernel_rfl) rfl trivial ⟨KZ,trivial⟩ fun x=>by kernel_rfl
theorem a8q:o5 P gl 65 s65:=dS f65 a4M a5T e65 a9v (by kernel_rfl) rfl trivial trivial fun x=>by kernel_rfl
theorem a8b:o5 P gl 38 s38:=dS f38 a4v a5C e38 a9e (by kernel_rfl) rfl trivial ⟨a8p,a8q,trivial⟩ fun x=>by kernel_rfl
theorem a7R:o5 P gl 21 s21:=dS f21 a4k a5r e21 a8S (by kernel_rfl) rfl trivial ⟨a8a,a8b,trivial⟩ fun x=>by kernel_rfl
theorem a7S:o5 P gl 22 s22:=dS f22 a4l a5s e22 a8T (by kernel_rfl) rfl trivial trivial fun x=>by kernel_rfl
theorem a8c:o5 P gl 40 s40:=dS f40 a4x a5E e40 a9g (by kernel_rfl) rfl trivial ⟨QF,Yy,Yz,YA,trivial⟩ fun x=>by kernel_rfl
theorem a8d:o5 P gl 41 s41:=dS f41 a4y a5F e41 a9h (by kernel_rfl) rfl trivial ⟨QE,trivial⟩ fun x=>by kernel_rfl
theorem a7T:o5 P gl 23 s23:=dS f23 a4m a5t e23 a8U (by kernel_rfl) rfl trivial ⟨QE,a8c,a8d,trivial⟩ fun x=>by kernel_rfl
theorem QC:o5 P gl 277 PG:=dS f277 JP KQ Zp RJ (by kernel_rfl) rfl trivial trivial fun x=>by kernel_rfl
theorem Ik:o5 P gl 103 SL:=dS f103 TN VZ a9Q a1G (by kernel_rfl) rfl trivial trivial fun x=>by kernel_rfl
theorem QB:o5 P gl 275 a0d:=dS f275 VU Yn b1O a3E (by kernel_rfl) rfl trivial trivial fun x=>by kernel_rfl
theorem Iy:o5 P gl 278 Td:=dS f278 VW Yp b1Q a3G (by kernel_rfl) rfl trivial trivial fun x=>by kernel_rfl
theorem a3U:jH Go.Proofs.Tryz.prog 206 "Less" 275 (some 207):=uh (by kernel_rfl)
theorem Zx:jH Go.Proofs.Tryz.prog 206 "Swap" 278 (some 207):=uh (by kernel_rfl)
theorem PX:o5 P gl 141 Ph:=dS f141 JA Kz Zb Rk (by kernel_rfl) rfl ⟨a3U,Zx,trivial⟩ ⟨QB,Iy,trivial⟩ fun x=>by kernel_rfl
theorem a3V:jH Go.Proofs.Tryz.prog 206 "Len" 103 (some 207):=uh (by kernel_rfl)
theorem b1R:jH Go.Proofs.Tryz.prog 206 "Push" 277 none:=fun v w=>show(method _ 206 v "Push").run _ w= .ok (277,v) w by kernel_rfl
theorem PP:o5 P gl 102 OU:=dS f102 Jo JX YQ QT (by kernel_rfl) rfl ⟨a3V,b1R,trivial⟩ ⟨QC,Ik,PX,trivial⟩ fun x=>by kernel_rfl
theorem PY:o5 P gl 142 Pi:=dS f142 JB KA Zc Rn (by kernel_rfl) rfl ⟨a3U,Zx,trivial⟩ ⟨QB,Iy,trivial⟩ fun x=>by kernel_rfl
theorem a1y:o5 P gl 276 a7F:=dS f276 VV Yo b1P a3F (by kernel_rfl) rfl trivial trivial fun x=>by kernel_rfl
theorem b1S:jH Go.Proofs.Tryz.prog 206 "Pop" 276 none:=fun v w=>show(method _ 206 v "Pop").run _ w= .ok (276,v) w by kernel_rfl
theorem PQ:o5 P gl 104 OV:=dS f104 Jp JY YR QU (by kernel_rfl) rfl ⟨a3V,b1S,Zx,trivial⟩ ⟨Ik,Iy,PY,a1y,trivial⟩ fun x=>by kernel_rfl
theorem a8r:o5 P gl 70 s70:=dS f70 a4R a5Y e70 a9A (by kernel_rfl) rfl trivial ⟨QF,PP,Ik,PQ,trivial⟩ fun x=>by kernel_rfl
theorem Io:o5 P gl 145 SQ:=dS f145 Ui WH b0k a2a (by kernel_rfl) rfl trivial ⟨Il,trivial⟩ fun x=>by kernel_rfl
theorem FC:o5 P gl 144 Ib:=dS f144 JD KD Ze Rt (by kernel_rfl) rfl trivial ⟨Io,trivial⟩ fun x=>by kernel_rfl
theorem PZ:o5 P gl 143 Pj:=dS f143 JC KC Zd Ro (by kernel_rfl) rfl trivial ⟨FC,trivial⟩ fun x=>by kernel_rfl
theorem a0g:o5 P gl 105 a6n:=dS f105 TP We a9R a1H (by kernel_rfl) rfl trivial ⟨FC,PZ,trivial⟩ fun x=>by kernel_rfl
theorem a0i:o5 P gl 107 a6p:=dS f107 TR Wi a9T a1J (by kernel_rfl) rfl trivial ⟨Qb,trivial⟩ fun x=>by kernel_rfl
theorem a0y:o5 P gl 150 a6F:=dS f150 Un WN b0p a2f (by kernel_rfl) rfl trivial ⟨AB,trivial⟩ fun x=>by kernel_rfl
theorem xn:o5 P gl 182 Ig:=dS f182 UL Xi b0M a2C (by kernel_rfl) rfl trivial trivial fun x=>by kernel_rfl
theorem a0L:o5 P gl 177 a6S:=dS f177 UG Xd b0H a2x (by kernel_rfl) rfl trivial ⟨AB,Ql,trivial⟩ fun x=>by kernel_rfl
theorem a0M:o5 P gl 178 a6T:=dS f178 UH Xe b0I a2y (by kernel_rfl) rfl trivial trivial fun x=>by kernel_rfl
theorem a0N:o5 P gl 179 a6U:=dS f179 UI Xf b0J a2z (by kernel_rfl) rfl trivial ⟨xn,trivial⟩ fun x=>by kernel_rfl
theorem Qm:o5 P gl 196 ZQ:=dS f196 UU Xp b0T a2J (by kernel_rfl) rfl trivial ⟨xn,trivial⟩ fun x=>by kernel_rfl
theorem Iq:o5 P gl 214 SV:=dS f214 Vj XD b1g a2W (by kernel_rfl) rfl trivial trivial fun x=>by kernel_rfl
theorem a0U:o5 P gl 197 a7b:=dS f197 UV Xq b0U a2K (by kernel_rfl) rfl trivial ⟨Iq,trivial⟩ fun x=>by kernel_rfl
theorem a0V:o5 P gl 198 a7c:=dS f198 UW Xr b0V a2L (by kernel_rfl) rfl trivial ⟨Iq,trivial⟩ fun x=>by kernel_rfl
theorem Qn:o5 P gl 200 ZR:=dS f200 UY Xu b0X a2N (by kernel_rfl) rfl trivial trivial fun x=>by kernel_rfl
theorem a0W:o5 P gl 199 a7d:=dS f199 UX Xt b0W a2M (by kernel_rfl) rfl trivial ⟨Qn,Iq,trivial⟩ fun x=>by kernel_rfl
theorem a0O:o5 P gl 180 a6V:=dS f180 UJ Xg b0K a2A (by kernel_rfl) rfl trivial ⟨xn,Qm,a0U,a0V,a0W,Qn,trivial⟩ fun x=>by kernel_rfl
theorem a0X:o5 P gl 201 a7e:=dS f201 UZ Xv b0Y a2O (by kernel_rfl) rfl trivial ⟨Qm,xn,trivial⟩ fun x=>by kernel_rfl
theorem FI:o5 P gl 215 Ih:=dS f215 JO KP Zo RI (by kernel_rfl) rfl trivial ⟨Io,trivial⟩ fun x=>by kernel_rfl
theorem PS:o5 P gl 125 OX:=dS f125 Jr Ko YT QW (by kernel_rfl) rfl trivial ⟨FI,trivial⟩ fun x=>by kernel_rfl
theorem a0Y:o5 P gl 202 a7f:=dS f202 Va Xw b0Z a2P (by kernel_rfl) rfl trivial ⟨FI,PS,trivial⟩ fun x=>by kernel_rfl
theorem KY:o5 Go.Proofs.Tryz.prog gl 85 s85:=EP Go.Proofs.Tryz.bits_Mul64
theorem a8t:o5 P gl 83 s83:=dS f83 a4U a6b e83 a9D (by kernel_rfl) rfl trivial trivial fun x=>by kernel_rfl
theorem a1v:o5 P gl 246 a7C:=dS f246 VJ Yd b1E a3u (by kernel_rfl) rfl trivial ⟨a8t,trivial⟩ fun x=>by kernel_rfl
theorem Ir:o5 P gl 232 SX:=dS f232 Vz XR b1u a3k (by kernel_rfl) rfl trivial ⟨a1v,trivial⟩ fun x=>by kernel_rfl
theorem a1f:o5 P gl 216 a7m:=dS f216 Vk XE b1h a2X (by kernel_rfl) rfl trivial ⟨KY,Ir,trivial⟩ fun x=>by kernel_rfl
theorem Iu:o5 P gl 247 SY:=dS f247 VK Ye b1F a3v (by kernel_rfl) rfl trivial trivial fun x=>by kernel_rfl
theorem Iw:o5 P gl 248 Tc:=dS f248 VL Yf b1G a3w (by kernel_rfl) rfl trivial trivial fun x=>by kernel_rfl
theorem Qu:o5 P gl 249 ZY:=dS f249 VM Yg b1H a3x (by kernel_rfl) rfl trivial trivial fun x=>by kernel_rfl
theorem Qv:o5 P gl 250 ZZ:=dS f250 VN Yh b1I a3y (by kernel_rfl) rfl trivial trivial fun x=>by kernel_rfl
theorem Qw:o5 P gl 251 a0a:=dS f251 VO Yi b1J a3z (by kernel_rfl) rfl trivial trivial fun x=>by kernel_rfl
theorem DW:o5 P gl 233 PE:=dS f233 VA XU b1v a3l (by kernel_rfl) rfl trivial ⟨Iu,Iw,Qu,Qv,Qw,trivial⟩ fun x=>by kernel_rfl
theorem a1g:o5 P gl 217 a7n:=dS f217 Vl XF b1i a2Y (by kernel_rfl) rfl trivial ⟨DW,trivial⟩ fun x=>by kernel_rfl
theorem a0Z:o5 P gl 203 a7g:=dS f203 Vb Xx b1a a2Q (by kernel_rfl) rfl trivial ⟨Io,a1f,a1g,trivial⟩ fun x=>by kernel_rfl
theorem Qo:o5 P gl 218 ZT:=dS f218 Vm XG b1j a2Z (by kernel_rfl) rfl trivial trivial fun x=>by kernel_rfl
theorem DU:o5 P gl 156 Pm:=dS f156 Us WQ b0t a2j (by kernel_rfl) rfl trivial trivial fun x=>by kernel_rfl
theorem a1c:o5 P gl 210 a7j:=dS f210 Vf XA b1d a2T (by kernel_rfl) rfl trivial trivial fun x=>by kernel_rfl
theorem Qi:o5 P gl 187 ZO:=dS f187 UM Xj b0N a2D (by kernel_rfl) rfl trivial ⟨a1c,trivial⟩ fun x=>by kernel_rfl
theorem a1d:o5 P gl 211 a7k:=dS f211 Vg XB b1e a2U (by kernel_rfl) rfl trivial trivial fun x=>by kernel_rfl
theorem Ip:o5 P gl 188 SS:=dS f188 UN Xk b0O a2E (by kernel_rfl) rfl trivial ⟨a1d,trivial⟩ fun x=>by kernel_rfl
theorem DV:o5 P gl 157 Pn:=dS f157 Ut WR b0u a2k (by kernel_rfl) rfl trivial ⟨DU,Qi,Ip,trivial⟩ fun x=>by kernel_rfl
theorem a1a:o5 P gl 204 a7h:=dS f204 Vd Xy b1b a2R (by kernel_rfl) rfl trivial ⟨Qo,DV,trivial⟩ fun x=>by kernel_rfl
theorem a1o:o5 P gl 234 a7v:=dS f234 VB XV b1w a3m (by kernel_rfl) rfl trivial ⟨KY,trivial⟩ fun x=>by kernel_rfl
theorem a1w:o5 P gl 252 a7D:=dS f252 VP Yj b1K a3A (by kernel_rfl) rfl trivial ⟨Iu,Iw,Qu,KY,Ir,Qv,Qw,trivial⟩ fun x=>by kernel_rfl
theorem a1p:o5 P gl 235 a7w:=dS f235 VC XW b1x a3n (by kernel_rfl) rfl trivial ⟨a1w,trivial⟩ fun x=>by kernel_rfl
theorem Qx:o5 P gl 253 a0b:=dS f253 VQ Yk b1L a3B (by kernel_rfl) rfl trivial trivial fun x=>by kernel_rfl
theorem Qy:o5 P gl 254 a0c:=dS f254 VR Yl b1M a3C (by kernel_rfl) rfl trivial trivial fun x=>by kernel_rfl
theorem a1q:o5 P gl 236 a7x:=dS f236 VD XX b1y a3o (by kernel_rfl) rfl trivial ⟨Qx,Qy,DW,trivial⟩ fun x=>by kernel_rfl
theorem a1r:o5 P gl 237 a7y:=dS f237 VE XY b1z a3p (by kernel_rfl) rfl trivial ⟨Iu,Iw,DW,trivial⟩ fun x=>by kernel_rfl
theorem a1x:o5 P gl 255 a7E:=dS f255 VS Ym b1N a3D (by kernel_rfl) rfl trivial trivial fun x=>by kernel_rfl
theorem a1s:o5 P gl 238 a7z:=dS f238 VF XZ b1A a3q (by kernel_rfl) rfl trivial ⟨Qx,Qy,KY,Ir,a1x,trivial⟩ fun x=>by kernel_rfl
theorem a1h:o5 P gl 219 a7o:=dS f219 Vo XH b1k a3a (by kernel_rfl) rfl trivial ⟨a1o,a1p,a1q,a1r,DW,a1s,trivial⟩ fun x=>by kernel_rfl
theorem a1t:o5 P gl 239 a7A:=dS f239 VG Ya b1B a3r (by kernel_rfl) rfl trivial ⟨Ip,Qi,trivial⟩ fun x=>by kernel_rfl
theorem Qp:o5 P gl 220 ZU:=dS f220 Vp XI b1l a3b (by kernel_rfl) rfl trivial ⟨DU,DV,Ip,a1t,trivial⟩ fun x=>by kernel_rfl
theorem a1i:o5 P gl 221 a7p:=dS f221 Vq XJ b1m a3c (by kernel_rfl) rfl trivial ⟨DU,DV,Qp,trivial⟩ fun x=>by kernel_rfl
theorem a1b:o5 P gl 205 a7i:=dS f205 Ve Xz b1c a2S (by kernel_rfl) rfl trivial ⟨a1h,Qo,Qp,a1i,trivial⟩ fun x=>by kernel_rfl
theorem a0P:o5 P gl 181 a6W:=dS f181 UK Xh b0L a2B (by kernel_rfl) rfl trivial ⟨a0X,a0Y,a0Z,a1a,a1b,trivial⟩ fun x=>by kernel_rfl
theorem a0z:o5 P gl 152 a6G:=dS f152 Uo WO b0r a2h (by kernel_rfl) rfl trivial ⟨a0L,AB,a0M,a0N,a0O,a0P,xn,trivial⟩ fun x=>by kernel_rfl
theorem Tn:∀n,o5 P gl 176 ⟨Ot,[(true,(.dat (.prod (.int .i64) (.prod (.int .i64) (.int .i64))))),(false,(.dat (.int .i64)))],[],fun x=>(o9 n).1 x.1 x.2⟩∧o5 P gl 108 ⟨Cm,[(true,(.dat (.prod (.int .i64) (.prod (.int .i64) (.int .i64))))),(false,(.dat (.int .i64)))],[],fun x=>(o9 n).2.1 x.1 x.2⟩∧o5 P gl 151 ⟨Oq,[(true,(.dat (.prod (.int .i64) (.prod (.int .i64) (.int .i64))))),(false,(.dat (.int .i64)))],[],fun x=>(o9 n).2.2 x.1 x.2.1 x.2.2⟩:=by
 intro n
 induction n with
 | zero=>exact⟨(fun w ok O vals x r _ _ _ _ _ h=>by cases h),(fun w ok O vals x r _ _ _ _ _ h=>by cases h),(fun w ok O vals x r _ _ _ _ _ h=>by cases h)⟩
 | succ n ih=>exact⟨dS f176 Ot a5n (b0G (o9 n).1 (o9 n).2.1 (o9 n).2.2) a2w (by kernel_rfl) rfl trivial ⟨ih.2.1,xn,trivial⟩ fun x=>by kernel_rfl,
  dS f108 Cm Wj (a9U (o9 n).1 (o9 n).2.1 (o9 n).2.2) a1K (by kernel_rfl) rfl trivial ⟨a0y,ih.2.2,ih.2.1,a0z,trivial⟩ fun x=>by kernel_rfl,
  dS f151 Oq a5k (b0q (o9 n).1 (o9 n).2.1 (o9 n).2.2) a2g (by kernel_rfl) rfl trivial ⟨ih.1,ih.2.1,trivial⟩ fun x=>by kernel_rfl⟩
theorem a0j:o5 P gl 108 a6q:=(Tn bJ).2.1
theorem YB:o5 P gl 72 s72:=dS f72 a4T a6a e72 a9C (by kernel_rfl) rfl trivial ⟨a0i,a0j,trivial⟩ fun x=>by kernel_rfl
theorem a0w:o5 P gl 146 a6D:=dS f146 Uj WI b0l a2b (by kernel_rfl) rfl trivial trivial fun x=>by kernel_rfl
theorem a0T:o5 P gl 194 a7a:=dS f194 UR Xn b0R a2H (by kernel_rfl) rfl trivial trivial fun x=>by kernel_rfl
theorem a0K:o5 P gl 174 a6R:=dS f174 UE Xb b0E a2u (by kernel_rfl) rfl trivial ⟨a0T,trivial⟩ fun x=>by kernel_rfl
theorem Qa:o5 P gl 148 ZM:=dS f148 Ul WL b0n a2d (by kernel_rfl) rfl trivial ⟨a0K,trivial⟩ fun x=>by kernel_rfl
theorem a0x:o5 P gl 147 a6E:=dS f147 Uk WJ b0m a2c (by kernel_rfl) rfl trivial ⟨Qa,trivial⟩ fun x=>by kernel_rfl
theorem a0h:o5 P gl 106 a6o:=dS f106 TQ Wh a9S a1I (by kernel_rfl) rfl trivial ⟨a0w,a0x,Qa,trivial⟩ fun x=>by kernel_rfl
theorem a8s:o5 P gl 71 s71:=dS f71 a4S a5Z e71 a9B (by kernel_rfl) rfl trivial ⟨a0g,YB,a0h,trivial⟩ fun x=>by kernel_rfl
theorem a8e:o5 P gl 42 s42:=dS f42 a4z a5G e42 a9i (by kernel_rfl) rfl trivial ⟨a8r,a8s,YB,trivial⟩ fun x=>by kernel_rfl
theorem a7U:o5 P gl 24 s24:=dS f24 a4n a5u e24 a8V (by kernel_rfl) rfl trivial ⟨a8e,trivial⟩ fun x=>by kernel_rfl
theorem a8v:o5 P gl 9 s9:=dS f9 ps9 rt9 e9 an9 (by kernel_rfl) rfl trivial ⟨a7R,a7S,a7T,a7U,trivial⟩ fun x=>by kernel_rfl
theorem Yx:o5 P gl 32 s32:=dS f32 a4s a5z e32 a9a (by kernel_rfl) rfl trivial ⟨a8v,trivial⟩ fun x=>by kernel_rfl
theorem KX:o5 P gl 58 PI:=dS f58 OA OQ a3M YM (by kernel_rfl) rfl trivial trivial fun x=>by kernel_rfl
theorem Tm:o5 P gl 91 Yu:=dS f91 OB OT a3N YN (by kernel_rfl) rfl trivial ⟨KX,trivial⟩ fun x=>by kernel_rfl
theorem Tj:o5 P gl 57 Yt:=dS f57 Oz OO a3L YL (by kernel_rfl) rfl trivial ⟨Tm,trivial⟩ fun x=>by kernel_rfl
theorem Ti:o5 P gl 33 Yr:=dS f33 Ou OL a3J YJ (by kernel_rfl) rfl trivial ⟨KX,Tj,trivial⟩ fun x=>by kernel_rfl
theorem KU:o5 P gl 34 PH:=dS f34 Ov OM a3K YK (by kernel_rfl) rfl trivial trivial fun x=>by kernel_rfl
theorem a0C:o5 P gl 159 a6J:=dS f159 Uw WT b0w a2m (by kernel_rfl) rfl trivial trivial fun x=>by kernel_rfl
theorem a0n:o5 P gl 122 a6u:=dS f122 TW Ws a9Z a1P (by kernel_rfl) rfl trivial ⟨a0C,trivial⟩ fun x=>by kernel_rfl
theorem a8x:o5 P gl 92 s92:=dS f92 a4W a6d e92 a9F (by kernel_rfl) rfl trivial ⟨a0n,trivial⟩ fun x=>by kernel_rfl
theorem a8k:o5 P gl 59 s59:=dS f59 a4G a5N e59 a9p (by kernel_rfl) rfl trivial ⟨a8x,trivial⟩ fun x=>by kernel_rfl
theorem a7Z:o5 P gl 35 s35:=dS f35 a4t a5A e35 a9b (by kernel_rfl) rfl trivial ⟨Yx,a8k,trivial⟩ fun x=>by kernel_rfl
theorem a8l:o5 P gl 60 s60:=dS f60 a4H a5O e60 a9q (by kernel_rfl) rfl trivial trivial fun x=>by kernel_rfl
theorem a1z:∀n,o5 P gl 20 ⟨SB,[],[(true,(.pair (.own (.prod (.int .i64) (.prod (.int .i64) (.prod (.int .i64) (.prod (.int .i64) (.prod (.int .i64) (.prod (.int .i64) (.prod (.int .i64) (.int .i64))))))))) (.pair (.dat (.prod (.sl (.prod .str (.sl .str))) (.prod (.sl (.prod .str (.prod (.prod (.int .i64) (.int .i64)) (.prod (.prod (.int .i64) (.int .i64)) (.sl (.prod (.prod (.int .i64) (.int .i64)) (.prod (.int .i64) (.prod (.int .i64) (.int .i64))))))))) (.sl (.prod .str (.prod (.int .i64) (.prod (.sl (.prod .str (.prod (.int .i64) (.int .i64)))) (.prod (.sl (.prod .str (.prod (.int .i64) (.int .i64)))) (.sl (.prod .str (.prod (.int .i64) (.prod (.int .i64) (.prod (.int .i64) (.prod (.prod (.int .i64) (.int .i64)) (.prod (.sl (.prod (.int .i64) (.int .i64))) (.prod (.sl (.prod (.int .i64) (.int .i64))) .str)))))))))))))))) (.pair (.dat (.int .i64)) (.pair (.dat (.prod (.int .i64) (.prod (.sl (.prod (.int .i64) (.prod (.int .i64) (.int .i64)))) (.sl (.sl (.prod (.int .i64) (.prod (.int .i64) (.int .i64)))))))) (.pair (.own (.ent true true (.prod (.int .i64) (.int .i64)) (.prod (.prod (.int .i64) (.prod (.int .i64) (.int .i64))) (.int .i64)))) (.dat (.prod (.int .i64) (.prod (.int .i64) (.prod (.int .i64) (.int .i64)))))))))))],fun x=>(D7 n).1 x.1 x.2.1 x.2.2⟩∧o5 P gl 36 ⟨ZI,[],[(true,(.pair (.own (.prod (.int .i64) (.prod (.int .i64) (.prod (.int .i64) (.prod (.int .i64) (.prod (.int .i64) (.prod (.int .i64) (.prod (.int .i64) (.int .i64))))))))) (.pair (.dat (.prod (.sl (.prod .str (.sl .str))) (.prod (.sl (.prod .str (.prod (.prod (.int .i64) (.int .i64)) (.prod (.prod (.int .i64) (.int .i64)) (.sl (.prod (.prod (.int .i64) (.int .i64)) (.prod (.int .i64) (.prod (.int .i64) (.int .i64))))))))) (.sl (.prod .str (.prod (.int .i64) (.prod (.sl (.prod .str (.prod (.int .i64) (.int .i64)))) (.prod (.sl (.prod .str (.prod (.int .i64) (.int .i64)))) (.sl (.prod .str (.prod (.int .i64) (.prod (.int .i64) (.prod (.int .i64) (.prod (.prod (.int .i64) (.int .i64)) (.prod (.sl (.prod (.int .i64) (.int .i64))) (.prod (.sl (.prod (.int .i64) (.int .i64))) .str)))))))))))))))) (.pair (.dat (.int .i64)) (.pair (.dat (.prod (.int .i64) (.prod (.sl (.prod (.int .i64) (.prod (.int .i64) (.int .i64)))) (.sl (.sl (.prod (.int .i64) (.prod (.int .i64) (.int .i64)))))))) (.pair (.own (.ent true true (.prod (.int .i64) (.int .i64)) (.prod (.prod (.int .i64) (.prod (.int .i64) (.int .i64))) (.int .i64)))) (.dat (.prod (.int .i64) (.prod (.int .i64) (.prod (.int .i64) (.int .i64)))))))))))],fun x=>(D7 n).2 x.1 x.2.1 x.2.2.1 x.2.2.2⟩:=by
 intro n
 induction n with
 | zero=>exact⟨(fun w ok O vals x r _ _ _ _ _ h=>by cases h),(fun w ok O vals x r _ _ _ _ _ h=>by cases h)⟩
 | succ n ih=>exact⟨dS f20 SB a5q (e20 (D7 n).1 (D7 n).2) a8R (by kernel_rfl) rfl trivial ⟨Yx,Ti,KU,a7Z,ih.2,trivial⟩ fun x=>by kernel_rfl,
  dS f36 ZI b2a (e36 (D7 n).1 (D7 n).2) a9c (by kernel_rfl) rfl trivial ⟨a8l,KU,ih.1,trivial⟩ fun x=>by kernel_rfl⟩
theorem a7Q:o5 P gl 20 s20:=(a1z bJ).1
theorem b2d:o5 P gl 8 s8:=dS f8 ps8 rt8 e8 an8 (by kernel_rfl) rfl trivial ⟨a8v,a7Q,trivial⟩ fun x=>by kernel_rfl
theorem a7N:o5 P gl 17 s17:=dS f17 a4g a5m e17 a8O (by kernel_rfl) rfl trivial trivial fun x=>by kernel_rfl
theorem QD:o5 Go.Proofs.Tryz.prog gl 30 s30:=DL Go.Proofs.Tryz.strings_Repeat
theorem a8f:o5 P gl 51 s51:=dS f51 a4A a5H e51 a9j (by kernel_rfl) rfl trivial trivial fun x=>by kernel_rfl
theorem a8u:o5 Go.Proofs.Tryz.prog gl 89 s89:=GU (g:=1) Go.Proofs.Tryz.strconv_Itoa (by kernel_rfl) (by kernel_rfl)
theorem KW:o5 P gl 52 s52:=dS f52 a4B a5I e52 a9k (by kernel_rfl) rfl trivial ⟨a8u,trivial⟩ fun x=>by kernel_rfl
theorem a8g:o5 P gl 53 s53:=dS f53 a4C a5J e53 a9l (by kernel_rfl) rfl trivial trivial fun x=>by kernel_rfl
theorem a0k:o5 P gl 119 a6r:=dS f119 TT Wn a9W a1M (by kernel_rfl) rfl trivial ⟨KZ,trivial⟩ fun x=>by kernel_rfl
theorem a0A:o5 P gl 155 a6H:=dS f155 Ur WP b0s a2i (by kernel_rfl) rfl trivial trivial fun x=>by kernel_rfl
theorem a0l:o5 P gl 120 a6s:=dS f120 TU Wp a9X a1N (by kernel_rfl) rfl trivial ⟨a0A,KW,QD,trivial⟩ fun x=>by kernel_rfl
theorem a0B:o5 P gl 158 a6I:=dS f158 Uu WS b0v a2l (by kernel_rfl) rfl trivial ⟨KW,QD,trivial⟩ fun x=>by kernel_rfl
theorem a0m:o5 P gl 121 a6t:=dS f121 TV Wq a9Y a1O (by kernel_rfl) rfl trivial ⟨DU,DV,a0B,trivial⟩ fun x=>by kernel_rfl
theorem a8w:o5 P gl 90 s90:=dS f90 a4V a6c e90 a9E (by kernel_rfl) rfl trivial ⟨xm,a0k,KW,a0l,a0m,trivial⟩ fun x=>by kernel_rfl
theorem a8h:o5 P gl 54 s54:=dS f54 a4D a5K e54 a9m (by kernel_rfl) rfl trivial ⟨a8w,trivial⟩ fun x=>by kernel_rfl
theorem a8i:o5 P gl 55 s55:=dS f55 a4E a5L e55 a9n (by kernel_rfl) rfl trivial trivial fun x=>by kernel_rfl
theorem a8j:o5 P gl 56 s56:=dS f56 a4F a5M e56 a9o (by kernel_rfl) rfl trivial trivial fun x=>by kernel_rfl
theorem a7Y:o5 P gl 31 s31:=dS f31 a4r a5y e31 a8Z (by kernel_rfl) rfl trivial ⟨a8f,KW,a8g,a8h,a8i,a8j,trivial⟩ fun x=>by kernel_rfl
theorem a7P:o5 P gl 19 s19:=dS f19 a4i a5p e19 a8Q (by kernel_rfl) rfl trivial ⟨QD,a7Y,trivial⟩ fun x=>by kernel_rfl
theorem a7O:o5 P gl 18 s18:=dS f18 a4h a5o e18 a8P (by kernel_rfl) rfl trivial trivial fun x=>by kernel_rfl
theorem a7V:o5 P gl 25 s25:=dS f25 a4o a5v e25 a8W (by kernel_rfl) rfl trivial trivial fun x=>by kernel_rfl
theorem Yw:o5 P gl 10 s10:=dS f10 a4a a5f e10 a8I (by kernel_rfl) rfl trivial ⟨a7V,trivial⟩ fun x=>by kernel_rfl
theorem b2c:o5 P gl 7 s7:=dS f7 ps7 rt7 e7 an7 (by kernel_rfl) rfl trivial ⟨a7M,b2d,a7N,a7P,a7O,Yw,trivial⟩ fun x=>by kernel_rfl
theorem a7I:o5 P gl 11 s11:=dS f11 a4b a5g e11 a8J (by kernel_rfl) rfl trivial ⟨Qz,QA,trivial⟩ fun x=>by kernel_rfl
theorem a7W:o5 P gl 28 s28:=dS f28 a4p a5w e28 a8X (by kernel_rfl) rfl trivial trivial fun x=>by kernel_rfl
theorem a7J:o5 P gl 12 s12:=dS f12 a4c a5h e12 a8K (by kernel_rfl) rfl trivial ⟨a7W,trivial⟩ fun x=>by kernel_rfl
theorem a7K:o5 P gl 13 s13:=dS f13 a4d a5i e13 a8L (by kernel_rfl) rfl trivial trivial fun x=>by kernel_rfl
theorem a7X:o5 P gl 29 s29:=dS f29 a4q a5x e29 a8Y (by kernel_rfl) rfl trivial trivial fun x=>by kernel_rfl
theorem a7L:o5 P gl 14 s14:=dS f14 a4e a5j e14 a8M (by kernel_rfl) rfl trivial ⟨a7X,trivial⟩ fun x=>by kernel_rfl
theorem b2b:o5 P gl 4 s4:=dS f4 ps4 rt4 e4 an4 (by kernel_rfl) rfl trivial ⟨b2c,a7I,a7J,a7K,Yw,a7L,trivial⟩ fun x=>by kernel_rfl
end Gt
