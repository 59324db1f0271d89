import Derived.Test.YtpkmnnphdanlpaaGreatDoorT3
import Derived.Test.YtpkmnnphdanlpaaGreatDoorProg
import Derived.Test.YtpkmnnphdanlpaaGreatDoorShelf
set_option linter.all false
open Go Go.GP Go.Shelf Go.RowKit Go.Proofs Go.Proofs.Tryz
namespace Gt
set_option maxRecDepth 100000
noncomputable abbrev P:Program:=Go.Proofs.Tryz.prog
theorem a9g:Yp P tt=true:=by kernel_rfl
theorem a3e:∀t sh,dI eqs t=some sh->Gn P t sh:=WJ (by kernel_rfl)
theorem dS{f:FuncId}(fn:Func)(ps:List MG)(rt:Ret)(E:Env)(an:Ann){F:aW ps->Option rt.den}(h:(P.funcs[f]?,fn.body,fn.ntmps,fn.results.toList,Nat.ble (64*E.nt) 999936,TN P E.fs)=(some fn,some (Pv fn),E.nt,rt.rs.map (·.1),true,true))(ht:(E.tt,E.eqs)=(tt,eqs))(hm:Wi P E.ms)(hs:a2C P E.gl E.fs)(hF:∀x,a1x E ps rt (Pv fn) an x=F x):
  gz P E.gl f ⟨ps,rt.rs.map (·.2),rt.outs.map (·.2),F⟩:=by
 injection h with h1 h;injection h with h2 h;injection h with h3 h;injection h with h4 h;injection h with h5 h6;injection ht with t1 t2;exact IL h1 h2 h3 h4 (WI h5 (t1▸a9g) (t2▸a3e) h6 hm hs) λx r h=>(hF x).trans h
theorem dQ{f:FuncId}(fn:Func)(q:FQ){F:aW q.ps->Option q.rt.den}(hs:a2C P q.E.gl q.E.fs:=by exact trivial)(h:(P.funcs[f]?,fn.body,fn.ntmps,fn.results.toList,Nat.ble (64*q.E.nt) 999936,TN P q.E.fs)=(some fn,some (Pv fn),q.E.nt,q.rt.rs.map (·.1),true,true):=by kernel_rfl)(ht:(q.E.tt,q.E.eqs)=(tt,eqs):=by rfl)(hm:Wi P q.E.ms:=by exact trivial)(hF:∀x,a1x q.E q.ps q.rt (Pv fn) q.an x=F x:=by intro x;kernel_rfl):
  gz P q.E.gl f ⟨q.ps,q.rt.rs.map (·.2),q.rt.outs.map (·.2),F⟩:=dS fn q.ps q.rt q.E q.an h ht hm hs hF
abbrev FG(n:FuncId)(s:FSpec):=gz P gl n s
def b4E:FG 10 s10:=dQ f10 q10
def b6c:FG 4 s4:=dQ f4 q4 ⟨b4E,L9⟩
def b6d:FG 5 s5:=dQ f5 q5
def b4F:FG 11 s11:=dQ f11 q11
def a0U:FG 72 s72:=dQ f72 q72
def a0Y:FG 95 s95:=dQ f95 q95
def a9e:FG 73 s73:=dQ f73 q73 ⟨a0U,a0Y,L9⟩
def b5o:FG 74 s74:=dQ f74 q74
def RH:FG 43 s43:=dQ f43 q43 ⟨a0U,a9e,b5o,L9⟩
def a0V:FG 76 a4P:=dQ f76 a8x
def a7E:FG 96 a8L:=dQ f96 a8C ⟨a0V,L9⟩
def a7B:FG 75 a8I:=dQ f75 a8w ⟨a7E,L9⟩
def a5B:FG 44 s44:=dQ f44 q44 ⟨a0V,a7B,L9⟩
def a5E:FG 93 s93:=dQ f93 q93
def b5l:FG 65 s65:=dQ f65 q65 ⟨a5E,L9⟩
def b5a:FG 41 s41:=dQ f41 q41 ⟨RH,a5B,b5l,L9⟩
def b4P:FG 24 s24:=dQ f24 q24 ⟨b5a,L9⟩
def Ur:FG 66 s66:=dQ f66 q66
def a5D:FG 67 s67:=dQ f67 q67 ⟨Ur,L9⟩
def a9d:FG 68 s68:=dQ f68 q68
def b0C:FG 120 b3Q:=dQ f120 b2z ⟨a9d,L9⟩
def b5A:FG 94 s94:=dQ f94 q94 ⟨b0C,L9⟩
def b5n:FG 71 s71:=dQ f71 q71 ⟨b5A,L9⟩
def a0T:FG 70 a4O:=dQ f70 a8v ⟨b5n,L9⟩
def a7A:FG 69 a8H:=dQ f69 a8u ⟨a0T,L9⟩
def b5b:FG 42 s42:=dQ f42 q42 ⟨Ur,a5D,a9d,a0T,a7A,L9⟩
def a0W:FG 78 a4Q:=dQ f78 a8z
def a7G:FG 97 a8N:=dQ f97 a8E ⟨a0W,L9⟩
def a7C:FG 77 a8J:=dQ f77 a8y ⟨a7G,L9⟩
def a8W:FG 45 s45:=dQ f45 q45 ⟨a0W,a7C,L9⟩
def b4Q:FG 25 s25:=dQ f25 q25 ⟨b5b,RH,a5B,a8W,L9⟩
def a0X:FG 80 a4R:=dQ f80 a8B
def a7H:FG 98 a8O:=dQ f98 a8F ⟨a0X,L9⟩
def a7D:FG 79 a8K:=dQ f79 a8A ⟨a7H,L9⟩
def a0Z:FG 99 a4S:=dQ f99 a8G
def a5j:FG 121 a4M:=dQ f121 a4v ⟨a0Z,L9⟩
def a5g:FG 100 a4J:=dQ f100 a4s ⟨a5j,L9⟩
def b5q:FG 81 s81:=dQ f81 q81 ⟨a0Z,RH,a5g,Ur,L9⟩
def b0q:FG 101 b3E:=dQ f101 b2k
def b5r:FG 82 s82:=dQ f82 q82 ⟨b0q,L9⟩
def Yc:FG 103 ZN:=dQ f103 a4u
def a5k:FG 122 a4N:=dQ f122 a4w ⟨Yc,L9⟩
def a5h:FG 102 a4K:=dQ f102 a4t ⟨a5k,L9⟩
theorem a9a:gz Go.Proofs.Tryz.prog gl 60 s60:=Oc Go.Proofs.Tryz.strings_Contains_one
def b0r:FG 104 b3F:=dQ f104 b2l ⟨a9a,L9⟩
def a5z:FG 32 s32:=dQ f32 q32
def a8X:FG 49 s49:=dQ f49 q49 ⟨a5z,L9⟩
def a8U:FG 31 s31:=dQ f31 q31
def b0V:FG 162 b4j:=dQ f162 b2X ⟨a5D,L9⟩
def b0W:FG 163 b4k:=dQ f163 b2Y
def a5t:FG 164 b0g:=dQ f164 b2Z ⟨Ur,L9⟩
def a5u:FG 167 b0h:=dQ f167 b3c
def b0X:FG 165 b4l:=dQ f165 b3a ⟨a5u,Ur,L9⟩
def a5w:FG 189 b0j:=dQ f189 b3n
def b0Y:FG 166 b4m:=dQ f166 b3b ⟨a5t,a5w,L9⟩
def b1i:FG 190 b4w:=dQ f190 b3o
def b0Z:FG 168 b4n:=dQ f168 b3d ⟨a5w,b1i,L9⟩
def b0P:FG 144 b4d:=dQ f144 b2O ⟨b0V,b0W,a5t,b0X,b0Y,a5u,b0Z,L9⟩
def b0D:FG 123 b3R:=dQ f123 b2A ⟨a8X,a8U,a5z,b0P,L9⟩
def b0s:FG 105 b3G:=dQ f105 b2m ⟨b0D,L9⟩
def b5s:FG 83 s83:=dQ f83 q83 ⟨RH,Yc,a5h,b0r,b0s,L9⟩
theorem a5o:gz Go.Proofs.Tryz.prog gl 146 b0b:=d_ Go.Proofs.Tryz.slices_Sort_int Go.Proofs.Tryz.slices_Sort_int_none
theorem a5p:gz Go.Proofs.Tryz.prog gl 147 b0c:=SA Go.Proofs.Tryz.slices_Compact_int Go.Proofs.Tryz.slices_Compact_int_empty
def b1a:FG 169 b4o:=dQ f169 b3e ⟨a5o,a5p,L9⟩
def b0Q:FG 145 b4e:=dQ f145 b2P ⟨b1a,L9⟩
def b0E:FG 124 b3S:=dQ f124 b2B ⟨b0Q,L9⟩
def b0F:FG 125 b3T:=dQ f125 b2C ⟨a5o,a5p,L9⟩
def b0v:FG 108 b3J:=dQ f108 b2p ⟨b0E,b0F,L9⟩
def b0u:FG 107 b3I:=dQ f107 b2o
def b5u:FG 85 s85:=dQ f85 q85 ⟨b0v,b0u,L9⟩
def b0t:FG 106 b3H:=dQ f106 b2n
def b5t:FG 84 s84:=dQ f84 q84 ⟨b0t,L9⟩
def b5c:FG 46 s46:=dQ f46 q46 ⟨a5B,a8W,a0X,a7D,RH,b5q,b5r,b5s,b5u,b5t,L9⟩
def b4R:FG 26 s26:=dQ f26 q26 ⟨b5c,L9⟩
def a8Q:FG 12 s12:=dQ f12 q12 ⟨b4P,b4Q,b4R,L9⟩
theorem a9x(b:Nat)(w:World)(h0:w.cell? ⟨b,0,none⟩=some (.pointer (some ⟨b,0,none⟩))):Calls Go.Proofs.Tryz.prog 27 #[.pointer (some ⟨b,0,none⟩)] w λe w' =>e= .returned (.tuple #[])/\w' =w:=by
 obtain⟨j,hj,_⟩:=fQ.1 (show Option.map (λx=>x.size) (Go.Proofs.Tryz.prog.info? 69)=some 2 by kernel_rfl);have t69:=Go.Proofs.Tryz.underlying69;have a69:=Go.Proofs.Tryz.isAgg69;have z69:=Go.Proofs.Tryz.sizeOf69;have v69:=Go.Proofs.Tryz.zeroValue69;have u69:=run_underlying Go.Proofs.Tryz.underlying69;have t66:=Go.Proofs.Tryz.underlying66;have a66:=Go.Proofs.Tryz.isAgg66;have z66:=Go.Proofs.Tryz.sizeOf66;have v66:=Go.Proofs.Tryz.zeroValue66;have u66:=run_underlying Go.Proofs.Tryz.underlying66;have t4:=Go.Proofs.Tryz.underlying4;have a4:=Go.Proofs.Tryz.isAgg4;have z4:=Go.Proofs.Tryz.sizeOf4;have v4:=Go.Proofs.Tryz.zeroValue4;have u4:=run_underlying Go.Proofs.Tryz.underlying4;have t122:=Go.Proofs.Tryz.underlying122;have a122:=Go.Proofs.Tryz.isAgg122;have z122:=Go.Proofs.Tryz.sizeOf122;have v122:=Go.Proofs.Tryz.zeroValue122;have u122:=run_underlying Go.Proofs.Tryz.underlying122
 go_enter Go.Proofs.Tryz.func27,(show Go.Proofs.Tryz.f27.ntmps=20 by kernel_rfl)
 go_wp2
 rw[Lib.run_neq_ptr_same w _ Go.Proofs.Tryz.underlying66 hj]
 go_wp2
 go_end0
 exact⟨rfl,rfl⟩
theorem a6m(b:Nat)(w:World)(h0:w.cell? ⟨b,0,none⟩=some (.pointer none))(hsh:w.shape? b=some (69,2))(hfz:w.frozen? ⟨b,0,none⟩=false):Calls Go.Proofs.Tryz.prog 27 #[.pointer (some ⟨b,0,none⟩)] w λe w' =>e= .returned (.tuple #[])/\w' =w.setCell ⟨b,0,none⟩ (.pointer (some ⟨b,0,none⟩)):=by
 obtain⟨j,hj,hjs⟩:=fQ.1 (show Option.map (λx=>x.size) (Go.Proofs.Tryz.prog.info? 69)=some 2 by kernel_rfl);have t69:=Go.Proofs.Tryz.underlying69;have a69:=Go.Proofs.Tryz.isAgg69;have z69:=Go.Proofs.Tryz.sizeOf69;have v69:=Go.Proofs.Tryz.zeroValue69;have u69:=run_underlying Go.Proofs.Tryz.underlying69;have t66:=Go.Proofs.Tryz.underlying66;have a66:=Go.Proofs.Tryz.isAgg66;have z66:=Go.Proofs.Tryz.sizeOf66;have v66:=Go.Proofs.Tryz.zeroValue66;have u66:=run_underlying Go.Proofs.Tryz.underlying66;have t4:=Go.Proofs.Tryz.underlying4;have a4:=Go.Proofs.Tryz.isAgg4;have z4:=Go.Proofs.Tryz.sizeOf4;have v4:=Go.Proofs.Tryz.zeroValue4;have u4:=run_underlying Go.Proofs.Tryz.underlying4;have t122:=Go.Proofs.Tryz.underlying122;have a122:=Go.Proofs.Tryz.isAgg122;have z122:=Go.Proofs.Tryz.sizeOf122;have v122:=Go.Proofs.Tryz.zeroValue122;have u122:=run_underlying Go.Proofs.Tryz.underlying122
 go_enter Go.Proofs.Tryz.func27,(show Go.Proofs.Tryz.f27.ntmps=20 by kernel_rfl)
 go_wp2
 rw[Lib.run_to_unsafe w ⟨b,0,none⟩ Go.Proofs.Tryz.underlying66 Go.Proofs.Tryz.underlying122 hj (by rw[hjs];decide) hsh (Nat.zero_lt_succ 1)];simp only[Result.andThen];rw[ng]
 go_wp2
 rw[run_callFunc_extern Go.Proofs.Tryz.func47 (by kernel_rfl) (by kernel_rfl) (by kernel_rfl) (e:=Extern.AbiNoEscape.same) (by kernel_rfl)];rw[Lib.run_noEscape];simp only[Result.andThen];rw[ng]
 go_wp2
 rw[Lib.run_from_unsafe w ⟨b,0,none⟩ Go.Proofs.Tryz.underlying122 Go.Proofs.Tryz.underlying66 hj hsh (by kernel_rfl)];simp only[Result.andThen];rw[ng]
 go_wp2
 go_end0
 exact⟨rfl,rfl⟩
def b3w:Go.Shelf.Ren:=⟨λ|166=>13|240=>27|276=>47|n=>n,λ|72=>69|70=>66|37=>67|164=>122|75=>71|n=>n,λn=>n⟩
theorem b5U:Lw Go.Proofs.Tryz.prog b3w where
 mixed:=by kernel_rfl
 f166:=Go.Proofs.Tryz.func13.trans (congrArg some (by kernel_rfl))
 t72:=Go.Proofs.Tryz.underlying69
 a72:=Go.Proofs.Tryz.isAgg69
 z72:=Go.Proofs.Tryz.sizeOf69
 v72:=Go.Proofs.Tryz.zeroValue69
 t70:=Go.Proofs.Tryz.underlying66
 a70:=Go.Proofs.Tryz.isAgg66
 z70:=Go.Proofs.Tryz.sizeOf66
 v70:=Go.Proofs.Tryz.zeroValue66
 t37:=Go.Proofs.Tryz.underlying67
 a37:=Go.Proofs.Tryz.isAgg67
 z37:=Go.Proofs.Tryz.sizeOf67
 v37:=Go.Proofs.Tryz.zeroValue67
 t3:=Go.Proofs.Tryz.underlying3
 a3:=Go.Proofs.Tryz.isAgg3
 z3:=Go.Proofs.Tryz.sizeOf3
 v3:=Go.Proofs.Tryz.zeroValue3
 t9:=Go.Proofs.Tryz.underlying9
 a9:=Go.Proofs.Tryz.isAgg9
 z9:=Go.Proofs.Tryz.sizeOf9
 v9:=Go.Proofs.Tryz.zeroValue9
 t4:=Go.Proofs.Tryz.underlying4
 a4:=Go.Proofs.Tryz.isAgg4
 z4:=Go.Proofs.Tryz.sizeOf4
 v4:=Go.Proofs.Tryz.zeroValue4
 t164:=Go.Proofs.Tryz.underlying122
 a164:=Go.Proofs.Tryz.isAgg122
 z164:=Go.Proofs.Tryz.sizeOf122
 v164:=Go.Proofs.Tryz.zeroValue122
 e240:=enters_of Go.Proofs.Tryz.func27 (by kernel_rfl) rfl
 used:=a9x
 fresh:=a6m
theorem b6i:Go.Proofs.Builder.Extra Go.Proofs.Tryz.prog b3w where
 sizeBuilder:=by kernel_rfl
 liesBuilder:=by kernel_rfl
 t5:=Go.Proofs.Tryz.underlying5
 a5:=Go.Proofs.Tryz.isAgg5
 z5:=Go.Proofs.Tryz.sizeOf5
 v5:=Go.Proofs.Tryz.zeroValue5
 infoByte:=by kernel_rfl
 cellsByte:=by kernel_rfl
 sizeByte:=by kernel_rfl
 neB5:=by decide
theorem b4G:gz Go.Proofs.Tryz.prog gl 13 s13:=Sr b5U b6i
theorem b5d:gz Go.Proofs.Tryz.prog gl 48 s48:=WA (E:=⟨8,eqs,tt,gl,[],[],[],[],[],[]⟩) (f:=48) (fn:=Go.Proofs.Tryz.f48) (c:=Pv Go.Proofs.Tryz.f48) (t:=.str) (by kernel_rfl) (by kernel_rfl) (by kernel_rfl) (by kernel_rfl)
  (WI (by kernel_rfl) a9g a3e (by kernel_rfl) trivial trivial) (λb=>by cases b<;>kernel_rfl) (λxs=>by kernel_rfl)
def b4S:FG 28 s28:=dQ f28 q28 ⟨b5d,L9⟩
def b4T:FG 29 s29:=dQ f29 q29
def a8R:FG 14 s14:=dQ f14 q14 ⟨b4S,b4T,L9⟩
def a8T:FG 30 s30:=dQ f30 q30 ⟨a8X,L9⟩
def b0w:FG 109 b3K:=dQ f109 b2q ⟨a5D,L9⟩
theorem b0G:gz Go.Proofs.Tryz.prog gl 126 b3U:=Zi (g:=2) Go.Proofs.Tryz.strconv_Itoa (by kernel_rfl) (by kernel_rfl)
def ZZ:FG 110 a7s:=dQ f110 b2r ⟨b0G,L9⟩
def a5l:FG 127 a9Y:=dQ f127 b2D
theorem a5m:gz Go.Proofs.Tryz.prog gl 128 a9Z:=VF Go.Proofs.Tryz.strings_Repeat
def b0x:FG 111 b3L:=dQ f111 b2s ⟨a5l,ZZ,a5m,L9⟩
def a5n:FG 129 b0a:=dQ f129 b2E
def b1b:FG 176 b4p:=dQ f176 b3f
def a5q:FG 151 b0d:=dQ f151 b2Q ⟨b1b,L9⟩
def b1c:FG 177 b4q:=dQ f177 b3g
def a5r:FG 152 b0e:=dQ f152 b2R ⟨b1c,L9⟩
def b0H:FG 130 b3V:=dQ f130 b2F ⟨a5n,a5q,a5r,L9⟩
def b0I:FG 131 b3W:=dQ f131 b2G ⟨ZZ,a5m,L9⟩
def b0y:FG 112 b3M:=dQ f112 b2t ⟨a5n,b0H,b0I,L9⟩
def b5v:FG 86 s86:=dQ f86 q86 ⟨Ur,b0w,ZZ,b0x,b0y,L9⟩
def a0R:FG 53 s53:=dQ f53 q53
def b5e:FG 50 s50:=dQ f50 q50 ⟨b5v,a0R,L9⟩
def a0S:FG 54 s54:=dQ f54 q54
def b5f:FG 51 s51:=dQ f51 q51 ⟨a0S,a0R,L9⟩
def a5C:FG 55 s55:=dQ f55 q55
def b5g:FG 52 s52:=dQ f52 q52 ⟨a0S,a5C,a0R,L9⟩
def b5h:FG 56 s56:=dQ f56 q56
def a8Y:FG 57 s57:=dQ f57 q57
def b4U:FG 33 s33:=dQ f33 q33 ⟨b5e,b5f,b5g,a0R,a0S,a5C,b5h,a8Y,L9⟩
def a8S:FG 15 s15:=dQ f15 q15 ⟨a8T,a8U,a5z,b4U,L9⟩
def a8Z:FG 58 s58:=dQ f58 q58
def b4V:FG 34 s34:=dQ f34 q34 ⟨a8Z,L9⟩
def b4W:FG 35 s35:=dQ f35 q35 ⟨a8Z,L9⟩
def b4H:FG 16 s16:=dQ f16 q16 ⟨b4V,b4W,L9⟩
theorem b4I:gz Go.Proofs.Tryz.prog gl 17 s17:=YG Go.Proofs.Tryz.lays170
theorem b4J:gz Go.Proofs.Tryz.prog gl 18 s18:=Sl Go.Proofs.Tryz.lays169 Go.Proofs.Tryz.Builder_Extra_169
def b5m:FG 7 s7:=dQ f7 q7 ⟨a8Q,b4G,a8R,a8S,b4H,b4I,b4J,L9⟩
def b4K:FG 19 s19:=dQ f19 q19
theorem a9f:gz Go.Proofs.Tryz.prog gl 87 s87:=Og Go.Proofs.Tryz.stringslite_HasPrefix
def b5i:FG 59 s59:=dQ f59 q59 ⟨a9f,L9⟩
def a5A:FG 36 s36:=dQ f36 q36 ⟨b5i,L9⟩
def a8V:FG 37 s37:=dQ f37 q37 ⟨a9a,L9⟩
theorem b0z:gz Go.Proofs.Tryz.prog gl 113 b3N:=Vg Go.Proofs.Tryz.stringslite_Index_one
def b5w:FG 89 s89:=dQ f89 q89 ⟨b0z,L9⟩
def a9b:FG 61 s61:=dQ f61 q61 ⟨b5w,L9⟩
def a9c:FG 62 s62:=dQ f62 q62
def b0A:FG 114 b3O:=dQ f114 b2u
theorem b0J:gz Go.Proofs.Tryz.prog gl 132 b3X:=Oh Go.Proofs.Tryz.stringslite_IndexByte
def b0N:FG 140 b4b:=dQ f140 b2L ⟨b0J,L9⟩
def b0K:FG 136 b3Y:=dQ f136 b2H ⟨a9e,L9⟩
def b_:FG 156 a7u:=dQ f156 b2T ⟨a0Y,L9⟩
def b0R:FG 155 b4f:=dQ f155 b2S ⟨b_,L9⟩
def a_:FG 139 a7t:=dQ f139 b2K ⟨a9f,L9⟩
def b0S:FG 157 b4g:=dQ f157 b2U ⟨a_,b_,L9⟩
def b1j:FG 207 b4x:=dQ f207 b3p
def b1k:FG 208 b4y:=dQ f208 b3q ⟨a5r,a5q,L9⟩
def b1d:FG 178 b4r:=dQ f178 b3h ⟨b1j,b1k,L9⟩
def b1m:FG 224 b4A:=dQ f224 b3u
def a5x:FG 209 b0k:=dQ f209 b3r ⟨a5A,b1m,L9⟩
def b1e:FG 179 b4s:=dQ f179 b3i ⟨a5l,a5x,L9⟩
def b1f:FG 180 b4t:=dQ f180 b3j ⟨a5x,L9⟩
def b0T:FG 158 b4h:=dQ f158 b2V ⟨b1d,b1e,b1f,L9⟩
def b0L:FG 137 b3Z:=dQ f137 b2I ⟨b0R,b_,b0S,a_,a0U,a0Y,b0T,L9⟩
theorem b0U:gz Go.Proofs.Tryz.prog gl 159 b4i:=Qn Go.Proofs.Tryz.strings_IndexAny_laid
def b0M:FG 138 b4a:=dQ f138 b2J ⟨b0U,L9⟩
def b0B:FG 115 b3P:=dQ f115 b2v ⟨a0U,a0Y,b0N,b0K,b0L,b0M,a_,L9⟩
def b5y:FG 90 s90:=dQ f90 q90 ⟨b0A,b0B,L9⟩
def Jn:FG 141 XW:=dQ f141 b2M
def VN:FG 116 a4L:=dQ f116 b2w ⟨Jn,L9⟩
def a5s:FG 160 b0f:=dQ f160 b2W
def MZ:FG 119 ZO:=dQ f119 b2y
def Us:FG 92 s92:=dQ f92 q92
def a5i:FG 118 a9X:=dQ f118 b2x ⟨VN,Us,L9⟩
def a5v:FG 185 b0i:=dQ f185 b3k ⟨a5i,L9⟩
def b1g:FG 186 b4u:=dQ f186 b3l ⟨a0S,L9⟩
def a5y:FG 211 b0l:=dQ f211 b3s ⟨Jn,RH,Us,a5E,L9⟩
def b1n:FG 225 b4B:=dQ f225 b3v ⟨a5C,L9⟩
def b1l:FG 212 b4z:=dQ f212 b3t ⟨Jn,b1n,Us,L9⟩
def Yd:FG 213 ZP:=dQ f213 a4x
def a7F:FG 96 a8M:=dQ f96 a8D ⟨Yd,L9⟩
def b1h:FG 188 b4v:=dQ f188 b3m ⟨Jn,RH,Us,Yd,a7F,a5y,MZ,a5E,L9⟩
def b0O:FG 143 b4c:=dQ f143 b2N ⟨a8Y,L9⟩
theorem b1o:∀n,gz P gl 91 ⟨a2h,[(false,(.dat .bool))],[(true,(.pair (.dat (.sl (.prod (.int .i64) (.prod .str (.prod (.int .i64) (.int .i64)))))) (.pair (.dat (.int .i64)) (.pair (.dat (.int .i64)) (.pair (.dat (.prod (.sl (.prod .str (.sl .str))) (.prod (.sl .str) (.prod (.sl .str) (.prod (.sl .str) (.sl .str)))))) (.pair (.own (.prod (.int .i64) (.int .i64))) (.pair (.dat (.int .i64)) (.dat (.int .i64)))))))))],λx=>(o8 n).1 x⟩/\gz P gl 117 ⟨a0E,[(false,(.dat .bool))],[(true,(.pair (.dat (.sl (.prod (.int .i64) (.prod .str (.prod (.int .i64) (.int .i64)))))) (.pair (.dat (.int .i64)) (.pair (.dat (.int .i64)) (.pair (.dat (.prod (.sl (.prod .str (.sl .str))) (.prod (.sl .str) (.prod (.sl .str) (.prod (.sl .str) (.sl .str)))))) (.pair (.own (.prod (.int .i64) (.int .i64))) (.pair (.dat (.int .i64)) (.dat (.int .i64)))))))))],λx=>(o8 n).2.1 x.1 x.2⟩/\gz P gl 142 ⟨a0F,[(false,(.dat .bool))],[(true,(.pair (.dat (.sl (.prod (.int .i64) (.prod .str (.prod (.int .i64) (.int .i64)))))) (.pair (.dat (.int .i64)) (.pair (.dat (.int .i64)) (.pair (.dat (.prod (.sl (.prod .str (.sl .str))) (.prod (.sl .str) (.prod (.sl .str) (.prod (.sl .str) (.sl .str)))))) (.pair (.own (.prod (.int .i64) (.int .i64))) (.pair (.dat (.int .i64)) (.dat (.int .i64)))))))))],λx=>(o8 n).2.2.1 x⟩/\gz P gl 161 ⟨a4q,[(false,(.dat .bool))],[(true,(.pair (.dat (.sl (.prod (.int .i64) (.prod .str (.prod (.int .i64) (.int .i64)))))) (.pair (.dat (.int .i64)) (.pair (.dat (.int .i64)) (.pair (.dat (.prod (.sl (.prod .str (.sl .str))) (.prod (.sl .str) (.prod (.sl .str) (.prod (.sl .str) (.sl .str)))))) (.pair (.own (.prod (.int .i64) (.int .i64))) (.pair (.dat (.int .i64)) (.dat (.int .i64)))))))))],λx=>(o8 n).2.2.2.1 x⟩/\gz P gl 187 ⟨a4r,[(false,(.dat .bool))],[(true,(.pair (.dat (.sl (.prod (.int .i64) (.prod .str (.prod (.int .i64) (.int .i64)))))) (.pair (.dat (.int .i64)) (.pair (.dat (.int .i64)) (.pair (.dat (.prod (.sl (.prod .str (.sl .str))) (.prod (.sl .str) (.prod (.sl .str) (.prod (.sl .str) (.sl .str)))))) (.pair (.own (.prod (.int .i64) (.int .i64))) (.pair (.dat (.int .i64)) (.dat (.int .i64)))))))))],λx=>(o8 n).2.2.2.2 x.1 x.2⟩:=by
 intro n;induction n with
 |zero=>exact⟨(λw ok O vals x r _ _ _ _ _ h=>by cases h),(λw ok O vals x r _ _ _ _ _ h=>by cases h),(λw ok O vals x r _ _ _ _ _ h=>by cases h),(λw ok O vals x r _ _ _ _ _ h=>by cases h),(λw ok O vals x r _ _ _ _ _ h=>by cases h)⟩
 |succ n ih=>exact⟨dS f91 a2h b3C (e91 (o8 n).1 (o8 n).2.1 (o8 n).2.2.1 (o8 n).2.2.2.1 (o8 n).2.2.2.2) b5N (by kernel_rfl) rfl trivial ⟨VN,ih.2.1,ih.1,a5i,MZ,trivial⟩ λx=>by kernel_rfl,
  dS f117 a0E b3y (b5P (o8 n).1 (o8 n).2.1 (o8 n).2.2.1 (o8 n).2.2.2.1 (o8 n).2.2.2.2) b1G (by kernel_rfl) rfl trivial ⟨ih.2.2.1,Jn,b0O,ih.2.1,MZ,trivial⟩ λx=>by kernel_rfl,
  dS f142 a0F b3z (b5Q (o8 n).1 (o8 n).2.1 (o8 n).2.2.1 (o8 n).2.2.2.1 (o8 n).2.2.2.2) b1H (by kernel_rfl) rfl trivial ⟨VN,Jn,a5s,MZ,ih.2.2.1,ih.2.2.2.1,trivial⟩ λx=>by kernel_rfl,
  dS f161 a4q b3A (b5R (o8 n).1 (o8 n).2.1 (o8 n).2.2.1 (o8 n).2.2.2.1 (o8 n).2.2.2.2) b1I (by kernel_rfl) rfl trivial ⟨Jn,a5s,MZ,VN,ih.1,a5v,Us,b1g,ih.2.2.2.2,b1h,trivial⟩ λx=>by kernel_rfl,
  dS f187 a4r b3B (b5S (o8 n).1 (o8 n).2.1 (o8 n).2.2.1 (o8 n).2.2.2.1 (o8 n).2.2.2.2) b1J (by kernel_rfl) rfl trivial ⟨MZ,a5y,a5v,ih.1,b1l,trivial⟩ λx=>by kernel_rfl⟩
theorem b5z:gz P gl 91 s91:=(b1o au).1
def b5j:FG 63 s63:=dQ f63 q63 ⟨b5y,b5z,Us,a8T,a8S,L9⟩
def b4X:FG 38 s38:=dQ f38 q38 ⟨a9b,a9c,b5j,L9⟩
def b5k:FG 64 s64:=dQ f64 q64
def b4Y:FG 39 s39:=dQ f39 q39 ⟨a9b,a5A,a8V,b5k,a9c,L9⟩
def b4L:FG 20 s20:=dQ f20 q20 ⟨a5A,a8V,b4X,b4Y,L9⟩
def b5p:FG 8 s8:=dQ f8 q8 ⟨a8Q,b4K,a8R,b4L,L9⟩
def b4Z:FG 40 s40:=dQ f40 q40
def b4M:FG 21 s21:=dQ f21 q21 ⟨b4Z,L9⟩
def b4N:FG 22 s22:=dQ f22 q22
def b4O:FG 23 s23:=dQ f23 q23
def b5x:FG 9 s9:=dQ f9 q9 ⟨b4M,b4N,b4O,L9⟩
def b6e:FG 6 s6:=dQ f6 q6 ⟨b4F,b5m,b5p,b5x,L9⟩
def b6b:FG 3 s3:=dQ f3 q3 ⟨b6c,b6d,b6e,b5m,b5p,b5x,L9⟩
end Gt
