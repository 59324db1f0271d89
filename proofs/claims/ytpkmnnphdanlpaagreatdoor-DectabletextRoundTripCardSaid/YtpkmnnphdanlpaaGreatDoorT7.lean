import Derived.Test.YtpkmnnphdanlpaaGreatDoorT5
import Derived.Test.YtpkmnnphdanlpaaGreatDoorT6
set_option linter.all false
namespace Go.GP
open Gt
set_option maxRecDepth 100000
section
def wOk(w:List UInt8):Bool:=match w with|[]=>false|c::t=>Ci c&&(c::t).all tq&&decide ((c::t).length<=16)
theorem Gi{s:List UInt8}(h:lL s=true):wOk s=true:=by
 cases s with
 |nil=>cases h|cons c r=>rw[CS]at h;simp only[A8]at h;unfold wOk;simp only[A8];exact⟨⟨h.1.1.2,h.1.2⟩,h.1.1.1⟩
variable {c:UInt8}
theorem a1e(h:tq c=true):prB c=true:=by unfold tq Ci at h;unfold prB;simp only[iZ,A8,decide_eq_true_eq]at h ⊢;omega
theorem EP(h:qM c=true):prB c=true:=by have:=PS h;unfold prB;simp only[A8,decide_eq_true_eq];omega
theorem wZ{a b:List UInt8}(ha:∀c∈a,prB c=true)(hb:∀c∈b,prB c=true):∀c∈a++b,prB c=true:=by
 intro c hc;rcases I4.1 hc with h|h
 .exact ha c h
 .exact hb c h
theorem Gw{x:UInt8}{b:List UInt8}(ha:prB x=true)(hb:∀c∈b,prB c=true):∀c∈x::b,prB c=true:=by
 intro c hc;rcases D6.1 hc with rfl|h
 .exact ha
 .exact hb c h
theorem lu{w:List UInt8}(h:wOk w=true):TokOk (1,w,0):=by
 cases w with
 |nil=>cases h|cons c t=>unfold wOk at h;simp only[A8]at h;obtain⟨⟨h1,h2⟩,h3⟩:=h;have hb:=a3F h1;refine⟨λx hx=>a1e (bV.1 h2 x hx),⟨c,t,rfl,?_⟩,.inr λr hr hl=>a2o ⟨c,t,rfl,h1⟩ (bV.1 h2) (by simpa using h3) (a3p hr) hl⟩;unfold Lj;simp only[bC,decide_eq_false_iff_not];refine⟨⟨?_,?_⟩,?_⟩<;>rintro rfl<;>revert hb<;>decide
theorem zf(hc:c=40\/c=41\/c=44\/c=58\/c=43\/c=45\/c=42):TokOk (7,[c],0):=by
 refine⟨λx hx=>?_,⟨c,[],rfl,?_⟩,.inl ⟨c,hc,rfl⟩⟩
 .simp at hx;subst hx;rcases hc with rfl|rfl|rfl|rfl|rfl|rfl|rfl<;>decide
 rcases hc with rfl|rfl|rfl|rfl|rfl|rfl|rfl<;>decide
theorem UR{d r:List UInt8}(hd:Dg d)(h:d≠[]):∃c t,d++r=c::t/\Lj c=false:=by obtain⟨c,t,e,hc,-⟩:=a8e (r:=r) hd h;refine⟨c,t,e,?_⟩;have:=PS hc;unfold Lj;simp only[bC,decide_eq_false_iff_not];refine⟨⟨?_,?_⟩,?_⟩<;>rintro rfl<;>revert this<;>decide
variable {k:Int}
theorem a7M{u:Nat}(h:(k=2/\u<=1000000000000)\/(k=3/\u<=1000000000000000)\/(k=4/\u<=1000000000)):TokOk (k,Ht k u,(u:Int)):=by
 rcases h with⟨rfl,hu⟩|⟨rfl,hu⟩|⟨rfl,hu⟩
 .have e:Ht 2 u=Lib.decDigits u:=rfl;have hlen:=qL (u:=u) l7;refine⟨by rw[e];exact λc hc=>EP (PR u c hc),?_,.inr λr hr hl=>?_⟩
  .rw[e];have:=UR (r:=[]) (PR u) (by intro e;rw[e]at hlen;simp at hlen);rw[E5]at this;exact this
  .simp only[e]at hl ⊢;exact b0n hu (Ov hr) (a9B hr) hl
 .have e:Ht 3 u=tX u 2:=rfl;refine⟨by
   rw[e];obtain⟨d,f,e2,hd,hf,hne,-⟩:=wO (u:=u) (k:=2) l7 l7;rw[e2];exact wZ (λc hc=>EP (hd c hc)) (Gw F6 (λc hc=>EP (hf c hc))),?_,.inr λr hr hl=>?_⟩
  .rw[e];obtain⟨d,f,e2,hd,hf,hne,-⟩:=wO (u:=u) (k:=2) l7 l7;simp only[e2];exact UR hd hne
  .simp only[e]at hl ⊢;exact a4W hu (Ov hr) hl
 .have e:Ht 4 u=tX u 4++[37]:=rfl;refine⟨by
   rw[e];obtain⟨d,f,e2,hd,hf,hne,-⟩:=wO (u:=u) (k:=4) l7 l7;rw[e2];exact wZ (wZ (λc hc=>EP (hd c hc)) (Gw F6 (λc hc=>EP (hf c hc)))) (Gw F6 (λc hc=>by cases hc)),?_,.inr λr hr hl=>?_⟩
  .rw[e];obtain⟨d,f,e2,hd,hf,hne,-⟩:=wO (u:=u) (k:=4) l7 l7;simp only[e2,E9];exact UR hd hne
  .simp only[e]at hl ⊢;exact a7w hu (Ov hr) hl
theorem a5R{n:Int}(h0:0<=n)(h:n<=109572):TokOk (5,lJ n,n):=by
 refine⟨?_,?_,.inr λr hr hl=>a7v h0 h (Ov hr) hl⟩
 .obtain⟨A,B,C,e,a1,a2,a3,a4,a5,a6⟩:=UN h0 h;rw[e];exact wZ (λc hc=>EP (a4 c hc)) (Gw F6 (wZ (λc hc=>EP (a5 c hc)) (Gw F6 (λc hc=>EP (a6 c hc)))))
 obtain⟨A,B,C,e,a1,a2,a3,a4,a5,a6⟩:=UN h0 h;simp only[e];exact UR a4 (by intro e;rw[e]at a1;simp at a1)
theorem b1t(hk:k=11\/k=12\/k=13\/k=19\/k=20\/k=21\/k=22\/k=23\/k=24):TokOk (opK k):=by
 rcases hk with rfl|rfl|rfl|rfl|rfl|rfl|rfl|rfl|rfl
 .exact zf (c:=43) A7
 .exact zf (c:=45) A7
 .exact zf (c:=42) A7
 .exact⟨F6,⟨61,[61],rfl,F6⟩,.inr λr hr hl=>Rz (c:=61) A7 r (by simp[opK,jy,mV,D5,l9]at hl;omega)⟩
 .exact⟨F6,⟨33,[61],rfl,F6⟩,.inr λr hr hl=>Rz (c:=33) A7 r (by simp[opK,jy,mV,D5,l9]at hl;omega)⟩
 .exact⟨F6,⟨60,[],rfl,F6⟩,.inr λr hr hl=>a7x r (by simp[opK,jy,mV,D5,l9]at hl;omega) (a9C hr)⟩
 .exact⟨F6,⟨60,[61],rfl,F6⟩,.inr λr hr hl=>Rz (c:=60) A7 r (by simp[opK,jy,mV,D5,l9]at hl;omega)⟩
 .exact lu (w:=[97,110,100]) F6
 .exact lu (w:=[111,114]) F6
theorem x_:∀(L:List It) (R:List UInt8),WSR L R->∀c∈di L,prB c=true
 |[],_,_=>λc hc=>by cases hc|none::L,R,h=>Gw F6 (x_ L R h.2)|some k::L,R,h=>wZ h.1.pr (x_ L R h.2.2)
def StI(L:List It):Prop:=∃k L',L=some k::L' /\TokOk k
variable {L:List It}
theorem b1p(h:StI L)(R:List UInt8):HdN Lj (di L++R):=by obtain⟨k,L',rfl,hk⟩:=h;obtain⟨c,t,e,hb⟩:=hk.ne;intro x y e2;simp only[di,e,N8,G6]at e2;rw[←e2.1];exact hb
theorem Jp{L M:List It}(h:StI L):StI (L++M):=by obtain⟨k,L',rfl,hk⟩:=h;exact⟨k,L' ++M,rfl,hk⟩
theorem b5B(h:StI L):∀M,L≠none::M:=by obtain⟨k,L',rfl,-⟩:=h;intro M e;cases e
theorem qw(h:a7z c=true)(x:List UInt8):HdS (c::x):=λa t e=>by cases e;exact h
theorem a0d:HdS []:=λa t e=>by cases e
variable {R:List UInt8}
theorem jA(hc:c=40\/c=41\/c=44\/c=58\/c=43\/c=45\/c=42)(h:WSR L R):WSR (sy c::L) R:=⟨zf hc,.inl ⟨c,hc,rfl⟩,h⟩
theorem wY{w:List UInt8}(hw:wOk w=true)(h:WSR L R)(hs:HdS (di L++R)):WSR (nm w::L) R:=⟨lu hw,.inr hs,h⟩
theorem BL(h:WSR L R)(hs:StI L):WSR (none::L) R:=⟨b1p hs R,h⟩
structure WsT (L:List It):Prop where
 st:StI L
 ws:∀R,HdS R->WSR L R
theorem IC(h:WsT L){M:List It}(hm:WSR M R)(hs:HdS (di M++R)):WSR (L++M) R:=VZ L M R (h.ws _ hs) hm
theorem Yu(h:WsT L)(cls c:Int):WsT (wiI L cls c):=by
 unfold wiI;cases I8 cls c
 .exact h
 .refine⟨⟨_,_,rfl,zf A7⟩,λR hR=>?_⟩;exact jA A7 (IC h (jA A7 trivial) (qw F6 _))
structure NmI (N:D7):Prop where
 e:∀e∈N.1,lL e.1=true/\∀m∈e.2,lL m=true
 t:∀s∈N.2.1,lL s=true
 i:∀s∈N.2.2.1,lL s=true
 d:∀s∈N.2.2.2.1,lL s=true
 m:∀s∈N.2.2.2.2,lL s=true
theorem xu{α:Type}{l:List α}{i:Int}{x:α}(h:X0 l i=some x):x∈l:=(iQ h).2.2.1
variable {N:D7}
theorem UX{m:Int}(hm:fJ m)(h:flS (6,m) N=0):∃e,X0 N.1 (dX .i64 m 16)=some e/\X0 e.2 (iY m 16)=some (gtN e.2 (iY m 16))/\0<=dX .i64 m 16/\0<=iY m 16/\iY m 16<16/\m=16*dX .i64 m 16+iY m 16:=by
 have hff:Z5 (6,m) N=(l9 (I8 m 0) (some 6)
    (l9 (V6 (x9 N.1) (dX .i64 m 16)) (some 6)
     (o6 (X0 N.1 (dX .i64 m 16)) λ(x:dU)=>
      l9 (V6 (x9 x.2) (iY m 16)) (some 6) (some 0)))):=rfl
 unfold flS at h;rw[hff]at h;by_cases h0:m<0
 .rw[Y0 h0]at h;cases h
 by_cases h1:x9 N.1<=dX .i64 m 16
 .rw[O6 l7,X9 h1]at h;cases h
 have hq:dX .i64 m 16=m / 16:=by rw[Ky hm 16 (.inr rfl),nz l7]
 have hr0:iY m 16=m % 16:=yU l7;obtain⟨en,he,hmem⟩:=ug (l:=N.1) (i:=dX .i64 m 16) l7 l7;rw[O6 l7,bG l7,o5,o5,he,o9]at h;by_cases h2:x9 en.2<=iY m 16
 .rw[X9 h2]at h;cases h
 exact⟨en,he,(IX l7 l7).1,l7,l7,l7,l7⟩
variable {n:Int×Int}
theorem a6A(hN:NmI N)(ha:arF n.1=0)(hm:fJ n.2)(h:flS n N=0):WsT (Fb n N):=by
 obtain⟨k,m⟩:=n;have one:∀w,wOk w=true->WsT [nm w]:=λw hw=>⟨⟨_,_,rfl,lu hw⟩,λR hR=>wY hw trivial hR⟩;have num:∀k:Int,∀m:Int,(k=2/\m.natAbs<=1000000000000)\/(k=3/\m.natAbs<=1000000000000000)\/(k=4/\m.natAbs<=1000000000)->WsT (Oj k m):=by
  intro k m hk;have ht:=a7M hk;have e:Oj k m=l9 (I8 m 0) [sy 45,some (k,Ht k m.natAbs,(m.natAbs:Int))] [some (k,Ht k m.natAbs,(m.natAbs:Int))]:=by unfold Oj;rw[I9 (show k≠1 by omega),I9 (show k≠5 by omega)];rfl
  rw[e];cases I8 m 0
  .exact⟨⟨_,_,rfl,ht⟩,λR hR=>⟨ht,.inr hR,trivial⟩⟩
  .exact⟨⟨_,_,rfl,zf A7⟩,λR hR=>jA A7 ⟨ht,.inr hR,trivial⟩⟩
 have call:(k=36\/k=37\/k=38\/k=39)->WsT (Fb (k,m) N):=by
  intro hk;have hg:X0 N.2.2.2.2 m=some (gtN N.2.2.2.2 m):=by rcases hk with rfl|rfl|rfl|rfl<;>exact Bi rfl h
  have hw:wOk (dB k)=true:=by rcases hk with rfl|rfl|rfl|rfl<;>decide
  have e:Fb (k,m) N=[nm (dB k),sy 40,nm (gtN N.2.2.2.2 m),sy 41]:=by rcases hk with rfl|rfl|rfl|rfl<;>rfl
  rw[e];exact⟨⟨_,_,rfl,lu hw⟩,λR hR=>wY hw (jA A7 (wY (Gi (hN.m _ (xu hg))) (jA A7 trivial) (qw F6 _))) (qw F6 _)⟩
 rcases ar0 ha with rfl|rfl|rfl|rfl|rfl|rfl|rfl|rfl|rfl|rfl|rfl|rfl|rfl|rfl
 .show WsT [nm (l9 (D5 m 0) [102,97,108,115,101] [116,114,117,101])];cases D5 m 0
  .exact one _ F6
  .exact one _ F6
 .have hb:=Cf (k:=2) l7 rfl h;exact num 2 m l7
 .have hb:=Cf (k:=3) l7 rfl h;exact num 3 m l7
 .have hb:=Cf (k:=4) l7 rfl h;exact num 4 m l7
 .have hb:=Cf (k:=5) l7 rfl h;have ht:=a5R hb.1 hb.2;exact⟨⟨_,_,rfl,ht⟩,λR hR=>⟨ht,.inr hR,trivial⟩⟩
 .obtain⟨e,h1,h2,-⟩:=UX hm h;have ee:=hN.e e (xu h1);have eq:Fb (6,m) N=[nm e.1,sy 58,nm (gtN e.2 (iY m 16))]:=by
   show[nm ((X0 N.1 (dX .i64 m 16)).getD ([],[])).1,sy 58,nm (gtN ((X0 N.1 (dX .i64 m 16)).getD ([],[])).2 (iY m 16))]=_;rw[h1];rfl
  rw[eq];exact⟨⟨_,_,rfl,lu (Gi ee.1)⟩,λR hR=>wY (Gi ee.1) (jA A7 (wY (Gi (ee.2 _ (xu h2))) trivial hR)) (qw F6 _)⟩
 .exact one _ (Gi (hN.i _ (xu (Bi (n:=(7,m)) (l:=N.2.2.1) rfl h))))
 .exact one _ (Gi (hN.d _ (xu (Bi (n:=(8,m)) (l:=N.2.2.2.1) rfl h))))
 .exact one _ F6
 .exact⟨⟨_,_,rfl,lu (w:=[99,111,117,110,116]) F6⟩,λR hR=>wY F6 (jA A7 (jA A7 trivial)) (qw F6 _)⟩
 .exact call l7
 .exact call l7
 .exact call l7
 .exact call l7
theorem a9H:∀j:Fin 6,wOk (jW (j.val:Int))=true:=by decide
theorem Xn{m:Int}(h:0<=m/\m<=5):wOk (jW m)=true:=by obtain⟨j,rfl⟩:∃j:Fin 6,m=(j.val:Int):=⟨⟨m.toNat,l7⟩,by simp;omega⟩;exact a9H j
theorem a9M(hN:NmI N)(ha:arF n.1=1)(hm:fJ n.2)(h:flS n N=0)(num:Bool)(hL:WsT L)(cls:Int):WsT (a6P n N num L cls):=by
 obtain⟨k,m⟩:=n;have cl:∀R,WSR (L++[sy 41]) R:=λR=>IC hL (jA A7 trivial) (qw F6 _);rcases ar1 ha with rfl|rfl|rfl|rfl|rfl|rfl
 .show WsT ([sy 45]++l9 num ([sy 40]++L++[sy 41]) (wiI L cls 6));cases num
  .exact⟨⟨_,_,rfl,zf A7⟩,λR hR=>jA A7 ((Yu hL cls 6).ws R hR)⟩
  .exact⟨⟨_,_,rfl,zf A7⟩,λR hR=>jA A7 (jA A7 (cl R))⟩
 .show WsT ([nm [110,111,116],none]++wiI L cls 6);exact⟨⟨_,_,rfl,lu (w:=[110,111,116]) F6⟩,λR hR=>wY F6 (BL ((Yu hL cls 6).ws R hR) (Yu hL cls 6).st) (qw F6 _)⟩
 .exact⟨⟨_,_,rfl,lu (w:=dB 31) F6⟩,λR hR=>wY (w:=dB 31) F6 (jA A7 (cl R)) (qw F6 _)⟩
 .exact⟨⟨_,_,rfl,lu (w:=dB 32) F6⟩,λR hR=>wY (w:=dB 32) F6 (jA A7 (cl R)) (qw F6 _)⟩
 .have hg:=Bi (n:=(33,m)) (l:=N.2.1) rfl h;exact⟨⟨_,_,rfl,lu (w:=dB 33) F6⟩,λR hR=>wY (w:=dB 33) F6 (jA A7 (wY (Gi (hN.t _ (xu hg))) (jA A7 (BL (cl R) (Jp hL.st))) (qw F6 _))) (qw F6 _)⟩
 .obtain⟨hg,g1,g2⟩:=Z_ hm h;have hmo:wOk (jW (iY m 8))=true:=Xn ⟨g1,g2⟩;exact⟨⟨_,_,rfl,lu (w:=dB 34) F6⟩,λR hR=>wY (w:=dB 34) F6 (jA A7 (wY (Gi (hN.t _ (xu hg))) (jA A7 (BL (IC hL (jA A7 (BL (wY hmo (jA A7 trivial) (qw F6 _)) ⟨_,_,rfl,lu hmo⟩)) (qw F6 _)) (Jp hL.st))) (qw F6 _))) (qw F6 _)⟩
theorem b1x(ha:arF n.1=2)(h:flS n N=0){A B:List It}(hA:WsT A)(hB:WsT B)(ca cb:Int):WsT (Js n A ca B cb):=by
 obtain⟨k,m⟩:=n;by_cases h1:k=17\/k=18\/k=27\/k=28\/k=29\/k=30
 .have hw:wOk (dB k)=true:=by rcases h1 with rfl|rfl|rfl|rfl|rfl|rfl<;>decide
  have e:Js (k,m) A ca B cb=nm (dB k)::sy 40::(A++(sy 44::none::(B++[sy 41]))):=by
   have:Js (k,m) A ca B cb=[nm (dB k),sy 40]++A++[sy 44,none]++B++[sy 41]:=by rcases h1 with rfl|rfl|rfl|rfl|rfl|rfl<;>rfl
   rw[this];simp
  rw[e];exact⟨⟨_,_,rfl,lu hw⟩,λR hR=>wY hw (jA A7 (IC hA (jA A7 (BL (IC hB (jA A7 trivial) (qw F6 _)) (Jp hB.st))) (qw F6 _))) (qw F6 _)⟩
 by_cases h2:k=14\/k=15\/k=16
 .have hw:wOk (dB k)=true:=by rcases h2 with rfl|rfl|rfl<;>decide
  have hr:=a3m h2 h;have hmo:wOk (jW m)=true:=Xn hr;have e:Js (k,m) A ca B cb=nm (dB k)::sy 40::(A++(sy 44::none::(B++(sy 44::none::nm (jW m)::[sy 41])))):=by
   have:Js (k,m) A ca B cb=[nm (dB k),sy 40]++A++[sy 44,none]++B++[sy 44,none,nm (jW m),sy 41]:=by rcases h2 with rfl|rfl|rfl<;>rfl
   rw[this];simp
  rw[e];exact⟨⟨_,_,rfl,lu hw⟩,λR hR=>wY hw (jA A7 (IC hA (jA A7 (BL (IC hB (jA A7 (BL (wY hmo (jA A7 trivial) (qw F6 _)) ⟨_,_,rfl,lu hmo⟩)) (qw F6 _)) (Jp hB.st))) (qw F6 _))) (qw F6 _)⟩
 have hk:k=11\/k=12\/k=13\/k=19\/k=20\/k=21\/k=22\/k=23\/k=24:=by have:=ar2 ha;omega
 have hb:Px k=false/\VH k=false:=by rcases hk with rfl|rfl|rfl|rfl|rfl|rfl|rfl|rfl|rfl<;>exact⟨rfl,rfl⟩
 have ho:=b1t hk;unfold Js;simp only[hb.1,hb.2,o5];have wA:=Yu hA ca (l9 (D5 (jy k).2 3) 4 (jy k).2);have wB:=Yu hB cb ((jy k).2+1);rw[E9];refine⟨Jp wA.st,λR hR=>?_⟩;refine IC wA ?_ (qw F6 _);exact BL ⟨ho,.inr (qw F6 _),BL (wB.ws R hR) wB.st⟩ ⟨_,_,rfl,ho⟩
theorem b1X{A B C:List It}(hA:WsT A)(hB:WsT B)(hC:WsT C):WsT (ifI A B C):=by
 have e:ifI A B C=nm [105,102]::none::(A++(none::nm [116,104,101,110]::none::(B++(none::nm [101,108,115,101]::none::C)))):=by unfold ifI;simp
 rw[e];have t1:TokOk (1,[116,104,101,110],0):=lu F6;have t2:TokOk (1,[101,108,115,101],0):=lu F6;refine⟨⟨_,_,rfl,lu (w:=[105,102]) F6⟩,λR hR=>?_⟩;exact wY F6 (BL (IC hA (BL (wY F6 (BL (IC hB (BL (wY F6 (BL (hC.ws R hR) hC.st) (qw F6 _)) ⟨_,_,rfl,t2⟩) (qw F6 _)) (Jp hB.st)) (qw F6 _)) ⟨_,_,rfl,t1⟩) (qw F6 _)) (Jp hA.st)) (qw F6 _)
theorem Nw{N:D7}(hN:NmI N):∀(t:XT),t.wf->(∀n∈t.post,fJ n.2)->(∀n∈t.post,flS n N=0)->WsT (itT N t)
 | .l0 n,hw,hI,hz=>a6A hN hw (hI n (by simp[XT.post])) (hz n (by simp[XT.post]))| .l1 n a,hw,hI,hz=>a9M hN hw.1 (hI n (by simp[XT.post])) (hz n (by simp[XT.post])) _ (Nw hN a hw.2 (λm hm=>hI m (by simp[XT.post,hm])) (λm hm=>hz m (by simp[XT.post,hm]))) _| .l2 n a b,hw,hI,hz=>b1x hw.1 (hz n (by simp[XT.post])) (Nw hN a hw.2.1 (λm hm=>hI m (by simp[XT.post,hm])) (λm hm=>hz m (by simp[XT.post,hm]))) (Nw hN b hw.2.2 (λm hm=>hI m (by simp[XT.post,hm])) (λm hm=>hz m (by simp[XT.post,hm]))) _ _| .l3 n a b c,hw,hI,hz=>b1X (Nw hN a hw.2.1 (λm hm=>hI m (by simp[XT.post,hm])) (λm hm=>hz m (by simp[XT.post,hm]))) (Nw hN b hw.2.2.1 (λm hm=>hI m (by simp[XT.post,hm])) (λm hm=>hz m (by simp[XT.post,hm]))) (Nw hN c hw.2.2.2 (λm hm=>hI m (by simp[XT.post,hm])) (λm hm=>hz m (by simp[XT.post,hm])))
def NZ(x:U7):V7:=(x.1,x.2.1,x.2.2.1)
abbrev pS(T:List U7)(E:Int)(N:D7)(i:Nat)(nd:List (Int×Int)):x8:=(T,(i:Int),E,N,nd,0,0)
def pk(T:List U7)(i:Nat):U7:=(T[i]?).getD (0,[],0,0)
def At3(T:List U7)(i:Nat)(L:List V7):Prop:=(T.map NZ).drop i=L/\T.length<=1000000/\i<=T.length
def hd3(L:List V7):V7:=L.headD (0,[],0)
variable {i:Nat}{T:List U7}
theorem yf{L:List V7}(h:At3 T i L):NZ (pk T i)=hd3 L:=by
 obtain⟨h1,h2,h3⟩:=h;unfold pk hd3;by_cases hi:i<T.length
 .rw[←h1,Y8 (by simpa using hi),lG hi];simp
 .rw[←h1,U9 F9,Y2 l7];rfl
theorem eY{k:V7}{L:List V7}(h:At3 T i (k::L)):At3 T (i+1) L:=by
 obtain⟨h1,h2,h3⟩:=h;have hi:i<T.length:=by
  rcases gU i T.length with h|h
  .exact h
  .rw[U9 F9]at h1;cases h1
 refine⟨?_,h2,l7⟩;rw[←U3,h1];rfl
theorem ui{A L:List V7}(h:At3 T i (A++L)):At3 T (i+A.length) L:=by
 induction A generalizing i with
 |nil=>exact h|cons k A ih=>have:=ih (eY h);rw[show i+(k::A).length=i+1+A.length by simp;omega];exact this
theorem II{k:V7}{L:List V7}(h:At3 T i (k::L)):i<T.length:=by have:=(eY h).2.2;omega
variable {nd:List (Int×Int)}
section
variable {T:List U7} {E:Int} {N:D7}
theorem GX(i a:Nat)(nd:List (Int×Int))(hT:T.length<=1000000)(hi:i<=T.length)(ha:a<=10):O5 (pS T E N i nd) (a:Int)=some (pk T (i+a),pS T E N i nd):=by
 unfold O5 pk;have e:I5 .i64 (i:Int) (a:Int)=((i+a:Nat):Int):=by rw[aA af];omega
 simp only[e];by_cases h:i+a<T.length
 .rw[Y0 (by unfold x9;omega),o7,V4,lG h];rfl
 .rw[O6 (by unfold x9;omega),o5,Y2 l7];rfl
theorem Ej{L:List V7}(h:At3 T i L):O5 (pS T E N i nd) 0=some (pk T i,pS T E N i nd):=GX i 0 nd h.2.1 h.2.2 l7
theorem EG{L:List V7}(h:At3 T i L)(k:Int)(w:List UInt8):fK (pS T E N i nd) k w=some (l9 (D5 (hd3 L).1 k) (seq (hd3 L).2.1 w) false,pS T E N i nd):=by
 have hs:=yf h;unfold fK
 rw[Ej h,o9,←hs];unfold NZ;cases D5 (pk T i).1 k<;>rfl
theorem nH(hn:nd.length<=1000000)(op n:Int):F8 (pS T E N i nd) op n=some (true,pS T E N i (nd++[(op,n)])):=by unfold F8;simp only;rw[nJ _ hn];rfl
theorem LP{k:V7}{L:List V7}(h:At3 T i (k::L)):Y7 (pS T E N i nd) k.1 k.2.1=some (true,pS T E N (i+1) nd):=by
 unfold Y7;rw[EG h,o9];have hi:=II h;have hT:=h.2.1;rw[show(l9 (D5 (hd3 (k::L)).1 k.1) (seq (hd3 (k::L)).2.1 k.2.1) false)=true by rw[show hd3 (k::L)=k from rfl,J4 rfl,o7];exact mW.2 rfl]
 simp only[F5,o5];rw[Z8 l7]
theorem vN{n:Int}{L:List V7}(h:At3 T i ((7,[c],n)::L)):J8 (pS T E N i nd) [c]=some (true,pS T E N (i+1) nd):=by unfold J8;rw[show Y7 (pS T E N i nd) 7 [c]=_ from LP (k:=(7,[c],n)) h];rfl
end
def Md(k:Int):Int:=l9 (D5 k 2) 2 (l9 (D5 k 3) 3 (l9 (D5 k 4) 4 0))
theorem Bo(t:U7):kw t=some (Md t.1):=by unfold kw Md;cases D5 t.1 2<;>cases D5 t.1 3<;>cases D5 t.1 4<;>rfl
def a1o(k:Int):Prop:=k=11\/k=12\/k=13\/k=19\/k=20\/k=21\/k=22\/k=23\/k=24
def a5H(t:V7):Prop:=t=(0,[],0)\/t=(7,[41],0)\/t=(7,[44],0)\/t=(1,[116,104,101,110],0)\/t=(1,[101,108,115,101],0)
theorem a0B{t:U7}(h:a5H (NZ t)):iF t=some (0,0):=by
 obtain⟨a,b,c,d⟩:=t;unfold NZ at h;have key:∀(a:Int) (b:List UInt8),(a,b)∈([(0,[]),(7,[41]),(7,[44]),(1,[116,104,101,110]),(1,[101,108,115,101])]:List (Int×List UInt8))->iF (a,b,c,d)=some (0,0):=by intro a b h;simp only[D6,je,List.mem_nil_iff,or_false]at h;rcases h with⟨rfl,rfl⟩|⟨rfl,rfl⟩|⟨rfl,rfl⟩|⟨rfl,rfl⟩|⟨rfl,rfl⟩<;>rfl
 apply key;rcases h with h|h|h|h|h<;>cases h<;>decide
theorem a3W{t:U7}(hk:a1o k)(h:NZ t=opK k):iF t=some (k,(jy k).2):=by obtain⟨a,b,c,d⟩:=t;unfold NZ at h;rcases hk with rfl|rfl|rfl|rfl|rfl|rfl|rfl|rfl|rfl<;>cases h<;>rfl
def CE(R:List V7)(c:Int):Prop:=a5H (hd3 R)\/∃k,a1o k/\hd3 R=opK k/\(jy k).2<c
def Cm(R:List V7):Prop:=a5H (hd3 R)\/∃k,a1o k/\hd3 R=opK k
theorem a0J{R:List V7}{c:Int}(h:CE R c):Cm R:=by
 rcases h with h|⟨k,h1,h2,-⟩
 .exact .inl h
 .exact .inr ⟨k,h1,h2⟩
theorem XN{R:List V7}(h:Cm R):¬((hd3 R).1=7/\(hd3 R).2.1=[58])/\¬((hd3 R).1=7/\(hd3 R).2.1=[40]):=by
 rcases h with h|⟨k,h1,h2⟩
 .rcases h with h|h|h|h|h<;>rw[h]<;>decide
 .rw[h2];rcases h1 with rfl|rfl|rfl|rfl|rfl|rfl|rfl|rfl|rfl<;>decide
end
section
variable {w:List UInt8}
theorem Ah(h:lL w=true):w.length<=16/\w≠[]/\(KJ.any λs=>seq w s)=false:=by
 cases w with
 |nil=>cases h|cons c r=>rw[CS]at h;simp only[A8,decide_eq_true_eq,aU]at h;exact⟨h.1.1.1,A7,h.2⟩
theorem a0g{w s:List UInt8}(h:lL w=true)(hs:(KJ.any λx=>seq s x)=true):w≠s:=by rintro rfl;have:=(Ah h).2.2;rw[hs]at this;cases this
theorem Zg{w s:List UInt8}(h:lL w=true)(hs:(KJ.any λx=>seq s x)=true):seq w s=false:=sF.2 (a0g h hs)
theorem OA(h:lL w=true):cO w=some true:=by rw[jY (by have:=(Ah h).1;omega),h]
theorem v_:∀x:Fin 40,seq (dB (x.val:Int)) []=true\/(KJ.any λs=>seq (dB (x.val:Int)) s)=true:=by decide+kernel
def cwF(w:List UInt8)(x:Int):Option (Out Int PUnit Int):=
   l9 (V6 x 39)
    (l9 (H9 (seq w []))
     (o6 (gK x) λ(x_1:List UInt8)=>
      l9 (seq x_1 w) (some (Out.rt x)) (some (Out.nx (I5 IntKind.i64 x 1))))
     (some (Out.nx (I5 IntKind.i64 x 1))))
    (some (Out.ex PUnit.unit))
theorem a1r(h:lL w=true):jm w=some 0:=by
 have key:∀(d x k:Nat),x+d=40->10<=x->d<k->dW (cwF w) k (x:Int)=(some (.inl PUnit.unit):Option (PUnit⊕Int)):=by
  intro d;induction d with
  |zero=>
   intro x k hx h10 hk;obtain⟨k,rfl⟩:∃m,k=m+1:=⟨k -1,l7⟩;have st:cwF w (x:Int)=some (.ex PUnit.unit):=by unfold cwF;rw[bG l7];rfl
   rw[bJ,st]
  |succ d ih=>
   intro x k hx h10 hk;obtain⟨k,rfl⟩:∃m,k=m+1:=⟨k -1,l7⟩;have hne:seq w []=false:=sF.2 (Ah h).2.1;have hs:seq (dB (x:Int)) w=false:=by
    rw[sF];intro e;rcases v_ ⟨x,l7⟩with g|g
    .rw[mW]at g;simp only at g;exact(Ah h).2.1 (e.symm.trans g)
    .exact a0g h g e.symm
   have st:cwF w (x:Int)=some (.nx ((x+1:Nat):Int)):=by unfold cwF;rw[X9 l7,o7,hne,P7,o7,qm,o9,hs,o5,Z8 l7]
   rw[bJ,st];exact ih (x+1) k l7 l7 l7
 unfold jm;refine J3 (show P8 (cwF w) 10=_ from key 30 10 au l7 l7 (by unfold au;omega)) ?_;rfl
theorem a1q{k:Int}(h:k=14\/k=15\/k=16\/k=17\/k=18\/k=27\/k=28\/k=29\/k=30\/k=31\/k=32\/k=33\/k=34\/k=35\/k=36\/k=37\/k=38\/k=39):jm (dB k)=some k:=by rcases h with rfl|rfl|rfl|rfl|rfl|rfl|rfl|rfl|rfl|rfl|rfl|rfl|rfl|rfl|rfl|rfl|rfl|rfl<;>rfl
theorem a1K:∀m:Fin 6,qf (jW (m.val:Int))=some (m.val:Int):=by decide+kernel
theorem a1L{m:Int}(h:0<=m/\m<=5):qf (jW m)=some m:=by obtain⟨j,rfl⟩:∃j:Fin 6,m=(j.val:Int):=⟨⟨m.toNat,l7⟩,by simp;omega⟩;exact a1K j
def Tn(l:List (List UInt8))(j:Nat)(w:List UInt8):Prop:=l[j]? =some w/\∀x∈l.take j,x≠w
theorem WW{α:Type}(l:List α)(p:α->Bool)(hl:l.length<=1000000){f:Int->Option (Out Int PUnit Int)}
  (h1:∀(i:Nat) (a:α),l[i]? =some a->f (i:Int)=some (l9 (p a) (.rt (i:Int)) (.nx ((i+1:Nat):Int)))) (h2:f (l.length:Int)=some (.ex PUnit.unit)):
  (∀j a,l[j]? =some a->p a=true->(∀x∈l.take j,p x=false)->P8 f 0=some (.inr (j:Int)))/\((∀x∈l,p x=false)->P8 f 0=some (.inl PUnit.unit)):=by
 have step:∀(j i k:Nat),i<=j->j<=l.length->(∀x∈l.take j,p x=false)->dW f (k+(j -i)) (i:Int)=dW f k (j:Int):=by
  intro j i k hij hj hp;induction h:j -i generalizing i k with
  |zero=>rw[show i=j by omega];rfl|succ n ih=>
   have hi:i<l.length:=l7;have hg:=lG hi;have:=h1 i _ hg;rw[hp l[i] (by rw[List.mem_take_iff_getElem];exact⟨i,l7,rfl⟩),o5]at this
   rw[show k+(n+1)=(k+n)+1 by omega,bJ,this];exact ih (i+1) k l7 l7
 constructor
 .intro j a ha hpa hp;have hj:=(aO.1 ha).1;have:=step j 0 (au -j) l7 l7 hp;rw[show au -j+(j -0)=au by unfold au;omega]at this;unfold P8;rw[show(0:Int)=((0:Nat):Int)from rfl,this,show au -j=(au -j -1)+1 by unfold au;omega,bJ,h1 j a ha,hpa];rfl
 .intro hp;have:=step l.length 0 (au -l.length) l7 l7 (λx hx=>hp x (lI hx));rw[show au -l.length+(l.length -0)=au by unfold au;omega]at this;unfold P8;rw[show(0:Int)=((0:Nat):Int)from rfl,this,show au -l.length=(au -l.length -1)+1 by unfold au;omega,bJ,h2]
theorem JJ{l:List (List UInt8)}(hl:l.length<=1000000)(w:List UInt8):(∀j,Tn l j w->aV l w=some (j:Int))/\((∀x∈l,x≠w)->aV l w=some (-1)):=by
 unfold aV;obtain⟨k1,k2⟩:=WW l (λx=>seq w x) hl (f:=λ(x:Int)=>l9 (I8 x (x9 l)) (o6 (X0 l x) λ(x_1:List UInt8)=>l9 (seq w x_1) (some (Out.rt x)) (some (Out.nx (I5 IntKind.i64 x 1)))) (some (Out.ex PUnit.unit)))
  (λi a ha=>by have:=(aO.1 ha).1;simp only[V8 ha,o7,V4,ha,o9];rw[Z8 l7];cases seq w a<;>rfl) (by rw[aG];rfl)
 constructor
 .intro j hj;refine J3 (k1 j w hj.1 (mW.2 rfl) (λx hx=>sF.2 (λe=>hj.2 x hx e.symm))) ?_;rfl
 .intro h;refine J3 (k2 (λx hx=>sF.2 (λe=>h x hx e.symm))) ?_;rfl
variable {j:Nat}
theorem a3t{l:List dU}(hl:l.length<=1000000)(t:U7){e:dU}(he:l[j]? =some e)(hw:e.1=t.2.1)(hf:∀x∈l.take j,x.1≠t.2.1):aT l t=some (j:Int):=by
 unfold aT oz;obtain⟨k1,-⟩:=WW l (λx=>seq x.1 t.2.1) hl (f:=λ(x:Int)=>l9 (I8 x (x9 l)) (o6 (X0 l x) λ(x_1:dU)=>o6 (some (seq x_1.1 t.2.1)) λ(x_2:Bool)=>l9 x_2 (some (Out.rt x)) (some (Out.nx (I5 IntKind.i64 x 1)))) (some (Out.ex PUnit.unit)))
  (λi a ha=>by have:=(aO.1 ha).1;simp only[V8 ha,o7,V4,ha,o9];rw[Z8 l7];cases seq a.1 t.2.1<;>rfl) (by rw[aG];rfl)
 refine J3 (k1 j e he (mW.2 hw) (λx hx=>sF.2 (hf x hx))) ?_;rfl
variable {i:Nat}{R:List V7}{nd:List (Int×Int)}{n:Int}
section
variable {T:List U7} {E:Int} {N:D7}
theorem JG(h:At3 T i ((1,w,n)::R))(hw:lL w=true){l:List (List UInt8)}(hl:l.length<=1000000)(hj:Tn l j w):aN (pS T E N i nd) l=some ((j:Int),true,pS T E N (i+1) nd):=by have hs:=yf h;have hi:=II h;have hT:=h.2.1;unfold aN;rw[Ej h,o9];have e1:(pk T i).1=1:=congrArg (λx:V7=>x.1) hs;have e2:(pk T i).2.1=w:=congrArg (λx:V7=>x.2.1) hs;simp only[e1,e2,J4 (rfl:(1:Int)=1),F5,o5,OA hw,o9];rw[(JJ hl w).1 j hj,o9,O6 l7,o5,Z8 l7]
theorem a0v{m n:Int}(h:At3 T i ((1,jW m,n)::R))(hm:0<=m/\m<=5):Y1 (pS T E N i nd)=some (m,true,pS T E N (i+1) nd):=by have hs:=yf h;have hi:=II h;have hT:=h.2.1;unfold Y1;rw[Ej h,o9];have e1:(pk T i).1=1:=congrArg (λx:V7=>x.1) hs;have e2:(pk T i).2.1=jW m:=congrArg (λx:V7=>x.2.1) hs;simp only[e1,e2,J4 (rfl:(1:Int)=1),F5,o5,a1L hm,o9];rw[O6 l7,o5,Z8 l7]
theorem Ku{k:V7}(h:At3 T i (k::R)):NZ (pk T (i+1))=hd3 R:=yf (eY h)
theorem a6I(hnd:nd.length<=1000000)(h:At3 T i ((1,w,n)::R))(hR:Cm R)(hw:lL w=true)(hl:N.2.2.1.length<=1000000)(hj:Tn N.2.2.1 j w):aZ (pS T E N i nd)=some (true,pS T E N (i+1) (nd++[(7,(j:Int))])):=by
 have hs:=yf h;have hn:=Ku h;have hi:=II h;have hT:=h.2.1;unfold aZ;rw[Ej h,o9];simp only;rw[show O5 (pS T E N i nd) 1=_ from GX i 1 nd hT h.2.2 l7,o9];have e1:(pk T i).1=1:=congrArg (λx:V7=>x.1) hs;have e2:(pk T i).2.1=w:=congrArg (λx:V7=>x.2.1) hs;have e3:(l9 (D5 (pk T (i+1)).1 7) (some (seq (pk T (i+1)).2.1 [58])) (some false))=some false:=by
  have q1:(pk T (i+1)).1=(hd3 R).1:=congrArg (λx:V7=>x.1) hn;have q2:(pk T (i+1)).2.1=(hd3 R).2.1:=congrArg (λx:V7=>x.2.1) hn;rw[q1,q2];by_cases g:(hd3 R).1=7
  .rw[J4 g,o7];congr 1;exact sF.2 (λe=>(XN hR).1 ⟨g,e⟩)
  .rw[I9 g];rfl
 simp only[e2,OA hw,o9,F5,o5,e3];rw[(JJ hl w).1 j hj,o9,X9 l7,o7,Z8 l7];rw[show F8 (T,((i+1:Nat):Int),E,N,nd,0,0) 7 (j:Int)=_ from nH (i:=i+1) hnd 7 (j:Int),o9]
theorem a3L(hnd:nd.length<=1000000)(h:At3 T i ((1,w,n)::R))(hR:Cm R)(hw:lL w=true)(hl:N.2.2.1.length<=1000000)(hl2:N.2.2.2.1.length<=1000000)(hno:∀x∈N.2.2.1,x≠w)(hj:Tn N.2.2.2.1 j w):aZ (pS T E N i nd)=some (true,pS T E N (i+1) (nd++[(8,(j:Int))])):=by
 have hs:=yf h;have hn:=Ku h;have hi:=II h;have hT:=h.2.1;unfold aZ;rw[Ej h,o9];simp only;rw[show O5 (pS T E N i nd) 1=_ from GX i 1 nd hT h.2.2 l7,o9];have e2:(pk T i).2.1=w:=congrArg (λx:V7=>x.2.1) hs;have e3:(l9 (D5 (pk T (i+1)).1 7) (some (seq (pk T (i+1)).2.1 [58])) (some false))=some false:=by
  have q1:(pk T (i+1)).1=(hd3 R).1:=congrArg (λx:V7=>x.1) hn;have q2:(pk T (i+1)).2.1=(hd3 R).2.1:=congrArg (λx:V7=>x.2.1) hn;rw[q1,q2];by_cases g:(hd3 R).1=7
  .rw[J4 g,o7];congr 1;exact sF.2 (λe=>(XN hR).1 ⟨g,e⟩)
  .rw[I9 g];rfl
 simp only[e2,OA hw,o9,F5,o5,e3];rw[(JJ hl w).2 hno,o9,bG l7,o5,show aN (T,(i:Int),E,N,nd,0,0) N.2.2.2.1=_ from JG h hw hl2 hj,o9];simp only[o7];rw[nH hnd,o9]
theorem a1N(hnd:nd.length<=1000000){w v:List UInt8}{n n2 n3:Int}(h:At3 T i ((1,w,n)::(7,[58],n2)::(1,v,n3)::R))(hw:lL w=true)(hv:lL v=true)(hl:N.1.length<=1000000)
  {j k:Nat} {e:dU} (he:N.1[j]? =some e) (hj:e.1=w) (hf:∀x∈N.1.take j,x.1≠w) (hl2:e.2.length<=1000000) (hk:Tn e.2 k v):aZ (pS T E N i nd)=some (true,pS T E N (i+3) (nd++[(6,16*(j:Int)+(k:Int))])):=by
 have hs:=yf h;have hn:=Ku h;have hi:=II h;have hT:=h.2.1;have hjl:=(aO.1 he).1;have hkl:=(aO.1 hk.1).1;unfold aZ;rw[Ej h,o9];simp only;rw[show O5 (pS T E N i nd) 1=_ from GX i 1 nd hT h.2.2 l7,o9];have e2:(pk T i).2.1=w:=congrArg (λx:V7=>x.2.1) hs;have q1:(pk T (i+1)).1=7:=congrArg (λx:V7=>x.1) hn;have q2:(pk T (i+1)).2.1=[58]:=congrArg (λx:V7=>x.2.1) hn;simp only[e2,OA hw,o9,F5,o5,q1,q2,J4 (rfl:(7:Int)=7),o7,show seq ([58]:List UInt8) [58]=true from rfl];rw[a3t hl (pk T i) he (hj.trans e2.symm) (λx hx=>by rw[e2];exact hf x hx),o9,O6 l7,o5,V4,he,o9];have hp2:I5 .i64 (i:Int) 2=((i+2:Nat):Int):=by rw[aA af];omega
 rw[hp2,show aN (T,((i+2:Nat):Int),E,N,nd,0,0) e.2=_ from JG (i:=i+2) (eY (eY h)) hv hl2 hk,o9];simp only[o7];rw[EY af,aA af,nH hnd,o9]
end
end
section
theorem a9T(m:Nat)(p:x8):(o8 (m+1)).1 p=fV (o8 m).1 (o8 m).2.1 (o8 m).2.2.1 (o8 m).2.2.2.1 (o8 m).2.2.2.2 p:=rfl
theorem a4p(m:Nat)(p:x8):(o8 (m+1)).2.2.1 p=dK (o8 m).1 (o8 m).2.1 (o8 m).2.2.1 (o8 m).2.2.2.1 (o8 m).2.2.2.2 p:=rfl
theorem a4o(m:Nat)(p:x8):(o8 (m+1)).2.2.2.1 p=eU (o8 m).1 (o8 m).2.1 (o8 m).2.2.1 (o8 m).2.2.2.1 (o8 m).2.2.2.2 p:=rfl
theorem XB(m:Nat)(p:x8)(op:Int):(o8 (m+1)).2.2.2.2 p op=aK (o8 m).1 (o8 m).2.1 (o8 m).2.2.1 (o8 m).2.2.2.1 (o8 m).2.2.2.2 p op:=rfl
def biF(r207:x8->Int->Option (Bool×x8))(a1:Int)(x:x8×Int):Option (Out (x8×Int) PUnit (Bool×x8)):=
     o6 (O5 x.1 0) λ(x_1:U7×x8)=>
      o6 (iF x_1.1) λ(x_2:H5)=>
       o6
        (l9 (D5 x_2.1 0) (some (Sum.inr (true,x_1.2)))
         (l9 (I8 x_2.2 a1) (some (Sum.inr (true,x_1.2)))
          (l9 (I8 x.2 x_2.2) (some (Sum.inr (true,x_1.2))) (some (Sum.inl PUnit.unit)))))
        λ(o:PUnit⊕Bool×x8)=>
        bP o
         (λ(x:PUnit)=>
          o6 (r207 (x_1.2.1,I5 IntKind.i64 x_1.2.2.1 1,x_1.2.2.2) (I5 IntKind.i64 x_2.2 1))
           λ(x:Bool×x8)=>
           l9 (H9 x.1) (some (Out.rt (false,x.2)))
            (o6 (F8 x.2 x_2.1 0) λ(x:Bool×x8)=>
             l9 (D5 x_2.2 3) (some (Out.nx (x.2,ae IntKind.i64 x_2.2 1)))
              (some (Out.nx (x.2,x_2.2)))))
         λ(r:Bool×x8)=>some (Out.rt r)
theorem a8s(m:Nat)(p:x8)(c:Int):(o8 (m+1)).2.1 p c=o6 ((o8 m).2.2.1 p) λ(x:Bool×x8)=>l9 (H9 x.1) (some (false,x.2)) (o6 (P8 (biF (o8 m).2.1 c) (x.2,5)) λ(o:PUnit⊕Bool×x8)=>bP o (λ(y:PUnit)=>none) λ(r:Bool×x8)=>some r):=rfl
section
variable (T:List U7) (E:Int) (N:D7)
def EOk(m:Nat)(W:List V7)(P:List (Int×Int))(R:List V7):Prop:=∀i nd,At3 T i (W++R)->nd.length+P.length<=100000->(o8 m).1 (pS T E N i nd)=some (true,pS T E N (i+W.length) (nd++P))
def UOk(m:Nat)(W:List V7)(P:List (Int×Int))(R:List V7):Prop:=∀i nd,At3 T i (W++R)->nd.length+P.length<=100000->(o8 m).2.2.1 (pS T E N i nd)=some (true,pS T E N (i+W.length) (nd++P))
def AOk(m:Nat)(W:List V7)(P:List (Int×Int))(R:List V7):Prop:=∀i nd,At3 T i (W++R)->nd.length+P.length<=100000->(o8 m).2.2.2.1 (pS T E N i nd)=some (true,pS T E N (i+W.length) (nd++P))
def a6a(m:Nat)(c:Int)(W:List V7)(P:List (Int×Int))(R:List V7):Prop:=∀i nd,At3 T i (W++R)->nd.length+P.length<=100000->(o8 m).2.1 (pS T E N i nd) c=some (true,pS T E N (i+W.length) (nd++P))
def COk(m:Nat)(op:Int)(W:List V7)(P:List (Int×Int))(R:List V7):Prop:=∀i nd,At3 T i (W++R)->nd.length+P.length<=100000->(o8 m).2.2.2.2 (pS T E N i nd) op=some (true,pS T E N (i+W.length) (nd++P))
def LOk(m:Nat)(c:Int)(W:List V7)(P:List (Int×Int))(g:Int)(R:List V7):Prop:=∀i nd,At3 T i (W++R)->nd.length+P.length<=100000->∃(p' :x8) (q:Nat),q<=W.length/\(o8 m).2.2.1 (pS T E N i nd)=some (true,p')/\
 ∀j,dW (biF (o8 m).2.1 c) (j+q) (p',5)=dW (biF (o8 m).2.1 c) j (pS T E N (i+W.length) (nd++P),g)
end
variable {R:List V7}{m:Nat}{W:List V7}{P:List (Int×Int)}
section
variable {T:List U7} {E:Int} {N:D7}
theorem r_(c:Int)(h:UOk T E N m W P R):LOk T E N m c W P 5 R:=λi nd hA hn=>⟨_,0,l7,h i nd hA hn,λj=>rfl⟩
theorem zt{i:Nat}(h:At3 T i (W++R)):i+W.length<=1000000:=by have:=ui h;have h1:=this.2.1;have h2:=this.2.2;omega
theorem a3x{c g:Int}(h:LOk T E N m c W P g R)(hR:CE R c):a6a T E N (m+1) c W P R:=by
 intro i nd hA hn;obtain⟨p',q,hq,h1,h2⟩:=h i nd hA hn;have hl:=zt hA;have hB:=ui hA;have hs:=yf hB;rw[a8s,h1,o9];simp only[F5,o5];have lp:P8 (biF (o8 m).2.1 c) (p',5)=some (.inr (true,pS T E N (i+W.length) (nd++P))):=by
  unfold P8;rw[show au=(au -q -1+1)+q by unfold au;omega,h2,bJ];have st:biF (o8 m).2.1 c (pS T E N (i+W.length) (nd++P),g)=some (.rt (true,pS T E N (i+W.length) (nd++P))):=by
   unfold biF;simp only;rw[Ej hB,o9];simp only;rcases hR with hR|⟨k,hk,e,hc⟩
   .rw[a0B (t:=pk T (i+W.length)) (by rw[hs];exact hR),o9,J4 rfl,o7,o9,jg]
   .rw[a3W (t:=pk T (i+W.length)) hk (by rw[hs];exact e),o9];simp only;rw[I9 (by rcases hk with rfl|rfl|rfl|rfl|rfl|rfl|rfl|rfl|rfl<;>decide),o5,Y0 hc,o7,o9,jg]
  rw[st]
 rw[lp,o9,jg]
theorem b1Z{c ga k:Int}{A B:List V7}{PA PB:List (Int×Int)}(hk:a1o k)(hA:LOk T E N m c A PA ga (opK k::(B++R)))(hB:a6a T E N m ((jy k).2+1) B PB R)(h1:c<=(jy k).2)(h2:(jy k).2<=ga):
  LOk T E N m c (A++opK k::B) (PA++PB++[(k,0)]) (l9 (D5 (jy k).2 3) 2 (jy k).2) R:=by
 intro i nd hAt hn;have hAt' :At3 T i (A++(opK k::(B++R))):=by rw[E9]at hAt;exact hAt
 simp only[E8,ja]at hn;obtain⟨p',q,hq,e1,e2⟩:=hA i nd hAt' l7;refine⟨p',q+1,by simp;omega,e1,λj=>?_⟩;have hO:=ui hAt';have hs:=yf hO;have hop:=a3W (t:=pk T (i+A.length)) hk hs;have hl:=zt hAt;simp only[E8,D9]at hl;have hsy:1<=(jy k).2/\(jy k).2<=5:=by rcases hk with rfl|rfl|rfl|rfl|rfl|rfl|rfl|rfl|rfl<;>decide
 rw[show j+(q+1)=(j+1)+q by omega,e2,bJ];have st:biF (o8 m).2.1 c (pS T E N (i+A.length) (nd++PA),ga)=some (.nx (pS T E N (i+(A++opK k::B).length) (nd++(PA++PB++[(k,0)])),l9 (D5 (jy k).2 3) 2 (jy k).2)):=by
  unfold biF;simp only;rw[Ej hO,o9];simp only;rw[hop,o9];simp only;rw[I9 (by rcases hk with rfl|rfl|rfl|rfl|rfl|rfl|rfl|rfl|rfl<;>decide),o5,O6 h1,o5,O6 h2,o5,o9,J7,Z8 l7,aA af];rw[show(o8 m).2.1 (T,((i+A.length+1:Nat):Int),E,N,nd++PA,0,0) ((jy k).2+1)=_ from hB (i+A.length+1) (nd++PA) (eY hO) F9,o9];simp only[F5,o5];rw[nH F9,o9];simp only;rw[fA af];have e3:i+A.length+1+B.length=i+(A++opK k::B).length:=by simp;omega
  have e4:nd++PA++PB++[(k,0)]=nd++(PA++PB++[(k,0)]):=A7;rw[e3,e4];by_cases h3:(jy k).2=3
  .rw[J4 h3,o7,o7,h3];rfl
  .rw[I9 h3,o5,o5]
 rw[st]
theorem a9t(h:a6a T E N m 1 W P R)(hne:W≠[])(hif:¬((hd3 W).1=1/\(hd3 W).2.1=[105,102])):EOk T E N (m+1) W P R:=by
 intro i nd hA hn;have hh:hd3 (W++R)=hd3 W:=by cases W with|nil=>exact absurd rfl hne|cons a W=>rfl
 rw[a9T];unfold fV;rw[EG hA,o9,hh];have e:l9 (D5 (hd3 W).1 1) (seq (hd3 W).2.1 [105,102]) false=false:=by
  by_cases g:(hd3 W).1=1
  .rw[J4 g,o7];exact sF.2 (λe=>hif ⟨g,e⟩)
  .rw[I9 g];rfl
 rw[e];simp only[P7,o7];rw[h i nd hA hn,o9]
theorem b5T{A B C:List V7}{PA PB PC:List (Int×Int)} (hA:EOk T E N m A PA ((1,[116,104,101,110],0)::(B++((1,[101,108,115,101],0)::(C++R))))) (hB:EOk T E N m B PB ((1,[101,108,115,101],0)::(C++R))) (hC:EOk T E N m C PC R):
  EOk T E N (m+1) ((1,[105,102],0)::(A++(1,[116,104,101,110],0)::(B++(1,[101,108,115,101],0)::C))) (PA++PB++PC++[(26,0)]) R:=by
 intro i nd hAt hn;have h0:At3 T i ((1,[105,102],0)::(A++((1,[116,104,101,110],0)::(B++((1,[101,108,115,101],0)::(C++R)))))):=by have e:((1,[105,102],0)::(A++(1,[116,104,101,110],0)::(B++(1,[101,108,115,101],0)::C)))++R=((1,[105,102],0):V7)::(A++((1,[116,104,101,110],0)::(B++((1,[101,108,115,101],0)::(C++R))))):=A7;rw[←e];exact hAt
 have hl:=zt hAt;simp only[E8,D9,H6]at hl hn;have a1:=eY h0;have a2:=ui a1;have a3:=eY a2;have a4:=ui a3;have a5:=eY a4;rw[a9T];unfold fV;rw[EG h0,o9];rw[show(l9 (D5 (hd3 ((1,[105,102],0)::(A++((1,[116,104,101,110],0)::(B++((1,[101,108,115,101],0)::(C++R))))):List V7)).1 1) (seq (hd3 ((1,[105,102],0)::(A++((1,[116,104,101,110],0)::(B++((1,[101,108,115,101],0)::(C++R))))):List V7)).2.1 [105,102]) false)=true from rfl];simp only[F5,o5];rw[Z8 l7];rw[show(o8 m).1 (T,((i+1:Nat):Int),E,N,nd,0,0)=_ from hA (i+1) nd a1 l7,o9];simp only[o7];rw[show Y7 (pS T E N (i+1+A.length) (nd++PA)) 1 [116,104,101,110]=_ from LP a2,o9];simp only[o7];rw[hB (i+1+A.length+1) (nd++PA) a3 F9,o9];simp only[o7];rw[show Y7 (pS T E N (i+1+A.length+1+B.length) (nd++PA++PB)) 1 [101,108,115,101]=_ from LP a4,o9];simp only[o7];rw[hC (i+1+A.length+1+B.length+1) (nd++PA++PB) a5 F9,o9];simp only[o7];rw[nH F9,o9];have e3:i+1+A.length+1+B.length+1+C.length=i+((1,[105,102],0)::(A++(1,[116,104,101,110],0)::(B++(1,[101,108,115,101],0)::C)):List V7).length:=by simp;omega
 have e4:nd++PA++PB++PC++[(26,0)]=nd++(PA++PB++PC++[(26,0)]):=A7;rw[e3,e4]
theorem a6c(h:EOk T E N m W P ((7,[41],0)::R)):AOk T E N (m+1) ((7,[40],0)::(W++[(7,[41],0)])) P R:=by
 intro i nd hAt hn;have h0:At3 T i ((7,[40],0)::(W++((7,[41],0)::R))):=by have e:((7,[40],0)::(W++[(7,[41],0)]))++R=((7,[40],0):V7)::(W++((7,[41],0)::R)):=A7;rw[←e];exact hAt
 have hl:=zt hAt;simp only[E8,D9,H6]at hl;have hs:=yf h0;have e1:(pk T i).1=7:=congrArg (λx:V7=>x.1) hs;rw[a4o];unfold eU;rw[Ej h0,o9,Bo,o9];simp only[e1,show Md 7=0 from rfl,J4 (rfl:(0:Int)=0),F5,o5,I9 (show(7:Int)≠5 by omega)];rw[EG h0,o9];rw[show(l9 (D5 (hd3 ((7,[40],0)::(W++((7,[41],0)::R)):List V7)).1 7) (seq (hd3 ((7,[40],0)::(W++((7,[41],0)::R)):List V7)).2.1 [40]) false)=true from rfl];simp only[o7];rw[Z8 l7];rw[show(o8 m).1 (T,((i+1:Nat):Int),E,N,nd,0,0)=_ from h (i+1) nd (eY h0) hn,o9];simp only[o7];rw[vN (ui (eY h0)),o9];have e3:i+1+W.length+1=i+((7,[40],0)::(W++[(7,[41],0)]):List V7).length:=by simp;omega
 rw[e3]
theorem a2L(h:AOk T E N m W P R)(hne:W≠[])(h1:¬((hd3 W).1=7/\(hd3 W).2.1=[45]))(h2:¬((hd3 W).1=1/\(hd3 W).2.1=[110,111,116])):UOk T E N (m+1) W P R:=by
 intro i nd hA hn;have hh:hd3 (W++R)=hd3 W:=by cases W with|nil=>exact absurd rfl hne|cons a W=>rfl
 rw[a4p];unfold dK;rw[EG hA,o9,hh];have e:l9 (D5 (hd3 W).1 7) (seq (hd3 W).2.1 [45]) false=false:=by
  by_cases g:(hd3 W).1=7
  .rw[J4 g,o7];exact sF.2 (λe=>h1 ⟨g,e⟩)
  .rw[I9 g];rfl
 have e' :l9 (D5 (hd3 W).1 1) (seq (hd3 W).2.1 [110,111,116]) false=false:=by
  by_cases g:(hd3 W).1=1
  .rw[J4 g,o7];exact sF.2 (λe=>h2 ⟨g,e⟩)
  .rw[I9 g];rfl
 rw[e];simp only[o5];rw[EG hA,o9,hh,e'];simp only[o5];rw[h i nd hA hn,o9]
theorem b5F(h:UOk T E N m W P R):UOk T E N (m+1) ((1,[110,111,116],0)::W) (P++[(25,0)]) R:=by
 intro i nd hAt hn;have h0:At3 T i ((1,[110,111,116],0)::(W++R)):=hAt;have hl:=zt hAt;simp only[E8,D9,H6]at hl hn;rw[a4p];unfold dK;rw[EG h0,o9];rw[show(l9 (D5 (hd3 ((1,[110,111,116],0)::(W++R):List V7)).1 7) (seq (hd3 ((1,[110,111,116],0)::(W++R):List V7)).2.1 [45]) false)=false from rfl];simp only[o5];rw[EG h0,o9];rw[show(l9 (D5 (hd3 ((1,[110,111,116],0)::(W++R):List V7)).1 1) (seq (hd3 ((1,[110,111,116],0)::(W++R):List V7)).2.1 [110,111,116]) false)=true from rfl];simp only[o7];rw[Z8 l7];rw[show(o8 m).2.2.1 (T,((i+1:Nat):Int),E,N,nd,0,0)=_ from h (i+1) nd (eY h0) l7,o9];simp only[o7];rw[nH F9,o9];have e3:i+1+W.length=i+((1,[110,111,116],0)::W:List V7).length:=by simp;omega
 rw[e3,E9]
theorem a9i(h:UOk T E N m W P R)(hne:W≠[])(hlit:Md (hd3 W).1=0):UOk T E N (m+1) ((7,[45],0)::W) (P++[(10,0)]) R:=by
 intro i nd hAt hn;have h0:At3 T i ((7,[45],0)::(W++R)):=hAt;have hl:=zt hAt;have hh:hd3 (W++R)=hd3 W:=by cases W with|nil=>exact absurd rfl hne|cons a W=>rfl
 simp only[E8,D9,H6]at hl hn;have hn1:=Ku h0;have e1:(pk T (i+1)).1=(hd3 W).1:=by rw[←hh];exact congrArg (λx:V7=>x.1) hn1
 rw[a4p];unfold dK;rw[EG h0,o9];rw[show(l9 (D5 (hd3 ((7,[45],0)::(W++R):List V7)).1 7) (seq (hd3 ((7,[45],0)::(W++R):List V7)).2.1 [45]) false)=true from rfl];simp only[o7];rw[show O5 (pS T E N i nd) 1=_ from GX i 1 nd h0.2.1 h0.2.2 l7,o9,Bo,o9];simp only[e1,hlit,J4 (rfl:(0:Int)=0),F5,o5];rw[Z8 l7];rw[show(o8 m).2.2.1 (T,((i+1:Nat):Int),E,N,nd,0,0)=_ from h (i+1) nd (eY h0) l7,o9];simp only[o7];rw[nH F9,o9];have e3:i+1+W.length=i+((7,[45],0)::W:List V7).length:=by simp;omega
 rw[e3,E9]
theorem a5V{k u:Int}{w:List UInt8}(hk:k=2\/k=3\/k=4)(hu:0<=u/\u<=1000000000000000000):UOk T E N (m+1) [(7,[45],0),(k,w,u)] [(k,-u)] R:=by
 intro i nd hAt hn;have h0:At3 T i ((7,[45],0)::(k,w,u)::R):=hAt;have hl:=zt hAt;simp only[D9,H6]at hl hn;have hn1:=Ku h0;have e1:(pk T (i+1)).1=k:=congrArg (λx:V7=>x.1) hn1;have e2:(pk T (i+1)).2.2.1=u:=congrArg (λx:V7=>x.2.2) hn1;have hlit:Md k=k:=by rcases hk with rfl|rfl|rfl<;>rfl
 rw[a4p];unfold dK;rw[EG h0,o9];rw[show(l9 (D5 (hd3 ((7,[45],0)::(k,w,u)::R:List V7)).1 7) (seq (hd3 ((7,[45],0)::(k,w,u)::R:List V7)).2.1 [45]) false)=true from rfl];simp only[o7];rw[show O5 (pS T E N i nd) 1=_ from GX i 1 nd h0.2.1 h0.2.2 l7,o9,Bo,o9];simp only[e1,e2,hlit,I9 (show k≠0 by omega),P7,o7];rw[o9];rw[show I5 .i64 (i:Int) 2=((i+2:Nat):Int) by rw[aA af];omega,fA af];rw[show F8 (T,((i+2:Nat):Int),E,N,nd,0,0) k (0 -u)=_ from nH (i:=i+2) l7 k (0 -u),o9,Int.zero_sub];rfl
end
end
section
structure NmD (N:D7):Prop where
 id:NmI N
 le:N.1.length<=1000/\N.2.1.length<=1000/\N.2.2.1.length<=1000/\N.2.2.2.1.length<=1000/\N.2.2.2.2.length<=1000
 e:∀(j:Nat) e,N.1[j]? =some e->(∀x∈N.1.take j,x.1≠e.1)/\e.2.length<=1000/\∀(k:Nat) v,e.2[k]? =some v->∀x∈e.2.take k,x≠v
 t:∀(j:Nat) w,N.2.1[j]? =some w->∀x∈N.2.1.take j,x≠w
 i:∀(j:Nat) w,N.2.2.1[j]? =some w->∀x∈N.2.2.1.take j,x≠w
 d:∀(j:Nat) w,N.2.2.2.1[j]? =some w->(∀x∈N.2.2.2.1.take j,x≠w)/\∀x∈N.2.2.1,x≠w
 m:∀(j:Nat) w,N.2.2.2.2[j]? =some w->∀x∈N.2.2.2.2.take j,x≠w
theorem Ai{α:Type}{l:List α}{i:Int}{x:α}(h:X0 l i=some x):l[i.toNat]? =some x/\((i.toNat:Nat):Int)=i/\x∈l:=by obtain⟨h0,h1,h2,h3⟩:=iQ h;exact⟨h3,l7,h2⟩
variable {m:Nat}{R:List V7}{v:Int}{k:Int}{W:List V7}{n:Int}{w:List UInt8}{P:List (Int×Int)}
section
variable {T:List U7} {E:Int} {N:D7}
theorem b1E{k u:Int}(hk:k=2\/k=3\/k=4):AOk T E N (m+1) [(k,w,u)] [(k,u)] R:=by
 intro i nd hAt hn;have h0:At3 T i ((k,w,u)::R):=hAt;have hl:=zt hAt;simp only[D9,H6]at hl hn;have hs:=yf h0;have e1:(pk T i).1=k:=congrArg (λx:V7=>x.1) hs;have e2:(pk T i).2.2.1=u:=congrArg (λx:V7=>x.2.2) hs;have hlit:Md k=k:=by rcases hk with rfl|rfl|rfl<;>rfl
 rw[a4o];unfold eU;rw[Ej h0,o9,Bo,o9];simp only[e1,e2,hlit,I9 (show k≠0 by omega),P7,o7];rw[o9,Z8 l7,show F8 (T,((i+1:Nat):Int),E,N,nd,0,0) k u=_ from nH (i:=i+1) l7 k u,o9];rfl
theorem a9n{u:Int} :AOk T E N (m+1) [(5,w,u)] [(5,u)] R:=by intro i nd hAt hn;have h0:At3 T i ((5,w,u)::R):=hAt;have hl:=zt hAt;simp only[D9,H6]at hl hn;have hs:=yf h0;have e1:(pk T i).1=5:=congrArg (λx:V7=>x.1) hs;have e2:(pk T i).2.2.1=u:=congrArg (λx:V7=>x.2.2) hs;rw[a4o];unfold eU;rw[Ej h0,o9,Bo,o9];simp only[e1,e2,show Md 5=0 from rfl,J4 (rfl:(0:Int)=0),J4 (rfl:(5:Int)=5),F5,o5,o7];rw[Z8 l7,show F8 (T,((i+1:Nat):Int),E,N,nd,0,0) 5 u=_ from nH (i:=i+1) l7 5 u,o9];rfl
theorem Pg{i:Nat}{nd:List (Int×Int)}(h0:At3 T i ((1,w,n)::(W++R))):(o8 (m+1)).2.2.2.1 (pS T E N i nd)=
  (l9 (seq w [116,114,117,101]) (F8 (pS T E N (i+1) nd) 1 1)
   (l9 (seq w [102,97,108,115,101]) (F8 (pS T E N (i+1) nd) 1 0)
    (l9 (seq w [116,111,100,97,121]) (F8 (pS T E N (i+1) nd) 9 0)
     (o6 (jm w) λ(x_3:Int)=>
           l9 (H9 (D5 x_3 0))
            (o6 (J8 (pS T E N (i+1) nd) [40])
             λ(x_4:Bool×x8)=>
             l9 x_4.1
              (o6 ((o8 m).2.2.2.2 x_4.2 x_3) λ(x:Bool×x8)=>
                l9 x.1 (o6 (J8 x.2 [41]) λ(x:Bool×x8)=>some x)
                 (some (false,x.2)))
              (some (false,x_4.2)))
            (aZ (pS T E N i nd)))))):=by
 have hi:=II h0;have hT:=h0.2.1;have hs:=yf h0;have e1:(pk T i).1=1:=congrArg (λx:V7=>x.1) hs;have e2:(pk T i).2.1=w:=congrArg (λx:V7=>x.2.1) hs;rw[a4o];unfold eU;rw[Ej h0,o9,Bo,o9];simp only[e1,e2,show Md 1=0 from rfl,J4 (rfl:(0:Int)=0),F5,o5,I9 (show(1:Int)≠5 by omega)];rw[EG h0,o9,show(l9 (D5 (hd3 ((1,w,n)::(W++R):List V7)).1 7) (seq (hd3 ((1,w,n)::(W++R):List V7)).2.1 [40]) false)=false from rfl];simp only[o5,J4 (rfl:(1:Int)=1),F5];rw[Z8 l7];simp only[aB];cases hc:jm w<;>rfl
theorem a9p :AOk T E N (m+1) [(1,[116,114,117,101],n)] [(1,1)] R:=by intro i nd hAt hn;simp only[D9,H6]at hn;rw[Pg (W:=[]) hAt,show seq ([116,114,117,101]:List UInt8) [116,114,117,101]=true from rfl,o7,nH l7];rfl
theorem a6b :AOk T E N (m+1) [(1,[102,97,108,115,101],n)] [(1,0)] R:=by intro i nd hAt hn;simp only[D9,H6]at hn;rw[Pg (W:=[]) hAt,show seq ([102,97,108,115,101]:List UInt8) [116,114,117,101]=false from rfl,o5,show seq ([102,97,108,115,101]:List UInt8) [102,97,108,115,101]=true from rfl,o7,nH l7];rfl
theorem a6d :AOk T E N (m+1) [(1,[116,111,100,97,121],n)] [(9,0)] R:=by intro i nd hAt hn;simp only[D9,H6]at hn;rw[Pg (W:=[]) hAt,show seq ([116,111,100,97,121]:List UInt8) [116,114,117,101]=false from rfl,o5,show seq ([116,111,100,97,121]:List UInt8) [102,97,108,115,101]=false from rfl,o5,show seq ([116,111,100,97,121]:List UInt8) [116,111,100,97,121]=true from rfl,o7,nH l7];rfl
theorem UE{i:Nat}{nd:List (Int×Int)}(h0:At3 T i ((1,w,n)::(W++R)))(hw:lL w=true):(o8 (m+1)).2.2.2.1 (pS T E N i nd)=aZ (pS T E N i nd):=by rw[Pg h0,Zg hw (by decide+kernel),o5,Zg hw (by decide+kernel),o5,Zg hw (by decide+kernel),o5,a1r hw,o9,J4 rfl];rfl
theorem b5M(hN:NmD N)(hv:X0 N.2.2.1 v=some (gtN N.2.2.1 v))(hR:Cm R):AOk T E N (m+1) [(1,gtN N.2.2.1 v,0)] [(7,v)] R:=by intro i nd hAt hn;simp only[D9,H6]at hn;obtain⟨h1,h2,h3⟩:=Ai hv;have hw:=hN.id.i _ h3;rw[UE (W:=[]) hAt hw,a6I l7 hAt hR hw (by have:=hN.le;omega) ⟨h1,hN.i _ _ h1⟩,h2];rfl
theorem b1D(hN:NmD N)(hv:X0 N.2.2.2.1 v=some (gtN N.2.2.2.1 v))(hR:Cm R):AOk T E N (m+1) [(1,gtN N.2.2.2.1 v,0)] [(8,v)] R:=by intro i nd hAt hn;simp only[D9,H6]at hn;obtain⟨h1,h2,h3⟩:=Ai hv;have hw:=hN.id.d _ h3;rw[UE (W:=[]) hAt hw,a3L l7 hAt hR hw (by have:=hN.le;omega) (by have:=hN.le;omega) (hN.d _ _ h1).2 ⟨h1,(hN.d _ _ h1).1⟩,h2];rfl
theorem a9o(hN:NmD N)(hI:fJ v)(hz:flS (6,v) N=0) :AOk T E N (m+1) [(1,((X0 N.1 (dX .i64 v 16)).getD ([],[])).1,0),(7,[58],0),(1,gtN ((X0 N.1 (dX .i64 v 16)).getD ([],[])).2 (iY v 16),0)] [(6,v)] R:=by intro i nd hAt hn;simp only[D9,H6]at hn;obtain⟨e,h1,h2,q1,q2,q3,q4⟩:=UX hI hz;rw[h1]at hAt ⊢;simp only[bF]at hAt ⊢;obtain⟨a1,a2,a3⟩:=Ai h1;obtain⟨b1,b2,b3⟩:=Ai h2;obtain⟨c1,c2,c3⟩:=hN.e _ _ a1;have hw:=(hN.id.e _ a3).1;have hv:=(hN.id.e _ a3).2 _ b3;rw[UE (W:=[(7,[58],0),(1,gtN e.2 (iY v 16),0)]) hAt hw,a1N l7 hAt hw hv (by have:=hN.le;omega) a1 rfl c1 l7 ⟨b1,c3 _ _ b1⟩,a2,b2,←q4];rfl
def Py(k:Int):Prop:=k=14\/k=15\/k=16\/k=17\/k=18\/k=27\/k=28\/k=29\/k=30\/k=31\/k=32\/k=33\/k=34\/k=35\/k=36\/k=37\/k=38\/k=39
theorem UD(hk:Py k)(h:COk T E N m k W P ((7,[41],0)::R)):AOk T E N (m+1) ((1,dB k,0)::(7,[40],0)::(W++[(7,[41],0)])) P R:=by
 intro i nd hAt hn;have h0:At3 T i ((1,dB k,0)::((7,[40],0)::(W++[(7,[41],0)])++R)):=hAt;have h2:At3 T (i+1) ((7,[40],0)::(W++((7,[41],0)::R))):=by have:=eY h0;have e:((7,[40],0)::(W++[(7,[41],0)])++R)=((7,[40],0):V7)::(W++((7,[41],0)::R)):=A7;rw[←e];exact this
 have hne:seq (dB k) [116,114,117,101]=false/\seq (dB k) [102,97,108,115,101]=false/\seq (dB k) [116,111,100,97,121]=false/\D5 k 0=false:=by rcases hk with rfl|rfl|rfl|rfl|rfl|rfl|rfl|rfl|rfl|rfl|rfl|rfl|rfl|rfl|rfl|rfl|rfl|rfl<;>exact⟨rfl,rfl,rfl,rfl⟩
 rw[Pg h0,hne.1,hne.2.1,hne.2.2.1,o5,o5,o5,a1q hk,o9,hne.2.2.2,P7,o7];rw[vN h2,o9];simp only[o7];rw[h (i+1+1) nd (eY h2) hn,o9];simp only[o7];rw[vN (ui (eY h2)),o9];have e3:i+1+1+W.length+1=i+((1,dB k,0)::(7,[40],0)::(W++[(7,[41],0)]):List V7).length:=by simp;omega
 rw[e3]
theorem a6k :COk T E N (m+1) 35 [] [(35,0)] R:=by intro i nd hAt hn;simp only[D9,H6]at hn;rw[XB];unfold aK;simp (disch:=decide) only[J4,o7];rw[nH l7,o9];rfl
theorem b1O(hN:NmD N)(hk:k=36\/k=37\/k=38\/k=39)(hv:X0 N.2.2.2.2 v=some (gtN N.2.2.2.2 v)) :COk T E N (m+1) k [(1,gtN N.2.2.2.2 v,0)] [(k,v)] R:=by
 intro i nd hAt hn;simp only[D9,H6]at hn;obtain⟨h1,h2,h3⟩:=Ai hv;have hf:=JG (E:=E) (N:=N) (nd:=nd) hAt (hN.id.m _ h3) (l:=N.2.2.2.2) (by have:=hN.le;omega) ⟨h1,hN.m _ _ h1⟩;rw[h2]at hf;rw[XB];unfold aK;have e:(l9 (D5 k 36) (some (D5 k 36)) (l9 (D5 k 37) (some (D5 k 37)) (l9 (D5 k 38) (some (D5 k 38)) (some (D5 k 39)))))=some true:=by rcases hk with rfl|rfl|rfl|rfl<;>rfl
 rw[I9 (show k≠35 by omega),o5,e];simp only[o9,o7];rw[hf,o9];simp only[o7];rw[nH l7,o9];rfl
theorem b1Q(hN:NmD N)(hv:X0 N.2.1 v=some (gtN N.2.1 v))(h:EOk T E N m W P R):COk T E N (m+1) 33 ((1,gtN N.2.1 v,0)::(7,[44],0)::W) (P++[(33,v)]) R:=by
 intro i nd hAt hn;simp only[E8,D9,H6]at hn;obtain⟨h1,h2,h3⟩:=Ai hv;have h0:At3 T i ((1,gtN N.2.1 v,0)::(7,[44],0)::(W++R)):=hAt;have hf:=JG (E:=E) (N:=N) (nd:=nd) h0 (hN.id.t _ h3) (l:=N.2.1) (by have:=hN.le;omega) ⟨h1,hN.t _ _ h1⟩;rw[h2]at hf;rw[XB];unfold aK;simp (disch:=decide) only[J4,I9,o7,o5,o9];rw[hf,o9];simp only[F5,o5];rw[vN (eY h0),o9];simp only[F5,o5];rw[h (i+1+1) nd (eY (eY h0)) l7,o9];simp only[F5,o5];rw[nH F9,o9,o9,jg];have e3:i+1+1+W.length=i+((1,gtN N.2.1 v,0)::(7,[44],0)::W:List V7).length:=by simp;omega
 rw[e3,E9]
theorem a9w(hN:NmD N)(hI:fJ v)(hz:flS (34,v) N=0)(h:EOk T E N m W P ((7,[44],0)::(1,jW (iY v 8),0)::R)):
  COk T E N (m+1) 34 ((1,gtN N.2.1 (dX .i64 v 8),0)::(7,[44],0)::(W++[(7,[44],0),(1,jW (iY v 8),0)])) (P++[(34,v)]) R:=by
 intro i nd hAt hn;simp only[E8,D9,H6]at hn;obtain⟨hv,g1,g2⟩:=Z_ hI hz;obtain⟨h1,h2,h3⟩:=Ai hv;have h0:At3 T i ((1,gtN N.2.1 (dX .i64 v 8),0)::(7,[44],0)::(W++((7,[44],0)::(1,jW (iY v 8),0)::R))):=by have e:((1,gtN N.2.1 (dX .i64 v 8),0)::(7,[44],0)::(W++[(7,[44],0),(1,jW (iY v 8),0)]))++R=((1,gtN N.2.1 (dX .i64 v 8),0):V7)::(7,[44],0)::(W++((7,[44],0)::(1,jW (iY v 8),0)::R)):=A7;rw[←e];exact hAt
 have hf:=JG (E:=E) (N:=N) (nd:=nd) h0 (hN.id.t _ h3) (l:=N.2.1) (by have:=hN.le;omega) ⟨h1,hN.t _ _ h1⟩;rw[h2]at hf;have hq:v=8*dX .i64 v 8+iY v 8:=by
  have hv0:0<=v:=by
   unfold flS at hz;rw[show Z5 (34,v) N=l9 (I8 v 0) (some 6) (l9 (V6 (x9 N.2.1) (dX .i64 v 8)) (some 6) (l9 (I8 5 (iY v 8)) (some 3) (some 0)))from rfl]at hz;rcases Int.lt_or_le v 0 with h|h
   .rw[Y0 h]at hz;cases hz
   .exact h
  rw[Ky hI 8 (.inl rfl),nz hv0,yU hv0];omega
 have hql:=(iQ hv).2.1;have hle:=hN.le;unfold x9 at hql;have h4:=ui (eY (eY h0));rw[XB];unfold aK;simp (disch:=decide) only[J4,I9,o7,o5,o9];rw[hf,o9];simp only[F5,o5];rw[vN (eY h0),o9];simp only[F5,o5];rw[h (i+1+1) nd (eY (eY h0)) l7,o9];simp only[F5,o5];rw[vN h4,o9];simp only[F5,o5];rw[a0v (eY h4) ⟨g1,g2⟩,o9];simp only[o7];rw[EY af,aA af,←hq,nH F9,o9,o9,jg];have e3:i+1+1+W.length+1+1=i+((1,gtN N.2.1 (dX .i64 v 8),0)::(7,[44],0)::(W++[(7,[44],0),(1,jW (iY v 8),0)]):List V7).length:=by simp;omega
 rw[e3,E9]
theorem a8b(hk:k=31\/k=32)(h:EOk T E N m W P R):COk T E N (m+1) k W (P++[(k,0)]) R:=by
 intro i nd hAt hn;simp only[E8,D9,H6]at hn;rw[XB];unfold aK;rcases hk with rfl|rfl
 all_goals
  simp (disch:=decide) only[J4,I9,o7,o5,o9,J7];rw[h i nd hAt l7,o9];simp only[F5,o5];rw[nH F9,o9,E9]
theorem b1S(hk:k=17\/k=18\/k=27\/k=28\/k=29\/k=30){A B:List V7}{PA PB:List (Int×Int)}(hA:EOk T E N m A PA ((7,[44],0)::(B++R)))(hB:EOk T E N m B PB R):COk T E N (m+1) k (A++(7,[44],0)::B) (PA++PB++[(k,0)]) R:=by
 intro i nd hAt hn;simp only[E8,D9,H6]at hn;have h0:At3 T i (A++((7,[44],0)::(B++R))):=by rw[E9]at hAt;exact hAt
 have e3:i+A.length+1+B.length=i+(A++(7,[44],0)::B:List V7).length:=by simp;omega
 have e4:nd++PA++PB++[(k,0)]=nd++(PA++PB++[(k,0)]):=A7;rw[XB];unfold aK;rcases hk with rfl|rfl|rfl|rfl|rfl|rfl
 all_goals
  simp (disch:=decide) only[J4,I9,o7,o5,o9,J7];rw[hA i nd h0 l7,o9];simp only[F5,o5];rw[vN (ui h0),o9];simp only[F5,o5];rw[hB (i+A.length+1) (nd++PA) (eY (ui h0)) F9,o9];simp only[F5,o5];rw[nH F9,o9,e3,e4]
theorem b1P(hk:k=14\/k=15\/k=16)(hv:0<=v/\v<=5){A B:List V7}{PA PB:List (Int×Int)} (hA:EOk T E N m A PA ((7,[44],0)::(B++((7,[44],0)::(1,jW v,0)::R)))) (hB:EOk T E N m B PB ((7,[44],0)::(1,jW v,0)::R)):
  COk T E N (m+1) k (A++(7,[44],0)::(B++[(7,[44],0),(1,jW v,0)])) (PA++PB++[(k,v)]) R:=by
 intro i nd hAt hn;simp only[E8,D9,H6]at hn;have h0:At3 T i (A++((7,[44],0)::(B++((7,[44],0)::(1,jW v,0)::R)))):=by have e:(A++(7,[44],0)::(B++[(7,[44],0),(1,jW v,0)]))++R=A++((7,[44],0)::(B++((7,[44],0)::(1,jW v,0)::R)):List V7):=A7;rw[←e];exact hAt
 have h4:=ui (eY (ui h0));have e3:i+A.length+1+B.length+1+1=i+(A++(7,[44],0)::(B++[(7,[44],0),(1,jW v,0)]):List V7).length:=by simp;omega
 have e4:nd++PA++PB++[(k,v)]=nd++(PA++PB++[(k,v)]):=A7;rw[XB];unfold aK;rcases hk with rfl|rfl|rfl
 all_goals
  simp (disch:=decide) only[J4,I9,o7,o5,o9,J7];rw[hA i nd h0 l7,o9];simp only[F5,o5];rw[vN (ui h0),o9];simp only[F5,o5];rw[hB (i+A.length+1) (nd++PA) (eY (ui h0)) F9,o9];simp only[F5,o5];rw[vN h4,o9];simp only[F5,o5];rw[a0v (eY h4) hv,o9];simp only[o7];rw[nH F9,o9,e3,e4]
end
end
section
def gT(c:Int):Int:=l9 (V6 6 c) 5 (l9 (D5 c 3) 2 c)
def tkT(N:D7)(t:XT):List V7:=uY (itT N t)
def tkW(N:D7)(t:XT)(c:Int):List V7:=uY (wiI (itT N t) (txT N t).2 c)
theorem RP(N:D7)(t:XT)(c:Int):tkW N t c=l9 (I8 (txT N t).2 c) ((7,[40],0)::(tkT N t++[(7,[41],0)])) (tkT N t):=by
 unfold tkW tkT wiI;cases I8 (txT N t).2 c
 .rfl
 .simp only[o7];rw[fH,fH];rfl
structure TrOk (T:List U7) (E:Int) (N:D7) (t:XT):Prop where
 ne:tkT N t≠[]
 nif:1<=(txT N t).2->¬((hd3 (tkT N t)).1=1/\(hd3 (tkT N t)).2.1=[105,102])
 neg:6<=(txT N t).2->yB t.node.1=false->Md (hd3 (tkT N t)).1=0
 U:6<=(txT N t).2->∀R,Cm R->∀m,10*t.size<=m->UOk T E N m (tkT N t) t.post R
 L:(txT N t).2<=5->∀R,CE R ((txT N t).2+1)->∀c,1<=c->c<=(txT N t).2->∀m,10*t.size<=m->LOk T E N m c (tkT N t) t.post (gT (txT N t).2) R
 E:∀R,CE R 1->∀m,10*t.size+2<=m->EOk T E N m (tkT N t) t.post R
variable {t:XT}{R:List V7}{m:Nat}{c:Int}
section
variable {T:List U7} {E:Int} {N:D7}
theorem Jk{c d:Int}(h:CE R c)(hcd:c<=d):CE R d:=by
 rcases h with h|⟨k,h1,h2,h3⟩
 .exact .inl h
 .exact .inr ⟨k,h1,h2,l7⟩
theorem KI(R:List V7)(c:Int):CE ((7,[41],0)::R) c:=.inl (.inr (.inl rfl))
theorem OO(R:List V7)(c:Int):CE ((7,[44],0)::R) c:=.inl (.inr (.inr (.inl rfl)))
theorem b6f(h:TrOk T E N t)(h1:1<=c)(h2:c<=(txT N t).2)(hR:Cm R)(hR2:(txT N t).2<=5->CE R ((txT N t).2+1))(hm:10*t.size<=m):LOk T E N m c (tkT N t) t.post (gT (txT N t).2) R:=by
 by_cases h6:6<=(txT N t).2
 .have:gT (txT N t).2=5:=by unfold gT;rw[X9 h6];rfl
  rw[this];exact r_ c (h.U h6 R hR m hm)
 .exact h.L l7 R (hR2 l7) c h1 h2 m hm
theorem b5C(ne:tkT N t≠[])(nif:¬((hd3 (tkT N t)).1=1/\(hd3 (tkT N t)).2.1=[105,102]))(hc:1<=(txT N t).2)(hR:CE R 1)(hm:2<=m)(hL:LOk T E N (m -2) 1 (tkT N t) t.post (gT (txT N t).2) R):EOk T E N m (tkT N t) t.post R:=by obtain⟨m,rfl⟩:∃q,m=q+2:=⟨m -2,l7⟩;exact a9t (a3x hL hR) ne nif
theorem Vt(h:TrOk T E N t)(hm:10*t.size+4<=m):UOk T E N m ((7,[40],0)::(tkT N t++[(7,[41],0)])) t.post R:=by obtain⟨m,rfl⟩:∃q,m=q+2:=⟨m -2,l7⟩;exact a2L (a6c (h.E _ (KI R 1) m l7)) A7 (by rintro⟨-,h⟩;cases h) (by rintro⟨h,-⟩;cases h)
theorem b5L(h:TrOk T E N t)(hR:Cm R)(hm:10*t.size+4<=m):UOk T E N m (tkW N t 6) t.post R:=by
 rw[RP];by_cases h6:6<=(txT N t).2
 .rw[O6 h6,o5];exact h.U h6 R hR m l7
 .rw[Y0 l7,o7];exact Vt h hm
theorem b5K(h:TrOk T E N t){c c' :Int}(h1:1<=c)(h2:c<=c')(hR:Cm R)(hR2:CE R (c' +1))(hm:10*t.size+4<=m):∃g,LOk T E N m c (tkW N t c') t.post g R/\(g=5\/(c' <=(txT N t).2/\(txT N t).2<=5/\g=gT (txT N t).2)):=by
 rw[RP];by_cases h6:c' <=(txT N t).2
 .rw[O6 h6,o5];refine⟨_,b6f h h1 l7 hR (λ_=>Jk hR2 l7) l7,?_⟩;by_cases h7:6<=(txT N t).2
  .left;unfold gT;rw[X9 h7];rfl
  .right;exact⟨h6,l7,rfl⟩
 .rw[Y0 l7,o7];exact⟨5,r_ c (Vt h hm),.inl rfl⟩
theorem b6h(h:TrOk T E N t)(h1:1<=c)(hR:CE R c)(hm:10*t.size+5<=m):a6a T E N m c (tkW N t c) t.post R:=by obtain⟨m,rfl⟩:∃q,m=q+1:=⟨m -1,l7⟩;obtain⟨g,hg,-⟩:=b5K h h1 (oQ c) (a0J hR) (Jk hR l7) (m:=m) l7;exact a3x hg hR
theorem a5Q(t:XT)(h:TrOk T E N t)(c:Int):tkW N t c≠[]:=by
 rw[RP];cases I8 (txT N t).2 c
 .exact h.ne
 .simp[l9]
theorem OU(ne:tkT N t≠[])(nif:¬((hd3 (tkT N t)).1=1/\(hd3 (tkT N t)).2.1=[105,102]))(hc:6<=(txT N t).2)(neg:yB t.node.1=false->Md (hd3 (tkT N t)).1=0)(U:∀R,Cm R->∀m,10*t.size<=m->UOk T E N m (tkT N t) t.post R):TrOk T E N t:=by
 have hg:gT (txT N t).2=5:=by unfold gT;rw[X9 hc];rfl
 refine⟨ne,λ_=>nif,λ_=>neg,λ_=>U,λh=>by omega,λR hR m hm=>b5C ne nif l7 hR l7 ?_⟩;rw[hg];exact r_ 1 (U R (a0J hR) (m -2) l7)
theorem zI(ne:tkT N t≠[])(nif:¬((hd3 (tkT N t)).1=1/\(hd3 (tkT N t)).2.1=[105,102]))(n1:¬((hd3 (tkT N t)).1=7/\(hd3 (tkT N t)).2.1=[45]))(n2:¬((hd3 (tkT N t)).1=1/\(hd3 (tkT N t)).2.1=[110,111,116]))(hc:6<=(txT N t).2)(neg:yB t.node.1=false->Md (hd3 (tkT N t)).1=0)
  (A:∀R,Cm R->∀m,10*t.size<=m+1->AOk T E N m (tkT N t) t.post R):TrOk T E N t:=by
 refine OU ne nif hc neg (λR hR m hm=>?_);have hp:=t.size_pos;obtain⟨m,rfl⟩:∃q,m=q+1:=⟨m -1,l7⟩;exact a2L (A R hR m l7) ne n1 n2
theorem a8i{w:List UInt8}{n:Int}{L:List V7}(hw:lL w=true):¬((hd3 ((1,w,n)::L)).1=1/\(hd3 ((1,w,n)::L)).2.1=[105,102])/\¬((hd3 ((1,w,n)::L)).1=7/\(hd3 ((1,w,n)::L)).2.1=[45])/\¬((hd3 ((1,w,n)::L)).1=1/\(hd3 ((1,w,n)::L)).2.1=[110,111,116]):=by
 refine⟨?_,?_,?_⟩
 .rintro⟨-,h⟩;exact a0g hw (by decide+kernel) h
 .rintro⟨h,-⟩;exact absurd (show(1:Int)=7 from h) F6
 .rintro⟨-,h⟩;exact a0g hw (by decide+kernel) h
theorem a7N(hN:NmD N){n:Int×Int}(ha:arF n.1=0)(hI:fJ n.2)(hz:flS n N=0):TrOk T E N (.l0 n):=by
 obtain⟨k,v⟩:=n;have ident:∀w:List UInt8,tkT N (.l0 (k,v))=[(1,w,0)]->lL w=true->6<=(txT N (.l0 (k,v))).2->(∀R,Cm R->∀m,AOk T E N (m+1) [(1,w,0)] [(k,v)] R)->TrOk T E N (.l0 (k,v)):=by intro w e hw hc hA;obtain⟨i1,i2,i3⟩:=a8i (n:=0) (L:=[]) hw;refine zI (by rw[e];simp) (by rw[e];exact i1) (by rw[e];exact i2) (by rw[e];exact i3) hc (λ_=>by rw[e];rfl) (λR hR m hm=>?_);simp only[XT.size]at hm;obtain⟨m,rfl⟩:∃q,m=q+1:=⟨m -1,l7⟩;rw[e];exact hA R hR m
 have word:∀w:List UInt8,tkT N (.l0 (k,v))=[(1,w,0)]->(w=[116,114,117,101]\/w=[102,97,108,115,101]\/w=[116,111,100,97,121])->6<=(txT N (.l0 (k,v))).2->(∀R m,AOk T E N (m+1) [(1,w,0)] [(k,v)] R)->TrOk T E N (.l0 (k,v)):=by
  intro w e hw hc hA;have hh:hd3 (tkT N (.l0 (k,v)))=(1,w,0):=by rw[e];rfl
  refine zI (by rw[e];simp) (by rw[hh];rcases hw with rfl|rfl|rfl<;>decide) (by rw[hh];rcases hw with rfl|rfl|rfl<;>decide) (by rw[hh];rcases hw with rfl|rfl|rfl<;>decide) hc (λ_=>by rw[hh];rfl) (λR hR m hm=>?_);simp only[XT.size]at hm;obtain⟨m,rfl⟩:∃q,m=q+1:=⟨m -1,l7⟩;rw[e];exact hA R m
 have num:(k=2\/k=3\/k=4)->-1000000000000000000<=v/\v<=1000000000000000000->TrOk T E N (.l0 (k,v)):=by
  intro hk hb;have e0:tkT N (.l0 (k,v))=l9 (I8 v 0) [(7,[45],0),(k,Ht k v.natAbs,(v.natAbs:Int))] [(k,Ht k v.natAbs,(v.natAbs:Int))]:=by
   have:itT N (.l0 (k,v))=Oj k v:=by show Fb (k,v) N=_;unfold Fb;rw[X9 (show k<=5 by omega)];rfl
   unfold tkT;rw[this];unfold Oj;rw[I9 (show k≠1 by omega),I9 (show k≠5 by omega)];cases I8 v 0<;>rfl
  have hc:6<=(txT N (.l0 (k,v))).2:=by show 6<=(sZ (k,v) N).2;unfold sZ;rw[X9 (show k<=5 by omega),o7];cases I8 v 0<;>simp[l9]
  have hnum:yB k=true:=by rcases hk with rfl|rfl|rfl<;>rfl
  by_cases h0:v<0
  .rw[Y0 h0,o7]at e0;refine OU (by rw[e0];simp) (by rw[e0];rintro⟨h,-⟩;exact absurd (show(7:Int)=1 from h) F6) hc (λh=>by rw[show(XT.l0 (k,v)).node.1=k from rfl,hnum]at h;cases h) (λR hR m hm=>?_);simp only[XT.size]at hm;obtain⟨m,rfl⟩:∃q,m=q+1:=⟨m -1,l7⟩;rw[e0];have:=a5V (T:=T) (E:=E) (N:=N) (m:=m) (w:=Ht k v.natAbs) (u:=(v.natAbs:Int)) (R:=R) hk l7;rw[show(-(v.natAbs:Int))=v by omega]at this;exact this
  .rw[O6 l7,o5]at e0;have hh:hd3 (tkT N (.l0 (k,v)))=(k,Ht k v.natAbs,(v.natAbs:Int)):=by rw[e0];rfl
   refine zI (by rw[e0];simp) (by rw[hh];rintro⟨h,-⟩;simp only at h;omega) (by rw[hh];rintro⟨h,-⟩;simp only at h;omega) (by rw[hh];rintro⟨h,-⟩;simp only at h;omega) hc (λh=>by rw[show(XT.l0 (k,v)).node.1=k from rfl,hnum]at h;cases h) (λR hR m hm=>?_);simp only[XT.size]at hm;obtain⟨m,rfl⟩:∃q,m=q+1:=⟨m -1,l7⟩;rw[e0];have:=b1E (T:=T) (E:=E) (N:=N) (m:=m) (w:=Ht k v.natAbs) (u:=(v.natAbs:Int)) (R:=R) hk;rw[show((v.natAbs:Nat):Int)=v by omega]at this ⊢;exact this
 have call:(k=36\/k=37\/k=38\/k=39)->TrOk T E N (.l0 (k,v)):=by
  intro hk;have hg:X0 N.2.2.2.2 v=some (gtN N.2.2.2.2 v):=by rcases hk with rfl|rfl|rfl|rfl<;>exact Bi rfl hz
  have e:tkT N (.l0 (k,v))=(1,dB k,0)::(7,[40],0)::([(1,gtN N.2.2.2.2 v,0)]++[(7,[41],0)]):=by rcases hk with rfl|rfl|rfl|rfl<;>rfl
  have hc:6<=(txT N (.l0 (k,v))).2:=by rcases hk with rfl|rfl|rfl|rfl<;>exact(show(6:Int)<=7 by decide)
  have hh:hd3 (tkT N (.l0 (k,v)))=(1,dB k,0):=by rw[e];rfl
  refine zI (by rw[e];simp) (by rw[hh];rcases hk with rfl|rfl|rfl|rfl<;>decide) (by rw[hh];rcases hk with rfl|rfl|rfl|rfl<;>decide) (by rw[hh];rcases hk with rfl|rfl|rfl|rfl<;>decide) hc (λ_=>by rw[hh];rfl) (λR hR m hm=>?_);simp only[XT.size]at hm;obtain⟨m,rfl⟩:∃q,m=q+2:=⟨m -2,l7⟩;rw[e];exact UD (by unfold Py;omega) (b1O hN hk hg)
 rcases ar0 ha with rfl|rfl|rfl|rfl|rfl|rfl|rfl|rfl|rfl|rfl|rfl|rfl|rfl|rfl
 .have hb:=Cf (k:=1) l7 rfl hz;rcases(show v=0\/v=1 by omega)with rfl|rfl
  .exact word [102,97,108,115,101] rfl A7 (show(6:Int)<=7 by decide) (λR m=>a6b)
  .exact word [116,114,117,101] rfl A7 (show(6:Int)<=7 by decide) (λR m=>a9p)
 .have hb:=Cf (k:=2) l7 rfl hz;exact num l7 l7
 .have hb:=Cf (k:=3) l7 rfl hz;exact num l7 l7
 .have hb:=Cf (k:=4) l7 rfl hz;exact num l7 l7
 .have hb:=Cf (k:=5) l7 rfl hz;have e0:tkT N (.l0 (5,v))=[(5,lJ v,v)]:=rfl;have hh:hd3 (tkT N (.l0 (5,v)))=(5,lJ v,v):=rfl;have hc:6<=(txT N (.l0 (5,v))).2:=by
   show 6<=(l9 (I8 v 0) 6 7:Int);cases I8 v 0<;>simp[l9]
  refine zI (by rw[e0];simp) (by rw[hh];rintro⟨h,-⟩;exact absurd (show(5:Int)=1 from h) F6) (by rw[hh];rintro⟨h,-⟩;exact absurd (show(5:Int)=7 from h) F6) (by rw[hh];rintro⟨h,-⟩;exact absurd (show(5:Int)=1 from h) F6) hc (λ_=>by rw[hh];rfl) (λR hR m hm=>?_);simp only[XT.size]at hm;obtain⟨m,rfl⟩:∃q,m=q+1:=⟨m -1,l7⟩;rw[e0];exact a9n
 .obtain⟨e,h1,h2,q1,q2,q3,q4⟩:=UX hI hz;have ee:=hN.id.e e (xu h1);have e0:tkT N (.l0 (6,v))=[(1,((X0 N.1 (dX .i64 v 16)).getD ([],[])).1,0),(7,[58],0),(1,gtN ((X0 N.1 (dX .i64 v 16)).getD ([],[])).2 (iY v 16),0)]:=rfl;have hw:lL ((X0 N.1 (dX .i64 v 16)).getD ([],[])).1=true:=by rw[h1];exact ee.1
  obtain⟨i1,i2,i3⟩:=a8i (n:=0) (L:=[(7,[58],0),(1,gtN ((X0 N.1 (dX .i64 v 16)).getD ([],[])).2 (iY v 16),0)]) hw;refine zI (by rw[e0];simp) (by rw[e0];exact i1) (by rw[e0];exact i2) (by rw[e0];exact i3) (show(6:Int)<=7 by decide) (λ_=>by rw[e0];rfl) (λR hR m hm=>?_);simp only[XT.size]at hm;obtain⟨m,rfl⟩:∃q,m=q+1:=⟨m -1,l7⟩;rw[e0];exact a9o hN hI hz
 .have hg:=Bi (n:=(7,v)) (l:=N.2.2.1) rfl hz;exact ident (gtN N.2.2.1 v) rfl (hN.id.i _ (xu hg)) (show(6:Int)<=7 by decide) (λR hR m=>b5M hN hg hR)
 .have hg:=Bi (n:=(8,v)) (l:=N.2.2.2.1) rfl hz;exact ident (gtN N.2.2.2.1 v) rfl (hN.id.d _ (xu hg)) (show(6:Int)<=7 by decide) (λR hR m=>b1D hN hg hR)
 .have hv:v=0:=by
   unfold flS at hz;rw[show Z5 (9,v) N=l9 (H9 (D5 v 0)) (some 2) (some 0)from rfl]at hz;by_cases h:v=0
   .exact h
   .rw[I9 h]at hz;cases hz
  subst hv;exact word [116,111,100,97,121] rfl A7 (show(6:Int)<=7 by decide) (λR m=>a6d)
 .have hv:v=0:=by
   unfold flS at hz;rw[show Z5 (35,v) N=l9 (H9 (D5 v 0)) (some 2) (some 0)from rfl]at hz;by_cases h:v=0
   .exact h
   .rw[I9 h]at hz;cases hz
  subst hv;have e:tkT N (.l0 (35,0))=(1,dB 35,0)::(7,[40],0)::([]++[(7,[41],0)]):=rfl;have hh:hd3 (tkT N (.l0 (35,0)))=(1,dB 35,0):=rfl;refine zI (by rw[e];simp) (by rw[hh];decide) (by rw[hh];decide) (by rw[hh];decide) (show(6:Int)<=7 by decide) (λ_=>by rw[hh];rfl) (λR hR m hm=>?_);simp only[XT.size]at hm;obtain⟨m,rfl⟩:∃q,m=q+2:=⟨m -2,l7⟩;rw[e];exact UD (by unfold Py;omega) a6k
 .exact call l7
 .exact call l7
 .exact call l7
 .exact call l7
end
end
section
variable {N:D7}
theorem JH{k v:Int}(ha:0<=arF k)(hu:cu k=some false)(h:flS (k,v) N=0):v=0:=by
 by_cases h0:v=0
 .exact h0
 .have:=Za (a8q (N:=N) ha h0 hu);rw[h]at this;cases this
variable {n:Int×Int}{a:XT}
section
variable {T:List U7} {E:Int} {N:D7}
theorem b1u(hN:NmD N)(ha:arF n.1=1)(hI:fJ n.2)(hz:flS n N=0)(h:TrOk T E N a):TrOk T E N (.l1 n a):=by
 obtain⟨k,v⟩:=n;have hsz:(XT.l1 (k,v) a).size=a.size+1:=rfl;have call:∀(W:List V7),Py k->tkT N (.l1 (k,v) a)=(1,dB k,0)::(7,[40],0)::(W++[(7,[41],0)])->6<=(txT N (.l1 (k,v) a)).2->(∀m,10*a.size+3<=m->∀R,COk T E N m k W (a.post++[(k,v)]) ((7,[41],0)::R))->TrOk T E N (.l1 (k,v) a):=by
  intro W hk e hc hC;have hh:hd3 (tkT N (.l1 (k,v) a))=(1,dB k,0):=by rw[e];rfl
  refine zI (by rw[e];simp) ?_ ?_ ?_ hc (λ_=>by rw[hh];rfl) (λR hR m hm=>?_)
  .rw[hh];rcases hk with rfl|rfl|rfl|rfl|rfl|rfl|rfl|rfl|rfl|rfl|rfl|rfl|rfl|rfl|rfl|rfl|rfl|rfl<;>decide
  .rw[hh];rintro⟨h,-⟩;exact absurd (show(1:Int)=7 from h) F6
  .rw[hh];rcases hk with rfl|rfl|rfl|rfl|rfl|rfl|rfl|rfl|rfl|rfl|rfl|rfl|rfl|rfl|rfl|rfl|rfl|rfl<;>decide
  .rw[hsz]at hm;obtain⟨m,rfl⟩:∃q,m=q+1:=⟨m -1,l7⟩;rw[e];exact UD hk (hC m l7 R)
 have v0:(k=10\/k=25\/k=31\/k=32)->v=0:=by intro hk;refine JH (k:=k) (by rw[show arF k=1 from ha];decide) ?_ hz;rcases hk with rfl|rfl|rfl|rfl<;>decide
 rcases ar1 ha with rfl|rfl|rfl|rfl|rfl|rfl
 .rw[v0 l7]at hz hsz call ⊢;have e:tkT N (.l1 (10,0) a)=(7,[45],0)::l9 (yB a.node.1) ((7,[40],0)::(tkT N a++[(7,[41],0)])) (tkW N a 6):=by
   have:tkT N (.l1 (10,0) a)=uY ([sy 45]++l9 (yB a.node.1) ([sy 40]++itT N a++[sy 41]) (wiI (itT N a) (txT N a).2 6)):=rfl;rw[this,fH];cases yB a.node.1
   .rfl
   .simp only[o7];rw[fH,fH];rfl
  refine OU (by rw[e];simp) (by rw[e];rintro⟨h,-⟩;exact absurd (show(7:Int)=1 from h) F6) (show(6:Int)<=6 by decide) (λ_=>by rw[e];rfl) (λR hR m hm=>?_);rw[hsz]at hm;obtain⟨m,rfl⟩:∃q,m=q+1:=⟨m -1,l7⟩;rw[e];cases hnb:yB a.node.1
  .refine a9i (b5L h hR l7) (a5Q a h 6) ?_;rw[RP];by_cases h6:6<=(txT N a).2
   .rw[O6 h6,o5];exact h.neg h6 hnb
   .rw[Y0 l7];rfl
  .exact a9i (Vt h l7) (by simp[l9]) rfl
 .rw[v0 l7]at hz hsz call ⊢;have e:tkT N (.l1 (25,0) a)=(1,[110,111,116],0)::tkW N a 6:=by
   have:tkT N (.l1 (25,0) a)=uY ([nm [110,111,116],none]++wiI (itT N a) (txT N a).2 6):=rfl;rw[this,fH];rfl
  refine OU (by rw[e];simp) (by rw[e];rintro⟨-,h⟩;exact absurd (show([110,111,116]:List UInt8)=[105,102]from h) F6) (show(6:Int)<=6 by decide) (λ_=>by rw[e];rfl) (λR hR m hm=>?_);rw[hsz]at hm;obtain⟨m,rfl⟩:∃q,m=q+1:=⟨m -1,l7⟩;rw[e];exact b5F (b5L h hR l7)
 .rw[v0 l7]at hz hsz call ⊢;refine call (tkT N a) (by unfold Py;omega) ?_ (show(6:Int)<=7 by decide) (λm hm R=>?_)
  .have:tkT N (.l1 (31,0) a)=uY ([nm (dB 31),sy 40]++itT N a++[sy 41]):=rfl;rw[this,fH,fH];rfl
  .obtain⟨m,rfl⟩:∃q,m=q+1:=⟨m -1,l7⟩;exact a8b l7 (h.E _ (KI R 1) m l7)
 .rw[v0 l7]at hz hsz call ⊢;refine call (tkT N a) (by unfold Py;omega) ?_ (show(6:Int)<=7 by decide) (λm hm R=>?_)
  .have:tkT N (.l1 (32,0) a)=uY ([nm (dB 32),sy 40]++itT N a++[sy 41]):=rfl;rw[this,fH,fH];rfl
  .obtain⟨m,rfl⟩:∃q,m=q+1:=⟨m -1,l7⟩;exact a8b l7 (h.E _ (KI R 1) m l7)
 .have hg:=Bi (n:=(33,v)) (l:=N.2.1) rfl hz;refine call ((1,gtN N.2.1 v,0)::(7,[44],0)::tkT N a) (by unfold Py;omega) ?_ (show(6:Int)<=7 by decide) (λm hm R=>?_)
  .have:tkT N (.l1 (33,v) a)=uY ([nm (dB 33),sy 40,nm (gtN N.2.1 v),sy 44,none]++itT N a++[sy 41]):=rfl;rw[this,fH,fH];rfl
  .obtain⟨m,rfl⟩:∃q,m=q+1:=⟨m -1,l7⟩;exact b1Q hN hg (h.E _ (KI R 1) m l7)
 .refine call ((1,gtN N.2.1 (dX .i64 v 8),0)::(7,[44],0)::(tkT N a++[(7,[44],0),(1,jW (iY v 8),0)])) (by unfold Py;omega) ?_ (show(6:Int)<=7 by decide) (λm hm R=>?_)
  .have:tkT N (.l1 (34,v) a)=uY ([nm (dB 34),sy 40,nm (gtN N.2.1 (dX .i64 v 8)),sy 44,none]++itT N a++[sy 44,none,nm (jW (iY v 8)),sy 41]):=rfl;rw[this,fH,fH];show _::_::(_::_::(uY (itT N a))++[_,_,_])=_;unfold tkT;simp
  .obtain⟨m,rfl⟩:∃q,m=q+1:=⟨m -1,l7⟩;exact a9w hN hI hz (h.E _ (OO _ 1) m l7)
theorem b1v(hN:NmD N){a b:XT}(ha:arF n.1=2)(hI:fJ n.2)(hz:flS n N=0)(h:TrOk T E N a)(g:TrOk T E N b):TrOk T E N (.l2 n a b):=by
 obtain⟨k,v⟩:=n;have hsz:(XT.l2 (k,v) a b).size=a.size+b.size+1:=rfl;have call:∀(W:List V7),Py k->tkT N (.l2 (k,v) a b)=(1,dB k,0)::(7,[40],0)::(W++[(7,[41],0)])->6<=(txT N (.l2 (k,v) a b)).2->(∀m,10*a.size+10*b.size+3<=m->∀R,COk T E N m k W (a.post++b.post++[(k,v)]) ((7,[41],0)::R))->TrOk T E N (.l2 (k,v) a b):=by
  intro W hk e hc hC;have hh:hd3 (tkT N (.l2 (k,v) a b))=(1,dB k,0):=by rw[e];rfl
  refine zI (by rw[e];simp) ?_ ?_ ?_ hc (λ_=>by rw[hh];rfl) (λR hR m hm=>?_)
  .rw[hh];rcases hk with rfl|rfl|rfl|rfl|rfl|rfl|rfl|rfl|rfl|rfl|rfl|rfl|rfl|rfl|rfl|rfl|rfl|rfl<;>decide
  .rw[hh];rintro⟨h,-⟩;exact absurd (show(1:Int)=7 from h) F6
  .rw[hh];rcases hk with rfl|rfl|rfl|rfl|rfl|rfl|rfl|rfl|rfl|rfl|rfl|rfl|rfl|rfl|rfl|rfl|rfl|rfl<;>decide
  .rw[hsz]at hm;obtain⟨m,rfl⟩:∃q,m=q+1:=⟨m -1,l7⟩;rw[e];exact UD hk (hC m l7 R)
 by_cases h1:k=17\/k=18\/k=27\/k=28\/k=29\/k=30
 .have hv:v=0:=JH (k:=k) (by rw[show arF k=2 from ha];decide) (by rcases h1 with rfl|rfl|rfl|rfl|rfl|rfl<;>decide) hz;subst hv;have hb:Px k=true:=by rcases h1 with rfl|rfl|rfl|rfl|rfl|rfl<;>rfl
  refine call (tkT N a++(7,[44],0)::tkT N b) (by unfold Py;omega) ?_ ?_ (λm hm R=>?_)
  .have:tkT N (.l2 (k,0) a b)=uY ([nm (dB k),sy 40]++itT N a++[sy 44,none]++itT N b++[sy 41]):=by
    show uY (Js (k,0) (itT N a) (txT N a).2 (itT N b) (txT N b).2)=_;unfold Js;rw[hb];rfl
   rw[this,fH,fH,fH,fH];show _::_::_=_;unfold tkT;simp;rfl
  .show 6<=(Ee (k,0) (txT N a) (txT N b)).2;unfold Ee;rw[hb];simp[l9]
  .obtain⟨m,rfl⟩:∃q,m=q+1:=⟨m -1,l7⟩;exact b1S h1 (h.E _ (OO _ 1) m l7) (g.E _ (KI R 1) m l7)
 by_cases h2:k=14\/k=15\/k=16
 .have hb:Px k=false/\VH k=true:=by rcases h2 with rfl|rfl|rfl<;>exact⟨rfl,rfl⟩
  refine call (tkT N a++(7,[44],0)::(tkT N b++[(7,[44],0),(1,jW v,0)])) (by unfold Py;omega) ?_ ?_ (λm hm R=>?_)
  .have:tkT N (.l2 (k,v) a b)=uY ([nm (dB k),sy 40]++itT N a++[sy 44,none]++itT N b++[sy 44,none,nm (jW v),sy 41]):=by
    show uY (Js (k,v) (itT N a) (txT N a).2 (itT N b) (txT N b).2)=_;unfold Js;rw[hb.1,hb.2];rfl
   rw[this,fH,fH,fH,fH];show _::_::_=_;unfold tkT;simp;rfl
  .show 6<=(Ee (k,v) (txT N a) (txT N b)).2;unfold Ee;rw[hb.1,hb.2];simp[l9]
  .obtain⟨m,rfl⟩:∃q,m=q+1:=⟨m -1,l7⟩;have hC:=b1P (T:=T) (E:=E) (N:=N) (R:=(7,[41],0)::R) h2 (a3m h2 hz) (h.E _ (OO _ 1) m l7) (g.E _ (OO _ 1) m l7);exact hC
 have hk:a1o k:=by have:=ar2 ha;unfold a1o;omega
 have hv:v=0:=JH (k:=k) (by rw[show arF k=2 from ha];decide) (by rcases hk with rfl|rfl|rfl|rfl|rfl|rfl|rfl|rfl|rfl<;>decide) hz;subst hv;have hb:Px k=false/\VH k=false:=by rcases hk with rfl|rfl|rfl|rfl|rfl|rfl|rfl|rfl|rfl<;>exact⟨rfl,rfl⟩
 have hsy:1<=(jy k).2/\(jy k).2<=5:=by rcases hk with rfl|rfl|rfl|rfl|rfl|rfl|rfl|rfl|rfl<;>decide
 have hcl:(txT N (.l2 (k,0) a b)).2=(jy k).2:=by show(Ee (k,0) (txT N a) (txT N b)).2=_;unfold Ee;rw[hb.1,hb.2];rfl
 generalize hle:(l9 (D5 (jy k).2 3) 4 (jy k).2:Int)=le;have hle1:(jy k).2<=le/\((jy k).2=3->le=4)/\((jy k).2≠3->le=(jy k).2):=by
  rw[←hle];by_cases h3:(jy k).2=3
  .rw[J4 h3];exact⟨by rw[h3];decide,λ_=>rfl,λh=>absurd h3 h⟩
  .rw[I9 h3];exact⟨by simp[l9],λh=>absurd h h3,λ_=>rfl⟩
 have e:tkT N (.l2 (k,0) a b)=tkW N a le++opK k::tkW N b ((jy k).2+1):=by
  have:tkT N (.l2 (k,0) a b)=uY (wiI (itT N a) (txT N a).2 le++[none,some (opK k),none]++wiI (itT N b) (txT N b).2 ((jy k).2+1)):=by show uY (Js (k,0) (itT N a) (txT N a).2 (itT N b) (txT N b).2)=_;unfold Js;rw[hb.1,hb.2,hle];rfl
  rw[this,fH,fH];unfold tkW;rw[E9];rfl
 have hne:=a5Q a h le;have hhd:hd3 (tkT N (.l2 (k,0) a b))=hd3 (tkW N a le):=by
  rw[e];cases hq:tkW N a le with
  |nil=>exact absurd hq hne|cons x y=>rfl
 have nif:¬((hd3 (tkT N (.l2 (k,0) a b))).1=1/\(hd3 (tkT N (.l2 (k,0) a b))).2.1=[105,102]):=by
  rw[hhd,RP];by_cases h6:le<=(txT N a).2
  .rw[O6 h6,o5];exact h.nif l7
  .rw[Y0 l7,o7];rintro⟨h,-⟩;exact absurd (show(7:Int)=1 from h) F6
 have hL:∀R,CE R ((jy k).2+1)->∀c,1<=c->c<=(jy k).2->∀m,10*(a.size+b.size+1)<=m->LOk T E N m c (tkT N (.l2 (k,0) a b)) (XT.l2 (k,0) a b).post (gT (jy k).2) R:=by
  intro R hR c hc1 hc2 m hm;obtain⟨ga,hA,hga⟩:=b5K h (c:=c) (c' :=le) hc1 l7 (R:=opK k::(tkW N b ((jy k).2+1)++R)) (.inr ⟨k,hk,rfl⟩) (.inr ⟨k,hk,rfl,l7⟩) (m:=m) l7;have hB:=b6h g (c:=(jy k).2+1) l7 hR (m:=m) l7;have:=b1Z hk hA hB hc2 (by
   rcases hga with rfl|⟨q1,q2,rfl⟩
   .omega
   .unfold gT;rw[bG l7,o5];by_cases h3:(txT N a).2=3
    .rw[J4 h3,o7];by_cases h4:(jy k).2=3
     .have:=hle1.2.1 h4;omega
     .have:=hle1.2.2 h4;omega
    .rw[I9 h3,o5];omega)
  rw[e];have hg:gT (jy k).2=l9 (D5 (jy k).2 3) 2 (jy k).2:=by unfold gT;rw[bG l7,o5]
  rw[hg];exact this
 refine⟨by rw[e];simp,λ_=>nif,λh6=>by rw[hcl]at h6;omega,λh6=>by rw[hcl]at h6;omega,λh5 R hR c hc1 hc2 m hm=>?_,λR hR m hm=>b5C (by rw[e];simp) nif (by rw[hcl];omega) hR l7 ?_⟩
 .rw[hcl]at hR hc2 ⊢;rw[hsz]at hm;exact hL R hR c hc1 hc2 m hm
 .rw[hcl];rw[hsz]at hm;exact hL R (Jk hR l7) 1 l7 l7 (m -2) l7
theorem b5D{a b c:XT}(ha:arF n.1=3)(hz:flS n N=0)(h:TrOk T E N a)(g:TrOk T E N b)(f:TrOk T E N c):TrOk T E N (.l3 n a b c):=by
 obtain⟨k,v⟩:=n;have hk:k=26:=ar3 ha;subst hk;have hv:v=0:=JH (k:=26) F6 F6 hz;subst hv;have e:tkT N (.l3 (26,0) a b c)=(1,[105,102],0)::(tkT N a++(1,[116,104,101,110],0)::(tkT N b++(1,[101,108,115,101],0)::tkT N c)):=by have:tkT N (.l3 (26,0) a b c)=uY ([nm [105,102],none]++itT N a++[none,nm [116,104,101,110],none]++itT N b++[none,nm [101,108,115,101],none]++itT N c):=rfl;rw[this,fH,fH,fH,fH,fH];show _::_=_;unfold tkT;simp;rfl
 refine⟨by rw[e];simp,λh6=>absurd (show(1:Int)<=0 from h6) F6,λh6=>absurd (show(6:Int)<=0 from h6) F6,λh6=>absurd (show(6:Int)<=0 from h6) F6,λ_ R hR c' h1 h2=>by have:c' <=(0:Int):=h2;omega,λR hR m hm=>?_⟩;rw[show(XT.l3 (26,0) a b c).size=a.size+b.size+c.size+1 from rfl]at hm;obtain⟨m,rfl⟩:∃q,m=q+1:=⟨m -1,l7⟩;rw[e];exact b5T (h.E _ (.inl (.inr (.inr (.inr (.inl rfl))))) m l7) (g.E _ (.inl (.inr (.inr (.inr (.inr rfl))))) m l7) (f.E R hR m l7)
theorem Jr(hN:NmD N):∀(t:XT),t.wf->(∀n∈t.post,fJ n.2)->(∀n∈t.post,flS n N=0)->TrOk T E N t
 | .l0 n,hw,hI,hz=>a7N hN hw (hI n (by simp[XT.post])) (hz n (by simp[XT.post]))| .l1 n a,hw,hI,hz=>b1u hN hw.1 (hI n (by simp[XT.post])) (hz n (by simp[XT.post])) (Jr hN a hw.2 (λm hm=>hI m (by simp[XT.post,hm])) (λm hm=>hz m (by simp[XT.post,hm])))| .l2 n a b,hw,hI,hz=>b1v hN hw.1 (hI n (by simp[XT.post])) (hz n (by simp[XT.post])) (Jr hN a hw.2.1 (λm hm=>hI m (by simp[XT.post,hm])) (λm hm=>hz m (by simp[XT.post,hm]))) (Jr hN b hw.2.2 (λm hm=>hI m (by simp[XT.post,hm])) (λm hm=>hz m (by simp[XT.post,hm])))| .l3 n a b c,hw,hI,hz=>b5D hw.1 (hz n (by simp[XT.post])) (Jr hN a hw.2.1 (λm hm=>hI m (by simp[XT.post,hm])) (λm hm=>hz m (by simp[XT.post,hm]))) (Jr hN b hw.2.2.1 (λm hm=>hI m (by simp[XT.post,hm])) (λm hm=>hz m (by simp[XT.post,hm]))) (Jr hN c hw.2.2.2 (λm hm=>hI m (by simp[XT.post,hm])) (λm hm=>hz m (by simp[XT.post,hm])))
end
theorem We:∀(L:List It) (R:List UInt8),WSR L R->L.length<=(di L).length
 |[],_,_=>by simp|none::L,R,h=>by have:=We L R h.2;simp[di];exact this|some k::L,R,h=>by have:=We L R h.2.2;obtain⟨c,t,e,-⟩:=h.1.ne;simp[di,e];omega
variable {e:List (Int×Int)}
theorem a4i{s:List UInt8}(hN:NmOk N)(hD:NmD N)(hI:∀n∈e,fJ n.2)(h:tY e N=(s,0))(hs:s.length<=65536):iW s N=some (e,0,0):=by
 have hf:=UY hN hI;have hfS:=h;unfold tY at h;cases hst:oK e with
 |inl x=>rw[hst]at h;simp only at h;exact absurd (congrArg (λq:List UInt8×Int=>q.2) h) (BH hst)|inr t=>
  rw[hst]at h;simp only at h;obtain⟨hp,h48⟩:=wX hst;have hw:=Hq hst;cases hff:D5 (ffS N e) 0 with
  |false=>rw[hff,o5]at h;exact absurd (congrArg (λq:List UInt8×Int=>q.2) h) (xq.1 hff)|true=>
   rw[hff,o7]at h;have hsx:s=(txT N t).1:=(congrArg (λq:List UInt8×Int=>q.1) h).symm;have hIt:∀n∈t.post,fJ n.2:=by rw[←hp];exact hI
   have hzt:∀n∈t.post,flS n N=0:=by rw[←hp];exact UW (dO.1 hff)
   have hfl:=Bl t hw hIt hzt;have hws:=Nw hD.id t hw hIt hzt;have hsf:s=di (itT N t):=hsx.trans hfl.symm;have hW:=hws.ws [] a0d;have hlen:=We _ _ hW;have htk:=Yo (L:=itT N t) (by rw[←hsf];exact hs) hW (b5B hws.st) (by rw[←hsf]at hlen;omega);rw[←hsf]at htk;have hpl:=a2e (itT N t) 0;have htl:(uY (itT N t)).length<=(itT N t).length:=by unfold uY;exact List.length_filterMap_le _ _
   rw[←hsf]at hlen;have hAt:At3 (vU 0 (itT N t)) 0 (tkT N t++[]):=by refine⟨?_,l7,l7⟩;rw[aX,E5];exact Bv (itT N t) 0
   have hsz:t.size<=48:=by rw[←t.post_len,←hp];exact h48
   have hE:=(Jr (T:=vU 0 (itT N t)) (E:=x9 s) hD t hw hIt hzt).E [] (.inl (.inl rfl)) au (by unfold au;omega) 0 [] hAt (by simp only[H6,t.post_len];omega);unfold iW;rw[htk,o9];simp only[J4 (rfl:(0:Int)=0),F5,o5];rw[show kX (vU 0 (itT N t),0,x9 s,N,[],0,0)=_ from hE,o9];simp only[o7];rw[O6 (show x9 (vU 0 (itT N t))<=((0+(tkT N t).length:Nat):Int) by unfold x9 tkT;rw[hpl];omega),o5,o9];simp only[J4 (rfl:(0:Int)=0),F5,o5,H7];rw[←hp];unfold rQ;rw[zG];unfold xQ;rw[hst];simp only[o9,J4 (rfl:(0:Int)=0),F5,o5];rw[hf,hfS,o9];simp only[J4 (rfl:(0:Int)=0),F5,o5];rw[show seq s s=true from mW.2 rfl];rfl
theorem Zx{s:List UInt8}(h:∃k,iW s N=some (e,k,0)):jl e N=some (s,0):=by
 obtain⟨k,h⟩:=h;unfold iW at h;cases h1:pJ s with
 |none=>rw[h1]at h;cases h|some x=>
  rw[h1,o9]at h;cases h2:H9 (D5 x.2.2 0)<;>rw[h2]at h
  case true=>rw[o7]at h;have:=congrArg (λo:Option (List H5×H5)=>(o.getD ([],(0,1))).2.2) h;simp only[bF]at this;rw[J4 this]at h2;cases h2
  rw[o5]at h;obtain⟨p,_,h⟩:=yC h
  try dsimp only at h
  cases h3:H9 (D5 p.2.2.2.2.2.2 0)<;>rw[h3]at h
  case true=>rw[o7]at h;have:=congrArg (λo:Option (List H5×H5)=>(o.getD ([],(0,1))).2.2) h;simp only[bF]at this;rw[J4 this]at h3;cases h3
  rw[o5]at h;cases h4:rQ p.2.2.2.2.1 with
  |none=>rw[h4]at h;cases h|some y=>
   rw[h4,o9]at h;cases h5:H9 (D5 y.2 0)<;>rw[h5]at h
   case true=>rw[o7]at h;have:=congrArg (λo:Option (List H5×H5)=>(o.getD ([],(0,1))).2.2) h;simp only[bF]at this;rw[J4 this]at h5;cases h5
   rw[o5]at h;cases h6:jl p.2.2.2.2.1 N with
   |none=>rw[h6]at h;cases h|some z=>
    rw[h6,o9]at h;cases h7:H9 (D5 z.2 0)<;>rw[h7]at h
    case true=>exact absurd (show(2:Int)=0 from congrArg (λo:Option (List H5×H5)=>(o.getD ([],(0,1))).2.2) h) F6
    rw[o5]at h;cases h8:H9 (seq z.1 s)<;>rw[h8]at h
    case true=>exact absurd (show(2:Int)=0 from congrArg (λo:Option (List H5×H5)=>(o.getD ([],(0,1))).2.2) h) F6
    rw[o5]at h;have he:p.2.2.2.2.1=e:=congrArg (λo:Option (List H5×H5)=>(o.getD ([],(0,1))).1) h;rw[he]at h6;rw[h6];have hz1:z.1=s:=by
     cases hq:seq z.1 s<;>rw[hq]at h8
     .exact absurd h8 F6
     .exact mW.1 hq
    have hz2:z.2=0:=by
     cases hq:D5 z.2 0<;>rw[hq]at h7
     .exact absurd h7 F6
     .exact dO.1 hq
    rw[←hz1,←hz2]
theorem a8h{ρ:Type}{n:Nat}{p:Nat->Option ρ}(h:∀r,iH n p≠some r):∀i,i<n->p i=none:=by
 cases hf:iH n p with
 |some r=>exact absurd hf (h r)|none=>exact xm hf
theorem X_{k i:Int}{r:Int×Int}(h:LM k i r=none):r.1=0:=by
 unfold LM at h;cases he:D5 r.1 0<;>rw[he]at h
 .cases h
 .exact dO.1 he
variable {l:gV}{j:Nat}
theorem a9j(h:(pY l).1=0){e:dU}(he:l.1[j]? =some e):lL e.1=true/\(∀x∈l.1.take j,x.1≠e.1)/\e.2.length<=16/\∀(i:Nat) m,e.2[i]? =some m->lL m=true/\∀x∈e.2.take i,x≠m:=by
 unfold pY at h;cases h1:D5 (BX l).1 0<;>rw[h1]at h
 .simp only[o5]at h;rw[J4 h]at h1;cases h1
 have h1:=dO.1 h1;unfold BX at h1;cases h2:I8 8 (x9 l.1)<;>rw[h2]at h1
 case true=>exact absurd (show(4:Int)=0 from h1) F6
 simp only[o5]at h1;have hn:=a8h (n:=l.1.length) (p:=PY l) (λr hf=>by
  rw[hf]at h1;obtain⟨j,_,hj⟩:=qp hf;unfold PY at hj;split at hj
  .exact TG hj h1
  .cases hj) j (aO.1 he).1
 unfold PY at hn;rw[he]at hn;have hz:=X_ hn;unfold WH at hz;cases g1:lL e.1<;>rw[g1]at hz
 .exact absurd (show(2:Int)=0 from hz) F6
 cases g2:FY l 1 j e.1<;>rw[g2]at hz
 case true=>exact absurd (show(7:Int)=0 from hz) F6
 cases g3:D5 (x9 e.2) 0<;>rw[g3]at hz
 case true=>exact absurd (show(5:Int)=0 from hz) F6
 cases g4:I8 16 (x9 e.2)<;>rw[g4]at hz
 case true=>exact absurd (show(4:Int)=0 from hz) F6
 simp only[o7,o5]at hz;have hmem:∀i<e.2.length,Xk e.2 i=none:=by
  intro i hi;cases hf:(List.range e.2.length).findSome? (Xk e.2)with
  |none=>exact List.findSome?_eq_none_iff.1 hf i (ed.2 hi)|some r=>
   exfalso;rw[hf]at hz;obtain⟨q,_,hq⟩:=List.exists_of_findSome?_eq_some hf;unfold Xk at hq;cases hv:e.2[q]? with
   |none=>rw[hv]at hq;cases hq|some x=>
    rw[hv]at hq;simp only at hq;cases k1:lL x<;>rw[k1]at hq
    .cases hq;exact absurd (show(2:Int)=0 from hz) F6
    .cases k2:(e.2.take q).any λy=>seq x y<;>rw[k2]at hq
     .cases hq
     .cases hq;exact absurd (show(7:Int)=0 from hz) F6
 refine⟨rfl,λx hx e2=>?_,df (n:=16) g4,λi m hm=>?_⟩
 .unfold FY at g2;simp only[fB]at g2;exact g2 x hx (mW.2 e2)
 have hi:=(aO.1 hm).1;have hp:=hmem i hi;unfold Xk at hp;rw[hm]at hp;simp only at hp;cases k1:lL m<;>rw[k1]at hp
 .cases hp
 cases k2:(e.2.take i).any λy=>seq m y<;>rw[k2]at hp
 .refine⟨rfl,λx hx e=>?_⟩;have:=fB.1 k2 x hx;exact this (mW.2 e.symm)
 .cases hp
theorem a5X(h:(pY l).1=0){t:nR}(ht:l.2.1[j]? =some t):lL t.1=true/\∀x∈l.2.1.take j,x.1≠t.1:=by
 unfold pY at h;cases h1:D5 (BX l).1 0<;>rw[h1]at h
 .simp only[o5]at h;rw[J4 h]at h1;cases h1
 cases h2:D5 (zH l).1 0<;>rw[h2]at h
 .simp only[o7,o5]at h;rw[J4 h]at h2;cases h2
 have h2:=dO.1 h2;unfold zH at h2;cases h3:I8 8 (x9 l.2.1)<;>rw[h3]at h2
 case true=>exact absurd (show(4:Int)=0 from h2) F6
 simp only[o5]at h2;have hn:=a8h (n:=l.2.1.length) (p:=Jq l) (λr hf=>by
  rw[hf]at h2;obtain⟨j,_,hj⟩:=qp hf;unfold Jq at hj;split at hj
  .exact TG hj h2
  .cases hj) j (aO.1 ht).1
 unfold Jq at hn;rw[ht]at hn;have hz:=X_ hn;unfold j_ at hz;cases g1:lL t.1<;>rw[g1]at hz
 .exact absurd (show(2:Int)=0 from hz) F6
 cases g2:FY l 2 j t.1<;>rw[g2]at hz
 case true=>exact absurd (show(7:Int)=0 from hz) F6
 refine⟨rfl,λx hx e=>?_⟩;unfold FY at g2;simp only[bC,fB]at g2;exact g2.2 x hx (mW.2 e)
theorem WP{en:List dU}{f:jq}{a b:List jq}(h:ES en f a b=0):lL f.1=true/\(∀x∈a,x.1≠f.1)/\∀x∈b,x.1≠f.1:=by
 unfold ES at h;cases g1:lL f.1<;>rw[g1]at h
 .exact absurd (show(2:Int)=0 from h) F6
 cases g2:(a.any λx=>seq x.1 f.1)<;>rw[g2]at h
 case true=>exact absurd (show(7:Int)=0 from h) F6
 cases g3:(b.any λx=>seq x.1 f.1)<;>rw[g3]at h
 case true=>exact absurd (show(7:Int)=0 from h) F6
 rw[fB]at g2 g3;exact⟨rfl,λx hx e=>g2 x hx (mW.2 e),λx hx e=>g3 x hx (mW.2 e)⟩
theorem TF{c e:Int}(h:PZ c e=none):c=0:=by
 unfold PZ at h;cases he:D5 c 0<;>rw[he]at h
 .cases h
 .exact dO.1 he
variable {s:O0}{i:Nat}
theorem OV(h:(pY l).1=0)(hs:l.2.2[i]? =some s):(∀(j:Nat) f,s.2.2.1[j]? =some f->lL f.1=true/\∀x∈s.2.2.1.take j,x.1≠f.1)/\∀(j:Nat) f,s.2.2.2.1[j]? =some f->lL f.1=true/\(∀x∈s.2.2.1,x.1≠f.1)/\∀x∈s.2.2.2.1.take j,x.1≠f.1:=by
 have hp:=(Uw h hs).2;unfold QQ at hp;cases h1:Dx l s with
 |some q=>rw[h1]at hp;exact absurd hp (Np h1)|none=>
  unfold Dx at h1;cases h2:iH s.2.2.1.length (inP l s)with
  |some q=>rw[h2]at h1;cases h1|none=>
   rw[h2]at h1;refine⟨λj f hf=>?_,λj f hf=>?_⟩
   .have hn:=xm h2 j (aO.1 hf).1;unfold inP at hn;rw[hf]at hn;have:=WP (TF hn);exact⟨this.1,this.2.1⟩
   .have hn:=xm h1 j (aO.1 hf).1;unfold a1w at hn;rw[hf]at hn;exact WP (TF hn)
theorem b5I(h:(pY l).1=0)(hs:l.2.2[i]? =some s){k:Nat}{r:kV}(hr:s.2.2.2.2[k]? =some r):lL r.1=true/\∀q∈s.2.2.2.2.take k,q.1≠r.1:=by
 have he:=u_ h hs hr;unfold Ru at he;cases g1:lL r.1<;>rw[g1]at he
 .exact absurd (show(2:Int)=0 from he) F6
 simp only[o7]at he;cases g2:(s.2.2.2.2.take k).any λx=>seq x.1 r.1<;>rw[g2]at he
 case true=>exact absurd (show(7:Int)=0 from he) F6
 rw[fB]at g2;exact⟨rfl,λq hq e=>g2 q hq (mW.2 e)⟩
variable {w:List UInt8}{α:Type}
theorem zB{g:α->List UInt8}{l:List α}(h:(l.map g)[j]? =some w)(H:∀a,l[j]? =some a->∀x∈l.take j,g x≠g a):∀x∈(l.map g).take j,x≠w:=by
 rw[dC]at h;cases ha:l[j]? with
 |none=>rw[ha]at h;cases h|some a=>rw[ha]at h;cases h;intro x hx;rw[←List.map_take]at hx;obtain⟨y,hy,rfl⟩:=aH.1 hx;exact H a ha y hy
theorem yA{l:List α}{a:α}(h:a∈l):∃j:Nat,l[j]? =some a:=by obtain⟨j,hj,e⟩:=jT h;exact⟨j,by rw[lG hj,e]⟩
theorem a9I(hv:(pY l).1=0)(h:NmL l)(hs:s∈l.2.2):NmD (nmS l s):=by
 obtain⟨i,hi⟩:=yA hs;obtain⟨f1,f2⟩:=OV hv hi;obtain⟨s1,s2,s3,s4,s5,s6⟩:=h.s s hs;have hmem:(nmS l s).2.2.2.2=[]\/∃q,q∈l.2.2/\(nmS l s).2.2.2.2=q.2.2.2.1.map (·.1):=by
  unfold nmS;cases V6 0 s.2.1
  .exact .inl rfl
  .simp only[o7];cases hq:X0 l.2.2 s.2.1 with
   |none=>exact .inl rfl|some q=>exact .inr ⟨q,xu hq,rfl⟩
 refine⟨⟨λe he=>?_,λx hx=>?_,λx hx=>?_,λx hx=>?_,λx hx=>?_⟩,?_,λj e he=>?_,λj w hw=>?_,λj w hw=>?_,λj w hw=>?_,λj w hw=>?_⟩
 .obtain⟨j,hj⟩:=yA (show e∈l.1 from he);obtain⟨a,b,c,d⟩:=a9j hv hj;refine⟨a,λm hm=>?_⟩;obtain⟨i,hi⟩:=yA hm;exact(d i m hi).1
 .obtain⟨t,ht,rfl⟩:=aH.1 (show x∈l.2.1.map (·.1)from hx);obtain⟨j,hj⟩:=yA ht;exact(a5X hv hj).1
 .obtain⟨t,ht,rfl⟩:=aH.1 (show x∈s.2.2.1.map (·.1)from hx);obtain⟨j,hj⟩:=yA ht;exact(f1 j t hj).1
 .obtain⟨t,ht,rfl⟩:=aH.1 (show x∈s.2.2.2.1.map (·.1)from hx);obtain⟨j,hj⟩:=yA ht;exact(f2 j t hj).1
 .rcases hmem with e|⟨q,hq,e⟩
  .rw[e]at hx;cases hx
  .rw[e]at hx;obtain⟨t,ht,rfl⟩:=aH.1 hx;obtain⟨k,hk⟩:=yA hq;obtain⟨j,hj⟩:=yA ht;exact((OV hv hk).2 j t hj).1
 .have h1:=h.ne;have h2:=h.nt;refine⟨by show l.1.length<=1000;omega,by show(l.2.1.map (·.1)).length<=1000;simp;omega,by show(s.2.2.1.map (·.1)).length<=1000;simp;omega,by show(s.2.2.2.1.map (·.1)).length<=1000;simp;omega,?_⟩;rcases hmem with e|⟨q,hq,e⟩
  .rw[e];simp
  .rw[e];have:=(h.s q hq).2.1;simp;omega
 .obtain⟨a,b,c,d⟩:=a9j hv (show l.1[j]? =some e from he);exact⟨b,l7,λk v hk=>(d k v hk).2⟩
 .exact zB (show(l.2.1.map (·.1))[j]? =some w from hw) (λa ha=>(a5X hv ha).2)
 .exact zB (show(s.2.2.1.map (·.1))[j]? =some w from hw) (λa ha=>(f1 j a ha).2)
 .refine⟨zB (show(s.2.2.2.1.map (·.1))[j]? =some w from hw) (λa ha=>(f2 j a ha).2.2),λx hx=>?_⟩;have hw2:(s.2.2.2.1.map (·.1))[j]? =some w:=hw;rw[dC]at hw2;cases ha:s.2.2.2.1[j]? with
  |none=>rw[ha]at hw2;cases hw2|some a=>rw[ha]at hw2;cases hw2;obtain⟨t,ht,rfl⟩:=aH.1 (show x∈s.2.2.1.map (·.1)from hx);exact(f2 j a ha).2.1 t ht
 .rcases hmem with e|⟨q,hq,e⟩
  .rw[e]at hw;cases hw
  .rw[e]at hw ⊢;obtain⟨k,hk⟩:=yA hq;exact zB hw (λa ha=>((OV hv hk).2 j a ha).2.2)
def eH:List (List UInt8)->List UInt8
 |[]=>[]|w::L=>w++10::eH L
theorem GK:∀A B:List (List UInt8),eH (A++B)=eH A++eH B
 |[],B=>rfl|w::A,B=>by rw[N8];simp only[eH];rw[GK A B];simp
def spF(a0:List UInt8)(x:List (List UInt8)×Int×List UInt8×Int):Option (Out (List (List UInt8)×Int×List UInt8×Int) (List (List UInt8)×Int) (List (List UInt8)×Int)):=
     l9 (I8 x.2.2.2 (x9 x.2.2.1))
      (l9 (D5 (ou x.2.2.1 x.2.2.2) 10)
       (o6 (bQ a0 x.2.1 x.2.2.2) λ(x_1:List UInt8)=>
        o6 (jV x.1 [x_1]) λ(x_2:List (List UInt8))=>
         some (Out.nx (x_2,I5 IntKind.i64 x.2.2.2 1,x.2.2.1,uU x.2.2.1 x.2.2.2)))
       (l9 (D5 (ou x.2.2.1 x.2.2.2) 9) (some (Out.nx (x.1,x.2.1,x.2.2.1,uU x.2.2.1 x.2.2.2)))
        (l9 (V6 32 (ou x.2.2.1 x.2.2.2))
         (l9 (V6 (ou x.2.2.1 x.2.2.2) 126) (some (Out.nx (x.1,x.2.1,x.2.2.1,uU x.2.2.1 x.2.2.2)))
          (some (Out.rt ([],2))))
         (some (Out.rt ([],2))))))
      (some (Out.ex (x.1,x.2.1)))
theorem a8t{c:UInt8}(h:prB c=true):32<=c.toNat/\c.toNat<=126:=by unfold prB at h;simpa using h
theorem a1a{s:List UInt8}(hs:s.length<=65536)(acc:List (List UInt8))(st:Int):∀(w pre suf:List UInt8) (m:Nat),s=pre++w++suf->(∀c∈w,prB c=true)->dW (spF s) (m+w.length) (acc,st,s,(pre.length:Int))=dW (spF s) m (acc,st,s,((pre.length+w.length:Nat):Int))
 |[],pre,suf,m,h,hw=>rfl|c::w,pre,suf,m,h,hw=>by
  have hc:s[pre.length]? =some c:=by rw[h,E9,F7 (C9 _),aI];rfl
  have hb:=a8t (hw c A7);obtain⟨r1,r2⟩:=zO hc l7;have st:spF s (acc,st,s,(pre.length:Int))=some (.nx (acc,st,s,((pre.length+1:Nat):Int))):=by unfold spF;simp only[V8 hc,o7,r1,r2];rw[I9 l7,o5,I9 l7,o5,X9 l7,o7,X9 l7,o7]
  rw[D9,show m+(w.length+1)=(m+w.length)+1 by omega,bJ,st];have:=a1a hs acc ‹Int› w (pre++[c]) suf m (by rw[h];simp) (λd hd=>hw d (by simp[hd]));rw[show(pre++[c]).length=pre.length+1 by simp]at this;rw[show pre.length+(w.length+1)=pre.length+1+w.length by omega];exact this
theorem Yf{s:List UInt8}(hs:s.length<=65536):∀(L:List (List UInt8)) (pre:List UInt8) (acc:List (List UInt8)) (m:Nat),s=pre++eH L->(∀w∈L,∀c∈w,prB c=true)->acc.length<=pre.length->
  dW (spF s) (m+(eH L).length+1) (acc,(pre.length:Int),s,(pre.length:Int))=some (.inl (acc++L,(s.length:Int)))
 |[],pre,acc,m,h,hw,ha=>by rw[eH,E5]at h;subst h;rw[bJ];unfold spF;simp only[aG s,o5];simp|w::L,pre,acc,m,h,hw,ha=>by
  have hl:=congrArg List.length h;simp only[eH,E8,D9]at hl;have h' :s=pre++w++10::eH L:=by rw[h];simp[eH]
  have h10:s[(pre.length+w.length)]? =some 10:=by rw[h',←E8,F7 (C9 _),aI];rfl
  obtain⟨r1,r2⟩:=zO h10 F6;have st:spF s (acc,(pre.length:Int),s,((pre.length+w.length:Nat):Int))=some (.nx (acc++[w],((pre.length+w.length+1:Nat):Int),s,((pre.length+w.length+1:Nat):Int))):=by
   unfold spF;have hsub:bQ s (pre.length:Int) ((pre.length+w.length:Nat):Int)=some w:=by rw[GM l7 l7 l7,D8,D8,h',←E8,eF,X4]
   simp only[V8 h10,o7,r1,r2,J4 (show((10:UInt8).toNat:Int)=10 from rfl),hsub,o9];rw[nJ _ l7,o9,Z8 l7]
  rw[show m+(eH (w::L)).length+1=(m+(eH L).length+1+1)+w.length by simp[eH];omega,a1a hs acc _ w pre (10::eH L) _ h' (hw w A7),bJ,st];have:=Yf hs L (pre++w++[10]) (acc++[w]) m (by rw[h'];simp) (λv hv=>hw v (by simp[hv])) F9;simp only[E8,ja]at this;simp only;rw[this];simp
theorem a5F{L:List (List UInt8)}(hs:(eH L).length<=65536)(hw:∀w∈L,∀c∈w,prB c=true):mi (eH L)=some (L,0):=by
 unfold mi;rw[O6 (show x9 (eH L)<=65536 by unfold x9;omega),o5];cases L with
 |nil=>rfl|cons w L=>rw[show seq (eH (w::L)) []=false from sF.2 (by simp[eH]),o5];have:=Yf hs (w::L) [] [] (au -(eH (w::L)).length -1) rfl hw A7;rw[show au -(eH (w::L)).length -1+(eH (w::L)).length+1=au by unfold au;omega]at this;refine J3 (show P8 (spF (eH (w::L))) ([],0,eH (w::L),0)=_ from this) ?_;rw[o9,J7];rw[show D5 ((([]++w::L,(((eH (w::L)).length:Nat):Int)):List (List UInt8)×Int)).2 (x9 (eH (w::L)))=true from J4 rfl];rfl
theorem UK(p x:List UInt8)(hl:(p++x).length<=1000000000):bH (p++x) p=some (x,true):=by
 unfold bH iM iC Lib.hasPrefix;have e:p.isPrefixOf (p++x)=true:=by rw[fZ];exact List.prefix_append _ _
 rw[e,o9,F5,o5,iR (by unfold x9;omega) (by unfold x9;simp;omega),o9,o9];congr 2;unfold x9;rw[D8,X4]
theorem YN{p w:List UInt8}(h:p.isPrefixOf w=false):bH w p=some (w,false):=by unfold bH iM iC Lib.hasPrefix;rw[h];rfl
theorem a0h:∀(a b:List UInt8) (c:UInt8),(∀x∈a,x≠c)->Lib.indexByte (a++c::b) c=(a.length:Int)
 |[],b,c,h=>by simp[Lib.indexByte]|x::a,b,c,h=>by
  have ih:=a0h a b c (λy hy=>h y (by simp[hy]));have hx:=h x A7;rw[N8];unfold Lib.indexByte;rw[ih];have:(x==c)=false:=by simpa using hx
  rw[this];simp only[dV,if_false];have h2:(((a.length:Nat):Int)==-1)=false:=by rw[beq_eq_false_iff_ne];omega
  rw[h2];simp
theorem Vd:∀(a:List UInt8) (c:UInt8),(∀x∈a,x≠c)->Lib.indexByte a c=-1
 |[],c,h=>rfl|x::a,c,h=>by
  have ih:=Vd a c (λy hy=>h y (by simp[hy]));have hx:=h x A7;unfold Lib.indexByte;have:(x==c)=false:=by simpa using hx
  rw[ih,this];rfl
theorem UL{a b:List UInt8}{c:UInt8}(h:∀x∈a,x≠c)(hl:(a++c::b).length<=1000000000):uV (a++c::b) [c]=some (a,b,true):=by
 unfold uV uk xZ;simp only;rw[a0h a b c h,o9,X9 l7,o7,qA l7 F9,o9,D8,eF];rw[show I5 .i64 (a.length:Int) (x9 [c])=((a.length+1:Nat):Int) by rw[show x9 [c]=1 from rfl,Z8 (by simp at hl;omega)]]
 rw[iR l7 F9,o9,o9,D8];rw[show a.length+1=(a++[c]).length by simp,show a++c::b=(a++[c])++b by simp,X4]
theorem TS(h0:w≠[])(h:∀x∈w,x≠32):jE w=some true:=by unfold jE qI;rw[sF.2 h0,P7,o7];simp only;rw[Vd w 32 h];rfl
theorem IV(h:lL w=true):∀x∈w,x≠32:=by
 cases w with
 |nil=>cases h|cons c r=>rw[CS]at h;simp only[A8]at h;intro x hx e;have:=bV.1 h.1.2 x hx;rw[e]at this;revert this;decide
theorem a3r(h:lL w=true):∀x∈w,prB x=true:=by
 cases w with
 |nil=>cases h
 |cons c r=>rw[CS]at h;simp only[A8]at h;exact λx hx=>a1e (bV.1 h.1.2 x hx)
def shB(v:Int)(i:Nat):Int:=WX .i64 v (i:Int)
theorem a0N:∀v:Fin 256,∀i:Fin 8,(D5 (tZ .i64 (v.val:Int) (2^i.val)) 0=true->CV .i64 (shB (v.val:Int) (i.val+1)) 1=shB (v.val:Int) i.val)/\(D5 (tZ .i64 (v.val:Int) (2^i.val)) 0=false->ior .i64 (CV .i64 (shB (v.val:Int) (i.val+1)) 1) 1=shB (v.val:Int) i.val):=by decide+kernel
theorem a0O:∀v:Fin 256,shB (v.val:Int) 0=(v.val:Int):=by decide+kernel
theorem a4Z:∀n:Fin 9,∀v:Fin 256,v.val<2^n.val->shB (v.val:Int) n.val=0:=by decide+kernel
theorem Wx:∀v:Fin 256,∀i:Fin 8,D5 (tZ .i64 (v.val:Int) (2^i.val)) 0= !(v.val.testBit i.val):=by decide+kernel
variable {p:Int×Int}
theorem a6h{n:Int}(hI:fJ p.2)(h:tvS p n=true)(hi:i<8)(hb:D5 (tZ .i64 p.1 (2^i)) 0=true):D5 (tZ .i64 p.2 (2^i)) 0=true:=by
 obtain⟨⟨b1,-,b2⟩,b3,b4⟩:=FZ hI h;have t1:=Wx ⟨p.1.toNat,l7⟩ ⟨i,hi⟩;have t2:=Wx ⟨p.2.toNat,l7⟩ ⟨i,hi⟩;simp only[N7 b1,N7 b3]at t1 t2;rw[t1]at hb;rw[t2];have h4:tZ .i64 p.2 p.1=p.2:=by
  unfold tvS at h;cases h1:V6 0 p.1<;>rw[h1]at h
  .cases h
  cases h2:I8 p.1 (2^(clB n).toNat)<;>rw[h2]at h
  .cases h
  cases h3:V6 0 p.2<;>rw[h3]at h
  .cases h
  exact dO.1 h
 have e:(p.2.toNat&&& p.1.toNat)=p.2.toNat:=by
  have he:tZ .i64 p.2 p.1=((BitVec.ofInt 64 p.2&&& BitVec.ofInt 64 p.1).toNat:Int):=by unfold tZ;refine tu ?_;have:=G_ ⟨p.1.toNat,l7⟩ p.2.toNat l7;rw[N7 b3]at this;simp only at this;rw[N7 b1]at this;show fJ ((BitVec.ofInt 64 p.2&&& BitVec.ofInt 64 p.1).toNat:Int);unfold fJ;omega
  rw[he,BitVec.toNat_and]at h4;have q1:(BitVec.ofInt 64 p.2).toNat=p.2.toNat:=by rw[kJ];omega
  have q2:(BitVec.ofInt 64 p.1).toNat=p.1.toNat:=by rw[kJ];omega
  rw[q1,q2]at h4;omega
 have:=congrArg (λx=>Nat.testBit x i) e;simp only[Nat.testBit_and]at this;cases hq:p.2.toNat.testBit i
 .rfl
 .rw[hq]at this;cases hr:p.1.toNat.testBit i
  .rw[hr]at this;cases this
  .rw[hr]at hb;cases hb
def tpF(a0:List UInt8)(x:(Int×Int)×(Int×Int)×Int):Option (Out ((Int×Int)×(Int×Int)×Int) ((Int×Int)×(Int×Int)) ((Int×Int)×Int×Int)):=
    l9 (I8 x.2.2 (x9 a0))
     (o6 (sat a0 x.2.2) λ(x_1:Int)=>
      l9 (D5 x_1 48)
       (some
        (Out.nx
         (x.1,(ior IntKind.i64 (CV IntKind.i64 x.2.1.1 1) 1,CV IntKind.i64 x.2.1.2 1),
          I5 IntKind.i64 x.2.2 1)))
       (l9 (D5 x_1 49)
        (some
         (Out.nx
          (x.1,
           (ior IntKind.i64 (CV IntKind.i64 x.2.1.1 1) 1,ior IntKind.i64 (CV IntKind.i64 x.2.1.2 1) 1),
           I5 IntKind.i64 x.2.2 1)))
        (l9 (D5 x_1 45)
         (some
          (Out.nx (x.1,(CV IntKind.i64 x.2.1.1 1,CV IntKind.i64 x.2.1.2 1),I5 IntKind.i64 x.2.2 1)))
         (some (Out.rt ((0,0),0,2))))))
     (some (Out.ex (x.1,x.2.1)))
theorem a1d{p:Int×Int}{n:Int}(hI:fJ p.2)(h:tvS p n=true){s:List UInt8}(hs:s.length<=8):∀(k:Nat) (pre:List UInt8) (m:Nat),s=pre++BR (yS p k)->k<=8->
  dW (tpF s) (m+k+1) ((0,0),(shB p.1 k,shB p.2 k),(pre.length:Int))=some (.inl ((0,0),(shB p.1 0,shB p.2 0)))
 |0,pre,m,e,hk=>by rw[show BR (yS p 0)=[]from rfl,E5]at e;subst e;rw[bJ];unfold tpF;simp only[aG s,o5]|k+1,pre,m,e,hk=>by
  obtain⟨⟨b1,-,b2⟩,b3,b4⟩:=FZ hI h;have e' :s=pre++Hy (Dk p k)::BR (yS p k):=e;have hc:s[pre.length]? =some (Hy (Dk p k)):=by rw[e',F7 (C9 _),aI];rfl
  have hlt:=(aO.1 hc).1;have t1:=a0N ⟨p.1.toNat,l7⟩ ⟨k,l7⟩;have t2:=a0N ⟨p.2.toNat,l7⟩ ⟨k,l7⟩;simp only[N7 b1,N7 b3]at t1 t2;have st:tpF s ((0,0),(shB p.1 (k+1),shB p.2 (k+1)),(pre.length:Int))=some (.nx ((0,0),(shB p.1 k,shB p.2 k),((pre.length+1:Nat):Int))):=by
   unfold tpF;simp only[V8 hc,o7,oJ,hc,aQ,o9];rw[Z8 l7];unfold Dk;cases g1:D5 (tZ .i64 p.1 (2^k)) 0
   .cases g2:D5 (tZ .i64 p.2 (2^k)) 0
    .simp only[o5,show D5 (((Hy 49).toNat:Nat):Int) 48=false from rfl,show D5 (((Hy 49).toNat:Nat):Int) 49=true from rfl,o7];rw[t1.2 g1,t2.2 g2]
    .simp only[o5,o7,show D5 (((Hy 48).toNat:Nat):Int) 48=true from rfl];rw[t1.2 g1,t2.1 g2]
   .have g2:=a6h hI h l7 g1;simp only[o7,o5,show D5 (((Hy 45).toNat:Nat):Int) 48=false from rfl,show D5 (((Hy 45).toNat:Nat):Int) 49=false from rfl,show D5 (((Hy 45).toNat:Nat):Int) 45=true from rfl];rw[t1.1 g1,t2.1 g2]
  rw[show m+(k+1)+1=(m+k+1)+1 by omega,bJ,st];have:=a1d hI h hs k (pre++[Hy (Dk p k)]) m (by rw[e'];simp) l7;rw[E8,ja]at this;exact this
theorem a2w{n:Int}(hn:0<=n/\n<=8)(hI:fJ p.2)(h:tvS p n=true):iE (Fv p n)=some (p,n,0):=by
 obtain⟨⟨b1,b0,b2⟩,b3,b4⟩:=FZ hI h;have hl:(Fv p n).length=n.toNat:=by unfold Fv BR;rw[O7,Gs,PM hn]
 rw[PM hn]at b0;unfold iE;rw[O6 (show x9 (Fv p n)<=8 by unfold x9;rw[hl];omega),o5];have hw:=a1d hI h (s:=Fv p n) l7 n.toNat [] (au -n.toNat -1) (by unfold Fv;rw[PM hn];rfl) l7;rw[show au -n.toNat -1+n.toNat+1=au by unfold au;omega]at hw;have z1:shB p.1 n.toNat=0:=by
  have:=a4Z ⟨n.toNat,l7⟩ ⟨p.1.toNat,l7⟩ (by
   simp only;have:((p.1.toNat:Nat):Int)<((2^n.toNat:Nat):Int):=by rw[N7 b1];simpa using b0
   exact_mod_cast this)
  simp only[N7 b1]at this;exact this
 have z2:shB p.2 n.toNat=0:=by
  have:=a4Z ⟨n.toNat,l7⟩ ⟨p.2.toNat,l7⟩ (by
   simp only;have:((p.2.toNat:Nat):Int)<((2^n.toNat:Nat):Int):=by rw[N7 b3];have:((2^n.toNat:Nat):Int)=2^n.toNat:=A7;rw[this];omega
   exact_mod_cast this)
  simp only[N7 b3]at this;exact this
 have w1:=a0O ⟨p.1.toNat,l7⟩;have w2:=a0O ⟨p.2.toNat,l7⟩;simp only[N7 b1,N7 b3]at w1 w2;rw[z1,z2,w1,w2]at hw;refine J3 (show P8 (tpF (Fv p n)) ((0,0),(0,0),0)=_ from hw) ?_;rw[o9,J7];rw[show x9 (Fv p n)=n by unfold x9;rw[hl];omega]
theorem a0b{σ ρ ε α:Type}(l:List α)(p:α->Bool)(mk:Nat->σ)(g:Nat->ρ)(hl:l.length<=1000000){f:σ->Option (Out σ ε ρ)} (h1:∀(i:Nat) (a:α),l[i]? =some a->f (mk i)=some (l9 (p a) (.rt (g i)) (.nx (mk (i+1))))):
  ∀(j:Nat) (a:α),l[j]? =some a->p a=true->(∀x∈l.take j,p x=false)->P8 f (mk 0)=some (.inr (g j)):=by
 intro j a ha hpa hp;have hj:=(aO.1 ha).1;have step:∀(i k:Nat),i<=j->dW f (k+(j -i)) (mk i)=dW f k (mk j):=by
  intro i k hij;induction h:j -i generalizing i k with
  |zero=>rw[show i=j by omega];rfl|succ n ih=>
   have hi:i<l.length:=l7;have hg:=lG hi;have:=h1 i _ hg;rw[hp l[i] (by rw[List.mem_take_iff_getElem];exact⟨i,l7,rfl⟩),o5]at this
   rw[show k+(n+1)=(k+n)+1 by omega,bJ,this];exact ih (i+1) k l7 l7
 have:=step 0 (au -j) l7;rw[show au -j+(j -0)=au by unfold au;omega]at this;unfold P8;rw[this,show au -j=(au -j -1)+1 by unfold au;omega,bJ,h1 j a ha,hpa];rfl
abbrev pD(s:O0)(N:D7)(d:Int)(cs:List (List (Int×Int)))(fr:List Int)(rs:List L6):J5:=(s,N,d,cs,fr,rs)
def RuU(s:O0):Prop:=∀(k:Nat) r,s.2.2.2.2[k]? =some r->lL r.1=true/\∀q∈s.2.2.2.2.take k,q.1≠r.1
variable {r:Int}
theorem KN(hU:RuU s)(hl:s.2.2.2.2.length<=60)(h:ruB s r=true)(N:D7)(d:Int)(cs:List (List (Int×Int)))(fr:List Int)(rs:List L6):V5 (pD s N d cs fr rs) (ruN s r)=some (r,pD s N d cs fr rs):=by
 obtain⟨b1,b2,b3,b4,q,b5,b6,b7⟩:=Ro h;obtain⟨c1,c2,c3⟩:=Ai b5;obtain⟨d1,d2⟩:=hU _ _ c1;unfold V5;have:=a0b s.2.2.2.2 (λq=>seq q.1 (ruN s r)) (λi=>(i:Int)) (λi=>((i:Int),pD s N d cs fr rs)) (ε:=PUnit) l7 (f:=λ(x:Int)=>
   l9 (I8 x (x9 s.2.2.2.2))
    (o6 (X0 s.2.2.2.2 x) λ(x_1:kV)=>
     l9 (seq x_1.1 (ruN s r)) (some (Out.rt (x,pD s N d cs fr rs))) (some (Out.nx (I5 IntKind.i64 x 1))))
    (some (Out.ex PUnit.unit))) (λi a ha=>by have:=(aO.1 ha).1;simp only[V8 ha,o7,V4,ha,o9];rw[Z8 l7];cases seq a.1 (ruN s r)<;>rfl) r.toNat q c1 (mW.2 b6) (λx hx=>sF.2 (by rw[←b6];exact d2 x hx))
 refine J3 this ?_;rw[o9,jg,c2]
theorem Rn(hU:RuU s)(h:ruB s r=true):lL (ruN s r)=true:=by obtain⟨b1,b2,b3,b4,q,b5,b6,b7⟩:=Ro h;obtain⟨c1,c2,c3⟩:=Ai b5;rw[←b6];exact(hU _ _ c1).1
variable {d:Int}
theorem a3A(hl:s.2.2.2.1.length<=14){f:jq}(hf:X0 s.2.2.2.1 d=some f)(hid:lL f.1=true)(hu:∀x∈s.2.2.2.1.take d.toNat,x.1≠f.1):U0 (pD s N 0 [] [] []) 0 ([100,101,99,105,115,105,111,110,32]++f.1)=some (0,pD s N d [] [] []):=by
 obtain⟨c1,c2,c3⟩:=Ai hf;have hlen:=(Ah hid).1;unfold U0;rw[J4 rfl,o7,UK _ _ F9,o9];simp only[F5,o5];rw[TS (Ah hid).2.1 (IV hid),o9,F5,o5];have:=a0b s.2.2.2.1 (λq=>seq q.1 f.1) (λi=>(pD s N 0 [] [] [],(i:Int))) (λi=>((0:Int),pD s N (i:Int) [] [] [])) (ε:=J5) l7 (f:=λ(x_2:J5×Int)=>
        l9 (I8 x_2.2 (x9 s.2.2.2.1))
         (o6 (X0 s.2.2.2.1 x_2.2) λ(x_3:jq)=>
          l9 (seq x_3.1 f.1) (some (Out.rt (0,x_2.1.1,x_2.1.2.1,x_2.2,x_2.1.2.2.2)))
           (some (Out.nx (x_2.1,I5 IntKind.i64 x_2.2 1))))
         (some (Out.ex x_2.1))) (λi a ha=>by
     have:=(aO.1 ha).1;simp only[V8 ha,o7,V4,ha,o9];rw[Z8 l7];cases seq a.1 f.1<;>rfl) d.toNat f c1 (mW.2 rfl) (λx hx=>sF.2 (hu x hx))
 refine J3 this ?_;rw[o9,jg,c2]
theorem a3B(hU:RuU s)(hl:s.2.2.2.2.length<=60)(hr:ruB s r=true){txt:List UInt8}(hp:iW txt N=some (e,0,0))(hne:txt≠[])(htl:txt.length<=65536){cs:List (List (Int×Int))}{fr:List Int}(hc:cs.length<8)(hfr:fr.length<8)(hi:1<=i):
  U0 (pD s N d cs fr []) (i:Int) ([119,104,101,110,32]++ruN s r++[32]++txt)=some (0,pD s N d (cs++[e]) (fr++[r]) []):=by
 have hid:=Rn hU hr;have hlen:=(Ah hid).1;have hln:[119,104,101,110,32]++ruN s r++[32]++txt=[119,104,101,110,32]++(ruN s r++32::txt):=A7;unfold U0;rw[I9 l7,o5,hln,UK _ _ F9,o9];simp only[o7];unfold jR;rw[UL (IV hid) F9,o9];simp only[F5,o5];rw[sF.2 (Ah hid).2.1,o5,sF.2 hne,o5,O6 (show x9 ([]:List L6)<=0 from oQ 0),o5,o9,J7,bG (show x9 cs<8 by unfold x9;omega),o5];rw[KN hU hl hr,o9];simp only;rw[O6 (by have:=(Ro hr).1;exact rY.1 this),o5,hp,o9];simp only[J4 (rfl:(0:Int)=0),F5,o5];rw[nJ _ l7,o9,nJ _ l7,o9,o9]
theorem Xz(p:Int×Int)(n:Int):(∀x∈xF p n,x≠32/\prB x=true):=by
 have key:∀k,∀x∈BR (yS p k),x≠32/\prB x=true:=by
  intro k;induction k with
  |zero=>intro x hx;cases hx|succ k ih=>
   intro x hx;rcases D6.1 (show x∈Hy (Dk p k)::BR (yS p k)from hx)with rfl|hx
   .unfold Dk;cases D5 (tZ .i64 p.1 (2^k)) 0<;>cases D5 (tZ .i64 p.2 (2^k)) 0<;>decide
   .exact ih x hx
 unfold xF Fv;cases I8 0 n
 .intro x hx;simp[l9]at hx;subst hx;decide
 .exact key _
theorem a4j{n:Int}(hn:0<=n/\n<=8):xF p n≠[]:=by
 unfold xF;by_cases h:0<n
 .rw[Y0 h,o7];intro e;have:=congrArg List.length e;unfold Fv BR at this;rw[O7,Gs,PM hn]at this;simp at this;omega
 .rw[O6 l7];simp[l9]
theorem a7O(hI:fJ p.2)(h:tvS p 0=true):p=(0,0):=by
 obtain⟨⟨b1,b0,b2⟩,b3,b4⟩:=FZ hI h;rw[show(clB 0).toNat=0 from rfl]at b0;have h1:p.1=0:=by simp at b0;omega
 have h2:p.2=0:=l7;exact oM h1 h2
theorem a3C(hU:RuU s)(hl:s.2.2.2.2.length<=60){cs:List (List (Int×Int))}{fr:List Int}{rs:List L6}(hc:cs.length<=8){row:L6}(hI:fJ row.1.2)(hrow:AQ s (x9 cs) row=0)(hrs:rs.length<=1000000)(hi:1<=i):
  U0 (pD s N d cs fr rs) (i:Int) ([114,111,119,32]++xF row.1 (x9 cs)++[32]++Hu s row.2)=some (0,pD s N d cs fr (rs++[row])):=by
 obtain⟨p,o⟩:=row;have hn:0<=x9 cs/\x9 cs<=8:=by unfold x9;omega
 unfold AQ at hrow;simp only at hrow hI ⊢;cases ht:tvS p (x9 cs)<;>rw[ht]at hrow
 .cases hrow
 cases ho:SX s o<;>rw[ho]at hrow
 .cases hrow
 have hpl:=MI p (x9 cs);have holen:(Hu s o).length<=40:=by
  unfold Hu;unfold SX at ho;cases h1:D5 o (-1)
  case true=>simp[l9]
  cases h2:D5 o (-2)
  case true=>simp[l9]
  rw[h1,h2]at ho;have:=(Ah (Rn hU ho)).1;simp[l9];omega
 have hln:[114,111,119,32]++xF p (x9 cs)++[32]++Hu s o=[114,111,119,32]++(xF p (x9 cs)++32::Hu s o):=A7;have hpar:(l9 (I8 0 (x9 cs))
          (o6 (iE (xF p (x9 cs))) λ(x:H5×H5)=>
           l9 (H9 (D5 x.2.2 0)) (some (Sum.inr (2,pD s N d cs fr rs)))
            (l9 (H9 (D5 x.2.1 (x9 cs))) (some (Sum.inr (2,pD s N d cs fr rs)))
             (l9 (D5 (x9 cs) 0) (some (Sum.inr (2,pD s N d cs fr rs))) (some (Sum.inl (x.1,-1))))))
          (l9 (H9 (seq (xF p (x9 cs)) [46]))
           (o6 (iE (xF p (x9 cs))) λ(x:H5×H5)=>
            l9 (H9 (D5 x.2.2 0)) (some (Sum.inr (2,pD s N d cs fr rs)))
             (l9 (H9 (D5 x.2.1 (x9 cs))) (some (Sum.inr (2,pD s N d cs fr rs)))
              (l9 (D5 (x9 cs) 0) (some (Sum.inr (2,pD s N d cs fr rs))) (some (Sum.inl (x.1,-1))))))
           (some (Sum.inl ((0,0),-1)))))=(some (Sum.inl (p,-1)):Option (L6⊕Int×J5)):=by
  unfold xF;by_cases h0:0<x9 cs
  .rw[Y0 h0,o7,o7,a2w hn hI ht,o9];simp only[J4 (rfl:(0:Int)=0),J4 (rfl:x9 cs=x9 cs),F5,o5,I9 (show x9 cs≠0 by omega)]
  .rw[O6 l7,o5,o5];have h00:x9 cs=0:=l7;rw[h00]at ht;rw[a7O hI ht];rfl
 unfold U0;rw[I9 l7,o5,hln,YN (by simp[List.isPrefixOf]),o9];simp only[o5];rw[UK _ _ F9,o9];simp only[o7];unfold kG;rw[UL (λx hx=>(Xz p (x9 cs) x hx).1) F9,o9];simp only[F5,o5];rw[sF.2 (a4j hn),o5,o9,J7];unfold SX at ho;unfold Hu;cases h1:D5 o (-1)
 case true=>have:o=-1:=dO.1 h1;subst this;simp only[o7];rw[YN F6,o9];simp only[o5,P7,o7,show seq ([110,111,110,101]:List UInt8) [110,111,110,101]=true from rfl,F5,o9,J7];refine J3 (J3 hpar rfl) ?_;simp only[o9,J7,show seq ([110,111,110,101]:List UInt8) [99,111,110,102,108,105,99,116]=false from rfl,o5];rw[nJ _ hrs];rfl
 cases h2:D5 o (-2)
 case true=>have:o=-2:=dO.1 h2;subst this;simp only[o7,o5];rw[YN F6,o9];simp only[o5,P7,o7,show seq ([99,111,110,102,108,105,99,116]:List UInt8) [110,111,110,101]=false from rfl,show seq ([99,111,110,102,108,105,99,116]:List UInt8) [99,111,110,102,108,105,99,116]=true from rfl,F5,o9,J7];refine J3 (J3 hpar rfl) ?_;simp only[o9,J7,o7,o5];rw[nJ _ hrs];rfl
 rw[h1,h2]at ho;simp only[o5]at ho ⊢;have hid:=Rn hU ho;have hlen:=(Ah hid).1;rw[UK _ _ F9,o9];simp only[o7];rw[TS (Ah hid).2.1 (IV hid),o9];simp only[F5,o5,o9,J7];have hcf:seq ([114,117,108,101,32]++ruN s o) [99,111,110,102,108,105,99,116]=false:=sF.2 A7;refine J3 (J3 hpar rfl) ?_;simp only[o9,J7,hcf,o5,o7];rw[KN hU hl ho,o9];simp only;rw[O6 (by have:=(Ro ho).1;exact rY.1 this),o5,nJ _ hrs];rfl
def lnC(F:FmF)(s:O0)(N:D7)(x:List (Int×Int)×Int):List UInt8:=[119,104,101,110,32]++ruN s x.2++[32]++(F x.1 N).1
def lnR(s:O0)(n:Int)(r:L6):List UInt8:=[114,111,119,32]++xF r.1 n++[32]++Hu s r.2
theorem WQ{F:FmF}{s:O0}{N:D7} :∀(L:List (List (Int×Int)×Int)) (b b' :List UInt8),gX (BV F s N) L b= .inl b' ->b' =b++eH (L.map (lnC F s N))/\∀x∈L,ruB s x.2=true/\(F x.1 N).2=0
 |[],b,b',h=>by cases h;exact⟨by simp[eH],λx hx=>by cases hx⟩|x::L,b,b',h=>by
  unfold gX at h;cases hg:BV F s N b x with
  |inr r=>rw[hg]at h;cases h|inl c=>
   rw[hg]at h;obtain⟨h1,h2⟩:=WQ L c b' h;unfold BV at hg;cases g1:ruB s x.2<;>rw[g1]at hg
   .cases hg
   cases g2:D5 (F x.1 N).2 0<;>rw[g2]at hg
   .cases hg
   simp only[o7]at hg;cases hg;refine⟨?_,λy hy=>?_⟩
   .rw[h1];simp[eH,lnC,Yt]
   .rcases D6.1 hy with rfl|hy
    .exact⟨g1,dO.1 g2⟩
    .exact h2 y hy
theorem WR{s:O0}{n:Int} :∀(L:List L6) (b b' :List UInt8),gX (KL s n) L b= .inl b' ->b' =b++eH (L.map (lnR s n))/\∀x∈L,AQ s n x=0
 |[],b,b',h=>by cases h;exact⟨by simp[eH],λx hx=>by cases hx⟩|x::L,b,b',h=>by
  unfold gX at h;cases hg:KL s n b x with
  |inr r=>rw[hg]at h;cases h|inl c=>
   rw[hg]at h;obtain⟨h1,h2⟩:=WR L c b' h;unfold KL at hg;cases g2:D5 (AQ s n x) 0<;>rw[g2]at hg
   .cases hg
   simp only[o7]at hg;cases hg;refine⟨?_,λy hy=>?_⟩
   .rw[h1];simp[eH,lnR,Tc]
   .rcases D6.1 hy with rfl|hy
    .exact dO.1 g2
    .exact h2 y hy
def dpF(ls:List (List UInt8))(x:O9×J5×Int):Option (Out (O9×J5×Int) (O9×J5) (O9×Int×Int)):=
             l9 (I8 x.2.2 (x9 ls))
              (o6 (X0 ls x.2.2) λ(x_4:List UInt8)=>
               o6 (qN ls (jC x.2.2)) λ(x_5:List UInt8)=>
                o6 (U0 x.2.1 x.2.2 x_5)
                 λ(x_6:Int×J5)=>
                 l9 (H9 (D5 x_6.1 0)) (some (Out.rt ((0,[],[],[]),x.2.2,x_6.1)))
                  (some (Out.nx (x.1,x_6.2,I5 IntKind.i64 x.2.2 1))))
              (some (Out.ex (x.1,x.2.1)))
theorem UT{ls:List (List UInt8)}(hl:ls.length<=1000000){T0:O9}{P P' :J5}(hw:ls[i]? =some w)(h:U0 P (i:Int) w=some (0,P'))(m:Nat):
  dW (dpF ls) (m+1) (T0,P,(i:Int))=dW (dpF ls) m (T0,P',((i+1:Nat):Int)):=by
 have hlt:=(aO.1 hw).1;have st:dpF ls (T0,P,(i:Int))=some (.nx (T0,P',((i+1:Nat):Int))):=by unfold dpF;simp only[V8 hw,o7,V4,hw,o9,qN,jC,D8,h,J4 (rfl:(0:Int)=0),F5,o5];rw[Z8 l7]
 rw[bJ,st]
theorem WG{l:List α}{a:α}{r:List α}(h:l.drop i=a::r):l[i]? =some a/\l.drop (i+1)=r:=by
 refine⟨?_,by rw[←U3,h];rfl⟩;have:(l.drop i)[0]? =some a:=by rw[h];rfl
 simpa using this
section
variable {s:O0} {N:D7} (hU:RuU s) (hl:s.2.2.2.2.length<=60) {ls:List (List UInt8)} (hls:ls.length<=1000000) {T0:O9} {d:Int}
include hU hl hls
theorem T_{F:FmF} :∀(xs:List (List (Int×Int)×Int)) (i:Nat) (cs:List (List (Int×Int))) (fr:List Int) (rest:List (List UInt8)) (m:Nat),ls.drop i=xs.map (lnC F s N)++rest->1<=i->cs.length+xs.length<=8->fr.length+xs.length<=8->
  (∀x∈xs,ruB s x.2=true/\iW (F x.1 N).1 N=some (x.1,0,0)/\(F x.1 N).1≠[]/\(F x.1 N).1.length<=65536)->
  dW (dpF ls) (m+xs.length) (T0,pD s N d cs fr [],(i:Int))=dW (dpF ls) m (T0,pD s N d (cs++xs.map (·.1)) (fr++xs.map (·.2)) [],((i+xs.length:Nat):Int))/\ls.drop (i+xs.length)=rest
 |[],i,cs,fr,rest,m,h,hi,h1,h2,hx=>by simp only[nI,E5,H7,H6,ah]at h ⊢;exact⟨trivial,h⟩|x::xs,i,cs,fr,rest,m,h,hi,h1,h2,hx=>by simp only[D9]at h1 h2;obtain⟨g1,g2⟩:=WG (by rw[h];rfl:ls.drop i=lnC F s N x::(xs.map (lnC F s N)++rest));obtain⟨q1,q2,q3,q4⟩:=hx x A7;have hline:=a3B (d:=d) (N:=N) hU hl q1 q2 q3 q4 (cs:=cs) (fr:=fr) l7 l7 hi;obtain⟨i1,i2⟩:=T_ xs (i+1) (cs++[x.1]) (fr++[x.2]) rest m g2 l7 F9 F9 (λy hy=>hx y (by simp[hy]));rw[D9,show m+(xs.length+1)=(m+xs.length)+1 by omega,UT hls g1 hline,i1,show i+(xs.length+1)=i+1+xs.length by omega];refine⟨A7,i2⟩
theorem U_{cs:List (List (Int×Int))}{fr:List Int}(hc:cs.length<=8):∀(xs:List L6) (i:Nat) (rs:List L6) (m:Nat),ls.drop i=xs.map (lnR s (x9 cs))->1<=i->rs.length+xs.length<=1000000->
  (∀x∈xs,fJ x.1.2/\AQ s (x9 cs) x=0)->
  dW (dpF ls) (m+xs.length) (T0,pD s N d cs fr rs,(i:Int))=dW (dpF ls) m (T0,pD s N d cs fr (rs++xs),((i+xs.length:Nat):Int))/\ls.drop (i+xs.length)=[]
 |[],i,rs,m,h,hi,h1,hx=>by simp only[nI,E5,H6,ah]at h ⊢;exact⟨trivial,h⟩|x::xs,i,rs,m,h,hi,h1,hx=>by simp only[D9]at h1;obtain⟨g1,g2⟩:=WG (by rw[h];rfl:ls.drop i=lnR s (x9 cs) x::xs.map (lnR s (x9 cs)));obtain⟨q1,q2⟩:=hx x A7;have hline:=a3C (d:=d) (N:=N) (fr:=fr) (rs:=rs) hU hl hc q1 q2 l7 hi;obtain⟨i1,i2⟩:=U_ hc xs (i+1) (rs++[x]) m g2 l7 F9 (λy hy=>hx y (by simp[hy]));rw[D9,show m+(xs.length+1)=(m+xs.length)+1 by omega,UT hls g1 hline,i1,show i+(xs.length+1)=i+1+xs.length by omega];refine⟨A7,i2⟩
end
theorem a3n(hN:NmOk N)(hD:NmD N)(hI:∀n∈e,fJ n.2)(h:(tY e N).2=0):(tY e N).1≠[]/\∀c∈(tY e N).1,prB c=true:=by
 unfold tY at h ⊢;cases hst:oK e with
 |inl x=>rw[hst]at h;exact absurd h (BH hst)|inr t=>
  rw[hst]at h;simp only at h ⊢;obtain⟨hp,h48⟩:=wX hst;have hw:=Hq hst;cases hff:D5 (ffS N e) 0 with
  |false=>rw[hff,o5]at h;exact absurd h (xq.1 hff)|true=>
   simp only[o7];have hIt:∀n∈t.post,fJ n.2:=by rw[←hp];exact hI
   have hzt:∀n∈t.post,flS n N=0:=by rw[←hp];exact UW (dO.1 hff)
   have hfl:=Bl t hw hIt hzt;have hws:=Nw hD.id t hw hIt hzt;rw[←hfl];refine⟨?_,x_ _ _ (hws.ws [] a0d)⟩;obtain⟨k,L',e1,hk⟩:=hws.st;obtain⟨c,r,e2,-⟩:=hk.ne;rw[e1];simp[di,e2]
theorem a9W(hv:(pY l).1=0)(hs:s∈l.2.2):RuU s:=by obtain⟨i,hi⟩:=yA hs;intro k r hr;exact b5I hv hi hr
theorem a6X(hU:RuU s){o:Int}(h:SX s o=true):∀c∈Hu s o,prB c=true:=by
 unfold SX at h;unfold Hu;cases h1:D5 o (-1)
 case true=>simp only[o7];decide
 cases h2:D5 o (-2)
 case true=>simp only[o7,o5];decide
 rw[h1,h2]at h;exact wZ F6 (a3r (Rn hU h))
variable {k:Int}
theorem a2u{t:O9}{s:List UInt8}(hS:SmL l)(hL:NmL l)(hT:SzT t)(hW:WfT t)(h:dfS tY l k t=(s,0)):bZ l k s=some (t,0,0):=by
 obtain⟨z1,z2,z3⟩:=id hT;unfold dfS at h;cases hv:D5 (pY l).1 0 with
 |false=>rw[hv]at h;exact absurd (show(1:Int)=0 from congrArg (·.2) h) F6|true=>
  have hv0:=dO.1 hv;rw[hv,o7]at h;cases hs:X0 l.2.2 k with
  |none=>rw[hs]at h;exact absurd (show(6:Int)=0 from congrArg (·.2) h) F6|some sc=>
   rw[hs]at h;simp only at h;obtain⟨k0,k1,hm,-⟩:=iQ hs;obtain⟨s1,s2,s3,s4,s5,s6⟩:=hL.s sc hm;cases hd:X0 sc.2.2.2.1 t.1 with
   |none=>rw[hd]at h;exact absurd (show(6:Int)=0 from congrArg (·.2) h) F6|some d=>
    rw[hd]at h;simp only at h;cases h8:I8 8 (x9 t.2.1)with
    |true=>rw[h8]at h;exact absurd (show(4:Int)=0 from congrArg (·.2) h) F6|false=>
     rw[h8,o5]at h;cases hq:D5 (x9 t.2.2.1) (x9 t.2.1)with
     |false=>rw[hq]at h;exact absurd (show(2:Int)=0 from congrArg (·.2) h) F6|true=>
      rw[hq,o7]at h;have hlen:t.2.2.1.length=t.2.1.length:=by have:=dO.1 hq;unfold x9 at this;omega
      have hc8:t.2.1.length<=8:=by have:=rY.1 h8;unfold x9 at this;omega
      have hN:=a6K hL hm;have hD:=a9I hv0 hL hm;have hU:=a9W hv0 hm;generalize hNn:nmS l sc=N at h hN hD;cases hc:gX (BV tY sc N) (t.2.1.zip t.2.2.1) ([100,101,99,105,115,105,111,110,32]++d.1++[10])with
      |inr r=>
       exfalso;rw[hc]at h;simp only at h;have:∀(L:List (List (Int×Int)×Int)) (b:List UInt8) (r:Tm),gX (BV tY sc N) L b= .inr r->r.2≠0:=by
        intro L;induction L with
        |nil=>intro b r h;cases h|cons x L ih=>
         intro b r h;unfold gX at h;cases hg:BV tY sc N b x with
         |inl c=>rw[hg]at h;exact ih c r h|inr q=>
          rw[hg]at h;cases h;unfold BV at hg;cases g1:ruB sc x.2<;>rw[g1]at hg
          .cases hg;exact(by decide:(6:Int)≠0)
          cases g2:D5 (tY x.1 N).2 0<;>rw[g2]at hg
          .cases hg;exact xq.1 g2
          .cases hg
       exact this _ _ _ hc (congrArg (·.2) h)
      |inl b=>
       rw[hc]at h;simp only at h;cases hr:gX (KL sc (x9 t.2.1)) t.2.2.2 b with
       |inr r=>
        exfalso;rw[hr]at h;simp only at h;have:∀(L:List L6) (b:List UInt8) (r:Tm),gX (KL sc (x9 t.2.1)) L b= .inr r->r.2≠0:=by
         intro L;induction L with
         |nil=>intro b r h;cases h|cons x L ih=>
          intro b r h;unfold gX at h;cases hg:KL sc (x9 t.2.1) b x with
          |inl c=>rw[hg]at h;exact ih c r h|inr q=>
           rw[hg]at h;cases h;unfold KL at hg;cases g2:D5 (AQ sc (x9 t.2.1) x) 0<;>rw[g2]at hg
           .cases hg;exact xq.1 g2
           .cases hg
        exact this _ _ _ hr (congrArg (·.2) h)
       |inl y=>
        rw[hr]at h;simp only at h;cases h6:I8 65536 (x9 y)with
        |true=>rw[h6]at h;exact absurd (show(4:Int)=0 from congrArg (·.2) h) F6|false=>
         rw[h6,o5]at h;have hys:y=s:=congrArg (·.1) h;subst hys;have hyl:y.length<=65536:=by have:=rY.1 h6;unfold x9 at this;omega
         obtain⟨e1,c1⟩:=WQ _ _ _ hc;obtain⟨e2,c2⟩:=WR _ _ _ hr;obtain⟨i,hi⟩:=yA hm;obtain⟨dd1,dd2,dd3⟩:=Ai hd;have hdef:=(OV hv0 hi).2 _ _ dd1;have hzl:(t.2.1.zip t.2.2.1).length=t.2.1.length:=by rw[uG];omega
         generalize hLs:([100,101,99,105,115,105,111,110,32]++d.1)::((t.2.1.zip t.2.2.1).map (lnC tY sc N)++t.2.2.2.map (lnR sc (x9 t.2.1)))=ls;have hy:y=eH ls:=by rw[e2,e1,←hLs];simp only[eH,GK];simp
         have hcon:∀x∈t.2.1.zip t.2.2.1,ruB sc x.2=true/\iW (tY x.1 N).1 N=some (x.1,0,0)/\(tY x.1 N).1≠[]/\(tY x.1 N).1.length<=65536:=by
          intro x hx;obtain⟨a1,a2⟩:=c1 x hx;obtain⟨j,hj⟩:=yA hx;have hxI:∀n∈x.1,fJ n.2:=hW.n x.1 (yw (La hj).1);have hle:(tY x.1 N).1.length<=65536:=by
           have hin:lnC tY sc N x∈ls:=by rw[←hLs];exact U2 _ (I4.2 (.inl (List.mem_map_of_mem hx)))
           have:∀(L:List (List UInt8)) w,w∈L->w.length<=(eH L).length:=by
            intro L;induction L with
            |nil=>intro w h;cases h|cons v L ih=>
             intro w h;rcases D6.1 h with rfl|h
             .simp[eH]
             .have:=ih w h;simp[eH];omega
           have:=this ls _ hin;rw[←hy]at this;unfold lnC at this;simp only[E8]at this;omega
          obtain⟨p1,p2⟩:=a3n hN hD hxI a2;refine⟨a1,a4i hN hD hxI ?_ hle,p1,hle⟩;rw[←a2]
         have hpr:∀w∈ls,∀c∈w,prB c=true:=by
          intro w hw;rw[←hLs]at hw;rcases D6.1 hw with rfl|hw
          .exact wZ F6 (a3r hdef.1)
          rcases I4.1 hw with hw|hw
          .obtain⟨x,hx,rfl⟩:=aH.1 hw;obtain⟨a1,a2⟩:=c1 x hx;obtain⟨j,hj⟩:=yA hx;have hxI:∀n∈x.1,fJ n.2:=hW.n x.1 (yw (La hj).1);exact wZ (wZ (wZ F6 (a3r (Rn hU a1))) F6) (a3n hN hD hxI a2).2
          .obtain⟨x,hx,rfl⟩:=aH.1 hw;have hc:=c2 x hx;unfold AQ at hc;cases ht:tvS x.1 (x9 t.2.1)<;>rw[ht]at hc
           .exact absurd (show(3:Int)=0 from hc) F6
           cases ho:SX sc x.2<;>rw[ho]at hc
           .exact absurd (show(6:Int)=0 from hc) F6
           exact wZ (wZ (wZ F6 (λc hc=>(Xz x.1 (x9 t.2.1) c hc).2)) F6) (a6X hU ho)
         have hsp:=a5F (L:=ls) (by rw[←hy];exact hyl) hpr;rw[←hy]at hsp;have hll:ls.length=1+t.2.1.length+t.2.2.2.length:=by rw[←hLs];simp[hzl];omega
         have hloop:P8 (dpF ls) ((0,[],[],[]),pD sc N 0 [] [] [],0)=some (.inl ((0,[],[],[]),pD sc N t.1 t.2.1 t.2.2.1 t.2.2.2)):=by
          unfold P8;rw[show au=(au -2 -t.2.2.2.length -(t.2.1.zip t.2.2.1).length)+1+t.2.2.2.length+(t.2.1.zip t.2.2.1).length+1 by unfold au;omega];have st0:=UT (ls:=ls) (T0:=(0,[],[],[])) l7 (P:=pD sc N 0 [] [] []) (i:=0) (w:=[100,101,99,105,115,105,111,110,32]++d.1) (by rw[←hLs];rfl) (a3A s2 hd hdef.1 hdef.2.2);rw[show((0:Nat):Int)=0 from rfl]at st0;rw[st0];have hdr:ls.drop 1=(t.2.1.zip t.2.2.1).map (lnC tY sc N)++t.2.2.2.map (lnR sc (x9 t.2.1)):=by rw[←hLs];rfl
          obtain⟨a1,a2⟩:=T_ (N:=N) (d:=t.1) (T0:=(0,[],[],[])) hU s3 (ls:=ls) l7 (F:=tY) (t.2.1.zip t.2.2.1) (0+1) [] [] _ (au -2 -t.2.2.2.length -(t.2.1.zip t.2.2.1).length+1+t.2.2.2.length) hdr l7 F9 F9 hcon;rw[a1];have hm1:(t.2.1.zip t.2.2.1).map (·.1)=t.2.1:=List.map_fst_zip l7;have hm2:(t.2.1.zip t.2.2.1).map (·.2)=t.2.2.1:=List.map_snd_zip l7;rw[H7,H7,hm1,hm2];obtain⟨b1,b2⟩:=U_ (N:=N) (d:=t.1) (T0:=(0,[],[],[])) hU s3 (ls:=ls) l7 (cs:=t.2.1) (fr:=t.2.2.1) hc8 t.2.2.2 (0+1+(t.2.1.zip t.2.2.1).length) [] (au -2 -t.2.2.2.length -(t.2.1.zip t.2.2.1).length+1) a2 l7 F9 (λx hx=>⟨hW.r x hx,c2 x hx⟩);rw[b1,bJ,H7];have:dpF ls ((0,[],[],[]),pD sc N t.1 t.2.1 t.2.2.1 t.2.2.2,((0+1+(t.2.1.zip t.2.2.1).length+t.2.2.2.length:Nat):Int))=some (.ex ((0,[],[],[]),pD sc N t.1 t.2.1 t.2.2.1 t.2.2.2)):=by unfold dpF;rw[O6 (by unfold x9;simp only;omega)];rfl
          rw[this]
         unfold bZ;rw[Gg hS,o9,b1y hv0];simp only[J4 (rfl:(0:Int)=0),oP,F5,o5,o7];rw[O6 k0,o5,bG k1,o5,o9,J7,hsp,o9];simp only[J4 (rfl:(0:Int)=0),F5,o5];rw[I9 (show x9 ls≠0 by unfold x9;omega),o5,hs,o9,QG hL hs,o9,hNn];refine J3 hloop ?_;rfl
theorem a1f(n:Int):fJ (IntKind.wrap .i64 n):=by unfold fJ IntKind.wrap;simp[IntKind.signed,IntKind.bits];omega
theorem Vb(a b:Int):fJ (I5 .i64 a b):=a1f _
theorem a0m(a b:Int):fJ (ae .i64 a b):=a1f _
theorem mG:fJ 0:=by unfold fJ;omega
def Asc(s:List UInt8):Prop:=∀c∈s,c.toNat<128
theorem Wv{s:List UInt8}(h:Asc s)(i:Nat):Asc (s.drop i):=λc hc=>h c (List.mem_of_mem_drop hc)
theorem Ya{s:List UInt8}(hl:s.length<=1000000)(hi:i<=s.length):∃j:Nat,nX s (i:Int)=some (j:Int)/\i<=j/\j<=s.length:=by
 unfold nX;have:=gJ (f:=λ(x:Int×Bool)=>
   l9 (I8 x.1 (x9 s))
    (o6 (sat s x.1) λ(x_1:Int)=>
     l9 x.2 (l9 (D5 x_1 10) (some (Out.rt x.1)) (some (Out.nx (I5 IntKind.i64 x.1 1,x.2))))
      (l9 (D5 x_1 35) (some (Out.nx (I5 IntKind.i64 x.1 1,true)))
       (l9 (H9 (D5 x_1 32))
        (l9 (H9 (D5 x_1 9)) (some (Out.rt x.1)) (some (Out.nx (I5 IntKind.i64 x.1 1,x.2))))
        (some (Out.nx (I5 IntKind.i64 x.1 1,x.2))))))
    (some (Out.ex x.1))) (s:=((i:Int),false)) (λx=>∃j:Nat,x.1=(j:Int)/\i<=j/\j<=s.length) (λe=>∃j:Nat,e=(j:Int)/\i<=j/\j<=s.length) (λe=>∃j:Nat,e=(j:Int)/\i<=j/\j<=s.length) (λx=>s.length -x.1.toNat) ⟨i,rfl,l7,hi⟩ F9 (by
  rintro⟨x,b⟩ ⟨j,hj,h1,h2⟩;simp only at hj;subst hj;by_cases hlt:j<s.length
  .have hc:=lG hlt;have nx:∀b' :Bool,∃s',(some (Out.nx (I5 IntKind.i64 (j:Int) 1,b')):Option (Out (Int×Bool) Int Int))=some (.nx s')/\(∃j' :Nat,s'.1=(j' :Int)/\i<=j' /\j' <=s.length)/\s.length -s'.1.toNat<s.length -((j:Int)).toNat:=
    λb' =>⟨_,rfl,⟨j+1,by simp only;rw[Z8 l7],l7,hlt⟩,by simp only;rw[Z8 l7,D8,D8];omega⟩
   simp only[V8 hc,o7,oJ,hc,aQ,o9];cases b
   .simp only[o5];cases D5 ((s[j].toNat:Nat):Int) 35
    .simp only[o5];cases D5 ((s[j].toNat:Nat):Int) 32
     .simp only[P7,o7];cases D5 ((s[j].toNat:Nat):Int) 9
      .exact .inr (.inr ⟨_,rfl,j,rfl,h1,h2⟩)
      .exact .inl (nx _)
     .exact .inl (nx _)
    .exact .inl (nx _)
   .simp only[o7];cases D5 ((s[j].toNat:Nat):Int) 10
    .exact .inl (nx _)
    .exact .inr (.inr ⟨_,rfl,j,rfl,h1,h2⟩)
  .rw[O6 (by unfold x9;simp only;omega)];exact .inr (.inl ⟨_,rfl,j,rfl,h1,h2⟩))
 rcases this with⟨e,h,j,rfl,h1,h2⟩|⟨e,h,j,rfl,h1,h2⟩
 .exact⟨j,by refine J3 h ?_;rfl,h1,h2⟩
 .exact⟨j,by refine J3 h ?_;rfl,h1,h2⟩
theorem Xp(s:List UInt8)(p:Nat):∃q:Nat,uU s (p:Int)=(q:Int)/\p<q:=by
 refine⟨p+(Utf8.decode ⟨s.toArray⟩ p).2,?_,?_⟩
 .unfold uU;rw[D8];omega
 .have:1<=(Utf8.decode ⟨s.toArray⟩ p).2:=by
   unfold Utf8.decode;simp only
   repeat' split
   all_goals simp
  omega
theorem IU(s p:List UInt8):Y6 s p=some (p.isPrefixOf s):=rfl
theorem EK(s p:List UInt8)(hl:s.length<=1000000):∃t b,bH s p=some (t,b)/\t.length<=s.length/\(b=true->s=p++t)/\(b=false->t=s):=by
 unfold bH iM iC Lib.hasPrefix;cases h:p.isPrefixOf s
 .exact⟨s,false,rfl,C9 _,(λh=>by cases h),λ_=>rfl⟩
 .obtain⟨t,ht⟩:=fZ.1 h;refine⟨t,true,?_,by rw[←ht];simp,λ_=>ht.symm,λh=>by cases h⟩;rw[o9,F5,o5,iR (by unfold x9;omega) (by unfold x9;rw[←ht];simp;omega),o9,o9];congr 2;unfold x9;rw[D8,←ht,X4]
theorem YO(s:List UInt8)(hl:s.length<=1000000):∃v b,rP s=some (v,b):=by
 unfold rP;have:=gJ (f:=ddF) (s:=(0,s,0)) (λx=>∃p:Nat,x.2.1=s/\x.2.2=(p:Int)) (λ_=>True) (λ_=>True) (λx=>s.length -x.2.2.toNat) ⟨0,rfl,rfl⟩ F9 (by
  rintro⟨v,s',q⟩ ⟨p,h1,h2⟩;simp only at h1 h2;subst h1 h2;unfold ddF;by_cases hlt:p<s'.length
  .obtain⟨q,hq,hpq⟩:=Xp s' p;rw[Y0 (by unfold x9;simp only;omega),o7];simp only[hq];cases I8 (ou s' (p:Int)) 48
   .cases I8 57 (ou s' (p:Int))
    .exact .inl ⟨_,rfl,⟨q,rfl,rfl⟩,by simp only;rw[D8,D8];omega⟩
    .exact .inr (.inr ⟨_,rfl,trivial⟩)
   .exact .inr (.inr ⟨_,rfl,trivial⟩)
  .rw[O6 (by unfold x9;simp only;omega)];exact .inr (.inl ⟨_,rfl,trivial⟩))
 rcases this with⟨e,h,-⟩|⟨e,h,-⟩
 .exact⟨e,true,by refine J3 h ?_;rfl⟩
 .exact⟨e.1,e.2,by refine J3 h ?_;rfl⟩
theorem WS(y m d:Int):∃v c,mO y m d=some (v,c)/\fJ v:=by
 by_cases hy:1900<=y/\y<=2199
 .by_cases hm:1<=m/\m<=12
  .by_cases h1:1<=d
   .by_cases h2:d<=dim y m
    .refine⟨_,_,Qg hy hm h1 h2,?_⟩;have a:=a9k hy.1 l7;have b:=OD y (m -1).toNat l7;have c:=EQ y m;show fJ (ys y+CW y (m -1).toNat+d -1);unfold fJ;omega
    .refine⟨0,3,?_,mG⟩;unfold mO;rw[O6 hy.1,o5,O6 hy.2,o5,O6 hm.1,o5,O6 hm.2,o5,O6 h1,o5,qR l7 hm,o9,Y0 l7];rfl
   .refine⟨0,3,?_,mG⟩;unfold mO;rw[O6 hy.1,o5,O6 hy.2,o5,O6 hm.1,o5,O6 hm.2,o5,Y0 l7];rfl
  .refine⟨0,3,?_,mG⟩;unfold mO;rw[O6 hy.1,o5,O6 hy.2,o5];by_cases h3:m<1
   .rw[Y0 h3];rfl
   .rw[O6 l7,o5,Y0 l7];rfl
 .refine⟨0,3,?_,mG⟩;unfold mO;by_cases h3:y<1900
  .rw[Y0 h3];rfl
  .rw[O6 l7,o5,Y0 l7];rfl
theorem SB(s:List UInt8)(hl:s.length<=1000000):∃v c,yh s=some (v,c)/\fJ v:=by
 unfold yh;by_cases h10:x9 s=10
 .have hlen:s.length=10:=by unfold x9 at h10;omega
  have e4:sat s 4=some (s[4].toNat:Int):=by rw[show(4:Int)=((4:Nat):Int)from rfl,oJ,lG l7];rfl
  have e7:sat s 7=some (s[7].toNat:Int):=by rw[show(7:Int)=((7:Nat):Int)from rfl,oJ,lG l7];rfl
  rw[J4 h10,F5,o5,e4,o9];cases D5 ((s[4].toNat:Nat):Int) 45
  .exact⟨0,2,rfl,mG⟩
  rw[F5,o5,e7,o9];cases D5 ((s[7].toNat:Nat):Int) 45
  .exact⟨0,2,rfl,mG⟩
  rw[F5,o5,o9,J7,qA l7 l7,o9,GM l7 l7 l7,iR l7 l7];obtain⟨v1,b1,h1⟩:=YO (s.take (4:Int).toNat) F9;obtain⟨v2,b2,h2⟩:=YO ((s.take (7:Int).toNat).drop (5:Int).toNat) F9;obtain⟨v3,b3,h3⟩:=YO (s.drop (8:Int).toNat) F9;rw[h1,o9,o9,h2,o9,o9,h3,o9];cases b1
  .exact⟨0,2,rfl,mG⟩
  cases b2
  .exact⟨0,2,rfl,mG⟩
  cases b3
  .exact⟨0,2,rfl,mG⟩
  obtain⟨v,c,h,hi⟩:=WS v1 v2 v3;exact⟨v,c,by simp only[F5,o5];rw[h];rfl,hi⟩
 .rw[I9 h10];exact⟨0,2,rfl,mG⟩
theorem a9J(t:List UInt8)(p:Int)(hl:t.length<=1000000):(∃v b,P8 (npF p) (0,false,t,0)=some (.inl (v,b))/\fJ v)\/∃r,P8 (npF p) (0,false,t,0)=some (.inr r)/\r=(0,2):=by
 have:=gJ (f:=npF p) (s:=(0,false,t,0)) (λx=>∃q:Nat,x.2.2.1=t/\x.2.2.2=(q:Int)/\fJ x.1) (λe=>fJ e.1) (λr=>r=(0,2)) (λx=>t.length -x.2.2.2.toNat) ⟨0,rfl,rfl,mG⟩ F9 (by
  rintro⟨v,b,s',q⟩ ⟨q',h1,h2,h3⟩;simp only at h1 h2 h3;subst h1 h2;unfold npF;by_cases hlt:q' <s'.length
  .obtain⟨nq,hq,hpq⟩:=Xp s' q';have nx:∀(v' :Int) (b' :Bool),fJ v' ->∃s'',(some (Out.nx (v',b',s',(nq:Int))):Option (Out (Int×Bool×List UInt8×Int) (Int×Bool) (Int×Int)))=some (.nx s'')/\(∃q:Nat,s''.2.2.1=s' /\s''.2.2.2=(q:Int)/\fJ s''.1)/\s'.length -s''.2.2.2.toNat<s'.length -((q' :Int)).toNat:=
    λv' b' hv=>⟨_,rfl,⟨nq,rfl,rfl,hv⟩,by simp only;rw[D8,D8];omega⟩
   rw[Y0 (by unfold x9;simp only;omega),o7];simp only[hq];cases D5 (q' :Int) p
   .simp only[o5];have hd:∃b,nY (ou s' (q' :Int))=some b:=by
     unfold nY;cases V6 48 (ou s' (q' :Int))<;>exact⟨_,rfl⟩
    obtain⟨b2,hd⟩:=hd;rw[hd,o9];cases b2
    .exact .inr (.inr ⟨_,rfl,rfl⟩)
    simp only[F5,o5];cases b
    .simp only[o5];cases I8 461168601842738790 v
     .exact .inl (nx _ _ (Vb _ _))
     .exact .inl (nx _ _ h3)
    .exact .inl (nx _ _ h3)
   .simp only[o7];cases D5 (ou s' (q' :Int)) 46
    .exact .inr (.inr ⟨_,rfl,rfl⟩)
    .exact .inl (nx _ _ h3)
  .rw[O6 (by unfold x9;simp only;omega)];exact .inr (.inl ⟨_,rfl,h3⟩))
 rcases this with⟨e,h,hi⟩|⟨r,h,hi⟩
 .exact .inl ⟨e.1,e.2,h,hi⟩
 .exact .inr ⟨r,h,hi⟩
theorem Je(s:List UInt8)(k:Int)(hk:0<=k/\k<=10)(hl:s.length<=100000):∃v c,mQ s k=some (v,c)/\fJ v:=by
 obtain⟨t,b,h1,h2,-,-⟩:=EK s [45] l7;unfold mQ;rw[h1,o9];simp only;obtain⟨w,hw,hwb⟩:∃w:Int,(l9 (I8 0 k) (some (ae IntKind.i64 (x9 t) (I5 IntKind.i64 k 1))) (some (x9 t)))=some w/\(w<=x9 t):=by
  cases hh:I8 0 k
  .exact⟨_,rfl,oQ _⟩
  .have:=wo.1 hh;refine⟨_,rfl,?_⟩;rw[aA af,fA (by unfold fJ x9;omega)];omega
 refine(show ∃v c,o6 (l9 (I8 0 k) (some (ae IntKind.i64 (x9 t) (I5 IntKind.i64 k 1))) (some (x9 t))) _=some (v,c)/\fJ v from ?_);rw[hw,o9];by_cases h3:w<1
 .rw[Y0 h3];exact⟨0,2,rfl,mG⟩
 rw[O6 l7,o5];have hin:(∃q,(l9 (I8 1 w) (o6 (sat t 0) λ(x:Int)=>l9 (D5 x 48) (some (Sum.inr (0,2))) (some (Sum.inl PUnit.unit))) (some (Sum.inl PUnit.unit)):Option (PUnit⊕(Int×Int)))=some q/\(q= .inl PUnit.unit\/q= .inr (0,2))):=by
  cases I8 1 w
  .exact⟨_,rfl,.inl rfl⟩
  .have htl:0<t.length:=by unfold x9 at hwb;omega
   have e0:sat t 0=some (t[0].toNat:Int):=by rw[show(0:Int)=((0:Nat):Int)from rfl,oJ,lG htl];rfl
   rw[o7,e0,o9];cases D5 ((t[0].toNat:Nat):Int) 48
   .exact⟨_,rfl,.inl rfl⟩
   .exact⟨_,rfl,.inr rfl⟩
 obtain⟨q,hq,hq2⟩:=hin;refine(show ∃v c,o6 (l9 (I8 1 w) (o6 (sat t 0) λ(x:Int)=>l9 (D5 x 48) (some (Sum.inr (0,2))) (some (Sum.inl PUnit.unit))) (some (Sum.inl PUnit.unit)):Option (PUnit⊕(Int×Int))) _=some (v,c)/\fJ v from ?_);rw[hq,o9];rcases hq2 with rfl|rfl
 .rw[J7];have fin:∀v:Int,∀o:Bool,fJ v->∃r c,(l9 o (some ((0:Int),(3:Int))) (l9 b (some (ae IntKind.i64 0 v,0)) (some (v,0))))=some (r,c)/\fJ r:=by
   intro v o hv;cases o
   .cases b
    .exact⟨_,_,rfl,hv⟩
    .exact⟨_,_,rfl,a0m _ _⟩
   .exact⟨_,_,rfl,mG⟩
  rcases a9J t w l7 with⟨v,o,hlp,hv⟩|⟨r,hlp,rfl⟩
  .refine(show ∃v c,o6 (P8 (npF w) (0,false,t,0)) _=some (v,c)/\fJ v from ?_);rw[hlp,o9,J7];cases hb:b
   .rw[hb]at fin;exact fin v o hv
   .rw[hb]at fin;simp only[o7];cases D5 v 0
    .exact fin v o hv
    .cases o
     .exact⟨0,2,rfl,mG⟩
     .exact fin v true hv
  .refine(show ∃v c,o6 (P8 (npF w) (0,false,t,0)) _=some (v,c)/\fJ v from ?_);rw[hlp];exact⟨0,2,rfl,mG⟩
 .exact⟨0,2,rfl,mG⟩
def ScT(s:List UInt8)(o:Option (U7×H5)):Prop:=∃t n c,o=some (t,n,c)/\fJ t.2.2.1/\t.2.1.length<=s.length/\(c=0->∃k:Nat,n=(k:Int)/\1<=k/\k<=s.length)
theorem yN{s:List UInt8}(c:Int)(hc:c≠0):ScT s (some ((0,[],0,0),0,c)):=⟨_,_,_,rfl,mG,A7,λh=>absurd h hc⟩
theorem MV{s:List UInt8}(h:i<s.length):sat s (i:Int)=some ((s[i].toNat:Nat):Int):=by rw[oJ,lG h];rfl
theorem UM(s:List UInt8)(hl:s.length<=1000000):∃b,kM s=some b/\(b=true->10<=s.length):=by
 unfold kM;rw[show fF s 0=_ from iV hl 0 l7,o9];cases D5 ((((s.drop 0).takeWhile qM).length:Nat):Int) 4
 .exact⟨false,rfl,λh=>by cases h⟩
 rw[o7,show fF s 5=_ from iV hl 5 l7,o9];cases D5 ((((s.drop 5).takeWhile qM).length:Nat):Int) 2
 .exact⟨false,rfl,λh=>by cases h⟩
 rw[o7,show fF s 8=_ from iV hl 8 l7,o9];cases h8:V6 2 ((((s.drop 8).takeWhile qM).length:Nat):Int)
 .exact⟨false,rfl,λh=>by cases h⟩
 have h8:=ul.1 h8;have hlen:=(fP qM (l:=s.drop 8)).length_le;rw[Y5]at hlen;have h10:10<=s.length:=l7;rw[o7,show sat s 4=_ from MV (i:=4) l7,o9];cases D5 ((s[4].toNat:Nat):Int) 45
 .exact⟨false,rfl,λh=>by cases h⟩
 rw[o7,show sat s 7=_ from MV (i:=7) l7,o9];exact⟨_,rfl,λ_=>h10⟩
theorem Qi(s:List UInt8)(k:Int)(hl:s.length<=1000000)(hk:0<=k):∃b,fG s k=some b/\(b=true->1+k<=s.length):=by
 unfold fG;rw[IU,o9];cases hp:[46].isPrefixOf s
 .exact⟨false,rfl,λh=>by cases h⟩
 obtain⟨t,ht⟩:=fZ.1 hp;have htl:=congrArg List.length ht;simp only[E8,ja]at htl;rw[o7,show fF s 1=_ from iV hl 1 l7,o9];refine⟨_,rfl,λh=>?_⟩;have h:=dO.1 h;have hlen:=(fP qM (l:=s.drop 1)).length_le;rw[Y5]at hlen;omega
theorem Zq(k:Int)(s:List UInt8)(hl:s.length<=100000)(hk:k=2\/k=3\/k=5\/(k=4/\1<=s.length)):∃v c,gu k s=some (v,c)/\fJ v:=by
 have fin:∀(v c lim:Int),fJ v->∃v' c',(l9 (D5 c 0) (l9 (I8 lim v) (some (v,(3:Int))) (some (v,c))) (some (v,c)))=some (v',c')/\fJ v' :=by
  intro v c lim hv;cases D5 c 0
  .exact⟨_,_,rfl,hv⟩
  .cases I8 lim v
   .exact⟨_,_,rfl,hv⟩
   .exact⟨_,_,rfl,hv⟩
 unfold gu vF mg;rcases hk with rfl|rfl|rfl|⟨rfl,h1⟩
 .obtain⟨v,c,h,hv⟩:=Je s 0 l7 hl;simp (disch:=decide) only[I9,o5];rw[h,o9,o9];exact fin v c _ hv
 .obtain⟨v,c,h,hv⟩:=Je s 2 l7 hl;simp (disch:=decide) only[I9,J4,o5,o7];rw[show iG 2=some 2 from rfl,o9,h,o9,o9];exact fin v c _ hv
 .obtain⟨v,c,h,hv⟩:=SB s l7;simp (disch:=decide) only[I9,J4,o5,o7];rw[h,o9];exact fin v c _ hv
 .have hcut:bQ s 0 (ae .i64 (x9 s) 1)=some (s.take (x9 s -1).toNat):=by
   rw[fA (by unfold fJ x9;omega),qA (by unfold x9;omega) (by unfold x9;omega)]
  obtain⟨v,c,h,hv⟩:=Je (s.take (x9 s -1).toNat) 4 l7 F9;simp (disch:=decide) only[I9,J4,o5,o7];rw[hcut,o9,show iG 4=some 4 from rfl,o9,h,o9,o9];exact fin v c _ hv
theorem XY(s:List UInt8)(hl:s.length<=100000)(h0:1<=((s.takeWhile qM).length)):ScT s (jr s):=by
 have hwl:=(fP qM (l:=s)).length_le;have fin:∀(k:Int) (n:Nat),1<=n->n<=s.length->(k=2\/k=3\/k=4\/k=5)->ScT s ((λ(x:U7×H5)=>
   o6
    (l9 (I8 x.2.2 (x9 s))
     (o6 (sat s x.2.2) λ(x_1:Int)=>
      o6 (jo x_1) λ(x_2:Bool)=>
       l9 x_2 (some (Sum.inr ((0,[],0,0),0,2)))
        (l9 (V6 65 x_1)
         (l9 (V6 x_1 90) (some (Sum.inr ((0,[],0,0),0,2)))
          (o6 (dG x_1) λ(x_3:Bool)=>
           l9 x_3 (some (Sum.inr ((0,[],0,0),0,2)))
            (l9 (D5 x_1 95) (some (Sum.inr ((0,[],0,0),0,2)))
             (l9 (D5 x_1 46) (some (Sum.inr ((0,[],0,0),0,2))) (some (Sum.inl x.1))))))
         (o6 (dG x_1) λ(x_3:Bool)=>
          l9 x_3 (some (Sum.inr ((0,[],0,0),0,2)))
           (l9 (D5 x_1 95) (some (Sum.inr ((0,[],0,0),0,2)))
            (l9 (D5 x_1 46) (some (Sum.inr ((0,[],0,0),0,2))) (some (Sum.inl x.1)))))))
     (some (Sum.inl x.1)))
    λ(o:U7⊕U7×H5)=>
    bP o
     (λ(x_1:U7)=>
      o6 (bQ s 0 x.2.2) λ(x_2:List UInt8)=>
       o6 (gu x.2.1 x_2) λ(x_3:H5)=>
        l9 (H9 (D5 x_3.2 0)) (some ((0,[],0,0),0,3))
         (o6 (bQ s 0 x.2.2) λ(x_4:List UInt8)=>some ((x.2.1,x_4,x_3.1,0),x.2.2,0)))
     λ(r:U7×H5)=>some r) ((0,[],0,0),k,(n:Int))):=by
  intro k n hn1 hn2 hk;simp only;have e1:∃q:U7⊕U7×H5,(l9 (I8 (n:Int) (x9 s))
     (o6 (sat s (n:Int)) λ(x_1:Int)=>
      o6 (jo x_1) λ(x_2:Bool)=>
       l9 x_2 (some (Sum.inr ((0,[],0,0),0,2)))
        (l9 (V6 65 x_1)
         (l9 (V6 x_1 90) (some (Sum.inr ((0,[],0,0),0,2)))
          (o6 (dG x_1) λ(x_3:Bool)=>
           l9 x_3 (some (Sum.inr ((0,[],0,0),0,2)))
            (l9 (D5 x_1 95) (some (Sum.inr ((0,[],0,0),0,2)))
             (l9 (D5 x_1 46) (some (Sum.inr ((0,[],0,0),0,2))) (some (Sum.inl ((0,[],0,0):U7)))))))
         (o6 (dG x_1) λ(x_3:Bool)=>
          l9 x_3 (some (Sum.inr ((0,[],0,0),0,2)))
           (l9 (D5 x_1 95) (some (Sum.inr ((0,[],0,0),0,2)))
            (l9 (D5 x_1 46) (some (Sum.inr ((0,[],0,0),0,2))) (some (Sum.inl (0,[],0,0))))))))
     (some (Sum.inl (0,[],0,0))))=some q/\(q= .inl (0,[],0,0)\/q= .inr ((0,[],0,0),0,2)):=by
   by_cases hlt:n<s.length
   .rw[Y0 (by unfold x9;omega),o7,MV hlt,o9,yX,o9,Ae];cases Ci s[n]
    .cases V6 65 ((s[n].toNat:Nat):Int)<;>cases V6 ((s[n].toNat:Nat):Int) 90<;>cases qM s[n]<;>cases D5 ((s[n].toNat:Nat):Int) 95<;>cases D5 ((s[n].toNat:Nat):Int) 46<;>first|exact⟨_,rfl,.inl rfl⟩|exact⟨_,rfl,.inr rfl⟩
    .exact⟨_,rfl,.inr rfl⟩
   .rw[O6 (by unfold x9;omega)];exact⟨_,rfl,.inl rfl⟩
  obtain⟨q,hq,hq2⟩:=e1;rw[hq,o9];rcases hq2 with rfl|rfl
  .rw[J7,qA l7 l7,o9,D8];obtain⟨v,c,h,hv⟩:=Zq k (s.take n) F9 (by
    rcases hk with rfl|rfl|rfl|rfl
    .exact .inl rfl
    .exact .inr (.inl rfl)
    .exact .inr (.inr (.inr ⟨rfl,by simp;omega⟩))
    .exact .inr (.inr (.inl rfl)))
   rw[h,o9];simp only;cases D5 c 0
   .exact yN 3 F6
   .exact⟨_,_,_,rfl,hv,by simp;omega,λ_=>⟨n,rfl,hn1,hn2⟩⟩
  .exact yN 2 F6
 unfold jr;obtain⟨b,hb,hb10⟩:=UM s l7;rw[hb,o9];cases b
 .rw[P7,o7];have e0:=iV (s:=s) l7 0 l7;rw[aX,show((0:Nat):Int)=0 from rfl]at e0;generalize hd:(s.takeWhile qM).length=d at*;have hs:bQ s (d:Int) (x9 s)=some (s.drop d):=by rw[iR l7 l7,D8]
  have hkind:∃(k:Int) (n:Nat),(o6 (bQ s (d:Int) (x9 s)) λ(x_1:List UInt8)=>
      o6 (fG x_1 2) λ(x_2:Bool)=>
       l9 x_2 (some (3,I5 IntKind.i64 (d:Int) 3))
        (o6 (bQ s (d:Int) (x9 s)) λ(x_3:List UInt8)=>
         o6 (fG x_3 4) λ(x_4:Bool)=>
          l9 x_4
           (o6 (bQ s (I5 IntKind.i64 (d:Int) 5) (x9 s)) λ(x_5:List UInt8)=>
            o6 (Y6 x_5 [37]) λ(x_6:Bool)=>
             l9 x_6 (some (4,I5 IntKind.i64 (d:Int) 6)) (some (2,(d:Int))))
           (some (2,(d:Int)))))=(some (k,(n:Int)):Option (Int×Int))/\1<=n/\n<=s.length/\(k=2\/k=3\/k=4\/k=5):=by
   rw[hs,o9];obtain⟨b2,h2,l2⟩:=Qi (s.drop d) 2 F9 l7;rw[h2,o9];cases b2
   .rw[o5,o9];obtain⟨b4,h4,l4⟩:=Qi (s.drop d) 4 F9 l7;rw[h4,o9];cases b4
    .exact⟨2,d,rfl,h0,hwl,.inl rfl⟩
    .have l4:=l4 rfl;rw[Y5]at l4;rw[o7,show I5 .i64 (d:Int) 5=((d+5:Nat):Int) by rw[aA af];omega,iR l7 l7,o9,IU,o9,D8];cases h37:[37].isPrefixOf (s.drop (d+5))
     .exact⟨2,d,rfl,h0,hwl,.inl rfl⟩
     .obtain⟨t,ht⟩:=fZ.1 h37;have:=congrArg List.length ht;simp at this;refine⟨4,d+6,?_,l7,l7,.inr (.inr (.inl rfl))⟩;rw[o7,show I5 .i64 (d:Int) 6=((d+6:Nat):Int) by rw[aA af];omega]
   .have l2:=l2 rfl;rw[Y5]at l2;refine⟨3,d+3,?_,l7,l7,.inr (.inl rfl)⟩;rw[o7,show I5 .i64 (d:Int) 3=((d+3:Nat):Int) by rw[aA af];omega]
  obtain⟨k,n,hk,hn1,hn2,hkk⟩:=hkind;rw[e0,o9,hk,o9];have hz:∃q:U7×H5⊕U7×H5,(l9 (I8 1 (d:Int))
      (o6 (sat s 0) λ(x:Int)=>
       l9 (D5 x 48) (some (Sum.inr ((0,[],0,0),0,2))) (some (Sum.inl (((0,[],0,0):U7),k,(n:Int)))))
      (some (Sum.inl ((0,[],0,0),k,(n:Int)))))=some q/\(q= .inl ((0,[],0,0),k,(n:Int))\/q= .inr ((0,[],0,0),0,2)):=by
   cases I8 1 (d:Int)
   .exact⟨_,rfl,.inl rfl⟩
   .rw[o7,show sat s 0=_ from MV (i:=0) l7,o9];cases D5 ((s[0].toNat:Nat):Int) 48
    .exact⟨_,rfl,.inl rfl⟩
    .exact⟨_,rfl,.inr rfl⟩
  obtain⟨q,hq,hq2⟩:=hz;rw[hq,o9];rcases hq2 with rfl|rfl
  .rw[J7];exact fin k n hn1 hn2 hkk
  .exact yN 2 F6
 .rw[F5,o5,o9,J7];exact fin 5 10 l7 (hb10 rfl) (.inr (.inr (.inr rfl)))
theorem Xi{s:List UInt8}{a b:Nat}(h1:a<=b)(h2:b<=s.length):bQ s (a:Int) (b:Int)=some ((s.take b).drop a):=by rw[GM l7 l7 l7,D8,D8]
theorem TQ(cs:List UInt8):∀l:List UInt8,-1<=Lib.indexAny l cs/\Lib.indexAny l cs<l.length
 |[]=>by simp[Lib.indexAny]|b::l=>by
  have ih:=TQ cs l;unfold Lib.indexAny;split
  .simp<;>omega
  .split
   .simp;omega
   .simp;omega
theorem VK(s:List UInt8)(hl:s.length<=1000000)(h0:1<=(s.takeWhile tq).length):ScT s (uK s):=by
 have hw:=(fP tq (l:=s)).length_le;unfold uK;rw[QF hl,o9];cases I8 16 ((s.takeWhile tq).length:Int)
 .rw[o5,qA l7 l7,o9,D8];exact⟨_,_,_,rfl,mG,by simp;omega,λ_=>⟨_,rfl,h0,hw⟩⟩
 .exact yN 4 F6
theorem Ry(s:List UInt8)(hl:s.length<=100000)(hA:Asc s)(h0:1<=s.length):ScT s (vC s):=by
 have hs1:bQ s 1 (x9 s)=some (s.drop 1):=iR (lo:=1) l7 l7;unfold vC;rw[hs1,o9];have hany:vg (s.drop 1) [34,10]=some (Lib.indexAny (s.drop 1) [34,10]):=by
  unfold vg;have a1:Nat.blt (s.drop 1).length 4294967281=true:=by rw[bf];simp;omega
  have a2:IG (s.drop 1)=true:=by unfold IG;rw[bV];intro c hc;rw[bf];exact Wv hA 1 c hc
  rw[a1,a2];rfl
 rw[hany,o9];obtain⟨b1,b2⟩:=TQ [34,10] (s.drop 1);generalize Lib.indexAny (s.drop 1) [34,10]=x at b1 b2;rw[Y5]at b2;by_cases hx:x<0
 .rw[Y0 hx];exact yN 5 F6
 obtain⟨k,rfl⟩:∃k:Nat,x=(k:Int):=⟨x.toNat,l7⟩;have b3:k+1<s.length:=by have:=Int.ofNat_lt.1 b2;omega
 have e1:I5 .i64 1 (k:Int)=((1+k:Nat):Int):=by rw[aA af];omega
 rw[O6 l7,o5,e1,MV (i:=1+k) l7,o9];cases D5 ((s[1+k].toNat:Nat):Int) 10
 case true=>exact yN 5 F6
 rw[o5,show bQ s 1 ((1+k:Nat):Int)=_ from Xi (a:=1) l7 l7,o9];generalize hw:(s.take (1+k)).drop 1=w;have hwl:w.length=k:=by rw[←hw];simp;omega
 have hloop:=gJ (f:=λ(x:U7×Int)=>
         l9 (I8 x.2 (x9 w))
          (o6 (sat w x.2) λ(x_3:Int)=>
           l9 (I8 x_3 32) (some (Out.rt (((0,[],0,0):U7),((0:Int),(2:Int)))))
            (o6 (sat w x.2) λ(x_4:Int)=>
             l9 (I8 126 x_4) (some (Out.rt ((0,[],0,0),0,2)))
              (some (Out.nx (x.1,I5 IntKind.i64 x.2 1)))))
          (some (Out.ex x.1))) (s:=(((0,[],0,0):U7),0)) (λx=>∃j:Nat,x.2=(j:Int)/\j<=w.length) (λ_=>True) (λr=>r=((0,[],0,0),0,2)) (λx=>w.length -x.2.toNat) ⟨0,rfl,l7⟩ F9 (by
  rintro⟨t,q⟩ ⟨j,h1,h2⟩;simp only at h1;subst h1;by_cases hlt:j<w.length
  .rw[Y0 (by unfold x9;simp only;omega),o7];simp only;rw[MV hlt,o9,o9];cases I8 ((w[j].toNat:Nat):Int) 32
   .cases I8 126 ((w[j].toNat:Nat):Int)
    .exact .inl ⟨_,rfl,⟨j+1,by simp only;rw[Z8 l7],l7⟩,by simp only;rw[Z8 l7,D8,D8];omega⟩
    .exact .inr (.inr ⟨_,rfl,rfl⟩)
   .exact .inr (.inr ⟨_,rfl,rfl⟩)
  .rw[O6 (by unfold x9;simp only;omega)];exact .inr (.inl ⟨_,rfl,trivial⟩))
 rcases hloop with⟨e,h,-⟩|⟨e,h,rfl⟩
 .refine(show ScT s (o6 (P8 _ (((0,[],0,0):U7),0)) _)from ?_);rw[h,o9,J7];cases I8 64 (k:Int)
  .rw[o5];have q1:I5 .i64 (k:Int) 2=((k+2:Nat):Int):=by rw[aA af];omega
   have q2:w.length<=s.length:=l7;exact⟨_,_,_,rfl,mG,q2,λ_=>⟨k+2,q1,l7,l7⟩⟩
  .exact yN 4 F6
 .refine(show ScT s (o6 (P8 _ (((0,[],0,0):U7),0)) _)from ?_);rw[h];exact yN 2 F6
theorem a4X(s:List UInt8)(hl:s.length<=100000)(hA:Asc s)(h0:1<=s.length):ScT s (nV s):=by
 cases s with
 |nil=>simp at h0|cons c r=>
  have h1:ScT (c::r) (o6 (bQ (c::r) 0 1) λ(x:List UInt8)=>some ((7,x,0,0),1,0)):=by rw[show(1:Int)=((1:Nat):Int)from rfl,qA l7 F9,o9];exact⟨_,_,_,rfl,mG,A7,λ_=>⟨1,rfl,l7,h0⟩⟩
  have h2:∀b:Bool,ScT (c::r) (o6 (bQ (c::r) 1 (x9 (c::r))) λ(x_3:List UInt8)=>
         o6 (Y6 x_3 [61]) λ(x_4:Bool)=>
          l9 x_4 (o6 (bQ (c::r) 0 2) λ(x:List UInt8)=>some ((7,x,0,0),2,0))
           (l9 b (some ((0,[],0,0),0,2))
            (o6 (bQ (c::r) 0 1) λ(x:List UInt8)=>some ((7,x,0,0),1,0)))):=by
   intro b;rw[iR l7 F9,o9,IU,o9];cases hp:[61].isPrefixOf ((c::r).drop (1:Int).toNat)
   .rw[o5];cases b
    .exact h1
    .exact yN 2 F6
   .obtain⟨t,ht⟩:=fZ.1 hp;have htl:=congrArg List.length ht;simp at htl;rw[o7,show(2:Int)=((2:Nat):Int)from rfl,qA l7 F9,o9];exact⟨_,_,_,rfl,mG,by simp;omega,λ_=>⟨2,rfl,l7,by simp;omega⟩⟩
  unfold nV;rw[show sat (c::r) 0=some (c.toNat:Int)from rfl,o9,yX,o9,Ae,o9];cases D5 (c.toNat:Int) 10
  case true=>rw[o7,show(1:Int)=((1:Nat):Int)from rfl,qA l7 F9,o9];exact⟨_,_,_,rfl,mG,A7,λ_=>⟨1,rfl,l7,h0⟩⟩
  rw[o5];cases hlow:Ci c
  case true=>rw[o7,aB];exact VK _ l7 (by rw[iU (by unfold tq;rw[hlow];rfl)];simp)
  rw[o5];cases hdg:qM c
  case true=>rw[o7,aB];exact XY _ hl (by rw[iU hdg];simp)
  rw[o5];cases D5 (c.toNat:Int) 34
  case true=>rw[o7,aB];exact Ry _ hl hA h0
  rw[o5];cases D5 (c.toNat:Int) 60
  case true=>exact h2 _
  cases D5 (c.toNat:Int) 61
  case true=>exact h2 _
  cases D5 (c.toNat:Int) 33
  case true=>exact h2 true
  simp only[o5];have hib:∃x,xP [40,41,44,58,43,45,42] (c.toNat:Int)=some x:=⟨_,rfl⟩;obtain⟨x,hx⟩:=hib;rw[hx,o9];cases V6 0 x
  .exact yN 2 F6
  .exact h1
def TkG(x:U7):Prop:=fJ x.2.2.1/\x.2.1.length<=100000
theorem VU(s:List UInt8)(hA:Asc s):∃T o c,pJ s=some (T,o,c)/\(∀x∈T,TkG x)/\T.length<=65536:=by
 unfold pJ;by_cases hl:65536<x9 s
 .rw[Y0 hl];exact⟨[],0,4,rfl,(λx hx=>by cases hx),A7⟩
 have hl' :s.length<=65536:=by unfold x9 at hl;omega
 rw[O6 l7,o5];obtain⟨j,hj,-,hj2⟩:=Ya (s:=s) l7 (i:=0) l7;rw[show((0:Nat):Int)=0 from rfl]at hj;rw[hj,o9];have hloop:=gJ (f:=tkF s) (s:=([],(j:Int))) (λx=>∃p:Nat,x.2=(p:Int)/\p<=s.length/\x.1.length<=p/\∀y∈x.1,TkG y) (λe=>e.length<=65536/\∀y∈e,TkG y) (λr=>r.1=[]) (λx=>s.length -x.2.toNat) ⟨j,rfl,hj2,A7,λy hy=>by cases hy⟩ F9 (by
  rintro⟨acc,q⟩ ⟨p,h1,h2,h3,h4⟩;simp only at h1 h3 h4;subst h1;unfold tkF;by_cases hlt:p<s.length
  .rw[Y0 (by unfold x9;simp only;omega),o7];simp only;rw[iR l7 l7,o9,D8];obtain⟨t,n,c,e,g1,g2,g3⟩:=a4X (s.drop p) F9 (Wv hA p) F9;rw[e,o9];simp only;by_cases hc:c=0
   .obtain⟨k,rfl,k1,k2⟩:=g3 hc;rw[Y5]at k2;rw[J4 hc,F5,o5,nJ _ l7,o9,show I5 .i64 (p:Int) (k:Int)=((p+k:Nat):Int) by rw[aA af];omega];obtain⟨j',hj',q1,q2⟩:=Ya (s:=s) l7 (i:=p+k) l7;rw[hj',o9];refine .inl ⟨_,rfl,⟨j',rfl,q2,by simp;omega,λy hy=>?_⟩,by simp only[D8];omega⟩;rcases I4.1 hy with hy|hy
    .exact h4 y hy
    .simp at hy;subst hy;rw[Y5]at g2;exact⟨g1,by simp only;omega⟩
   .rw[I9 hc];exact .inr (.inr ⟨_,rfl,rfl⟩)
  .rw[O6 (by unfold x9;simp only;omega)];exact .inr (.inl ⟨_,rfl,by simp only;omega,h4⟩))
 rcases hloop with⟨e,h,h1,h2⟩|⟨e,h,h1⟩
 .exact⟨e,0,0,by refine J3 (show P8 (tkF s) ([],(j:Int))=_ from h) ?_;rfl,h2,h1⟩
 .refine⟨e.1,e.2.1,e.2.2,by refine J3 (show P8 (tkF s) ([],(j:Int))=_ from h) ?_;rfl,?_,?_⟩
  .rw[h1];exact λx hx=>by cases hx
  .rw[h1];simp
end
section
def NdI(nd:List (Int×Int)):Prop:=∀n∈nd,fJ n.2
abbrev pT(T:List U7)(E:Int)(N:D7)(i:Nat)(nd:List (Int×Int))(off c:Int):x8:=(T,(i:Int),E,N,nd,off,c)
section
variable (T:List U7) (E:Int) (N:D7)
structure GdS (i0 sl i:Nat) (nd:List (Int×Int)):Prop where
 lo:i0<=i
 hi:i<=T.length
 sl:nd.length+sl<=i
 ni:NdI nd
def Rs(i0 sl:Nat)(o:Option (Bool×x8)):Prop:=∃b i nd off c,o=some (b,pT T E N i nd off c)/\GdS T i0 sl i nd
end
variable {i:Nat}{nd:List (Int×Int)}{off:Int}{c:Int}{i0:Nat}{sl:Nat}{k:Int}
section
variable {T:List U7} {E:Int} {N:D7}
theorem lK{i0 sl i0' sl' i:Nat}(h:GdS T i0 sl i nd)(h1:i0' <=i0)(h2:sl' <=sl):GdS T i0' sl' i nd:=⟨by have:=h.lo;omega,h.hi,by have:=h.sl;omega,h.ni⟩
theorem lq(b:Bool)(h:GdS T i0 sl i nd):Rs T E N i0 sl (some (b,pT T E N i nd off c)):=⟨b,i,nd,off,c,rfl,h⟩
theorem sD{i0 sl i1 sl1:Nat}{o:Option (Bool×x8)}{K:Bool×x8->Option (Bool×x8)}(h:Rs T E N i0 sl o)(hK:∀b i nd off c,GdS T i0 sl i nd->Rs T E N i1 sl1 (K (b,pT T E N i nd off c))):Rs T E N i1 sl1 (o6 o K):=by obtain⟨b,i,nd,off,c,rfl,hg⟩:=h;exact hK b i nd off c hg
theorem iy{x y:Option (Bool×x8)}(b:Bool)(h1:Rs T E N i0 sl x)(h2:Rs T E N i0 sl y):Rs T E N i0 sl (l9 b x y):=by cases b<;>assumption
variable (hT:T.length<=65536) (hK:∀x∈T,TkG x)
include hT
theorem a4m(hi:i<=T.length)(a:Nat)(ha:a<=10):O5 (pT T E N i nd off c) (a:Int)=some (pk T (i+a),pT T E N i nd off c):=by
 unfold O5 pk;have e:I5 .i64 (i:Int) (a:Int)=((i+a:Nat):Int):=by rw[aA af];omega
 simp only[e];by_cases h:i+a<T.length
 .rw[Y0 (by unfold x9;omega),o7,V4,lG h];rfl
 .rw[O6 (by unfold x9;omega),o5,Y2 l7];rfl
theorem MJ(hi:i<=T.length):O5 (pT T E N i nd off c) 0=some (pk T i,pT T E N i nd off c):=a4m hT hi 0 l7
omit hT in
theorem NI(h:(pk T i).1≠0):i<T.length:=by
 rcases gU i T.length with hlt|hge
 .exact hlt
 .exfalso;apply h;unfold pk;rw[Y2 hge];rfl
omit hT in
include hK in
theorem a7d(i:Nat):TkG (pk T i):=by
 unfold pk;rcases gU i T.length with hlt|hge
 .rw[lG hlt];exact hK _ (X6 hlt)
 .rw[Y2 hge];exact⟨mG,A7⟩
theorem atT(hi:i<=T.length)(hk:k≠0)(w:List UInt8):∃b,fK (pT T E N i nd off c) k w=some (b,pT T E N i nd off c)/\(b=true->i<T.length):=by
 unfold fK
 rw[MJ hT hi,o9];by_cases g:(pk T i).1=k
 .simp only[J4 g,o7];exact⟨_,rfl,λ_=>NI (by rw[g];exact hk)⟩
 .simp only[I9 g,o5];exact⟨_,rfl,λh=>by cases h⟩
omit hT in
theorem WO(e:Int):∃off',X3 (pT T E N i nd off c) e=some (false,pT T E N i nd off' e):=by
 unfold X3;simp only;by_cases hlt:i<T.length
 .rw[Y0 (by unfold x9;omega),o7,V4,lG hlt,o9];exact⟨_,rfl⟩
 .rw[O6 (by unfold x9;omega),o5];exact⟨_,rfl⟩
omit hT in
theorem a3j(h:GdS T i0 sl i nd)(e:Int):Rs T E N i0 sl (X3 (pT T E N i nd off c) e):=by obtain⟨off',he⟩:=WO (T:=T) (E:=E) (N:=N) (i:=i) (nd:=nd) (off:=off) (c:=c) e;rw[he];exact lq false h
omit hT in
theorem pq(h:GdS T i0 sl i nd)(k:Nat)(hi:i+k<=T.length):GdS T i0 (sl+k) (i+k) nd:=⟨by have:=h.lo;omega,hi,by have:=h.sl;omega,h.ni⟩
def One(i:Nat)(b:Bool)(i' :Nat):Prop:=(b=false/\i' =i)\/(b=true/\i' =i+1/\i' <=T.length)
theorem Y_(hi:i<=T.length)(hk:k≠0)(w:List UInt8):∃b i' off' c',Y7 (pT T E N i nd off c) k w=some (b,pT T E N i' nd off' c')/\One (T:=T) i b i' :=by
 unfold Y7;obtain⟨b,e,hb⟩:=atT (E:=E) (N:=N) (nd:=nd) (off:=off) (c:=c) hT hi hk w;rw[e,o9];cases b
 .simp only[P7,o7];rw[aB];obtain⟨off',he⟩:=WO (T:=T) (E:=E) (N:=N) (i:=i) (nd:=nd) (off:=off) (c:=c) 2;exact⟨_,_,_,_,he,.inl ⟨rfl,rfl⟩⟩
 .have:=hb rfl;simp only[F5,o5];rw[Z8 l7];exact⟨true,i+1,off,c,rfl,.inr ⟨rfl,rfl,this⟩⟩
omit hT in
theorem OH{i0 sl i i' :Nat}{b:Bool}(h:GdS T i0 sl i nd)(h1:One (T:=T) i b i'):GdS T i0 sl i' nd:=by
 rcases h1 with⟨-,rfl⟩|⟨-,rfl,h2⟩
 .exact h
 .exact lK (pq h 1 h2) (C9 _) l7
theorem Ou(h:GdS T i0 sl i nd)(hk:k≠0)(w:List UInt8):Rs T E N i0 sl (Y7 (pT T E N i nd off c) k w):=by obtain⟨b,i',off',c',e,h1⟩:=Y_ (E:=E) (N:=N) (nd:=nd) (off:=off) (c:=c) hT h.hi hk w;rw[e];exact lq b (OH h h1)
theorem a5K(h:GdS T i0 sl i nd)(w:List UInt8):Rs T E N i0 sl (J8 (pT T E N i nd off c) w):=by unfold J8;rw[aB];exact Ou hT h F6 w
theorem xg(h:GdS T i0 (sl+1) i nd)(op:Int){n:Int}(hn:fJ n):Rs T E N i0 sl (F8 (pT T E N i nd off c) op n):=by
 unfold F8;have:=h.sl;have:=h.hi;simp only;rw[nJ _ l7,o9];refine lq true ⟨h.lo,h.hi,by simp;omega,λm hm=>?_⟩;rcases I4.1 hm with hm|hm
 .exact h.ni m hm
 .simp at hm;subst hm;exact hn
omit hT in
theorem a3s{l:List (List UInt8)}(hl:l.length<=1000)(w:List UInt8):∃v,aV l w=some v/\fJ v:=by
 by_cases h:∀x∈l,x≠w
 .exact⟨-1,(JJ l7 w).2 h,by unfold fJ;omega⟩
 .have:∃j:Nat,Tn l j w:=by
   have hm:w∈l:=by apply lX;intro hn;exact h (λx hx e=>hn (by rw[←e];exact hx))
   clear h hl;induction l with
   |nil=>cases hm|cons a l ih=>
    by_cases ha:a=w
    .exact⟨0,by rw[ha];rfl,λx hx=>by cases hx⟩
    .rcases D6.1 hm with e|hm
     .exact absurd e.symm ha
     .obtain⟨j,h1,h2⟩:=ih hm;refine⟨j+1,h1,λx hx=>?_⟩;rw[List.take_succ_cons]at hx;rcases D6.1 hx with rfl|hx
      .exact ha
      .exact h2 x hx
  obtain⟨j,hj⟩:=this;have:=(aO.1 hj.1).1;exact⟨j,(JJ l7 w).1 j hj,by unfold fJ;omega⟩
include hK in
theorem a3k(hi:i<=T.length){l:List (List UInt8)}(hl:l.length<=1000):∃v b i' off' c',aN (pT T E N i nd off c) l=some (v,b,pT T E N i' nd off' c')/\fJ v/\One (T:=T) i b i' :=by
 have fl:∀e,∃v b i' off' c',(o6 (X3 (pT T E N i nd off c) e) λ(x:Bool×x8)=>some ((0:Int),x))=some (v,b,pT T E N i' nd off' c')/\fJ v/\One (T:=T) i b i' :=by intro e;obtain⟨off',he⟩:=WO (T:=T) (E:=E) (N:=N) (i:=i) (nd:=nd) (off:=off) (c:=c) e;rw[he];exact⟨0,false,i,off',e,rfl,mG,.inl ⟨rfl,rfl⟩⟩
 unfold aN;rw[MJ hT hi,o9];by_cases g:(pk T i).1=1
 .have hlt:i<T.length:=NI (by rw[g];decide);simp only[J4 g,F5,o5];rw[jY (by have:=(a7d hK i).2;omega),o9];cases lL (pk T i).2.1
  .exact fl 2
  .simp only[F5,o5];obtain⟨v,hv,hb⟩:=a3s hl (pk T i).2.1;rw[hv,o9];cases I8 v 0
   .simp only[o5];rw[Z8 l7];exact⟨v,true,i+1,off,c,rfl,hb,.inr ⟨rfl,rfl,hlt⟩⟩
   .exact fl 6
 .simp only[I9 g,P7,o7];exact fl 2
omit hT in
theorem a6H(w:List UInt8):∃v,qf w=some v/\fJ v:=by
 unfold qf;have:=gJ (f:=λ(x:Int)=>
   l9 (V6 x 5)
    (o6 (dJ x) λ(x_1:List UInt8)=>
     l9 (seq x_1 w) (some (Out.rt x)) (some (Out.nx (I5 IntKind.i64 x 1))))
    (some (Out.ex PUnit.unit))) (s:=0) (λx=>∃j:Nat,x=(j:Int)/\j<=6) (λ_=>True) (λr=>fJ r) (λx=>6 -x.toNat) ⟨0,rfl,l7⟩ A7 (by
  rintro x ⟨j,rfl,hj⟩;by_cases h5:j<=5
  .rw[X9 l7,o7,Fh,o9];cases seq (jW (j:Int)) w
   .exact .inl ⟨_,rfl,⟨j+1,by rw[Z8 l7],l7⟩,by rw[Z8 l7];simp only[D8];omega⟩
   .exact .inr (.inr ⟨_,rfl,by unfold fJ;omega⟩)
  .rw[bG l7];exact .inr (.inl ⟨_,rfl,trivial⟩))
 rcases this with⟨e,h,-⟩|⟨r,h,hr⟩
 .exact⟨-1,by refine J3 h ?_;rfl,by unfold fJ;omega⟩
 .exact⟨r,by refine J3 h ?_;rfl,hr⟩
theorem a8p(hi:i<=T.length):∃v b i' off' c',Y1 (pT T E N i nd off c)=some (v,b,pT T E N i' nd off' c')/\fJ v/\One (T:=T) i b i' :=by
 have fl:∀e,∃v b i' off' c',(o6 (X3 (pT T E N i nd off c) e) λ(x:Bool×x8)=>some ((0:Int),x))=some (v,b,pT T E N i' nd off' c')/\fJ v/\One (T:=T) i b i' :=by intro e;obtain⟨off',he⟩:=WO (T:=T) (E:=E) (N:=N) (i:=i) (nd:=nd) (off:=off) (c:=c) e;rw[he];exact⟨0,false,i,off',e,rfl,mG,.inl ⟨rfl,rfl⟩⟩
 unfold Y1;rw[MJ hT hi,o9];obtain⟨v,hv,hb⟩:=a6H (pk T i).2.1;simp only[hv,o9];by_cases g:(pk T i).1=1
 .have hlt:i<T.length:=NI (by rw[g];decide);simp only[J4 g,F5,o5];cases I8 v 0
  .simp only[o5];rw[Z8 l7];exact⟨v,true,i+1,off,c,rfl,hb,.inr ⟨rfl,rfl,hlt⟩⟩
  .exact fl 2
 .simp only[I9 g,P7,o7];exact fl 2
omit hT in
theorem a6l(w:List UInt8):∃v,jm w=some v:=by
 unfold jm;have:=gJ (f:=cwF w) (s:=10) (λx=>∃j:Nat,x=(j:Int)/\10<=j/\j<=40) (λ_=>True) (λr=>True) (λx=>40 -x.toNat) ⟨10,rfl,l7,l7⟩ A7 (by
  rintro x ⟨j,rfl,h10,hj⟩;unfold cwF;by_cases h5:j<=39
  .rw[X9 l7,o7];have nx:∃s',(some (Out.nx (I5 .i64 (j:Int) 1)):Option (Out Int PUnit Int))=some (.nx s')/\(∃j' :Nat,s' =(j' :Int)/\10<=j' /\j' <=40)/\40 -s'.toNat<40 -((j:Int)).toNat:=
    ⟨_,rfl,⟨j+1,by rw[Z8 l7],l7,l7⟩,by rw[Z8 l7];simp only[D8];omega⟩
   cases H9 (seq w [])
   .exact .inl nx
   .rw[o7,qm,o9];cases seq (dB (j:Int)) w
    .exact .inl nx
    .exact .inr (.inr ⟨_,rfl,trivial⟩)
  .rw[bG l7];exact .inr (.inl ⟨_,rfl,trivial⟩))
 rcases this with⟨e,h,-⟩|⟨r,h,-⟩
 .exact⟨0,by refine J3 (show P8 (cwF w) 10=_ from h) ?_;rfl⟩
 .exact⟨r,by refine J3 (show P8 (cwF w) 10=_ from h) ?_;rfl⟩
def opF(w:List UInt8)(x:Int):Option (Out Int PUnit (Int×Int)):=
     l9 (V6 x 24)
      (o6 (gm x) λ(x_1:List UInt8×Int)=>
       l9 (H9 (seq x_1.1 []))
        (l9 (seq x_1.1 w) (some (Out.rt (x,x_1.2))) (some (Out.nx (I5 IntKind.i64 x 1))))
        (some (Out.nx (I5 IntKind.i64 x 1))))
      (some (Out.ex PUnit.unit))
omit hT in
theorem opT(t:U7):∃o k,iF t=some (o,k):=by
 have:=gJ (f:=opF t.2.1) (s:=11) (λx=>∃j:Nat,x=(j:Int)/\11<=j/\j<=25) (λ_=>True) (λr=>True) (λx=>25 -x.toNat) ⟨11,rfl,l7,l7⟩ A7 (by
  rintro x ⟨j,rfl,h10,hj⟩;unfold opF;by_cases h5:j<=24
  .rw[X9 l7,o7,a0Q,o9];have nx:∃s',(some (Out.nx (I5 .i64 (j:Int) 1)):Option (Out Int PUnit (Int×Int)))=some (.nx s')/\(∃j' :Nat,s' =(j' :Int)/\11<=j' /\j' <=25)/\25 -s'.toNat<25 -((j:Int)).toNat:=
    ⟨_,rfl,⟨j+1,by rw[Z8 l7],l7,l7⟩,by rw[Z8 l7];simp only[D8];omega⟩
   cases H9 (seq (jy (j:Int)).1 [])
   .exact .inl nx
   .rw[o7];cases seq (jy (j:Int)).1 t.2.1
    .exact .inl nx
    .exact .inr (.inr ⟨_,rfl,trivial⟩)
  .rw[bG l7];exact .inr (.inl ⟨_,rfl,trivial⟩))
 have hl:∃o k,(o6 (P8 (opF t.2.1) 11) λ(o:PUnit⊕H5)=>bP o (λ(y:PUnit)=>some ((0:Int),(0:Int))) λ(r:H5)=>some r)=some (o,k):=by
  rcases this with⟨e,h,-⟩|⟨r,h,-⟩
  .rw[h];exact⟨0,0,rfl⟩
  .rw[h];exact⟨r.1,r.2,rfl⟩
 obtain⟨o,k,h⟩:=hl;unfold iF;cases H9 (D5 t.1 7)
 .exact⟨o,k,h⟩
 .cases H9 (D5 t.1 1)
  .exact⟨o,k,h⟩
  .exact⟨0,0,rfl⟩
end
end
section
structure NmLe (N:D7):Prop where
 e:N.1.length<=1000/\∀e∈N.1,e.2.length<=1000
 t:N.2.1.length<=1000
 i:N.2.2.1.length<=1000
 d:N.2.2.2.1.length<=1000
 m:N.2.2.2.2.length<=1000
theorem b1W{l:List dU}(hl:l.length<=1000)(t:U7):∃v,aT l t=some v/\v<x9 l:=by
 unfold aT oz;have:=gJ (f:=λ(x:Int)=>l9 (I8 x (x9 l)) (o6 (X0 l x) λ(x_1:dU)=>o6 (some (seq x_1.1 t.2.1)) λ(x_2:Bool)=>l9 x_2 (some (Out.rt x)) (some (Out.nx (I5 IntKind.i64 x 1)))) (some (Out.ex PUnit.unit))) (s:=0) (λx=>∃j:Nat,x=(j:Int)/\j<=l.length) (λ_=>True) (λr=>r<x9 l) (λx=>l.length -x.toNat) ⟨0,rfl,l7⟩ F9 (by
  rintro x ⟨j,rfl,hj⟩;by_cases h5:j<l.length
  .rw[Y0 (by unfold x9;omega),o7,V4,lG h5,o9,o9];cases seq l[j].1 t.2.1
   .exact .inl ⟨_,rfl,⟨j+1,by rw[Z8 l7],l7⟩,by rw[Z8 l7];simp only[D8];omega⟩
   .exact .inr (.inr ⟨_,rfl,by unfold x9;omega⟩)
  .rw[O6 (by unfold x9;omega)];exact .inr (.inl ⟨_,rfl,trivial⟩))
 rcases this with⟨e,h,-⟩|⟨r,h,hr⟩
 .exact⟨-1,by refine J3 h ?_;rfl,by unfold x9;omega⟩
 .exact⟨r,by refine J3 h ?_;rfl,hr⟩
variable {i0:Nat}{sl:Nat}{i:Nat}{nd:List (Int×Int)}{off:Int}{c:Int}{m:Nat}
section
variable {T:List U7} {E:Int} {N:D7}
theorem VJ{i0 sl i0' sl' :Nat}{o:Option (Bool×x8)}(h:Rs T E N i0 sl o)(h1:i0' <=i0)(h2:sl' <=sl):Rs T E N i0' sl' o:=by obtain⟨b,i,nd,off,c,e,hg⟩:=h;exact⟨b,i,nd,off,c,e,lK hg h1 h2⟩
variable (hT:T.length<=65536) (hK:∀x∈T,TkG x) (hN:NmLe N)
include hT hK hN
theorem b2b(h:GdS T i0 sl i nd)(hlt:i<T.length):Rs T E N i0 sl (aZ (pT T E N i nd off c)):=by
 unfold aZ;rw[MJ hT h.hi,o9];simp only;rw[show O5 (pT T E N i nd off c) 1=_ from a4m hT h.hi 1 l7,o9];simp only;rw[jY (by have:=(a7d hK i).2;omega),o9];cases lL (pk T i).2.1
 .simp only[P7,o7];rw[aB];exact a3j h 2
 simp only[F5,o5];have hq:∃b,(l9 (D5 (pk T (i+1)).1 7) (some (seq (pk T (i+1)).2.1 [58])) (some false))=some b/\(b=true->i+1<T.length):=by
  by_cases g:(pk T (i+1)).1=7
  .rw[J4 g];exact⟨_,rfl,λ_=>NI (by rw[g];decide)⟩
  .rw[I9 g];exact⟨false,rfl,λh=>by cases h⟩
 obtain⟨b,hb,hb2⟩:=hq;rw[hb,o9];have hlo:=h.lo;have hhi:=h.hi;have hsl:=h.sl;cases b
 .simp only[o5];obtain⟨v,hv,hvI⟩:=a3s hN.i (pk T i).2.1;rw[hv,o9];cases V6 0 v
  .rw[o5];obtain⟨v2,b2,i',off',c',e,e2,e3⟩:=a3k (E:=E) (N:=N) (nd:=nd) (off:=off) (c:=c) hT hK h.hi hN.d;rw[e,o9];simp only;rcases e3 with⟨rfl,rfl⟩|⟨rfl,rfl,e4⟩
   .exact lq false h
   .simp only[o7];rw[aB];exact xg hT (pq h 1 e4) 8 e2
  .rw[o7,Z8 l7,aB];exact xg hT (pq h 1 hlt) 7 hvI
 .simp only[o7];have hi2:=hb2 rfl;obtain⟨v,hv,hvl⟩:=b1W hN.e.1 (pk T i);rw[hv,o9];by_cases h0:v<0
  .rw[Y0 h0,o7,aB];exact a3j h 6
  .obtain⟨en,he,hme⟩:=ug (l:=N.1) (i:=v) l7 hvl;rw[O6 l7,o5,he,o9];rw[show I5 .i64 (i:Int) 2=((i+2:Nat):Int) by rw[aA af];omega];obtain⟨v2,b2,i',off',c',e,e2,e3⟩:=a3k (E:=E) (N:=N) (nd:=nd) (off:=off) (c:=c) (i:=i+2) hT hK l7 (hN.e.2 en hme);rw[show aN (T,((i+2:Nat):Int),E,N,nd,off,c) en.2=_ from e,o9];simp only;have g2:=pq h 2 l7;rcases e3 with⟨rfl,rfl⟩|⟨rfl,rfl,e4⟩
   .exact lq false (lK g2 (C9 _) l7)
   .simp only[o7];rw[aB];exact xg hT (lK (pq g2 1 e4) (C9 _) l7) 6 (Vb _ _)
structure AllT (T:List U7) (E:Int) (N:D7) (m:Nat):Prop where
 e:∀i0 sl i nd off c,GdS T i0 sl i nd->6*(T.length -i)+5<=m->Rs T E N i0 sl ((o8 m).1 (pT T E N i nd off c))
 b:∀k i0 sl i nd off c,GdS T i0 sl i nd->6*(T.length -i)+4<=m->Rs T E N i0 sl ((o8 m).2.1 (pT T E N i nd off c) k)
 u:∀i0 sl i nd off c,GdS T i0 sl i nd->6*(T.length -i)+3<=m->Rs T E N i0 sl ((o8 m).2.2.1 (pT T E N i nd off c))
 a:∀i0 sl i nd off c,GdS T i0 sl i nd->6*(T.length -i)+2<=m->Rs T E N i0 sl ((o8 m).2.2.2.1 (pT T E N i nd off c))
 c:∀op i0 sl i nd off c,GdS T i0 (sl+1) i nd->6*(T.length -i)+6<=m->Rs T E N i0 sl ((o8 m).2.2.2.2 (pT T E N i nd off c) op)
omit hK hN in
theorem b1V(ih:AllT T E N m)(h:GdS T i0 sl i nd)(hm:6*(T.length -i)+5<=m+1):Rs T E N i0 sl ((o8 (m+1)).1 (pT T E N i nd off c)):=by
 rw[a9T];unfold fV;obtain⟨b,e,hb⟩:=atT (E:=E) (N:=N) (nd:=nd) (off:=off) (c:=c) hT h.hi (k:=1) F6 [105,102];rw[e,o9];have hhi:=h.hi;cases b
 .simp only[P7,o7];rw[aB];exact ih.b 1 _ _ _ _ _ _ h l7
 .have hlt:=hb rfl;simp only[F5,o5];rw[Z8 l7];have g1:=pq h 1 hlt;have lo1:i+1<=i+1:=C9 _;have ge:GdS T (i+1) (sl+1) (i+1) nd:=⟨C9 _,g1.hi,g1.sl,g1.ni⟩;have hi0:=h.lo;refine VJ (i0:=i+1) (sl:=sl) ?_ l7 (C9 _);refine sD (ih.e _ _ _ _ _ _ ge l7) (λb i' nd' off' c' hg=>?_);refine iy b ?_ (lq false (lK hg (C9 _) l7));refine sD (Ou hT hg F6 _) (λb i' nd' off' c' hg=>?_);refine iy b ?_ (lq false (lK hg (C9 _) l7));refine sD (ih.e _ _ _ _ _ _ hg (by have:=hg.lo;omega)) (λb i' nd' off' c' hg=>?_);refine iy b ?_ (lq false (lK hg (C9 _) l7));refine sD (Ou hT hg F6 _) (λb i' nd' off' c' hg=>?_);refine iy b ?_ (lq false (lK hg (C9 _) l7));refine sD (ih.e _ _ _ _ _ _ hg (by have:=hg.lo;omega)) (λb i' nd' off' c' hg=>?_);refine iy b ?_ (lq false (lK hg (C9 _) l7));rw[aB];exact xg hT hg 26 mG
omit hN in
theorem b5G(ih:AllT T E N m)(h:GdS T i0 sl i nd)(hm:6*(T.length -i)+3<=m+1):Rs T E N i0 sl ((o8 (m+1)).2.2.1 (pT T E N i nd off c)):=by
 have hhi:=h.hi;have hlo:=h.lo;rw[a4p];unfold dK;obtain⟨b,e,hb⟩:=atT (E:=E) (N:=N) (nd:=nd) (off:=off) (c:=c) hT h.hi (k:=7) F6 [45];rw[e,o9];cases b
 .simp only[o5];obtain⟨b,e,hb⟩:=atT (E:=E) (N:=N) (nd:=nd) (off:=off) (c:=c) hT h.hi (k:=1) F6 [110,111,116];rw[e,o9];cases b
  .simp only[o5];rw[aB];exact ih.a _ _ _ _ _ _ h l7
  .have hlt:=hb rfl;simp only[o7];rw[Z8 l7];have g1:=pq h 1 hlt;refine sD (ih.u _ _ _ _ _ _ g1 l7) (λb i' nd' off' c' hg=>?_);refine iy b ?_ (lq false (lK hg (C9 _) l7));rw[aB];exact xg hT hg 25 mG
 .have hlt:=hb rfl;simp only[o7];rw[show O5 (pT T E N i nd off c) 1=_ from a4m hT h.hi 1 l7,o9,Bo,o9];by_cases hl:Md (pk T (i+1)).1=0
  .simp only[hl,J4 (rfl:(0:Int)=0),F5,o5];rw[Z8 l7];have g1:=pq h 1 hlt;refine sD (ih.u _ _ _ _ _ _ g1 l7) (λb i' nd' off' c' hg=>?_);refine iy b ?_ (lq false (lK hg (C9 _) l7));rw[aB];exact xg hT hg 10 mG
  .have h1:i+1<T.length:=NI (by
    intro e;apply hl;rw[e];rfl)
   simp only[I9 hl,P7,o7];rw[show I5 .i64 (i:Int) 2=((i+2:Nat):Int) by rw[aA af];omega,o9,aB];exact xg hT (lK (pq h 2 l7) (C9 _) l7) _ (a0m _ _)
theorem b1F(ih:AllT T E N m)(h:GdS T i0 sl i nd)(hm:6*(T.length -i)+2<=m+1):Rs T E N i0 sl ((o8 (m+1)).2.2.2.1 (pT T E N i nd off c)):=by
 have hhi:=h.hi;have hlo:=h.lo;rw[a4o];unfold eU;rw[MJ hT h.hi,o9,Bo,o9];by_cases hl:Md (pk T i).1=0
 .simp only[hl,J4 (rfl:(0:Int)=0),F5,o5];by_cases h5:(pk T i).1=5
  .have hlt:i<T.length:=NI (by rw[h5];decide);simp only[J4 h5,o7];rw[Z8 l7,aB];exact xg hT (pq h 1 hlt) 5 (a7d hK i).1
  .simp only[I9 h5,o5];obtain⟨b,e,hb⟩:=atT (E:=E) (N:=N) (nd:=nd) (off:=off) (c:=c) hT h.hi (k:=7) F6 [40];rw[e,o9];cases b
   .simp only[o5];by_cases h1:(pk T i).1=1
    .have hlt:i<T.length:=NI (by rw[h1];decide);simp only[J4 h1,F5,o5];rw[Z8 l7];have g1:=pq h 1 hlt;have em:∀op n:Int,fJ n->Rs T E N i0 sl (o6 (F8 (pT T E N (i+1) nd off c) op n) λ(x:Bool×x8)=>some x):=by
      intro op n hn;rw[aB];exact xg hT g1 op hn
     refine iy _ (em 1 1 af) (iy _ (em 1 0 mG) (iy _ (em 9 0 mG) ?_));obtain⟨v,hv⟩:=a6l (pk T i).2.1;rw[hv,o9];simp only[o9];refine iy _ ?_ ?_
     .obtain⟨b,i',off',c',e,h1⟩:=Y_ (E:=E) (N:=N) (nd:=nd) (off:=off) (c:=c) hT (show i+1<=T.length from hlt) (k:=7) F6 [40];unfold J8;rw[aB,show Y7 (T,((i+1:Nat):Int),E,N,nd,off,c) 7 [40]=_ from e,o9];rcases h1 with⟨rfl,rfl⟩|⟨rfl,rfl,h2⟩
      .exact lq false (lK g1 (C9 _) l7)
      .simp only[o7];have g2:=pq g1 1 h2;refine sD (ih.c v i0 (sl+1) (i+1+1) nd off' c' g2 l7) (λb i' nd' off' c' hg=>?_);refine iy b ?_ (lq false (lK hg (C9 _) l7));rw[aB,aB];exact Ou hT (lK hg (C9 _) l7) F6 _
     .rw[aB];exact b2b hT hK hN h hlt
    .simp only[I9 h1,P7,o7];rw[aB];exact a3j h 2
   .have hlt:=hb rfl;simp only[o7];rw[Z8 l7];have g1:=pq h 1 hlt;refine sD (ih.e _ _ _ _ _ _ (lK g1 (C9 _) (by omega:sl<=sl+1)) l7) (λb i' nd' off' c' hg=>?_);refine iy b ?_ (lq false hg);rw[aB];exact a5K hT hg _
 .have hlt:i<T.length:=NI (by intro e;apply hl;rw[e];rfl);simp only[I9 hl,P7,o7];rw[o9,Z8 l7,aB];exact xg hT (pq h 1 hlt) _ (a7d hK i).1
omit hK hN in
theorem b1M(ih:AllT T E N m){k:Int}(h:GdS T i0 sl i nd)(hm:6*(T.length -i)+4<=m+1):Rs T E N i0 sl ((o8 (m+1)).2.1 (pT T E N i nd off c) k):=by
 rw[a8s];have hlo:=h.lo;have gi:GdS T i sl i nd:=⟨C9 _,h.hi,h.sl,h.ni⟩;refine VJ (i0:=i) (sl:=sl) ?_ hlo (C9 _);refine sD (ih.u _ _ _ _ _ _ gi l7) (λb i' nd' off' c' hg=>?_);refine iy _ (lq false hg) ?_;have hloop:=gJ (f:=biF (o8 m).2.1 k) (s:=(pT T E N i' nd' off' c',5)) (λx=>∃i' nd' off' c' g,x=(pT T E N i' nd' off' c',g)/\GdS T i sl i' nd') (λ_=>False) (λr=>Rs T E N i sl (some r)) (λx=>T.length -x.1.2.1.toNat) ⟨i',nd',off',c',5,rfl,hg⟩ F9 (by
  rintro x ⟨i',nd',off',c',g,rfl,hg⟩;have hhi:=hg.hi;have hlo:=hg.lo;unfold biF;simp only;rw[MJ hT hg.hi,o9];simp only;obtain⟨o,kk,ho⟩:=opT (pk T i');rw[ho,o9];by_cases h0:o=0
  .simp only[J4 h0,o7,o9,jg];exact .inr (.inr ⟨_,rfl,lq true hg⟩)
  .have hlt:i' <T.length:=by
    rcases gU i' T.length with h|h
    .exact h
    .exfalso;have:pk T i' =(0,[],0,0):=by unfold pk;rw[Y2 h];rfl
     rw[this]at ho;have e0:=a0B (t:=(0,[],0,0)) (.inl rfl);rw[e0]at ho;cases ho;exact h0 rfl
   simp only[I9 h0,o5];cases I8 kk k
   case true=>simp only[o7,o9,jg];exact .inr (.inr ⟨_,rfl,lq true hg⟩)
   simp only[o5];cases I8 g kk
   case true=>simp only[o7,o9,jg];exact .inr (.inr ⟨_,rfl,lq true hg⟩)
   simp only[o5,o9,J7];rw[Z8 l7];have g1:=pq hg 1 hlt;have g1' :GdS T (i' +1) (sl+1) (i' +1) nd' :=⟨C9 _,g1.hi,g1.sl,g1.ni⟩;obtain⟨b2,i2,nd2,off2,c2,e2,hg2⟩:=ih.b (I5 .i64 kk 1) (i' +1) (sl+1) (i' +1) nd' off' c' g1' l7;have hlo2:=hg2.lo;have hhi2:=hg2.hi;rw[show(o8 m).2.1 (T,((i' +1:Nat):Int),E,N,nd',off',c') (I5 .i64 kk 1)=_ from e2,o9];have hg2' :GdS T i (sl+1) i2 nd2:=⟨l7,hg2.hi,hg2.sl,hg2.ni⟩;cases b2
   .simp only[P7,o7];exact .inr (.inr ⟨_,rfl,lq false (lK hg2' (C9 _) l7)⟩)
   .simp only[F5,o5];obtain⟨b3,i3,nd3,off3,c3,e3,hg3⟩:=xg (E:=E) (N:=N) (off:=off2) (c:=c2) hT ⟨C9 i2,hg2.hi,hg2.sl,hg2.ni⟩ o mG;have hi3:=hg3.lo;rw[e3,o9];have hg3' :GdS T i sl i3 nd3:=⟨l7,hg3.hi,hg3.sl,hg3.ni⟩;cases D5 kk 3
    .exact .inl ⟨_,rfl,⟨i3,nd3,off3,c3,kk,rfl,hg3'⟩,by simp only[D8];omega⟩
    .exact .inl ⟨_,rfl,⟨i3,nd3,off3,c3,_,rfl,hg3'⟩,by simp only[D8];omega⟩)
 rcases hloop with⟨e,h,hf⟩|⟨e,h,hf⟩
 .exact hf.elim
 .rw[h,o9,jg];exact hf
end
end
section
variable {i:Nat}{i0:Nat}{sl:Nat}{nd:List (Int×Int)}{off:Int}{c:Int}{i1:Nat}{sl1:Nat}{m:Nat}
section
variable {T:List U7} {E:Int} {N:D7}
variable (hT:T.length<=65536) (hK:∀x∈T,TkG x) (hN:NmLe N)
def Ri(T:List U7)(E:Int)(N:D7)(i0 sl:Nat)(o:Option (x8⊕Bool×x8)):Prop:=∃b i nd off c,o=some (.inr (b,pT T E N i nd off c))/\GdS T i0 sl i nd
theorem FN(b:Bool)(h:GdS T i0 sl i nd):Ri T E N i0 sl (some (.inr (b,pT T E N i nd off c))):=⟨b,i,nd,off,c,rfl,h⟩
theorem VG{o:Option (Bool×x8)}{K:Bool×x8->Option (x8⊕Bool×x8)}(h:Rs T E N i0 sl o)(hK:∀b i nd off c,GdS T i0 sl i nd->Ri T E N i1 sl1 (K (b,pT T E N i nd off c))):Ri T E N i1 sl1 (o6 o K):=by obtain⟨b,i,nd,off,c,rfl,hg⟩:=h;exact hK b i nd off c hg
theorem BF{x y:Option (x8⊕Bool×x8)}(b:Bool)(h1:Ri T E N i0 sl x)(h2:Ri T E N i0 sl y):Ri T E N i0 sl (l9 b x y):=by cases b<;>assumption
theorem XO{o:Option (Bool×x8)}(h:Rs T E N i0 sl o):Ri T E N i0 sl (o6 o λ(x:Bool×x8)=>some (Sum.inr x)):=by obtain⟨b,i,nd,off,c,rfl,hg⟩:=h;exact FN b hg
include hT
theorem a7r{K:Int×Bool×x8->Option (Bool×x8)}(h:GdS T i0 sl i nd)(hK:∀v b i' off' c',fJ v->GdS T i0 sl i' nd->Rs T E N i1 sl1 (K (v,b,pT T E N i' nd off' c'))):Rs T E N i1 sl1 (o6 (Y1 (pT T E N i nd off c)) K):=by obtain⟨v,b,i',off',c',e,hv,h1⟩:=a8p (E:=E) (N:=N) (nd:=nd) (off:=off) (c:=c) hT h.hi;rw[e];exact hK v b i' off' c' hv (OH h h1)
theorem a7p{K:Int×Bool×x8->Option (x8⊕Bool×x8)}(h:GdS T i0 sl i nd)(hK:∀v b i' off' c',fJ v->GdS T i0 sl i' nd->Ri T E N i1 sl1 (K (v,b,pT T E N i' nd off' c'))):Ri T E N i1 sl1 (o6 (Y1 (pT T E N i nd off c)) K):=by obtain⟨v,b,i',off',c',e,hv,h1⟩:=a8p (E:=E) (N:=N) (nd:=nd) (off:=off) (c:=c) hT h.hi;rw[e];exact hK v b i' off' c' hv (OH h h1)
include hK
theorem a0K{l:List (List UInt8)}{K:Int×Bool×x8->Option (x8⊕Bool×x8)}(h:GdS T i0 sl i nd)(hl:l.length<=1000)(hK' :∀v b i' off' c',fJ v->GdS T i0 sl i' nd->Ri T E N i1 sl1 (K (v,b,pT T E N i' nd off' c'))):Ri T E N i1 sl1 (o6 (aN (pT T E N i nd off c) l) K):=by obtain⟨v,b,i',off',c',e,hv,h1⟩:=a3k (E:=E) (N:=N) (nd:=nd) (off:=off) (c:=c) hT hK h.hi hl;rw[e];exact hK' v b i' off' c' hv (OH h h1)
include hN
theorem b1R(ih:AllT T E N m){op:Int}(h:GdS T i0 (sl+1) i nd)(hm:6*(T.length -i)+6<=m+1):Rs T E N i0 sl ((o8 (m+1)).2.2.2.2 (pT T E N i nd off c) op):=by
 rw[XB];have hhi:=h.hi;have hlo:=h.lo;have hi:GdS T i (sl+1) i nd:=⟨C9 _,h.hi,h.sl,h.ni⟩;have dn:∀{j:Nat} {nd' :List (Int×Int)},GdS T i (sl+1) j nd' ->GdS T i sl j nd' :=λg=>lK g (C9 _) l7;refine VJ (i0:=i) (sl:=sl) ?_ hlo (C9 _);unfold aK;have body:Ri T E N i sl (l9 (D5 op 35) (o6 (F8 (pT T E N i nd off c) op 0) λ(x:Bool×x8)=>some (Sum.inr x)) (some (.inr (true,pT T E N i nd off c)))):=BF _ (XO (xg hT hi op mG)) (FN _ (dn hi));have tail:Rs T E N i sl (o6 ((o8 m).1 (pT T E N i nd off c)) λ(x:Bool×x8)=>
    l9 (H9 x.1) (some (false,x.2))
     (l9 (D5 op 31)
      (l9 (D5 op 31) (o6 (F8 x.2 op 0) λ(x:Bool×x8)=>some x) (some (false,x.2)))
      (some (false,x.2)))):=by
  refine sD (ih.e _ _ _ _ _ _ hi l7) (λb i1 nd1 off1 c1 g1=>?_);refine iy _ (lq false (dn g1)) (iy _ (iy _ ?_ (lq false (dn g1))) (lq false (dn g1)));rw[aB];exact xg hT g1 op mG
 have md:∀{j:Nat} {nd' :List (Int×Int)} {off' c' :Int},GdS T i (sl+1) j nd' ->Rs T E N i sl (o6 (J8 (pT T E N j nd' off' c') [44]) λ(x:Bool×x8)=>
   l9 (H9 x.1) (some (false,x.2))
    (o6 (Y1 x.2) λ(x:Int×Bool×x8)=>
     l9 x.2.1
      (o6 (F8 x.2.2 op x.1) λ(x:Bool×x8)=>some x)
      (some (false,x.2.2)))):=by
  intro j nd' off' c' g;refine sD (a5K hT g _) (λb i1 nd1 off1 c1 g1=>iy _ (lq false (dn g1)) ?_);refine a7r hT g1 (λv b i2 off2 c2 hv g2=>iy _ ?_ (lq false (dn g2)));rw[aB];exact xg hT g2 op hv
 have em:∀{j:Nat} {nd' :List (Int×Int)} {off' c' :Int},GdS T i (sl+1) j nd' ->Rs T E N i sl (o6 (F8 (pT T E N j nd' off' c') op 0) λ(x:Bool×x8)=>some x):=by intro j nd' off' c' g;rw[aB];exact xg hT g op mG
 clear body tail;have early:∀{A:Option (x8⊕Bool×x8)} {f:x8->Option (Bool×x8)},Ri T E N i sl A->Rs T E N i sl (o6 A λo=>bP o f λr=>some r):=by intro A f hA;obtain⟨b,j,nd',off',c',rfl,g⟩:=hA;exact lq b g
 cases D5 op 35
 case true=>exact early (XO (xg hT hi op mG))
 have h36:∃b,(l9 (D5 op 36) (some (D5 op 36))
    (l9 (D5 op 37) (some (D5 op 37)) (l9 (D5 op 38) (some (D5 op 38)) (some (D5 op 39)))))=some b:=by
  cases D5 op 36<;>cases D5 op 37<;>cases D5 op 38<;>exact⟨_,rfl⟩
 obtain⟨b36,h36⟩:=h36;rw[o5,h36,o9];cases b36
 case true=>rw[o7];refine early (a0K hT hK hi hN.m (λv b i2 off2 c2 hv g2=>BF _ (XO (xg hT g2 op hv)) (FN _ (dn g2))))
 have h33:∃b,(l9 (D5 op 33) (some (D5 op 33)) (some (D5 op 34)))=some b:=by cases D5 op 33<;>exact⟨_,rfl⟩
 obtain⟨b33,h33⟩:=h33;rw[o5,h33,o9];cases b33
 case true=>rw[o7];refine early (a0K hT hK hi hN.t (λv b i1 off1 c1 hv g1=>BF _ (FN _ (dn g1)) ?_));refine VG (a5K hT g1 _) (λb i2 nd2 off2 c2 g2=>BF _ (FN _ (dn g2)) ?_);refine VG (ih.e _ _ _ _ _ _ g2 (by have:=g2.lo;omega)) (λb i3 nd3 off3 c3 g3=>BF _ (FN _ (dn g3)) ?_);refine BF _ (XO (xg hT g3 op hv)) ?_;refine VG (a5K hT g3 _) (λb i4 nd4 off4 c4 g4=>BF _ (FN _ (dn g4)) ?_);refine a7p hT g4 (λw b i5 off5 c5 hw g5=>BF _ (XO (xg hT g5 op (Vb _ _))) (FN _ (dn g5)))
 rw[o5,o9,J7];refine sD (ih.e _ _ _ _ _ _ hi l7) (λb i1 nd1 off1 c1 g1=>iy _ (lq false (dn g1)) ?_);refine iy _ (iy _ (em g1) ?_) (iy _ (em g1) ?_)
 all_goals
  refine sD (a5K hT g1 _) (λb i2 nd2 off2 c2 g2=>iy _ (lq false (dn g2)) ?_);refine sD (ih.e _ _ _ _ _ _ g2 (by have:=g2.lo;omega)) (λb i3 nd3 off3 c3 g3=>iy _ (lq false (dn g3)) ?_);exact iy _ (iy _ (md g3) (em g3)) (iy _ (iy _ (md g3) (em g3)) (iy _ (md g3) (em g3)))
theorem F_:∀m,AllT T E N m
 |0=>⟨λ_ _ _ _ _ _ _ h=>by omega,λ_ _ _ _ _ _ _ _ h=>by omega,λ_ _ _ _ _ _ _ h=>by omega,λ_ _ _ _ _ _ _ h=>by omega,λ_ _ _ _ _ _ _ _ h=>by omega⟩|m+1=>
  have ih:=F_ m
  ⟨λ_ _ _ _ _ _ h hm=>b1V hT ih h hm,λ_ _ _ _ _ _ _ h hm=>b1M hT ih h hm,λ_ _ _ _ _ _ h hm=>b5G hT hK ih h hm,λ_ _ _ _ _ _ h hm=>b1F hT hK hN ih h hm,λ_ _ _ _ _ _ _ h hm=>b1R hT hK hN ih h hm⟩
end
variable {N:D7}
theorem a2d{s:List UInt8}(hA:Asc s)(hN:NmLe N)(hO:NmOk N):∃e k c,iW s N=some (e,k,c)/\NdI e:=by
 obtain⟨T,o,c,e,h1,h2⟩:=VU s hA;unfold iW;rw[e,o9];cases H9 (D5 c 0)
 case true=>exact⟨_,_,_,rfl,λn hn=>by cases hn⟩
 simp only[o5];have g0:GdS T 0 0 0 []:=⟨C9 _,bI _,C9 _,λn hn=>by cases hn⟩;obtain⟨b,i,nd,off,c1,e1,g1⟩:=(F_ (E:=x9 s) (N:=N) h2 h1 hN au).e 0 0 0 [] 0 0 g0 (by unfold au;omega);rw[show kX (T,0,x9 s,N,[],0,0)=_ from e1,o9];have fin:∀{j:Nat} {off' c' :Int},∃e k c,(l9 (H9 (D5 (pT T (x9 s) N j nd off' c').2.2.2.2.2.2 0)) (some (([]:List H5),(pT T (x9 s) N j nd off' c').2.2.2.2.2))
    (o6 (rQ (pT T (x9 s) N j nd off' c').2.2.2.2.1) λ(x_1:List Int×Int)=>
     l9 (H9 (D5 x_1.2 0)) (some ([],0,x_1.2))
      (o6 (jl (pT T (x9 s) N j nd off' c').2.2.2.2.1 N) λ(x_2:List UInt8×Int)=>
       l9 (H9 (D5 x_2.2 0)) (some ([],0,2))
        (l9 (H9 (seq x_2.1 s)) (some ([],0,2)) (some ((pT T (x9 s) N j nd off' c').2.2.2.2.1,0,0))))))=some (e,k,c)/\NdI e:=by
  intro j off' c';have n0:NdI []:=λn hn=>by cases hn
  simp only;cases H9 (D5 c' 0)
  case true=>exact⟨_,_,_,rfl,n0⟩
  simp only[o5];unfold rQ;rw[zG,o9];rw[UY hO g1.ni];simp only[o9];cases H9 (D5 (xQ nd).2.2 0)
  case true=>exact⟨_,_,_,rfl,n0⟩
  cases H9 (D5 (tY nd N).2 0)
  case true=>exact⟨_,_,_,rfl,n0⟩
  cases H9 (seq (tY nd N).1 s)
  case true=>exact⟨_,_,_,rfl,n0⟩
  exact⟨_,_,_,rfl,g1.ni⟩
 cases b
 .exact fin
 .simp only[o7];cases I8 (i:Int) (x9 T)
  .exact fin
  .obtain⟨off',he⟩:=WO (T:=T) (E:=x9 s) (N:=N) (i:=i) (nd:=nd) (off:=off) (c:=c1) 2;simp only[o7];rw[he];exact @fin i off' 2
theorem a4I{s:List UInt8}{c:UInt8}(h:s[i]? =some c)(hc:128<=c.toNat):127<ou s (i:Int):=by
 have hg:(ByteArray.mk s.toArray).get! i=c:=by
  unfold ByteArray.get!;have:(s.toArray)[i]! =c:=by simp[h]
  exact this
 have hd:127<(Utf8.decode ⟨s.toArray⟩ i).1:=by
  unfold Utf8.decode;simp only[ah,hg];rw[if_neg l7];have e:127<Utf8.runeError:=by decide
  split
  .split
   .rename_i h1 h2;simp only;omega
   .exact e
  .split
   .split
    .rename_i h1 h2 h3;simp only[A8,decide_eq_true_eq]at h3;simp only;omega
    .exact e
   .split
    .split
     .rename_i h1 h2 h3 h4;simp only[A8,decide_eq_true_eq]at h4;simp only;omega
     .exact e
    .exact e
 unfold ou;rw[D8];omega
def LnB(b:UInt8):Prop:=b=9\/prB b=true
theorem LX:∀L:List (List UInt8),L.length<=(eH L).length
 |[]=>C9 _|w::L=>by have:=LX L;simp[eH];omega
theorem a2s(s:List UInt8):∃L c,mi s=some (L,c)/\(c=0->s=eH L/\s.length<=65536/\∀w∈L,∀b∈w,LnB b):=by
 unfold mi;by_cases hl:65536<x9 s
 .rw[Y0 hl];exact⟨[],4,rfl,λh=>by cases h⟩
 have hl' :s.length<=65536:=by unfold x9 at hl;omega
 rw[O6 l7,o5];cases hq:seq s []
 case true=>exact⟨[],0,rfl,λ_=>⟨by rw[mW.1 hq];rfl,hl',λw hw=>by cases hw⟩⟩
 rw[o5];have hloop:=gJ (f:=spF s) (s:=([],0,s,0)) (λx=>∃st p:Nat,x.2.1=(st:Int)/\x.2.2.1=s/\x.2.2.2=(p:Int)/\st<=p/\p<=s.length/\s.take st=eH x.1/\x.1.length<=st/\(∀w∈x.1,∀b∈w,LnB b)/\∀b∈(s.take p).drop st,LnB b)
  (λe=>∃st:Nat,e.2=(st:Int)/\st<=s.length/\s.take st=eH e.1/\∀w∈e.1,∀b∈w,LnB b) (λr=>r=([],2)) (λx=>s.length -x.2.2.2.toNat)
  ⟨0,0,rfl,rfl,rfl,C9 _,bI _,rfl,C9 _,(λw hw=>by cases hw),λb hb=>by simp at hb⟩ F9 (by
  rintro⟨acc,st0,s',p0⟩ ⟨st,p,h1,h2,h3,h4,h5,h6,h7,h8,h9⟩;simp only at h1 h2 h3 h6 h7 h8;subst h1;subst h2;subst h3;by_cases hlt:p<s'.length
  .have hc:=lG hlt;generalize s'[p]=c at hc;unfold spF;simp only[V8 hc,o7];by_cases hb:c.toNat<128
   .obtain⟨r1,r2⟩:=zO hc hb;rw[r1,r2];have tk:s'.take (p+1)=s'.take p++[c]:=by
     rw[lg,hc];rfl
    have nx:LnB c->∃s'',(some (Out.nx (acc,(st:Int),s',((p+1:Nat):Int))):Option (Out (List (List UInt8)×Int×List UInt8×Int) (List (List UInt8)×Int) (List (List UInt8)×Int)))=some (.nx s'')/\(∃st p:Nat,s''.2.1=(st:Int)/\s''.2.2.1=s' /\s''.2.2.2=(p:Int)/\st<=p/\p<=s'.length/\s'.take st=eH s''.1/\s''.1.length<=st/\(∀w∈s''.1,∀b∈w,LnB b)/\∀b∈(s'.take p).drop st,LnB b)/\s'.length -s''.2.2.2.toNat<s'.length -((p:Int)).toNat:=by
     intro hL;refine⟨_,rfl,⟨st,p+1,rfl,rfl,rfl,l7,hlt,h6,h7,h8,λb hb=>?_⟩,by simp only[D8];omega⟩;rw[tk,kC F9]at hb;rcases I4.1 hb with hb|hb
     .exact h9 b hb
     .simp at hb;subst hb;exact hL
    by_cases h10:(c.toNat:Int)=10
    .rw[J4 h10,o7,show bQ s' (st:Int) (p:Int)=_ from Xi h4 l7,o9,nJ _ l7,o9,Z8 l7];have hc10:c=10:=by
      have:c.toNat=10:=l7;exact UInt8.toNat_inj.1 this
     refine .inl ⟨_,rfl,⟨p+1,p+1,rfl,rfl,rfl,C9 _,hlt,?_,by simp;omega,λw hw=>?_,λb hb=>by simp[gq]at hb⟩,by simp only[D8];omega⟩
     .simp only;rw[GK,←h6,tk,hc10];have e1:s'.take p=s'.take st++(s'.take p).drop st:=by
       have:=(dL st (s'.take p)).symm;rw[eG,bg h4]at this;exact this
      rw[show eH [(s'.take p).drop st]=(s'.take p).drop st++[10]from rfl,←E9,←e1]
     .rcases I4.1 hw with hw|hw
      .exact h8 w hw
      .simp only[iO]at hw;subst hw;exact h9
    rw[I9 h10,o5];by_cases h9' :(c.toNat:Int)=9
    .rw[J4 h9',o7];exact .inl (nx (.inl (by have:c.toNat=9:=l7;exact UInt8.toNat_inj.1 this)))
    rw[I9 h9',o5];by_cases h32:(32:Int)<=(c.toNat:Int)
    .rw[X9 h32,o7];by_cases h126:(c.toNat:Int)<=126
     .rw[X9 h126,o7];exact .inl (nx (.inr (by unfold prB;simp;omega)))
     .rw[bG l7];exact .inr (.inr ⟨_,rfl,rfl⟩)
    .rw[bG l7];exact .inr (.inr ⟨_,rfl,rfl⟩)
   .have hh:=a4I hc l7;rw[I9 l7,o5,I9 l7,o5,X9 l7,o7,bG l7];exact .inr (.inr ⟨_,rfl,rfl⟩)
  .unfold spF;rw[O6 (by unfold x9;simp only;omega)];exact .inr (.inl ⟨_,rfl,st,rfl,l7,h6,h8⟩))
 rcases hloop with⟨e,h,st,h1,h2,h3,h4⟩|⟨e,h,rfl⟩
 .have:∃L c,(o6 (P8 (spF s) ([],0,s,0)) λ(o:List (List UInt8)×Int⊕List (List UInt8)×Int)=>
   bP o (λ(y:List (List UInt8)×Int)=>l9 (H9 (D5 y.2 (x9 s))) (some ([],2)) (some (y.1,0)))
    λ(r:List (List UInt8)×Int)=>some r)=some (L,c)/\(c=0->s=eH L/\s.length<=65536/\∀w∈L,∀b∈w,LnB b):=by
   rw[h,o9,J7];by_cases hf:e.2=x9 s
   .rw[J4 hf];refine⟨_,_,rfl,λ_=>⟨?_,hl',h4⟩⟩;rw[←h3,P6 (by unfold x9 at hf;omega)]
   .rw[I9 hf];exact⟨_,_,rfl,λh=>by cases h⟩
  exact this
 .have:∃L c,(o6 (P8 (spF s) ([],0,s,0)) λ(o:List (List UInt8)×Int⊕List (List UInt8)×Int)=>
   bP o (λ(y:List (List UInt8)×Int)=>l9 (H9 (D5 y.2 (x9 s))) (some ([],2)) (some (y.1,0)))
    λ(r:List (List UInt8)×Int)=>some r)=some (L,c)/\(c=0->s=eH L/\s.length<=65536/\∀w∈L,∀b∈w,LnB b):=by
   rw[h];exact⟨_,_,rfl,λh=>by cases h⟩
  exact this
theorem a4Y:∀v:Fin 128,CV .i64 (v.val:Int) 1=((2*v.val:Nat):Int)/\ior .i64 (CV .i64 (v.val:Int) 1) 1=((2*v.val+1:Nat):Int):=by decide+kernel
theorem a2P:∀v:Fin 128,∀b:Fin 2,∀i:Fin 8,D5 (tZ .i64 ((2*v.val+b.val:Nat):Int) (2^(i.val+1))) 0=D5 (tZ .i64 (v.val:Int) (2^i.val)) 0:=by decide+kernel
theorem L_:∀v:Fin 128,∀b:Fin 2,D5 (tZ .i64 ((2*v.val+b.val:Nat):Int) (2^0)) 0=decide (b.val=0):=by decide+kernel
variable {v:Nat}
theorem a6g(hm:m<128)(hv:v<128){b c:Nat}(hb:b<2)(hc:c<2)(hi:i<8):Dk (((2*m+b:Nat):Int),((2*v+c:Nat):Int)) (i+1)=Dk ((m:Int),(v:Int)) i:=by unfold Dk;have h1:=a2P ⟨m,hm⟩ ⟨b,hb⟩ ⟨i,hi⟩;have h2:=a2P ⟨v,hv⟩ ⟨c,hc⟩ ⟨i,hi⟩;simp only at h1 h2 ⊢;rw[h1,h2]
theorem M_{m v:Nat}(hm:m<128)(hv:v<128){b c:Nat}(hb:b<2)(hc:c<2):∀k,k<=7->yS (((2*m+b:Nat):Int),((2*v+c:Nat):Int)) (k+1)=yS ((m:Int),(v:Int)) k++[Dk (((2*m+b:Nat):Int),((2*v+c:Nat):Int)) 0]
 |0,_=>rfl|k+1,hk=>by rw[yS,M_ hm hv hb hc k l7,a6g hm hv hb hc l7];rfl
theorem a6z{m v b c:Nat}(h:v&&& m=v)(hbc:c<=b)(hb:b<2):(2*v+c)&&& (2*m+b)=2*v+c:=by
 apply Nat.eq_of_testBit_eq;intro i;rw[Nat.testBit_and];cases i with
 |zero=>rw[Nat.testBit_zero,Nat.testBit_zero];rcases(by omega:(c=0/\b=0)\/(c=0/\b=1)\/(c=1/\b=1))with⟨rfl,rfl⟩|⟨rfl,rfl⟩|⟨rfl,rfl⟩<;>simp<;>omega
 |succ i=>rw[Nat.testBit_succ,Nat.testBit_succ,show(2*v+c) / 2=v by omega,show(2*m+b) / 2=m by omega];have:=congrArg (λx=>Nat.testBit x i) h;simpa[Nat.testBit_and]using this
theorem a3q{a b:Nat}(ha:a<256)(hb:b<256):tZ .i64 (a:Int) (b:Int)=((a&&& b:Nat):Int):=by
 have e:((BitVec.ofInt 64 (a:Int)&&& BitVec.ofInt 64 (b:Int)).toNat:Int)=((a&&& b:Nat):Int):=by
  rw[BitVec.toNat_and];have q1:(BitVec.ofInt 64 (a:Int)).toNat=a:=by rw[kJ];omega
  have q2:(BitVec.ofInt 64 (b:Int)).toNat=b:=by rw[kJ];omega
  rw[q1,q2]
 have h:a&&& b<=a:=Nat.and_le_left;unfold tZ;rw[←e];refine tu ?_;show fJ (((BitVec.ofInt 64 (a:Int)&&& BitVec.ofInt 64 (b:Int)).toNat:Nat):Int);rw[e];unfold fJ;omega
structure TpI (w:List UInt8) (j m v:Nat):Prop where
 hj:j<=w.length
 hm:m<2^j
 hv:v<2^j
 hs:v&&& m=v
 ht:BR (yS ((m:Int),(v:Int)) j)=w.take j
variable {j:Nat}
theorem a9U(h:j<=8):2^j<=256:=by have:=Nat.pow_le_pow_right (n:=2) l7 h;simpa using this
theorem a0D(h:j<=7):2^j<=128:=by have:=Nat.pow_le_pow_right (n:=2) l7 h;simpa using this
variable {w:List UInt8}
theorem a7L(hw:w.length<=8)(h:TpI w j m v){b c:Nat}(hbc:c<=b)(hb:b<2){x:UInt8}(hx:w[j]? =some x) (hxc:x=Hy (Dk (((2*m+b:Nat):Int),((2*v+c:Nat):Int)) 0)):TpI w (j+1) (2*m+b) (2*v+c):=by have hlt:=(aO.1 hx).1;have p7:=a0D (j:=j) l7;have h1:=h.hm;have h2:=h.hv;refine⟨hlt,by rw[Nat.pow_succ];omega,by rw[Nat.pow_succ];omega,a6z h.hs hbc hb,?_⟩;rw[M_ l7 l7 hb l7 j l7];unfold BR;rw[gY,lg,hx];have:=h.ht;unfold BR at this;rw[this,hxc];rfl
theorem a5T(w:List UInt8):∃p n c,iE w=some (p,n,c)/\(c=0->n=x9 w/\w.length<=8/\fJ p.2/\tvS p n=true/\Fv p n=w):=by
 unfold iE;by_cases hl:8<x9 w
 .rw[Y0 hl];exact⟨_,_,4,rfl,λh=>by cases h⟩
 have hl' :w.length<=8:=by unfold x9 at hl;omega
 rw[O6 l7,o5];have hloop:=gJ (f:=tpF w) (s:=((0,0),(0,0),0)) (λx=>∃j m v:Nat,x=((0,0),((m:Int),(v:Int)),(j:Int))/\TpI w j m v)
  (λe=>∃m v:Nat,e=((0,0),((m:Int),(v:Int)))/\TpI w w.length m v) (λr=>r=((0,0),0,2)) (λx=>w.length -x.2.2.toNat)
  ⟨0,0,0,rfl,bI _,F6,F6,rfl,rfl⟩ F9 (by
  rintro x ⟨j,m,v,rfl,h⟩;have hj:=h.hj;unfold tpF;by_cases hlt:j<w.length
  .have hc:=lG hlt;generalize w[j]=c at hc;have p7:=a0D (j:=j) l7;have h1:=h.hm;have h2:=h.hv;have s1:=a4Y ⟨m,l7⟩;have s2:=a4Y ⟨v,l7⟩;simp only at s1 s2;simp only[V8 hc,o7,oJ,hc,aQ,o9];rw[Z8 l7,s1.2,s1.1,s2.2,s2.1];have l1:∀b:Fin 2,_:=L_ ⟨m,l7⟩;have l2:∀b:Fin 2,_:=L_ ⟨v,l7⟩;have nx:∀b c' :Nat,c' <=b->b<2->c=Hy (Dk (((2*m+b:Nat):Int),((2*v+c' :Nat):Int)) 0)->∃s',(some (Out.nx (((0,0),(((2*m+b:Nat):Int),((2*v+c' :Nat):Int)),((j+1:Nat):Int)):(Int×Int)×(Int×Int)×Int)):Option (Out ((Int×Int)×(Int×Int)×Int) ((Int×Int)×(Int×Int)) ((Int×Int)×Int×Int)))=some (.nx s')/\(∃j m v:Nat,s' =((0,0),((m:Int),(v:Int)),(j:Int))/\TpI w j m v)/\w.length -s'.2.2.toNat<w.length -((j:Int)).toNat:=
    λb c' hbc hb hcx=>⟨_,rfl,⟨j+1,_,_,rfl,a7L hl' h hbc hb hc hcx⟩,by simp only[D8];omega⟩
   have bc:∀b c' :Nat,∀hb:b<2,∀hc' :c' <2,Dk (((2*m+b:Nat):Int),((2*v+c' :Nat):Int)) 0=l9 (decide (b=0)) 45 (l9 (decide (c' =0)) 48 49):=by intro b c' hb hc';unfold Dk;rw[l1 ⟨b,hb⟩,l2 ⟨c',hc'⟩]
   have cc:∀k:Nat,k<256->(c.toNat:Int)=(k:Int)->c=UInt8.ofNat k:=by intro k hk e;apply UInt8.toNat_inj.1;rw[show c.toNat=k by omega];simp;omega
   by_cases h48:(c.toNat:Int)=48
   .rw[J4 h48,o7];exact .inl (nx 1 0 l7 l7 (by rw[bc 1 0 l7 l7];exact cc 48 l7 h48))
   rw[I9 h48,o5];by_cases h49:(c.toNat:Int)=49
   .rw[J4 h49,o7];exact .inl (nx 1 1 l7 l7 (by rw[bc 1 1 l7 l7];exact cc 49 l7 h49))
   rw[I9 h49,o5];by_cases h45:(c.toNat:Int)=45
   .rw[J4 h45,o7];exact .inl (nx 0 0 l7 l7 (by rw[bc 0 0 l7 l7];exact cc 45 l7 h45))
   rw[I9 h45,o5];exact .inr (.inr ⟨_,rfl,rfl⟩)
  .have:j=w.length:=l7;subst this;rw[O6 (by unfold x9;simp only;omega)];exact .inr (.inl ⟨_,rfl,m,v,rfl,h⟩))
 rcases hloop with⟨e,h,m,v,rfl,hi⟩|⟨e,h,rfl⟩
 .refine⟨((m:Int),(v:Int)),x9 w,0,?_,λ_=>?_⟩
  .refine J3 (show P8 (tpF w) ((0,0),(0,0),0)=_ from h) ?_;rfl
  .have p8:=a9U hl';have h1:=hi.hm;have h2:=hi.hv;have hcl:clB (x9 w)=x9 w:=PM (by unfold x9;omega);have hn:(x9 w).toNat=w.length:=by unfold x9;omega
   refine⟨rfl,hl',by unfold fJ;simp only;omega,?_,?_⟩
   .unfold tvS;simp only;have h2w:((2^w.length:Nat):Int)=2^w.length:=A7;rw[hcl,hn,X9 l7,Y0 (by rw[←h2w];omega),X9 l7,a3q l7 l7,hi.hs];exact J4 rfl
   .unfold Fv;rw[hcl,hn,hi.ht,bY]
 .refine⟨((0:Int),(0:Int)),0,2,?_,λh=>by cases h⟩
  .refine J3 (show P8 (tpF w) ((0,0),(0,0),0)=_ from h) ?_;rfl
theorem P_(w:List UInt8)(hl:w.length<=1000000):∃a b f,uV w [32]=some (a,b,f)/\(f=true->w=a++32::b):=by
 by_cases h:(32:UInt8)∈w
 .obtain⟨a,b,e,hn⟩:=List.eq_append_cons_of_mem h;refine⟨a,b,true,?_,λ_=>e⟩;rw[e];exact UL (λx hx e=>hn (e▸hx)) (by rw[←e];omega)
 .refine⟨w,[],false,?_,λh=>by cases h⟩;unfold uV uk xZ;simp only;rw[Vd w 32 (λx hx e=>h (e▸hx)),o9];rfl
theorem Qp(w:List UInt8):∃b,jE w=some b:=by
 unfold jE;cases seq w []
 .exact⟨_,rfl⟩
 .exact⟨_,rfl⟩
variable {s:O0}
theorem Iw(hl:s.2.2.2.2.length<=60)(a:List UInt8)(N:D7)(d:Int)(cs:List (List (Int×Int)))(fr:List Int)(rs:List L6):∃v,V5 (pD s N d cs fr rs) a=some (v,pD s N d cs fr rs)/\(v=-1\/(ruB s v=true/\ruN s v=a)):=by
 unfold V5;have:=gJ (f:=λ(x:Int)=>l9 (I8 x (x9 s.2.2.2.2)) (o6 (X0 s.2.2.2.2 x) λ(x_1:kV)=>l9 (seq x_1.1 a) (some (Out.rt (x,pD s N d cs fr rs))) (some (Out.nx (I5 IntKind.i64 x 1)))) (some (Out.ex PUnit.unit))) (s:=0) (λx=>∃j:Nat,x=(j:Int)/\j<=s.2.2.2.2.length) (λ_=>True) (λr=>r.2=pD s N d cs fr rs/\ruB s r.1=true/\ruN s r.1=a) (λx=>s.2.2.2.2.length -x.toNat) ⟨0,rfl,l7⟩ F9 (by
  rintro x ⟨j,rfl,hj⟩;by_cases h5:j<s.2.2.2.2.length
  .rw[Y0 (by unfold x9;omega),o7,V4,lG h5,o9];cases hq:seq (s.2.2.2.2[j]).1 a
   .exact .inl ⟨_,rfl,⟨j+1,by rw[Z8 l7],l7⟩,by rw[Z8 l7];simp only[D8];omega⟩
   .refine .inr (.inr ⟨_,rfl,rfl,?_,?_⟩)
    .unfold ruB;rw[X9 (by simp only;omega),o7];exact Y0 (by unfold x9;simp only;omega)
    .unfold ruN;simp only;rw[V4,lG h5];exact mW.1 hq
  .rw[O6 (by unfold x9;omega)];exact .inr (.inl ⟨_,rfl,trivial⟩))
 rcases this with⟨e,h,-⟩|⟨r,h,h1,h2,h3⟩
 .exact⟨-1,by refine J3 h ?_;rfl,.inl rfl⟩
 .exact⟨r.1,by refine J3 h ?_;rw[o9,jg,←h1],.inr ⟨h2,h3⟩⟩
variable {cs:List (List (Int×Int))}{d:Int}{fr:List Int}{rs:List L6}
theorem a5Z(hl:s.2.2.2.2.length<=60)(hN:NmLe N)(hO:NmOk N){t:List UInt8}(hA:Asc t)(htl:t.length<=65536)(hc:cs.length<=8)(hfr:fr.length<=8):
  ∃c P',jR (pD s N d cs fr rs) t=some (c,P')/\(c=0->∃e r,rs=[]/\cs.length<8/\P' =pD s N d (cs++[e]) (fr++[r]) []/\[119,104,101,110,32]++t=lnC tY s N (e,r)/\ruB s r=true/\(tY e N).2=0/\NdI e):=by
 unfold jR;obtain⟨a,b,f,e,hf⟩:=P_ t l7;rw[e,o9];simp only;cases f
 case false=>exact⟨2,_,rfl,λh=>by cases h⟩
 simp only[F5,o5];cases seq a []
 case true=>exact⟨2,_,rfl,λh=>by cases h⟩
 cases seq b []
 case true=>exact⟨2,_,rfl,λh=>by cases h⟩
 cases h0:I8 0 (x9 rs)
 case true=>exact⟨2,_,rfl,λh=>by cases h⟩
 simp only[o5,o9,J7];cases h8:V6 8 (x9 cs)
 case true=>exact⟨4,_,rfl,λh=>by cases h⟩
 simp only[o5];obtain⟨v,hv,hvp⟩:=Iw hl a N d cs fr rs;rw[show V5 (s,N,d,cs,fr,rs) a=_ from hv,o9];simp only;cases hneg:I8 v 0
 case true=>exact⟨6,_,rfl,λh=>by cases h⟩
 simp only[o5];have hw:=hf rfl;have hbA:Asc b:=λc hc=>hA c (by rw[hw];simp[hc]);obtain⟨e',k,c,hp,hI⟩:=a2d hbA hN hO;rw[hp,o9];simp only;cases hc0:D5 c 0
 case false=>exact⟨c,_,rfl,λh=>absurd h (xq.1 hc0)⟩
 simp only[F5,o5];rw[nJ _ l7,o9,nJ _ l7,o9];have hc1:=dO.1 hc0;subst hc1;have hff:=Zx ⟨k,hp⟩;rw[UY hO hI]at hff;have hff:=qy hff;have hrs:rs=[]:=by have:=rY.1 h0;unfold x9 at this;exact Y4.1 l7
 have h8' :cs.length<8:=by have:=Vf.1 h8;unfold x9 at this;omega
 subst hrs;rcases hvp with rfl|⟨q1,q2⟩
 .cases hneg
 refine⟨0,_,rfl,λ_=>⟨e',v,rfl,h8',rfl,?_,q1,by rw[hff],hI⟩⟩;unfold lnC;simp only;rw[q2,hff,hw];simp
theorem a7a(hc:cs.length<=8)(a:List UInt8)(P:J5):∀X,X=(l9 (I8 0 (x9 cs))
          (o6 (iE a) λ(x:H5×H5)=>
           l9 (H9 (D5 x.2.2 0)) (some (Sum.inr ((2:Int),P)))
            (l9 (H9 (D5 x.2.1 (x9 cs))) (some (Sum.inr (2,P)))
             (l9 (D5 (x9 cs) 0) (some (Sum.inr (2,P))) (some (Sum.inl (x.1,-1))))))
          (l9 (H9 (seq a [46]))
           (o6 (iE a) λ(x:H5×H5)=>
            l9 (H9 (D5 x.2.2 0)) (some (Sum.inr (2,P)))
             (l9 (H9 (D5 x.2.1 (x9 cs))) (some (Sum.inr (2,P)))
              (l9 (D5 (x9 cs) 0) (some (Sum.inr (2,P))) (some (Sum.inl (x.1,-1))))))
           (some (Sum.inl ((0,0),-1)))):Option (L6⊕Int×J5))->
  X=some (.inr (2,P))\/∃p:Int×Int,X=some (.inl (p,-1))/\fJ p.2/\tvS p (x9 cs)=true/\xF p (x9 cs)=a:=by
 intro X hX;obtain⟨p,n,c,e,h⟩:=a5T a;have inner:(o6 (iE a) λ(x:H5×H5)=>
           l9 (H9 (D5 x.2.2 0)) (some (Sum.inr ((2:Int),P)))
            (l9 (H9 (D5 x.2.1 (x9 cs))) (some (Sum.inr (2,P)))
             (l9 (D5 (x9 cs) 0) (some (Sum.inr (2,P))) (some (Sum.inl (x.1,-1))))))=(some (.inr (2,P)):Option (L6⊕Int×J5))\/
   ((o6 (iE a) λ(x:H5×H5)=>
           l9 (H9 (D5 x.2.2 0)) (some (Sum.inr ((2:Int),P)))
            (l9 (H9 (D5 x.2.1 (x9 cs))) (some (Sum.inr (2,P)))
             (l9 (D5 (x9 cs) 0) (some (Sum.inr (2,P))) (some (Sum.inl (x.1,-1))))))=(some (.inl (p,-1)):Option (L6⊕Int×J5))/\c=0/\n=x9 cs/\x9 cs≠0):=by
  rw[e,o9];simp only;cases h1:D5 c 0
  case false=>exact .inl rfl
  cases h2:D5 n (x9 cs)
  case false=>exact .inl rfl
  cases h3:D5 (x9 cs) 0
  case true=>exact .inl rfl
  exact .inr ⟨rfl,dO.1 h1,dO.1 h2,xq.1 h3⟩
 by_cases h0:0<x9 cs
 .rw[Y0 h0,o7]at hX;rcases inner with g|⟨g,g1,g2,g3⟩
  .exact .inl (hX.trans g)
  .obtain⟨q1,q2,q3,q4,q5⟩:=h g1;subst g2;exact .inr ⟨p,hX.trans g,q3,q4,by unfold xF;rw[Y0 h0,o7];exact q5⟩
 .rw[O6 l7,o5]at hX;have h00:x9 cs=0:=by unfold x9 at h0 ⊢;omega
  cases hs:seq a [46]
  .rw[hs,P7,o7]at hX;rcases inner with g|⟨g,g1,g2,g3⟩
   .exact .inl (hX.trans g)
   .exact absurd h00 g3
  .rw[hs,F5,o5]at hX;refine .inr ⟨(0,0),hX,mG,by rw[h00];rfl,?_⟩;rw[h00,mW.1 hs];rfl
theorem VI{n:Int}{p:Int×Int}{o:Int}(h1:tvS p n=true)(h2:SX s o=true):AQ s n (p,o)=0:=by unfold AQ;simp only;rw[h1,h2];rfl
theorem a7q(hl:s.2.2.2.2.length<=60){t:List UInt8}(htl:t.length<=65536)(hc:cs.length<=8)(hrs:rs.length<=1000000):
  ∃c P',kG (pD s N d cs fr rs) t=some (c,P')/\(c=0->∃row,P' =pD s N d cs fr (rs++[row])/\[114,111,119,32]++t=lnR s (x9 cs) row/\fJ row.1.2/\AQ s (x9 cs) row=0):=by
 unfold kG;obtain⟨a,b,f,e,hf⟩:=P_ t l7;rw[e,o9];simp only;cases f
 case false=>exact⟨2,_,rfl,λh=>by cases h⟩
 simp only[F5,o5];cases seq a []
 case true=>exact⟨2,_,rfl,λh=>by cases h⟩
 simp only[o5,o9,J7];have hw:=hf rfl;have hbl:b.length<=65536:=by rw[hw]at htl;simp at htl;omega
 obtain⟨t2,bl,e2,-,hy,hn⟩:=EK b [114,117,108,101,32] l7;rw[e2,o9];simp only;have pt:=a7a hc a (pD s N d cs fr rs) _ rfl;cases bl
 .simp only[o5,P7,o7];cases hnone:seq b [110,111,110,101]
  .simp only[P7,o7];cases hconf:seq b [99,111,110,102,108,105,99,116]
   case false=>exact⟨2,_,rfl,λh=>by cases h⟩
   simp only[F5,o5,o9,J7];rcases pt with g|⟨p,g,g1,g2,g3⟩
   .refine⟨2,pD s N d cs fr rs,?_,λh=>by cases h⟩;exact J3 g rfl
   .refine⟨0,pD s N d cs fr (rs++[(p,-2)]),?_,λ_=>⟨(p,-2),rfl,?_,g1,VI g2 rfl⟩⟩
    .refine J3 g (by rw[o9,J7,o7,nJ _ l7,o9])
    .unfold lnR;simp only;rw[g3,hw,mW.1 hconf];simp[Hu];rfl
  .simp only[F5,o5,o9,J7];have hbn:=mW.1 hnone;have hconf:seq b [99,111,110,102,108,105,99,116]=false:=by rw[hbn];rfl
   rcases pt with g|⟨p,g,g1,g2,g3⟩
   .refine⟨2,pD s N d cs fr rs,?_,λh=>by cases h⟩;exact J3 g rfl
   .refine⟨0,pD s N d cs fr (rs++[(p,-1)]),?_,λ_=>⟨(p,-1),rfl,?_,g1,VI g2 rfl⟩⟩
    .refine J3 g (by rw[o9,J7,hconf,o5,nJ _ l7,o9])
    .unfold lnR;simp only;rw[g3,hw,hbn];simp[Hu];rfl
 .simp only[o7];obtain⟨wd,hwd⟩:=Qp t2;rw[hwd,o9];cases wd
  case false=>exact⟨2,_,rfl,λh=>by cases h⟩
  simp only[F5,o5,o9,J7];obtain⟨v,hv,hvp⟩:=Iw hl t2 N d cs fr rs;rcases pt with g|⟨p,g,g1,g2,g3⟩
  .refine⟨2,pD s N d cs fr rs,?_,λh=>by cases h⟩;exact J3 g rfl
  .rcases hvp with rfl|⟨q1,q2⟩
   .refine⟨6,pD s N d cs fr rs,?_,λh=>by cases h⟩;refine J3 g (by rw[o9,J7];cases seq b [99,111,110,102,108,105,99,116]<;>simp only[o7,o5]<;>rw[show V5 (s,N,d,cs,fr,rs) t2=_ from hv,o9]<;>rfl)
   .have hv0:I8 v 0=false:=(Ro q1).1;refine⟨0,pD s N d cs fr (rs++[(p,v)]),?_,λ_=>⟨(p,v),rfl,?_,g1,VI g2 ?_⟩⟩
    .refine J3 g (by rw[o9,J7];cases seq b [99,111,110,102,108,105,99,116]<;>simp only[o7,o5]<;>rw[show V5 (s,N,d,cs,fr,rs) t2=_ from hv,o9]<;>simp only[hv0,o5]<;>rw[nJ _ l7,o9])
    .unfold lnR;simp only;have:=rY.1 hv0;rw[g3,hw,hy rfl];unfold Hu;rw[I9 l7,I9 l7,o5,o5,q2];simp
    .have:=rY.1 hv0;unfold SX;rw[I9 l7,I9 l7,o5,o5,q1]
variable {l:gV}
theorem a6J(h:NmL l)(hs:s∈l.2.2):NmLe (nmS l s):=by
 obtain⟨s1,s2,-⟩:=h.s s hs;have ne:=h.ne;have nt:=h.nt;unfold nmS;refine⟨⟨by simp only;omega,λe he=>by have:=(h.e e he).1;omega⟩,by simp only[O7];omega,by simp only[O7];omega,by simp only[O7];omega,?_⟩;simp only;cases V6 0 s.2.1
 .simp[l9]
 .rw[o7];cases hq:X0 l.2.2 s.2.1 with
  |none=>simp|some q=>have:=(h.s q (iQ hq).2.2.1).2.1;simp only[O7];omega
theorem a1G(hl:s.2.2.2.1.length<=14)(hwl:w.length<=1000000):∃c P',U0 (pD s N 0 [] [] []) 0 w=some (c,P')/\(c=0->∃d f,X0 s.2.2.2.1 d=some f/\P' =pD s N d [] [] []/\w=[100,101,99,105,115,105,111,110,32]++f.1):=by
 unfold U0;rw[J4 rfl,o7];obtain⟨t,b,e,-,hy,-⟩:=EK w [100,101,99,105,115,105,111,110,32] hwl;rw[e,o9];simp only;cases b
 case false=>exact⟨2,_,rfl,λh=>by cases h⟩
 simp only[F5,o5];obtain⟨wd,hwd⟩:=Qp t;rw[hwd,o9];cases wd
 case false=>exact⟨2,_,rfl,λh=>by cases h⟩
 simp only[F5,o5];have:=gJ (f:=λ(x_2:J5×Int)=>
        l9 (I8 x_2.2 (x9 s.2.2.2.1))
         (o6 (X0 s.2.2.2.1 x_2.2) λ(x_3:jq)=>
          l9 (seq x_3.1 t) (some (Out.rt ((0:Int),x_2.1.1,x_2.1.2.1,x_2.2,x_2.1.2.2.2)))
           (some (Out.nx (x_2.1,I5 IntKind.i64 x_2.2 1))))
         (some (Out.ex x_2.1))) (s:=(pD s N 0 [] [] [],0)) (λx=>x.1=pD s N 0 [] [] []/\∃j:Nat,x.2=(j:Int)/\j<=s.2.2.2.1.length) (λ_=>True) (λr=>∃d f,X0 s.2.2.2.1 d=some f/\r=(0,pD s N d [] [] [])/\t=f.1) (λx=>s.2.2.2.1.length -x.2.toNat) ⟨rfl,0,rfl,l7⟩ F9 (by
  rintro⟨P,x⟩ ⟨h1,j,h2,hj⟩;simp only at h1 h2;subst h1;subst h2;by_cases h5:j<s.2.2.2.1.length
  .simp only;rw[Y0 (by unfold x9;omega),o7,V4,lG h5,o9];cases hq:seq (s.2.2.2.1[j]).1 t
   .exact .inl ⟨_,rfl,⟨rfl,j+1,by simp only;rw[Z8 l7],l7⟩,by simp only;rw[Z8 l7];simp only[D8];omega⟩
   .exact .inr (.inr ⟨_,rfl,(j:Int),_,by rw[V4,lG h5],rfl,(mW.1 hq).symm⟩)
  .simp only;rw[O6 (by unfold x9;omega)];exact .inr (.inl ⟨_,rfl,trivial⟩))
 rcases this with⟨e,h,-⟩|⟨r,h,d,f,h1,rfl,h3⟩
 .exact⟨6,e,by refine J3 h ?_;rfl,λh=>by cases h⟩
 .exact⟨0,_,by refine J3 h ?_;rfl,λ_=>⟨d,f,h1,rfl,by rw[hy rfl,h3]⟩⟩
theorem a3D(hl:s.2.2.2.2.length<=60)(hN:NmLe N)(hO:NmOk N)(hA:Asc w)(hwl:w.length<=65536)(hc:cs.length<=8)(hfr:fr.length<=8)(hrs:rs.length<=1000000)(hi:1<=i):
  ∃c P',U0 (pD s N d cs fr rs) (i:Int) w=some (c,P')/\(c=0->
   (∃e r,rs=[]/\cs.length<8/\P' =pD s N d (cs++[e]) (fr++[r]) []/\w=lnC tY s N (e,r)/\ruB s r=true/\(tY e N).2=0/\NdI e)\/
   (∃row,P' =pD s N d cs fr (rs++[row])/\w=lnR s (x9 cs) row/\fJ row.1.2/\AQ s (x9 cs) row=0)):=by
 unfold U0;rw[I9 l7,o5];obtain⟨t,b,e,htl,hy,-⟩:=EK w [119,104,101,110,32] l7;rw[e,o9];simp only;cases b
 case true=>simp only[o7];rw[aB];have hw:=hy rfl;obtain⟨c,P',h1,h2⟩:=a5Z (d:=d) (rs:=rs) hl hN hO (t:=t) (λx hx=>hA x (by rw[hw];simp[hx])) l7 hc hfr;exact⟨c,P',h1,λh=> .inl (by rw[hw];exact h2 h)⟩
 simp only[o5];obtain⟨t,b,e,htl,hy,-⟩:=EK w [114,111,119,32] l7;rw[e,o9];simp only;cases b
 case false=>exact⟨2,_,rfl,λh=>by cases h⟩
 simp only[o7];rw[aB];have hw:=hy rfl;obtain⟨c,P',h1,h2⟩:=a7q (N:=N) (d:=d) (fr:=fr) (rs:=rs) hl (t:=t) l7 hc hrs;exact⟨c,P',h1,λh=> .inr (by rw[hw];exact h2 h)⟩
theorem WC{F:FmF}{s:O0}{N:D7} :∀(L:List (List (Int×Int)×Int)) (b:List UInt8),(∀x∈L,ruB s x.2=true/\(F x.1 N).2=0)->gX (BV F s N) L b= .inl (b++eH (L.map (lnC F s N)))
 |[],b,h=>by simp[gX,eH]|x::L,b,h=>by
  obtain⟨h1,h2⟩:=h x A7;unfold gX;have:BV F s N b x= .inl (b++Yt s x.2 (F x.1 N).1):=by unfold BV;rw[h1,o7,J4 h2,o7]
  rw[this];simp only;rw[WC L _ (λy hy=>h y (by simp[hy]))];simp[eH,lnC,Yt]
theorem XQ{s:O0}{n:Int} :∀(L:List L6) (b:List UInt8),(∀x∈L,AQ s n x=0)->gX (KL s n) L b= .inl (b++eH (L.map (lnR s n)))
 |[],b,h=>by simp[gX,eH]|x::L,b,h=>by
  unfold gX;have:KL s n b x= .inl (b++Tc s x n):=by unfold KL;rw[h x A7];rfl
  rw[this];simp only;rw[XQ L _ (λy hy=>h y (by simp[hy]))];simp[eH,lnR,Tc]
structure GI (s:O0) (N:D7) (ls:List (List UInt8)) (i:Nat) (d:Int) (f:jq) (cs:List (List (Int×Int))) (fr:List Int) (rs:List L6):Prop where
 ds:X0 s.2.2.2.1 d=some f
 le:cs.length=fr.length
 c8:cs.length<=8
 rl:rs.length<=i
 tk:ls.take i=([100,101,99,105,115,105,111,110,32]++f.1)::((cs.zip fr).map (lnC tY s N)++rs.map (lnR s (x9 cs)))
 cz:∀x∈cs.zip fr,ruB s x.2=true/\(tY x.1 N).2=0
 ci:∀e∈cs,NdI e
 rz:∀r∈rs,fJ r.1.2/\AQ s (x9 cs) r=0
variable {ls:List (List UInt8)}{f:jq}
theorem a9y(h:GI s N ls i d f cs fr [])(hw:ls[i]? =some w){e:List (Int×Int)}{r:Int}(h8:cs.length<8)(hl:w=lnC tY s N (e,r))(hr:ruB s r=true)(he:(tY e N).2=0)(hI:NdI e):GI s N ls (i+1) d f (cs++[e]) (fr++[r]) []:=by
 have hz:(cs++[e]).zip (fr++[r])=cs.zip fr++[(e,r)]:=by rw[List.zip_append h.le];rfl
 refine⟨h.ds,by simp[h.le],by simp;omega,A7,?_,λx hx=>?_,λx hx=>?_,λx hx=>by cases hx⟩
 .rw[lg,hw,h.tk,hz,hl];simp
 .rw[hz]at hx;rcases I4.1 hx with hx|hx
  .exact h.cz x hx
  .simp only[iO]at hx;subst hx;exact⟨hr,he⟩
 .rcases I4.1 hx with hx|hx
  .exact h.ci x hx
  .simp only[iO]at hx;subst hx;exact hI
theorem a9A(h:GI s N ls i d f cs fr rs)(hw:ls[i]? =some w){row:L6}(hl:w=lnR s (x9 cs) row)(hI:fJ row.1.2)(hr:AQ s (x9 cs) row=0):GI s N ls (i+1) d f cs fr (rs++[row]):=by
 refine⟨h.ds,h.le,h.c8,by have:=h.rl;simp;omega,?_,h.cz,h.ci,λx hx=>?_⟩
 .rw[lg,hw,h.tk,hl];simp
 .rcases I4.1 hx with hx|hx
  .exact h.rz x hx
  .simp only[iO]at hx;subst hx;exact⟨hI,hr⟩
theorem a6D(h:∀b∈w,LnB b):Asc w:=λc hc=>by
 rcases h c hc with rfl|h
 .decide
 .have:=(a8t h).2;omega
theorem WZ:∀(L:List (List UInt8)) w,w∈L->w.length<=(eH L).length
 |[],w,h=>by cases h|v::L,w,h=>by
  rcases D6.1 h with rfl|h
  .simp[eH]
  .have:=WZ L w h;simp[eH];omega
theorem a1H(h1:s.2.2.2.1.length<=14)(h2:s.2.2.2.2.length<=60)(hN:NmLe N)(hO:NmOk N)(hl:(eH ls).length<=65536)(h0:ls≠[])(hb:∀w∈ls,∀b∈w,LnB b)(T0:O9):
  (∃d f cs fr rs,P8 (dpF ls) (T0,pD s N 0 [] [] [],0)=some (.inl (T0,pD s N d cs fr rs))/\GI s N ls ls.length d f cs fr rs)\/∃o c,P8 (dpF ls) (T0,pD s N 0 [] [] [],0)=some (.inr ((0,[],[],[]),o,c))/\c≠0:=by
 have hll:=LX ls;have hpos:0<ls.length:=List.length_pos_iff.2 h0;have hloop:=gJ (f:=dpF ls) (s:=(T0,pD s N 0 [] [] [],0)) (λx=>∃i:Nat,x.1=T0/\x.2.2=(i:Int)/\i<=ls.length/\((i=0/\x.2.1=pD s N 0 [] [] [])\/(1<=i/\∃d f cs fr rs,x.2.1=pD s N d cs fr rs/\GI s N ls i d f cs fr rs)))
  (λe=>e.1=T0/\∃d f cs fr rs,e.2=pD s N d cs fr rs/\GI s N ls ls.length d f cs fr rs) (λr=>r.1=(0,[],[],[])/\r.2.2≠0) (λx=>ls.length -x.2.2.toNat)
  ⟨0,rfl,rfl,bI _,.inl ⟨rfl,rfl⟩⟩ F9 (by
  rintro⟨T,P,q⟩ ⟨i,e1,e2,hi,hst⟩;simp only at e1 e2 hst;subst e1;subst e2;by_cases hlt:i<ls.length
  .have hw:=lG hlt;generalize ls[i]=w at hw;have hm:=yw hw;have hA:=a6D (hb w hm);have hwl:w.length<=65536:=jJ (WZ ls w hm) hl;have main:∃c P',U0 P (i:Int) w=some (c,P')/\(c=0->∃d f cs fr rs,P' =pD s N d cs fr rs/\GI s N ls (i+1) d f cs fr rs):=by
    rcases hst with⟨rfl,rfl⟩|⟨h1i,d,f,cs,fr,rs,rfl,hg⟩
    .obtain⟨c,P',g,g1⟩:=a1G (N:=N) h1 (w:=w) l7;refine⟨c,P',g,λhc=>?_⟩;obtain⟨d,f,q1,rfl,q3⟩:=g1 hc;refine⟨d,f,[],[],[],rfl,q1,rfl,A7,A7,?_,(λx hx=>by cases hx),(λx hx=>by cases hx),λx hx=>by cases hx⟩;rw[lg,hw,q3];rfl
    .have h8:=hg.c8;have hrl:=hg.rl;have hle:=hg.le;obtain⟨c,P',g,g1⟩:=a3D h2 hN hO hA hwl (d:=d) (cs:=cs) (fr:=fr) (rs:=rs) h8 l7 l7 h1i;refine⟨c,P',g,λhc=>?_⟩;rcases g1 hc with⟨e,r,rfl,q1,rfl,q3,q4,q5,q6⟩|⟨row,rfl,q2,q3,q4⟩
     .exact⟨d,f,_,_,_,rfl,a9y hg hw q1 q3 q4 q5 q6⟩
     .exact⟨d,f,_,_,_,rfl,a9A hg hw q2 q3 q4⟩
   obtain⟨c,P',g,g1⟩:=main;unfold dpF;simp only[V8 hw,o7,V4,hw,o9,qN,jC,D8,g];by_cases hc:c=0
   .rw[J4 hc,F5,o5,Z8 l7];obtain⟨d,f,cs,fr,rs,rfl,hg⟩:=g1 hc;exact .inl ⟨_,rfl,⟨i+1,rfl,rfl,hlt,.inr ⟨l7,d,f,cs,fr,rs,rfl,hg⟩⟩,by simp only[D8];omega⟩
   .rw[I9 hc];exact .inr (.inr ⟨_,rfl,rfl,hc⟩)
  .have hi' :i=ls.length:=l7;unfold dpF;rw[O6 (by unfold x9;simp only;omega)];rcases hst with⟨rfl,-⟩|⟨h1i,d,f,cs,fr,rs,rfl,hg⟩
   .omega
   .subst hi';exact .inr (.inl ⟨_,rfl,rfl,d,f,cs,fr,rs,rfl,hg⟩))
 rcases hloop with⟨e,h,e1,d,f,cs,fr,rs,e2,hg⟩|⟨r,h,r1,r2⟩
 .exact .inl ⟨d,f,cs,fr,rs,by rw[h,←e1,←e2],hg⟩
 .exact .inr ⟨r.2.1,r.2.2,by rw[h];exact congrArg some (congrArg Sum.inr (oM r1 rfl)),r2⟩
variable {k:Int}
theorem a9z{s:List UInt8}{sc:O0}(hv:(pY l).1=0)(hs:X0 l.2.2 k=some sc)(hj:s=eH ls)(hl:s.length<=65536)(h:GI sc (nmS l sc) ls ls.length d f cs fr rs):dfS tY l k (d,cs,fr,rs)=(s,0):=by
 have hc8:=h.c8;have hle:=h.le;have htk:=h.tk;rw[bY]at htk;unfold dfS;rw[J4 hv,o7,hs];simp only[h.ds];rw[O6 (show x9 cs<=8 by unfold x9;omega),o5,J4 (show x9 fr=x9 cs by unfold x9;omega),o7,WC _ _ h.cz];simp only;rw[XQ _ _ (λx hx=>(h.rz x hx).2)];simp only;have e:[100,101,99,105,115,105,111,110,32]++f.1++[10]++eH ((cs.zip fr).map (lnC tY sc (nmS l sc)))++eH (rs.map (lnR sc (x9 cs)))=s:=by rw[hj,htk];simp only[eH,GK];simp
 rw[e,O6 (by unfold x9;omega)];rfl
theorem YS{s:List UInt8}(hS:SmL l)(hL:NmL l):∃t o c,bZ l k s=some (t,o,c)/\(c=0->dfS tY l k t=(s,0)/\WfT t/\t.2.1.length<=8/\t.2.2.1.length<=8/\t.2.2.2.length<=s.length):=by
 unfold bZ;rw[Gg hS,o9];cases hv:D5 (pY l).1 0
 case false=>exact⟨_,_,1,rfl,λh=>by cases h⟩
 have hv0:=dO.1 hv;rw[b1y hv0];simp only[J4 (rfl:(0:Int)=0),oP,F5,o5,o7];rcases LZ l.2.2 k with h|⟨h1,h2,sc,hs,hm⟩
 .rcases h with h|⟨h1,h2⟩
  .rw[h];exact⟨_,_,6,rfl,λh=>by cases h⟩
  .rw[h1,h2];exact⟨_,_,6,rfl,λh=>by cases h⟩
 rw[h1,o5,h2,o5,o9,J7];obtain⟨L,c,hsp,hspc⟩:=a2s s;rw[hsp,o9];simp only;cases hc:D5 c 0
 case false=>exact⟨_,_,c,rfl,λh=>absurd h (xq.1 hc)⟩
 simp only[F5,o5];cases h0:D5 (x9 L) 0
 case true=>exact⟨_,_,5,rfl,λh=>by cases h⟩
 obtain⟨hj,hsl,hLn⟩:=hspc (dO.1 hc);rw[o5,hs,o9,QG hL hs,o9];obtain⟨k0,k1,hm',-⟩:=iQ hs;obtain⟨s1,s2,s3,-⟩:=hL.s sc hm';have hne:L≠[]:=λe=>by rw[e]at h0;cases h0
 rcases a1H s2 s3 (a6J hL hm') (a6K hL hm') (ls:=L) (by rw[←hj];exact hsl) hne hLn (0,[],[],[])with⟨d,f,cs,fr,rs,hlp,hg⟩|⟨o,c2,hlp,hc2⟩
 .have hll:=LX L;have hc8:=hg.c8;have hle:=hg.le;have hrl:=hg.rl;refine⟨(d,cs,fr,rs),0,0,?_,λ_=>⟨a9z hv0 hs hj hsl hg,⟨hg.ci,λr hr=>(hg.rz r hr).1⟩,hc8,by simp only;omega,by simp only;rw[hj];omega⟩⟩;refine J3 (show P8 (dpF L) ((0,[],[],[]),(sc,nmS l sc,0,[],[],[]),0)=_ from hlp) ?_;rfl
 .refine⟨((0,[],[],[]):O9),o,c2,?_,λh=>absurd h hc2⟩;refine J3 (show P8 (dpF L) ((0,[],[],[]),(sc,nmS l sc,0,[],[],[]),0)=_ from hlp) ?_;rfl
theorem Hm{α:Type}{l:List α}(hl:l.length<=1000000){f:Int->Option (Out Int PUnit Bool)}(h1:∀(i:Nat) (a:α),l[i]? =some a->f (i:Int)=some (.nx ((i+1:Nat):Int)))(h2:f (l.length:Int)=some (.ex PUnit.unit)):P8 f 0=some (.inl PUnit.unit):=by
 have:=gJ (f:=f) (s:=0) (λx=>∃j:Nat,x=(j:Int)/\j<=l.length) (λ_=>True) (λ_=>False) (λx=>l.length -x.toNat) ⟨0,rfl,l7⟩ F9 (by
  rintro x ⟨j,rfl,hj⟩;by_cases h5:j<l.length
  .exact .inl ⟨_,h1 j _ (lG h5),⟨j+1,rfl,l7⟩,by simp only[D8];omega⟩
  .have:j=l.length:=l7;subst this;exact .inr (.inl ⟨_,h2,trivial⟩))
 rcases this with⟨e,h,-⟩|⟨r,h,hr⟩
 .exact h
 .exact hr.elim
theorem ZT{l:List (Int×Int)}(hl:l.length<=1000000):DY l l=some true:=by
 unfold DY;rw[J4 rfl,F5,o5];refine J3 (Hm (l:=l) hl (λi a ha=>?_) ?_) rfl
 .have:=(aO.1 ha).1;simp only[V8 ha,o7,V4,ha,o9,J4 (rfl:a.1=a.1),J4 (rfl:a.2=a.2),oP,F5,o5];rw[Z8 l7];rfl
 .simp only[aG l,o5]
theorem ZR{l:List (List (Int×Int))}(hl:l.length<=1000000)(he:∀e∈l,e.length<=1000000):DX l l=some true:=by
 unfold DX;rw[J4 rfl,F5,o5];refine J3 (Hm (l:=l) hl (λi a ha=>?_) ?_) rfl
 .have:=(aO.1 ha).1;simp only[V8 ha,o7,V4,ha,o9,ZT (he a (yw ha)),F5,o5];rw[Z8 l7]
 .simp only[aG l,o5]
theorem a2n{l:List L6}(hl:l.length<=1000000):uq l l=some true:=by
 unfold uq;rw[J4 rfl,F5,o5];refine J3 (Hm (l:=l) hl (λi a ha=>?_) ?_) rfl
 .have:=(aO.1 ha).1;simp only[V8 ha,o7,V4,ha,o9,J4 (rfl:a.1.1=a.1.1),J4 (rfl:a.1.2=a.1.2),J4 (rfl:a.2=a.2),oP,F5,o5];rw[Z8 l7];rfl
 .simp only[aG l,o5]
theorem XX{l:List Int}(hl:l.length<=1000000):Hl l l=some true:=by
 unfold Hl;rw[J4 rfl,F5,o5];refine J3 (Hm (l:=l) hl (λi a ha=>?_) ?_) rfl
 .have:=(aO.1 ha).1;simp only[V8 ha,o7,V4,ha,o9,J4 (rfl:a=a),F5,o5];rw[Z8 l7]
 .simp only[aG l,o5]
variable {t:O9}
theorem a4U(h1:t.2.1.length<=1000000)(h2:∀e∈t.2.1,e.length<=1000000)(h3:t.2.2.1.length<=1000000)(h4:t.2.2.2.length<=1000000):pU t t=some true:=by unfold pU;rw[J4 rfl,o7,ZR h1 h2,o9,o7,XX h3,o9,o7,a2n h4];rfl
theorem a8g(hw:WfL l)(h1:smL l=true)(hW:WfT t)(hz:SzT t):dY l k t=some (dfS tY l k t):=by obtain⟨hS,-⟩:=ZX h1 hw;have hL:=Zo h1 hw;exact a3a hS hL hz (λs hs e he=>⟨UY (a6K hL (iQ hs).2.2.1) (hW.n e he),a6t (a6K hL (iQ hs).2.2.1) (hW.n e he)⟩) hW.r
theorem a7K(hw:WfL l)(h1:smL l=true)(hW:WfT t)(hz:SzT t):∃a e,dY l k t=some (a,e)/\(e=0->bZ l k a=some (t,0,0)):=by obtain⟨hS,-⟩:=ZX h1 hw;have hL:=Zo h1 hw;refine⟨_,_,a8g hw h1 hW hz,λhe=>?_⟩;exact a2u hS hL hz hW (oM rfl he)
theorem a9u{s:List UInt8}(hw:WfL l)(h1:smL l=true)(hs:s.length<=10000):∃v o g,bZ l k s=some (v,o,g)/\(g=0->dY l k v=some (s,0)):=by obtain⟨hS,-⟩:=ZX h1 hw;have hL:=Zo h1 hw;obtain⟨v,o,g,e,h⟩:=YS (k:=k) (s:=s) hS hL;refine⟨v,o,g,e,λhg=>?_⟩;obtain⟨a1,a2,a3,a4,a5⟩:=h hg;rw[a8g hw h1 a2 ⟨l7,l7,l7⟩,a1]
theorem SY{s:List UInt8}(hw:WfL l)(hW:WfT t):oH l k t s=some true:=by
 unfold oH;rw[Yb,o9,ZY];simp only[YA,o9];cases h1:smL l
 case false=>rfl
 cases h2:smT t
 case false=>rfl
 cases h3:I8 4000 (x9 s)
 case true=>rfl
 simp only[F5,o5,o9,J7];have hsz:=b0p h2;obtain⟨z1,z2,z3,z4⟩:=a5f h2;have hs:s.length<=4000:=by have:=rY.1 h3;unfold x9 at this;omega
 obtain⟨a,e,g1,g2⟩:=a7K (k:=k) hw h1 hW hsz;obtain⟨v,o,g,p1,p2⟩:=a9u (k:=k) hw h1 (s:=s) l7;rw[g1,o9];simp only;have second:(o6 (bZ l k s) λ(x:O9×H5)=>
        l9 (H9 (D5 x.2.2 0)) (some true)
         (o6 (dY l k x.1) λ(x:List UInt8×Int)=>
          l9 (D5 x.2 0) (l9 (seq x.1 s) (some true) (some false))
           (some false)))=some true:=by
  rw[p1,o9];simp only;cases hg:D5 g 0
  case false=>rfl
  rw[p2 (dO.1 hg),o9];simp only[F5,o5,J4 (rfl:(0:Int)=0),o7];rw[show seq s s=true from mW.2 rfl];rfl
 cases he:D5 e 0
 case false=>simp only[o5,o9,J7];exact second
 simp only[o7];rw[g2 (dO.1 he),o9];simp only[J4 (rfl:(0:Int)=0),F5,o5];rw[a4U l7 (λe he=>by have:=z4 e he;omega) l7 l7,o9];simp only[F5,o5,o9,J7];exact second
end
end Go.GP
namespace Go.GP
open Gt
theorem Aw:∀x,Yr Gt.ps3 x->(Gt.s3.fn x:Option Bool)=some true:=λx h=>
 SY (l:=x.1) (k:=x.2.1) (t:=x.2.2.1) (s:=x.2.2.2) (b5J h.1) ⟨λe he n hn=>Jv ((h.2.2.1.2.1.2 e he).2 n hn).2,λr hr=>Jv (h.2.2.1.2.2.2.2 r hr).1.2⟩
end Go.GP
