import Derived.Test.YtljnhmnnahpnaaaGreatDoorT5
set_option linter.all false
namespace Gt
open Go Go.GP
set_option maxRecDepth 100000
theorem Lj{σ ε ρ:Type}{f:σ->Option (Out σ ε ρ)}(st:Nat->σ){n:Nat}{o:Out σ ε ρ}{r:ε⊕ρ}(h1:∀i,i<n->f (st i)=some (.nx (st (i+1))))(h2:f (st n)=some o)(ho:(∃e,o= .ex e/\r= .inl e)\/∃e,o= .rt e/\r= .inr e)(hn:n<=1000000):X7 f (st 0)=some r:=by
 have key:∀j i N,i+j=n->j<N->ou f N (st i)=some r:=by
  intro j;induction j with
  |zero=>
   intro i N hi hN;cases N with
   |zero=>omega
   |succ N=>have:i=n:=l7;subst this;unfold ou;rw[h2];rcases ho with⟨e,rfl,rfl⟩|⟨e,rfl,rfl⟩<;>rfl
  |succ j ih=>
   intro i N hi hN;cases N with
   |zero=>omega|succ N=>unfold ou;rw[h1 i l7];exact ih (i+1) N l7 l7
 exact key n 0 lg l7 (by unfold lg;omega)
theorem b3w:∀(l:List UInt8) (a n:Nat),Dig l->a<10^n->l.foldl (λa c=>10*a+(c.toNat -48)) a<10^(n+l.length)
 |[],a,n,_,h=>h|c::l,a,n,hd,h=>by rw[Y1,F5,show n+(l.length+1)=(n+1)+l.length by omega];refine b3w l _ (n+1) (λx hx=>hd x (by simp[hx])) ?_;have:=hd c A7;rw[Nat.pow_succ];omega
theorem Rk{l:List UInt8}(hd:Dig l)(hl:l.length<=4):qp l=some ((val l:Nat):Int):=by
 unfold qp;refine U9 (Lj (λi=>(((val (l.take i):Nat):Int),((i:Nat):Int))) (n:=l.length) (o:=.ex ((val l:Nat):Int)) (r:=.inl ((val l:Nat):Int)) (λi hi=>?_) ?_ (.inl ⟨_,rfl,rfl⟩) l7) rfl
 ·have hc:l[i]? =some l[i]:=dX hi;have hb:=hd l[i] (H7 hi);have hv:val (l.take i)<10^(0+(l.take i).length):=b3w _ 0 0 (λx hx=>hd x (jV hx)) A7;have hp:10^(0+(l.take i).length)<=10^4:=Nat.pow_le_pow_right l7 (by rw[aV];omega);have hv2:val (l.take (i+1))=10*val (l.take i)+(l[i].toNat -48):=by
   rw[P9 hi,a3k]
  have e8:H8 .u8 (l[i].toNat:Int) 48=(l[i].toNat:Int) -48:=by unfold H8 IntKind.wrap;simp[IntKind.signed,IntKind.bits];omega
  simp only[zQ,hc,Y2,o8];rw[O0 (by unfold o9;omega),o7,J6 l7,o6,J6 l7,o6,e8,show wrap .i64 ((l[i].toNat:Int) -48)=_ from kX L8,lK L8,U7 L8,uX l7,hv2];rw[show(10*((val (l.take i):Nat):Int)+((l[i].toNat:Int) -48))=((10*val (l.take i)+(l[i].toNat -48):Nat):Int) by omega]
 ·simp only;rw[J6 (by unfold o9;omega),o6,aB]
theorem X_{d:Int}(h0:0<=d)(h1:d<=109572):DD (sS d)=some (d,0):=by
 have hb:=Ee h0 h1;have hdim:=b4W h0 h1;have hnum:=a9l h0 h1;unfold sS;rw[if_pos ⟨h0,h1⟩];obtain⟨a1,a2,a3⟩:=b0z hb.1 hb.2.1;obtain⟨b1,b2,b3⟩:=b9D (n:=(jJ d).2.1) l7 l7;obtain⟨c1,c2,c3⟩:=b9D (n:=(jJ d).2.2) l7 l7;have hF:=Ud (y:=(jJ d).1) (m:=(jJ d).2.1) (d:=(jJ d).2.2) ⟨hb.1,hb.2.1⟩ ⟨hb.2.2.1,hb.2.2.2.1⟩ hb.2.2.2.2.1 hdim;rw[hnum]at hF;have dA:=Rk a3 l7;have dB:=Rk b3 l7;have dC:=Rk c3 l7;rw[a2,show(((jJ d).1.toNat:Nat):Int)=(jJ d).1 by omega]at dA;rw[b2,show(((jJ d).2.1.toNat:Nat):Int)=(jJ d).2.1 by omega]at dB;rw[c2,show(((jJ d).2.2.toNat:Nat):Int)=(jJ d).2.2 by omega]at dC;generalize FV (jJ d).1 4=A at*;generalize FV (jJ d).2.1 2=B at*;generalize FV (jJ d).2.2 2=C at*;match A,a1,dA with
 |[x0,x1,x2,x3],_,dA=>
 match B,b1,dB with
 |[y0,y1],_,dB=>
 match C,c1,dC with
 |[z0,z1],_,dC=>
 have eT:[x0,x1,x2,x3]++(45:UInt8)::[y0,y1]++(45:UInt8)::[z0,z1]=[x0,x1,x2,x3,45,y0,y1,45,z0,z1]:=rfl;rw[eT];unfold DD;have l0:kL [x0,x1,x2,x3,45,y0,y1,45,z0,z1] 0 4=some [x0,x1,x2,x3]:=rfl;have l5:kL [x0,x1,x2,x3,45,y0,y1,45,z0,z1] 5 7=some [y0,y1]:=rfl;have l8:kL [x0,x1,x2,x3,45,y0,y1,45,z0,z1] 8 (o9 [x0,x1,x2,x3,45,y0,y1,45,z0,z1])=some [z0,z1]:=rfl;rw[l0,l5,l8];simp only[o8,dA,dB,dC];rw[J6 (show 0<=(jJ d).1 by omega),J6 (show 0<=(jJ d).2.1 by omega),J6 (show 0<=(jJ d).2.2 by omega)];refine U9 (o' :=(some (.inl PUnit.unit):Option (PUnit⊕J8))) rfl ?_;rw[o8,N7,hF];rfl
theorem a4m{en:List bT}{t:Int×Int}{v:V3}{txt:List UInt8}(h:b3C en t v txt)(h6:t.1≠6):EE txt t.1=some (v.2.2,0)/\v=(t.1,t.2,v.2.2)/\t.2=0:=by
 unfold EE;rcases h with⟨rfl,⟨rfl,rfl⟩|⟨rfl,rfl⟩⟩|⟨rfl,n,rfl,rfl,g1,g2⟩|⟨rfl,n,rfl,rfl,g1,g2⟩|⟨rfl,n,rfl,rfl,g1,g2⟩|⟨rfl,n,rfl,rfl,g1,g2⟩|⟨e,n,x,rfl,_,_,_⟩
 ·exact⟨by decide+kernel,rfl,rfl⟩
 ·exact⟨by decide+kernel,rfl,rfl⟩
 ·refine⟨?_,rfl,rfl⟩;show o5 (vH (Lib.itoa n)) _=_;rw[a2o l7];rfl
 ·refine⟨?_,rfl,rfl⟩;show o5 (oh (xx n 2) ((2:Nat):Int)) _=_;rw[Ua l7 l7];rfl
 ·refine⟨?_,rfl,rfl⟩;have hl:=IL (n:=n) (k:=4) L8 l7;have el:H8 .i64 (o9 (xx n 4++[37])) 1=((xx n 4).length:Int):=by
   rw[O5 (by unfold bQ o9;rw[F8,dn];omega)];unfold o9;rw[F8,dn];omega
  have hs:sat (xx n 4++[37]) ((xx n 4).length:Int)=some 37:=by rw[zQ,F7 l7,az];rfl
  rw[show x8 ((4:Int),(0:Int)).1 2=false from rfl,o6,show x8 ((4:Int),(0:Int)).1 3=false from rfl,o6,show x8 ((4:Int),(0:Int)).1 4=true from rfl,o7,
   a0v.2 A7,o6,el,hs,o8,show F6 (x8 37 37)=false from rfl,o6,UN l7 (by rw[F8];omega),o8,J5,List.take_left]
  show o5 (oh (xx n 4) ((4:Nat):Int)) _=_;rw[Ua l7 l7];rfl
 ·refine⟨?_,rfl,rfl⟩;show o5 (DD (sS n)) _=_;rw[X_ g1 g2];rfl
 ·exact absurd rfl h6
theorem b0G{l:V8}(hV:(eG l).1=0){t:Int×Int}{v:V3}{txt:List UInt8}(hv:vty t l.1=true)(hp:PVV l.1 t v)(h:b3C l.1 t v txt):DF txt t l.1=some (v,0):=by
 have hin:=a4A hv hp;unfold DF;rw[aF,o8,hv,show F6 true=false from rfl,o6];by_cases h6:t.1=6
 ·rw[O8 h6,o7];rcases h with⟨rfl,_⟩|⟨rfl,_⟩|⟨rfl,_⟩|⟨rfl,_⟩|⟨rfl,_⟩|⟨e,n,x,rfl,rfl,hx,hy⟩
  ·cases h6
  ·cases h6
  ·cases h6
  ·cases h6
  ·cases h6
  ·have hm:=rV hx;have hu:=(VR hV hm hy).2;have hlen:=Gq hV x hm;have hn:=(Y6.1 hy).1;rw[show((6:Int),(e:Int)).2=(e:Int)from rfl,G7,hx,o8];refine U9 (Lj (λi=>(((0,0,0),(i:Int)):V3×Int)) (n:=n) (o:=.rt ((6,(e:Int),(n:Int)),0)) (r:=.inr ((6,(e:Int),(n:Int)),0)) (λi hi=>?_) ?_ (.inr ⟨_,rfl,rfl⟩) l7) rfl
   ·have hz:x.2[i]? =some x.2[i]:=dX l7;have hne:x.2[i]≠txt:=hu x.2[i] (by
     rw[CG];exact⟨i,l7,rfl⟩)
    simp only[G7,hz,o8];rw[O0 (by unfold o9;omega),o7,a0v.2 hne,o6,uX l7]
   ·simp only[G7,hy,o8];rw[O0 (by unfold o9;omega),o7,Hu.2 rfl,o7]
 ·obtain⟨g1,g2,g3⟩:=a4m h h6;rw[J3 h6,o6,g1,o8,show x8 (v.2.2,(0:Int)).2 0=true from rfl,o7,a0f,o8];rw[show inB (v.2.2,(0:Int)).1 (bnd t l.1)=true from hin];show some ((t.1,(0:Int),v.2.2),(0:Int))=some (v,0);rw[g3]at g2;rw[←g2]
theorem b3q{l:V8}(hV:(eG l).1=0){t:Int×Int}{v:V3}{txt:List UInt8}(h:b3C l.1 t v txt):bQ v.2.2:=by
 rcases h with⟨rfl,⟨rfl,rfl⟩|⟨rfl,rfl⟩⟩|⟨rfl,n,rfl,rfl,g1,g2⟩|⟨rfl,n,rfl,rfl,g1,g2⟩|⟨rfl,n,rfl,rfl,g1,g2⟩|⟨rfl,n,rfl,rfl,g1,g2⟩|⟨e,n,x,rfl,rfl,hx,hy⟩
 ·show bQ 0;unfold bQ;omega
 ·show bQ 1;unfold bQ;omega
 ·show bQ n;unfold bQ;omega
 ·show bQ n;unfold bQ;omega
 ·show bQ n;unfold bQ;omega
 ·show bQ n;unfold bQ;omega
 ·have:=Gq hV x (rV hx);have hn:=(Y6.1 hy).1;show bQ (n:Int);unfold bQ;omega
theorem a2e{l:V8}(hV:(eG l).1=0):NamesOk l:=by
 have hr:=Aw;refine⟨λs hs d hd=>?_,λs hs d hd=>?_,λe he=>⟨?_,λm hm=>?_⟩⟩
 ·obtain⟨i,hi,rfl⟩:=J7 hs;obtain⟨j,hj,rfl⟩:=J7 hd;have:=(ER (a9k hV (dX hi) (dX hj))).2;omega
 ·obtain⟨i,hi,rfl⟩:=J7 hs;obtain⟨j,hj,rfl⟩:=J7 hd;have:=(ER (a6B hV (dX hi) (dX hj))).2;omega
 ·have:=Gq hV e he;omega
 ·obtain⟨j,hj,rfl⟩:=J7 hm;have:=(ER (VR hV he (dX hj)).1).2;omega
theorem b3z{v:V3}{en:List bT}{txt:List UInt8}(h:oK v en=some (txt,0)):vt v en=txt:=by unfold vt iq;rw[h];rfl
theorem WU{α:Type}{l:List (List UInt8×α)}{i:Nat}{f:List UInt8×α}(h:l[i]? =some f):vC l (i:Int)=f.1:=by unfold vC;rw[if_pos l7,J5,h];rfl
theorem WV{α:Type}{l:List (List UInt8×α)}{i:Int}{f:List UInt8×α}(h:G9 l i=some f):vC l i=f.1:=by obtain⟨h0,_,_,h1⟩:=dh h;unfold vC;rw[if_pos h0,h1];rfl
theorem wb:KC [61]/\KC [98,121]/\KC [109,101,109,98,101,114]:=⟨EO A7 D7,EO A7 D7,EO A7 D7⟩
theorem a1Q{n t r:List UInt8}(hn:KC n)(ht:KC t)(hr:KC r)(ln:n.length<=1000)(lt:t.length<=1000)(lr:r.length<=1000):
  tK ([]++n++[32,61,32]++t++[32,98,121,32]++r)=some [n,[61],t,[98,121],r]:=by
 have e:[]++n++[32,61,32]++t++[32,98,121,32]++r=yK [n,[61],t,[98,121],r]:=by simp[yK]
 rw[e];refine YZ (λv hv=>?_) ?_ A7
 ·simp only[A8,kP,or_false]at hv;rcases hv with rfl|rfl|rfl|rfl|rfl
  ·exact hn
  ·exact wb.1
  ·exact ht
  ·exact wb.2.1
  ·exact hr
 ·simp only[yK,F8,F5,aP];omega
def Cm(m:Nat):List UInt8:=[109,101,109,98,101,114,32]++Lib.itoa m++[58,32]
theorem a1E{m:Nat}(hm:m<100){n t r:List UInt8}(hn:KC n)(ht:KC t)(hr:KC r)(ln:n.length<=1000)(lt:t.length<=1000)(lr:r.length<=1000):
  tK (Cm m++n++[32,61,32]++t++[32,98,121,32]++r)=some [[109,101,109,98,101,114],Lib.itoa m++[58],n,[61],t,[98,121],r]:=by
 have e:Cm m++n++[32,61,32]++t++[32,98,121,32]++r=yK [[109,101,109,98,101,114],Lib.itoa m++[58],n,[61],t,[98,121],r]:=by simp[yK,Cm]
 have hi:=yV (n:=(m:Int)) L8;have hw:=Zq (m:Int);rw[e];refine YZ (λv hv=>?_) ?_ A7
 ·simp only[A8,kP,or_false]at hv;rcases hv with rfl|rfl|rfl|rfl|rfl|rfl|rfl
  ·exact wb.2.2
  ·refine⟨A7,λc hc=>?_⟩;rcases D8.1 hc with hc|hc
   ·exact hw.2 c hc
   ·rw[U3]at hc;subst hc;decide
  ·exact hn
  ·exact wb.1
  ·exact ht
  ·exact wb.2.1
  ·exact hr
 ·simp only[yK,F8,F5,aP];omega
theorem a2K{l:V8}{s:D9}{line txt:List UInt8}{W:List (List UInt8)}{f:jq}{q:gy}{v:V3}{r:Int}{k i:Nat}(hk:k<=10)(hF:tK line=some W)(hW:W.length=k+5)(h0:W[k]? =some f.1)(h2:W[k+2]? =some txt)(h4:W[k+4]? =some q.1)(hf:s.2.2.2.1[i]? =some f)(hq:G9 s.2.2.2.2 r=some q)(hp:DF txt f.2 l.1=some (v,0)):oO line (k:Int) l s (i:Int) v r=some true:=by
 obtain⟨q0,q1,_,_⟩:=dh hq;have hi:=(Y6.1 hf).1;have e5:D6 .i64 (k:Int) 5=((k+5:Nat):Int):=by rw[U7 L8];omega
 have e2:D6 .i64 (k:Int) 2=((k+2:Nat):Int):=by rw[U7 L8];omega
 have e4:D6 .i64 (k:Int) 4=((k+4:Nat):Int):=by rw[U7 L8];omega
 unfold oO;rw[hF,o8,e5,e2,e4,O8 (show o9 W=((k+5:Nat):Int) by unfold o9;omega),show F6 true=false from rfl,o6,V9 (show(i:Int)<o9 s.2.2.2.1 by unfold o9;omega),o6,J6 q0,o6,V9 q1,o6,o8,N7];simp only[G7,af,X8,J5,h0,h2,h4,hf,hq,hp,o8];rw[show x8 (0:Int) 0=true from rfl,O8 (rfl:v.1=v.1),O8 (rfl:v.2.1=v.2.1),O8 (rfl:v.2.2=v.2.2),show nN true (nN true true)=true from rfl];simp only[o7];rw[Hu.2 (rfl:f.1=f.1),Hu.2 (rfl:q.1=q.1)];rfl
theorem QN{l:V8}(hV:(eG l).1=0){k:Int}{s:D9}(hs:G9 l.2.2 k=some s){X:DB}(hX:Tq l s X){i:Nat}{v:V3}(hv:X.1[i]? =some v):∃r,X.2[i]? =some r/\bQ v.2.2/\oO (ln [] s i (vt v l.1) X.2) 0 l s (i:Int) v r=some true/\∀m,m<100->oO (ln (Cm m) s i (vt v l.1) X.2) 2 l s (i:Int) v r=some true:=by
 obtain⟨f,r,q,hf,hr,r0,hq,hp,hvt⟩:=hX.2.2 i v hv;obtain⟨_,_,_,hsk⟩:=dh hs;obtain⟨txt,t1,t2,t3,t4⟩:=a5r hV hvt hp;have hpar:=b0G hV hvt hp t4;have hfi:=ER (a9k hV hsk hf);obtain⟨_,_,_,hq2⟩:=dh hq;have hqi:=ER (a6B hV hsk hq2);refine⟨r,hr,b3q hV t4,?_,λm hm=>?_⟩
 ·unfold ln;rw[b3z t1,WU hf,hr];show oO ([]++f.1++[32,61,32]++txt++[32,98,121,32]++vC s.2.2.2.2 r) ((0:Nat):Int) l s (i:Int) v r=_;rw[WV hq];exact a2K l7 (a1Q hfi.1 t2 hqi.1 l7 l7 l7) rfl rfl rfl rfl hf hq hpar
 ·unfold ln;rw[b3z t1,WU hf,hr];show oO (Cm m++f.1++[32,61,32]++txt++[32,98,121,32]++vC s.2.2.2.2 r) ((2:Nat):Int) l s (i:Int) v r=_;rw[WV hq];exact a2K l7 (a1E hm hfi.1 t2 hqi.1 l7 l7 l7) rfl rfl rfl rfl hf hq hpar
theorem Um{l:V8}{k:Int}{s:D9}(h:G9 l.2.2 k=some s):fG l k=s:=by obtain⟨h0,_,_,h1⟩:=dh h;unfold fG;rw[if_pos h0,h1];rfl
theorem Rx{α β:Type}(G:β->Nat->α->β):∀(a b:List α) (i:Nat) (x:β),xy G (a++b) i x=xy G b (i+a.length) (xy G a i x)
 |[],b,i,x=>by simp[xy]|y::a,b,i,x=>by simp only[S9,xy];rw[Rx G a b];simp only[F5];congr 1;omega
def xF(l:V8)(k:Int):List (List UInt8)->Nat->qC->List (List UInt8):=λacc m x=>acc++GX (Cm m) l k x.1 x.2
theorem a1Z(l:V8)(k:Int):∀(xs:List qC) (i:Nat) (acc:List (List UInt8)),∃r,xy (xF l k) xs i acc=acc++r
 |[],i,acc=>⟨[],by simp[xy]⟩|x::xs,i,acc=>by obtain⟨r,h⟩:=a1Z l k xs (i+1) (xF l k acc i x);refine⟨GX (Cm i) l k x.1 x.2++r,?_⟩;show xy (xF l k) xs (i+1) (xF l k acc i x)=_;rw[h];unfold xF;rw[E9]
theorem Zv{α:Type}(h:Nat->α->List UInt8):∀(l:List α) (i j:Nat),(Lp h i l)[j]? =(l[j]?).map (h (i+j))
 |[],i,j=>by simp[Lp]|a::l,i,0=>by simp[Lp]|a::l,i,j+1=>by simp only[Lp,List.getElem?_cons_succ];rw[Zv h l (i+1) j,show i+1+j=i+(j+1) by omega]
theorem Zt{head:List UInt8}{l:V8}{k:Int}{vs:List V4}{rules:List Int}{j:Nat}{v:V4}(h:vs[j]? =some v):(GX head l k vs rules)[j]? =some (ln head (fG l k) j (vt v l.1) rules):=by unfold GX;rw[Zv,h,dM];rfl
theorem Am(head:List UInt8)(l:V8)(k:Int)(vs:List V4)(rules:List Int):(GX head l k vs rules).length=vs.length:=by unfold GX;rw[Zw]
def OH(l:V8)(k:Int)(r:lS):List (List UInt8):=xy (xF l (fG l k).2.1) r.2.2 0 (GX [] l k r.1 r.2.1)
theorem a7Z{l:V8}{k:Int}{r:lS}(hN:NamesOk l)(h1:r.1.length<=20)(h2:r.2.2.length<=12)(h3:∀m∈r.2.2,m.1.length<=20)(hv:∀v∈r.1,bQ v.2.2)(hw:∀m∈r.2.2,∀v∈m.1,bQ v.2.2):
  wM l k r=some (OH l k r)/\(OH l k r).length<=1000:=by
 have hr:=Aw;let G:=xF l (fG l k).2.1;let Inv:=λ(i:Nat) (b:List (List UInt8))=>b.length<=20+20*i;have hG:∀i b a,a∈r.2.2->Inv i b->Inv (i+1) (G b i a):=λi b a ha hb=>by have:=h3 a ha;show(b++_).length<=_;have hb:b.length<=20+20*i:=hb;rw[F8,Am];omega
 have hI0:Inv 0 (GX [] l k r.1 r.2.1):=by show(GX [] l k r.1 r.2.1).length<=_;rw[Am];omega
 have hhead:∀m:Nat,m<100->(Cm m).length<=100:=λm hm=>by have:=yV (n:=(m:Int)) L8;unfold Cm;simp;omega
 refine⟨?_,?_⟩
 ·unfold wM OH;rw[JO,o8,FP];refine U9 (GY r.1 (λacc i v=>acc++[ln [] (fG l k) i (vt v l.1) r.2.1]) (λb=>b) _ (λi b=>b.length=i) (b:=[]) l7 rfl (λb i v hv2 hI=>?_) (λb hI=>?_)).1 ?_
  rotate_left 2
  ·rw[Oi,o8,H6];refine U9 (GY r.2.2 G (λb=>b) _ Inv (b:=GX [] l k r.1 r.2.1) l7 hI0 (λb i x hx hI=>?_) (λb hI=>?_)).1 ?_
   rotate_left 2
   ·rfl
   ·obtain⟨hmem,hi⟩:=xG hx;refine⟨?_,hG i b x hmem hI⟩;have hx3:=h3 x hmem;have hb:b.length<=20+20*i:=hI;have hhi:=hhead i l7;simp only[G7,hx,o8];rw[O0 (by unfold o9;omega),o7];refine U9 (GY x.1 (λacc j v=>acc++[ln (Cm i) (fG l (fG l k).2.1) j (vt v l.1) x.2]) (λb=>b) _ (λj c=>c.length=b.length+j) (b:=b) l7 A7 (λc j v hv2 hJ=>?_) (λc hJ=>?_)).1 ?_
    rotate_left 2
    ·rw[Oi,uX l7];rfl
    ·obtain⟨hvm,hj⟩:=xG hv2;refine⟨?_,by simp;omega⟩;have hil:=yV (n:=(i:Int)) L8;have hll:=b6r (k:=(fG l k).2.1) hN (hw x hmem v hvm) j x.2 [];simp only[aP]at hll;simp only[G7,hv2,o8];rw[O0 (by unfold o9;omega),o7,iE L8,o8,iQ (by first|omega|(simp<;>omega)),o8,iQ (by first|omega|(simp<;>omega)),o8,
      QO hN (hw x hmem v hvm),o8,iQ (by first|omega|(simp<;>omega)),o8,GU (by simp only[F5,aP];omega),o8,uX l7]
     unfold ln Cm;simp
    ·rw[J6 (by unfold o9;omega)];rfl
   ·rw[J6 (by unfold o9;omega)];rfl
  ·obtain⟨hmem,hi⟩:=xG hv2;refine⟨?_,by simp;omega⟩;simp only[G7,hv2,o8];rw[O0 (by unfold o9;omega),o7,QO hN (hv v hmem),o8,GU (by simp only[F5,aP];omega),o8,uX l7]
  ·rw[J6 (by unfold o9;omega)];rfl
 ·have:=Zc Inv r.2.2 0 _ hI0 hG;have h5:(OH l k r).length<=20+20*(0+r.2.2.length):=this;omega
def Gu(l:V8)(k:Int)(r:lS)(m:Nat):List (List UInt8):=xy (xF l (fG l k).2.1) (r.2.2.take m) 0 (GX [] l k r.1 r.2.1)
theorem Ql(l:V8)(k:Int)(r:lS)(m:Nat):∃t,OH l k r=Gu l k r m++t:=by unfold OH Gu;obtain⟨t,h⟩:=a1Z l (fG l k).2.1 (r.2.2.drop m) (0+(r.2.2.take m).length) (xy (xF l (fG l k).2.1) (r.2.2.take m) 0 (GX [] l k r.1 r.2.1));refine⟨t,?_⟩;rw[←h,←Rx,eY]
theorem Si(l:V8)(k:Int)(r:lS){m:Nat}{D:qC}(h:r.2.2[m]? =some D):Gu l k r (m+1)=Gu l k r m++GX (Cm m) l (fG l k).2.1 D.1 D.2:=by
 obtain⟨hm,rfl⟩:=Y6.1 h;unfold Gu;rw[P9 hm,Rx];have:(r.2.2.take m).length=m:=by rw[aV];omega
 rw[this,dM];rfl
theorem b0F(l:V8)(k:Int)(r:lS):Gu l k r r.2.2.length=OH l k r:=by unfold Gu OH;rw[aB]
theorem Sj(l:V8)(k:Int)(r:lS):Gu l k r 0=GX [] l k r.1 r.2.1:=rfl
theorem b4p{l:V8}{k:Int}{r:lS}{i:Nat}{v:V4}(h:r.1[i]? =some v):(OH l k r)[i]? =some (ln [] (fG l k) i (vt v l.1) r.2.1):=by obtain⟨t,e⟩:=Ql l k r 0;have hi:=(Y6.1 h).1;rw[e,Sj,J9 (by rw[Am];omega),Zt h]
theorem b4q{l:V8}{k:Int}{r:lS}{m:Nat}{D:qC}(hD:r.2.2[m]? =some D){j:Nat}{v:V4}(h:D.1[j]? =some v):(OH l k r)[(Gu l k r m).length+j]? =some (ln (Cm m) (fG l (fG l k).2.1) j (vt v l.1) D.2):=by obtain⟨t,e⟩:=Ql l k r (m+1);have hj:=(Y6.1 h).1;rw[e,Si l k r hD,E9,F7 l7,show(Gu l k r m).length+j -(Gu l k r m).length=j by omega,J9 (by rw[Am];omega),Zt h]
end Gt
namespace Go.GP
open Gt
set_option maxRecDepth 100000
theorem a1s{l:V8}{k:Int}{e:E4}(hN:NamesOk l)(h0:e.1≠0)(h1:bQ e.1)(h2:bQ e.2.1):∃t,qL l k e=some t/\t≠[111,107]:=by
 have hr:=Aw;have i1:=yV h1;have i2:=yV h2;unfold qL;rw[J3 h0,o6];simp only[JO,Gt.FP,o8,VJ,Uk,iE h1,iE h2];have d1:=hN.def_len k e.2.2.1;have d2:=hN.rule_len k e.2.2.2;have d3:=hN.def_len (fG l k).2.1 e.2.2.1;have d4:=hN.rule_len (fG l k).2.1 e.2.2.2;generalize Lib.itoa e.1=x1 at i1;generalize Lib.itoa e.2.1=x2 at i2;generalize vC (fG l k).2.2.2.1 e.2.2.1=y1 at d1;generalize vC (fG l k).2.2.2.2 e.2.2.2=y2 at d2;generalize vC (fG l (fG l k).2.1).2.2.2.1 e.2.2.1=y3 at d3;generalize vC (fG l (fG l k).2.1).2.2.2.2 e.2.2.2=y4 at d4;cases L9 0 e.2.1<;>cases L9 0 e.2.2.1<;>cases L9 0 e.2.2.2<;>simp only[o7,o6]
 all_goals
  repeat rw[iQ (by first|omega|(simp<;>omega)),o8]
  exact⟨_,rfl,A7⟩
theorem a9I{α:Type}{l:List α}{i:Int}{x:α}(h:G9 l i=some x):E8 i 0=false/\L9 (o9 l) i=false:=by obtain⟨h0,h1,_,_⟩:=dh h;exact⟨J6 h0,V9 h1⟩
theorem UG{l:V8}{k:Int}{s:D9}{X:DB}{b:List DB}(hV:(eG l).1=0)(hs:G9 l.2.2 k=some s)(hX:Tq l s X)(hB:∀(j:Nat) D,b[j]? =some D->G9 l.2.2 s.2.1=some (ax l s)/\Tq l (ax l s) D)(h1:X.1.length<=20)(h2:b.length<=12)(h3:∀D∈b,D.1.length<=20){A:Option Bool}(hA:A=some true):
  (o5 (wM l k (X.1,X.2,b)) λ(x_2:List (List UInt8))=>
         o5
          (X7
           (λ(x_3:J8)=>
            l9 (E8 x_3.2 (o9 X.1))
             (l9 (L9 (o9 x_2) x_3.1) (some (Out.rt false))
              (l9 (L9 (o9 X.2) x_3.2) (some (Out.rt false))
               (o5 (G9 x_2 x_3.1) λ(x_4:List UInt8)=>
                o5 (af x_2 (X8 x_3.1)) λ(x_5:List UInt8)=>
                 o5 (G9 l.2.2 k) λ(x_6:D9)=>
                  o5 (G9 X.1 x_3.2) λ(x_7:V4)=>
                   o5 (G9 X.2 x_3.2) λ(x:Int)=>
                    o5 (oO x_5 0 l x_6 x_3.2 x_7 x) λ(x:Bool)=>
                     l9 (F6 x) (some (Out.rt false))
                      (some (Out.nx (D6 IntKind.i64 x_3.1 1,D6 IntKind.i64 x_3.2 1))))))
             (some (Out.ex x_3.1)))
           (0,0))
          λ(o:Int⊕Bool)=>
          aj o
           (λ(y:Int)=>
            o5 (G9 l.2.2 k) λ(x_3:D9)=>
             o5
              (X7
               (λ(x_4:J8)=>
                l9 (E8 x_4.2 (o9 b))
                 (o5
                  (l9 (E8 x_3.2.1 0) (some (Sum.inr false))
                   (l9 (L9 (o9 l.2.2) x_3.2.1) (some (Sum.inr false))
                    (some (Sum.inl PUnit.unit))))
                  λ(o:PUnit⊕Bool)=>
                  aj o
                   (λ(x_5:PUnit)=>
                    o5 (G9 l.2.2 x_3.2.1) λ(x_6:D9)=>
                     o5
                      (X7
                       (λ(x_7:J8)=>
                        o5 (G9 b x_4.2) λ(x_8:qC)=>
                         l9 (E8 x_7.2 (o9 x_8.1))
                          (l9 (L9 (o9 x_2) x_7.1) (some (Out.rt false))
                           (o5 (G9 b x_4.2) λ(x_9:qC)=>
                            l9 (L9 (o9 x_9.2) x_7.2) (some (Out.rt false))
                             (o5 (G9 x_2 x_7.1) λ(x_10:List UInt8)=>
                              o5 (af x_2 (X8 x_7.1)) λ(x_11:List UInt8)=>
                               o5 (G9 b x_4.2) λ(x_12:qC)=>
                                o5 (G9 x_12.1 x_7.2) λ(x_13:V4)=>
                                 o5 (G9 b x_4.2) λ(x:qC)=>
                                  o5 (G9 x.2 x_7.2) λ(x:Int)=>
                                   o5 (oO x_11 2 l x_6 x_7.2 x_13 x)
                                    λ(x:Bool)=>
                                    l9 (F6 x) (some (Out.rt false))
                                     (some
                                      (Out.nx
                                       (D6 IntKind.i64 x_7.1 1,
                                        D6 IntKind.i64 x_7.2 1))))))
                          (some (Out.ex x_7.1)))
                       (x_4.1,0))
                      λ(o:Int⊕Bool)=>
                      aj o (λ(y:Int)=>some (Out.nx (y,D6 IntKind.i64 x_4.2 1)))
                       λ(r:Bool)=>some (Out.rt r))
                   λ(r:Bool)=>some (Out.rt r))
                 (some (Out.ex x_4.1)))
               (y,0))
              λ(o:Int⊕Bool)=>
              aj o
               (λ(y:Int)=>
                l9 (x8 y (o9 x_2)) (o5 A λ(x:Bool)=>some x) (some false))
               λ(r:Bool)=>some r)
           λ(r:Bool)=>some r)=some true:=by
 subst hA;have hN:=a2e hV;have hsc:=Um hs;obtain⟨x1,x2,x3⟩:=hX;have hX:Tq l s X:=⟨x1,x2,x3⟩;have hval:∀v∈X.1,bQ v.2.2:=λv hv=>by obtain⟨i,hi,rfl⟩:=J7 hv;obtain⟨r,_,g,_⟩:=QN hV hs hX (dX hi);exact g
 have hvm:∀m∈b,∀v∈m.1,bQ v.2.2:=λm hm v hv=>by obtain⟨j,hj,rfl⟩:=J7 hm;obtain⟨i,hi,rfl⟩:=J7 hv;obtain⟨g1,g2⟩:=hB j _ (dX hj);obtain⟨r,_,g,_⟩:=QN hV g1 g2 (dX hi);exact g
 obtain⟨r1,r2⟩:=a7Z (l:=l) (k:=k) (r:=(X.1,X.2,b)) hN h1 h2 h3 hval hvm;rw[r1,o8];have hlen0:X.1.length<=(OH l k (X.1,X.2,b)).length:=by obtain⟨t,e⟩:=Ql l k (X.1,X.2,b) 0;rw[e,Sj,F8,Am];show X.1.length<=X.1.length+_;omega
 refine U9 (Lj (λi=>(((i:Int),(i:Int)):J8)) (n:=X.1.length) (o:=.ex (X.1.length:Int)) (r:=.inl (X.1.length:Int)) (λi hi=>?_) ?_ (.inl ⟨_,rfl,rfl⟩) l7) ?_
 ·have hv:X.1[i]? =some X.1[i]:=dX hi;obtain⟨r,g1,g2,g3,g4⟩:=QN hV hs hX hv;have hln:=b4p (l:=l) (k:=k) (r:=(X.1,X.2,b)) hv;rw[hsc]at hln;simp only[G7,hs,af,X8,J5,hv,g1,o8];rw[O0 (by unfold o9;omega),o7,V9 (by unfold o9;omega),o6,V9 (by unfold o9;omega),o6,hln,o8,o8,g3,o8,show F6 true=false from rfl,o6,uX l7]
 ·simp only;rw[J6 (by unfold o9;omega),o6]
 have h00:(X.1.length:Int)=((Gu l k (X.1,X.2,b) 0).length:Int):=by rw[Sj,Am]
 rw[o8,N7,hs,o8,h00];refine U9 (Lj (λm=>((((Gu l k (X.1,X.2,b) m).length:Int),(m:Int)):J8)) (n:=b.length) (o:=.ex ((Gu l k (X.1,X.2,b) b.length).length:Int)) (r:=.inl ((Gu l k (X.1,X.2,b) b.length).length:Int)) (λm hm=>?_) ?_ (.inl ⟨_,rfl,rfl⟩) l7) ?_
 ·have hD:b[m]? =some b[m]:=dX hm;obtain⟨g1,g2⟩:=hB m _ hD;have hdl:=h3 _ (H7 hm);obtain⟨t1,t2⟩:=a9I g1;obtain⟨y1,y2,y3⟩:=id g2;have hle:(Gu l k (X.1,X.2,b) m).length+b[m].1.length<=(OH l k (X.1,X.2,b)).length:=by
   obtain⟨t,e⟩:=Ql l k (X.1,X.2,b) (m+1);rw[e,Si l k (X.1,X.2,b) (m:=m) (D:=b[m]) hD,F8,F8,Am];omega
  simp only[G7,hD,o8];rw[O0 (by unfold o9;omega),o7,t1,o6,t2,o6,o8,N7,g1,o8];rw[show((Gu l k (X.1,X.2,b) m).length:Int)=(((Gu l k (X.1,X.2,b) m).length+0:Nat):Int)from rfl];refine U9 (Lj (λj=>((((Gu l k (X.1,X.2,b) m).length+j:Nat):Int),(j:Int))) (n:=b[m].1.length) (o:=.ex (((Gu l k (X.1,X.2,b) m).length+b[m].1.length:Nat):Int)) (r:=.inl (((Gu l k (X.1,X.2,b) m).length+b[m].1.length:Nat):Int)) (λj hj=>?_) ?_ (.inl ⟨_,rfl,rfl⟩) l7) ?_
  ·have hv:b[m].1[j]? =some b[m].1[j]:=dX hj;obtain⟨r,q1,q2,q3,q4⟩:=QN hV g1 g2 hv;have hln:=b4q (l:=l) (k:=k) (r:=(X.1,X.2,b)) (m:=m) (D:=b[m]) hD hv;rw[hsc,Um g1]at hln;simp only[G7,af,X8,J5,hv,q1,o8];rw[O0 (by unfold o9;omega),o7,V9 (by unfold o9;omega),o6,V9 (by unfold o9;omega),o6,hln,o8,o8,q4 m l7,o8,show F6 true=false from rfl,o6,uX l7,uX l7];rfl
  ·simp only;rw[J6 (by unfold o9;omega),o6]
  ·rw[o8,N7,uX l7,Si l k (X.1,X.2,b) (m:=m) (D:=b[m]) hD,F8,Am]
 ·simp only;rw[J6 (by unfold o9;omega),o6]
 ·have hend:=b0F l k (X.1,X.2,b);rw[o8,N7];rw[show Gu l k (X.1,X.2,b) b.length=OH l k (X.1,X.2,b)from hend,O8 (show((OH l k (X.1,X.2,b)).length:Int)=o9 (OH l k (X.1,X.2,b))from rfl)];rfl
structure CdP {α:Type} (P:α->Prop) (o:Option α):Prop where
 h:∀r,o=some r->P r
def aH{α:Type}(r:α×Int):Prop:=0<=r.2/\r.2<=100
def SmB{ε α:Type} :ε⊕(α×Int)->Prop
 | .inl _=>True| .inr r=>aH r
def OuB{σ ε α:Type} :Out σ ε (α×Int)->Prop
 | .rt r=>aH r|_=>True
section
variable {α β σ ε ρ:Type} {P:α->Prop}
theorem X5{r:α}(h:P r):CdP P (some r):=⟨λx e=>by cases e;exact h⟩
theorem ng{o:Option β}{K:β->Option α}(h:∀x,CdP P (K x)):CdP P (o5 o K):=⟨λr e=>by
 cases o with
 |none=>cases e
 |some x=>exact(h x).h r e⟩
theorem x9{Q:β->Prop}{o:Option β}{K:β->Option α}(ho:CdP Q o)(h:∀x,Q x->CdP P (K x)):CdP P (o5 o K):=⟨λr e=>by
 cases o with
 |none=>cases e
 |some x=>exact(h x (ho.h x rfl)).h r e⟩
theorem ny{b:Bool}{x y:Option α}(h1:CdP P x)(h2:CdP P y):CdP P (l9 b x y):=by
 cases b
 ·exact h2
 ·exact h1
theorem rU{o:ε⊕(ρ×Int)}{f:ε->Option α}{g:ρ×Int->Option α}(ho:SmB o)(h1:∀e,CdP P (f e))(h2:∀r,aH r->CdP P (g r)):CdP P (aj o f g):=by
 cases o with
 |inl e=>exact h1 e|inr r=>exact h2 r ho
theorem b3P:CdP P none:=⟨λr e=>by cases e⟩
theorem nz{f:σ->Option (Out σ ε (ρ×Int))}(h:∀s,CdP OuB (f s))(s:σ):CdP SmB (X7 f s):=by
 have key:∀n s,CdP SmB (ou f n s):=by
  intro n;induction n with
  |zero=>intro s;exact b3P|succ n ih=>
   intro s;refine⟨λr e=>?_⟩;unfold ou at e;cases hf:f s with
   |none=>rw[hf]at e;cases e|some o=>
    rw[hf]at e;cases o with
    |nx s' =>exact(ih s').h r e|ex x=>cases e;trivial|rt x=>cases e;exact(h s).h _ hf
 exact key lg s
end
theorem bd1{α:Type}{x:α×Int}(h:aH x):aH x:=h
theorem bd0{α:Type}{x:α}{c:Int}(h:0<=c/\c<=100):aH (x,c):=h
theorem dW(a0:Int)(a1:Int):CdP aH (c6f a0 a1):=by
 unfold c6f
 repeat (first|exact X5 (bd0 D7)|exact X5 trivial|exact X5 (bd1 (by assumption))|refine ny ?_ ?_|refine x9 (Q:=SmB) ?_ (λo ho=>rU ho (λ_=>?_) (λr hr=>?_))|refine nz (λs=>?_) _|refine ng (λx=>?_))
theorem dK(a0:Bool):CdP aH (c6t a0):=by
 unfold c6t
 repeat (first|exact X5 (bd0 D7)|exact X5 trivial|exact X5 (bd1 (by assumption))|refine ny ?_ ?_|refine x9 (Q:=aH) (dW _ _) (λx hx=>?_)|refine x9 (Q:=SmB) ?_ (λo ho=>rU ho (λ_=>?_) (λr hr=>?_))|refine nz (λs=>?_) _|refine ng (λx=>?_))
theorem bg(a0:Int)(a1:Int)(a2:Int):CdP aH (qJ a0 a1 a2):=by
 unfold qJ
 repeat (first|exact X5 (bd0 D7)|exact X5 trivial|exact X5 (bd1 (by assumption))|refine ny ?_ ?_|refine x9 (Q:=aH) (dW _ _) (λx hx=>?_)|refine x9 (Q:=aH) (dK _) (λx hx=>?_)|refine x9 (Q:=SmB) ?_ (λo ho=>rU ho (λ_=>?_) (λr hr=>?_))|refine nz (λs=>?_) _|refine ng (λx=>?_))
theorem aA(a0:Int)(a1:Int):CdP aH (c6o a0 a1):=by
 unfold c6o
 repeat (first|exact X5 (bd0 D7)|exact X5 trivial|exact X5 (bd1 (by assumption))|refine ny ?_ ?_|refine x9 (Q:=aH) (dW _ _) (λx hx=>?_)|refine x9 (Q:=aH) (dK _) (λx hx=>?_)|refine x9 (Q:=aH) (bg _ _ _) (λx hx=>?_)|refine x9 (Q:=SmB) ?_ (λo ho=>rU ho (λ_=>?_) (λr hr=>?_))|refine nz (λs=>?_) _|refine ng (λx=>?_))
theorem bF(a0:Int)(a1:Int)(a2:Int):CdP aH (c6y a0 a1 a2):=by
 unfold c6y
 repeat (first|exact X5 (bd0 D7)|exact X5 trivial|exact X5 (bd1 (by assumption))|refine ny ?_ ?_|refine x9 (Q:=aH) (dW _ _) (λx hx=>?_)|refine x9 (Q:=aH) (dK _) (λx hx=>?_)|refine x9 (Q:=aH) (bg _ _ _) (λx hx=>?_)|refine x9 (Q:=aH) (aA _ _) (λx hx=>?_)|refine x9 (Q:=SmB) ?_ (λo ho=>rU ho (λ_=>?_) (λr hr=>?_))|refine nz (λs=>?_) _|refine ng (λx=>?_))
theorem dR(a0:Int)(a1:Int)(a2:Int):CdP aH (c6C a0 a1 a2):=by
 unfold c6C
 repeat (first|exact X5 (bd0 D7)|exact X5 trivial|exact X5 (bd1 (by assumption))|refine ny ?_ ?_|refine x9 (Q:=aH) (dW _ _) (λx hx=>?_)|refine x9 (Q:=aH) (dK _) (λx hx=>?_)|refine x9 (Q:=aH) (bg _ _ _) (λx hx=>?_)|refine x9 (Q:=aH) (aA _ _) (λx hx=>?_)|refine x9 (Q:=aH) (bF _ _ _) (λx hx=>?_)|refine x9 (Q:=SmB) ?_ (λo ho=>rU ho (λ_=>?_) (λr hr=>?_))|refine nz (λs=>?_) _|refine ng (λx=>?_))
theorem gz(a0:Int)(a1:Int)(a2:Int)(a3:Int):CdP aH (c6K a0 a1 a2 a3):=by
 unfold c6K
 repeat (first|exact X5 (bd0 D7)|exact X5 trivial|exact X5 (bd1 (by assumption))|refine ny ?_ ?_|refine x9 (Q:=aH) (dW _ _) (λx hx=>?_)|refine x9 (Q:=aH) (dK _) (λx hx=>?_)|refine x9 (Q:=aH) (bg _ _ _) (λx hx=>?_)|refine x9 (Q:=aH) (aA _ _) (λx hx=>?_)|refine x9 (Q:=aH) (bF _ _ _) (λx hx=>?_)|refine x9 (Q:=aH) (dR _ _ _) (λx hx=>?_)|refine x9 (Q:=SmB) ?_ (λo ho=>rU ho (λ_=>?_) (λr hr=>?_))|refine nz (λs=>?_) _|refine ng (λx=>?_))
theorem dJ(a0:Int)(a1:Int)(a2:Int):CdP aH (c6v a0 a1 a2):=by
 unfold c6v
 repeat (first|exact X5 (bd0 D7)|exact X5 trivial|exact X5 (bd1 (by assumption))|refine ny ?_ ?_|refine x9 (Q:=aH) (dW _ _) (λx hx=>?_)|refine x9 (Q:=aH) (dK _) (λx hx=>?_)|refine x9 (Q:=aH) (bg _ _ _) (λx hx=>?_)|refine x9 (Q:=aH) (aA _ _) (λx hx=>?_)|refine x9 (Q:=aH) (bF _ _ _) (λx hx=>?_)|refine x9 (Q:=aH) (dR _ _ _) (λx hx=>?_)|refine x9 (Q:=aH) (gz _ _ _ _) (λx hx=>?_)|refine x9 (Q:=SmB) ?_ (λo ho=>rU ho (λ_=>?_) (λr hr=>?_))|refine nz (λs=>?_) _|refine ng (λx=>?_))
theorem nO(a0:Int)(a1:Int)(a2:Int):CdP aH (c6P a0 a1 a2):=by
 unfold c6P
 repeat (first|exact X5 (bd0 D7)|exact X5 trivial|exact X5 (bd1 (by assumption))|refine ny ?_ ?_|refine x9 (Q:=aH) (dW _ _) (λx hx=>?_)|refine x9 (Q:=aH) (dK _) (λx hx=>?_)|refine x9 (Q:=aH) (bg _ _ _) (λx hx=>?_)|refine x9 (Q:=aH) (aA _ _) (λx hx=>?_)|refine x9 (Q:=aH) (bF _ _ _) (λx hx=>?_)|refine x9 (Q:=aH) (dR _ _ _) (λx hx=>?_)|refine x9 (Q:=aH) (gz _ _ _ _) (λx hx=>?_)|refine x9 (Q:=aH) (dJ _ _ _) (λx hx=>?_)|refine x9 (Q:=SmB) ?_ (λo ho=>rU ho (λ_=>?_) (λr hr=>?_))|refine nz (λs=>?_) _|refine ng (λx=>?_))
theorem kY(a0:Int)(a1:Int)(a2:Int):CdP aH (c6I a0 a1 a2):=by
 unfold c6I
 repeat (first|exact X5 (bd0 D7)|exact X5 trivial|exact X5 (bd1 (by assumption))|refine ny ?_ ?_|refine x9 (Q:=aH) (dW _ _) (λx hx=>?_)|refine x9 (Q:=aH) (dK _) (λx hx=>?_)|refine x9 (Q:=aH) (bg _ _ _) (λx hx=>?_)|refine x9 (Q:=aH) (aA _ _) (λx hx=>?_)|refine x9 (Q:=aH) (bF _ _ _) (λx hx=>?_)|refine x9 (Q:=aH) (dR _ _ _) (λx hx=>?_)|refine x9 (Q:=aH) (gz _ _ _ _) (λx hx=>?_)|refine x9 (Q:=aH) (dJ _ _ _) (λx hx=>?_)|refine x9 (Q:=aH) (nO _ _ _) (λx hx=>?_)|refine x9 (Q:=SmB) ?_ (λo ho=>rU ho (λ_=>?_) (λr hr=>?_))|refine nz (λs=>?_) _|refine ng (λx=>?_))
theorem iU(a0:iy)(a1:Int)(a2:Int)(a3:Int):CdP aH (c6E a0 a1 a2 a3):=by
 unfold c6E
 repeat (first|exact X5 (bd0 D7)|exact X5 trivial|exact X5 (bd1 (by assumption))|refine ny ?_ ?_|refine x9 (Q:=aH) (dW _ _) (λx hx=>?_)|refine x9 (Q:=aH) (dK _) (λx hx=>?_)|refine x9 (Q:=aH) (bg _ _ _) (λx hx=>?_)|refine x9 (Q:=aH) (aA _ _) (λx hx=>?_)|refine x9 (Q:=aH) (bF _ _ _) (λx hx=>?_)|refine x9 (Q:=aH) (dR _ _ _) (λx hx=>?_)|refine x9 (Q:=aH) (gz _ _ _ _) (λx hx=>?_)|refine x9 (Q:=aH) (dJ _ _ _) (λx hx=>?_)|refine x9 (Q:=aH) (nO _ _ _) (λx hx=>?_)|refine x9 (Q:=aH) (kY _ _ _) (λx hx=>?_)|refine x9 (Q:=SmB) ?_ (λo ho=>rU ho (λ_=>?_) (λr hr=>?_))|refine nz (λs=>?_) _|refine ng (λx=>?_))
theorem qF(a0:Int)(a1:Int)(a2:Int)(hw:0<=a2/\a2<=100):CdP aH (c6p a0 a1 a2):=by
 unfold c6p
 repeat (first|exact X5 (bd0 D7)|exact X5 trivial|exact X5 (bd1 (by assumption))|refine ny ?_ ?_|refine x9 (Q:=aH) (dW _ _) (λx hx=>?_)|refine x9 (Q:=aH) (dK _) (λx hx=>?_)|refine x9 (Q:=aH) (bg _ _ _) (λx hx=>?_)|refine x9 (Q:=aH) (aA _ _) (λx hx=>?_)|refine x9 (Q:=aH) (bF _ _ _) (λx hx=>?_)|refine x9 (Q:=aH) (dR _ _ _) (λx hx=>?_)|refine x9 (Q:=aH) (gz _ _ _ _) (λx hx=>?_)|refine x9 (Q:=aH) (dJ _ _ _) (λx hx=>?_)|refine x9 (Q:=aH) (nO _ _ _) (λx hx=>?_)|refine x9 (Q:=aH) (kY _ _ _) (λx hx=>?_)|refine x9 (Q:=aH) (iU _ _ _ _) (λx hx=>?_)|refine x9 (Q:=SmB) ?_ (λo ho=>rU ho (λ_=>?_) (λr hr=>?_))|refine nz (λs=>?_) _|refine ng (λx=>?_))
theorem lX(a0:Int)(a1:Int)(a2:Int):CdP aH (c6r a0 a1 a2):=by
 unfold c6r
 repeat (first|exact X5 (bd0 D7)|exact X5 trivial|exact X5 (bd1 (by assumption))|refine ny ?_ ?_|refine x9 (Q:=aH) (dW _ _) (λx hx=>?_)|refine x9 (Q:=aH) (dK _) (λx hx=>?_)|refine x9 (Q:=aH) (bg _ _ _) (λx hx=>?_)|refine x9 (Q:=aH) (aA _ _) (λx hx=>?_)|refine x9 (Q:=aH) (bF _ _ _) (λx hx=>?_)|refine x9 (Q:=aH) (dR _ _ _) (λx hx=>?_)|refine x9 (Q:=aH) (gz _ _ _ _) (λx hx=>?_)|refine x9 (Q:=aH) (dJ _ _ _) (λx hx=>?_)|refine x9 (Q:=aH) (nO _ _ _) (λx hx=>?_)|refine x9 (Q:=aH) (kY _ _ _) (λx hx=>?_)|refine x9 (Q:=aH) (iU _ _ _ _) (λx hx=>?_)|refine x9 (Q:=aH) (qF _ _ _ (by assumption)) (λx hx=>?_)|refine x9 (Q:=SmB) ?_ (λo ho=>rU ho (λ_=>?_) (λr hr=>?_))|refine nz (λs=>?_) _|refine ng (λx=>?_))
theorem qE(a0:J8)(a1:V4)(a2:V4):CdP aH (c6u a0 a1 a2):=by
 unfold c6u
 repeat (first|exact X5 (bd0 D7)|exact X5 trivial|exact X5 (bd1 (by assumption))|refine ny ?_ ?_|refine x9 (Q:=aH) (dW _ _) (λx hx=>?_)|refine x9 (Q:=aH) (dK _) (λx hx=>?_)|refine x9 (Q:=aH) (bg _ _ _) (λx hx=>?_)|refine x9 (Q:=aH) (aA _ _) (λx hx=>?_)|refine x9 (Q:=aH) (bF _ _ _) (λx hx=>?_)|refine x9 (Q:=aH) (dR _ _ _) (λx hx=>?_)|refine x9 (Q:=aH) (gz _ _ _ _) (λx hx=>?_)|refine x9 (Q:=aH) (dJ _ _ _) (λx hx=>?_)|refine x9 (Q:=aH) (nO _ _ _) (λx hx=>?_)|refine x9 (Q:=aH) (kY _ _ _) (λx hx=>?_)|refine x9 (Q:=aH) (iU _ _ _ _) (λx hx=>?_)|refine x9 (Q:=aH) (qF _ _ _ (by assumption)) (λx hx=>?_)|refine x9 (Q:=aH) (lX _ _ _) (λx hx=>?_)|refine x9 (Q:=SmB) ?_ (λo ho=>rU ho (λ_=>?_) (λr hr=>?_))|refine nz (λs=>?_) _|refine ng (λx=>?_))
theorem vV(a0:Int)(a1:V4)(a2:V4):CdP aH (c6w a0 a1 a2):=by
 unfold c6w
 repeat (first|exact X5 (bd0 D7)|exact X5 trivial|exact X5 (bd1 (by assumption))|refine ny ?_ ?_|refine x9 (Q:=aH) (dW _ _) (λx hx=>?_)|refine x9 (Q:=aH) (dK _) (λx hx=>?_)|refine x9 (Q:=aH) (bg _ _ _) (λx hx=>?_)|refine x9 (Q:=aH) (aA _ _) (λx hx=>?_)|refine x9 (Q:=aH) (bF _ _ _) (λx hx=>?_)|refine x9 (Q:=aH) (dR _ _ _) (λx hx=>?_)|refine x9 (Q:=aH) (gz _ _ _ _) (λx hx=>?_)|refine x9 (Q:=aH) (dJ _ _ _) (λx hx=>?_)|refine x9 (Q:=aH) (nO _ _ _) (λx hx=>?_)|refine x9 (Q:=aH) (kY _ _ _) (λx hx=>?_)|refine x9 (Q:=aH) (iU _ _ _ _) (λx hx=>?_)|refine x9 (Q:=aH) (qF _ _ _ (by assumption)) (λx hx=>?_)|refine x9 (Q:=aH) (lX _ _ _) (λx hx=>?_)|refine x9 (Q:=aH) (qE _ _ _) (λx hx=>?_)|refine x9 (Q:=SmB) ?_ (λo ho=>rU ho (λ_=>?_) (λr hr=>?_))|refine nz (λs=>?_) _|refine ng (λx=>?_))
theorem rZ(a0:Int)(a1:V4)(a2:V4):CdP aH (c6l a0 a1 a2):=by
 unfold c6l
 repeat (first|exact X5 (bd0 D7)|exact X5 trivial|exact X5 (bd1 (by assumption))|refine ny ?_ ?_|refine x9 (Q:=aH) (dW _ _) (λx hx=>?_)|refine x9 (Q:=aH) (dK _) (λx hx=>?_)|refine x9 (Q:=aH) (bg _ _ _) (λx hx=>?_)|refine x9 (Q:=aH) (aA _ _) (λx hx=>?_)|refine x9 (Q:=aH) (bF _ _ _) (λx hx=>?_)|refine x9 (Q:=aH) (dR _ _ _) (λx hx=>?_)|refine x9 (Q:=aH) (gz _ _ _ _) (λx hx=>?_)|refine x9 (Q:=aH) (dJ _ _ _) (λx hx=>?_)|refine x9 (Q:=aH) (nO _ _ _) (λx hx=>?_)|refine x9 (Q:=aH) (kY _ _ _) (λx hx=>?_)|refine x9 (Q:=aH) (iU _ _ _ _) (λx hx=>?_)|refine x9 (Q:=aH) (qF _ _ _ (by assumption)) (λx hx=>?_)|refine x9 (Q:=aH) (lX _ _ _) (λx hx=>?_)|refine x9 (Q:=aH) (qE _ _ _) (λx hx=>?_)|refine x9 (Q:=aH) (vV _ _ _) (λx hx=>?_)|refine x9 (Q:=SmB) ?_ (λo ho=>rU ho (λ_=>?_) (λr hr=>?_))|refine nz (λs=>?_) _|refine ng (λx=>?_))
theorem yR(a0:J8)(a1:V4)(a2:V4):CdP aH (c6g a0 a1 a2):=by
 unfold c6g
 repeat (first|exact X5 (bd0 D7)|exact X5 trivial|exact X5 (bd1 (by assumption))|refine ny ?_ ?_|refine x9 (Q:=aH) (dW _ _) (λx hx=>?_)|refine x9 (Q:=aH) (dK _) (λx hx=>?_)|refine x9 (Q:=aH) (bg _ _ _) (λx hx=>?_)|refine x9 (Q:=aH) (aA _ _) (λx hx=>?_)|refine x9 (Q:=aH) (bF _ _ _) (λx hx=>?_)|refine x9 (Q:=aH) (dR _ _ _) (λx hx=>?_)|refine x9 (Q:=aH) (gz _ _ _ _) (λx hx=>?_)|refine x9 (Q:=aH) (dJ _ _ _) (λx hx=>?_)|refine x9 (Q:=aH) (nO _ _ _) (λx hx=>?_)|refine x9 (Q:=aH) (kY _ _ _) (λx hx=>?_)|refine x9 (Q:=aH) (iU _ _ _ _) (λx hx=>?_)|refine x9 (Q:=aH) (qF _ _ _ (by assumption)) (λx hx=>?_)|refine x9 (Q:=aH) (lX _ _ _) (λx hx=>?_)|refine x9 (Q:=aH) (qE _ _ _) (λx hx=>?_)|refine x9 (Q:=aH) (vV _ _ _) (λx hx=>?_)|refine x9 (Q:=aH) (rZ _ _ _) (λx hx=>?_)|refine x9 (Q:=SmB) ?_ (λo ho=>rU ho (λ_=>?_) (λr hr=>?_))|refine nz (λs=>?_) _|refine ng (λx=>?_))
theorem CZ(a0:iy)(a1:Int)(a2:V4):CdP aH (c6M a0 a1 a2):=by
 unfold c6M
 repeat (first|exact X5 (bd0 D7)|exact X5 trivial|exact X5 (bd1 (by assumption))|refine ny ?_ ?_|refine x9 (Q:=aH) (dW _ _) (λx hx=>?_)|refine x9 (Q:=aH) (dK _) (λx hx=>?_)|refine x9 (Q:=aH) (bg _ _ _) (λx hx=>?_)|refine x9 (Q:=aH) (aA _ _) (λx hx=>?_)|refine x9 (Q:=aH) (bF _ _ _) (λx hx=>?_)|refine x9 (Q:=aH) (dR _ _ _) (λx hx=>?_)|refine x9 (Q:=aH) (gz _ _ _ _) (λx hx=>?_)|refine x9 (Q:=aH) (dJ _ _ _) (λx hx=>?_)|refine x9 (Q:=aH) (nO _ _ _) (λx hx=>?_)|refine x9 (Q:=aH) (kY _ _ _) (λx hx=>?_)|refine x9 (Q:=aH) (iU _ _ _ _) (λx hx=>?_)|refine x9 (Q:=aH) (qF _ _ _ (by assumption)) (λx hx=>?_)|refine x9 (Q:=aH) (lX _ _ _) (λx hx=>?_)|refine x9 (Q:=aH) (qE _ _ _) (λx hx=>?_)|refine x9 (Q:=aH) (vV _ _ _) (λx hx=>?_)|refine x9 (Q:=aH) (rZ _ _ _) (λx hx=>?_)|refine x9 (Q:=aH) (yR _ _ _) (λx hx=>?_)|refine x9 (Q:=SmB) ?_ (λo ho=>rU ho (λ_=>?_) (λr hr=>?_))|refine nz (λs=>?_) _|refine ng (λx=>?_))
theorem Ib(a0:J8)(a1:V4)(a2:aT):CdP aH (c6i a0 a1 a2):=by
 unfold c6i
 repeat (first|exact X5 (bd0 D7)|exact X5 trivial|exact X5 (bd1 (by assumption))|refine ny ?_ ?_|refine x9 (Q:=aH) (dW _ _) (λx hx=>?_)|refine x9 (Q:=aH) (dK _) (λx hx=>?_)|refine x9 (Q:=aH) (bg _ _ _) (λx hx=>?_)|refine x9 (Q:=aH) (aA _ _) (λx hx=>?_)|refine x9 (Q:=aH) (bF _ _ _) (λx hx=>?_)|refine x9 (Q:=aH) (dR _ _ _) (λx hx=>?_)|refine x9 (Q:=aH) (gz _ _ _ _) (λx hx=>?_)|refine x9 (Q:=aH) (dJ _ _ _) (λx hx=>?_)|refine x9 (Q:=aH) (nO _ _ _) (λx hx=>?_)|refine x9 (Q:=aH) (kY _ _ _) (λx hx=>?_)|refine x9 (Q:=aH) (iU _ _ _ _) (λx hx=>?_)|refine x9 (Q:=aH) (qF _ _ _ (by assumption)) (λx hx=>?_)|refine x9 (Q:=aH) (lX _ _ _) (λx hx=>?_)|refine x9 (Q:=aH) (qE _ _ _) (λx hx=>?_)|refine x9 (Q:=aH) (vV _ _ _) (λx hx=>?_)|refine x9 (Q:=aH) (rZ _ _ _) (λx hx=>?_)|refine x9 (Q:=aH) (yR _ _ _) (λx hx=>?_)|refine x9 (Q:=aH) (CZ _ _ _) (λx hx=>?_)|refine x9 (Q:=SmB) ?_ (λo ho=>rU ho (λ_=>?_) (λr hr=>?_))|refine nz (λs=>?_) _|refine ng (λx=>?_))
theorem KP(a0:J8)(a1:aT):CdP aH (c6e a0 a1):=by
 unfold c6e
 repeat (first|exact X5 (bd0 D7)|exact X5 trivial|exact X5 (bd1 (by assumption))|refine ny ?_ ?_|refine x9 (Q:=aH) (dW _ _) (λx hx=>?_)|refine x9 (Q:=aH) (dK _) (λx hx=>?_)|refine x9 (Q:=aH) (bg _ _ _) (λx hx=>?_)|refine x9 (Q:=aH) (aA _ _) (λx hx=>?_)|refine x9 (Q:=aH) (bF _ _ _) (λx hx=>?_)|refine x9 (Q:=aH) (dR _ _ _) (λx hx=>?_)|refine x9 (Q:=aH) (gz _ _ _ _) (λx hx=>?_)|refine x9 (Q:=aH) (dJ _ _ _) (λx hx=>?_)|refine x9 (Q:=aH) (nO _ _ _) (λx hx=>?_)|refine x9 (Q:=aH) (kY _ _ _) (λx hx=>?_)|refine x9 (Q:=aH) (iU _ _ _ _) (λx hx=>?_)|refine x9 (Q:=aH) (qF _ _ _ (by assumption)) (λx hx=>?_)|refine x9 (Q:=aH) (lX _ _ _) (λx hx=>?_)|refine x9 (Q:=aH) (qE _ _ _) (λx hx=>?_)|refine x9 (Q:=aH) (vV _ _ _) (λx hx=>?_)|refine x9 (Q:=aH) (rZ _ _ _) (λx hx=>?_)|refine x9 (Q:=aH) (yR _ _ _) (λx hx=>?_)|refine x9 (Q:=aH) (CZ _ _ _) (λx hx=>?_)|refine x9 (Q:=aH) (Ib _ _ _) (λx hx=>?_)|refine x9 (Q:=SmB) ?_ (λo ho=>rU ho (λ_=>?_) (λr hr=>?_))|refine nz (λs=>?_) _|refine ng (λx=>?_))
theorem Vu(a0:J8)(a1:aT):CdP aH (c6m a0 a1):=by
 unfold c6m
 repeat (first|exact X5 (bd0 D7)|exact X5 trivial|exact X5 (bd1 (by assumption))|refine ny ?_ ?_|refine x9 (Q:=aH) (dW _ _) (λx hx=>?_)|refine x9 (Q:=aH) (dK _) (λx hx=>?_)|refine x9 (Q:=aH) (bg _ _ _) (λx hx=>?_)|refine x9 (Q:=aH) (aA _ _) (λx hx=>?_)|refine x9 (Q:=aH) (bF _ _ _) (λx hx=>?_)|refine x9 (Q:=aH) (dR _ _ _) (λx hx=>?_)|refine x9 (Q:=aH) (gz _ _ _ _) (λx hx=>?_)|refine x9 (Q:=aH) (dJ _ _ _) (λx hx=>?_)|refine x9 (Q:=aH) (nO _ _ _) (λx hx=>?_)|refine x9 (Q:=aH) (kY _ _ _) (λx hx=>?_)|refine x9 (Q:=aH) (iU _ _ _ _) (λx hx=>?_)|refine x9 (Q:=aH) (qF _ _ _ (by assumption)) (λx hx=>?_)|refine x9 (Q:=aH) (lX _ _ _) (λx hx=>?_)|refine x9 (Q:=aH) (qE _ _ _) (λx hx=>?_)|refine x9 (Q:=aH) (vV _ _ _) (λx hx=>?_)|refine x9 (Q:=aH) (rZ _ _ _) (λx hx=>?_)|refine x9 (Q:=aH) (yR _ _ _) (λx hx=>?_)|refine x9 (Q:=aH) (CZ _ _ _) (λx hx=>?_)|refine x9 (Q:=aH) (Ib _ _ _) (λx hx=>?_)|refine x9 (Q:=aH) (KP _ _) (λx hx=>?_)|refine x9 (Q:=SmB) ?_ (λo ho=>rU ho (λ_=>?_) (λr hr=>?_))|refine nz (λs=>?_) _|refine ng (λx=>?_))
theorem t_(a0:J8)(a1:List V4)(a2:aT):CdP aH (c6s a0 a1 a2):=by
 unfold c6s
 repeat (first|exact X5 (bd0 D7)|exact X5 trivial|exact X5 (bd1 (by assumption))|refine ny ?_ ?_|refine x9 (Q:=aH) (dW _ _) (λx hx=>?_)|refine x9 (Q:=aH) (dK _) (λx hx=>?_)|refine x9 (Q:=aH) (bg _ _ _) (λx hx=>?_)|refine x9 (Q:=aH) (aA _ _) (λx hx=>?_)|refine x9 (Q:=aH) (bF _ _ _) (λx hx=>?_)|refine x9 (Q:=aH) (dR _ _ _) (λx hx=>?_)|refine x9 (Q:=aH) (gz _ _ _ _) (λx hx=>?_)|refine x9 (Q:=aH) (dJ _ _ _) (λx hx=>?_)|refine x9 (Q:=aH) (nO _ _ _) (λx hx=>?_)|refine x9 (Q:=aH) (kY _ _ _) (λx hx=>?_)|refine x9 (Q:=aH) (iU _ _ _ _) (λx hx=>?_)|refine x9 (Q:=aH) (qF _ _ _ (by assumption)) (λx hx=>?_)|refine x9 (Q:=aH) (lX _ _ _) (λx hx=>?_)|refine x9 (Q:=aH) (qE _ _ _) (λx hx=>?_)|refine x9 (Q:=aH) (vV _ _ _) (λx hx=>?_)|refine x9 (Q:=aH) (rZ _ _ _) (λx hx=>?_)|refine x9 (Q:=aH) (yR _ _ _) (λx hx=>?_)|refine x9 (Q:=aH) (CZ _ _ _) (λx hx=>?_)|refine x9 (Q:=aH) (Ib _ _ _) (λx hx=>?_)|refine x9 (Q:=aH) (KP _ _) (λx hx=>?_)|refine x9 (Q:=aH) (Vu _ _) (λx hx=>?_)|refine x9 (Q:=SmB) ?_ (λo ho=>rU ho (λ_=>?_) (λr hr=>?_))|refine nz (λs=>?_) _|refine ng (λx=>?_))
abbrev B1(c:Int):Prop:=0<=c/\c<=100
theorem b3K:B1 0:=⟨D7,D7⟩
theorem c5M:B1 1:=⟨D7,D7⟩
theorem b6g:B1 2:=⟨D7,D7⟩
theorem b9t:B1 16:=⟨D7,D7⟩
theorem b6h:B1 3:=⟨D7,D7⟩
theorem b3L:B1 4:=⟨D7,D7⟩
theorem a9a:B1 5:=⟨D7,D7⟩
theorem c5N:B1 6:=⟨D7,D7⟩
theorem b3M:B1 8:=⟨D7,D7⟩
theorem b9r:B1 10:=⟨D7,D7⟩
theorem b9s:B1 11:=⟨D7,D7⟩
theorem Vp(n:Int×Int)(args:List V3)(env:aT):B1 (wO n args env).2:=by
 unfold wO;cases h:c6s n args env with
 |none=>exact⟨D7,D7⟩|some r=>exact(t_ n args env).h r h
theorem r_{r:V3×Int}(h:B1 r.2):B1 (rQ r).2:=by
 unfold rQ;cases x8 r.2 0
 ·exact h
 cases x8 r.1.1 1
 ·exact b3M
 cases plB r.1
 ·exact b3M
 ·exact b3K
theorem VS(env:aT):∀t,B1 (evT env t).2
 | .l0 n=>Vp n [] env| .l1 n a=>by
  have ha:=VS env a;unfold evT;cases x8 (evT env a).2 0
  ·exact ha
  ·exact Vp _ _ _
 | .l2 n a b=>by
  have ha:=VS env a;have hb:=VS env b;unfold evT;cases lzB n.1
  ·simp only[o6];cases x8 (evT env a).2 0
   ·exact ha
   cases x8 (evT env b).2 0
   ·exact hb
   ·exact Vp _ _ _
  ·simp only[o7];unfold Zr;cases x8 n.2 0
   ·exact b6g
   cases x8 (rQ (evT env a)).2 0
   ·exact r_ ha
   cases kU (x8 n.1 23) (x8 (rQ (evT env a)).1.2.2 0)
   ·exact r_ hb
   ·exact b3K
 | .l3 n a b c=>by
  have ha:=VS env a;have hb:=VS env b;have hc:=VS env c;unfold evT a1P;cases x8 n.2 0
  ·exact b6g
  cases x8 (rQ (evT env a)).2 0
  ·exact r_ ha
  cases x8 (rQ (evT env a)).1.2.2 1
  ·exact hc
  ·exact hb
theorem b6G{n:Int×Int}{ts:List XT}{c:Int}(h:push n ts= .inl c):B1 c:=by
 unfold push at h;split at h
 ·cases h
 split at h
 ·split at h<;>cases h;exact a9a
 split at h
 ·split at h<;>cases h;exact a9a
 split at h
 ·split at h<;>cases h;exact a9a
 cases h;exact b6g
theorem a2p:∀(e:List (Int×Int)) (i:Nat) (ts:List XT) (x:Int×Int),uz i e ts= .inl x->B1 x.2
 |[],i,ts,x,h=>by unfold uz at h;cases h|n::es,i,ts,x,h=>by
  unfold uz at h;cases hp:push n ts with
  |inl c=>rw[hp]at h;cases h;exact b6G hp|inr ts' =>
   rw[hp]at h;simp only at h;split at h
   ·cases h;exact b9t
   ·exact a2p es _ _ x h
theorem a5O(e:List (Int×Int))(env:aT):B1 (vT e env).2:=by
 unfold vT;cases h:mM e with
 |inr t=>exact VS env t|inl x=>
  simp only;unfold mM at h;split at h
  ·cases h;exact b3L
  split at h
  ·cases h;exact a9a
  split at h
  ·rename_i y hy;cases h;exact a2p _ _ _ _ hy
  ·cases h
  ·cases h;exact b3L
def B2(M:Int)(e:E4):Prop:=B1 e.1/\(e.2.1=M\/e.2.1=0)
theorem a6Y(s:D9)(env:aT)(m d:Int):B2 m (Y3 s env m d).2:=by
 unfold Y3;cases hf:aY (Ep s env m d) (dE s d env.1).1 []with
 |inl ap=>simp only;cases E8 (Ip (dE s d env.1).2.1 (dE s d env.1).2.2 ap) 0<;>(simp only[o7,o6];exact⟨⟨by show(0:Int)<=0;omega,by show(0:Int)<=100;omega⟩,.inr rfl⟩)|inr e=>
  refine qK (Ep s env m d) (λr=>B2 m r.2) (λb i r h=>?_) _ _ _ hf;unfold Ep at h;cases hl:G9 s.2.2.2.2 i with
  |none=>rw[hl]at h;cases h|some q=>
   rw[hl]at h;simp only at h;cases h1:x8 (o9 q.2.2.2.2.2.1) 0<;>rw[h1]at h
   ·cases h2:x8 (vT q.2.2.2.2.2.1 env).2 0<;>rw[h2]at h<;>cases h;exact⟨a5O _ _,.inl rfl⟩
   ·cases h
theorem b6i{s:D9}{env:aT}{m d:Int}{e:E4}(h:Ej s env m d= .inr e):B2 m e:=by
 unfold Ej at h;cases h0:x8 (Y3 s env m d).2.1 0<;>rw[h0]at h
 ·cases h;exact a6Y s env m d
 cases h1:x8 (Y3 s env m d).1 (-1)<;>rw[h1]at h
 case true=>cases h;exact⟨b9r,.inl rfl⟩
 cases h2:x8 (Y3 s env m d).1 (-2)<;>rw[h2]at h
 case true=>cases h;exact⟨b9s,.inl rfl⟩
 simp only[o7,o6]at h;cases hl:G9 s.2.2.2.2 (Y3 s env m d).1 with
 |none=>rw[hl]at h;cases h;exact⟨c5M,.inr rfl⟩|some r=>rw[hl]at h;simp only at h;cases h4:x8 (vT r.2.2.2.2.2.2.1 env).2 0<;>rw[h4]at h<;>cases h;exact⟨a5O _ _,.inl rfl⟩
theorem b5q{s:D9}{env:aT}{m:Int}{need:List Bool}{r:E4×List V3}(h:scS s env m need= .inr r):B2 m r.1:=by
 refine qK (scG s env m need) (λr=>B2 m r.1) (λb d r h=>?_) _ _ _ h;unfold scG at h;cases hb:(G9 need d).getD false<;>rw[hb]at h
 ·cases h
 simp only[o7]at h;cases hd:Ej s (AY env b.1) m d with
 |inl v=>rw[hd]at h;cases h|inr e=>rw[hd]at h;cases h;exact b6i hd
theorem VZ{α β ρ:Type}{G:β->α->β⊕ρ}{P:ρ->Prop} :∀(l:List α) (b:β) (r:ρ),(∀b a r,a∈l->G b a= .inr r->P r)->aY G l b= .inr r->P r
 |[],b,r,h,e=>by cases e|a::l,b,r,h,e=>by
  unfold aY at e;cases hg:G b a with
  |inl b' =>rw[hg]at e;exact VZ l b' r (λb a r ha=>h b a r (U4 _ ha)) e|inr r' =>rw[hg]at e;cases e;exact h b a r jg hg
theorem c5R{l:V8}{c:jU}{ms:D9}{need:List Bool}{e:E4}(hc:c.2.2.length<=1000)(h:mS l c ms need= .inr e):bQ e.1/\bQ e.2.1:=by
 refine VZ (P:=λe=>bQ e.1/\bQ e.2.1) c.2.2.zipIdx [] e (λb a r ha h=>?_) h;unfold mG at h;cases hs:scS ms (WG l c a.1) (a.2:Int) need with
 |inl x=>rw[hs]at h;cases h|inr q=>
  rw[hs]at h;cases h;obtain⟨⟨g1,g2⟩,g3⟩:=b5q hs;have h2:a.2<c.2.2.length:=by have:=List.mem_zipIdx ha;omega
  refine⟨by unfold bQ;omega,?_⟩;rcases g3 with g3|g3<;>rw[g3]<;>unfold bQ<;>omega
theorem b6J{l:V8}{s:D9}{c:jU}(hc:c.2.2.length<=1000):bQ (a2G l s c).2.1/\bQ (a2G l s c).2.2.1:=by
 unfold a2G;cases hm:mS l c (ax l s) (nK (ax l s).2.2.2.1.length)with
 |inr e=>exact c5R hc hm|inl b=>
  simp only;cases hs:scS s (Bv l s c b) (-1) (nK s.2.2.2.1.length)with
  |inl x=>exact⟨by simp only;unfold bQ;omega,by simp only;unfold bQ;omega⟩
  |inr r=>obtain⟨⟨g1,g2⟩,g3⟩:=b5q hs;refine⟨by simp only;unfold bQ;omega,?_⟩;simp only;rcases g3 with g3|g3<;>rw[g3]<;>unfold bQ<;>omega
theorem a6J(en:List bT)(fs:List jq)(vs:List V4):B1 (zi en fs vs).2:=by
 unfold zi;cases E8 (o9 vs) (o9 fs)
 case true=>exact a9a
 cases E8 (o9 fs) (o9 vs)
 case true=>exact b3L
 simp only[o6];cases hf:Z8 vs.length (YD en fs vs)with
 |none=>exact b3K|some r=>
  simp only;obtain⟨i,_,hi⟩:=bW hf;unfold YD at hi;split at hi
  ·rename_i v f _ _;cases h1:x8 v.1 f.2.1<;>rw[h1]at hi
   ·cases hi;exact b3M
   cases h2:x8 v.2.1 f.2.2<;>rw[h2]at hi
   ·cases hi;exact b3M
   cases h3:inB v.2.2 (bnd f.2 en)<;>rw[h3]at hi
   ·cases hi;exact b6h
   ·cases hi
  ·cases hi
theorem b3N(l:V8)(k:Int){c:jU}(hc:c.2.2.length<=1000):B1 (yS l k c).2.2/\bQ (yS l k c).1:=by
 unfold yS;cases G9 l.2.2 k with
 |none=>exact⟨c5N,by simp only;unfold bQ;omega⟩|some s=>
  simp only;cases E8 c.1 0
  case true=>exact⟨b6h,by simp only[o7];unfold bQ;omega⟩
  cases E8 109572 c.1
  case true=>exact⟨b6h,by simp only[o7,o6];unfold bQ;omega⟩
  cases x8 (zi l.1 s.2.2.1 c.2.1).2 0
  case false=>exact⟨a6J _ _ _,by simp only[o6];unfold bQ;omega⟩
  cases E8 (mZ l s).2 (o9 c.2.2)
  case true=>refine⟨b3L,?_⟩;simp only[o7,o6];unfold mZ bQ;cases G9 l.2.2 s.2.1<;>simp
  simp only[o7,o6];cases hf:Z8 c.2.2.length (WH l.1 (mZ l s).1 c.2.2)with
  |none=>exact⟨b3K,by simp only;unfold bQ;omega⟩|some r=>
   obtain⟨i,hi,h⟩:=bW hf;unfold WH at h;split at h
   ·rename_i vs _;cases hz:x8 (zi l.1 (mZ l s).1 vs).2 0<;>rw[hz]at h
    ·cases h;exact⟨a6J _ _ _,by simp only;unfold bQ;omega⟩
    ·cases h
   ·cases h
theorem b6e(l:V8)(k:Int){c:jU}(hc:c.2.2.length<=1000):bQ (Dp l k c false 0).1/\bQ (Dp l k c false 0).2.1:=by
 unfold Dp;cases x8 (eG l).1 0
 case false=>exact⟨by simp only[o6];unfold bQ;omega,by simp only[o6];unfold bQ;omega⟩
 simp only[o7];cases G9 l.2.2 k with
 |none=>exact⟨by simp only;unfold bQ;omega,by simp only;unfold bQ;omega⟩|some s=>
  simp only[o6];obtain⟨⟨g1,g2⟩,g3⟩:=b3N l k hc;cases x8 (yS l k c).2.2 0
  ·exact⟨by simp only[o6];unfold bQ;omega,g3⟩
  ·exact⟨by simp only[o7];unfold bQ;omega,by simp only[o7];unfold bQ;omega⟩
theorem a3y:xC=some true:=by decide+kernel
theorem UF{l:V8}(hW:WfL l)(k:Int)(c:jU):uZ l k c=some true:=by
 unfold uZ;rw[a2M,o8,a0y,o8,a3y];cases hl:smL l
 ·rfl
 cases hc:smC c
 ·rfl
 obtain⟨hL,hT⟩:=b7n hl hW;have hC:=b7m hc;unfold Il;rw[a0h hL];simp only[E5,o6,o8];cases hv:x8 (eG l).1 0
 ·rfl
 simp only[E5,o6,o8,N7];have hV:=V6.1 hv;have hN:=a2e hV;have hR:=b6K (k:=k) hL hC hT;by_cases hA:(Dp l k c false 0).1=0
 case neg=>
  rw[if_neg hA]at hR;rw[hR,o8];obtain⟨b1,b2⟩:=b6e l k hC.nm;obtain⟨t,e,ht⟩:=a1s (k:=k) hN hA b1 b2;simp only;rw[J3 hA,show F6 false=true from rfl,o7,e,o8];have:seq t [111,107]=false:=by
   cases h:seq t [111,107]
   ·rfl
   ·exact absurd (Hu.1 h) ht
  rw[this];rfl
 rw[if_pos hA]at hR;obtain⟨_,s,hs⟩:=YL hA;rw[hs]at hR;rw[hR,o8];have hS:=hL.sc s (dh hs).2.2.1;have hnd:=hS.nd;simp only;by_cases h0:(a2G l s c).2.1=0
 case neg=>
  obtain⟨b1,b2⟩:=b6J (l:=l) (s:=s) (c:=c) hC.nm;obtain⟨t,e,ht⟩:=a1s (k:=k) hN h0 b1 b2;rw[J3 h0,show F6 false=true from rfl,o7,e,o8];have:seq t [111,107]=false:=by
   cases h:seq t [111,107]
   ·rfl
   ·exact absurd (Hu.1 h) ht
  rw[this];rfl
 rw[O8 h0,E5,o6];obtain⟨i1,i2⟩:=a9I hs;rw[i1,o6,i2,o6,o8,N7];have hrun:∃X b,a2G l s c=((X.1,X.2,b),0,0,0,0)/\Tq l s X/\(∀(j:Nat) D,b[j]? =some D->G9 l.2.2 s.2.1=some (ax l s)/\Tq l (ax l s) D)/\b.length=c.2.2.length:=by
  unfold a2G at h0 ⊢;cases hq:mS l c (ax l s) (nK (ax l s).2.2.2.1.length)with
  |inr e=>rw[hq]at h0;exact absurd h0 (qK _ (λr=>r.1≠0) b6s _ _ _ hq)|inl b=>
   rw[hq]at h0;simp only at h0 ⊢;have hbl:=a9R hq;cases hr:scS s (Bv l s c b) (-1) (nK s.2.2.2.1.length)with
   |inr e=>rw[hr]at h0;exact absurd h0 (UZ hr)|inl X=>exact⟨X,b,rfl,a2I hL hT (b:=b) (by have:=hC.nm;omega) hA hV hs hr,b1A hL hT hA hV hs hq,hbl⟩
 obtain⟨X,b,e,hX,hB,hbl⟩:=hrun;rw[e];simp only;have hsc:∀q∈l.2.2,q.2.2.2.1.length<=20:=λq hq=>by have:=(hL.sc q hq).nd;omega
 have hc2:c.2.2.length<=10:=by
  unfold smC at hc;cases h1:E8 14 (o9 c.2.1)<;>rw[h1]at hc
  case true=>cases hc
  cases h2:E8 10 (o9 c.2.2)<;>rw[h2]at hc
  case true=>cases hc
  rw[jv]at h2;unfold o9 at h2;omega
 exact UG hV hs hX hB (by have:=hX.1;have:=hsc s (dh hs).2.2.1;omega) l7 (λD hD=>by obtain⟨j,hj⟩:=List.getElem?_of_mem hD;obtain⟨g1,g2⟩:=hB j D hj;have:=g2.1;have:=hsc _ (dh g1).2.2.1;omega) rfl
end Go.GP
namespace Go.GP
open Gt
theorem JD:∀x,a3o Gt.ps3 x->(Gt.s3.fn x:Option Bool)=some true:=λx h=>UF (c5I h.1) x.2.1 x.2.2
end Go.GP
