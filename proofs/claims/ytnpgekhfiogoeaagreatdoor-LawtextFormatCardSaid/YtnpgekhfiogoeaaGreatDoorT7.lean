import Derived.Test.YtnpgekhfiogoeaaGreatDoorT5
import Derived.Test.YtnpgekhfiogoeaaGreatDoorT6
set_option linter.all false
namespace Go.GP
open Gt
set_option maxRecDepth 100000
section
def XF:List UInt8:=[101,110,117,109]
def Rx:List UInt8:=[116,97,98,108,101]
def Rw:List UInt8:=[115,99,111,112,101]
def xC:List UInt8:=[109,101,109,98,101,114,115]
def yx:List UInt8:=[105,110,112,117,116]
def MR:List UInt8:=[100,101,102]
def enT(e:Z5):List UInt8:=lnS XF (e.1::e.2)
def roT(l:au)(t:bP)(r:uz):List UInt8:=lnS Ru (KG t r l.1)
def tbH(l:au)(t:bP):List UInt8:=lnS Rx [t.1,tyS t.2.1 l.1,tyS t.2.2.1 l.1]
def tbT(l:au)(t:bP):List UInt8:=tbH l t++t.2.2.2.flatMap (roT l t)
def meN(l:au)(s:N8):List UInt8:=((J9 l.2.2 s.2.1).map (·.1)).getD []
def meT(l:au)(s:N8):List UInt8:=l7 (U3 0 s.2.1) (lnS xC [meN l s]) []
def fdT(w:List UInt8)(l:au)(f:dW):List UInt8:=lnS w [f.1,tyS f.2 l.1]
def ruT(l:au)(s:N8)(r:bM):List UInt8:=lnS GI (ruW s r (nmS l s))
def scH(s:N8):List UInt8:=lnS Rw [s.1]
def scT(l:au)(s:N8):List UInt8:=scH s++meT l s++s.2.2.1.flatMap (fdT yx l)++s.2.2.2.1.flatMap (fdT MR l)++s.2.2.2.2.flatMap (ruT l s)
def txL(l:au):List UInt8:=l.1.flatMap enT++l.2.1.flatMap (tbT l)++l.2.2.flatMap (scT l)
structure FmL (l:au):Prop where
 v:(nP l).1=0
 n:NmL l
 w:WfL l
theorem qy{α:Type}{g:α->List UInt8}{B:Nat} :∀{l:List α},(∀a∈l,(g a).length<=B)->(l.flatMap g).length<=l.length*B
 |[],_=>by simp|a::l,h=>by have h1:=qy (g:=g) (B:=B) (l:=l) (λx hx=>h x (O8 _ hx));have h2:=h a A8;rw[List.flatMap_cons,D9,D7,H8,Y0];omega
variable {s:N8}{t:bP}
section
variable {l:au} (h:FmL l)
include h
theorem Ux:EnL l.1:=⟨λe he=>(h.n.e e he).2.1,λe he=>⟨by have:=(h.n.e e he).1;omega,λm hm=>by have:=(h.n.e e he).2.2 m hm;omega⟩⟩
theorem a1Z{t:Int×Int} :(tyS t l.1).length<=80:=b0w (Ux h).n
theorem Ur{e:Z5}(he:e∈l.1):(∀w∈e.1::e.2,w.length<=80)/\(e.1::e.2).length<=21/\(enT e).length<=1800:=by
 have h1:=h.n.e e he;have hw:∀w∈e.1::e.2,w.length<=80:=λw hw=>by
  rcases A7.1 hw with rfl|hw
  .exact h1.2.1
  .exact h1.2.2 w hw
 have hc:(e.1::e.2).length<=21:=by simp only[D7];omega
 have:=Ef (f:=XF) hw;have h3:(e.1::e.2).length*(80+1)<=21*81:=D6 _ hc;exact⟨hw,hc,by unfold enT;simp only[XF,D7,J7]at this ⊢;simp only[D7]at h3;omega⟩
theorem UZ(ht:t∈l.2.1){r:uz}(hr:r∈t.2.2.2):a1z r:=h.w.ri t ht r hr
theorem a5M(ht:t∈l.2.1){r:uz}(hr:r∈t.2.2.2):(roT l t r).length<=600:=by obtain⟨h1,h2,h3⟩:=UZ h ht hr;have:=Ef (f:=Ru) (QJ (t:=t) (Ux h) h1 h2 h3);unfold roT;simp only[Ru,KG,D7,J7]at this ⊢;omega
theorem tb3(ht:t∈l.2.1):∀w∈[t.1,tyS t.2.1 l.1,tyS t.2.2.1 l.1],w.length<=80:=by
 intro w hw;simp only[A7,aJ,or_false]at hw;rcases hw with rfl|rfl|rfl
 .exact h.n.t t ht
 .exact a1Z h
 .exact a1Z h
theorem a6l(ht:t∈l.2.1):(tbH l t).length<=300:=by have:=Ef (f:=Rx) (tb3 h ht);unfold tbH;simp only[Rx,D7,J7]at this ⊢;omega
theorem a6n(ht:t∈l.2.1):t.2.2.2.length<=64:=by obtain⟨i,hi,e⟩:=Y9 ht;exact((MQ h.v).2 i t (by rw[lM hi,e])).le
theorem a6m(ht:t∈l.2.1):(tbT l t).length<=40000:=by have h1:=a6l h ht;have h2:=qy (g:=roT l t) (B:=600) (l:=t.2.2.2) (λr hr=>a5M h ht hr);have h3:=D6 600 (a6n h ht);unfold tbT;rw[D9];omega
theorem a6R(hs:s∈l.2.2):∃i,l.2.2[i]? =some s/\ScV l i s:=by
 obtain⟨i,hi,e⟩:=Y9 hs;have he:l.2.2[i]? =some s:=by rw[lM hi,e]
 exact⟨i,he,(zY h.v).2 i s he⟩
theorem X_(hs:s∈l.2.2):s.1.length<=80:=by
 obtain⟨i,-,hv⟩:=a6R h hs;have:=hv.id;unfold vC at this;cases hc:s.1 with
 |nil=>simp|cons c r=>rw[hc]at this;simp only[x9,decide_eq_true_eq]at this;omega
theorem Hf{w:List UInt8}(hw:w.length<=10){f:dW}(hf:f.1.length<=80):(∀v∈[f.1,tyS f.2 l.1],v.length<=80)/\(fdT w l f).length<=200:=by
 have h2:∀v∈[f.1,tyS f.2 l.1],v.length<=80:=by
  intro v hv;simp only[A7,aJ,or_false]at hv;rcases hv with rfl|rfl
  .exact hf
  .exact a1Z h
 have:=Ef (f:=w) h2;refine⟨h2,?_⟩;unfold fdT;simp only[D7,J7]at this ⊢;omega
theorem YV(hs:s∈l.2.2){r:bM}(hr:r∈s.2.2.2.2):RuL s r/\NmOk (nmS l s)/\(∃k,RuV s (Vl l s) k r)/\(ruT l s r).length<=3000100:=by
 obtain⟨i,hi,hv⟩:=a6R h hs;obtain⟨k,hk,e⟩:=Y9 hr;have hru:=hv.rules k r (by rw[lM hk,e]);obtain⟨-,-,-,n4,n5,n6⟩:=h.n.s s hs;have hI:=h.w.si s hs r hr;have hsrc:r.2.2.2.2.2.2.2.length<=64:=by have:=hru.src;unfold ZB at this;simp only[x9,decide_eq_true_eq]at this;exact this.1
 have hL:RuL s r:=⟨n6 r hr,n5,n6,hI.1,hI.2,hsrc⟩;have hN:=b7y h.n hs;have h1:=Ef (f:=GI) (Vd hL hN (Yu hru.p0 hru.p9));have h2:=D6 150001 (Vb s r (nmS l s));refine⟨hL,hN,⟨k,hru⟩,?_⟩;unfold ruT;simp only[GI,D7,J7]at h1 ⊢;omega
theorem YA(hs:s∈l.2.2):(meN l s).length<=80/\(meT l s).length<=100:=by
 have h1:(meN l s).length<=80:=by
  unfold meN;cases hl:J9 l.2.2 s.2.1 with
  |none=>simp|some q=>exact X_ h (pV hl).2.2.1
 refine⟨h1,?_⟩;unfold meT;cases U3 0 s.2.1
 .simp
 .have:=Ef (f:=xC) (ws:=[meN l s]) (B:=80) (λw hw=>by rw[gy.1 hw];exact h1);simp only[o7,xC,D7,J7]at this ⊢;omega
theorem Vg(hs:s∈l.2.2):(∀w∈[s.1],w.length<=80)/\(scH s).length<=100:=by
 have h1:∀w∈[s.1],w.length<=80:=λw hw=>by rw[gy.1 hw];exact X_ h hs
 have:=Ef (f:=Rw) h1;refine⟨h1,?_⟩;unfold scH;simp only[Rw,D7,J7]at this ⊢;omega
theorem Uu(hs:s∈l.2.2):(s.2.2.1.flatMap (fdT yx l)).length<=2800/\(s.2.2.2.1.flatMap (fdT MR l)).length<=2800:=by obtain⟨n1,n2,n3,n4,n5,n6⟩:=h.n.s s hs;have h1:=qy (g:=fdT yx l) (B:=200) (l:=s.2.2.1) (λf hf=>(Hf h I5 (n4 f hf)).2);have h2:=qy (g:=fdT MR l) (B:=200) (l:=s.2.2.2.1) (λf hf=>(Hf h I5 (n5 f hf)).2);have h3:=D6 200 n1;have h4:=D6 200 n2;omega
theorem Ve(hs:s∈l.2.2):(s.2.2.2.2.flatMap (ruT l s)).length<=180006000:=by obtain⟨n1,n2,n3,n4,n5,n6⟩:=h.n.s s hs;have h1:=qy (g:=ruT l s) (B:=3000100) (l:=s.2.2.2.2) (λr hr=>(YV h hs hr).2.2.2);have h3:=D6 3000100 n3;omega
theorem a6d(hs:s∈l.2.2):(scT l s).length<=181000000:=by have h1:=(Vg h hs).2;have h2:=(YA h hs).2;have h3:=Uu h hs;have h4:=Ve h hs;unfold scT;simp only[D9];omega
end
end
section
theorem l1k{w:List (List UInt8)}{B:Nat}(hB:B<=1000000)(h:∀v∈w,v.length<=B):∀v∈w,v.length<=1000000:=λv hv=>aP (h v hv) hB
variable {l:au}
theorem SS(h:FmL l):(l.1.flatMap enT).length<=20000:=by have h1:=qy (g:=enT) (B:=1800) (l:=l.1) (λe he=>(Ur h he).2.2);have h2:=D6 1800 h.n.ne;omega
theorem Rf(h:FmL l):(l.2.1.flatMap (tbT l)).length<=400000:=by have h1:=qy (g:=tbT l) (B:=40000) (l:=l.2.1) (λt ht=>a6m h ht);have h2:=D6 40000 h.n.nt;omega
theorem QS(h:FmL l):(l.2.2.flatMap (scT l)).length<=724000000:=by have h1:=qy (g:=scT l) (B:=181000000) (l:=l.2.2) (λs hs=>a6d h hs);have h2:=D6 181000000 (zY h.v).1;omega
def foS(l:au):List UInt8×V4:=l7 (C9 (nP l).1 0) (l7 (H9 65536 (o8 (txL l))) ([],4,0,0,0) (txL l,0,0,0,0)) ([],nP l)
section
variable {l:au} (h:FmL l)
include h
theorem b0N{i:Nat}{s:N8}(hs:l.2.2[i]? =some s)(acc:List UInt8)(ha:acc.length+(scT l s).length<=1000000000)(hi:i<=1000000):
  (l9 (Y3 [115,99,111,112,101] [s.1]) λ(x_2:List UInt8)=>
          l9 (dZ acc x_2) λ(x_3:Int×PUnit×List UInt8)=>
           l9
            (l7 (U3 0 s.2.1)
             (l9 (J9 l.2.2 s.2.1) λ(x:N8)=>
              l9 (Y3 [109,101,109,98,101,114,115] [x.1]) λ(x:List UInt8)=>
               l9 (dZ x_3.2.2 x) λ(x:Int×PUnit×List UInt8)=>some x.2.2)
             (some x_3.2.2))
            λ(x_4:List UInt8)=>
            l9
             (aS
              (λ(x:List UInt8×Int)=>
               l7 (H9 x.2 (o8 s.2.2.1))
                (l9 (J9 s.2.2.1 x.2) λ(x_5:dW)=>
                 l9 (iy x_5.2 l.1) λ(x_6:List UInt8)=>
                  l9 (Y3 [105,110,112,117,116] [x_5.1,x_6])
                   λ(x_7:List UInt8)=>
                   l9 (dZ x.1 x_7) λ(x_8:Int×PUnit×List UInt8)=>
                    some (Sum.inl (x_8.2.2,F9 IntKind.i64 x.2 1)))
                (some (Sum.inr x.1)))
              (x_4,0))
             λ(y:List UInt8)=>
             l9
              (aS
               (λ(x:List UInt8×Int)=>
                l7 (H9 x.2 (o8 s.2.2.2.1))
                 (l9 (J9 s.2.2.2.1 x.2) λ(x_5:dW)=>
                  l9 (iy x_5.2 l.1) λ(x_6:List UInt8)=>
                   l9 (Y3 [100,101,102] [x_5.1,x_6]) λ(x_7:List UInt8)=>
                    l9 (dZ x.1 x_7) λ(x_8:Int×PUnit×List UInt8)=>
                     some (Sum.inl (x_8.2.2,F9 IntKind.i64 x.2 1)))
                 (some (Sum.inr x.1)))
               (y,0))
              λ(y:List UInt8)=>
              l9 (lQ l (i:Int)) λ(x_5:F5)=>
               l9
                (aS
                 (λ(x:List UInt8×Int)=>
                  l7 (H9 x.2 (o8 s.2.2.2.2))
                   (l9 (J9 s.2.2.2.2 x.2) λ(x_6:bM)=>
                    l9 (mQ s x_6 x_5) λ(x_7:List UInt8)=>
                     l9 (dZ x.1 x_7) λ(x_8:Int×PUnit×List UInt8)=>
                      some (Sum.inl (x_8.2.2,F9 IntKind.i64 x.2 1)))
                   (some (Sum.inr x.1)))
                 (y,0))
                λ(y:List UInt8)=>some (Sum.inl (y,F9 IntKind.i64 (i:Int) 1)))
  =some ((Sum.inl (acc++scT l s,((i+1:Nat):Int)):(List UInt8×Int)⊕List UInt8)):=by
 have hm:=oC hs;have hV:=(zY h.v).2 i s hs;have hH:=Vg h hm;have hM:=YA h hm;have hF:=Uu h hm;have hR:=Ve h hm;obtain⟨n1,n2,n3,n4,n5,n6⟩:=h.n.s s hm;have ha' :acc.length+((scH s).length+(meT l s).length+(s.2.2.1.flatMap (fdT yx l)).length+(s.2.2.2.1.flatMap (fdT MR l)).length+(s.2.2.2.2.flatMap (ruT l s)).length)<=1000000000:=by unfold scT at ha;simp only[D9]at ha;omega
 have e1:Y3 [115,99,111,112,101] [s.1]=some (scH s):=BD (f:=Rw) I5 A8 (l1k o5 hH.1);rw[e1,o9,Fh o5,o9];have e2:(l7 (U3 0 s.2.1)
             (l9 (J9 l.2.2 s.2.1) λ(x:N8)=>
              l9 (Y3 [109,101,109,98,101,114,115] [x.1]) λ(x:List UInt8)=>
               l9 (dZ (acc++scH s) x) λ(x:Int×PUnit×List UInt8)=>some x.2.2)
             (some (acc++scH s)))=some (acc++scH s++meT l s):=by
  unfold meT;rcases hV.mb with hm1|⟨p,q,e,-,hq⟩
  .rw[hm1];simp[U3]
  .have e3:J9 l.2.2 s.2.1=some q:=by rw[e,J3];exact hq
   have e4:meN l s=q.1:=by unfold meN;rw[e3];rfl
   have e5:Y3 [109,101,109,98,101,114,115] [q.1]=some (lnS xC [q.1]):=BD (f:=xC) I5 A8 (λw hw=>by rw[gy.1 hw,←e4];omega);have e6:U3 0 s.2.1=true:=by rw[e];exact bT o5
   have e7:(meT l s).length=(lnS xC [q.1]).length:=by unfold meT;rw[e6,e4];rfl
   rw[e6,o7,e3,o9,e5,o9,Fh H7,o9,e4];rfl
 rw[e2,o9];refine ou s.2.2.1 (fdT yx l) o5 _ (by simp only[D9];omega) (λj f b hf hj hb=>?_) (λb=>by simp only[N9,o6]) ?_
 .have hfm:=oC hf;have hv:=(hV.ins j f hf).ty;have hl:=Hf h (w:=yx) I5 (n4 f hfm);have e3:Y3 [105,110,112,117,116] [f.1,tyS f.2 l.1]=some (fdT yx l f):=BD (f:=yx) I5 A8 (l1k o5 hl.1);simp only[O0 hf,o7,J3,hf,o9,a0g hv,e3,Fh hb,bY (show j<=9000000000000000000 by omega)]
 refine ou s.2.2.2.1 (fdT MR l) o5 _ (by simp only[D9];omega) (λj f b hf hj hb=>?_) (λb=>by simp only[N9,o6]) ?_
 .have hfm:=oC hf;have hv:=(hV.defs j f hf).ty;have hl:=Hf h (w:=MR) I5 (n5 f hfm);have e3:Y3 [100,101,102] [f.1,tyS f.2 l.1]=some (fdT MR l f):=BD (f:=MR) I5 A8 (l1k o5 hl.1);simp only[O0 hf,o7,J3,hf,o9,a0g hv,e3,Fh hb,bY (show j<=9000000000000000000 by omega)]
 rw[a2p h.n (k:=(i:Int)) (by rw[J3];exact hs),o9];refine ou s.2.2.2.2 (ruT l s) o5 _ (by simp only[D9];omega) (λj r b hr hj hb=>?_) (λb=>by simp only[N9,o6]) ?_
 .obtain⟨a1,a2,⟨k,a3⟩,a4⟩:=YV h hm (oC hr);have e3:mQ s r (nmS l s)=some (ruT l s r):=a5P a3 a1 a2;simp only[O0 hr,o7,J3,hr,o9,e3,Fh hb,bY (show j<=9000000000000000000 by omega)]
 rw[bY o5];unfold scT;simp only[F6]
end
end
section
theorem a7o{a:List UInt8}(h:a.length<=1000000000):rM a=some (a,a):=by unfold rM;rw[if_pos o5]
variable {l:au}
theorem a0A(hS:SmL l)(h:(nP l).1=0->FmL l):kY l=some (foS l):=by
 unfold kY foS;rw[XE hS,o9];cases g:C9 (nP l).1 0
 .simp only[ae,o7,o6]
 simp only[O7,o7,o6];have h:=h (jC.1 g);have hE:=SS h;have hT:=Rf h;have hC:=QS h;refine ou l.1 enT (by have:=h.n.ne;omega) _ (by simp only[J7];omega) (λj e b he hj hb=>?_) (λb=>by simp only[N9,o6]) ?_
 .obtain⟨a1,a2,a3⟩:=Ur h (oC he);have hle:bF [e.1] e.2=some (e.1::e.2):=by rw[uP (by simp only[D7,J7]at a2 ⊢;omega)];rfl
  have e3:Y3 [101,110,117,109] (e.1::e.2)=some (enT e):=BD (f:=XF) I5 o5 (l1k o5 a1);simp only[O0 he,o7,J3,he,o9,hle,e3,Fh hb,bY (show j<=9000000000000000000 by omega)]
 refine ou l.2.1 (tbT l) (by have:=h.n.nt;omega) _ (by simp only[E9];omega) (λj t b ht hj hb=>?_) (λb=>by simp only[N9,o6]) ?_
 .have hm:=oC ht;have hV:=(MQ h.v).2 j t ht;have h3:=tb3 h hm;have hl:(tbH l t).length+(t.2.2.2.flatMap (roT l t)).length=(tbT l t).length:=by unfold tbT;rw[D9]
  have e3:Y3 [116,97,98,108,101] [t.1,tyS t.2.1 l.1,tyS t.2.2.1 l.1]=some (tbH l t):=BD (f:=Rx) I5 A8 (l1k o5 h3);simp only[O0 ht,o7,J3,ht,o9,a0g hV.vk,a0g hV.vv,e3];rw[Fh o5,o9];refine ou t.2.2.2 (roT l t) (by have:=hV.le;omega) _ (by simp only[D9];omega) (λi r c hr hi hc=>?_) (λb=>by simp only[N9,o6]) ?_
  .obtain⟨i1,i2,i3⟩:=UZ h hm (oC hr);have e4:qQ t r l.1=some (roT l t r):=a7F (Ux h) i1 i2 i3;simp only[O0 hr,o7,J3,hr,o9,e4,Fh hc,bY (show i<=9000000000000000000 by omega)]
  .rw[bY o5];unfold tbT;simp only[F6]
 refine ou l.2.2 (scT l) (by have:=(zY h.v).1;omega) _ (by simp only[D9,E9];omega) (λj s b hs hj hb=>?_) (λb=>by simp only[N9,o6]) ?_
 .simp only[O0 hs,o7,J3,hs,o9];exact b0N h hs b hb hj
 .have e5:[]++l.1.flatMap enT++l.2.1.flatMap (tbT l)++l.2.2.flatMap (scT l)=txL l:=rfl;rw[e5];have e6:(txL l).length<=1000000000:=by unfold txL;simp only[D9];omega
  unfold Ju;rw[o9,a7o e6];simp only[o9];show l7 (H9 65536 (o8 (txL l))) _ _=_;cases H9 65536 (o8 (txL l))<;>rfl
theorem Gs{a x:List UInt8}(h:a.length+x.length<=1000000000):P5 a x=some (a++x):=L6 o5
section
variable {l:au} (h:FmL l)
include h
theorem a7E{i:Nat}{s:N8}(hs:l.2.2[i]? =some s)(acc:List UInt8)(ha:acc.length+(scT l s).length<=1000000000)(hi:i<=1000000):
  (l9 (bf [[115,99,111,112,101],s.1]) λ(x_2:List UInt8)=>
          l9 (P5 acc x_2) λ(x_3:List UInt8)=>
           l9
            (l7 (U3 0 s.2.1)
             (l9 (J9 l.2.2 s.2.1) λ(x:N8)=>
              l9 (bf [[109,101,109,98,101,114,115],x.1]) λ(x:List UInt8)=>
               l9 (P5 x_3 x) λ(x:List UInt8)=>some x)
             (some x_3))
            λ(x_4:List UInt8)=>
            l9
             (aS
              (λ(x:List UInt8×Int)=>
               l7 (H9 x.2 (o8 s.2.2.1))
                (l9 (J9 s.2.2.1 x.2) λ(x_5:dW)=>
                 l9 (J9 s.2.2.1 x.2) λ(x_6:dW)=>
                  l9 (jM x_6.2 l) λ(x_7:List UInt8)=>
                   l9 (bf [[105,110,112,117,116],x_5.1,x_7])
                    λ(x_8:List UInt8)=>
                    l9 (P5 x.1 x_8) λ(x_9:List UInt8)=>
                     some (Sum.inl (x_9,F9 IntKind.i64 x.2 1)))
                (some (Sum.inr x.1)))
              (x_4,0))
             λ(y:List UInt8)=>
             l9
              (aS
               (λ(x:List UInt8×Int)=>
                l7 (H9 x.2 (o8 s.2.2.2.1))
                 (l9 (J9 s.2.2.2.1 x.2) λ(x_5:dW)=>
                  l9 (J9 s.2.2.2.1 x.2) λ(x_6:dW)=>
                   l9 (jM x_6.2 l) λ(x_7:List UInt8)=>
                    l9 (bf [[100,101,102],x_5.1,x_7]) λ(x_8:List UInt8)=>
                     l9 (P5 x.1 x_8) λ(x_9:List UInt8)=>
                      some (Sum.inl (x_9,F9 IntKind.i64 x.2 1)))
                 (some (Sum.inr x.1)))
               (y,0))
              λ(y:List UInt8)=>
              l9
               (aS
                (λ(x_5:List UInt8×Int)=>
                 l7 (H9 x_5.2 (o8 s.2.2.2.2))
                  (l9 (J9 s.2.2.2.2 x_5.2) λ(x_6:bM)=>
                   l9 (yj l (i:Int) x_6) λ(x:List UInt8)=>
                    l9 (P5 x_5.1 x) λ(x:List UInt8)=>
                     some (Sum.inl (x,F9 IntKind.i64 x_5.2 1)))
                  (some (Sum.inr x_5.1)))
                (y,0))
               λ(y:List UInt8)=>some (Sum.inl (y,F9 IntKind.i64 (i:Int) 1)))
  =some ((Sum.inl (acc++scT l s,((i+1:Nat):Int)):(List UInt8×Int)⊕List UInt8)):=by
 have hm:=oC hs;have hV:=(zY h.v).2 i s hs;have hH:=Vg h hm;have hM:=YA h hm;have hF:=Uu h hm;have hR:=Ve h hm;obtain⟨n1,n2,n3,n4,n5,n6⟩:=h.n.s s hm;have hsl:J9 l.2.2 (i:Int)=some s:=by rw[J3];exact hs
 have ha' :acc.length+((scH s).length+(meT l s).length+(s.2.2.1.flatMap (fdT yx l)).length+(s.2.2.2.1.flatMap (fdT MR l)).length+(s.2.2.2.2.flatMap (ruT l s)).length)<=1000000000:=by unfold scT at ha;simp only[D9]at ha;omega
 have e1:bf [[115,99,111,112,101],s.1]=some (scH s):=yO (f:=Rw) I5 A8 (l1k o5 hH.1);rw[e1,o9,Gs o5,o9];have e2:(l7 (U3 0 s.2.1)
             (l9 (J9 l.2.2 s.2.1) λ(x:N8)=>
              l9 (bf [[109,101,109,98,101,114,115],x.1]) λ(x:List UInt8)=>
               l9 (P5 (acc++scH s) x) λ(x:List UInt8)=>some x)
             (some (acc++scH s)))=some (acc++scH s++meT l s):=by
  unfold meT;rcases hV.mb with hm1|⟨p,q,e,-,hq⟩
  .rw[hm1];simp[U3]
  .have e3:J9 l.2.2 s.2.1=some q:=by rw[e,J3];exact hq
   have e4:meN l s=q.1:=by unfold meN;rw[e3];rfl
   have e5:bf [[109,101,109,98,101,114,115],q.1]=some (lnS xC [q.1]):=yO (f:=xC) I5 A8 (λw hw=>by rw[gy.1 hw,←e4];omega);have e6:U3 0 s.2.1=true:=by rw[e];exact bT o5
   have e7:(meT l s).length=(lnS xC [q.1]).length:=by unfold meT;rw[e6,e4];rfl
   rw[e6,o7,e3,o9,e5,o9,Gs H7,o9,e4];rfl
 rw[e2,o9];refine ou s.2.2.1 (fdT yx l) o5 _ (by simp only[D9];omega) (λj f b hf hj hb=>?_) (λb=>by simp only[N9,o6]) ?_
 .have hfm:=oC hf;have hv:=(hV.ins j f hf).ty;have hl:=Hf h (w:=yx) I5 (n4 f hfm);have e3:bf [[105,110,112,117,116],f.1,tyS f.2 l.1]=some (fdT yx l f):=yO (f:=yx) I5 A8 (l1k o5 hl.1);simp only[O0 hf,o7,J3,hf,o9,Va hv,e3,Gs hb,bY (show j<=9000000000000000000 by omega)]
 refine ou s.2.2.2.1 (fdT MR l) o5 _ (by simp only[D9];omega) (λj f b hf hj hb=>?_) (λb=>by simp only[N9,o6]) ?_
 .have hfm:=oC hf;have hv:=(hV.defs j f hf).ty;have hl:=Hf h (w:=MR) I5 (n5 f hfm);have e3:bf [[100,101,102],f.1,tyS f.2 l.1]=some (fdT MR l f):=yO (f:=MR) I5 A8 (l1k o5 hl.1);simp only[O0 hf,o7,J3,hf,o9,Va hv,e3,Gs hb,bY (show j<=9000000000000000000 by omega)]
 refine ou s.2.2.2.2 (ruT l s) o5 _ (by simp only[D9];omega) (λj r b hr hj hb=>?_) (λb=>by simp only[N9,o6]) ?_
 .obtain⟨a1,a2,-,a4⟩:=YV h hm (oC hr);have e3:yj l (i:Int) r=some (ruT l s r):=a3s h.n hsl (hV.rules j r hr) a1 a2;simp only[O0 hr,o7,J3,hr,o9,e3,Gs hb,bY (show j<=9000000000000000000 by omega)]
 rw[bY o5];unfold scT;simp only[F6]
end
theorem YU(hS:SmL l)(h:(nP l).1=0->FmL l):zD l=some (foS l):=by
 unfold zD foS;rw[UM hS,o9];cases g:C9 (nP l).1 0
 .simp only[ae,o7,o6]
 simp only[O7,o7,o6];have h:=h (jC.1 g);have hE:=SS h;have hT:=Rf h;have hC:=QS h;refine ou l.1 enT (by have:=h.n.ne;omega) _ (by simp only[J7];omega) (λj e b he hj hb=>?_) (λb=>by simp only[N9,o6]) ?_
 .obtain⟨a1,a2,a3⟩:=Ur h (oC he);have hle:bF [[101,110,117,109],e.1] e.2=some ([101,110,117,109]::e.1::e.2):=by rw[uP (by simp only[D7,J7]at a2 ⊢;omega)];rfl
  have e3:bf ([101,110,117,109]::e.1::e.2)=some (enT e):=yO (f:=XF) I5 o5 (l1k o5 a1);simp only[O0 he,o7,J3,he,o9,hle,e3,Gs hb,bY (show j<=9000000000000000000 by omega)]
 refine ou l.2.1 (tbT l) (by have:=h.n.nt;omega) _ (by simp only[E9];omega) (λj t b ht hj hb=>?_) (λb=>by simp only[N9,o6]) ?_
 .have hm:=oC ht;have hV:=(MQ h.v).2 j t ht;have h3:=tb3 h hm;have hl:(tbH l t).length+(t.2.2.2.flatMap (roT l t)).length=(tbT l t).length:=by unfold tbT;rw[D9]
  have e3:bf [[116,97,98,108,101],t.1,tyS t.2.1 l.1,tyS t.2.2.1 l.1]=some (tbH l t):=yO (f:=Rx) I5 A8 (l1k o5 h3);simp only[O0 ht,o7,J3,ht,o9,Va hV.vk,Va hV.vv,e3];rw[Gs o5,o9];refine ou t.2.2.2 (roT l t) (by have:=hV.le;omega) _ (by simp only[D9];omega) (λi r c hr hi hc=>?_) (λb=>by simp only[N9,o6]) ?_
  .obtain⟨i1,i2,i3⟩:=UZ h hm (oC hr);have e4:Dx t r l=some (roT l t r):=a5O (Ux h) i1 i2 i3;simp only[O0 hr,o7,J3,hr,o9,e4,Gs hc,bY (show i<=9000000000000000000 by omega)]
  .rw[bY o5];unfold tbT;simp only[F6]
 refine ou l.2.2 (scT l) (by have:=(zY h.v).1;omega) _ (by simp only[D9,E9];omega) (λj s b hs hj hb=>?_) (λb=>by simp only[N9,o6]) ?_
 .simp only[O0 hs,o7,J3,hs,o9];exact a7E h hs b hb hj
 .have e5:[]++l.1.flatMap enT++l.2.1.flatMap (tbT l)++l.2.2.flatMap (scT l)=txL l:=rfl;rw[e5];show l7 (H9 65536 (o8 (txL l))) _ _=_;cases H9 65536 (o8 (txL l))<;>rfl
theorem XM:fC=some true:=by decide+kernel
theorem a6B(h1:smL l=true)(hw:WfL l)(hv:(nP l).1=0):FmL l:=⟨hv,a7v h1 hw,hw⟩
theorem JI(hw:WfL l):uw l=some true:=by
 unfold uw
 rw[Xg,o9];simp only[XM,o9];cases h1:smL l
 case false=>rfl
 obtain⟨hS,-⟩:=a8m h1 hw;simp only[O7,o6];rw[a0A hS (a6B h1 hw),o9,YU hS (a6B h1 hw),o9];rw[Vh.2 rfl,bH rfl,bH rfl,bH rfl,bH rfl];rfl
end
end Go.GP
namespace Go.GP
open Gt
theorem Ji:∀x,XG Gt.ps3 x->(Gt.s3.fn x:Option Bool)=some true:=λx h=>JI (l:=x) (b7m h)
end Go.GP
