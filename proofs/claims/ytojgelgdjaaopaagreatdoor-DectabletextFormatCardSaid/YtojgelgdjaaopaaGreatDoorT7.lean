import Derived.Test.YtojgelgdjaaopaaGreatDoorT5
import Derived.Test.YtojgelgdjaaopaaGreatDoorT6
set_option linter.all false
namespace Go.GP
open Gt
set_option maxRecDepth 100000
section
theorem a0D{a:List dL}(h:a.length<=1000000)(h2:∀e∈a,e.2.length<=1000000):rD a=some a:=by
 unfold rD;refine O6 (Xx a (λe=>e) h (F:=λx=>x) (λi e acc he hi=>?_) (λacc=>?_)) ?_
 rotate_left 2
 .rw[o8,List.map_id']
 .have hlt:=(ax.1 he).1;simp only[O0 he,o7,J7,he,o8,Xf (h2 e (oV he))];rw[kw _ o5];rfl
 .simp only[N9 a,o6]
theorem Xw{l:List jh}(h:l.length<=1000000):je l=some (l.map (·.1)):=by
 unfold je;refine O6 (Xx l (λ(f:jh)=>f.1) h (F:=λx=>x) (λi e acc he hi=>?_) (λacc=>?_)) ?_
 rotate_left 2
 .rfl
 .have hlt:=(ax.1 he).1;simp only[O0 he,o7,J7,he,o8];rw[kw _ o5];rfl
 .simp only[N9 l,o6]
def nmS(l:dJ)(s:P5):D9:=(l.1,l.2.1.map (·.1),s.2.2.1.map (·.1),s.2.2.2.1.map (·.1),l7 (O9 0 s.2.1) (match J9 l.2.2 s.2.1 with|some q=>q.2.2.2.1.map (·.1)|none=>[]) [])
structure NmL (l:dJ):Prop where
 ne:l.1.length<=9
 nt:l.2.1.length<=9
 e:∀e∈l.1,e.2.length<=20/\e.1.length<=80/\∀m∈e.2,m.length<=80
 t:∀t∈l.2.1,t.1.length<=80
 s:∀s∈l.2.2,s.2.2.1.length<=14/\s.2.2.2.1.length<=14/\s.2.2.2.2.length<=60/\(∀f∈s.2.2.1,f.1.length<=80)/\(∀f∈s.2.2.2.1,f.1.length<=80)/\∀r∈s.2.2.2.2,r.1.length<=80
variable {l:dJ}
theorem a6A(h:smL l=true)(hW:WfL l):NmL l:=by
 unfold smL at h;obtain⟨h1,h⟩:=zi h;obtain⟨h2,h⟩:=zi h;obtain⟨h3,h⟩:=zi h;obtain⟨h4,h⟩:=zi h;cases ht:fV tG l.2.1 0 with
 |inr r=>rw[ht]at h;cases h|inl b=>
  rw[ht]at h;simp only at h;cases hs:fV sG l.2.2 0 with
  |inr r=>rw[hs]at h;cases h|inl b' =>
   have T:=YH l.2.1 0 b o5 o5 hW.rl ht;have S:=Yp l.2.2 0 b' o5 o5 hW.sl hs;refine⟨bi (n:=9) h1,bi (n:=9) h2,λe he=>?_,λt ht=>(T t ht).1,λs hs=>?_⟩
   .have hl:=Et h4 e he;unfold Sl at hl;cases g1:H6 80 (o9 e.1)<;>rw[g1]at hl
    case true=>cases hl
    cases g2:H6 20 (o9 e.2)<;>rw[g2]at hl
    case true=>cases hl
    refine⟨bi (n:=20) g2,bi (n:=80) g1,λm hm=>?_⟩;have:=Et (p:=λm=>H6 80 (o9 m)) hl m hm;exact bi (n:=80) this
   .have h:=S s hs;unfold smS at h;obtain⟨a1,h⟩:=zi h;obtain⟨a2,h⟩:=zi h;obtain⟨a3,h⟩:=zi h;obtain⟨a4,h⟩:=zi h;obtain⟨a5,h⟩:=zi h;obtain⟨a6,h⟩:=zi h;have a7:s.2.2.2.2.any Ha=false:=by revert h;cases s.2.2.2.2.any Ha<;>intro h<;>first|rfl|cases h
    refine⟨bi (n:=14) a2,bi (n:=14) a3,bi (n:=60) a4,λf hf=>bi (n:=80) (Et a5 f hf),λf hf=>bi (n:=80) (Et a6 f hf),λr hr=>?_⟩;have hl:=Et a7 r hr;unfold Ha at hl;cases g1:H6 80 (o9 r.1)<;>rw[g1]at hl
    case true=>cases hl
    exact bi (n:=80) g1
variable {s:P5}
theorem a6B(h:NmL l)(hs:s∈l.2.2):NmOk (nmS l s):=by
 obtain⟨s1,s2,s3,s4,s5,s6⟩:=h.s s hs;refine⟨λe he=>?_,λx hx=>?_,λx hx=>?_,λx hx=>?_,λx hx=>?_⟩
 .have:=h.e e he;exact⟨o5,λm hm=>by have:=this.2.2 m hm;omega⟩
 .obtain⟨t,ht,rfl⟩:=iC.1 hx;have:=h.t t ht;omega
 .obtain⟨f,hf,rfl⟩:=iC.1 hx;have:=s4 f hf;omega
 .obtain⟨f,hf,rfl⟩:=iC.1 hx;have:=s5 f hf;omega
 .unfold nmS at hx;simp only at hx;cases g:O9 0 s.2.1<;>rw[g]at hx
  .cases hx
  .simp only[o7]at hx;split at hx
   .rename_i q hq;obtain⟨f,hf,rfl⟩:=iC.1 hx;have:=(h.s q (jd hq).2.2.1).2.2.2.2.1 f hf;omega
   .cases hx
theorem SK(h:NmL l){k:Int}(hs:J9 l.2.2 k=some s):jB l k=some (nmS l s):=by
 obtain⟨k0,k1,hm,-⟩:=jd hs;obtain⟨s1,s2,-⟩:=h.s s hm;have nt:=h.nt;unfold jB;rw[au k0,aU k1,o6,o6,o8,U1,hs,o8,Xw o5,o8,Xw o5,o8];refine mX l.2.1 (λ(b:D9) (t:kF)=>((b.1,b.2.1++[t.1],b.2.2):D9)) (λb i=>(b,i)) (λb=>b) (λi b=>b.2.1.length=i) (l.1,[],s.2.2.1.map (·.1),s.2.2.2.1.map (·.1),[]) o5 rfl (λi t b hx hi hI=>?_) (λb _=>?_) (λ_=>?_)
 .have hlt:=(ax.1 hx).1;simp only[O0 hx,o7,J7,hx,o8];rw[kw _ o5,o8,dn o5];exact⟨rfl,by simp;omega⟩
 .simp only[N9 l.2.1,o6]
 .have e:∀(L:List kF) (b:D9),L.foldl (λ(b:D9) (t:kF)=>((b.1,b.2.1++[t.1],b.2.2):D9)) b=(b.1,b.2.1++L.map (·.1),b.2.2):=by
   intro L;induction L with
   |nil=>intro b;simp|cons t L ih=>intro b;rw[X8,ih];simp
  rw[e];unfold nmS;cases g:O9 0 s.2.1
  .simp[l7]
  .by_cases g2:s.2.1<o9 l.2.2
   .obtain⟨q,hq,hmq⟩:=oZ (qc.1 g) g2;have:=(h.s q hmq).2.1;rw[bg g2,hq];simp only[o7,o8];rw[Xw o5,o8];simp
   .rw[au (qA.1 g2)];have:J9 l.2.2 s.2.1=none:=by
     cases hq:J9 l.2.2 s.2.1 with
     |none=>rfl|some q=>exact absurd (jd hq).2.1 g2
    rw[this];simp[l7]
theorem a1g(h:NmL l){k:Int}(hs:J9 l.2.2 k=some s):nO l k=some (nmS l s):=by rw[Qu (a0D (by have:=h.ne;omega) (λe he=>by have:=(h.e e he).1;omega)) k];exact SK h hs
def smT(t:X5):Bool:=l7 (H6 10 (o9 t.2.1)) false (l7 (H6 20 (o9 t.2.2.1)) false (l7 (H6 60 (o9 t.2.2.2)) false (G7 (t.2.1.any λe=>H6 60 (o9 e)))))
theorem Yt(t:X5):AV t=some (smT t):=by
 unfold AV smT;cases h1:H6 10 (o9 t.2.1)
 case true=>rfl
 cases h2:H6 20 (o9 t.2.2.1)
 case true=>rfl
 cases h3:H6 60 (o9 t.2.2.2)
 case true=>rfl
 have l1:=bi (n:=10) h1;simp only[o6,o8,U1];refine O6 (yB t.2.1 (λe=>H6 60 (o9 e)) false PUnit.unit o5 (λi a ha=>?_) ?_) ?_
 rotate_left 2
 .cases t.2.1.any λe=>H6 60 (o9 e)<;>rfl
 .simp only[O0 ha,o7,J7,ha,o8];cases H6 60 (o9 a)<;>rfl
 .rw[N9];rfl
def SzT(t:X5):Prop:=t.2.1.length<=10/\t.2.2.1.length<=20/\t.2.2.2.length<=10000
theorem a7o{t:X5}(h:smT t=true):t.2.1.length<=10/\t.2.2.1.length<=20/\t.2.2.2.length<=60/\∀e∈t.2.1,e.length<=60:=by
 unfold smT at h;obtain⟨a1,h⟩:=zi h;obtain⟨a2,h⟩:=zi h;obtain⟨a3,h⟩:=zi h;have a4:(t.2.1.any λe=>H6 60 (o9 e))=false:=by revert h;cases (t.2.1.any λe=>H6 60 (o9 e))<;>intro h<;>first|rfl|cases h
 exact⟨bi (n:=10) a1,bi (n:=20) a2,bi (n:=60) a3,λe he=>bi (n:=60) (Et a4 e he)⟩
theorem a2I{t:X5}(h:smT t=true):SzT t:=by obtain⟨a,b,c,-⟩:=a7o h;exact⟨a,b,o5⟩
abbrev UO:Type:=List UInt8×Int
def ruB(s:P5)(r:Int):Bool:=l7 (O9 0 r) (H6 r (o9 s.2.2.2.2)) false
def ruN(s:P5)(r:Int):List UInt8:=((J9 s.2.2.2.2 r).map (·.1)).getD []
theorem ZQ{r:Int}(h:ruB s r=true):H6 r 0=false/\O9 (o9 s.2.2.2.2) r=false/\O9 0 r=true/\H6 r (o9 s.2.2.2.2)=true/\∃q,J9 s.2.2.2.2 r=some q/\q.1=ruN s r/\q∈s.2.2.2.2:=by
 unfold ruB at h;cases h1:O9 0 r<;>rw[h1]at h
 .cases h
 rw[o7]at h;have a:=qc.1 h1;have b:=su.1 h;obtain⟨q,hq,hm⟩:=oZ a b;exact⟨au a,aU b,rfl,h,q,hq,by unfold ruN;rw[hq];rfl,hm⟩
theorem a5P{r:Int}(h:ruB s r=false):H6 r 0=true\/(H6 r 0=false/\O9 (o9 s.2.2.2.2) r=true):=by
 unfold ruB at h;by_cases h1:0<=r
 .rw[ah h1,o7]at h;exact .inr ⟨au h1,ah (tN.1 h)⟩
 .exact .inl (bg o5)
def a3M(s:P5)(r:Int)(t:List UInt8):List UInt8:=[119,104,101,110,32]++ruN s r++[32]++t++[10]
abbrev FmF:Type:=List (Int×Int)->D9->List UInt8×Int
def Gx(F:FmF)(s:P5)(N:D9)(t:List UInt8)(x:List (Int×Int)×Int):List UInt8⊕UO:=
 l7 (ruB s x.2) (l7 (C9 (F x.1 N).2 0) (.inl (t++a3M s x.2 (F x.1 N).1)) (.inr ([],(F x.1 N).2))) (.inr ([],6))
def MB(p:Int×Int)(n:Int):List UInt8:=l7 (H6 0 n) (XR p n) [46]
def Ud(s:P5)(o:Int):List UInt8:=l7 (C9 o (-1)) [110,111,110,101] (l7 (C9 o (-2)) [99,111,110,102,108,105,99,116] ([114,117,108,101,32]++ruN s o))
def Ux(s:P5)(r:az)(n:Int):List UInt8:=[114,111,119,32]++MB r.1 n++[32]++Ud s r.2++[10]
def PK(s:P5)(o:Int):Bool:=l7 (C9 o (-1)) true (l7 (C9 o (-2)) true (ruB s o))
def Qc(s:P5)(n:Int)(r:az):Int:=l7 (tvS r.1 n) (l7 (PK s r.2) 0 6) 3
def Uw(s:P5)(n:Int)(t:List UInt8)(r:az):List UInt8⊕UO:=l7 (C9 (Qc s n r) 0) (.inl (t++Ux s r n)) (.inr ([],Qc s n r))
def Yg(s:P5)(n:Int)(t:List UInt8)(r:az):List UInt8⊕UO:=l7 (C9 (Qc s n r) 0) (.inl (l7 (O9 (o9 t) 65536) (t++Ux s r n) t)) (.inr ([],Qc s n r))
theorem Gs(h:∀r∈s.2.2.2.2,r.1.length<=80)(o:Int):(ruN s o).length<=80:=by
 unfold ruN;cases hq:J9 s.2.2.2.2 o with
 |none=>simp|some q=>exact h q (jd hq).2.2.1
theorem VM(h:∀r∈s.2.2.2.2,r.1.length<=80)(o:Int):(Ud s o).length<=90:=by have:=Gs h o;unfold Ud;cases C9 o (-1)<;>cases C9 o (-2)<;>simp[l7]<;>omega
theorem KI(p:Int×Int)(n:Int):(MB p n).length<=8:=by
 have:=a4w p n;unfold MB;cases H6 0 n
 .simp[l7]
 .exact this
theorem Qd(h:∀r∈s.2.2.2.2,r.1.length<=80)(r:az)(n:Int):1<=(Ux s r n).length/\(Ux s r n).length<=110:=by have h1:=VM h r.2;have h2:=KI r.1 n;unfold Ux;simp;omega
theorem Yf(h:∀r∈s.2.2.2.2,r.1.length<=80){r:az}(hI:lL r.1.2)(n:Int):kG s r n=some (l7 (C9 (Qc s n r) 0) (Ux s r n,0) ([],Qc s n r)):=by
 have hl:=KI r.1 n;have ho:=Gs h r.2;unfold kG Qc;rw[a6j,o8];cases ht:tvS r.1 n
 .rfl
 have hp:(l7 (H6 0 n) (l9 (rW r.1 n) λ(x:List UInt8)=>some x) (some [46]))=some (MB r.1 n):=by
  unfold MB;cases H6 0 n
  .rfl
  .rw[a6H hI ht];rfl
 simp only[I7,o6,o7];rw[hp,o8];unfold PK Ux Ud;cases h1:C9 r.2 (-1)
 case true=>simp only[o7,Z9 (rfl:(0:Int)=0)];rw[G5 E5,o8,G5 E5,o8];simp
 cases h2:C9 r.2 (-2)
 case true=>simp only[o7,o6,Z9 (rfl:(0:Int)=0)];rw[G5 E5,o8,G5 E5,o8];simp
 simp only[o6];cases h3:ruB s r.2
 .unfold ruB at h3;cases h4:O9 0 r.2
  .rfl
  .rw[h4,o7]at h3;rw[h3];rfl
 .obtain⟨a1,a2,a3,a4,q,a5,a6,a7⟩:=ZQ h3;rw[a3,a4,a5];simp only[o7,Z9 (rfl:(0:Int)=0),o8];rw[G5 E5,o8,G5 E5,o8,a6,G5 E5,o8,G5 E5,o8];simp
theorem Wh{s:P5}(h:∀r∈s.2.2.2.2,r.1.length<=80)(n:Int):∀(L:List az) (a b:List UInt8),a=b\/(65536<o9 a/\65536<o9 b)->
  (∃c,fV (Yg s n) L a= .inr c/\fV (Uw s n) L b= .inr c)\/∃x y,fV (Yg s n) L a= .inl x/\fV (Uw s n) L b= .inl y/\(x=y\/(65536<o9 x/\65536<o9 y))
 |[],a,b,hr=> .inr ⟨a,b,rfl,rfl,hr⟩|r::L,a,b,hr=>by
  unfold fV Yg Uw;cases C9 (Qc s n r) 0
  .exact .inl ⟨_,rfl,rfl⟩
  simp only[o7];refine Wh h n L _ _ ?_;have hl:=Qd h r n;rcases hr with rfl|⟨h1,h2⟩
  .by_cases g:o9 a<=65536
   .rw[ah g,o7];exact .inl rfl
   .rw[aU o5,o6];refine .inr ⟨o5,?_⟩;unfold o9 at g ⊢;simp;omega
  .rw[aU h1,o6];refine .inr ⟨h1,?_⟩;unfold o9 at h2 ⊢;simp;omega
end
section
def dfS(F:FmF)(l:dJ)(k:Int)(t:X5):UO:=
 l7 (C9 (BH l).1 0) (match J9 l.2.2 k with
  |none=>([],6)
  |some s=>match J9 s.2.2.2.1 t.1 with
   |none=>([],6)
   |some d=>l7 (H6 8 (o9 t.2.1)) ([],4) (l7 (C9 (o9 t.2.2.1) (o9 t.2.1)) (match fV (Gx F s (nmS l s)) (t.2.1.zip t.2.2.1) ([100,101,99,105,115,105,111,110,32]++d.1++[10])with
    | .inr r=>r
    | .inl b=>match fV (Uw s (o9 t.2.1)) t.2.2.2 b with
     | .inr r=>r
     | .inl y=>l7 (H6 65536 (o9 y)) ([],4) (y,0)) ([],2))) ([],1)
theorem TS{α:Type}{l:List α}{k:Int}(h:H6 k 0=true\/H6 k 0=false/\O9 (o9 l) k=true):J9 l k=none:=by
 cases hq:J9 l k with
 |none=>rfl|some q=>
  obtain⟨a,b,-,-⟩:=jd hq;rcases h with h|⟨-,h⟩
  .have:=su.1 h;omega
  .have:=qc.1 h;omega
structure WfT (t:X5):Prop where
 n:∀e∈t.2.1,∀n∈e,lL n.2
 r:∀r∈t.2.2.2,lL r.1.2
def a3O(F:FmF)(N:D9)(t:X5):Prop:=∀e∈t.2.1,lm e N=some (F e N)/\(F e N).1.length<=150000
theorem b6v{α β:Type}{a:List α}{b:List β}{i:Nat}{x:α×β}(h:(a.zip b)[i]? =some x):a[i]? =some x.1/\b[i]? =some x.2:=by rw[List.getElem?_zip_eq_some]at h;exact h
theorem Ol{F:FmF}{s:P5}{N:D9}(hs:∀r∈s.2.2.2.2,r.1.length<=80){t t' :List UInt8}{x:List (Int×Int)×Int}(h1:(F x.1 N).1.length<=150000)(h:Gx F s N t x= .inl t'):t'.length<=t.length+151000:=by
 unfold Gx at h;have h2:=Gs hs x.2;cases g1:ruB s x.2<;>rw[g1]at h
 .cases h
 cases g2:C9 (F x.1 N).2 0<;>rw[g2]at h
 .cases h
 simp only[o7]at h;cases h;unfold a3M;simp;omega
section
variable {F:FmF} {l:dJ} {k:Int} {t:X5} {s:P5} (hL:NmL l) (hs:J9 l.2.2 k=some s) (hT:SzT t) (hF:a3O F (nmS l s) t) (hW:∀r∈t.2.2.2,lL r.1.2) (hlen:t.2.2.1.length=t.2.1.length)
include hL hs hT hF hW hlen
theorem U_(b:List UInt8)(hb:b.length<=1000):U0
                  (λ(x_7:List UInt8×Int)=>
                   l7 (H6 x_7.2 (o9 t.2.1))
                    (l9 (J9 t.2.1 x_7.2) λ(x_8:List I9)=>
                     l9 (J9 t.2.2.1 x_7.2) λ(x_9:Int)=>
                      l7 (H6 x_9 0) (some (Out.rt (([]:List UInt8),(6:Int))))
                       (l7 (O9 (o9 s.2.2.2.2) x_9) (some (Out.rt ([],6)))
                        (l9 (lm x_8 (nmS l s)) λ(x_10:List UInt8×Int)=>
                         l7 (G7 (C9 x_10.2 0)) (some (Out.rt ([],x_10.2)))
                          (l9 (J9 s.2.2.2.2 x_9) λ(x:iw)=>
                           l9 (J3 [119,104,101,110,32] x.1) λ(x:List UInt8)=>
                            l9 (J3 x [32]) λ(x:List UInt8)=>
                             l9 (J3 x x_10.1) λ(x:List UInt8)=>
                              l9 (J3 x [10]) λ(x:List UInt8)=>
                               l9 (jQ x_7.1 x)
                                λ(x:Int×PUnit×List UInt8)=>
                                some (Out.nx (x.2.2,F6 IntKind.i64 x_7.2 1))))))
                    (some (Out.ex x_7.1)))
                  (b,0)=some (fV (Gx F s (nmS l s)) (t.2.1.zip t.2.2.1) b):=by
 obtain⟨a1,a2,a3⟩:=hT;obtain⟨-,-,hm,-⟩:=jd hs;have hr:=(hL.s s hm).2.2.2.2.2;have hz:(t.2.1.zip t.2.2.1).length=t.2.1.length:=by rw[List.length_zip];omega
 refine Eq.trans (uI (t.2.1.zip t.2.2.1) (Gx F s (nmS l s)) (λb i=>(b,i)) (λb=>b) (λi b=>b.length<=1000+i*151000) o5 o5 (λi x b hx hi hI=>?_) (λb hI=>?_)).1 ?_
 .obtain⟨h1,h2⟩:=b6v hx;have hlt:=(ax.1 h1).1;obtain⟨hf1,hfl⟩:=hF x.1 (oV h1);refine⟨?_,λb' hb' =>by have:=Ol hr hfl hb';omega⟩;simp only[O0 h1,o7,J7,h1,h2,o8,hf1];unfold Gx;cases g1:ruB s x.2
  .rcases a5P g1 with g|⟨g,g'⟩
   .rw[g];rfl
   .rw[g,g'];rfl
  .obtain⟨b1,b2,b3,b4,q,b5,b6,b7⟩:=ZQ g1;have hq:=Gs hr x.2;simp only[b1,b2,b5,b6,o6,o7,o8];cases C9 (F x.1 (nmS l s)).2 0
   .rfl
   .simp only[I7,o6,o7];rw[G5 E5,o8,G5 E5,o8,G5 E5,o8,G5 E5,o8];unfold jQ;rw[if_pos E5,o8,dn o5];rfl
 .simp only;rw[hz,N9];rfl
 .cases fV (Gx F s (nmS l s)) (t.2.1.zip t.2.2.1) b<;>rfl
theorem a0I(hF2:∀e∈t.2.1,oh e (nmS l s)=some (F e (nmS l s)))(b:List UInt8)(hb:b.length<=1000):U0
            (λ(x_5:List UInt8×Int)=>
             l7 (H6 x_5.2 (o9 t.2.1))
              (l9 (J9 t.2.2.1 x_5.2) λ(x_6:Int)=>
               l9 (rH s x_6) λ(x_7:Bool)=>
                l7 (G7 x_7) (some (Out.rt (([]:List UInt8),(6:Int))))
                 (l9 (J9 t.2.1 x_5.2) λ(x_8:List I9)=>
                  l9 (jB l k) λ(x_9:D9)=>
                   l9 (oh x_8 x_9) λ(x_10:List UInt8×Int)=>
                    l7 (G7 (C9 x_10.2 0)) (some (Out.rt ([],x_10.2)))
                     (l9 (J3 x_5.1 [119,104,101,110,32]) λ(x_11:List UInt8)=>
                      l9 (J9 t.2.2.1 x_5.2) λ(x_12:Int)=>
                       l9 (J9 s.2.2.2.2 x_12) λ(x:iw)=>
                        l9 (J3 x_11 x.1) λ(x:List UInt8)=>
                         l9 (J3 x [32]) λ(x:List UInt8)=>
                          l9 (J3 x x_10.1) λ(x:List UInt8)=>
                           l9 (J3 x [10]) λ(x:List UInt8)=>
                            some (Out.nx (x,F6 IntKind.i64 x_5.2 1)))))
              (some (Out.ex x_5.1)))
            (b,0)=some (fV (Gx F s (nmS l s)) (t.2.1.zip t.2.2.1) b):=by
 obtain⟨a1,a2,a3⟩:=hT;obtain⟨-,-,hm,-⟩:=jd hs;have hr:=(hL.s s hm).2.2.2.2.2;have hz:(t.2.1.zip t.2.2.1).length=t.2.1.length:=by rw[List.length_zip];omega
 refine Eq.trans (uI (t.2.1.zip t.2.2.1) (Gx F s (nmS l s)) (λb i=>(b,i)) (λb=>b) (λi b=>b.length<=1000+i*151000) o5 o5 (λi x b hx hi hI=>?_) (λb hI=>?_)).1 ?_
 .obtain⟨h1,h2⟩:=b6v hx;have hlt:=(ax.1 h1).1;obtain⟨hf1,hfl⟩:=hF x.1 (oV h1);refine⟨?_,λb' hb' =>by have:=Ol hr hfl hb';omega⟩;simp only[O0 h1,o7,J7,h1,h2,o8,SK hL hs,hF2 x.1 (oV h1)];unfold rH Gx;cases g1:ruB s x.2
  .rcases a5P g1 with g|⟨g,g'⟩
   .rw[aU (su.1 g)];rfl
   .rw[ah (tN.1 g),o7,au (qc.1 g')];rfl
  .obtain⟨b1,b2,b3,b4,q,b5,b6,b7⟩:=ZQ g1;have hq:=Gs hr x.2;simp only[b3,b4,b5,b6,I7,o6,o7,o8];cases C9 (F x.1 (nmS l s)).2 0
   .rfl
   .simp only[I7,o6,o7];rw[G5 E5,o8,G5 E5,o8,G5 E5,o8,G5 E5,o8,G5 E5,o8,dn o5];unfold a3M;simp
 .simp only;rw[hz,N9];rfl
 .cases fV (Gx F s (nmS l s)) (t.2.1.zip t.2.2.1) b<;>rfl
theorem Vd{b b' :List UInt8}(hb:b.length<=1000)(h:fV (Gx F s (nmS l s)) (t.2.1.zip t.2.2.1) b= .inl b'):b'.length<=2000000:=by
 obtain⟨a1,a2,a3⟩:=hT;obtain⟨-,-,hm,-⟩:=jd hs;have hr:=(hL.s s hm).2.2.2.2.2;have key:∀(L:List (List (Int×Int)×Int)) (b:List UInt8),(∀x∈L,(F x.1 (nmS l s)).1.length<=150000)->fV (Gx F s (nmS l s)) L b= .inl b' ->b'.length<=b.length+L.length*151000:=by
  intro L;induction L with
  |nil=>intro b _ h;cases h;simp|cons x L ih=>
   intro b hx h;unfold fV at h;cases hg:Gx F s (nmS l s) b x with
   |inr r=>rw[hg]at h;cases h|inl c=>rw[hg]at h;have h1:=Ol hr (hx x x9) hg;have h2:=ih c (λy hy=>hx y (by simp[hy])) h;rw[H5,I4];omega
 have:=key _ b (λx hx=>by obtain⟨i,hi,rfl⟩:=bu hx;exact(hF _ (oV (b6v (lS hi)).1)).2) h
 have hz:(t.2.1.zip t.2.2.1).length<=10:=by rw[List.length_zip];omega
 have:(t.2.1.zip t.2.2.1).length*151000<=10*151000:=E9 _ hz;omega
theorem V_(b:List UInt8)(hb:b.length<=2000000):U0
                     (λ(x_7:List UInt8×Int)=>
                      l7 (H6 x_7.2 (o9 t.2.2.2))
                       (l9 (J9 t.2.2.2 x_7.2) λ(x_8:az)=>
                        l9 (kG s x_8 (o9 t.2.1))
                         λ(x:List UInt8×Int)=>
                         l7 (G7 (C9 x.2 0)) (some (Out.rt (([]:List UInt8),x.2)))
                          (l9 (zg x_7.1) λ(x_9:Int×List UInt8)=>
                           l7 (O9 x_9.1 65536)
                            (l9 (jQ x_9.2 x.1)
                             λ(x:Int×PUnit×List UInt8)=>
                             some (Out.nx (x.2.2,F6 IntKind.i64 x_7.2 1)))
                            (some (Out.nx (x_9.2,F6 IntKind.i64 x_7.2 1)))))
                       (some (Out.ex x_7.1)))
                     (b,0)=some (fV (Yg s (o9 t.2.1)) t.2.2.2 b):=by
 obtain⟨a1,a2,a3⟩:=hT;obtain⟨-,-,hm,-⟩:=jd hs;have hr:=(hL.s s hm).2.2.2.2.2;refine Eq.trans (uI t.2.2.2 (Yg s (o9 t.2.1)) (λb i=>(b,i)) (λb=>b) (λi b=>b.length<=2000000+i*200) o5 o5 (λi x b hx hi hI=>?_) (λb hI=>?_)).1 ?_
 .have hlt:=(ax.1 hx).1;have hrl:=Qd hr x (o9 t.2.1);simp only[O0 hx,o7,J7,hx,o8,Yf hr (hW x (oV hx)) (o9 t.2.1)];unfold Yg;cases hc:C9 (Qc s (o9 t.2.1) x) 0
  .simp only[o6,hc,Z7,o7];exact⟨trivial,λb' h=>by cases h⟩
  .simp only[o7,Z9 (rfl:(0:Int)=0),I7,o6];unfold zg;simp only[o8];rw[show((b.length:Nat):Int)=o9 b from rfl];cases O9 (o9 b) 65536
   .simp only[o6];rw[dn o5];exact⟨rfl,λb' h=>by cases h;omega⟩
   .simp only[o7];unfold jQ;rw[if_pos o5,o8,dn o5];exact⟨rfl,λb' h=>by cases h;simp;omega⟩
 .simp only[N9,o6]
 .cases fV (Yg s (o9 t.2.1)) t.2.2.2 b<;>rfl
theorem a0J(b:List UInt8)(hb:b.length<=2000000):U0
               (λ(x_5:List UInt8×Int)=>
                l7 (H6 x_5.2 (o9 t.2.2.2))
                 (l9 (J9 t.2.2.2 x_5.2) λ(x_6:az)=>
                  l9 (xQ x_6.1 (o9 t.2.1)) λ(x_7:Bool)=>
                   l7 (G7 x_7) (some (Out.rt (([]:List UInt8),(3:Int))))
                    (l7 (G7 (C9 x_6.2 (-1)))
                     (l7 (G7 (C9 x_6.2 (-2)))
                      (l9 (rH s x_6.2) λ(x_8:Bool)=>
                       l7 (G7 x_8) (some (Out.rt ([],6)))
                        (l9 (J3 x_5.1 [114,111,119,32]) λ(x_9:List UInt8)=>
                         l9 (kE x_6.1 (o9 t.2.1)) λ(x_10:List UInt8)=>
                          l9 (J3 x_9 x_10) λ(x_11:List UInt8)=>
                           l9 (J3 x_11 [32]) λ(x_12:List UInt8)=>
                            l9 (fA s x_6.2) λ(x:List UInt8)=>
                             l9 (J3 x_12 x) λ(x:List UInt8)=>
                              l9 (J3 x [10]) λ(x:List UInt8)=>
                               some (Out.nx (x,F6 IntKind.i64 x_5.2 1))))
                      (l9 (J3 x_5.1 [114,111,119,32]) λ(x_8:List UInt8)=>
                       l9 (kE x_6.1 (o9 t.2.1)) λ(x_9:List UInt8)=>
                        l9 (J3 x_8 x_9) λ(x_10:List UInt8)=>
                         l9 (J3 x_10 [32]) λ(x_11:List UInt8)=>
                          l9 (fA s x_6.2) λ(x:List UInt8)=>
                           l9 (J3 x_11 x) λ(x:List UInt8)=>
                            l9 (J3 x [10]) λ(x:List UInt8)=>
                             some (Out.nx (x,F6 IntKind.i64 x_5.2 1))))
                     (l9 (J3 x_5.1 [114,111,119,32]) λ(x_8:List UInt8)=>
                      l9 (kE x_6.1 (o9 t.2.1)) λ(x_9:List UInt8)=>
                       l9 (J3 x_8 x_9) λ(x_10:List UInt8)=>
                        l9 (J3 x_10 [32]) λ(x_11:List UInt8)=>
                         l9 (fA s x_6.2) λ(x:List UInt8)=>
                          l9 (J3 x_11 x) λ(x:List UInt8)=>
                           l9 (J3 x [10]) λ(x:List UInt8)=>
                            some (Out.nx (x,F6 IntKind.i64 x_5.2 1)))))
                 (some (Out.ex x_5.1)))
               (b,0)=some (fV (Uw s (o9 t.2.1)) t.2.2.2 b):=by
 obtain⟨a1,a2,a3⟩:=hT;obtain⟨-,-,hm,-⟩:=jd hs;have hr:=(hL.s s hm).2.2.2.2.2;refine Eq.trans (uI t.2.2.2 (Uw s (o9 t.2.1)) (λb i=>(b,i)) (λb=>b) (λi b=>b.length<=2000000+i*200) o5 o5 (λi x b hx hi hI=>?_) (λb hI=>?_)).1 ?_
 .have hlt:=(ax.1 hx).1;have hxI:=hW x (oV hx);have hrl:=Qd hr x (o9 t.2.1);have hpl:=KI x.1 (o9 t.2.1);have hol:=VM hr x.2;simp only[O0 hx,o7,J7,hx,o8,←a3L,a6j];unfold Uw;refine⟨?_,λb' h=>by
   cases hc:C9 (Qc s (o9 t.2.1) x) 0<;>rw[hc]at h
   .cases h
   .cases h;simp;omega⟩
  unfold Qc;cases ht:tvS x.1 (o9 t.2.1)
  .rfl
  have hp:kE x.1 (o9 t.2.1)=some (MB x.1 (o9 t.2.1)):=by
   unfold kE MB;by_cases h0:o9 t.2.1=0
   .rw[Z9 h0,au o5];rfl
   .have:=EQ t.2.1;rw[N7 h0,bg o5,a4L hxI ht];rfl
  simp only[I7,o6,o7,hp,o8];have fin:∀o,o=Ud s x.2->PK s x.2=true->fA s x.2=some o->(l9 (J3 b [114,111,119,32]) λ(x_9:List UInt8)=>
                          l9 (J3 x_9 (MB x.1 (o9 t.2.1))) λ(x_11:List UInt8)=>
                           l9 (J3 x_11 [32]) λ(x_12:List UInt8)=>
                            l9 (fA s x.2) λ(x:List UInt8)=>
                             l9 (J3 x_12 x) λ(x:List UInt8)=>
                              l9 (J3 x [10]) λ(x:List UInt8)=>
                               some (Out.nx (x,F6 IntKind.i64 (i:Int) 1)))=(some (.nx (b++Ux s x (o9 t.2.1),((i+1:Nat):Int))):Option (Out (List UInt8×Int) (List UInt8) UO)):=by
   intro o ho hb2 hro;rw[hro,ho,G5 E5,o8,G5 E5,o8,G5 E5,o8,o8,G5 E5,o8,G5 E5,o8,dn o5];unfold Ux;simp
  have fin2:PK s x.2=true->fA s x.2=some (Ud s x.2)->_:=λh1 h2=>fin _ rfl h1 h2;cases h1:C9 x.2 (-1)
  case true=>
   simp only[I7,o6];have hb2:PK s x.2=true:=by unfold PK;rw[h1];rfl
   refine(fin2 hb2 (by unfold fA Ud;rw[h1];rfl)).trans ?_;rw[hb2];rfl
  cases h2:C9 x.2 (-2)
  case true=>
   simp only[I7,Z7,o6,o7];have hb2:PK s x.2=true:=by unfold PK;rw[h1,h2];rfl
   refine(fin2 hb2 (by unfold fA Ud;rw[h1,h2];rfl)).trans ?_;rw[hb2];rfl
  simp only[Z7,o7];have hru:rH s x.2=some (ruB s x.2):=by unfold rH ruB;cases O9 0 x.2<;>rfl
  rw[hru,o8];cases h3:ruB s x.2
  .unfold PK;rw[h1,h2,h3];rfl
  .obtain⟨a1,a2,a3,a4,q,a5,a6,a7⟩:=ZQ h3;have hq:=Gs hr x.2;simp only[I7,o6];have hb2:PK s x.2=true:=by unfold PK;rw[h1,h2,h3];rfl
   refine(fin2 hb2 ?_).trans ?_
   .unfold fA Ud;rw[h1,h2,a5];simp only[o6,o8,a6];rw[G5 E5];rfl
   .rw[hb2];rfl
 .simp only[N9,o6]
 .cases fV (Uw s (o9 t.2.1)) t.2.2.2 b<;>rfl
end
end
section
theorem Gh{α:Type}(l:List α)(k:Int):(H6 k 0=true\/H6 k 0=false/\O9 (o9 l) k=true)\/(H6 k 0=false/\O9 (o9 l) k=false/\∃x,J9 l k=some x/\x∈l):=by
 by_cases h0:k<0
 .exact .inl (.inl (bg h0))
 by_cases h1:o9 l<=k
 .exact .inl (.inr ⟨au o5,ah h1⟩)
 .exact .inr ⟨au o5,aU o5,oZ o5 o5⟩
variable {l:dJ}
theorem b6g(h:(BH l).1=0):BH l=(0,0,0,0):=by
 unfold BH at h ⊢;cases h1:C9 (Ib l).1 0<;>rw[h1]at h
 .simp only[o6]at h;rw[Z9 h]at h1;cases h1
 cases h2:C9 (DR l).1 0<;>rw[h2]at h
 .simp only[o7,o6]at h;rw[Z9 h]at h2;cases h2
 simp only[o7]at h ⊢;unfold JI at h ⊢;cases h3:H6 4 (o9 l.2.2)<;>rw[h3]at h
 case true=>exact absurd (show(4:Int)=0 from h) V4
 simp only[o6]at h ⊢;cases hf:dU l.2.2.length (DJ l)with
 |none=>rfl|some r=>
  rw[hf]at h;simp only at h;obtain⟨j,hj,hp⟩:=nX hf;unfold DJ at hp;cases hq:l.2.2[j]? with
  |none=>rw[hq]at hp;cases hp|some q=>
   rw[hq]at hp;simp only at hp;unfold Nc at hp;exact absurd h (by cases he:C9 (DK l j q).1 0<;>rw[he]at hp<;>cases hp;simp only;intro h4;rw[Z9 h4]at he;cases he)
variable {k:Int}{t:X5}
theorem a0K{F:FmF}(hS:SmL l)(hL:NmL l)(hT:SzT t)(hF:∀s,J9 l.2.2 k=some s->a3O F (nmS l s) t)(hW:∀r∈t.2.2.2,lL r.1.2):lC l k t=some (dfS F l k t):=by
 obtain⟨a1,a2,a3⟩:=id hT;unfold lC dfS;rw[WN hS,o8];cases hv:C9 (BH l).1 0
 case false=>rfl
 rw[b6g (nC.1 hv)];simp only[Z9 (rfl:(0:Int)=0),nH,I7,o6,o7];rcases Gh l.2.2 k with h|⟨h1,h2,s,hs,hm⟩
 .rw[TS h];rcases h with h|⟨h,h'⟩
  .rw[h];rfl
  .rw[h,h'];rfl
 obtain⟨s1,s2,s3,s4,s5,s6⟩:=hL.s s hm;rw[h1,h2,hs];simp only[o6,o8,U1];rcases Gh s.2.2.2.1 t.1 with h|⟨g1,g2,d,hd,hdm⟩
 .rw[TS h];rcases h with h|⟨h,h'⟩
  .rw[h];rfl
  .rw[h,h'];rfl
 have hdl:=s5 d hdm;rw[g1,g2,hd];simp only[o6,o8,U1];cases h8:H6 8 (o9 t.2.1)
 case true=>rfl
 simp only[o6];cases hq:C9 (o9 t.2.2.1) (o9 t.2.1)
 case false=>rfl
 have hlen:t.2.2.1.length=t.2.1.length:=by have:=nC.1 hq;unfold o9 at this;omega
 simp only[I7,o6,o7];rw[G5 E5,o8,G5 E5,o8];have e0:jQ [] ([100,101,99,105,115,105,111,110,32]++d.1++[10])=some (o9 ([100,101,99,105,115,105,111,110,32]++d.1++[10]),(),[100,101,99,105,115,105,111,110,32]++d.1++[10]):=by unfold jQ;rw[if_pos E5];rfl
 rw[e0,o8,a1g hL hs,o8];have hb0:([100,101,99,105,115,105,111,110,32]++d.1++[10]:List UInt8).length<=1000:=by simp;omega
 refine O6 (U_ hL hs hT (hF s hs) hW hlen _ hb0) ?_;rw[o8];cases hc:fV (Gx F s (nmS l s)) (t.2.1.zip t.2.2.1) ([100,101,99,105,115,105,111,110,32]++d.1++[10])with
 |inr r=>rfl|inl b=>
  have hb:=Vd hL hs hT (hF s hs) hW hlen hb0 hc;simp only[U1];refine O6 (V_ hL hs hT (hF s hs) hW hlen b hb) ?_;rw[o8];rcases Wh s6 (o9 t.2.1) t.2.2.2 b b (.inl rfl)with⟨c,e1,e2⟩|⟨x,y,e1,e2,hr⟩
  .rw[e1,e2];rfl
  .rw[e1,e2];simp only[U1];unfold zg;simp only[o8];rcases hr with rfl|⟨r1,r2⟩
   .rw[show((x.length:Nat):Int)=o9 x from rfl];by_cases g:65536<o9 x
    .rw[bg g];rfl
    .rw[au o5];simp only[o6];unfold uS;rw[if_pos (by unfold o9 at g;omega)];rfl
   .rw[show((x.length:Nat):Int)=o9 x from rfl,bg r1,bg r2];rfl
theorem a3W{F:FmF}(hS:SmL l)(hL:NmL l)(hT:SzT t)(hF:∀s,J9 l.2.2 k=some s->a3O F (nmS l s) t)(hF2:∀s,J9 l.2.2 k=some s->∀e∈t.2.1,oh e (nmS l s)=some (F e (nmS l s)))(hW:∀r∈t.2.2.2,lL r.1.2):yM l k t=some (dfS F l k t):=by
 obtain⟨a1,a2,a3⟩:=id hT;unfold yM DD dfS;rw[Uh hS,o8];cases hv:C9 (BH l).1 0
 case false=>rfl
 simp only[I7,o6,o7];rcases Gh l.2.2 k with h|⟨h1,h2,s,hs,hm⟩
 .rw[TS h];rcases h with h|⟨h,h'⟩
  .rw[h];rfl
  .rw[h,h'];rfl
 obtain⟨s1,s2,s3,s4,s5,s6⟩:=hL.s s hm;rw[h1,h2,hs];simp only[o6,o8,Z9 (rfl:(0:Int)=0),I7];rcases Gh s.2.2.2.1 t.1 with h|⟨g1,g2,d,hd,hdm⟩
 .rw[TS h];rcases h with h|⟨h,h'⟩
  .rw[h];rfl
  .rw[h,h'];rfl
 have hdl:=s5 d hdm;rw[g1,g2,hd];simp only[o6,o8,U1];cases h8:H6 8 (o9 t.2.1)
 case true=>rfl
 simp only[o6];cases hq:C9 (o9 t.2.2.1) (o9 t.2.1)
 case false=>rfl
 have hlen:t.2.2.1.length=t.2.1.length:=by have:=nC.1 hq;unfold o9 at this;omega
 simp only[I7,o6,o7];rw[G5 E5,o8,G5 E5,o8];have hb0:([100,101,99,105,115,105,111,110,32]++d.1++[10]:List UInt8).length<=1000:=by simp;omega
 refine O6 (a0I hL hs hT (hF s hs) hW hlen (hF2 s hs) _ hb0) ?_;rw[o8];cases hc:fV (Gx F s (nmS l s)) (t.2.1.zip t.2.2.1) ([100,101,99,105,115,105,111,110,32]++d.1++[10])with
 |inr r=>rfl|inl b=>
  have hb:=Vd hL hs hT (hF s hs) hW hlen hb0 hc;simp only[U1];refine O6 (a0J hL hs hT (hF s hs) hW hlen b hb) ?_;rw[o8];cases fV (Uw s (o9 t.2.1)) t.2.2.2 b with
  |inr r=>rfl|inl y=>simp only[U1];cases H6 65536 (o9 y)<;>rfl
theorem TM(hw:WfL l)(hW:WfT t):oH l k t=some true:=by
 unfold oH
 rw[Wp,o8,Yt];simp only[WV,o8];cases h1:smL l
 case false=>rfl
 cases h2:smT t
 case false=>rfl
 obtain⟨hS,-⟩:=a7m h1 hw;have hL:=a6A h1 hw;simp only[I7,o6];have hF:∀s,J9 l.2.2 k=some s->a3O QN (nmS l s) t:=λs hs e he=>⟨a6u (a6B hL (jd hs).2.2.1) (hW.n e he),a4b (a6B hL (jd hs).2.2.1) (hW.n e he)⟩;have hF2:∀s,J9 l.2.2 k=some s->∀e∈t.2.1,oh e (nmS l s)=some (QN e (nmS l s)):=λs hs e he=>a4K (a6B hL (jd hs).2.2.1) (hW.n e he);rw[a0K hS hL (a2I h2) hF hW.r,o8,a3W hS hL (a2I h2) hF hF2 hW.r,o8];rw[show seq (dfS QN l k t).1 (dfS QN l k t).1=true from Uy.2 rfl,Z9 rfl];rfl
end
end Go.GP
namespace Go.GP
open Gt
theorem Cj:∀x,WO Gt.ps3 x->(Gt.s3.fn x:Option Bool)=some true:=λx h=>
 TM (l:=x.1) (k:=x.2.1) (t:=x.2.2) (b5A h.1) ⟨λe he n hn=>IJ ((h.2.2.2.1.2 e he).2 n hn).2,λr hr=>IJ (h.2.2.2.2.2.2 r hr).1.2⟩
end Go.GP
