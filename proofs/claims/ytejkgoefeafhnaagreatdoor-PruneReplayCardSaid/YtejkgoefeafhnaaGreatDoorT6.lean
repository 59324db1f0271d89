import Derived.Test.YtejkgoefeafhnaaGreatDoorT5
set_option linter.all false
namespace Go.GP
open Gt
set_option maxRecDepth 100000
section
def a9l(oc pr:Int->Int)(seen acc:d1A):Prop:=acc.Nodup/\∀x,x∈acc↔x∈seen/\oc x≠-1/\∀y∈seen,oc y≠-1->pr y<=pr x
variable {a:Int}
theorem c0A{oc pr:Int->Int}{seen acc:d1A}(h:a9l oc pr seen acc)(ha:a∉seen):a9l oc pr (seen++[a]) (bG oc pr acc a):=by
 obtain⟨hn,hi⟩:=h;unfold bG;cases h1:x8 (oc a) (-1)
 case true=>
  have e:=O5.1 h1;refine⟨hn,λx=>?_⟩;rw[o7,hi];constructor
  .rintro⟨g1,g2,g3⟩;refine⟨I5 _ g1,g2,λy hy hy2=>?_⟩;rcases C9.1 hy with hy|hy
   .exact g3 y hy hy2
   .rw[D9.1 hy]at hy2;exact absurd e hy2
  .rintro⟨g1,g2,g3⟩;rcases C9.1 g1 with g1|g1
   .exact⟨g1,g2,λy hy=>g3 y (I5 _ hy)⟩
   .rw[D9.1 g1]at g2;exact absurd e g2
 have na:oc a≠-1:=yO.1 h1;rw[o6];have hmax:∀b,b∈acc->∀y∈seen,oc y≠-1->pr y<=pr b:=λb hb=>((hi b).1 hb).2.2;cases acc with
 |nil=>
  have hnone:∀y∈seen,oc y=-1:=by
   refine λy hy=>bW λhne=>?_;have:∀(L:d1A),(∀z∈L,z∈seen)->(∃z∈L,oc z≠-1)->∃z∈L,oc z≠-1/\∀w∈L,oc w≠-1->pr w<=pr z:=by
    intro L;induction L with
    |nil=>rintro _ ⟨z,hz,_⟩;cases hz
    |cons c L ih=>
     intro hL _;by_cases hc:∃z∈L,oc z≠-1
     .obtain⟨z,hz,z1,z2⟩:=ih (λw hw=>hL w (V4 _ hw)) hc;by_cases hcc:oc c≠-1/\pr z<pr c
      .refine⟨c,x9,hcc.1,λw hw w1=>?_⟩;rcases D6.1 hw with rfl|hw
       .exact aX _
       .have:=z2 w hw w1;omega
      .refine⟨z,V4 _ hz,z1,λw hw w1=>?_⟩;rcases D6.1 hw with rfl|hw
       .have:=not_and.1 hcc w1;omega
       .exact z2 w hw w1
     .rename_i hex;obtain⟨z,hz,hz1⟩:=hex;rcases D6.1 hz with rfl|hz
      .refine⟨z,x9,hz1,λw hw w1=>?_⟩;rcases D6.1 hw with rfl|hw
       .exact aX _
       .exact absurd ⟨w,hw,w1⟩ hc
      .exact absurd ⟨z,hz,hz1⟩ hc
   obtain⟨z,hz,z1,z2⟩:=this seen (λ_ h=>h) ⟨y,hy,hne⟩;have:=(hi z).2 ⟨hz,z1,z2⟩;cases this
  refine⟨x9,λx=>?_⟩;simp only[D9];constructor
  .rintro rfl;refine⟨x9,na,λy hy hy2=>?_⟩;rcases C9.1 hy with hy|hy
   .exact absurd (hnone y hy) hy2
   .rw[D9.1 hy];exact aX _
  .rintro⟨g1,g2,g3⟩;rcases C9.1 g1 with g1|g1
   .exact absurd (hnone x g1) g2
   .exact D9.1 g1
 |cons b r=>
  have hb:=(hi b).1 x9;simp only;cases h2:E8 (pr b) (pr a)
  .rw[o6];have g2:=iE.1 h2;cases h3:x8 (pr a) (pr b)
   .rw[o6];have g3:=yO.1 h3;refine⟨hn,λx=>?_⟩;rw[hi];constructor
    .rintro⟨k1,k2,k3⟩;refine⟨I5 _ k1,k2,λy hy hy2=>?_⟩;rcases C9.1 hy with hy|hy
     .exact k3 y hy hy2
     .rw[D9.1 hy];have:=k3 b hb.1 hb.2.1;omega
    .rintro⟨k1,k2,k3⟩;rcases C9.1 k1 with k1|k1
     .exact⟨k1,k2,λy hy=>k3 y (I5 _ hy)⟩
     .rw[D9.1 k1]at k3;have:=k3 b (I5 _ hb.1) hb.2.1;omega
   .rw[o7];have g3:=O5.1 h3;have hna:a∉b::r:=λh=>ha ((hi a).1 h).1;refine⟨O7.2 ⟨hn,x9,λx hx y hy hxy=>by simp at hy;subst hy;exact hna (hxy▸hx)⟩,λx=>?_⟩;constructor
    .intro hx;rcases C9.1 hx with hx|hx
     .obtain⟨k1,k2,k3⟩:=(hi x).1 hx;refine⟨I5 _ k1,k2,λy hy hy2=>?_⟩;rcases C9.1 hy with hy|hy
      .exact k3 y hy hy2
      .rw[D9.1 hy,g3];exact k3 b hb.1 hb.2.1
     .rw[D9.1 hx];refine⟨x9,na,λy hy hy2=>?_⟩;rcases C9.1 hy with hy|hy
      .rw[g3];exact hb.2.2 y hy hy2
      .rw[D9.1 hy];exact aX _
    .rintro⟨k1,k2,k3⟩;rcases C9.1 k1 with k1|k1
     .exact I5 _ ((hi x).2 ⟨k1,k2,λy hy=>k3 y (I5 _ hy)⟩)
     .exact aK _ k1
  .rw[o7];have g2:=jF.1 h2;refine⟨x9,λx=>?_⟩;simp only[D9];constructor
   .rintro rfl;refine⟨x9,na,λy hy hy2=>?_⟩;rcases C9.1 hy with hy|hy
    .have:=hb.2.2 y hy hy2;omega
    .rw[D9.1 hy];exact aX _
   .rintro⟨k1,k2,k3⟩;rcases C9.1 k1 with k1|k1
    .have h4:=k3 a x9 na;have h5:=hb.2.2 x k1 k2;omega
    .exact D9.1 k1
theorem a4I{oc pr:Int->Int} :∀(l seen acc:d1A),a9l oc pr seen acc->(seen++l).Nodup->a9l oc pr (seen++l) (l.foldl (bG oc pr) acc)
 |[],seen,acc,h,_=>by rw[H6];exact h|a::l,seen,acc,h,hn=>by
  have hn' :(seen++[a]++l).Nodup:=by rw[G5];exact hn
  have ha:a∉seen:=λhs=>by have:=(O7.1 hn).2.2 a hs a x9;exact this rfl
  have:=a4I l (seen++[a]) (bG oc pr acc a) (c0A h ha) hn';rw[G5]at this;exact this
theorem Qh{oc pr:Int->Int}{l:d1A}(hn:l.Nodup):(rq oc pr l).Nodup/\∀x,x∈rq oc pr l↔x∈l/\oc x≠-1/\∀y∈l,oc y≠-1->pr y<=pr x:=
 a4I l [] [] ⟨x9,λx=>by simp⟩ (by simpa using hn)
structure TreeR (nA nB:Nat) (par prio:d1A) (ap:d1E) (par' prio' :d1A) (ap' :d1E) (R:Int->Int->Prop):Prop where
 v:Aa par prio=0
 v' :Aa par' prio' =0
 n:par.length=nA
 n' :par'.length=nB
 rng:∀x y,R x y->(0<=x/\x<(nA:Int))/\0<=y/\y<(nB:Int)
 dom:∀x,0<=x->x<(nA:Int)->∃y,R x y
 cod:∀y,0<=y->y<(nB:Int)->∃x,R x y
 fn:∀x y z,R x y->R x z->y=z
 inj:∀x y z,R x z->R y z->x=y
 pr:∀x y,R x y->prF prio x=prF prio' y
 ap:∀x y,R x y->apF ap x=apF ap' y
 pa:∀(x y:Nat) (p q:Int),R (x:Int) (y:Int)->par[x]? =some p->par'[y]? =some q->(p=-1/\q=-1)\/R p q
def RO(R:Int->Int->Prop)(a b:Int):Prop:=(a=-1/\b=-1)\/R a b
def RX(R:Int->Int->Prop)(a b:Int):Prop:=(a=-1/\b=-1)\/(a=-2/\b=-2)\/R a b
variable {b:Int}
section
variable {n n' :Nat} {par prio par' prio' :d1A} {ap ap' :d1E} {R:Int->Int->Prop}
theorem KT{par:d1A}{at' x:Int} :x∈castL (kids par at')↔∃i:Nat,x=(i:Int)/\par[i]? =some at' :=by
 unfold castL;constructor
 .intro h;obtain⟨i,hi,rfl⟩:=U0.1 h;exact⟨i,rfl,(YR hi).2⟩
 .rintro⟨i,rfl,h⟩;refine U0.2 ⟨i,?_,rfl⟩;unfold kids onL;refine I7.2 ⟨P8.2 (X6.1 h).1,?_⟩;unfold a3p;rw[h];exact N9 rfl
theorem xO(par:d1A)(at' :Int):(castL (kids par at')).Nodup:=by unfold castL kids onL;refine List.Pairwise.map _ (λa b h=>?_) ((List.nodup_range (n:=par.length)).filter _);omega
theorem TreeR.kid(T:TreeR n n' par prio ap par' prio' ap' R){a b x y:Int}(hab:RO R a b)(hxy:R x y):x∈castL (kids par a)↔y∈castL (kids par' b):=by
 obtain⟨⟨x0,x1⟩,y0,y1⟩:=T.rng x y hxy;obtain⟨i,rfl⟩:∃i:Nat,x=(i:Int):=⟨x.toNat,l7⟩;obtain⟨j,rfl⟩:∃j:Nat,y=(j:Int):=⟨y.toNat,l7⟩;have hi:par[i]? =some (par[i]'(by rw[T.n];omega)):=bn _;have hj:par'[j]? =some (par'[j]'(by rw[T.n'];omega)):=bn _;have hp:=T.pa i j _ _ hxy hi hj;rw[KT,KT];constructor
 .rintro⟨k,hk,h⟩;have ek:k=i:=l7;subst ek;rw[hi]at h;have h:=I9 h;refine⟨j,rfl,?_⟩;rw[hj];congr 1;rw[h]at hp;rcases hp with⟨p1,p2⟩|hp<;>rcases hab with⟨q1,q2⟩|hab
  .rw[p2,q2]
  .have:=(T.rng _ _ hab).1.1;omega
  .have:=(T.rng _ _ hp).1.1;omega
  .exact T.fn _ _ _ hp hab
 .rintro⟨k,hk,h⟩;have ek:k=j:=l7;subst ek;rw[hj]at h;have h:=I9 h;refine⟨i,rfl,?_⟩;rw[hi];congr 1;rw[h]at hp;rcases hp with⟨p1,p2⟩|hp<;>rcases hab with⟨q1,q2⟩|hab
  .rw[p1,q1]
  .have:=(T.rng _ _ hab).2.1;omega
  .have:=(T.rng _ _ hp).2.1;omega
  .exact T.inj _ _ _ hp hab
theorem RX.neg(T:TreeR n n' par prio ap par' prio' ap' R)(h:RX R a b):a=-1↔b=-1:=by
 rcases h with⟨h1,h2⟩|⟨h1,h2⟩|h
 .omega
 .omega
 .have:=T.rng _ _ h;omega
theorem TreeR.ch(T:TreeR n n' par prio ap par' prio' ap' R){oc oc' :Int->Int}(hab:RO R a b)(ho:∀x y,R x y->x∈castL (kids par a)->RX R (oc x) (oc' y)):
  RX R (chF oc (prF prio) (castL (kids par a))) (chF oc' (prF prio') (castL (kids par' b))):=by
 obtain⟨n1,m1⟩:=Qh (oc:=oc) (pr:=prF prio) (xO par a);obtain⟨n2,m2⟩:=Qh (oc:=oc') (pr:=prF prio') (xO par' b);have rg:∀x,x∈castL (kids par a)->∃y,R x y:=λx hx=>by obtain⟨i,rfl,h⟩:=KT.1 hx;have:=(X6.1 h).1;rw[T.n]at this;exact T.dom _ l7 l7
 have rg' :∀y,y∈castL (kids par' b)->∃x,R x y:=λy hy=>by obtain⟨i,rfl,h⟩:=KT.1 hy;have:=(X6.1 h).1;rw[T.n']at this;exact T.cod _ l7 l7
 have key:∀x y,R x y->(x∈rq oc (prF prio) (castL (kids par a))↔y∈rq oc' (prF prio') (castL (kids par' b))):=λx y hxy=>by
  rw[m1,m2];have hk:=T.kid hab hxy;constructor
  .rintro⟨g1,g2,g3⟩;have gy:=hk.1 g1;refine⟨gy,λh=>g2 (((ho x y hxy g1).neg T).2 h),λz hz hz2=>?_⟩;obtain⟨w,hw⟩:=rg' z hz;have gw:=(T.kid hab hw).2 hz;have:=g3 w gw (λh=>hz2 (((ho w z hw gw).neg T).1 h));rw[←T.pr w z hw,←T.pr x y hxy];exact this
  .rintro⟨g1,g2,g3⟩;have gx:=hk.2 g1;refine⟨gx,λh=>g2 (((ho x y hxy gx).neg T).1 h),λw hw hw2=>?_⟩;obtain⟨z,hz⟩:=rg w hw;have:=g3 z ((T.kid hab hz).1 hw) (λh=>hw2 (((ho w z hz hw).neg T).2 h));rw[T.pr w z hz,T.pr x y hxy];exact this
 have sub1:∀x,x∈rq oc (prF prio) (castL (kids par a))->∃y,R x y/\y∈rq oc' (prF prio') (castL (kids par' b)):=λx hx=>by obtain⟨y,hy⟩:=rg x ((m1 x).1 hx).1;exact⟨y,hy,(key x y hy).1 hx⟩
 have sub2:∀y,y∈rq oc' (prF prio') (castL (kids par' b))->∃x,R x y/\x∈rq oc (prF prio) (castL (kids par a)):=λy hy=>by obtain⟨x,hx⟩:=rg' y ((m2 y).1 hy).1;exact⟨x,hx,(key x y hx).2 hy⟩
 have hin:∀x,x∈rq oc (prF prio) (castL (kids par a))->x∈castL (kids par a):=λx hx=>((m1 x).1 hx).1;unfold chF;revert n1 n2 sub1 sub2 hin;generalize rq oc (prF prio) (castL (kids par a))=B;generalize rq oc' (prF prio') (castL (kids par' b))=B';intro n1 n2 sub1 sub2 hin;match B,B' with
 |[],[]=>exact .inl ⟨rfl,rfl⟩|[],y::_=>obtain⟨x,_,hx⟩:=sub2 y x9;cases hx
 |x::_,[]=>obtain⟨y,_,hy⟩:=sub1 x x9;cases hy
 |[x],[y]=>obtain⟨z,hz,hz2⟩:=sub1 x x9;have:=D9.1 hz2;subst this;exact ho x z hz (hin x x9)
 |[x],y::z::r=>obtain⟨w,hw,hw2⟩:=sub2 y x9;obtain⟨u,hu,hu2⟩:=sub2 z x9;have e1:=D9.1 hw2;have e2:=D9.1 hu2;subst e1;subst e2;have e3:=T.fn _ _ _ hw hu;rw[e3]at n2;simp at n2
 |x::z::r,[y]=>obtain⟨w,hw,hw2⟩:=sub1 x x9;obtain⟨u,hu,hu2⟩:=sub1 z x9;have e1:=D9.1 hw2;have e2:=D9.1 hu2;subst e1;subst e2;have e3:=T.inj _ _ _ hw hu;rw[e3]at n1;simp at n1
 |x::z::r,y::w::r' =>exact .inr (.inl ⟨rfl,rfl⟩)
theorem TreeR.oc(T:TreeR n n' par prio ap par' prio' ap' R):∀(k:Nat) (x y:Int),(n:Int) -x<=k->R x y->RX R (OC par prio ap x) (OC par' prio' ap' y):=by
 intro k;induction k with
 |zero=>intro x y hk h;have:=T.rng x y h;omega|succ k ih=>
  intro x y hk h;obtain⟨⟨x0,x1⟩,y0,y1⟩:=T.rng x y h;rw[Zh par prio ap T.v l7 (by rw[T.n];exact x1),Zh par' prio' ap' T.v' l7 (by rw[T.n'];exact y1)];have hc:RX R (chS par prio ap x) (chS par' prio' ap' y):=T.ch (.inr h) λu w hu hm=>ih u w (by have:=Jt par prio T.v hm;omega) hu;have hneg:=hc.neg T;cases h1:x8 (chS par prio ap x) (-1)
  .have:x8 (chS par' prio' ap' y) (-1)=false:=O9 λe=>(yO.1 h1) (hneg.2 e);rw[this,o6,o6];exact hc
  .have:x8 (chS par' prio' ap' y) (-1)=true:=N9 (hneg.1 (O5.1 h1));rw[this,o7,o7,T.ap x y h];cases apF ap' y
   .exact .inl ⟨rfl,rfl⟩
   .exact .inr (.inr h)
theorem TreeR.sel(T:TreeR n n' par prio ap par' prio' ap' R)(ha:ap.length=n)(ha' :ap'.length=n'):RX R (AX par prio ap) (AX par' prio' ap'):=by unfold AX;rw[N9 T.v,N9 T.v',N9 (show o9 ap=o9 par by unfold o9;rw[ha,T.n]),N9 (show o9 ap' =o9 par' by unfold o9;rw[ha',T.n'])];rw[o7,o7,o7,o7];exact T.ch (.inl ⟨rfl,rfl⟩) λx y h _=>T.oc ((n:Int) -x).toNat x y l7 h
end
end
section
def VR(s:A7):Prop:=∃sg,∀(j:Nat) (r:Z7),s.2.2.2.2[j]? =some r->RuleV s sg j r
variable {i:Nat}{s:A7}{j:Nat}
theorem VR.uniq(h:VR s){r q:Z7}(hr:s.2.2.2.2[i]? =some r)(hq:s.2.2.2.2[j]? =some q)(e:r.1=q.1):i=j:=by
 obtain⟨sg,h⟩:=h;have key:∀(a b:Nat) (x y:Z7),s.2.2.2.2[a]? =some x->s.2.2.2.2[b]? =some y->x.1=y.1->¬a<b:=λa b x y hx hy he hlt=>by have:=eP.1 (h b y hy).nm x (xh.2 ⟨a,by have:=(X6.1 hx).1;have:=(X6.1 hy).1;omega,(X6.1 hx).2⟩);exact this (a4i.2 he)
 have h1:=key i j r q hr hq e;have h2:=key j i q r hq hr e.symm;omega
variable {r:Z7}
theorem VR.par(h:VR s)(hr:s.2.2.2.2[i]? =some r):dA s i=-1\/∃(p:Nat) (q:Z7),dA s i=(p:Int)/\p<i/\s.2.2.2.2[p]? =some q/\q.2.1=r.2.1:=by
 obtain⟨sg,h⟩:=h;have hb:=(h i r hr).pa;have e:dA s i=r.2.2.1:=by unfold dA;rw[hr]
 unfold NG at hb;rw[←e]at hb;generalize dA s i=z at*;cases h1:x8 z (-1)<;>rw[h1]at hb
 .rw[o6]at hb;cases h2:E8 z 0<;>rw[h2]at hb
  case true=>cases hb
  rw[o6]at hb;cases h3:L8 (i:Int) z<;>rw[h3]at hb
  case true=>cases hb
  rw[o6]at hb;have g2:=iE.1 h2;have g3:=Bl.1 h3;right;obtain⟨p,rfl⟩:∃p:Nat,z=(p:Int):=⟨z.toNat,l7⟩;rw[F7]at hb;cases hq:s.2.2.2.2[p]? with
  |none=>rw[hq]at hb;cases hb|some q=>
   rw[hq]at hb;simp only at hb;refine⟨p,q,rfl,l7,hq,?_⟩;cases g:x8 q.2.1 r.2.1<;>rw[g]at hb
   .cases hb
   .exact O5.1 g
 .exact .inl (O5.1 h1)
def PaR(s t:A7)(p p' :Int):Prop:=(p=-1/\p' =-1)\/∃(i j:Nat) (r q:Z7),p=(i:Int)/\p' =(j:Int)/\s.2.2.2.2[i]? =some r/\t.2.2.2.2[j]? =some q/\r.1=q.1
structure EqR (s t:A7) (r q:Z7):Prop where
 nm:r.1=q.1
 df:r.2.1=q.2.1
 rest:r.2.2.2=q.2.2.2
 pa:PaR s t r.2.2.1 q.2.2.1
structure SameR (s t:A7) (d:Int):Prop where
 fwd:∀(i:Nat) (r:Z7),s.2.2.2.2[i]? =some r->r.2.1=d->∃(j:Nat) (q:Z7),t.2.2.2.2[j]? =some q/\EqR s t r q
 bwd:∀(j:Nat) (q:Z7),t.2.2.2.2[j]? =some q->q.2.1=d->∃(i:Nat) (r:Z7),s.2.2.2.2[i]? =some r/\EqR s t r q
def Rn(s t:A7)(d:Int)(i j:Nat):Prop:=∃r q,s.2.2.2.2[i]? =some r/\t.2.2.2.2[j]? =some q/\r.1=q.1/\r.2.1=d/\q.2.1=d
section
variable {s t:A7} {d:Int} (hs:VR s) (ht:VR t) (hR:SameR s t d)
include hs ht hR
omit hs in
theorem a6r{r q:Z7}(h:Rn s t d i j)(hr:s.2.2.2.2[i]? =some r)(hq:t.2.2.2.2[j]? =some q):EqR s t r q:=by obtain⟨r',q',h1,h2,h3,h4,h5⟩:=h;rw[hr]at h1;cases h1;rw[hq]at h2;cases h2;obtain⟨j',q'',g1,g2⟩:=hR.fwd i _ hr h4;have:j' =j:=ht.uniq g1 hq (g2.nm.symm.trans h3);subst this;rw[hq]at g1;cases g1;exact g2
omit hs in
theorem a6s(h:Rn s t d i j)(T:Int):onR s d T i=onR t d T j:=by obtain⟨r,q,h1,h2,h3,h4,h5⟩:=id h;have e:=a6r ht hR h h1 h2;unfold onR;rw[h1,h2];simp only;rw[N9 h4,N9 h5,e.rest]
def RP' (s t:A7) (d T:Int) (x y:Int):Prop:=∃i j,Rn s t d i j/\onR s d T i=true/\x=(dE (onR s d T) i:Int)/\y=(dE (onR t d T) j:Int)
theorem b7W(T:Int):∀i j,Rn s t d i j->RO (RP' s t d T) (anc (onR s d T) (dA s) i) (anc (onR t d T) (dA t) j):=by
 intro i;induction i using Nat.strongRecOn with
 |ind i ih=>
  intro j h;obtain⟨r,q,h1,h2,h3,h4,h5⟩:=id h;have e:=a6r ht hR h h1 h2;have ep:dA s i=r.2.2.1:=by unfold dA;rw[h1]
  have ep' :dA t j=q.2.2.1:=by unfold dA;rw[h2]
  have hpa:=e.pa;rw[←ep,←ep']at hpa;unfold anc;rcases hpa with⟨p1,p2⟩|⟨i',j',r',q',p1,p2,p3,p4,p5⟩
  .rw[if_neg l7,if_neg l7];exact .inl ⟨rfl,rfl⟩
  .rcases hs.par h1 with g|⟨a,ra,a1,a2,a3,a4⟩
   .omega
   rcases ht.par h2 with g|⟨b,rb,b1,b2,b3,b4⟩
   .omega
   have ea:a=i' :=l7;have eb:b=j' :=l7;subst ea;subst eb;rw[p3]at a3;cases a3;rw[p4]at b3;cases b3;have hn:Rn s t d a b:=⟨r',q',p3,p4,p5,a4.trans h4,b4.trans h5⟩;rw[if_pos l7,if_pos l7,a1,b1,D8,D8,Oc,Oc,←a6s ht hR hn T];cases ho:onR s d T a
   .rw[if_neg x9,if_neg x9];exact ih a a2 b hn
   .rw[if_pos rfl,if_pos rfl];exact .inr ⟨a,b,hn,ho,rfl,rfl⟩
end
theorem a9H{s:A7}(h:VR s)(d:Int):∀n,n<=s.2.2.2.2.length->Ig (s.2.2.2.2.take n) d<=8
 |0,_=>by simp[Ig]|n+1,hn=>by
  have ih:=a9H h d n l7;have hlt:n<s.2.2.2.2.length:=l7;have hr:s.2.2.2.2[n]? =some s.2.2.2.2[n]:=bn hlt;obtain⟨sg,h⟩:=h;have hc:=(h n _ hr).ct;rw[U3 hlt];unfold Ig at ih hc ⊢;rw[qK];rw[Bl]at hc;by_cases e:s.2.2.2.2[n].2.1=d
  .rw[e]at hc;have h1:List.countP (λ(o:Z7)=>x8 o.2.1 d) [s.2.2.2.2[n]]<=1:=tK;omega
  .have h1:List.countP (λ(o:Z7)=>x8 o.2.1 d) [s.2.2.2.2[n]]=0:=by
    rw[List.countP_eq_zero];intro x hx;rw[D9.1 hx,O9 e];simp
   omega
theorem b4B(s:A7)(d T:Int):∀n,n<=s.2.2.2.2.length->(onL (onR s d T) n).length<=Ig (s.2.2.2.2.take n) d
 |0,_=>by simp[onL,Ig]|n+1,hn=>by
  have ih:=b4B s d T n l7;have hlt:n<s.2.2.2.2.length:=l7;have hr:s.2.2.2.2[n]? =some s.2.2.2.2[n]:=bn hlt;rw[EE,F5,U3 hlt];unfold Ig at ih ⊢;rw[qK];cases ho:onR s d T n
  .simp only[cond_false,dG];omega
  .have hd:x8 s.2.2.2.2[n].2.1 d=true:=by
    unfold onR at ho;rw[hr]at ho;simp only at ho;cases g:x8 s.2.2.2.2[n].2.1 d
    .rw[g]at ho;cases ho
    .rfl
   have h1:List.countP (λ(o:Z7)=>x8 o.2.1 d) [s.2.2.2.2[n]]=1:=by simp[hd]
   rw[h1];show _+1<=_+1;omega
theorem c0g(on:Nat->Bool)(par:Nat->Int):∀i,-1<=anc on par i/\anc on par i<(dE on i:Int)\/anc on par i=-1:=by
 intro i;induction i using Nat.strongRecOn with
 |ind i ih=>
  unfold anc;by_cases h:0<=par i/\par i<(i:Int)
  .rw[if_pos h,Oc];have hlt:(par i).toNat<i:=l7;cases ho:on (par i).toNat
   .rw[if_neg x9];rcases ih _ hlt with g|g
    .have:=ZL on (Nat.le_of_lt hlt);exact .inl ⟨g.1,l7⟩
    .exact .inr g
   .rw[if_pos rfl];have:=a7m hlt ho;exact .inl ⟨l7,l7⟩
  .rw[if_neg h];exact .inr rfl
theorem OQ(h:VR s)(d T:Int):Aa (aV s d T).2.1 (aV s d T).2.2=0:=by
 have hlen:(V5 s d T).length<=8:=by have h1:=b4B s d T s.2.2.2.2.length (E9 _);have h2:=a9H h d s.2.2.2.2.length (E9 _);unfold V5;omega
 show Aa ((V5 s d T).map (anc (onR s d T) (dA s))) ((V5 s d T).map (Bg s))=0;unfold Aa;have l1:o9 ((V5 s d T).map (anc (onR s d T) (dA s)))=((V5 s d T).length:Int):=by unfold o9;rw[H7]
 have l2:o9 ((V5 s d T).map (Bg s))=((V5 s d T).length:Int):=by unfold o9;rw[H7]
 rw[l1,l2,N9 rfl,E5,o6,N7 l7,o6];have:ay ((V5 s d T).map (anc (onR s d T) (dA s))).length (Pn ((V5 s d T).map (anc (onR s d T) (dA s))) ((V5 s d T).map (Bg s)))=none:=by
  unfold ay;rw[dH];intro k hk;have hk:k<(V5 s d T).length:=by have:=P8.1 hk;rwa[H7]at this
  have e:=bn hk;unfold Pn;rw[I8,I8,e];simp only[eY];obtain⟨i1,i2⟩:=jH (G8 hk);generalize hi:(V5 s d T)[k]=i at*;have hcnt:dE (onR s d T) i=k:=IZ (Qn _ _) (CE _ i1 i2) e;have hr:s.2.2.2.2[i]? =some s.2.2.2.2[i]:=bn i1;obtain⟨sg,h⟩:=h;have hv:=h i _ hr;have hpr:Bg s i=s.2.2.2.2[i].2.2.2.1:=by unfold Bg;rw[hr]
  have p0:=hv.p0;have p9:=hv.p9;rw[←hpr]at p0 p9;have ha:=c0g (onR s d T) (dA s) i;rw[hcnt]at ha;rw[N7 (show -1<=anc (onR s d T) (dA s) i by omega),Y9 (show anc (onR s d T) (dA s) i<(k:Int) by omega),p0,p9];rfl
 rw[this]
end
section
def gOk(s:A7)(env:aS)(i:Nat):Bool:=match s.2.2.2.2[i]? with|some r=>l9 (x8 (o9 r.2.2.2.2.2.1) 0) true (x8 (uB r.2.2.2.2.2.1 env).2 0)|none=>true
def gAp(s:A7)(env:aS)(i:Nat):Bool:=match s.2.2.2.2[i]? with|some r=>l9 (x8 (o9 r.2.2.2.2.2.1) 0) true (x8 (uB r.2.2.2.2.2.1 env).1.2.2 1)|none=>true
theorem MS(s:A7)(env:aS)(m d:Int):∀(L:d1B) (ap:d1E),(∀i∈L,i<s.2.2.2.2.length)->
  ((∀i∈L,gOk s env i=true)/\bD (FC s env m d) (castL L) ap= .inl (ap++L.map (gAp s env)))\/((∃i∈L,gOk s env i=false)/\∃e:Int×E4,bD (FC s env m d) (castL L) ap= .inr e/\e.2.1≠0)
 |[],ap,_=> .inl ⟨λi hi=>by(cases hi),by simp[castL,bD]⟩|i::L,ap,h=>by
  have hr:s.2.2.2.2[i]? =some (s.2.2.2.2[i]'(h i x9)):=bn _;have hc:castL (i::L)=(i:Int)::castL L:=rfl;rw[hc];unfold bD;have hg:FC s env m d ap (i:Int)=l9 (gOk s env i) (.inl (ap++[gAp s env i])) (.inr (0,(uB (s.2.2.2.2[i]'(h i x9)).2.2.2.2.2.1 env).2,m,d,(i:Int))):=by
   unfold FC gOk gAp;rw[F7,hr];simp only;cases x8 (o9 (s.2.2.2.2[i]'(h i x9)).2.2.2.2.2.1) 0
   .cases x8 (uB (s.2.2.2.2[i]'(h i x9)).2.2.2.2.2.1 env).2 0<;>rfl
   .rfl
  rw[hg];cases ho:gOk s env i
  .refine .inr ⟨⟨i,x9,ho⟩,_,rfl,?_⟩;unfold gOk at ho;rw[hr]at ho;simp only at ho;cases h1:x8 (o9 (s.2.2.2.2[i]'(h i x9)).2.2.2.2.2.1) 0<;>rw[h1]at ho
   .exact yO.1 ho
   .cases ho
  .simp only[o7];rcases MS s env m d L (ap++[gAp s env i]) (λj hj=>h j (by simp[hj]))with⟨g1,g2⟩|⟨⟨j,g1,g2⟩,g3⟩
   .refine .inl ⟨λj hj=>?_,by rw[g2];simp⟩;rcases D6.1 hj with rfl|hj
    .exact ho
    .exact g1 j hj
   .exact .inr ⟨⟨j,by simp[g1],g2⟩,g3⟩
variable {i:Nat}{T:Int}
section
variable {s t:A7} {d:Int} (hs:VR s) (ht:VR t) (hR:SameR s t d)
include ht hR
theorem c0W{i j:Nat}(h:Rn s t d i j)(env:aS):gOk s env i=gOk t env j/\gAp s env i=gAp t env j:=by obtain⟨r,q,h1,h2,_⟩:=id h;have e:=a6r ht hR h h1 h2;unfold gOk gAp;rw[h1,h2];simp only;rw[e.rest];exact⟨rfl,rfl⟩
theorem b5R(hi:i∈V5 s d T):∃j,Rn s t d i j/\j∈V5 t d T:=by
 obtain⟨i1,i2⟩:=jH hi;have hr:s.2.2.2.2[i]? =some s.2.2.2.2[i]:=bn i1;have hd:s.2.2.2.2[i].2.1=d:=by
  have ho:=i2;unfold onR at ho;rw[hr]at ho;simp only at ho;cases g:x8 s.2.2.2.2[i].2.1 d
  .rw[g]at ho;cases ho
  .exact O5.1 g
 obtain⟨j,q,g1,g2⟩:=hR.fwd i _ hr hd;have hn:Rn s t d i j:=⟨_,q,hr,g1,g2.nm,hd,g2.df.symm.trans hd⟩;refine⟨j,hn,?_⟩;unfold V5 onL;refine I7.2 ⟨P8.2 (X6.1 g1).1,?_⟩;rw[←a6s ht hR hn T];exact i2
include hs
theorem b5Q{j:Nat}(hj:j∈V5 t d T):∃i,Rn s t d i j/\i∈V5 s d T:=by
 obtain⟨i1,i2⟩:=jH hj;have hr:t.2.2.2.2[j]? =some t.2.2.2.2[j]:=bn i1;have hd:t.2.2.2.2[j].2.1=d:=by
  have ho:=i2;unfold onR at ho;rw[hr]at ho;simp only at ho;cases g:x8 t.2.2.2.2[j].2.1 d
  .rw[g]at ho;cases ho
  .exact O5.1 g
 obtain⟨i,q,g1,g2⟩:=hR.bwd j _ hr hd;have hn:Rn s t d i j:=⟨q,_,g1,hr,g2.nm,g2.df.trans hd,hd⟩;refine⟨i,hn,?_⟩;unfold V5 onL;refine I7.2 ⟨P8.2 (X6.1 g1).1,?_⟩;rw[a6s ht hR hn T];exact i2
theorem JE{s:A7}{d T:Int}(h:i∈V5 s d T):(V5 s d T)[dE (onR s d T) i]? =some i:=by obtain⟨i1,i2⟩:=jH h;exact CE _ i1 i2
theorem b7I(T:Int)(env:aS):TreeR (V5 s d T).length (V5 t d T).length (aV s d T).2.1 (aV s d T).2.2 ((V5 s d T).map (gAp s env)) (aV t d T).2.1 (aV t d T).2.2 ((V5 t d T).map (gAp t env)) (RP' s t d T):=by
 have mem:∀{i j:Nat},Rn s t d i j->onR s d T i=true->i∈V5 s d T/\j∈V5 t d T:=λ{i j} h ho=>by obtain⟨r,q,h1,h2,_⟩:=id h;unfold V5 onL;exact⟨I7.2 ⟨P8.2 (X6.1 h1).1,ho⟩,I7.2 ⟨P8.2 (X6.1 h2).1,by rw[←a6s ht hR h T];exact ho⟩⟩
 have at1:∀{s:A7} {i:Nat},i∈V5 s d T->dE (onR s d T) i<(V5 s d T).length:=λ{s i} h=>by have:=JE hs ht hR h;exact(X6.1 this).1
 have eqi:∀{s:A7} {i j:Nat},i∈V5 s d T->j∈V5 s d T->dE (onR s d T) i=dE (onR s d T) j->i=j:=λ{s i j} hi hj e=>by have h1:=JE hs ht hR hi;have h2:=JE hs ht hR hj;rw[e,h2]at h1;exact(I9 h1).symm
 have posn:∀{s:A7} (x:Nat),x<(V5 s d T).length->∃i,i∈V5 s d T/\dE (onR s d T) i=x:=λ{s} x hx=>by have e:=bn hx;obtain⟨i1,i2⟩:=jH (G8 hx);exact⟨_,G8 hx,IZ (Qn _ _) (CE _ i1 i2) e⟩
 have uniqL:∀{i j j' :Nat},Rn s t d i j->Rn s t d i j' ->j=j' :=λ{i j j'} h h' =>by obtain⟨r,q,h1,h2,h3,_⟩:=h;obtain⟨r',q',g1,g2,g3,_⟩:=h';rw[h1]at g1;cases g1;exact ht.uniq h2 g2 (h3.symm.trans g3)
 have uniqR:∀{i i' j:Nat},Rn s t d i j->Rn s t d i' j->i=i' :=λ{i i' j} h h' =>by obtain⟨r,q,h1,h2,h3,_⟩:=h;obtain⟨r',q',g1,g2,g3,_⟩:=h';rw[h2]at g2;cases g2;exact hs.uniq h1 g1 (h3.trans g3.symm)
 refine⟨OQ hs d T,OQ ht d T,?_,?_,?_,?_,?_,?_,?_,?_,?_,?_⟩
 .show((V5 s d T).map _).length=_;rw[H7]
 .show((V5 t d T).map _).length=_;rw[H7]
 .rintro x y ⟨i,j,h,ho,rfl,rfl⟩;obtain⟨m1,m2⟩:=mem h ho;have:=at1 m1;have:=at1 m2;omega
 .intro x h0 h1;obtain⟨a,rfl⟩:∃a:Nat,x=(a:Int):=⟨x.toNat,l7⟩;obtain⟨i,hi,rfl⟩:=posn (s:=s) a l7;obtain⟨j,hj,_⟩:=b5R ht hR hi;exact⟨_,i,j,hj,(jH hi).2,rfl,rfl⟩
 .intro y h0 h1;obtain⟨a,rfl⟩:∃a:Nat,y=(a:Int):=⟨y.toNat,l7⟩;obtain⟨j,hj,rfl⟩:=posn (s:=t) a l7;obtain⟨i,hi,him⟩:=b5Q hs ht hR hj;exact⟨_,i,j,hi,(jH him).2,rfl,rfl⟩
 .rintro x y z ⟨i,j,h,ho,rfl,rfl⟩ ⟨i',j',h',ho',e,rfl⟩;have ei:=eqi (mem h ho).1 (mem h' ho').1 l7;subst ei;rw[uniqL h h']
 .rintro x y z ⟨i,j,h,ho,rfl,rfl⟩ ⟨i',j',h',ho',rfl,e⟩;have ej:=eqi (mem h ho).2 (mem h' ho').2 l7;subst ej;rw[uniqR h h']
 .rintro x y ⟨i,j,h,ho,rfl,rfl⟩;obtain⟨m1,m2⟩:=mem h ho;have p1:=JE hs ht hR m1;have p2:=JE hs ht hR m2;show((V5 s d T).map (Bg s)).getD ((dE (onR s d T) i:Nat):Int).toNat 0=((V5 t d T).map (Bg t)).getD ((dE (onR t d T) j:Nat):Int).toNat 0;rw[D8,D8,qY,qY,I8,I8,p1,p2];obtain⟨r,q,h1,h2,_⟩:=id h;have e:=a6r ht hR h h1 h2;show Bg s i=Bg t j;unfold Bg;rw[h1,h2];simp only;rw[e.rest]
 .rintro x y ⟨i,j,h,ho,rfl,rfl⟩;obtain⟨m1,m2⟩:=mem h ho;have p1:=JE hs ht hR m1;have p2:=JE hs ht hR m2;unfold apF;rw[D8,D8,qY,qY,I8,I8,p1,p2];show gAp s env i=gAp t env j;exact(c0W ht hR h env).2
 .rintro x y p q ⟨i,j,h,ho,ex,ey⟩ hp hq;have ex:x=dE (onR s d T) i:=l7;have ey:y=dE (onR t d T) j:=l7;subst ex;subst ey;obtain⟨m1,m2⟩:=mem h ho;have p1:=JE hs ht hR m1;have p2:=JE hs ht hR m2;have hp:((V5 s d T).map (anc (onR s d T) (dA s)))[dE (onR s d T) i]? =some p:=hp;have hq:((V5 t d T).map (anc (onR t d T) (dA t)))[dE (onR t d T) j]? =some q:=hq;rw[I8,p1]at hp;rw[I8,p2]at hq;have hp:=I9 hp;have hq:=I9 hq;rw[←hp,←hq];exact b7W hs ht hR T i j h
theorem a4M(env:aS)(m:Int):((Z4 s env m d).2.1≠0/\(Z4 t env m d).2.1≠0)\/
  ((Z4 s env m d).2.1=0/\(Z4 t env m d).2.1=0/\(((Z4 s env m d).1=-1/\(Z4 t env m d).1=-1)\/((Z4 s env m d).1=-2/\(Z4 t env m d).1=-2)\/∃i j,Rn s t d i j/\(Z4 s env m d).1=(i:Int)/\(Z4 t env m d).1=(j:Int))):=by
 have T:=b7I hs ht hR env.1 env;have hsel:=T.sel (by rw[H7]) (by rw[H7]);have e1:(aV s d env.1).1=castL (V5 s d env.1):=rfl;have e2:(aV t d env.1).1=castL (V5 t d env.1):=rfl;unfold Z4;rw[e1,e2];rcases MS s env m d (V5 s d env.1) [] (λi hi=>(jH hi).1)with⟨g1,g2⟩|⟨⟨i,g1,g2⟩,e,g3,g4⟩
 .rcases MS t env m d (V5 t d env.1) [] (λi hi=>(jH hi).1)with⟨k1,k2⟩|⟨⟨j,k1,k2⟩,_⟩
  .rw[g2,k2];simp only[G6];right;rcases hsel with⟨q1,q2⟩|⟨q1,q2⟩|⟨i,j,q1,q2,q3,q4⟩
   .rw[q1,q2];exact⟨rfl,rfl,.inl ⟨rfl,rfl⟩⟩
   .rw[q1,q2];exact⟨rfl,rfl,.inr (.inl ⟨rfl,rfl⟩)⟩
   .obtain⟨r,q,h1,h2,_⟩:=id q1;have m1:i∈V5 s d env.1:=by unfold V5 onL;exact I7.2 ⟨P8.2 (X6.1 h1).1,q2⟩
    have m2:j∈V5 t d env.1:=by unfold V5 onL;exact I7.2 ⟨P8.2 (X6.1 h2).1,by rw[←a6s ht hR q1 env.1];exact q2⟩
    rw[q3,q4,N7 (show(0:Int)<=(dE (onR s d env.1) i:Nat) by omega),N7 (show(0:Int)<=(dE (onR t d env.1) j:Nat) by omega),o6,o6,D8,D8];refine⟨rfl,rfl,.inr (.inr ⟨i,j,q1,?_,?_⟩)⟩
    .show(castL (V5 s d env.1)).getD _ 0=_;rw[qY,MH (JE hs ht hR m1)];rfl
    .show(castL (V5 t d env.1)).getD _ 0=_;rw[qY,MH (JE hs ht hR m2)];rfl
  .obtain⟨i,hi,him⟩:=b5Q hs ht hR k1;have:=g1 i him;rw[(c0W ht hR hi env).1,k2]at this;cases this
 .left;obtain⟨j,hj,hjm⟩:=b5R ht hR g1;rcases MS t env m d (V5 t d env.1) [] (λi hi=>(jH hi).1)with⟨k1,k2⟩|⟨_,e',k3,k4⟩
  .have:=k1 j hjm;rw[←(c0W ht hR hj env).1,g2]at this;cases this
  .rw[g3,k3];exact⟨g4,k4⟩
theorem b3y(env:aS)(m:Int):(∃v i j,xI s env m d= .inl (v,i)/\xI t env m d= .inl (v,j))\/(∃e e',xI s env m d= .inr e/\xI t env m d= .inr e'):=by
 unfold xI;rcases a4M hs ht hR env m with⟨h1,h2⟩|⟨h1,h2,h3⟩
 .rw[O9 h1,O9 h2];exact .inr ⟨_,_,rfl,rfl⟩
 .rw[N9 h1,N9 h2,o7,o7];rcases h3 with⟨k1,k2⟩|⟨k1,k2⟩|⟨i,j,q1,k1,k2⟩
  .rw[k1,k2];exact .inr ⟨_,_,rfl,rfl⟩
  .rw[k1,k2];exact .inr ⟨_,_,rfl,rfl⟩
  .rw[k1,k2,O9 (show(i:Int)≠-1 by omega),O9 (show(i:Int)≠-2 by omega),O9 (show(j:Int)≠-1 by omega),O9 (show(j:Int)≠-2 by omega),F7,F7];obtain⟨r,q,h1,h2,_⟩:=id q1;have e:=a6r ht hR q1 h1 h2;rw[h1,h2];simp only[o6];rw[e.rest];cases x8 (uB q.2.2.2.2.2.2.1 env).2 0
   .exact .inr ⟨_,_,rfl,rfl⟩
   .exact .inl ⟨_,_,_,rfl,rfl⟩
end
end
section
structure Two (s t:A7) (nS nT:d1E) (Q:Int->Prop):Prop where
 n:t.2.2.2.1.length=s.2.2.2.1.length
 vs:VR s
 vt:VR t
 os:Us s (je s).1/\∀d,0<=d->d<nD s->d∈(je s).1
 ot:Us t (je t).1/\∀d,0<=d->d<nD t->d∈(je t).1
 at' :∀d,ND nT d->(0<=d/\d<nD s)/\ND nS d/\SameR s t d/\(∀x∈O6 t d,ND nT x)/\Un t (λx=>x∈O6 t d) Q d/\Un s (λx=>x∈O6 s d) Q d
theorem c0Y{s t:A7}{a b:aS}{m:Int}{nS nT:d1E}{Q:Int->Prop}{X:DB}(hT:Two s t nS nT Q)(hE:SimE Q a b)(ha:EvOk a)(hb:EvOk b)(hX:scS s a m nS= .inl X):
  ∃Y,scS t b m nT= .inl Y/\∀x,ND nT x->F9 Y.1 x=F9 X.1 x:=by
 have hXl:=Fa hX;have key:∀(suf pre:d1A) (B:DB),(je t).1=pre++suf->B.1.length=s.2.2.2.1.length/\B.2.length=s.2.2.2.1.length->(∀x∈pre,ND nT x->F9 B.1 x=F9 X.1 x)->
   ∃Y,bD (scG t b m nT) suf B= .inl Y/\∀x∈pre++suf,ND nT x->F9 Y.1 x=F9 X.1 x:=by
  intro suf;induction suf with
  |nil=>intro pre B he hl hi;exact⟨B,rfl,λx hx=>hi x (by simpa using hx)⟩|cons d suf ih=>
   intro pre B he hl hi;have hdr:=hT.ot.1.2.1 d (by rw[he];simp);have hnn:nD t=nD s:=by unfold nD o9;rw[hT.n]
   have step:∃B2,scG t b m nT B d= .inl B2/\(B2.1.length=s.2.2.2.1.length/\B2.2.length=s.2.2.2.1.length)/\∀x∈pre++[d],ND nT x->F9 B2.1 x=F9 X.1 x:=by
    unfold scG;cases hn:(F9 nT d).getD false
    .refine⟨B,rfl,hl,λx hx hxn=>?_⟩;rcases C9.1 hx with hx|hx
     .exact hi x hx hxn
     .rw[D9.1 hx]at hxn;unfold ND at hxn;rw[hn]at hxn;cases hxn
    .obtain⟨_,k2,k3,k4,k5,k6⟩:=hT.at' d hn;obtain⟨v,r,f1,f2,f3⟩:=h_ ha hT.os.1 hX (hT.os.2 d hdr.1 l7) k2 k6;have hd:∃j,xI t (zh a X.1) m d= .inl (v,j):=by
      rcases b3y hT.vs hT.vt k3 (zh a X.1) m with⟨v',i,j,g1,g2⟩|⟨e,e',g1,g2⟩
      .rw[f3]at g1;cases g1;exact⟨j,g2⟩
      .rw[f3]at g1;cases g1
     obtain⟨j,hd⟩:=hd;have hsim:=PP (s:=t) (hE.at (P:=λx=>x∈O6 t d) (D:=X.1) (D' :=B.1) (by rw[hXl.1,hl.1]) (λx hx=>(hi x (hT.ot.1.2.2 pre d suf he x hx) (k4 x hx)).symm)) (Ah ha _) (Ah hb _) k5 m;rw[hd]at hsim;simp only[o7];rw[←hsim];refine⟨_,rfl,⟨by simp[hl.1],by simp[hl.2]⟩,λx hx hxn=>?_⟩;show F9 (B.1.set d.toNat v) x=_;by_cases e:x=d
     .subst e;rw[TL _ hdr.1 (by unfold o9;unfold nD o9 at hdr hnn;omega),f1]
     .rw[Ju _ hdr.1 e];rcases C9.1 hx with hx|hx
      .exact hi x hx hxn
      .exact absurd (D9.1 hx) e
   obtain⟨B2,h1,h2,h3⟩:=step;obtain⟨Y,h4,h5⟩:=ih (pre++[d]) B2 (by rw[he];simp) h2 h3;refine⟨Y,?_,λx hx=>h5 x (by simpa using hx)⟩;unfold bD;rw[h1];exact h4
 obtain⟨Y,h1,h2⟩:=key (je t).1 [] (List.replicate t.2.2.2.1.length (0,0,0),List.replicate t.2.2.2.1.length 0) rfl ⟨by simp[hT.n],by simp[hT.n]⟩ (λx hx=>by cases hx);refine⟨Y,h1,λx hx=>h2 x ?_ hx⟩;have hr:=(hT.at' x hx).1;have hnn:nD t=nD s:=by unfold nD o9;rw[hT.n]
 exact hT.ot.2 x hr.1 l7
theorem c3I{l l' :U6}{c:aF}{ms mt:A7}{nM nN:d1E}(htb:l'.2.1=l.2.1)(hTb:∀t∈l.2.1,qO t)(hT:Two ms mt nM nN (λ_=>False)):
  ∀(L:List (List V3×Nat)) (b b' X:List DB),(b.length=b'.length/\∀x,ND nN x->b.map (λv=>F9 v.1 x)=b'.map (λv=>F9 v.1 x))->bD (mG l c ms nM) L b= .inl X->
   ∃Y,bD (mG l' c mt nN) L b' = .inl Y/\X.length=Y.length/\∀x,ND nN x->X.map (λv=>F9 v.1 x)=Y.map (λv=>F9 v.1 x)
 |[],b,b',X,hb,h=>by cases h;exact⟨b',rfl,hb.1,hb.2⟩|a::L,b,b',X,hb,h=>by
  unfold bD at h;cases hg:mG l c ms nM b a with
  |inr e=>rw[hg]at h;cases h|inl b1=>
   rw[hg]at h;simp only at h;unfold mG at hg;cases hs:scS ms (DZ l c a.1) (a.2:Int) nM with
   |inr e=>rw[hs]at hg;cases hg|inl x=>
    rw[hs]at hg;cases hg;have he:DZ l' c a.1=DZ l c a.1:=by unfold DZ;rw[htb]
    obtain⟨y,y1,y2⟩:=c0Y hT (b:=DZ l c a.1) ⟨rfl,rfl,rfl,rfl,λ_ _=>rfl⟩ (KX hTb c a.1) (KX hTb c a.1) hs;obtain⟨Y,h3,h4,h5⟩:=c3I htb hTb hT L (b++[x]) (b' ++[y]) X ⟨by simp[hb.1],λz hz=>by rw[bY,bY,hb.2 z hz];exact congrArg (λq=>_++[q]) (y2 z hz).symm⟩ h;refine⟨Y,?_,h4,h5⟩;unfold bD mG;rw[he,y1];exact h3
end
section
variable {s:A7}
theorem b2M{l:U6}(h:(fB l).1=0)(hs:s∈l.2.2):VR s:=by obtain⟨i,hi,rfl⟩:=X7 hs;exact⟨_,λj r hr=>a4g (Kt h (bn hi) hr)⟩
theorem Yy{l:U6}(h:(fB l).1=0){k:Int}(hs:F9 l.2.2 k=some s):VR (L9 l s):=by
 rcases Ac h hs with⟨_,_,g⟩|⟨_,_,_,_,g⟩
 .rw[g];exact⟨BO l s,λj r hr=>by cases hr⟩
 .exact b2M h g
def DpS(s:A7)(d x:Int):Prop:=x=d\/x∈bC s d
def DpM(s m:A7)(d x:Int):Prop:=∃z∈mbS s d,DpS m z x
abbrev wS(s:A7)(d:Int):d1E:=JS s (uC s.2.2.2.1.length) d
abbrev wM(s m:A7)(d:Int):d1E:=Dk m (uC m.2.2.2.1.length) (mbS s d)
variable {d:Int}
theorem XE(h0:0<=d)(h1:d<nD s)(x:Int):ND (wS s d) x↔DpS s d x:=by
 rw[b9H,b4m (FT _) h0 h1];unfold DpS;constructor
 .rintro(h|h|h)
  .unfold uC at h;rw[WV]at h;cases h
  .exact .inl h
  .exact .inr h
 .rintro(h|h)
  .exact .inr (.inl h)
  .exact .inr (.inr h)
variable {m:A7}
theorem a1D(hr:∀x∈mbS s d,0<=x/\x<nD m)(x:Int):ND (wM s m d) x↔DpM s m d x:=by
 rw[b9H,b4l _ (FT _) hr];unfold DpM DpS;constructor
 .rintro(h|h)
  .unfold uC at h;rw[WV]at h;cases h
  .exact h
 .exact λh=> .inr h
variable {x:Int}
theorem TR :x∈mbS s d↔inD (nD s) d=true/\∃r∈s.2.2.2.2,DpS s d r.2.1/\x∈Bf r:=by
 unfold mbS;cases hq:inD (nD s) d
 .simp
 .rw[o7,jk,b0d];constructor
  .rintro⟨r,hr,h1,h2⟩;exact⟨rfl,r,hr,(Ob _ _ _).1 (yA.1 h1),h2⟩
  .rintro⟨_,r,hr,h1,h2⟩;exact⟨r,hr,yA.2 ((Ob _ _ _).2 h1),h2⟩
variable {y:Int}
theorem DpS.trans(h:DpS s d x)(k:DpS s x y):DpS s d y:=by
 rcases k with rfl|k
 .exact h
 .obtain⟨_,t1,t2,_⟩:=pR s d;obtain⟨_,_,_,u⟩:=pR s x;refine .inr (u (λz=>z∈bC s d) (λz hz=>?_) (λz hz w hw=>t2 z hz w hw) y k);rcases h with rfl|h
  .exact t1 z hz
  .exact t2 x h z hz
theorem DpS.dir(h:DpS s d x)(k:y∈O6 s x):DpS s d y:=h.trans (.inr ((pR s x).2.1 y k))
theorem DpS.bd(h:DpS s d x)(h0:0<=d)(h1:d<nD s):0<=x/\x<nD s:=by
 rcases h with rfl|h
 .exact⟨h0,h1⟩
 .exact zZ h
theorem UQ{n d:Int} :inD n d=true↔0<=d/\d<n:=by
 unfold inD;cases h:L8 0 d
 .rw[Bl]at h;simp only[o6];constructor
  .intro x;cases x
  .intro x;omega
 .rw[iQ]at h;simp only[o7];rw[jF];omega
theorem DpM.up(h0:0<=d)(h1:d<nD s)(h:DpS s d x)(k:DpM s m x y):DpM s m d y:=by obtain⟨z,hz,hy⟩:=k;obtain⟨_,r,hr,h2,h3⟩:=TR.1 hz;exact⟨z,TR.2 ⟨UQ.2 ⟨h0,h1⟩,r,hr,h.trans h2,h3⟩,hy⟩
theorem DpM.bd(hr:∀x∈mbS s d,0<=x/\x<nD m)(h:DpM s m d x):0<=x/\x<nD m:=by obtain⟨z,hz,hx⟩:=h;exact hx.bd (hr z hz).1 (hr z hz).2
theorem Uj(h:VR s)(d:Int):SameR s s d:=by
 have key:∀(i:Nat) (r:Z7),s.2.2.2.2[i]? =some r->EqR s s r r:=λi r hr=>by
  refine⟨rfl,rfl,rfl,?_⟩;rcases h.par hr with e|⟨p,q,e,_,hq,_⟩
  .have:r.2.2.1=-1:=by rw[←e];unfold dA;rw[hr]
   exact .inl ⟨this,this⟩
  .have:r.2.2.1=(p:Int):=by rw[←e];unfold dA;rw[hr]
   exact .inr ⟨p,p,q,q,this,this,hq,hq,rfl⟩
 exact⟨λi r hr _=>⟨i,r,hr,key i r hr⟩,λj q hq _=>⟨j,q,hq,key j q hq⟩⟩
structure EvC (l:U6) (k:Int) (s:A7) (c:aF) (d:Int) (X:DB) (b:List DB):Prop where
 hL:SmL l
 hC:SmC c
 hT:∀t∈l.2.1,qO t
 hs:F9 l.2.2 k=some s
 ha:(Bi l k c true d).1=0
 ev:PR l s c (wS s d) (wM s (L9 l s) d)= .inl (X,b)
section
variable {l:U6} {k:Int} {s:A7} {c:aF} {d:Int} {X:DB} {b:List DB} (h:EvC l k s c d X b)
include h
theorem EvC.hv:(fB l).1=0:=(QV h.ha).1
theorem EvC.dd:0<=d/\d<nD s:=Zu h.ha h.hs
theorem EvC.sm:SmS s:=h.hL.sc s (bg h.hs).2.2.1
theorem EvC.smm:SmS (L9 l s):=Qg h.hL h.hv h.hs
theorem EvC.mb:∀x∈mbS s d,0<=x/\x<nD (L9 l s):=WQ h.hv (bg h.hs).2.2.2 d
theorem EvC.mb2(x:Int):∀y∈mbS s x,0<=y/\y<nD (L9 l s):=WQ h.hv (bg h.hs).2.2.2 x
theorem EvC.os:Us s (je s).1/\∀d,0<=d->d<nD s->d∈(je s).1:=Oh h.sm (Kr h.hv (bg h.hs).2.2.2)
theorem EvC.om:Us (L9 l s) (je (L9 l s)).1/\∀d,0<=d->d<nD (L9 l s)->d∈(je (L9 l s)).1:=Oh h.smm (a5E h.hv h.hs)
theorem EvC.refp(hx:DpS s d x):Un s (λy=>y∈O6 s x) (λy=>ND (wM s (L9 l s) d) y) x:=λr hr hd e he=>
 ⟨(Jm h.hv (bg h.hs).2.2.2 x r hr hd e he).1,λy hy=>(a1D h.mb y).2 ⟨y,TR.2 ⟨UQ.2 h.dd,r,hr,by rw[hd];exact hx,by
  unfold Bf;rcases he with rfl|rfl
  .exact I5 _ hy
  .exact aK _ hy⟩,.inl rfl⟩⟩
theorem EvC.mS' :mS l c (L9 l s) (wM s (L9 l s) d)= .inl b/\scS s (uf l s c b) (-1) (wS s d)= .inl X:=by
 have he:=h.ev;unfold PR at he;cases hb:mS l c (L9 l s) (wM s (L9 l s) d)with
 |inr e=>rw[hb]at he;cases he|inl b0=>
  rw[hb]at he;simp only at he;cases hx:scS s (uf l s c b0) (-1) (wS s d)with
  |inr e=>rw[hx]at he;cases he|inl X0=>rw[hx]at he;cases he;exact⟨rfl,hx⟩
theorem EvC.bl:b.length=c.2.2.length:=a3t h.mS'.1
theorem EvC.eo:EvOk (uf l s c b):=Np h.hT s c (by have:=h.bl;have:=h.hC.nm;omega)
theorem EvC.fix(hx:DpS s d x):∃v r,F9 X.1 x=some v/\F9 X.2 x=some r/\xI s (zh (uf l s c b) X.1) (-1) x= .inl (v,r):=by have hb:=hx.bd h.dd.1 h.dd.2;exact h_ h.eo h.os.1 h.mS'.2 (h.os.2 x hb.1 hb.2) ((XE h.dd.1 h.dd.2 x).2 hx) (h.refp hx)
theorem EvC.mem{j:Nat}{v:List V3}(hj:c.2.2[j]? =some v):∃x,b[j]? =some x/\scS (L9 l s) (DZ l c v) (j:Int) (wM s (L9 l s) d)= .inl x:=by obtain⟨Y,e1,e2,e3⟩:=c3H c.2.2.zipIdx [] b h.mS'.1;rw[G6]at e1;subst e1;exact e3 j (v,j) (by rw[Be,hj];simp)
theorem EvC.mfix{j:Nat}{v:List V3}(hj:c.2.2[j]? =some v)(hx:DpM s (L9 l s) d x):∃D,b[j]? =some D/\scS (L9 l s) (DZ l c v) (j:Int) (wM s (L9 l s) d)= .inl D/\∃w r,F9 D.1 x=some w/\F9 D.2 x=some r/\xI (L9 l s) (zh (DZ l c v) D.1) (j:Int) x= .inl (w,r):=by obtain⟨D,h1,h2⟩:=h.mem hj;have hb:=hx.bd h.mb;exact⟨D,h1,h2,h_ (KX h.hT c v) h.om.1 h2 (h.om.2 x hb.1 hb.2) ((a1D h.mb x).2 hx) (vk h.hv h.hs x)⟩
theorem EvC.two(hx:DpS s d x):Two s s (wS s d) (wS s x) (λy=>ND (wM s (L9 l s) x) y):=by
 have hb:=hx.bd h.dd.1 h.dd.2;have hk:=bg h.hs;refine⟨rfl,b2M h.hv hk.2.2.1,b2M h.hv hk.2.2.1,h.os,h.os,λy hy=>?_⟩;have hy' :=(XE hb.1 hb.2 y).1 hy;have hr:Un s (λz=>z∈O6 s y) (λz=>ND (wM s (L9 l s) x) z) y:=λr hr hd e he=>
  ⟨(Jm h.hv hk.2.2.2 y r hr hd e he).1,λz hz=>(a1D (h.mb2 x) z).2 ⟨z,TR.2 ⟨UQ.2 hb,r,hr,by rw[hd];exact hy',by
   unfold Bf;rcases he with rfl|rfl
   .exact I5 _ hz
   .exact aK _ hz⟩,.inl rfl⟩⟩
 exact⟨hy'.bd hb.1 hb.2,(XE h.dd.1 h.dd.2 y).2 (hx.trans hy'),Uj (b2M h.hv hk.2.2.1) y,λz hz=>(XE hb.1 hb.2 z).2 (hy'.dir hz),hr,hr⟩
theorem EvC.twoM(hx:DpS s d x):Two (L9 l s) (L9 l s) (wM s (L9 l s) d) (wM s (L9 l s) x) (λ_=>False):=by refine⟨rfl,Yy h.hv h.hs,Yy h.hv h.hs,h.om,h.om,λy hy=>?_⟩;have hy' :=(a1D (h.mb2 x) y).1 hy;refine⟨hy'.bd (h.mb2 x),(a1D h.mb y).2 (hy'.up h.dd.1 h.dd.2 hx),Uj (Yy h.hv h.hs) y,λz hz=>(a1D (h.mb2 x) z).2 ?_,vk h.hv h.hs y,vk h.hv h.hs y⟩;obtain⟨w,hw,hyw⟩:=hy';exact⟨w,hw,hyw.dir hz⟩
theorem EvC.at(hx:DpS s d x):∃v r,F9 X.1 x=some v/\F9 X.2 x=some r/\TG l s c x=(v,r,0,0,0,0)/\xI s (zh (uf l s c b) X.1) (-1) x= .inl (v,r):=by
 have hb:=hx.bd h.dd.1 h.dd.2;obtain⟨v,r,f1,f2,f3⟩:=h.fix hx;obtain⟨m1,m2⟩:=h.mS';obtain⟨b',g1,g2,g3⟩:=c3I rfl h.hT (h.twoM hx) c.2.2.zipIdx [] [] b ⟨rfl,λ_ _=>rfl⟩ m1;have hE:SimE (λz=>ND (wM s (L9 l s) x) z) (uf l s c b) (uf l s c b'):=by refine⟨rfl,rfl,rfl,by simp[uf,g2],λz hz=>?_⟩;have:=g3 z hz;simp only[uf,qL];exact this
 have hbl:=h.bl;have hcm:=h.hC.nm;have hb' :EvOk (uf l s c b'):=Np h.hT s c l7;obtain⟨Y,y1,y2⟩:=c0Y (h.two hx) hE h.eo hb' m2;have hself:DpS s x x:=.inl rfl;have hnx:=(XE hb.1 hb.2 x).2 hself;have hrx:Un s (λz=>z∈O6 s x) (λz=>ND (wM s (L9 l s) x) z) x:=(h.two hx).at' x hnx |>.2.2.2.2.1;obtain⟨v',r',f1',f2',f3'⟩:=h_ hb' h.os.1 y1 (h.os.2 x hb.1 hb.2) hnx hrx;have hsim:=PP (s:=s) (hE.at (P:=λz=>z∈O6 s x) (D:=X.1) (D' :=Y.1) (by rw[(Fa m2).1,(Fa y1).1]) (λz hz=>(y2 z ((XE hb.1 hb.2 z).2 (hself.dir hz))).symm)) (Ah h.eo _) (Ah hb' _) hrx (-1);rw[f3,f3']at hsim;cases hsim;refine⟨v,r,f1,f2,?_,f3⟩;unfold TG PR;rw[show mS l c (L9 l s) (Dk (L9 l s) (uC (L9 l s).2.2.2.1.length) (mbS s x))= .inl b' from g1];simp only;rw[show scS s (uf l s c b') (-1) (JS s (uC s.2.2.2.1.length) x)= .inl Y from y1];have e1:Y.1.getD x.toNat (0,0,0)=v:=by unfold F9 at f1';rw[if_pos hb.1]at f1';rw[qY,f1'];rfl
 have e2:Y.2.getD x.toNat 0=r:=by unfold F9 at f2';rw[if_pos hb.1]at f2';rw[qY,f2'];rfl
 show(Y.1.getD x.toNat (0,0,0),Y.2.getD x.toNat 0,(0:Int),(0:Int),(0:Int),(0:Int))=_;rw[e1,e2]
end
end
section
theorem WF{α β ρ ρ' :Type}{G:β->α->β⊕ρ}{H:β->α->β⊕ρ'}(hG:∀b a b',G b a= .inl b' ->H b a= .inl b'):∀(l:List α) (b r:β),bD G l b= .inl r->bD H l b= .inl r
 |[],b,r,h=>by cases h;rfl|a::l,b,r,h=>by
  unfold bD at h ⊢;cases hg:G b a with
  |inr e=>rw[hg]at h;cases h|inl b' =>rw[hg]at h;rw[hG b a b' hg];exact WF hG l b' r h
variable {s:A7}{d:Int}{env:aS}{m:Int}
theorem c0F(m' :Int)(b:d1E)(i:Int)(b' :d1E)(h:FC s env m d b i= .inl b'):FC s env m' d b i= .inl b' :=by
 unfold FC at h ⊢;cases hr:F9 s.2.2.2.2 i with
 |none=>rw[hr]at h;cases h;rfl|some r=>
  rw[hr]at h;simp only at h ⊢;cases h1:x8 (o9 r.2.2.2.2.2.1) 0<;>rw[h1]at h
  .cases h2:x8 (uB r.2.2.2.2.2.1 env).2 0<;>rw[h2]at h
   .cases h
   .exact h
  .exact h
theorem b3u(m' :Int)(h:(Z4 s env m d).2.1=0):Z4 s env m' d=Z4 s env m d:=by
 unfold Z4 at h ⊢;cases hf:bD (FC s env m d) (aV s d env.1).1 []with
 |inr e=>rw[hf]at h;exact absurd h (uQ (FC s env m d) (λr=>r.2.1≠0) UK _ _ _ hf)|inl ap=>rw[WF (c0F m') _ _ _ hf]
theorem c0C(m' :Int){v:V3×Int}(h:xI s env m d= .inl v):xI s env m' d= .inl v:=by
 unfold xI at h ⊢;cases h0:x8 (Z4 s env m d).2.1 0<;>rw[h0]at h
 .cases h
 rw[b3u m' (O5.1 h0),h0];cases h1:x8 (Z4 s env m d).1 (-1)<;>rw[h1]at h
 case true=>cases h
 cases h2:x8 (Z4 s env m d).1 (-2)<;>rw[h2]at h
 case true=>cases h
 simp only[o7,o6]at h ⊢;cases hl:F9 s.2.2.2.2 (Z4 s env m d).1 with
 |none=>rw[hl]at h;cases h|some q=>
  rw[hl]at h;simp only at h ⊢;cases h4:x8 (uB q.2.2.2.2.2.2.1 env).2 0<;>rw[h4]at h
  .cases h
  .exact h
theorem c7S{need:d1E}(m' :Int){X:DB}(h:scS s env m need= .inl X):scS s env m' need= .inl X:=by
 unfold scS at h ⊢;refine WF (λb a b' hg=>?_) _ _ _ h;unfold scG at hg ⊢;cases hn:(F9 need a).getD false<;>rw[hn]at hg
 .exact hg
 simp only[o7]at hg ⊢;cases hd:xI s (zh env b.1) m a with
 |inr e=>rw[hd]at hg;cases hg|inl v=>rw[hd]at hg;rw[c0C m' hd];exact hg
variable {l:U6}{c:aF}{k:Int}
theorem Tv(h:(Bi l k c true d).1=0):(Bi l k c false 0).1=0:=by
 unfold Bi at h ⊢;cases h0:x8 (fB l).1 0<;>rw[h0]at h
 .exact h
 cases hs:F9 l.2.2 k with
 |none=>rw[hs]at h;exact h|some s=>
  rw[hs]at h;simp only[o7,o6]at h ⊢;cases h1:(l9 (E8 d 0) true (L8 (o9 s.2.2.2.1) d))<;>rw[h1]at h
  .exact h
  .exact absurd (show(6:Int)=0 from h) G7
theorem Wl(h:(Bi l k c true d).1=0):(Ba l k c).2.2=0:=by
 have h:=Tv h;unfold Bi at h;cases h0:x8 (fB l).1 0<;>rw[h0]at h
 .exact absurd (show(1:Int)=0 from h) G7
 cases hs:F9 l.2.2 k with
 |none=>rw[hs]at h;exact absurd (show(6:Int)=0 from h) G7|some s=>
  rw[hs]at h;simp only[o7,o6]at h;cases h1:x8 (Ba l k c).2.2 0<;>rw[h1]at h
  .simp only[o6]at h;exact h
  .exact O5.1 h1
theorem ZA(h1:(Ba l k c).2.2=0)(hs:F9 l.2.2 k=some s):E8 c.1 0=false/\E8 109572 c.1=false/\(BP l.1 s.2.2.1 c.2.1).2=0/\E8 (nV l s).2 (o9 c.2.2)=false/\∀i,i<c.2.2.length->WR l.1 (nV l s).1 c.2.2 i=none:=by
 unfold Ba at h1;rw[hs]at h1;simp only at h1;cases g1:E8 c.1 0<;>rw[g1]at h1
 case true=>exact absurd (show(3:Int)=0 from h1) G7
 cases g2:E8 109572 c.1<;>rw[g2]at h1
 case true=>exact absurd (show(3:Int)=0 from h1) G7
 cases g3:x8 (BP l.1 s.2.2.1 c.2.1).2 0<;>rw[g3]at h1
 .simp only[o6]at h1;rw[N9 h1]at g3;cases g3
 have g3:=O5.1 g3;cases g4:E8 (nV l s).2 (o9 c.2.2)<;>rw[g4]at h1
 case true=>exact absurd (show(4:Int)=0 from h1) G7
 simp only[o6,o7]at h1;refine⟨rfl,rfl,g3,rfl,vF ?_⟩;cases hf:ay c.2.2.length (WR l.1 (nV l s).1 c.2.2)with
 |none=>rfl|some r=>
  exfalso;rw[hf]at h1;simp only at h1;unfold ay at hf;obtain⟨i,hi,hp⟩:=List.exists_of_findSome?_eq_some hf;unfold WR at hp;cases hv:c.2.2[i]? with
  |none=>rw[hv]at hp;cases hp|some vs=>
   rw[hv]at hp;simp only at hp;cases hq:x8 (BP l.1 (nV l s).1 vs).2 0<;>rw[hq]at hp
   .cases hp;rw[N9 h1]at hq;cases hq
   .cases hp
variable {j:Nat}{v:List V3}
theorem b4j(h:∀i,i<c.2.2.length->WR l.1 (nV l s).1 c.2.2 i=none)(hj:c.2.2[j]? =some v):(BP l.1 (nV l s).1 v).2=0:=by
 have:=h j (X6.1 hj).1;unfold WR at this;rw[hj]at this;simp only at this;cases hq:x8 (BP l.1 (nV l s).1 v).2 0<;>rw[hq]at this
 .cases this
 .exact O5.1 hq
theorem a7a{en:List jA}{fs:List jB}{vs:List V8}(h:(BP en fs vs).2=0):vs.length=fs.length:=by
 unfold BP at h;cases h1:E8 (o9 vs) (o9 fs)<;>rw[h1]at h
 case true=>exact absurd (show(5:Int)=0 from h) G7
 cases h2:E8 (o9 fs) (o9 vs)<;>rw[h2]at h
 case true=>exact absurd (show(4:Int)=0 from h) G7
 rw[iE]at h1 h2;simp only[o9]at h1 h2;omega
variable {x:Int}
section
variable {l:U6} {k:Int} {s:A7} {c:aF} {d:Int} {X:DB} {b:List DB} (h:EvC l k s c d X b)
include h
theorem EvC.scm(hj:c.2.2[j]? =some v):F9 l.2.2 s.2.1=some (L9 l s)/\0<=s.2.1/\(L9 l s).2.1=-1/\L9 l (L9 l s)=wR:=by
 rcases Ac h.hv h.hs with⟨_,g,_⟩|⟨g1,g2,g3,g,_⟩
 .have:=b0W (Tv h.ha) h.hs (jF.1 g);rw[this]at hj;cases hj
 .have hm:=XD h.hv (bg h.hs).2.2.2;unfold xQ at hm;have hne:x8 s.2.1 (-1)=false:=O9 (by rw[iQ]at g1;omega);rw[hne,g2,g]at hm;simp only[o6]at hm;have hm1:(L9 l s).2.1=-1:=by
   cases hq:L8 (((k.toNat:Nat)):Int) s.2.1<;>rw[hq]at hm
   case true=>cases hm
   cases hq2:x8 (L9 l s).2.1 (-1)<;>rw[hq2]at hm
   .cases hm
   .exact O5.1 hq2
  exact⟨g,iQ.1 g1,hm1,a2q l s hm1⟩
theorem EvC.argm(hj:c.2.2[j]? =some v)(h0:0<=x)(h1:x<nD (L9 l s)):(Bi l s.2.1 (c.1,v,[]) true x).1=0:=by
 obtain⟨e1,e2,e3,e4⟩:=h.scm hj;obtain⟨p1,p2,p3,p4,p5⟩:=ZA (Wl h.ha) h.hs;have hmi:nV l s=((L9 l s).2.2.1,8):=by unfold nV;rw[e1]
 have pv:=b4j p5 hj;rw[hmi]at pv;have hc:(Ba l s.2.1 (c.1,v,[])).2.2=0:=by
  unfold Ba;rw[e1];simp only;rw[p1,p2,show x8 (BP l.1 (L9 l s).2.2.1 v).2 0=true from N9 pv];simp only[o6,o7];have hz:E8 (nV l (L9 l s)).2 (o9 ([]:List (List V3)))=false:=by
   unfold nV;rw[e3];have hn:F9 l.2.2 (-1)=none:=by unfold F9;rw[if_neg l7]
   rw[hn];rfl
  rw[hz];rfl
 unfold Bi;rw[N9 h.hv,e1];simp only[o7];rw[N7 h0,show L8 (o9 (L9 l s).2.2.2.1) x=false from Y9 h1];simp only[o6];rw[N9 hc];rfl
theorem EvC.two2(hx:DpM s (L9 l s) d x):Two (L9 l s) (L9 l s) (wM s (L9 l s) d) (wS (L9 l s) x) (λ_=>False):=by have hb:=hx.bd h.mb;refine⟨rfl,Yy h.hv h.hs,Yy h.hv h.hs,h.om,h.om,λy hy=>?_⟩;have hy' :=(XE hb.1 hb.2 y).1 hy;refine⟨hy'.bd hb.1 hb.2,(a1D h.mb y).2 ?_,Uj (Yy h.hv h.hs) y,λz hz=>(XE hb.1 hb.2 z).2 (hy'.dir hz),vk h.hv h.hs y,vk h.hv h.hs y⟩;obtain⟨z,hz,hxz⟩:=hx;exact⟨z,hz,hxz.trans hy'⟩
theorem EvC.mat(hj:c.2.2[j]? =some v)(hx:DpM s (L9 l s) d x):∃D,b[j]? =some D/\∃w r,F9 D.1 x=some w/\F9 D.2 x=some r/\TG l (L9 l s) (c.1,v,[]) x=(w,r,0,0,0,0)/\xI (L9 l s) (zh (DZ l c v) D.1) (j:Int) x= .inl (w,r):=by
 have hb:=hx.bd h.mb;obtain⟨e1,e2,e3,e4⟩:=h.scm hj;obtain⟨D,h1,h2,w,r,f1,f2,f3⟩:=h.mfix hj hx;refine⟨D,h1,w,r,f1,f2,?_,f3⟩;have hE:SimE (λ_=>False) (DZ l c v) (DZ l c v):=⟨rfl,rfl,rfl,rfl,λ_ _=>rfl⟩;have hev:=KX h.hT c v;obtain⟨Y,y1,y2⟩:=c0Y (h.two2 hx) hE hev hev h2;have hself:DpS (L9 l s) x x:=.inl rfl;have hnx:=(XE hb.1 hb.2 x).2 hself;obtain⟨w',r',f1',f2',f3'⟩:=h_ hev h.om.1 y1 (h.om.2 x hb.1 hb.2) hnx (vk h.hv h.hs x);have hsim:=PP (s:=L9 l s) (hE.at (P:=λz=>z∈O6 (L9 l s) x) (D:=D.1) (D' :=Y.1) (by rw[(Fa h2).1,(Fa y1).1]) (λz hz=>(y2 z ((XE hb.1 hb.2 z).2 (hself.dir hz))).symm)) (Ah hev _) (Ah hev _) (vk h.hv h.hs x) (j:Int);rw[f3,f3']at hsim;cases hsim;unfold TG PR;rw[show mS l (c.1,v,[]) (L9 l (L9 l s)) (Dk (L9 l (L9 l s)) (uC (L9 l (L9 l s)).2.2.2.1.length) (mbS (L9 l s) x))= .inl []from rfl];simp only;have henv:uf l (L9 l s) (c.1,v,[]) []=DZ l c v:=by unfold uf DZ;rw[e4];rfl
 rw[henv,show scS (L9 l s) (DZ l c v) (-1) (JS (L9 l s) (uC (L9 l s).2.2.2.1.length) x)= .inl Y from c7S (-1) y1];have q1:Y.1.getD x.toNat (0,0,0)=w:=by unfold F9 at f1';rw[if_pos hb.1]at f1';rw[qY,f1'];rfl
 have q2:Y.2.getD x.toNat 0=r:=by unfold F9 at f2';rw[if_pos hb.1]at f2';rw[qY,f2'];rfl
 show(Y.1.getD x.toNat (0,0,0),Y.2.getD x.toNat 0,(0:Int),(0:Int),(0:Int),(0:Int))=_;rw[q1,q2]
theorem EvC.args(hx:DpS s d x):(Bi l k c true x).1=0:=by have hb:=hx.bd h.dd.1 h.dd.2;exact b0R (Tv h.ha) h.hs hb.1 hb.2
end
end
section
variable {sg:N8}{ops:List (Int×Int)}{N:Int}{k:Int}
theorem a8t(hk:fZ k=some true)(h:(IL (k,N) ops sg).2=0):((RR (k,N) ops sg).getD ((0,0),0)).2=0:=by
 unfold IL at h;rw[b2U]at h;revert h;cases F8 (x8 N 0)
 .exact id
 .rw[show fZ (k,N).1=some true from hk];exact id
theorem b2n(h:(IL (7,N) ops sg).2=0):0<=N/\N<o9 sg.2.2.1:=by
 have h:=a8t rfl h;have hf:qy (7,N) sg=l9 (L8 0 N) (some (E8 N (o9 sg.2.2.1))) (some false):=rfl;unfold RR at h;rw[hf,show mg (7,N) sg=some true from rfl]at h;cases h1:L8 0 N<;>rw[h1]at h
 .exact absurd (show(6:Int)=0 from h) G7
 cases h2:E8 N (o9 sg.2.2.1)<;>rw[h2]at h
 .exact absurd (show(6:Int)=0 from h) G7
 exact⟨iQ.1 h1,jF.1 h2⟩
theorem b5N(h:(IL (33,N) ops sg).2=0):0<=N:=by
 have h:=a8t rfl h;have hf:qy (33,N) sg=l9 (L8 0 N) (some (E8 N (o9 sg.2.1))) (some false):=rfl;unfold RR at h;rw[hf,show mg (33,N) sg=some true from rfl]at h;cases h1:L8 0 N<;>rw[h1]at h
 .exact absurd (show(6:Int)=0 from h) G7
 exact iQ.1 h1
theorem b8H(h:(IL (34,N) ops sg).2=0):0<=N:=by
 have h:=a8t rfl h;have hf:mg (34,N) sg=l9 (L8 0 N) (some (L8 (fC N 8) 5)) (some false):=rfl;unfold RR at h;rw[hf]at h;cases h1:L8 0 N<;>rw[h1]at h
 .exact absurd (show(3:Int)=0 from h) G7
 exact iQ.1 h1
variable {i:Nat}
theorem Rw{n:Int×Int}{t:Int×Int}(h:EC sg n ops i= .inr t):(IL n ops sg).2=0:=by
 unfold EC at h;split at h
 .assumption
 .cases h
theorem Kq{sg:N8} :∀(t:XT) (o:Nat) {r:Int×Int},jo sg t o= .inr r->∀n∈t.post,∃ops,(IL n ops sg).2=0
 | .l0 n,o,r,h,x,hx=>by unfold XT.post at hx;rw[D9.1 hx];unfold jo at h;exact⟨_,Rw h⟩| .l1 n a,o,r,h,x,hx=>by
  unfold XT.post at hx;unfold jo at h;cases ha:jo sg a o with
  |inl e=>rw[ha]at h;cases h|inr ta=>
   rw[ha]at h;rcases C9.1 hx with hx|hx
   .exact Kq a o ha x hx
   .rw[D9.1 hx];exact⟨_,Rw h⟩
 | .l2 n a b,o,r,h,x,hx=>by
  unfold XT.post at hx;unfold jo at h;cases ha:jo sg a o with
  |inl e=>rw[ha]at h;cases h|inr ta=>
   rw[ha]at h;simp only at h;cases hb:jo sg b (o+a.size)with
   |inl e=>rw[hb]at h;cases h|inr tb=>
    rw[hb]at h;rcases C9.1 hx with hx|hx
    .rcases C9.1 hx with hx|hx
     .exact Kq a o ha x hx
     .exact Kq b _ hb x hx
    .rw[D9.1 hx];exact⟨_,Rw h⟩
 | .l3 n a b c,o,r,h,x,hx=>by
  unfold XT.post at hx;unfold jo at h;cases ha:jo sg a o with
  |inl e=>rw[ha]at h;cases h|inr ta=>
   rw[ha]at h;simp only at h;cases hb:jo sg b (o+a.size)with
   |inl e=>rw[hb]at h;cases h|inr tb=>
    rw[hb]at h;simp only at h;cases hc:jo sg c (o+a.size+b.size)with
    |inl e=>rw[hc]at h;cases h|inr tc=>
     rw[hc]at h;rcases C9.1 hx with hx|hx
     .rcases C9.1 hx with hx|hx
      .rcases C9.1 hx with hx|hx
       .exact Kq a o ha x hx
       .exact Kq b _ hb x hx
      .exact Kq c _ hc x hx
     .rw[D9.1 hx];exact⟨_,Rw h⟩
theorem a0R{e:List (Int×Int)}(h:(kY e sg).2.2=0):∀n∈e,∃ops,(IL n ops sg).2=0:=by
 unfold kY at h;cases hs:mF e with
 |inl x=>rw[hs]at h;exact absurd h (DV hs)|inr t=>
  rw[hs]at h;simp only at h;cases ht:jo sg t 0 with
  |inl x=>rw[ht]at h;exact absurd h (DX t 0 ht)|inr r=>intro n hn;rw[(DW hs).1]at hn;exact Kq t 0 ht n hn
def uj(r:Z7):List F6:=r.2.2.2.2.2.1++r.2.2.2.2.2.2.1
variable {l:U6}
theorem b5X(h:(fB l).1=0){s:A7}(hs:l.2.2[i]? =some s){r:Z7}(hr:r∈s.2.2.2.2):∀n∈uj r,∃ops,(IL n ops (BO l s)).2=0:=by
 obtain⟨h1,d,h2,h3⟩:=QM h hs hr;intro n hn;rcases C9.1 hn with hn|hn
 .rcases h1 with h1|h1
  .rw[h1]at hn;cases hn
  .exact a0R (by rw[Sj h1]) n hn
 .exact a0R (by rw[Sj h3]) n hn
def Hl(n:F6):Option F6:=
 l9 (x8 n.1 7) (some (0,n.2)) (l9 (x8 n.1 8) (some (1,n.2)) (l9 (x8 n.1 9) (some (2,0)) (l9 (x8 n.1 33) (some (3,n.2)) (l9 (x8 n.1 34) (some (3,dM .i64 n.2 8)) (l9 (isM n.1) (some (4,n.2)) none)))))
theorem a6i{n r:F6}(h:Hl n=some r):(n.1=7/\r=(0,n.2))\/(n.1=8/\r=(1,n.2))\/(n.1=9/\r=(2,0))\/(n.1=33/\r=(3,n.2))\/(n.1=34/\r=(3,dM .i64 n.2 8))\/(isM n.1=true/\r=(4,n.2)):=by
 unfold Hl at h;cases h1:x8 n.1 7<;>rw[h1]at h
 case true=>cases h;exact .inl ⟨O5.1 h1,rfl⟩
 cases h2:x8 n.1 8<;>rw[h2]at h
 case true=>cases h;exact .inr (.inl ⟨O5.1 h2,rfl⟩)
 cases h3:x8 n.1 9<;>rw[h3]at h
 case true=>cases h;exact .inr (.inr (.inl ⟨O5.1 h3,rfl⟩))
 cases h4:x8 n.1 33<;>rw[h4]at h
 case true=>cases h;exact .inr (.inr (.inr (.inl ⟨O5.1 h4,rfl⟩)))
 cases h5:x8 n.1 34<;>rw[h5]at h
 case true=>cases h;exact .inr (.inr (.inr (.inr (.inl ⟨O5.1 h5,rfl⟩))))
 cases h6:isM n.1<;>rw[h6]at h
 .cases h
 .cases h;exact .inr (.inr (.inr (.inr (.inr ⟨rfl,rfl⟩))))
def adR(l:List F6)(n:F6):List F6:=match Hl n with|none=>l|some r=>l9 (l.any λx=>kq r x) l (l++[r])
def Pq(l:List F6)(q:Z7):List F6:=(uj q).foldl adR l
theorem a7r{l:List F6}(r:F6)(h:l.length<=1000000):aY l r=some (l.any λx=>kq r x):=by unfold aY iy;refine Am l (λx=>kq r x) h (λi a ha=>?_) (by rw[J6];rfl);rw[J7 ha,o7,F7,ha,o8];show l9 (kq r a) _ _=_;cases kq r a<;>rfl
theorem b2Y{l:List F6}(n:F6)(h:l.length<=1000000):qj l n=some (adR l n):=by
 have tail:∀r:F6,(o5 (aY l r) λ(x_1:Bool)=>l9 x_1 (some l) (o5 (cu l [r]) λ(x:List F6)=>some x))=some (l9 (l.any λx=>kq r x) l (l++[r])):=λr=>by rw[a7r r h,o8,uy Z5,o8];cases l.any λx=>kq r x<;>rfl
 unfold qj adR Hl;cases x8 n.1 7
 case true=>exact tail _
 cases x8 n.1 8
 case true=>exact tail _
 cases x8 n.1 9
 case true=>exact tail _
 cases x8 n.1 33
 case true=>exact tail _
 cases x8 n.1 34
 case true=>exact tail _
 simp only[o6];rw[a7N];cases x8 n.1 36
 case true=>exact tail _
 cases x8 n.1 37
 case true=>exact tail _
 cases x8 n.1 38
 case true=>exact tail _
 cases x8 n.1 39
 case true=>exact tail _
 rfl
theorem a2V(l:List F6)(n:F6):(adR l n).length<=l.length+1:=by
 unfold adR;cases Hl n with
 |none=>simp|some r=>
  simp only;cases l.any λx=>kq r x
  .simp
  .simp
theorem a9r:∀(ns l:List F6),(ns.foldl adR l).length<=l.length+ns.length
 |[],l=>by simp|n::ns,l=>by have:=a9r ns (adR l n);have:=a2V l n;rw[P6,H9];omega
theorem a9s{l:List F6}(q:Z7)(h:l.length<=500000)(h1:q.2.2.2.2.2.1.length<=50)(h2:q.2.2.2.2.2.2.1.length<=50):lH l q=some (Pq l q):=by
 unfold lH;refine dI q.2.2.2.2.2.1 adR (λb i=>(b,i)) (λb=>b) (λi b=>b.length<=l.length+i) l l7 x9 (λi a b ha hi hI=>?_) (λb hI=>by rw[J6];rfl) (λhI=>?_)
 .simp only[J7 ha,o7,F7,ha,o8];have hi2:=(X6.1 ha).1;rw[b2Y a l7,o8,Y4 l7];exact⟨rfl,by have:=a2V b a;omega⟩
 .refine dI q.2.2.2.2.2.2.1 adR (λb i=>(b,i)) (λb=>b) (λi b=>b.length<=l.length+50+i) _ l7 l7 (λi a b ha hi hI=>?_) (λb hI=>by rw[J6];rfl) (λhI2=>?_)
  .simp only[J7 ha,o7,F7,ha,o8];have hi2:=(X6.1 ha).1;rw[b2Y a l7,o8,Y4 l7];exact⟨rfl,by have:=a2V b a;omega⟩
  .unfold Pq uj;rw[Y1]
theorem Zl(l:List F6)(q:Z7)(h1:q.2.2.2.2.2.1.length<=50)(h2:q.2.2.2.2.2.2.1.length<=50):(Pq l q).length<=l.length+100:=by have:=a9r (uj q) l;unfold Pq;unfold uj at this ⊢;rw[F5]at this;omega
theorem Va{r:F6} :∀(ns l:List F6),r∈ns.foldl adR l↔r∈l\/∃n∈ns,Hl n=some r
 |[],l=>by simp|n::ns,l=>by
  rw[P6,Va ns];have hm:r∈adR l n↔r∈l\/Hl n=some r:=by
   unfold adR;cases hn:Hl n with
   |none=>simp|some q=>
    simp only;cases ha:l.any λx=>kq q x
    .simp only[o6];rw[C9,D9];constructor
     .rintro(h|h)
      .exact .inl h
      .exact .inr (by rw[h])
     .rintro(h|h)
      .exact .inl h
      .exact .inr (I9 h).symm
    .simp only[o7];obtain⟨x,hx,hq⟩:=Y6.1 ha;have:=(TK q x).1 hq;subst this;constructor
     .exact .inl
     .rintro(h|h)
      .exact h
      .cases h;exact hx
  rw[hm];constructor
  .rintro((h|h)|⟨m,h1,h2⟩)
   .exact .inl h
   .exact .inr ⟨n,x9,h⟩
   .exact .inr ⟨m,by simp[h1],h2⟩
  .rintro(h|⟨m,h1,h2⟩)
   .exact .inl (.inl h)
   .rcases D6.1 h1 with rfl|h1
    .exact .inl (.inr h2)
    .exact .inr ⟨m,h1,h2⟩
variable {r:F6}
theorem Vb{l:List F6}{q:Z7} :r∈Pq l q↔r∈l\/∃n∈uj q,Hl n=some r:=Va _ _
def evI(l:U6)(k:Int)(c:aF)(d:Int):V3×Int×E4:=if(Bi l k c true d).1=0 then(match F9 l.2.2 k with|some s=>TG l s c d|none=>((0,0,0),0,0,0,0,0))else((0,0,0),0,Bi l k c true d)
variable {c:aF}{d:Int}
theorem ZZ(hL:SmL l)(hC:SmC c)(hT:∀t∈l.2.1,qO t):lQ l k c d=some (evI l k c d):=a7A hL hC hT
theorem b0x(hL:SmL l)(hC:SmC c)(hT:∀t∈l.2.1,qO t):yM l k c d=some (evI l k c d):=a5Z hL hC hT
section
variable (l:U6) (k:Int) (s:A7) (c:aF)
def Ik(m:Int):List V3:=l9 (L8 0 m) ((F9 c.2.2 m).getD []) c.2.1
def evM(m x:Int):V3×Int×E4:=l9 (L8 0 m) (evI l s.2.1 (c.1,Ik c m,[]) x) (evI l k c x)
def scM(m:Int):A7:=l9 (L8 0 m) (L9 l s) s
def b8q:Z7:=([],0,0,0,(0,0),[],[],[])
def IP(m x:Int):Z7:=(F9 (scM l s m).2.2.2.2 (evM l k s c m x).2.1).getD b8q
def yg(m x:Int):List F6:=l9 (L8 0 m) ((List.range c.2.2.length).foldl (λacc (j:Nat)=>Pq acc (IP l k s c (j:Int) x)) []) (Pq [] (IP l k s c m x))
abbrev Nd:Type:=Y0
def QH(acc:List Nd)(m x:Int):Bool:=acc.any λy=>x8 y.1 1&&x8 y.2.2.1 m&&x8 y.2.2.2.1 x
def chT(rec:List Nd->Int->Int->Int->List Nd)(acc:List Nd)(m:Int)(r:F6)(dep:Int):List Nd:=
 l9 (x8 r.1 0) (acc++[(2,dep,m,r.2,-1,(F9 (Ik c m) r.2).getD (0,0,0))])
 (l9 (x8 r.1 1) (rec acc m r.2 dep)
 (l9 (x8 r.1 2) (acc++[(4,dep,m,r.2,-1,5,0,c.1)])
 (l9 (x8 r.1 3) (acc++[(3,dep,m,r.2,-1,0,0,0)])
 ((List.range c.2.2.length).foldl (λacc (j:Nat)=>rec acc (j:Int) r.2 dep) acc))))
def ndD(m x dep:Int):Nd:=(1,dep,m,x,(evM l k s c m x).2.1,(evM l k s c m x).1)
def ndR(m x dep:Int):Nd:=(5,dep,m,x,-1,(evM l k s c m x).1)
def qF:Nat->List Nd->Int->Int->Int->List Nd
 |0,acc,_,_,_=>acc|n+1,acc,m,x,dep=>l9 (QH acc m x) (acc++[ndR l k s c m x dep])
   ((yg l k s c m x).foldl (λacc r=>chT c (λa m x d=>qF n a m x d) acc m r (dep+1)) (acc++[ndD l k s c m x dep]))
end
def Gd(l:U6)(s:A7)(c:aF)(d m x:Int):Prop:=(m=-1/\DpS s d x)\/∃(j:Nat) (v:List V3),m=(j:Int)/\c.2.2[j]? =some v/\DpM s (L9 l s) d x
def rkM(l:U6)(s:A7)(m x:Int):Nat:=l9 (L8 0 m) (bC (L9 l s) x).length (15+(bC s x).length)
theorem jV(j:Nat):L8 0 (j:Int)=true:=Y3 l7
theorem x_{α:Type}{l:List α}{j:Nat}{v:α}(h:l[j]? =some v):F9 l (j:Int)=some v:=by rw[F7];exact h
variable {x:Int}{m:Int}
section
variable {l:U6} {k:Int} {s:A7} {c:aF} {d:Int} {X:DB} {b:List DB} (h:EvC l k s c d X b)
include h
theorem EvC.evS(hx:DpS s d x):∃v r,F9 X.1 x=some v/\F9 X.2 x=some r/\evM l k s c (-1) x=(v,r,0,0,0,0)/\xI s (zh (uf l s c b) X.1) (-1) x= .inl (v,r):=by obtain⟨v,r,h1,h2,h3,h4⟩:=h.at hx;refine⟨v,r,h1,h2,?_,h4⟩;unfold evM evI;rw[show L8 0 (-1:Int)=false from rfl,o6,if_pos (h.args hx),h.hs];exact h3
theorem EvC.evMm{j:Nat}{v:List V3}(hj:c.2.2[j]? =some v)(hx:DpM s (L9 l s) d x):∃D,b[j]? =some D/\∃w r,F9 D.1 x=some w/\F9 D.2 x=some r/\evM l k s c (j:Int) x=(w,r,0,0,0,0)/\xI (L9 l s) (zh (DZ l c v) D.1) (j:Int) x= .inl (w,r):=by
 obtain⟨D,h0,w,r,h1,h2,h3,h4⟩:=h.mat hj hx;refine⟨D,h0,w,r,h1,h2,?_,h4⟩;have hb:=hx.bd h.mb;have hi:Ik c (j:Int)=v:=by unfold Ik;rw[jV,o7,x_ hj];rfl
 unfold evM evI;rw[jV,o7,hi,if_pos (h.argm hj hb.1 hb.2),(h.scm hj).1];exact h3
theorem EvC.met(hg:Gd l s c d m x):∃v r q,evM l k s c m x=(v,r,0,0,0,0)/\0<=r/\F9 (scM l s m).2.2.2.2 r=some q/\q∈(scM l s m).2.2.2.2/\q.2.1=x/\IP l k s c m x=q:=by
 have key:∀(sc:A7) (env:aS) (i:Int) (v:V3) (r:Int),xI sc env i x= .inl (v,r)->∃q,0<=r/\F9 sc.2.2.2.2 r=some q/\q∈sc.2.2.2.2/\q.2.1=x:=λsc env i v r hd=>by obtain⟨_,h2,q,h3,_⟩:=a4S hd;obtain⟨q',h4,h5,h6⟩:=Si h2;rw[h3]at h4;cases h4;exact⟨q,(bg h3).1,h3,h5,h6⟩
 rcases hg with⟨rfl,hx⟩|⟨j,v,rfl,hj,hx⟩
 .obtain⟨v,r,_,_,h3,h4⟩:=h.evS hx;obtain⟨q,q0,q1,q2,q3⟩:=key _ _ _ _ _ h4;have e:scM l s (-1)=s:=rfl;refine⟨v,r,q,h3,q0,by rw[e];exact q1,by rw[e];exact q2,q3,?_⟩;unfold IP;rw[h3,e,q1];rfl
 .obtain⟨D,_,w,r,_,_,h3,h4⟩:=h.evMm hj hx;obtain⟨q,q0,q1,q2,q3⟩:=key _ _ _ _ _ h4;have e:scM l s (j:Int)=L9 l s:=by unfold scM;rw[jV];rfl
  refine⟨w,r,q,h3,q0,by rw[e];exact q1,by rw[e];exact q2,q3,?_⟩;unfold IP;rw[h3,e,q1];rfl
theorem EvC.inps(hg:Gd l s c d m x):(Ik c m).length=(scM l s m).2.2.1.length/\F9 l.2.2 (l9 (L8 0 m) s.2.1 k)=some (scM l s m):=by
 obtain⟨p1,p2,p3,p4,p5⟩:=ZA (Wl h.ha) h.hs;rcases hg with⟨rfl,hx⟩|⟨j,v,rfl,hj,hx⟩
 .exact⟨a7a p3,h.hs⟩
 .obtain⟨e1,_,_,_⟩:=h.scm hj;have hi:Ik c (j:Int)=v:=by unfold Ik;rw[jV,o7,x_ hj];rfl
  have hmi:nV l s=((L9 l s).2.2.1,8):=by unfold nV;rw[e1]
  have pv:=b4j p5 hj;rw[hmi]at pv;rw[hi];unfold scM;rw[jV,o7,o7];exact⟨a7a pv,e1⟩
theorem EvC.refN(hg:Gd l s c d m x){q:Z7}(hq:q∈(scM l s m).2.2.2.2)(hd:q.2.1=x){n:F6}(hn:n∈uj q)(hr:Hl n=some r):
  (r.1=0/\0<=r.2/\r.2<o9 (Ik c m))\/(r.1=1/\Gd l s c d m r.2/\rkM l s m r.2<rkM l s m x)\/(r.1=2/\r.2=0)\/(r.1=3/\0<=r.2)\/(r.1=4/\m=-1/\0<=r.2/\∀(j:Nat) (v:List V3),c.2.2[j]? =some v->Gd l s c d (j:Int) r.2/\rkM l s (j:Int) r.2<rkM l s m x):=by
 obtain⟨hil,hla⟩:=h.inps hg;obtain⟨ops,hops⟩:=b5X h.hv (bg hla).2.2.2 hq n hn;obtain⟨k',N⟩:=n;have hsub:∀p:Int->Bool,p k' =true->N∈Nk p q.2.2.2.2.2.1\/N∈Nk p q.2.2.2.2.2.2.1:=λp hp=>by
  rcases C9.1 hn with hn|hn
  .exact .inl (U0.2 ⟨(k',N),I7.2 ⟨hn,hp⟩,rfl⟩)
  .exact .inr (U0.2 ⟨(k',N),I7.2 ⟨hn,hp⟩,rfl⟩)
 rcases a6i hr with⟨e,rfl⟩|⟨e,rfl⟩|⟨e,rfl⟩|⟨e,rfl⟩|⟨e,rfl⟩|⟨e,rfl⟩
 .have e:k' =7:=e;subst e;have:=b2n hops;rw[(b0B l _).2.2]at this;left;refine⟨rfl,this.1,?_⟩;have h2:=this.2;unfold o9 at h2 ⊢;rw[H7]at h2;rw[hil];exact h2
 .have e:k' =8:=e;subst e;right;left;have hm:∃e',(e' =q.2.2.2.2.2.1\/e' =q.2.2.2.2.2.2.1)/\N∈(jD e').2.1:=by
   rcases hsub (λo=>x8 o 8) rfl with g|g
   .exact⟨_,.inl rfl,(jk N _).2 g⟩
   .exact⟨_,.inr rfl,(jk N _).2 g⟩
  obtain⟨e',he',hN⟩:=hm;have hdir:N∈O6 (scM l s m) x:=(Jm h.hv (bg hla).2.2.2 x q hq hd e' he').1 N hN;refine⟨rfl,?_,?_⟩
  .rcases hg with⟨rfl,hx⟩|⟨j,v,rfl,hj,w,hw,hx⟩
   .exact .inl ⟨rfl,hx.dir hdir⟩
   .have es:scM l s (j:Int)=L9 l s:=by unfold scM;rw[jV];rfl
    rw[es]at hdir;exact .inr ⟨j,v,rfl,hj,w,hw,hx.dir hdir⟩
  .have hac:=Kr h.hv (bg hla).2.2.2 N (uK hdir).1 (uK hdir).2;have:=a6T hdir hac;unfold rkM;rcases hg with⟨rfl,hx⟩|⟨j,v,rfl,hj,hx⟩
   .have es:scM l s (-1)=s:=rfl;rw[es]at this;show 15+_<15+_;show 15+(bC s N).length<15+(bC s x).length;omega
   .have es:scM l s (j:Int)=L9 l s:=by unfold scM;rw[jV];rfl
    rw[es]at this;rw[jV];exact this
 .right;right;left;exact⟨rfl,rfl⟩
 .have e:k' =33:=e;subst e;right;right;right;left;exact⟨rfl,b5N hops⟩
 .have e:k' =34:=e;subst e;right;right;right;left;refine⟨rfl,?_⟩;have h0:=b8H hops;show 0<=dM .i64 N 8;have hru:=(h.hL.sc _ (bg hla).2.2.1).ro q hq;have hI:kP N:=by
   rcases C9.1 hn with hn|hn
   .exact hru.1.2.2.1 (34,N) hn
   .exact hru.1.2.2.2 (34,N) hn
  have hd8:N.tdiv 8=N / 8:=kL h0;rw[zC (by rw[hd8];unfold kP at hI ⊢;omega),hd8];omega
 .right;right;right;right;have hm:∃e',(e' =q.2.2.2.2.2.1\/e' =q.2.2.2.2.2.2.1)/\N∈(jD e').2.2:=by
   rcases hsub isM e with g|g
   .exact⟨_,.inl rfl,(jk N _).2 g⟩
   .exact⟨_,.inr rfl,(jk N _).2 g⟩
  obtain⟨e',he',hN⟩:=hm;rcases hg with⟨rfl,hx⟩|⟨j,v,rfl,hj,hx⟩
  .have es:scM l s (-1)=s:=rfl;rw[es]at hq;have hmb:N∈mbS s d:=TR.2 ⟨UQ.2 h.dd,q,hq,by rw[hd];exact hx,by
    unfold Bf;rcases he' with rfl|rfl
    .exact I5 _ hN
    .exact aK _ hN⟩
   refine⟨rfl,rfl,(h.mb N hmb).1,λj v hj=>⟨.inr ⟨j,v,rfl,hj,N,hmb,.inl rfl⟩,?_⟩⟩;unfold rkM;rw[jV];have:=Gn h.smm N;show(bC (L9 l s) N).length<15+_;omega
  .have es:scM l s (j:Int)=L9 l s:=by unfold scM;rw[jV];rfl
   rw[es]at hq;exact absurd ((vk h.hv h.hs x q hq hd e' he').2 N hN) id
theorem EvC.ruleLen(hg:Gd l s c d m x):(IP l k s c m x).2.2.2.2.2.1.length<=50/\(IP l k s c m x).2.2.2.2.2.2.1.length<=50:=by obtain⟨v,r,q,_,_,_,q2,_,q4⟩:=h.met hg;obtain⟨_,hla⟩:=h.inps hg;rw[q4];exact((h.hL.sc _ (bg hla).2.2.1).ro q q2).2
end
theorem Gd.all{s:A7}{d j:Int}(hg:Gd l s c d j x)(h0:0<=j)(hi:i<c.2.2.length):Gd l s c d (i:Int) x:=by
 rcases hg with⟨e,_⟩|⟨_,_,_,_,hx⟩
 .omega
 .exact .inr ⟨i,_,rfl,bn hi,hx⟩
end
section
theorem a1Q{α:Type}{eq:α->α->Bool}(h:∀a,eq a a=true):∀l:List α,b1d eq l l=true
 |[]=>rfl|a::l=>by unfold b1d;rw[h a,a1Q h l];rfl
theorem IV:∀(t:Ty) (a:t.den),Pv t a a=true
 | .bool,a=>by cases a<;>rfl| .int _,a=>by unfold Pv;exact decide_eq_true rfl| .str,a=>by unfold Pv;exact decide_eq_true rfl| .sl t,a=>by unfold Pv;exact a1Q (IV t) a| .prod p q,a=>by unfold Pv;rw[IV p,IV q];rfl| .unit,a=>by unfold Pv;rfl| .ent _ _ p q,a=>by unfold Pv;rw[IV p,IV q];rfl
theorem b3z(t:Ty)(a:t.den):deq t a a=true:=IV t a
theorem FZ{α σ τ ε:Type}(l:List α)(mk:τ->Int->σ)(fin:τ->ε)(R:Nat->τ->Prop){f:σ->Option (σ⊕ε)}{b:τ}(hl:l.length<=1000000)(h0:R 0 b)
  (hin:∀(i:Nat) (a:α) (b:τ),l[i]? =some a->R i b->∃b',f (mk b (i:Int))=some (.inl (mk b' ((i+1:Nat):Int)))/\R (i+1) b')
  (hend:∀b,R l.length b->f (mk b (l.length:Int))=some (.inr (fin b))):∃b',aB f (mk b 0)=some (fin b')/\R l.length b' :=by
 have key:∀(n i:Nat) (b:τ),i<=l.length->l.length -i<n->R i b->∃b',lU f n (mk b (i:Int))=some (fin b')/\R l.length b' :=by
  intro n;induction n with
  |zero=>intro i b _ h _;omega|succ n ih=>
   intro i b hi hn hI;unfold lU;by_cases h:i<l.length
   .obtain⟨b',h1,h2⟩:=hin i _ b (bn h) hI;rw[h1];exact ih (i+1) b' l7 l7 h2
   .have:i=l.length:=l7;subst this;rw[hend b hI];exact⟨b,rfl,hI⟩
 exact key jb 0 b l7 (by unfold jb;omega) h0
abbrev Fnd:Type:=List (F6×J5)
section
variable (l:U6) (k:Int) (s:A7) (c:aF)
def Bd(acc:List Y0)(fd:Fnd):J9:=(acc,l,k,c,fd,0,0,0,0)
def VY(fd:Fnd):Prop:=∃f,OW kq fd f/\∀(m x:Int) v,f (m,x)=some v->v=((evM l k s c m x).1,(evM l k s c m x).2.1)
end
theorem c0D(l:U6)(k:Int)(s:A7)(c:aF):VY l k s c []:=⟨λ_=>none,b1x _,λ_ _ _ h=>by cases h⟩
section
variable {l:U6} {k:Int} {s:A7} {c:aF} {d:Int} {X:DB} {b:List DB} (h:EvC l k s c d X b)
include h
theorem EvC.eval{m x:Int}(hg:Gd l s c d m x)(acc:List Y0){fd:Fnd}(hf:VY l k s c fd):
  ∃fd',iI (Bd l k c acc fd) (m,x)=some (((evM l k s c m x).1,(evM l k s c m x).2.1),Bd l k c acc fd')/\VY l k s c fd' :=by
 obtain⟨f,hf1,hf2⟩:=hf;obtain⟨v,r,q,e1,_⟩:=h.met hg;unfold iI;show ∃fd',l9 (a3w kq fd (m,x)) (some (a5I kq fd (m,x) ((0,0,0),0),Bd l k c acc fd)) (o5 (l9 (L8 0 m) (o5 (F9 l.2.2 k) λ(y:A7)=>o5 (F9 c.2.2 m) λ(z:List V8)=>some (y.2.1,c.1,z,[])) (some (k,c))) λ(y:Int×aF)=>
  o5 (lQ l y.1 y.2 x) λ(z:V8×Int×I4)=>o5 (l9 (F8 (x8 z.2.2.1 0)) (l9 (x8 0 0) (some (acc,l,k,c,fd,z.2.2)) (some (Bd l k c acc fd))) (some (Bd l k c acc fd))) λ(w:J9)=>some ((z.1,z.2.1),w.1,w.2.1,w.2.2.1,w.2.2.2.1,N_ kq w.2.2.2.2.1 (m,x) (z.1,z.2.1),w.2.2.2.2.2))=_/\_
 cases hm:a3w kq fd (m,x)
 .rw[o6];have hput:VY l k s c (N_ kq fd (m,x) (v,r)):=by
   refine⟨_,b1y TK hf1 (m,x) (v,r),λm' x' w hw=>?_⟩;cases hk:kq (m',x') (m,x)<;>rw[hk]at hw
   .exact hf2 m' x' w hw
   .have e:=(TK _ _).1 hk;cases e;cases hw;rw[e1]
  have hev:∃kk cc,l9 (L8 0 m) (o5 (F9 l.2.2 k) λ(y:A7)=>o5 (F9 c.2.2 m) λ(z:List V8)=>some (y.2.1,c.1,z,[])) (some (k,c))=some (kk,cc)/\lQ l kk cc x=some (v,r,0,0,0,0):=by
   rcases hg with⟨rfl,hx⟩|⟨j,u,rfl,hj,hx⟩
   .refine⟨k,c,rfl,?_⟩;rw[ZZ h.hL h.hC h.hT];exact congrArg some e1
   .rw[jV,o7,h.hs,o8,x_ hj,o8];refine⟨_,_,rfl,?_⟩;have hi:Ik c (j:Int)=u:=by unfold Ik;rw[jV,o7,x_ hj];rfl
    unfold evM at e1;rw[jV,o7,hi]at e1;rw[ZZ h.hL (c:=(c.1,u,[])) ⟨h.hC.nv u (kw hj),x9,x9⟩ h.hT];exact congrArg some e1
  obtain⟨kk,cc,g1,g2⟩:=hev;rw[g1,o8,g2,o8];refine⟨N_ kq fd (m,x) (v,r),?_,hput⟩;rw[e1];rfl
 .rw[o7];refine⟨fd,?_,f,hf1,hf2⟩;have h1:=hf1.has (m,x);rw[hm]at h1;cases hv:f (m,x)with
  |none=>rw[hv]at h1;cases h1|some w=>have h2:=hf1.get (m,x) ((0,0,0),0);rw[hv]at h2;rw[h2,hf2 m x w hv];rfl
theorem EvC.refs{m x:Int}(hg:Gd l s c d m x)(hM:c.2.2.length<=10)(acc:List Y0){fd:Fnd}(hf:VY l k s c fd):
  ∃fd',nZ (Bd l k c acc fd) (m,x)=some (yg l k s c m x,Bd l k c acc fd')/\VY l k s c fd' :=by
 unfold nZ;rcases hg with⟨rfl,hx⟩|⟨j,u,rfl,hj,hx⟩
 .have hg:Gd l s c d (-1) x:=.inl ⟨rfl,hx⟩;obtain⟨fd',h1,h2⟩:=h.eval hg acc hf;obtain⟨v,r,q,e1,q0,q1,q2,q3,q4⟩:=h.met hg;refine⟨fd',?_,h2⟩;have hlen:=h.ruleLen hg;rw[show(E8 (-1,x).1 0)=true from rfl,o7];rw[show F9 (Bd l k c acc fd).2.1.2.2 (Bd l k c acc fd).2.2.1=some s from h.hs,o8,h1,o8];rw[show x8 (Bd l k c acc fd).2.2.1 (Bd l k c acc fd').2.2.1=true from N9 rfl,o7];simp only[show(Bd l k c acc fd).2.1=l from rfl,show(Bd l k c acc fd').2.1=l from rfl,b3z,o7];have es:scM l s (-1)=s:=rfl;rw[es]at q1;rw[e1];simp only;rw[q1,o8];rw[q4]at hlen;rw[a9s q x9 hlen.1 hlen.2,o8];unfold yg;rw[show L8 0 (-1:Int)=false from rfl,o6,q4]
 .have hg:Gd l s c d (j:Int) x:=.inr ⟨j,u,rfl,hj,hx⟩;obtain⟨e1,e2,e3,e4⟩:=h.scm hj;rw[show(E8 ((j:Int),x).1 0)=false from N7 (by show(0:Int)<=(j:Int);omega),o6];rw[show F9 (Bd l k c acc fd).2.1.2.2 (Bd l k c acc fd).2.2.1=some s from h.hs,o8];rw[show F9 (Bd l k c acc fd).2.1.2.2 s.2.1=some (L9 l s)from e1,o8];have key:=FZ (σ:=J9×List F6×Int) (c.2.2) (λ(t:Fnd×List F6) i=>(Bd l k c acc t.1,t.2,i)) (λt=>(Bd l k c acc t.1,t.2))
   (λi t=>VY l k s c t.1/\t.2=(List.range i).foldl (λacc (j:Nat)=>Pq acc (IP l k s c (j:Int) x)) []/\t.2.length<=100*i)
   (f:=λ(x_1:J9×List F6×Int)=>
    l9 (E8 x_1.2.2 (o9 (Bd l k c acc fd).2.2.2.1.2.2))
     (o5 (iI x_1.1 (x_1.2.2,((j:Int),x).2)) λ(x_2:J5×J9)=>
      o5 (F9 (L9 l s).2.2.2.2 x_2.1.2) λ(x:Z7)=>
       o5 (lH x_1.2.1 x) λ(x:List F6)=>
        some (Sum.inl (x_2.2,x,D5 IntKind.i64 x_1.2.2 1)))
     (some (Sum.inr (x_1.1,x_1.2.1)))) (b:=(fd,[])) l7 ⟨hf,rfl,x9⟩ (λi a t ha ht=>?_) (λt ht=>?_)
  .obtain⟨t,h1,h2,h3,h4⟩:=key;refine⟨t.1,?_,h2⟩;rw[h1,o8];rw[h3];unfold yg;rw[jV,o7]
  .obtain⟨ht1,ht2,ht3⟩:=ht;have hi:=(X6.1 ha).1;have hgi:=Gd.all hg l7 hi;obtain⟨fd',g1,g2⟩:=h.eval hgi acc ht1;obtain⟨v,r,q,p1,p0,p2,p3,p4,p5⟩:=h.met hgi;have hlen:=h.ruleLen hgi;have es:scM l s (i:Int)=L9 l s:=by unfold scM;rw[jV];rfl
   rw[es]at p2;refine⟨(fd',Pq t.2 q),?_,g2,?_,?_⟩
   .simp only;rw[show E8 (i:Int) (o9 (Bd l k c acc fd).2.2.2.1.2.2)=true from J7 (l:=c.2.2) ha,o7];rw[g1,o8,p1];simp only;rw[p2,o8];rw[p5]at hlen;rw[a9s q l7 hlen.1 hlen.2,o8,Y4 l7]
   .show Pq t.2 q=_;rw[X3,Y1,←ht2,←p5];rfl
   .show(Pq t.2 q).length<=_;rw[p5]at hlen;have:=Zl t.2 q hlen.1 hlen.2;omega
  .simp only;rw[show E8 (c.2.2.length:Int) (o9 (Bd l k c acc fd).2.2.2.1.2.2)=false from J6 c.2.2];rfl
end
end
section
def kM(q:F6):Int:=q.1
def kX(q:F6):Int:=q.2
def kC(q:F6):Int:=(kM q+1)*14+kX q
def isD(y:Nd):Bool:=x8 (eK y) 1
def kS(acc:List Nd):List F6:=(acc.filter isD).map a4X
abbrev BD(acc:List Nd):Nat:=(kS acc).length
theorem uS(a b:List Nd):kS (a++b)=kS a++kS b:=by unfold kS;rw[ny,bY]
variable {y:Nd}
theorem MZ(h:eK y=1):kS [y]=[a4X y]:=by unfold kS isD;rw[bK,N9 h];rfl
theorem w_(h:eK y≠1):kS [y]=[]:=by unfold kS isD;rw[bK,O9 h];rfl
variable {acc:List Nd}
theorem yI{q:F6} :q∈kS acc↔∃y∈acc,eK y=1/\a4X y=q:=by
 unfold kS;rw[U0];constructor
 .rintro⟨y,h1,h2⟩;obtain⟨h3,h4⟩:=I7.1 h1;exact⟨y,h3,O5.1 h4,h2⟩
 .rintro⟨y,h1,h2,h3⟩;exact⟨y,I7.2 ⟨h1,N9 h2⟩,h3⟩
variable {m:Int}{x:Int}
theorem Xt :QH acc m x=true↔(m,x)∈kS acc:=by
 rw[yI];unfold QH;rw[Y6];constructor
 .rintro⟨y,h1,h2⟩;simp only[A8]at h2;obtain⟨⟨g1,g2⟩,g3⟩:=h2;exact⟨y,h1,O5.1 g1,fH (O5.1 g2) (O5.1 g3)⟩
 .rintro⟨y,h1,h2,h3⟩;refine⟨y,h1,?_⟩;have g2:y.2.2.1=m:=congrArg (·.1) h3;have g3:y.2.2.2.1=x:=congrArg (·.2) h3;simp only[A8];exact⟨⟨N9 h2,N9 g2⟩,N9 g3⟩
theorem a0V(y:Nd):∀(l pre:List Nd),wfR pre (l++[y])=(wfR pre l&&okR (pre++l) y)
 |[],pre=>by show(okR pre y&&true)=(true&&okR (pre++[]) y);rw[H6,Bool.and_true,fK]|x::l,pre=>by show(okR pre x&&wfR (pre++[x]) (l++[y]))=((okR pre x&&wfR (pre++[x]) l)&&okR (pre++x::l) y);rw[a0V y l (pre++[x]),Sv,G5];rfl
def Ny(acc:List Nd)(dep:Int):Prop:=(acc=[]/\dep=0)\/∃q,acc.getLast?=some q/\1<=dep/\(dep<=eD q\/(dep=eD q+1/\eK q=1))
variable {dep:Int}
theorem Ny.nn(h:Ny acc dep):0<=dep:=by rcases h with⟨_,e⟩|⟨q,_,e,_⟩<;>omega
theorem Ny.fol(h:Ny acc dep)(hd:eD y=dep)(hb:dep<=1000)(h1:acc=[]->eK y=1):
  (match acc.getLast? with|none=>x8 y.2.1 0&&x8 y.1 1|some q=>c0E q y)=true:=by
 rcases h with⟨e1,e2⟩|⟨q,e1,e2,e3⟩
 .rw[e1];show(x8 (eD y) 0&&x8 (eK y) 1)=true;rw[N9 l7,N9 (h1 e1)];rfl
 .rw[e1];show(!(E8 (eD y) 1)&&(bif E8 (eD q) (eD y)then x8 (L6 .i64 (eD y) 1) (eD q)&&x8 (eK q) 1 else true))=true;rw[N7 l7];rcases e3 with e3|⟨e3,e4⟩
  .rw[N7 l7];rfl
  .rw[U8 l7,X4 U7,N9 l7,N9 e4];rfl
theorem b4z{pre:List Nd}{x:Nd}(h1:b3k x=true)(h2:(bif x8 x.1 1 then !(E8 x.2.2.2.2.1 0)&&!(Yq pre x false)else x8 x.2.2.2.2.1 (-1))=true)(h3:(bif x8 x.1 5 then Yq pre x true else true)=true)
  (h4:(match pre.getLast? with|none=>x8 x.2.1 0&&x8 x.1 1|some q=>c0E q x)=true):okR pre x=true:=by
 unfold okR;simp only[A8];exact⟨⟨⟨h1,h2⟩,h3⟩,h4⟩
section
variable (l:U6) (k:Int) (s:A7) (c:aF) (d:Int)
def b2S(y:Nd):Prop:=
 (eK y=1/\Gd l s c d (eM y) (eI y)/\eR y=(evM l k s c (eM y) (eI y)).2.1/\YF y=(evM l k s c (eM y) (eI y)).1)\/
 (eK y=5/\Gd l s c d (eM y) (eI y)/\eR y=-1/\YF y=(evM l k s c (eM y) (eI y)).1)\/
 (eK y=2/\(∃x,Gd l s c d (eM y) x)/\0<=eI y/\eI y<o9 (Ik c (eM y))/\eR y=-1/\YF y=(F9 (Ik c (eM y)) (eI y)).getD (0,0,0))\/
 (eK y=4/\(∃x,Gd l s c d (eM y) x)/\eI y=0/\eR y=-1/\YF y=(5,0,c.1))\/
 (eK y=3/\(∃x,Gd l s c d (eM y) x)/\0<=eI y/\eR y=-1)
structure AOk (acc:List Nd):Prop where
 nd:∀y∈acc,b2S l k s c d y
 nu:(kS acc).Nodup
 wf:wfR [] acc=true
 dp:∀y∈acc,0<=eD y/\eD y<=1000
def Tgt(R:List Nd)(m x:Int):Prop:=∀r∈yg l k s c m x,(r.1=1->(m,r.2)∈kS R)/\(r.1=4->∀j:Nat,j<c.2.2.length->((j:Int),r.2)∈kS R)
end
theorem Tgt.mono{l:U6}{k:Int}{s:A7}{c:aF}{R t:List Nd}(h:Tgt l k s c R m x):Tgt l k s c (R++t) m x:=λr hr=>
 ⟨λe=>by rw[uS];exact I5 _ ((h r hr).1 e),λe j hj=>by rw[uS];exact I5 _ ((h r hr).2 e j hj)⟩
section
variable {l:U6} {k:Int} {s:A7} {c:aF} {d:Int} {X:DB} {b:List DB} (h:EvC l k s c d X b)
include h
theorem EvC.bd(hg:Gd l s c d m x)(hM:c.2.2.length<=10):-1<=m/\m<10/\0<=x/\x<14:=by
 rcases hg with⟨rfl,hx⟩|⟨j,v,rfl,hj,hx⟩
 .have:=hx.bd h.dd.1 h.dd.2;have:=h.sm.nd;unfold nD o9 at*;omega
 .have:=hx.bd h.mb;have:=h.smm.nd;have:=(X6.1 hj).1;unfold nD o9 at*;omega
theorem EvC.base(hM:c.2.2.length<=10)(hy:b2S l k s c d y):b3k y=true/\(eK y=1->0<=eR y)/\(eK y≠1->eR y=-1):=by
 have key:(1<=eK y/\eK y<=5)/\0<=eI y/\-1<=eM y/\(eK y=1->0<=eR y)/\(eK y≠1->eR y=-1):=by
  rcases hy with⟨e,g,e2,_⟩|⟨e,g,e2,_⟩|⟨e,⟨x,g⟩,e0,_,e2,_⟩|⟨e,⟨x,g⟩,e0,e2,_⟩|⟨e,⟨x,g⟩,e0,e2⟩
  .have hb:=h.bd g hM;obtain⟨v,r,q,p1,p2,_⟩:=h.met g;rw[p1]at e2;have e2:eR y=r:=e2;exact⟨l7,l7,l7,λ_=>by omega,λhn=>absurd e hn⟩
  .have hb:=h.bd g hM;exact⟨l7,l7,l7,λhn=>by omega,λ_=>e2⟩
  .have hb:=h.bd g hM;exact⟨l7,l7,l7,λhn=>by omega,λ_=>e2⟩
  .have hb:=h.bd g hM;exact⟨l7,l7,l7,λhn=>by omega,λ_=>e2⟩
  .have hb:=h.bd g hM;exact⟨l7,l7,l7,λhn=>by omega,λ_=>e2⟩
 obtain⟨⟨k1,k2⟩,k3,k4,k5⟩:=key;refine⟨?_,k5⟩;show(!(E8 (eK y) 1)&&!(E8 5 (eK y))&&!(E8 (eI y) 0)&&!(E8 (eM y) (-1)))=true;rw[N7 l7,N7 l7,N7 l7,N7 l7];rfl
theorem EvC.len(hA:AOk l k s c d acc)(hM:c.2.2.length<=10):BD acc<=154:=by
 have hin:∀q∈kS acc,-1<=kM q/\kM q<10/\0<=kX q/\kX q<14:=λq hq=>by
  obtain⟨y,hy,h1,rfl⟩:=yI.1 hq;rcases hA.nd y hy with⟨e,g,_⟩|⟨e,g,_⟩|⟨e,g,_⟩|⟨e,g,_⟩|⟨e,g,_⟩
  .exact h.bd g hM
  all_goals exact absurd (h1.symm.trans e) G7
 have hn:((kS acc).map kC).Nodup:=by rw[List.Nodup,List.pairwise_map];refine List.Pairwise.imp_of_mem ?_ hA.nu;intro a b ha hb hab he;have h1:=hin a ha;have h2:=hin b hb;unfold kC at he;refine hab (fH (show kM a=kM b by omega) (show kX a=kX b by omega))
 have:=Rx (n:=154) hn (λz hz=>by obtain⟨q,hq,rfl⟩:=U0.1 hz;have:=hin q hq;unfold kC;omega)
 rw[H7]at this;exact this
theorem EvC.pushO(hM:c.2.2.length<=10)(hA:AOk l k s c d acc)(hF:Ny acc dep)(hy:b2S l k s c d y)(h1:eK y≠1)(hd:eD y=dep)(hb:dep<=1000)(hne:acc≠[])
  (h5:eK y=5->∃z∈acc,eK z=1/\a4X z=a4X y/\YF z=YF y):AOk l k s c d (acc++[y]):=by
 obtain⟨b1,b2,b3⟩:=h.base hM hy;have hnn:=hF.nn;refine⟨λz hz=>?_,?_,?_,λz hz=>?_⟩
 rotate_left 3
 .rcases C9.1 hz with hz|hz
  .exact hA.dp z hz
  .rw[D9.1 hz];omega
 .rcases C9.1 hz with hz|hz
  .exact hA.nd z hz
  .rw[D9.1 hz];exact hy
 .rw[uS,w_ h1,H6];exact hA.nu
 .rw[a0V,hA.wf,fK,G6];refine b4z b1 ?_ ?_ (hF.fol hd hb (λe=>absurd e hne))
  .rw[show x8 y.1 1=false from O9 h1,show x8 y.2.2.2.2.1 (-1)=true from N9 (b3 h1)];rfl
  cases h6:x8 y.1 5
  .rfl
  .rw[show Yq acc y true=true from b6B.2 (by
    obtain⟨z,z1,z2,z3,z4⟩:=h5 (O5.1 h6);exact⟨z,z1,z2,z3,λ_=>z4⟩)]
   rfl
theorem EvC.pushD(hM:c.2.2.length<=10)(hA:AOk l k s c d acc)(hF:Ny acc dep)(hg:Gd l s c d m x)(hb:dep<=1000)(hs:QH acc m x=false):AOk l k s c d (acc++[ndD l k s c m x dep]):=by
 have hy:b2S l k s c d (ndD l k s c m x dep):=.inl ⟨rfl,hg,rfl,rfl⟩;obtain⟨b1,b2,b3⟩:=h.base hM hy;have hns:(m,x)∉kS acc:=λhh=>by rw[Xt.2 hh]at hs;cases hs
 have hnn:=hF.nn;refine⟨λz hz=>?_,?_,?_,λz hz=>?_⟩
 rotate_left 3
 .rcases C9.1 hz with hz|hz
  .exact hA.dp z hz
  .rw[D9.1 hz];show 0<=dep/\dep<=1000;omega
 .rcases C9.1 hz with hz|hz
  .exact hA.nd z hz
  .rw[D9.1 hz];exact hy
 .rw[uS,MZ (y:=ndD l k s c m x dep) rfl];refine O7.2 ⟨hA.nu,x9,λa ha b' hb' e=>?_⟩;rw[D9.1 hb']at e;subst e;exact hns ha
 .rw[a0V,hA.wf,fK,G6];refine b4z b1 ?_ rfl (hF.fol (y:=ndD l k s c m x dep) rfl hb (λ_=>rfl));rw[show x8 (ndD l k s c m x dep).1 1=true from rfl,show E8 (ndD l k s c m x dep).2.2.2.2.1 0=false from N7 (b2 rfl)];cases h6:Yq acc (ndD l k s c m x dep) false
  .rfl
  .obtain⟨z,z1,z2,z3,_⟩:=b6B.1 h6;exact absurd (yI.2 ⟨z,z1,z2,z3⟩) hns
end
end
section
section
variable (l:U6) (k:Int) (s:A7) (c:aF) (d:Int)
structure SPost (acc R:List Nd) (m x dep:Int):Prop where
 ok:AOk l k s c d R
 pre:∃t,R=acc++t
 cnt:R.length+1000*BD acc<=acc.length+1+1000*BD R
 fits:1<=dep->Ny R dep
 key:(m,x)∈kS R
 clo:∀y∈R,eK y=1->y∈acc\/Tgt l k s c R (eM y) (eI y)
structure CPost (acc R:List Nd) (dep:Int) (w:Nat):Prop where
 ok:AOk l k s c d R
 pre:∃t,R=acc++t
 cnt:R.length+1000*BD acc<=acc.length+w+1000*BD R
 fits:Ny R dep
 clo:∀y∈R,eK y=1->y∈acc\/Tgt l k s c R (eM y) (eI y)
def SOk(n:Nat):Prop:=∀(m x dep:Int) (acc:List Nd),Gd l s c d m x->rkM l s m x<n->AOk l k s c d acc->Ny acc dep->0<=dep->dep+rkM l s m x<=100->acc.length<=1000*BD acc->SPost l k s c d acc (qF l k s c n acc m x dep) m x dep
def wtM(m:Int):Nat:=l9 (L8 0 m) 1 10
def Na(n:Nat)(m dep:Int)(acc:List Nd)(r:F6):List Nd:=chT c (λa m x d=>qF l k s c n a m x d) acc m r dep
end
theorem a2P(m:Int):1<=wtM m/\wtM m<=10:=by unfold wtM;cases L8 0 m<;>exact⟨G7,G7⟩
variable {dep:Int}
theorem a1X(acc:List Nd){y:Nd}(h:eD y=dep)(h1:1<=dep):Ny (acc++[y]) dep:=.inr ⟨y,x9,h1,.inl l7⟩
variable {R:List Nd}
theorem b8h(h:Ny R (dep+1))(h1:1<=dep):Ny R dep:=by
 rcases h with⟨_,e⟩|⟨q,e1,e2,e3⟩
 .omega
 .exact .inr ⟨q,e1,h1,.inl l7⟩
variable {acc:List Nd}{m:Int}{x:Int}{w:Nat}
section
variable {l:U6} {k:Int} {s:A7} {c:aF} {d:Int} {X:DB} {b:List DB}
theorem CPost.refl(hA:AOk l k s c d acc)(hF:Ny acc dep):CPost l k s c d acc acc dep w:=⟨hA,⟨[],x9⟩,l7,hF,λy hy _=> .inl hy⟩
theorem CPost.trans{acc R Q:List Nd}{w v:Nat}(h:CPost l k s c d acc R dep w)(g:CPost l k s c d R Q dep v):CPost l k s c d acc Q dep (w+v):=by
 obtain⟨t,ht⟩:=h.pre;obtain⟨u,hu⟩:=g.pre;refine⟨g.ok,⟨t++u,by rw[hu,ht,G5]⟩,by have:=h.cnt;have:=g.cnt;omega,g.fits,λy hy e=>?_⟩;rcases g.clo y hy e with h1|h1
 .rcases h.clo y h1 e with h2|h2
  .exact .inl h2
  .right;rw[hu];exact h2.mono
 .exact .inr h1
theorem CPost.keys(h:CPost l k s c d acc R dep w){q:F6}(hq:q∈kS acc):q∈kS R:=by obtain⟨t,ht⟩:=h.pre;rw[ht,uS];exact I5 _ hq
theorem SPost.toC(h:SPost l k s c d acc R m x dep)(h1:1<=dep):CPost l k s c d acc R dep 1:=⟨h.ok,h.pre,h.cnt,h.fits h1,h.clo⟩
variable (h:EvC l k s c d X b)
include h
theorem EvC.refLen(hg:Gd l s c d m x)(hM:c.2.2.length<=10):(yg l k s c m x).length*wtM m<=1000:=by
 unfold yg wtM;cases hm:L8 0 m
 .have hl:=h.ruleLen hg;have:=Zl [] (IP l k s c m x) hl.1 hl.2;simp only[o6];simp only[dG]at this;omega
 .simp only[o7];have key:∀i,i<=c.2.2.length->((List.range i).foldl (λacc (j:Nat)=>Pq acc (IP l k s c (j:Int) x)) []).length<=100*i:=by
   intro i;induction i with
   |zero=>intro _;simp|succ i ih=>intro hi;have ih:=ih l7;rw[X3,Y1];have hl:=h.ruleLen (Gd.all hg (iQ.1 hm) (i:=i) l7);have:=Zl ((List.range i).foldl (λacc (j:Nat)=>Pq acc (IP l k s c (j:Int) x)) []) (IP l k s c (i:Int) x) hl.1 hl.2;show(Pq _ _).length<=_;omega
  have:=key c.2.2.length l7;omega
theorem EvC.refIn(hg:Gd l s c d m x){r:F6}(hr:r∈yg l k s c m x):
  (r.1=0/\0<=r.2/\r.2<o9 (Ik c m))\/(r.1=1/\Gd l s c d m r.2/\rkM l s m r.2<rkM l s m x)\/(r.1=2/\r.2=0)\/(r.1=3/\0<=r.2)\/(r.1=4/\m=-1/\0<=r.2/\∀(j:Nat) (v:List V3),c.2.2[j]? =some v->Gd l s c d (j:Int) r.2/\rkM l s (j:Int) r.2<rkM l s m x):=by
 unfold yg at hr;cases hm:L8 0 m
 .rw[hm,o6]at hr;rcases Vb.1 hr with hr|⟨n,hn,hr⟩
  .cases hr
  .obtain⟨v,r',q,_,_,_,q2,q3,q4⟩:=h.met hg;rw[q4]at hn;exact h.refN hg q2 q3 hn hr
 .rw[hm,o7]at hr;have h0:=iQ.1 hm;have key:∀i,i<=c.2.2.length->r∈(List.range i).foldl (λacc (j:Nat)=>Pq acc (IP l k s c (j:Int) x)) []->∃j:Nat,j<c.2.2.length/\∃n∈uj (IP l k s c (j:Int) x),Hl n=some r:=by
   intro i;induction i with
   |zero=>intro _ hh;cases hh|succ i ih=>
    intro hi hh;rw[X3,Y1]at hh;rcases Vb.1 (show r∈Pq _ _ from hh)with g|⟨n,hn,g⟩
    .exact ih l7 g
    .exact⟨i,l7,n,hn,g⟩
  obtain⟨j,hj,n,hn,hr⟩:=key _ (E9 _) hr;have hgj:=Gd.all hg h0 hj;obtain⟨v,r',q,_,_,_,q2,q3,q4⟩:=h.met hgj;rw[q4]at hn;have es:∀i:Int,0<=i->scM l s i=L9 l s:=λi hi=>by unfold scM;rw[Y3 hi];rfl
  have er:∀y,rkM l s (j:Int) y=rkM l s m y:=λy=>by unfold rkM;rw[jV,hm]
  rcases h.refN hgj q2 q3 hn hr with⟨e1,e2,e3⟩|⟨e1,e2,e3⟩|e|e|⟨e1,e2,e3⟩
  .left;refine⟨e1,e2,?_⟩;have l1:=(h.inps hgj).1;have l2:=(h.inps hg).1;rw[es _ l7]at l1;rw[es _ h0]at l2;unfold o9 at e3 ⊢;rw[l2,←l1];exact e3
  .right;left;rw[er,er]at e3;refine⟨e1,?_,e3⟩;rcases hg with⟨rfl,_⟩|⟨i,v,rfl,hi,_⟩
   .exact absurd h0 G7
   .exact Gd.all e2 l7 (X6.1 hi).1
  .exact .inr (.inr (.inl e))
  .exact .inr (.inr (.inr (.inl e)))
  .omega
theorem EvC.kid{n:Nat}(hS:SOk l k s c d n)(hM:c.2.2.length<=10)(hg:Gd l s c d m x)(hn:rkM l s m x<n+1){r:F6}(hr:r∈yg l k s c m x)(hA:AOk l k s c d acc)(hF:Ny acc dep)(hne:acc≠[])(h1:1<=dep)(h2:dep+rkM l s m x<=101)(hc:acc.length+wtM m<=1+1000*BD acc):
  CPost l k s c d acc (Na l k s c n m dep acc r) dep (wtM m)/\(r.1=1->(m,r.2)∈kS (Na l k s c n m dep acc r))/\(r.1=4->∀j:Nat,j<c.2.2.length->((j:Int),r.2)∈kS (Na l k s c n m dep acc r)):=by
 have hw:=a2P m;have push:∀y:Nd,b2S l k s c d y->eK y≠1->eK y≠5->eD y=dep->CPost l k s c d acc (acc++[y]) dep (wtM m):=λy hy k1 k5 hd=>by
  refine⟨h.pushO hM hA hF hy k1 hd l7 hne (λe=>absurd e k5),⟨[y],rfl⟩,?_,a1X acc hd h1,λz hz e=>?_⟩
  .have:BD (acc++[y])=BD acc:=by unfold BD;rw[uS,w_ k1,H6]
   rw[F5,this];simp only[au];omega
  .rcases C9.1 hz with hz|hz
   .exact .inl hz
   .rw[D9.1 hz]at e;exact absurd e k1
 unfold Na chT;rcases h.refIn hg hr with⟨e,e1,e2⟩|⟨e,e1,e2⟩|⟨e,e1⟩|⟨e,e1⟩|⟨e,e1,e2,e3⟩
 .rw[show x8 r.1 0=true from N9 e,o7];exact⟨push _ (.inr (.inr (.inl ⟨rfl,⟨x,hg⟩,e1,e2,rfl,rfl⟩))) (show(2:Int)≠1 by decide) (show(2:Int)≠5 by decide) rfl,λg=>by rw[e]at g;exact absurd g G7,λg=>by rw[e]at g;exact absurd g G7⟩
 .rw[show x8 r.1 0=false by rw[e];rfl,show x8 r.1 1=true from N9 e,o6,o7];have:=hS m r.2 dep acc e1 l7 hA hF l7 l7 l7;refine⟨?_,λ_=>this.key,λg=>by rw[e]at g;exact absurd g G7⟩;have hc2:=this.toC h1;exact⟨hc2.ok,hc2.pre,bJ hc2.cnt (Nat.add_le_add_right (Nat.add_le_add_left hw.1 _) _),hc2.fits,hc2.clo⟩
 .rw[show x8 r.1 0=false by rw[e];rfl,show x8 r.1 1=false by rw[e];rfl,show x8 r.1 2=true from N9 e,o6,o6,o7];exact⟨push _ (.inr (.inr (.inr (.inl ⟨rfl,⟨x,hg⟩,e1,rfl,rfl⟩)))) (show(4:Int)≠1 by decide) (show(4:Int)≠5 by decide) rfl,λg=>by rw[e]at g;exact absurd g G7,λg=>by rw[e]at g;exact absurd g G7⟩
 .rw[show x8 r.1 0=false by rw[e];rfl,show x8 r.1 1=false by rw[e];rfl,show x8 r.1 2=false by rw[e];rfl,show x8 r.1 3=true from N9 e,o6,o6,o6,o7];exact⟨push _ (.inr (.inr (.inr (.inr ⟨rfl,⟨x,hg⟩,e1,rfl⟩)))) (show(3:Int)≠1 by decide) (show(3:Int)≠5 by decide) rfl,λg=>by rw[e]at g;exact absurd g G7,λg=>by rw[e]at g;exact absurd g G7⟩
 .rw[show x8 r.1 0=false by rw[e];rfl,show x8 r.1 1=false by rw[e];rfl,show x8 r.1 2=false by rw[e];rfl,show x8 r.1 3=false by rw[e];rfl,o6,o6,o6,o6];have hw10:wtM m=10:=by rw[e1];rfl
  have key:∀i,i<=c.2.2.length->CPost l k s c d acc ((List.range i).foldl (λacc (j:Nat)=>qF l k s c n acc (j:Int) r.2 dep) acc) dep i/\∀j:Nat,j<i->((j:Int),r.2)∈kS ((List.range i).foldl (λacc (j:Nat)=>qF l k s c n acc (j:Int) r.2 dep) acc):=by
   intro i;induction i with
   |zero=>intro _;exact⟨CPost.refl hA hF,λj hj=>by omega⟩|succ i ih=>
    intro hi;obtain⟨p1,p2⟩:=ih l7;rw[X3,Y1];obtain⟨g1,g2⟩:=e3 i _ (bn l7);have hp:=hS (i:Int) r.2 dep _ g1 l7 p1.ok p1.fits l7 l7 (by have:=p1.cnt;omega);have hpc:=hp.toC h1;refine⟨p1.trans hpc,λj hj=>?_⟩;by_cases hji:j=i
    .subst hji;exact hp.key
    .exact hpc.keys (p2 j l7)
  obtain⟨p1,p2⟩:=key _ (E9 _);refine⟨⟨p1.ok,p1.pre,bJ p1.cnt (Nat.add_le_add_right (Nat.add_le_add_left l7 _) _),p1.fits,p1.clo⟩,λg=>by rw[e]at g;exact absurd g G7,λ_=>p2⟩
theorem EvC.kids{n:Nat}(hS:SOk l k s c d n)(hM:c.2.2.length<=10)(hg:Gd l s c d m x)(hn:rkM l s m x<n+1)(hA:AOk l k s c d acc)(hF:Ny acc dep)(h1:0<=dep)(h2:dep+rkM l s m x<=100)(hc:acc.length<=1000*BD acc)(hs:QH acc m x=false):
  ∀i,i<=(yg l k s c m x).length->CPost l k s c d (acc++[ndD l k s c m x dep]) (((yg l k s c m x).take i).foldl (Na l k s c n m (dep+1)) (acc++[ndD l k s c m x dep])) (dep+1) (i*wtM m)/\
   (∀r∈(yg l k s c m x).take i,(r.1=1->(m,r.2)∈kS (((yg l k s c m x).take i).foldl (Na l k s c n m (dep+1)) (acc++[ndD l k s c m x dep])))/\(r.1=4->∀j:Nat,j<c.2.2.length->((j:Int),r.2)∈kS (((yg l k s c m x).take i).foldl (Na l k s c n m (dep+1)) (acc++[ndD l k s c m x dep])))):=by
 have hw:=a2P m;have hrl:=h.refLen hg hM;intro i;induction i with
 |zero=>intro _;rw[List.take_zero];exact⟨CPost.refl (h.pushD hM hA hF hg l7 hs) (.inr ⟨ndD l k s c m x dep,x9,l7,.inr ⟨rfl,rfl⟩⟩),λr hr=>by cases hr⟩|succ i ih=>
  intro hi;obtain⟨p1,p2⟩:=ih l7;have hlt:i<(yg l k s c m x).length:=l7;rw[U3 hlt,Y1];have hcnt0:BD (acc++[ndD l k s c m x dep])=BD acc+1:=by unfold BD;rw[uS,MZ (y:=ndD l k s c m x dep) rfl];simp
  have hne:((yg l k s c m x).take i).foldl (Na l k s c n m (dep+1)) (acc++[ndD l k s c m x dep])≠[]:=by obtain⟨t,ht⟩:=p1.pre;rw[ht];simp
  have hmul:(i+1)*wtM m<=1000:=bJ (G9 _ hi) hrl;have hmul2:(i+1)*wtM m=i*wtM m+wtM m:=Nat.succ_mul _ _;have hpc:=p1.cnt;rw[F5,hcnt0]at hpc;simp only[au]at hpc;obtain⟨q1,q2,q3⟩:=h.kid hS hM hg hn (G8 hlt) p1.ok p1.fits hne l7 l7 l7;refine⟨?_,λr hr=>?_⟩
  .rw[hmul2];exact p1.trans q1
  .rcases C9.1 hr with hr|hr
   .exact⟨λe=>q1.keys ((p2 r hr).1 e),λe j hj=>q1.keys ((p2 r hr).2 e j hj)⟩
   .rw[D9.1 hr];exact⟨q2,q3⟩
theorem EvC.sub(hM:c.2.2.length<=10)(n:Nat):SOk l k s c d n:=by
 induction n with
 |zero=>intro m x dep acc hg hn;omega|succ n hS=>
  intro m x dep acc hg hn hA hF h1 h2 hc;unfold qF;cases hs:QH acc m x
  .rw[o6];obtain⟨p1,p2⟩:=h.kids hS hM hg hn hA hF h1 h2 hc hs _ (E9 _);rw[aQ]at p1 p2;have hcnt0:BD (acc++[ndD l k s c m x dep])=BD acc+1:=by unfold BD;rw[uS,MZ (y:=ndD l k s c m x dep) rfl];simp
   have hrl:=h.refLen hg hM;have hpc:=p1.cnt;rw[F5,hcnt0]at hpc;simp only[au]at hpc;have hself:(m,x)∈kS (acc++[ndD l k s c m x dep]):=yI.2 ⟨ndD l k s c m x dep,x9,rfl,rfl⟩;refine⟨p1.ok,?_,by show List.length (((yg l k s c m x)).foldl (Na l k s c n m (dep+1)) (acc++[ndD l k s c m x dep]))+_<=_+1000*BD (((yg l k s c m x)).foldl (Na l k s c n m (dep+1)) (acc++[ndD l k s c m x dep]));omega,λg=>b8h p1.fits g,p1.keys hself,λy hy e=>?_⟩
   .obtain⟨t,ht⟩:=p1.pre;exact⟨ndD l k s c m x dep::t,by show((yg l k s c m x)).foldl (Na l k s c n m (dep+1)) (acc++[ndD l k s c m x dep])=_;rw[ht];simp⟩
   .rcases p1.clo y hy e with g|g
    .rcases C9.1 g with g|g
     .exact .inl g
     .right;rw[D9.1 g];exact p2
    .exact .inr g
  .rw[o7];obtain⟨z,z1,z2,z3⟩:=yI.1 (Xt.1 hs);have hne:acc≠[]:=λe=>by rw[e]at z1;cases z1
   have hz:YF z=(evM l k s c m x).1:=by
    rcases hA.nd z z1 with⟨e,g,_,g2⟩|⟨e,g⟩|⟨e,g⟩|⟨e,g⟩|⟨e,g⟩
    .rw[g2,show eM z=m from congrArg (·.1) z3,show eI z=x from congrArg (·.2) z3]
    all_goals exact absurd (z2.symm.trans e) G7
   have k1:eK (ndR l k s c m x dep)≠1:=show(5:Int)≠1 by decide
   refine⟨h.pushO hM hA hF (.inr (.inl ⟨rfl,hg,rfl,rfl⟩)) k1 rfl l7 hne (λ_=>⟨z,z1,z2,z3,hz⟩),⟨[_],rfl⟩,?_,λg=>a1X acc rfl g,?_,λy hy e=>?_⟩
   .have:BD (acc++[ndR l k s c m x dep])=BD acc:=by unfold BD;rw[uS,w_ k1,H6]
    rw[F5,this];simp only[au];omega
   .rw[uS];exact I5 _ (Xt.1 hs)
   .rcases C9.1 hy with hy|hy
    .exact .inl hy
    .rw[D9.1 hy]at e;exact absurd e k1
end
end
section
variable {acc:List Nd}
theorem a5f(hl:acc.length<=1000000)(B:J9)(hB:B.1=acc)(m x:Int):oN B m x=some (QH acc m x,B):=by
 unfold oN gq iw;rw[hB];rw[Am acc (λy=>x8 y.1 1&&x8 y.2.2.1 m&&x8 y.2.2.2.1 x) hl (λi a ha=>?_) (by rw[J6];rfl)]
 .rfl
 .simp only[J7 ha,o7,F7,ha,o8];unfold rW;cases x8 a.1 1
  .rfl
  .cases x8 a.2.2.1 m
   .rfl
   .cases x8 a.2.2.2.1 x<;>rfl
section
variable {l:U6} {k:Int} {s:A7} {c:aF} {d:Int} {X:DB} {b:List DB}
theorem Zm(fd:Fnd)(y:Nd)(hl:acc.length<=1000000):jg (Bd l k c acc fd) y=some (Bd l k c (acc++[y]) fd):=by unfold jg;rw[show(Bd l k c acc fd).1=acc from rfl,uy Z5];rfl
variable (l k s c d)
def POk(n:Nat)(r20:J9->F6->Int->Option J9):Prop:=∀(m x dep:Int) (acc:List Nd) (fd:Fnd),Gd l s c d m x->rkM l s m x<n->AOk l k s c d acc->Ny acc dep->0<=dep->dep+rkM l s m x<=100->acc.length<=1000*BD acc->VY l k s c fd->
 ∃fd',r20 (Bd l k c acc fd) (m,x) dep=some (Bd l k c (qF l k s c n acc m x dep) fd')/\VY l k s c fd'
variable {l k s c d}
variable (h:EvC l k s c d X b)
include h
theorem EvC.childP{n:Nat}{r20:J9->F6->Int->Option J9}(r36:J9->F6->F6->Int->Option J9)(hP:POk l k s c d n r20)(hM:c.2.2.length<=10){m x:Int}(hg:Gd l s c d m x)(hn:rkM l s m x<n+1){r:F6}(hr:r∈yg l k s c m x){dep:Int}{fd:Fnd}(hA:AOk l k s c d acc)(hF:Ny acc dep)(hne:acc≠[])(h1:1<=dep)(h2:dep+rkM l s m x<=101)(hc:acc.length+wtM m<=1+1000*BD acc)(hf:VY l k s c fd):
  ∃fd',nY r20 r36 (Bd l k c acc fd) (m,x) r dep=some (Bd l k c (Na l k s c n m dep acc r) fd')/\VY l k s c fd' :=by
 have hw:=a2P m;have hd:=h.len hA hM;unfold nY Na chT;rcases h.refIn hg hr with⟨e,e1,e2⟩|⟨e,e1,e2⟩|⟨e,e1⟩|⟨e,e1⟩|⟨e,e1,e2,e3⟩
 .rw[show x8 r.1 0=true from N9 e,o7,o7];refine⟨fd,?_,hf⟩;obtain⟨v,hv,_⟩:=mO e1 e2;have hi:rV (Bd l k c acc fd) m=some (Ik c m,Bd l k c acc fd):=by
   unfold rV Ik;rcases hg with⟨rfl,_⟩|⟨j,u,rfl,hj,_⟩
   .rfl
   .rw[N7 l7,o6,jV,o7];rw[show F9 (Bd l k c acc fd).2.2.2.1.2.2 (j:Int)=some u from x_ hj,x_ hj];rfl
  rw[hi,o8];simp only;rw[hv,o8,Zm _ _ l7,o8];rfl
 .rw[show x8 r.1 0=false by rw[e];rfl,show x8 r.1 1=true from N9 e,o6,o7,o6,o7];obtain⟨fd',g1,g2⟩:=hP m r.2 dep acc fd e1 l7 hA hF l7 l7 l7 hf;refine⟨fd',?_,g2⟩;rw[g1];rfl
 .rw[show x8 r.1 0=false by rw[e];rfl,show x8 r.1 1=false by rw[e];rfl,show x8 r.1 2=true from N9 e];simp only[o6,o7];refine⟨fd,?_,hf⟩;rw[Zm _ _ l7,o8];rfl
 .rw[show x8 r.1 0=false by rw[e];rfl,show x8 r.1 1=false by rw[e];rfl,show x8 r.1 2=false by rw[e];rfl,show x8 r.1 3=true from N9 e];simp only[o6,o7];refine⟨fd,?_,hf⟩;rw[Zm _ _ l7,o8]
 .rw[show x8 r.1 0=false by rw[e];rfl,show x8 r.1 1=false by rw[e];rfl,show x8 r.1 2=false by rw[e];rfl,show x8 r.1 3=false by rw[e];rfl,show x8 r.1 4=true from N9 e];simp only[o6,o7];have hw10:wtM m=10:=by rw[e1];rfl
  have hS:=h.sub hM n;have key:∀i,i<=c.2.2.length->CPost l k s c d acc ((List.range i).foldl (λacc (j:Nat)=>qF l k s c n acc (j:Int) r.2 dep) acc) dep i:=by
   intro i;induction i with
   |zero=>intro _;exact CPost.refl hA hF|succ i ih=>intro hi;have p1:=ih l7;rw[X3,Y1];obtain⟨g1,g2⟩:=e3 i _ (bn l7);have hp:=hS (i:Int) r.2 dep _ g1 l7 p1.ok p1.fits l7 l7 (by have:=p1.cnt;omega);exact p1.trans (hp.toC h1)
  have lw:=FZ (σ:=J9×Int) (c.2.2) (λ(t:List Nd×Fnd) i=>(Bd l k c t.1 t.2,i)) (λt=>Bd l k c t.1 t.2)
   (λi t=>t.1=(List.range i).foldl (λacc (j:Nat)=>qF l k s c n acc (j:Int) r.2 dep) acc/\VY l k s c t.2)
   (f:=λ(x:J9×Int)=>
        l9 (E8 x.2 (o9 (Bd l k c acc fd).2.2.2.1.2.2))
         (o5 (r20 x.1 (x.2,r.2) dep) λ(x_1:J9)=>
          some (Sum.inl (x_1,D5 IntKind.i64 x.2 1)))
         (some (Sum.inr x.1))) (b:=(acc,fd)) l7 ⟨rfl,hf⟩ (λi a t ha ht=>?_) (λt ht=>?_)
  .obtain⟨t,t1,t2,t3⟩:=lw;refine⟨t.2,?_,t3⟩;rw[t1,o8,t2]
  .obtain⟨ht1,ht2⟩:=ht;have hi:=(X6.1 ha).1;have p1:=key i l7;obtain⟨g1,g2⟩:=e3 i _ ha;rw[←ht1]at p1;obtain⟨fd',f1,f2⟩:=hP (i:Int) r.2 dep t.1 t.2 g1 l7 p1.ok p1.fits l7 l7 (by have:=p1.cnt;omega) ht2;refine⟨(qF l k s c n t.1 (i:Int) r.2 dep,fd'),?_,?_,f2⟩
   .simp only;rw[show E8 (i:Int) (o9 (Bd l k c acc fd).2.2.2.1.2.2)=true from J7 (l:=c.2.2) ha,o7,f1,o8,Y4 l7]
   .show qF l k s c n t.1 (i:Int) r.2 dep=_;rw[X3,Y1,←ht1];rfl
  .simp only;rw[show E8 (c.2.2.length:Int) (o9 (Bd l k c acc fd).2.2.2.1.2.2)=false from J6 c.2.2];rfl
theorem EvC.subP(hM:c.2.2.length<=10)(n:Nat):∀N,2*n<=N->POk l k s c d n (P9 N).1:=by
 induction n with
 |zero=>intro N _ m x dep acc fd hg hn;omega|succ n ih=>
  intro N hN m x dep acc fd hg hn hA hF h1 h2 hc hf;obtain⟨N',rfl⟩:∃N',N=N' +2:=⟨N -2,l7⟩;have hP:=ih N' l7;have hS:=h.sub hM n;have hd:=h.len hA hM;show ∃fd',qR (P9 (N' +1)).1 (P9 (N' +1)).2 (Bd l k c acc fd) (m,x) dep=_/\_;unfold qR;obtain⟨fd1,a1,a2⟩:=h.eval hg acc hf;rw[a1,o8];simp only;rw[a5f (acc:=acc) l7 _ rfl,o8];simp only;unfold qF;cases hs:QH acc m x
  .rw[o6,o6,Zm _ _ l7,o8];obtain⟨fd2,b1,b2⟩:=h.refs hg hM (acc++[ndD l k s c m x dep]) a2;rw[show(Bd l k c (acc++[((1,dep,m,x,(evM l k s c m x).2.1,(evM l k s c m x).1):Y0)]) fd1)=Bd l k c (acc++[ndD l k s c m x dep]) fd1 from rfl,b1,o8];simp only;have hK:=h.kids hS hM hg hn hA hF h1 h2 hc hs;have hrl:=h.refLen hg hM;have hw:=a2P m;have hcnt0:BD (acc++[ndD l k s c m x dep])=BD acc+1:=by unfold BD;rw[uS,MZ (y:=ndD l k s c m x dep) rfl];simp
   have lw:=FZ (σ:=J9×Int) (yg l k s c m x) (λ(t:List Nd×Fnd) i=>(Bd l k c t.1 t.2,i)) (λt=>Bd l k c t.1 t.2)
    (λi t=>t.1=((yg l k s c m x).take i).foldl (Na l k s c n m (dep+1)) (acc++[ndD l k s c m x dep])/\VY l k s c t.2)
    (f:=λ(x_2:J9×Int)=>
        l9 (E8 x_2.2 (o9 (yg l k s c m x)))
         (o5 (F9 (yg l k s c m x) x_2.2) λ(x_3:F6)=>
          o5 (V6 (yg l k s c m x) (V9 x_2.2)) λ(x_4:F6)=>
           o5 ((P9 (N' +1)).2 x_2.1 (m,x) x_4 (D5 IntKind.i64 dep 1)) λ(x:J9)=>
            some (Sum.inl (x,D5 IntKind.i64 x_2.2 1)))
         (some (Sum.inr x_2.1))) (b:=(acc++[ndD l k s c m x dep],fd2)) (bJ (bJ (Nat.le_mul_of_pos_right _ hw.1) hrl) G7) ⟨rfl,b2⟩ (λi a t ha ht=>?_) (λt ht=>?_)
   .obtain⟨t,t1,t2,t3⟩:=lw;refine⟨t.2,?_,t3⟩;rw[t1,o8,t2,aQ];rfl
   .obtain⟨ht1,ht2⟩:=ht;have hi:=(X6.1 ha).1;have hi3:i<1000:=by
     have:=bJ (Nat.le_mul_of_pos_right (yg l k s c m x).length hw.1) hrl;omega
    have p1:=(hK i l7).1;rw[←ht1]at p1;have hne:t.1≠[]:=by obtain⟨u,hu⟩:=p1.pre;rw[hu];simp
    have hmul:(i+1)*wtM m<=1000:=bJ (G9 _ hi) hrl;have hmul2:(i+1)*wtM m=i*wtM m+wtM m:=Nat.succ_mul _ _;have hpc:=p1.cnt;rw[F5,hcnt0]at hpc;simp only[au]at hpc;obtain⟨fd',f1,f2⟩:=h.childP (P9 N').2 hP hM hg hn (kw ha) p1.ok p1.fits hne l7 l7 l7 ht2;refine⟨(Na l k s c n m (dep+1) t.1 a,fd'),?_,?_,f2⟩
    .simp only;rw[J7 ha,o7,F7,ha,o8];rw[show V6 (yg l k s c m x) (V9 (i:Int))=some a by unfold V6 V9;simpa using ha,o8];rw[show D5 IntKind.i64 dep 1=dep+1 from ai U7];rw[show(P9 (N' +1)).2 (Bd l k c t.1 t.2) (m,x) a (dep+1)=nY (P9 N').1 (P9 N').2 (Bd l k c t.1 t.2) (m,x) a (dep+1)from rfl];rw[f1,o8,Y4 l7]
    .show Na l k s c n m (dep+1) t.1 a=_;rw[List.take_succ,ha,Y1,←ht1];rfl
   .simp only;rw[J6];rfl
  .rw[o7,o7,Zm _ _ l7,o8];exact⟨fd1,rfl,a2⟩
end
end
section
theorem YN(l:U6)(k:Int)(s:A7)(c:aF)(d:Int):AOk l k s c d []:=⟨(λy hy=>by cases hy),List.Pairwise.nil,rfl,(λy hy=>by cases hy)⟩
theorem a3f{l:U6}{k:Int}{c:aF}{d:Int}(hL:SmL l)(hC:SmC c)(hT:∀t∈l.2.1,qO t)(h:(evI l k c d).2.2.1=0):∃s X b,EvC l k s c d X b:=by
 unfold evI at h;by_cases ha:(Bi l k c true d).1=0
 .rw[if_pos ha]at h;obtain⟨hv,s,hs⟩:=QV ha;rw[hs]at h;simp only at h;cases he:PR l s c (wS s d) (wM s (L9 l s) d)with
  |inr e=>have h:(c3O d (PR l s c (wS s d) (wM s (L9 l s) d))).2.2.1=0:=h;rw[he]at h;exact absurd h (a5a he)|inl x=>exact⟨s,x.1,x.2,hL,hC,hT,hs,ha,he⟩
 .rw[if_neg ha]at h;exact absurd h ha
def exS(l:U6)(k:Int)(c:aF)(d:Int):List Nd×E4:=
 if(evI l k c d).2.2.1=0 then(qF l k ((F9 l.2.2 k).getD wR) c 40 [] (-1) d 0,0,0,0,0)else([],(evI l k c d).2.2)
section
variable {l:U6} {k:Int} {s:A7} {c:aF} {d:Int} {X:DB} {b:List DB} (h:EvC l k s c d X b)
include h
theorem EvC.root:Gd l s c d (-1) d/\rkM l s (-1) d<40:=by refine⟨.inl ⟨rfl,.inl rfl⟩,?_⟩;have:=Gn h.sm d;show 15+_<40;omega
theorem EvC.nodes(hM:c.2.2.length<=10):SPost l k s c d [] (qF l k s c 40 [] (-1) d 0) (-1) d 0:=
 h.sub hM 40 (-1) d 0 [] h.root.1 h.root.2 (YN l k s c d) (.inl ⟨rfl,rfl⟩) l7 (by have:=h.root.2;omega) x9
theorem EvC.few(hM:c.2.2.length<=10):(qF l k s c 40 [] (-1) d 0).length<=160000:=by have hp:=h.nodes hM;have h1:=hp.cnt;have h2:=h.len hp.ok hM;have h3:BD ([]:List Nd)=0:=rfl;rw[h3]at h1;simp only[dG]at h1;omega
theorem EvC.exS:exS l k c d=(qF l k s c 40 [] (-1) d 0,0,0,0,0):=by
 obtain⟨v,r,_,_,h3,_⟩:=h.at (x:=d) (.inl rfl);have he:(evI l k c d).2.2.1=0:=by unfold evI;rw[if_pos h.ha,h.hs];simp only;rw[h3]
 unfold Go.GP.exS;rw[if_pos he,h.hs];rfl
theorem EvC.hd(hM:c.2.2.length<=10):∃t,qF l k s c 40 [] (-1) d 0=ndD l k s c (-1) d 0::t:=by have hK:=(h.kids (n:=39) (h.sub hM 39) hM h.root.1 (by have:=h.root.2;omega) (YN l k s c d) (.inl ⟨rfl,rfl⟩) l7 (by have:=h.root.2;omega) x9 rfl _ (E9 _)).1;rw[aQ]at hK;obtain⟨t,ht⟩:=hK.pre;exact⟨t,ht⟩
end
theorem a7D{l:U6}{k:Int}{c:aF}{d:Int}(hL:SmL l)(hC:SmC c)(hT:∀t∈l.2.1,qO t)(hM:c.2.2.length<=10):BX l k c d=some (exS l k c d):=by
 unfold BX;rw[ZZ hL hC hT,o8];by_cases h0:(evI l k c d).2.2.1=0
 .obtain⟨s,X,b,h⟩:=a3f hL hC hT h0;rw[N9 h0,E5,o6];have hf:2*40<=jb:=by unfold jb;omega
  obtain⟨fd',g1,g2⟩:=h.subP hM 40 jb hf (-1) d 0 [] [] h.root.1 h.root.2 (YN l k s c d) (.inl ⟨rfl,rfl⟩) l7 (by have:=h.root.2;omega) x9 (c0D l k s c);rw[show xe ([],l,k,c,[],0,0,0,0) (-1,d) 0=(P9 jb).1 (Bd l k c [] []) (-1,d) 0 from rfl,g1,o8,h.exS];rfl
 .unfold exS;rw[O9 h0,aW,o7,if_neg h0]
section
variable {l:U6} {k:Int} {s:A7} {c:aF} {d:Int} {X:DB} {b:List DB} (h:EvC l k s c d X b)
include h
end
end
section
theorem b9i{c:aF}(h:smC c=true):c.2.2.length<=10:=by
 unfold smC at h;cases h1:E8 14 (o9 c.2.1)<;>rw[h1]at h
 case true=>cases h
 cases h2:E8 10 (o9 c.2.2)<;>rw[h2]at h
 case true=>cases h
 rw[iE]at h2;unfold o9 at h2;omega
theorem b9E{α:Type}{l:List α}{i:Nat}{a:α}(h:l[i]? =some a):V6 l (V9 (i:Int))=some a:=by unfold V6 V9;simpa using h
def csM(s:A7)(k:Int)(c:aF)(m:Int):aF×Int:=l9 (L8 0 m) ((c.1,Ik c m,[]),s.2.1) (c,k)
theorem c0G(s:A7)(k:Int)(c:aF)(m:Int):(csM s k c m).1.2.1=Ik c m:=by unfold csM Ik;cases L8 0 m<;>rfl
section
variable {l:U6} {k:Int} {s:A7} {c:aF} {d:Int} {X:DB} {b:List DB} (h:EvC l k s c d X b)
include h
theorem EvC.csOk{m x:Int}(hg:Gd l s c d m x):L8 (o9 c.2.2) m=false/\l9 (L8 0 m) (o5 (F9 c.2.2 m) λ(x:List V8)=>o5 (F9 l.2.2 k) λ(x_9:A7)=>some (((c.1,x,[]):aF),x_9.2.1)) (some (c,k))=some (csM s k c m)/\SmC (csM s k c m).1:=by
 rcases hg with⟨rfl,_⟩|⟨j,u,rfl,hj,_⟩
 .exact⟨Y9 (by unfold o9;omega),rfl,h.hC⟩
 .have hi:Ik c (j:Int)=u:=by unfold Ik;rw[jV,o7,x_ hj];rfl
  have hlt:=(X6.1 hj).1;refine⟨Y9 (by unfold o9;omega),?_,?_⟩
  .unfold csM;rw[jV,o7,o7,x_ hj,o8,h.hs,hi];rfl
  .unfold csM;rw[jV,o7,hi];exact⟨h.hC.nv u (kw hj),x9,x9⟩
end
end
section
def kkF(k:Int):Int:=l9 (x8 k 0) 2 (l9 (x8 k 1) 1 (l9 (x8 k 2) 4 (l9 (x8 k 3) 3 100)))
def ivF(k:Int):Int:=l9 (x8 k 2) 0 (l9 (x8 k 1) 1 (l9 (x8 k 4) 2 (l9 (x8 k 3) 3 4)))
def Kw(n:F6):F6:=match Hl n with|none=>(0,0)|some r=>(kkF r.1,r.2)
theorem c0J(k:Int):kkF k≠0:=by unfold kkF;cases x8 k 0<;>cases x8 k 1<;>cases x8 k 2<;>cases x8 k 3<;>decide
theorem RS{n r:F6}(h:Hl n=some r):ivF (kkF r.1)=r.1/\kkF r.1≠0:=by rcases a6i h with⟨_,rfl⟩|⟨_,rfl⟩|⟨_,rfl⟩|⟨_,rfl⟩|⟨_,rfl⟩|⟨_,rfl⟩<;>exact⟨rfl,c0J _⟩
theorem a5r{m n r:F6}(h:Hl n=some r):Kw m=Kw n↔Hl m=some r:=by
 unfold Kw;rw[h];cases hm:Hl m with
 |none=>
  constructor
  .intro e;exact absurd (congrArg (·.1) e).symm (RS h).2
  .intro e;cases e
 |some q=>
  constructor
  .intro e;have e1:kkF q.1=kkF r.1:=congrArg (·.1) e;have e2:q.2=r.2:=congrArg (·.2) e;have k1:=(RS hm).1;have k2:=(RS h).1;rw[e1,k2]at k1;exact congrArg some (fH k1.symm e2)
  .intro e;cases e;rfl
theorem a4e(n:F6):Jb n=some (Kw n):=by
 unfold Jb Kw Hl;cases x8 n.1 7
 case true=>rfl
 cases x8 n.1 8
 case true=>rfl
 cases x8 n.1 9
 case true=>rfl
 cases x8 n.1 33
 case true=>rfl
 cases x8 n.1 34
 case true=>rfl
 simp only[o6];rw[a7N];cases x8 n.1 36
 case true=>rfl
 cases x8 n.1 37
 case true=>rfl
 cases x8 n.1 38
 case true=>rfl
 cases x8 n.1 39
 case true=>rfl
 rfl
variable {n:F6}
theorem b2p{L:List F6}(hl:L.length<=1000000){i:Nat}(hn:L[i]? =some n):Lh L (i:Int)=some (match Hl n with|none=>false|some r=> !(((L.take i).foldl adR []).any λx=>kq r x)):=by
 unfold Lh;have hi:=(X6.1 hn).1;rw[F7,hn,o8,a4e,o8];have hlen:(L.take i).length=i:=by rw[bM];omega
 refine X9 (xH (L.take i) (λm=>kq (Kw m) (Kw n)) false PUnit.unit l7 (λj a ha=>?_) ?_) ?_
 .have hj:=(X6.1 ha).1;have hj2:j<i:=by rw[hlen]at hj;exact hj
  have ha2:L[j]? =some a:=by rw[ae]at ha;rw[if_pos hj2]at ha;exact ha
  rw[U8 (show(j:Int)<(i:Int) by omega),o7,F7,ha2,o8,a4e,o8];unfold kq;cases x8 (Kw a).1 (Kw n).1
  .rfl
  .cases x8 (Kw a).2 (Kw n).2<;>rfl
 .rw[hlen,N7 (aX _)];rfl
 .cases hr:Hl n with
  |none=>
   have hk:(Kw n).1=0:=by unfold Kw;rw[hr]
   cases (L.take i).any λm=>kq (Kw m) (Kw n)
   .show some (F8 (x8 (Kw n).1 0))=_;rw[hk];rfl
   .rfl
  |some r=>
   have hany:((L.take i).any λm=>kq (Kw m) (Kw n))=(((L.take i).foldl adR []).any λx=>kq r x):=by
    rw[fV,Y6,Y6];constructor
    .rintro⟨m,hm,hk⟩;exact⟨r,(Va _ _).2 (.inr ⟨m,hm,(a5r hr).1 ((TK _ _).1 hk)⟩),(TK _ _).2 rfl⟩
    .rintro⟨x,hx,hk⟩;have:=(TK _ _).1 hk;subst this;rcases(Va _ _).1 hx with hx|⟨m,hm,hx⟩
     .cases hx
     .exact⟨m,hm,(TK _ _).2 ((a5r hr).2 hx)⟩
   rw[hany];have hk:x8 (Kw n).1 0=false:=O9 (by unfold Kw;rw[hr];exact(RS hr).2);show _=some (!(((L.take i).foldl adR []).any λx=>kq r x));cases (((L.take i).foldl adR []).any λx=>kq r x)
   .show some (F8 (x8 (Kw n).1 0))=_;rw[hk];rfl
   .rfl
theorem b2Z:∀(L l:List F6),∃t,L.foldl adR l=l++t
 |[],l=>⟨[],x9⟩|n::L,l=>by
  obtain⟨t,ht⟩:=b2Z L (adR l n);have:∃u,adR l n=l++u:=by
   unfold adR;cases Hl n with
   |none=>exact⟨[],x9⟩|some r=>
    simp only;cases l.any λx=>kq r x
    .exact⟨[r],rfl⟩
    .exact⟨[],x9⟩
  obtain⟨u,hu⟩:=this;refine⟨u++t,?_⟩;rw[P6,ht,hu,G5]
section
variable (l:U6) (k:Int) (s:A7) (c:aF)
def a6z(m x:Int):List F6:=l9 (L8 0 m) ((List.range c.2.2.length).flatMap λ(j:Nat)=>uj (IP l k s c (j:Int) x)) (uj (IP l k s c m x))
def Rb(acc:List Nd):H5:=(l,k,c,acc)
end
theorem a6h(l:U6)(k:Int)(s:A7)(c:aF)(m x:Int):yg l k s c m x=(a6z l k s c m x).foldl adR []:=by
 unfold yg a6z;cases L8 0 m
 .rfl
 .simp only[o7];have key:∀(J:d1B) (a:List F6),J.foldl (λacc (j:Nat)=>Pq acc (IP l k s c (j:Int) x)) a=(J.flatMap λ(j:Nat)=>uj (IP l k s c (j:Int) x)).foldl adR a:=by
   intro J;induction J with
   |nil=>intro a;rfl|cons j J ih=>intro a;rw[P6,ih,List.flatMap_cons,Y1];rfl
  exact key _ _
variable {m:Int}{x:Int}
section
variable {l:U6} {k:Int} {s:A7} {c:aF} {d:Int} {X:DB} {b:List DB}
theorem b5W{acc:List Nd}(hl:acc.length<=1000000)(m x:Int):Dt (Rb l k c acc) m x=some (QH acc m x,Rb l k c acc):=by
 unfold Dt;refine X9 (xH acc (λy=>x8 y.1 1&&x8 y.2.2.1 m&&x8 y.2.2.2.1 x) (true,Rb l k c acc) PUnit.unit hl (λi a ha=>?_) (by show l9 (E8 (acc.length:Int) (o9 acc)) _ _=_;rw[J6];rfl)) ?_
 .simp only[show(Rb l k c acc).2.2.2=acc from rfl,J7 ha,o7,F7,ha,o8,b9E ha];cases x8 a.1 1
  .rfl
  .cases x8 a.2.2.1 m
   .rfl
   .cases x8 a.2.2.2.1 x<;>rfl
 .unfold QH;cases acc.any λy=>x8 y.1 1&&x8 y.2.2.1 m&&x8 y.2.2.2.1 x<;>rfl
variable (h:EvC l k s c d X b)
include h
theorem EvC.rwhere(hg:Gd l s c d m x)(acc:List Nd):rJ (Rb l k c acc) m=some ((csM s k c m).2,(csM s k c m).1,Rb l k c acc):=by
 unfold rJ;rcases hg with⟨rfl,_⟩|⟨j,u,rfl,hj,_⟩
 .rfl
 .have hi:Ik c (j:Int)=u:=by unfold Ik;rw[jV,o7,x_ hj];rfl
  rw[N7 l7,o6];rw[show F9 (Rb l k c acc).1.2.2 (Rb l k c acc).2.1=some s from h.hs,o8,show F9 (Rb l k c acc).2.2.1.2.2 (j:Int)=some u from x_ hj,o8];unfold csM;rw[jV,o7,hi];rfl
theorem EvC.rev(hg:Gd l s c d m x):gK l (csM s k c m).2 (csM s k c m).1 x=some (evM l k s c m x):=by
 obtain⟨q1,q2,q3⟩:=h.csOk hg;rcases hg with⟨rfl,hx⟩|⟨j,u,rfl,hj,hx⟩
 .have hb:=hx.bd h.dd.1 h.dd.2;have e:evM l k s c (-1) x=TG l s c x:=by
   unfold evM evI;rw[show L8 0 (-1:Int)=false from rfl,o6,if_pos (h.args hx),h.hs]
  rw[e];exact Nq h.hL h.hC h.hT h.hv h.hs hb.1 hb.2
 .have hb:=hx.bd h.mb;have hi:Ik c (j:Int)=u:=by unfold Ik;rw[jV,o7,x_ hj];rfl
  have e1:=(h.scm hj).1;have e:evM l k s c (j:Int) x=TG l (L9 l s) (c.1,u,[]) x:=by unfold evM evI;rw[jV,o7,hi,if_pos (h.argm hj hb.1 hb.2),e1]
  have ec:csM s k c (j:Int)=((c.1,u,[]),s.2.1):=by unfold csM;rw[jV,o7,hi]
  rw[ec]at q3 ⊢;rw[e];exact Nq h.hL q3 h.hT h.hv e1 hb.1 hb.2
theorem EvC.selLen(hg:Gd l s c d m x)(hM:c.2.2.length<=10):(a6z l k s c m x).length<=1000:=by
 unfold a6z;cases hm:L8 0 m
 .have hl:=h.ruleLen hg;simp only[o6];unfold uj;rw[F5];omega
 .simp only[o7];have key:∀i,i<=c.2.2.length->((List.range i).flatMap λ(j:Nat)=>uj (IP l k s c (j:Int) x)).length<=100*i:=by
   intro i;induction i with
   |zero=>intro _;simp|succ i ih=>
    intro hi;have ih:=ih l7;have hl:=h.ruleLen (Gd.all hg (iQ.1 hm) (i:=i) l7);rw[X3,List.flatMap_append,F5];have:(([i]:d1B).flatMap λ(j:Nat)=>uj (IP l k s c (j:Int) x)).length<=100:=by rw[List.flatMap_cons,List.flatMap_nil,H6];unfold uj;rw[F5];omega
    omega
  have:=key c.2.2.length (E9 _);omega
theorem EvC.rsel(hg:Gd l s c d m x)(hM:c.2.2.length<=10)(acc:List Nd):xZ (Rb l k c acc) m x (evM l k s c m x).2.1=some (a6z l k s c m x,Rb l k c acc):=by
 unfold xZ a6z;rcases hg with⟨rfl,hx⟩|⟨j,u,rfl,hj,hx⟩
 .have hg:Gd l s c d (-1) x:=.inl ⟨rfl,hx⟩;obtain⟨v,r,q,e1,q0,q1,q2,q3,q4⟩:=h.met hg;have hlen:=h.ruleLen hg;rw[show E8 (-1:Int) 0=true from rfl,o7,show L8 0 (-1:Int)=false from rfl,o6,q4,e1];rw[q4]at hlen;have es:scM l s (-1)=s:=rfl;rw[es]at q1;rw[show F9 (Rb l k c acc).1.2.2 (Rb l k c acc).2.1=some s from h.hs,o8];simp only;rw[q1,o8,uy Z5,o8,o8,q1,o8,uy Z5,o8];rfl
 .have hg:Gd l s c d (j:Int) x:=.inr ⟨j,u,rfl,hj,hx⟩;rw[N7 l7,o6,jV,o7];have lw:=FZ (σ:=H5×List F6×Int) (c.2.2) (λ(t:List F6) i=>(Rb l k c acc,t,i)) (λt=>(Rb l k c acc,t))
   (λi t=>t=(List.range i).flatMap (λ(j:Nat)=>uj (IP l k s c (j:Int) x))/\t.length<=100*i)
   (f:=λ(x_1:H5×List F6×Int)=>
    l9 (E8 x_1.2.2 (o9 x_1.1.2.2.1.2.2))
     (o5 (rJ x_1.1 x_1.2.2) λ(x_2:Int×aF×H5)=>
      o5 (gK x_2.2.2.1 x_2.1 x_2.2.1 x) λ(x_3:V8×Int×I4)=>
       o5 (F9 x_2.2.2.1.2.2 x_2.1) λ(x_4:A7)=>
        o5 (F9 x_4.2.2.2.2 x_3.2.1) λ(x_5:Z7)=>
         o5 (cu x_1.2.1 x_5.2.2.2.2.2.1) λ(x_6:List F6)=>
          o5 (F9 x_2.2.2.1.2.2 x_2.1) λ(x_7:A7)=>
           o5 (F9 x_7.2.2.2.2 x_3.2.1) λ(x_8:Z7)=>
            o5 (cu x_6 x_8.2.2.2.2.2.2.1) λ(x_9:List F6)=>
             some (Sum.inl (x_2.2.2,x_9,D5 IntKind.i64 x_1.2.2 1)))
     (some (Sum.inr (x_1.1,x_1.2.1)))) (b:=[]) l7 ⟨rfl,x9⟩ (λi a t ha ht=>?_) (λt ht=>?_)
  .obtain⟨t,t1,t2,t3⟩:=lw;rw[t1,o8,t2]
  .obtain⟨ht1,ht2⟩:=ht;have hi:=(X6.1 ha).1;have hgi:=Gd.all hg l7 hi;obtain⟨v,r,q,p1,p0,p2,p3,p4,p5⟩:=h.met hgi;have hlen:=h.ruleLen hgi;rw[p5]at hlen;refine⟨t++uj q,?_,?_,?_⟩
   .simp only;rw[show E8 (i:Int) (o9 (Rb l k c acc).2.2.1.2.2)=true from J7 (l:=c.2.2) ha,o7,h.rwhere hgi,o8];simp only;rw[show gK (Rb l k c acc).1 (csM s k c (i:Int)).2 (csM s k c (i:Int)).1 x=some (evM l k s c (i:Int) x)from h.rev hgi,o8,p1];simp only;have hsc:F9 (Rb l k c acc).1.2.2 (csM s k c (i:Int)).2=some (scM l s (i:Int)):=by
     have e1:=(h.scm ha).1;unfold csM scM;rw[jV,o7,o7];exact e1
    rw[hsc,o8,p2,o8,uy l7,o8,o8,p2,o8,uy (by rw[F5];omega),o8,Y4 l7];unfold uj;rw[G5]
   .rw[X3,List.flatMap_append,←ht1,←p5];simp
   .unfold uj;rw[F5,F5];omega
  .simp only;rw[show E8 (c.2.2.length:Int) (o9 (Rb l k c acc).2.2.1.2.2)=false from J6 c.2.2];rfl
end
end
section
section
variable {l:U6} {k:Int} {s:A7} {c:aF} {d:Int} {X:DB} {b:List DB}
theorem a6w{acc:List Nd}(y:Nd)(hl:acc.length<=1000000):cu (Rb l k c acc).2.2.2 [y]=some (acc++[y]):=uy (by show acc.length+1<=_;omega)
variable (l k s c d)
def c3p(n:Nat)(r41:H5->Int->Int->Int->Option H5):Prop:=∀(m x dep:Int) (acc:List Nd),Gd l s c d m x->rkM l s m x<n->AOk l k s c d acc->Ny acc dep->0<=dep->dep+rkM l s m x<=100->acc.length<=1000*BD acc->
 r41 (Rb l k c acc) m x dep=some (Rb l k c (qF l k s c n acc m x dep))
variable {l k s c d}
variable (h:EvC l k s c d X b)
include h
theorem EvC.rref{n:Nat}{r41:H5->Int->Int->Int->Option H5}(r71:H5->F6->Int->Int->aF->Option H5)(hP:c3p l k s c d n r41)(hM:c.2.2.length<=10){m x:Int}(hg:Gd l s c d m x)(hn:rkM l s m x<n+1){nd r:F6}(hnd:Hl nd=some r)(hr:r∈yg l k s c m x){dep:Int}{acc:List Nd}(hA:AOk l k s c d acc)(hF:Ny acc dep)(hne:acc≠[])(h1:1<=dep)(h2:dep+rkM l s m x<=101)(hc:acc.length+wtM m<=1+1000*BD acc):
  mD r41 r71 (Rb l k c acc) nd m dep (csM s k c m).1=some (Rb l k c (Na l k s c n m dep acc r)):=by
 have hw:=a2P m;have hd:=h.len hA hM;have hkey:Jb nd=some (kkF r.1,r.2):=by rw[a4e];unfold Kw;rw[hnd]
 unfold mD Na chT;rw[hkey,o8];simp only;rcases h.refIn hg hr with⟨e,e1,e2⟩|⟨e,e1,e2⟩|⟨e,e1⟩|⟨e,e1⟩|⟨e,e1,e2,e3⟩
 .rw[show kkF r.1=2 by rw[e];rfl,show x8 r.1 0=true from N9 e,o7,show x8 (2:Int) 1=false from rfl,show x8 (2:Int) 100=false from rfl,show x8 (2:Int) 2=true from rfl,o6,o6,o7,c0G];obtain⟨v,hv,_⟩:=mO e1 e2;rw[hv,o8,a6w _ l7,o8];rfl
 .rw[show kkF r.1=1 by rw[e];rfl,show x8 r.1 0=false by rw[e];rfl,show x8 r.1 1=true from N9 e,o6,o7,show x8 (1:Int) 1=true from rfl,o7];rw[hP m r.2 dep acc e1 l7 hA hF l7 l7 l7,o8]
 .rw[show kkF r.1=4 by rw[e];rfl,show x8 r.1 0=false by rw[e];rfl,show x8 r.1 1=false by rw[e];rfl,show x8 r.1 2=true from N9 e];rw[show x8 (4:Int) 1=false from rfl,show x8 (4:Int) 100=false from rfl,show x8 (4:Int) 2=false from rfl,show x8 (4:Int) 4=true from rfl];simp only[o6,o7];rw[a6w _ l7,o8,show(csM s k c m).1.1=c.1 by unfold csM;cases L8 0 m<;>rfl];rfl
 .rw[show kkF r.1=3 by rw[e];rfl,show x8 r.1 0=false by rw[e];rfl,show x8 r.1 1=false by rw[e];rfl,show x8 r.1 2=false by rw[e];rfl,show x8 r.1 3=true from N9 e];rw[show x8 (3:Int) 1=false from rfl,show x8 (3:Int) 100=false from rfl,show x8 (3:Int) 2=false from rfl,show x8 (3:Int) 4=false from rfl];simp only[o6,o7];rw[a6w _ l7,o8];rfl
 .rw[show kkF r.1=100 by rw[e];rfl,show x8 r.1 0=false by rw[e];rfl,show x8 r.1 1=false by rw[e];rfl,show x8 r.1 2=false by rw[e];rfl,show x8 r.1 3=false by rw[e];rfl];rw[show x8 (100:Int) 1=false from rfl,show x8 (100:Int) 100=true from rfl];simp only[o6,o7];have hw10:wtM m=10:=by rw[e1];rfl
  have hS:=h.sub hM n;have key:∀i,i<=c.2.2.length->CPost l k s c d acc ((List.range i).foldl (λacc (j:Nat)=>qF l k s c n acc (j:Int) r.2 dep) acc) dep i:=by
   intro i;induction i with
   |zero=>intro _;exact CPost.refl hA hF|succ i ih=>intro hi;have p1:=ih l7;rw[X3,Y1];obtain⟨g1,g2⟩:=e3 i _ (bn l7);have hp:=hS (i:Int) r.2 dep _ g1 l7 p1.ok p1.fits l7 l7 (by have:=p1.cnt;omega);exact p1.trans (hp.toC h1)
  have lw:=FZ (σ:=H5×Int) (c.2.2) (λ(t:List Nd) i=>(Rb l k c t,i)) (λt=>Rb l k c t)
   (λi t=>t=(List.range i).foldl (λacc (j:Nat)=>qF l k s c n acc (j:Int) r.2 dep) acc)
   (f:=λ(x_1:H5×Int)=>
      l9 (E8 x_1.2 (o9 x_1.1.2.2.1.2.2))
       (o5 (r41 x_1.1 x_1.2 r.2 dep) λ(x:H5)=>
        some (Sum.inl (x,D5 IntKind.i64 x_1.2 1)))
       (some (Sum.inr x_1.1))) (b:=acc) l7 rfl (λi a t ha ht=>?_) (λt ht=>?_)
  .obtain⟨t,t1,t2⟩:=lw;rw[t1,o8,t2]
  .have hi:=(X6.1 ha).1;have p1:=key i l7;obtain⟨g1,g2⟩:=e3 i _ ha;rw[←ht]at p1;refine⟨qF l k s c n t (i:Int) r.2 dep,?_,?_⟩
   .simp only;rw[show E8 (i:Int) (o9 (Rb l k c t).2.2.1.2.2)=true from J7 (l:=c.2.2) ha,o7];rw[hP (i:Int) r.2 dep t g1 l7 p1.ok p1.fits l7 l7 (by have:=p1.cnt;omega),o8,Y4 l7]
   .rw[X3,Y1,←ht];rfl
  .simp only;rw[show E8 (c.2.2.length:Int) (o9 (Rb l k c t).2.2.1.2.2)=false from J6 c.2.2];rfl
theorem EvC.rsubP(hM:c.2.2.length<=10)(n:Nat):∀N,2*n<=N->c3p l k s c d n (bi N).1:=by
 induction n with
 |zero=>intro N _ m x dep acc hg hn;omega|succ n ih=>
  intro N hN m x dep acc hg hn hA hF h1 h2 hc;obtain⟨N',rfl⟩:∃N',N=N' +2:=⟨N -2,l7⟩;have hP:=ih N' l7;have hS:=h.sub hM n;have hd:=h.len hA hM;show xY (bi (N' +1)).1 (bi (N' +1)).2 (Rb l k c acc) m x dep=_;unfold xY;rw[h.rwhere hg,o8];simp only;rw[show gK (Rb l k c acc).1 (csM s k c m).2 (csM s k c m).1 x=some (evM l k s c m x)from h.rev hg,o8,b5W l7,o8];simp only;unfold qF;cases hs:QH acc m x
  .rw[o6,o6,a6w _ l7,o8];rw[show(((Rb l k c acc).1,(Rb l k c acc).2.1,(Rb l k c acc).2.2.1,acc++[((1,dep,m,x,(evM l k s c m x).2.1,(evM l k s c m x).1):Y0)]):H5)=Rb l k c (acc++[ndD l k s c m x dep])from rfl,h.rsel hg hM,o8];simp only;have hK:=h.kids hS hM hg hn hA hF h1 h2 hc hs;have hrl:=h.refLen hg hM;have hw:=a2P m;have hsl:=h.selLen hg hM;have hcnt0:BD (acc++[ndD l k s c m x dep])=BD acc+1:=by unfold BD;rw[uS,MZ (y:=ndD l k s c m x dep) rfl];simp
   obtain⟨L,hL⟩:∃L,L=a6z l k s c m x:=⟨_,rfl⟩;have hLr:yg l k s c m x=L.foldl adR []:=by rw[hL];exact a6h l k s c m x
   rw[←hL]at hsl ⊢;have lw:=FZ (σ:=H5×Int) L (λ(t:List Nd) i=>(Rb l k c t,i)) (λt=>Rb l k c t)
    (λi t=>t=((L.take i).foldl adR []).foldl (Na l k s c n m (dep+1)) (acc++[ndD l k s c m x dep]))
    (f:=λ(x_5:H5×Int)=>
         l9 (E8 x_5.2 (o9 L))
          (o5 (Lh L x_5.2) λ(x_6:Bool)=>
           l9 x_6
            (o5 (F9 L x_5.2) λ(x_7:F6)=>
             o5 (V6 L (V9 x_5.2)) λ(x_8:F6)=>
              o5 ((bi (N' +1)).2 x_5.1 x_8 m (D5 IntKind.i64 dep 1) (csM s k c m).1) λ(x:H5)=>
               some (Sum.inl (x,D5 IntKind.i64 x_5.2 1)))
            (some (Sum.inl (x_5.1,D5 IntKind.i64 x_5.2 1))))
          (some (Sum.inr x_5.1))) (b:=acc++[ndD l k s c m x dep]) l7 rfl (λi a t ha ht=>?_) (λt ht=>?_)
   .obtain⟨t,t1,t2⟩:=lw;rw[t1,o8,t2,aQ,←hLr];rfl
   .have hi:=(X6.1 ha).1;have htk:L.take (i+1)=L.take i++[a]:=by rw[List.take_succ,ha];rfl
    simp only;rw[J7 ha,o7,b2p l7 ha,o8];cases hra:Hl a with
    |none=>simp only[o6];refine⟨t,by rw[Y4 l7],?_⟩;rw[htk,Y1,ht];unfold adR;rw[P6,hra];rfl|some r=>
     simp only;cases hany:((L.take i).foldl adR []).any λx=>kq r x
     .simp only[Bool.not_false,o7];have hnew:(L.take (i+1)).foldl adR []=(L.take i).foldl adR []++[r]:=by
       rw[htk,Y1,P6,List.foldl_nil];show adR ((L.take i).foldl adR []) a=_;generalize (L.take i).foldl adR []=P at hany;unfold adR;rw[hra];simp only;rw[hany];rfl
      obtain⟨u,hu⟩:=b2Z (L.drop (i+1)) ((L.take (i+1)).foldl adR []);rw[←Y1,gI,←hLr,hnew]at hu;have hrm:r∈yg l k s c m x:=by rw[hu];simp
      obtain⟨P,hPd⟩:∃P,P=(L.take i).foldl adR []:=⟨_,rfl⟩;rw[←hPd]at hu hnew ht;have htake:(yg l k s c m x).take P.length=P:=by rw[hu,G5,List.take_left]
      have hlt:P.length<(yg l k s c m x).length:=by rw[hu];simp
      have p1:=(hK P.length l7).1;rw[htake,←ht]at p1;have hne:t≠[]:=by obtain⟨u,hu⟩:=p1.pre;rw[hu];simp
      have hmul:(P.length+1)*wtM m<=1000:=bJ (G9 _ hlt) hrl;have hmul2:(P.length+1)*wtM m=P.length*wtM m+wtM m:=Nat.succ_mul _ _;have hpc:=p1.cnt;rw[F5,hcnt0]at hpc;simp only[au]at hpc;refine⟨Na l k s c n m (dep+1) t r,?_,?_⟩
      .rw[F7,ha,o8,b9E ha,o8];rw[show D5 IntKind.i64 dep 1=dep+1 from ai U7];rw[show(bi (N' +1)).2 (Rb l k c t) a m (dep+1) (csM s k c m).1=mD (bi N').1 (bi N').2 (Rb l k c t) a m (dep+1) (csM s k c m).1 from rfl];rw[h.rref (bi N').2 hP hM hg hn hra hrm p1.ok p1.fits hne l7 l7 l7,o8,Y4 l7]
      .rw[hnew,Y1,←ht];rfl
     .simp only[jr,o6];refine⟨t,by rw[Y4 l7],?_⟩;rw[htk,Y1,ht,P6,List.foldl_nil];generalize (L.take i).foldl adR []=P at hany;unfold adR;rw[hra];simp only;rw[hany];rfl
   .simp only;rw[J6];rfl
  .rw[o7,o7,a6w _ l7,o8];rfl
end
variable {l:U6}{k:Int}{c:aF}{d:Int}
theorem a6b(hL:SmL l)(hC:SmC c)(hT:∀t∈l.2.1,qO t)(hM:c.2.2.length<=10):GI l k c d=some (exS l k c d):=by
 unfold GI;rw[b0x hL hC hT,o8];by_cases h0:(evI l k c d).2.2.1=0
 .obtain⟨s,X,b,h⟩:=a3f hL hC hT h0;rw[N9 h0,E5,o6];have hf:2*40<=jb:=by unfold jb;omega
  have g1:=h.rsubP hM 40 jb hf (-1) d 0 [] h.root.1 h.root.2 (YN l k s c d) (.inl ⟨rfl,rfl⟩) l7 (by have:=h.root.2;omega) x9;rw[show EW (l,k,c,[]) (-1) d 0=(bi jb).1 (Rb l k c []) (-1) d 0 from rfl,g1,o8,h.exS];rfl
 .unfold exS;rw[O9 h0,aW,o7,if_neg h0]
def Ot(l:U6)(k:Int)(A:List Nd):U6:=KR l k (ja (vO A)) (ja (yQ A))
def b5L(l:U6)(k:Int)(c:aF)(d:Int):V3×E4:=
 if(evI l k c d).2.2.1=0 then((evI (Ot l k (exS l k c d).1) k c d).1,(evI (Ot l k (exS l k c d).1) k c d).2.2)else((0,0,0),(evI l k c d).2.2)
theorem b8g(h:(evI l k c d).2.2.1≠0):exS l k c d=([],(evI l k c d).2.2):=if_neg h
section
variable {l:U6} {k:Int} {s:A7} {c:aF} {d:Int} {X:DB} {b:List DB} (h:EvC l k s c d X b)
include h
theorem EvC.own(hM:c.2.2.length<=10){r:Int} :r∈vO (qF l k s c 40 [] (-1) d 0)↔∃x,(-1,x)∈kS (qF l k s c 40 [] (-1) d 0)/\Gd l s c d (-1) x/\r=(evM l k s c (-1) x).2.1:=by
 have hp:=h.nodes hM;unfold vO;rw[U0];constructor
 .rintro⟨y,hy,rfl⟩;obtain⟨h1,h2⟩:=I7.1 hy;unfold W_ at h2;rw[A8]at h2;have e1:=O5.1 h2.1;have e2:=O5.1 h2.2;refine⟨eI y,yI.2 ⟨y,h1,e1,fH e2 rfl⟩,?_⟩;rcases hp.ok.nd y h1 with⟨_,g,g2,_⟩|⟨g,_⟩|⟨g,_⟩|⟨g,_⟩|⟨g,_⟩
  .rw[e2]at g g2;exact⟨g,g2⟩
  all_goals exact absurd (e1.symm.trans g) G7
 .rintro⟨x,hx,g,rfl⟩;obtain⟨y,h1,h2,h3⟩:=yI.1 hx;have e2:eM y=-1:=congrArg (·.1) h3;have e3:eI y=x:=congrArg (·.2) h3;refine⟨y,I7.2 ⟨h1,?_⟩,?_⟩
  .unfold W_;rw[N9 h2,N9 e2];rfl
  .rcases hp.ok.nd y h1 with⟨_,g,g2,_⟩|⟨g,_⟩|⟨g,_⟩|⟨g,_⟩|⟨g,_⟩
   .rw[g2,e2,e3]
   all_goals exact absurd (h2.symm.trans g) G7
theorem EvC.memU(hM:c.2.2.length<=10){r:Int} :r∈yQ (qF l k s c 40 [] (-1) d 0)↔∃m x,0<=m/\(m,x)∈kS (qF l k s c 40 [] (-1) d 0)/\Gd l s c d m x/\r=(evM l k s c m x).2.1:=by
 have hp:=h.nodes hM;unfold yQ;rw[U0];constructor
 .rintro⟨y,hy,rfl⟩;obtain⟨h1,h2⟩:=I7.1 hy;unfold F_ at h2;rw[A8]at h2;have e1:=O5.1 h2.1;refine⟨eM y,eI y,iQ.1 h2.2,yI.2 ⟨y,h1,e1,rfl⟩,?_⟩;rcases hp.ok.nd y h1 with⟨_,g,g2,_⟩|⟨g,_⟩|⟨g,_⟩|⟨g,_⟩|⟨g,_⟩
  .exact⟨g,g2⟩
  all_goals exact absurd (e1.symm.trans g) G7
 .rintro⟨m,x,h0,hx,g,rfl⟩;obtain⟨y,h1,h2,h3⟩:=yI.1 hx;have e2:eM y=m:=congrArg (·.1) h3;have e3:eI y=x:=congrArg (·.2) h3;refine⟨y,I7.2 ⟨h1,?_⟩,?_⟩
  .unfold F_;rw[N9 h2,e2,Y3 h0];rfl
  .rcases hp.ok.nd y h1 with⟨_,g,g2,_⟩|⟨g,_⟩|⟨g,_⟩|⟨g,_⟩|⟨g,_⟩
   .rw[g2,e2,e3]
   all_goals exact absurd (h2.symm.trans g) G7
theorem EvC.ruleBd{m x:Int}(hg:Gd l s c d m x):0<=(evM l k s c m x).2.1/\(evM l k s c m x).2.1<((60:Nat):Int):=by obtain⟨v,r,q,e1,q0,q1,_⟩:=h.met hg;obtain⟨_,hla⟩:=h.inps hg;have hn:=(h.hL.sc _ (bg hla).2.2.1).nr;have:=(bg q1).2.1;unfold o9 at this;rw[e1];show 0<=r/\r<_;omega
theorem EvC.usedLen(hM:c.2.2.length<=10):(ja (vO (qF l k s c 40 [] (-1) d 0))).length<=60/\(ja (yQ (qF l k s c 40 [] (-1) d 0))).length<=60:=by
 refine⟨Uk 60 (VM _) λr hr=>?_,Uk 60 (VM _) λr hr=>?_⟩
 .obtain⟨x,_,g,rfl⟩:=(h.own hM).1 ((jk _ _).1 hr);exact h.ruleBd g
 .obtain⟨m,x,_,_,g,rfl⟩:=(h.memU hM).1 ((jk _ _).1 hr);exact h.ruleBd g
theorem EvC.keepOk:KeepOk l:=a3n h.hv h.hL h.hT
theorem EvC.kl(A:List Nd):KL l (Ot l k A):=b8k k _ _ h.keepOk.mem
end
theorem b2m(hL:SmL l)(hC:SmC c)(hT:∀t∈l.2.1,qO t)(hM:c.2.2.length<=10):Au l k c d=some (b5L l k c d)/\IJ l k c d=some (b5L l k c d):=by
 unfold Au IJ b5L;rw[a7D hL hC hT hM,a6b hL hC hT hM,o8,o8];by_cases h0:(evI l k c d).2.2.1=0
 .obtain⟨s,X,b,h⟩:=a3f hL hC hT h0;rw[if_pos h0,h.exS];obtain⟨A,hA⟩:∃A,A=qF l k s c 40 [] (-1) d 0:=⟨_,rfl⟩;have hf:=h.few hM;have hu:=h.usedLen hM;rw[←hA]at hf hu ⊢;simp only;rw[show F8 (x8 0 0)=false from rfl,o6,o6,a4h l7,a1w l7,o8,o8];simp only;rw[b8l h.keepOk k l7 l7,b5P h.keepOk k l7 l7,o8,o8];have hL2:=b9D (h.kl A) hL;have hT2:∀t∈(Ot l k A).2.1,qO t:=by rw[(h.kl A).tb];exact hT
  have e1:=ZZ (k:=k) (d:=d) hL2 hC hT2;have e2:=b0x (k:=k) (d:=d) hL2 hC hT2;unfold Ot at e1 e2;rw[e1,e2];exact⟨rfl,rfl⟩
 .rw[if_neg h0,b8g h0];simp only;rw[O9 h0];exact⟨rfl,rfl⟩
end
section
theorem b4h(P:Int->Prop)(pr:Int->Int):∀(L:d1A),(∃z∈L,P z)->∃z∈L,P z/\∀w∈L,P w->pr w<=pr z
 |[],h=>by obtain⟨z,hz,_⟩:=h;cases hz
 |c::L,h=>by
  by_cases hc:∃z∈L,P z
  .obtain⟨z,hz,z1,z2⟩:=b4h P pr L hc;by_cases hcc:P c/\pr z<pr c
   .refine⟨c,x9,hcc.1,λw hw w1=>?_⟩;rcases D6.1 hw with rfl|hw
    .exact aX _
    .have:=z2 w hw w1;omega
   .refine⟨z,V4 _ hz,z1,λw hw w1=>?_⟩;rcases D6.1 hw with rfl|hw
    .have:=not_and.1 hcc w1;omega
    .exact z2 w hw w1
  .obtain⟨z,hz,hz1⟩:=h;rcases D6.1 hz with rfl|hz
   .refine⟨z,x9,hz1,λw hw w1=>?_⟩;rcases D6.1 hw with rfl|hw
    .exact aX _
    .exact absurd ⟨w,hw,w1⟩ hc
   .exact absurd ⟨z,hz,hz1⟩ hc
variable {l:d1A}
theorem b3l{oc pr:Int->Int}(hn:l.Nodup)(h:rq oc pr l=[]):∀x∈l,oc x=-1:=by intro x hx;refine bW λhne=>?_;obtain⟨z,hz,z1,z2⟩:=b4h (λz=>oc z≠-1) pr l ⟨x,hx,hne⟩;have:=((Qh (oc:=oc) (pr:=pr) hn).2 z).2 ⟨hz,z1,z2⟩;rw[h]at this;cases this
theorem a9G{oc pr:Int->Int}(hn:l.Nodup):chF oc pr l=-1↔∀x∈l,oc x=-1:=by
 have hm:=(Qh (oc:=oc) (pr:=pr) hn).2;constructor
 .intro h;unfold chF at h;cases hb:rq oc pr l with
  |nil=>exact b3l hn hb|cons b r=>
   rw[hb]at h;cases r with
   |nil=>exact absurd h ((hm b).1 (by rw[hb];simp)).2.1|cons c r=>exact absurd (show(-2:Int)=-1 from h) G7
 .intro h;unfold chF;cases hb:rq oc pr l with
  |nil=>rfl|cons b r=>have:=(hm b).1 (by rw[hb];simp);exact absurd (h b this.1) this.2.1
theorem UC{oc pr:Int->Int}(hn:l.Nodup){p:Int}(h0:0<=p):chF oc pr l=p↔∃b∈l,oc b=p/\∀y∈l,y≠b->oc y≠-1->pr y<pr b:=by
 obtain⟨hn2,hm⟩:=Qh (oc:=oc) (pr:=pr) hn;constructor
 .intro h;unfold chF at h;cases hb:rq oc pr l with
  |nil=>rw[hb]at h;exact absurd (show(-1:Int)=p from h) l7|cons b r=>
   rw[hb]at h;cases r with
   |cons c r=>exact absurd (show(-2:Int)=p from h) l7|nil=>
    have h1:=(hm b).1 (by rw[hb];simp);refine⟨b,h1.1,h,λy hy hne ho=>?_⟩;have h2:=h1.2.2 y hy ho;by_cases he:pr y=pr b
    .have:y∈rq oc pr l:=(hm y).2 ⟨hy,ho,λw hw hw2=>by rw[he];exact h1.2.2 w hw hw2⟩;rw[hb]at this;exact absurd (D9.1 this) hne
    .omega
 .rintro⟨b,hb,h1,h2⟩;have hbb:b∈rq oc pr l:=(hm b).2 ⟨hb,l7,λy hy hy2=>by
   by_cases he:y=b
   .rw[he];exact aX _
   .have:=h2 y hy he hy2;omega⟩
  have hall:∀y∈rq oc pr l,y=b:=λy hy=>bW λhne=>by have g:=(hm y).1 hy;have:=h2 y g.1 hne g.2.1;have:=g.2.2 b hb l7;omega
  unfold chF;revert hn2 hbb hall;generalize rq oc pr l=B;intro hn2 hbb hall;match B with
  |[]=>cases hbb|[x]=>rw[hall x x9];exact h1|x::y::r=>have e1:=hall x x9;have e2:=hall y x9;rw[e1,e2]at hn2;simp at hn2
structure TreeE (par prio:d1A) (ap:d1E) (par' prio' :d1A) (ap' :d1E) (R:Int->Int->Prop) (p0 q0:Int):Prop where
 v:Aa par prio=0
 v' :Aa par' prio' =0
 rng:∀x y,R x y->(0<=x/\x<(par.length:Int))/\0<=y/\y<(par'.length:Int)
 cod:∀y,0<=y->y<(par'.length:Int)->∃x,R x y
 fn:∀x y z,R x y->R x z->y=z
 inj:∀x y z,R x z->R y z->x=y
 pr:∀x y,R x y->prF prio x=prF prio' y
 ap:∀x y,R x y->apF ap' y=true->apF ap x=true
 pa:∀(x y:Nat) (p q:Int),R (x:Int) (y:Int)->par[x]? =some p->par'[y]? =some q->(p=-1/\q=-1)\/R p q
 r0:R p0 q0
 ap0:apF ap' q0=true
variable {a:Int}{b:Int}{y:Int}
section
variable {par prio par' prio' :d1A} {ap ap' :d1E} {R:Int->Int->Prop} {p0 q0:Int}
theorem TreeE.kid(T:TreeE par prio ap par' prio' ap' R p0 q0){a b x y:Int}(hab:RO R a b)(hxy:R x y):x∈castL (kids par a)↔y∈castL (kids par' b):=by
 obtain⟨⟨x0,x1⟩,y0,y1⟩:=T.rng x y hxy;obtain⟨i,rfl⟩:∃i:Nat,x=(i:Int):=⟨x.toNat,l7⟩;obtain⟨j,rfl⟩:∃j:Nat,y=(j:Int):=⟨y.toNat,l7⟩;have hi:par[i]? =some (par[i]'l7):=bn _;have hj:par'[j]? =some (par'[j]'l7):=bn _;have hp:=T.pa i j _ _ hxy hi hj;rw[KT,KT];constructor
 .rintro⟨k,hk,h⟩;have ek:k=i:=l7;subst ek;rw[hi]at h;have h:=I9 h;refine⟨j,rfl,?_⟩;rw[hj];congr 1;rw[h]at hp;rcases hp with⟨p1,p2⟩|hp<;>rcases hab with⟨q1,q2⟩|hab
  .rw[p2,q2]
  .have:=(T.rng _ _ hab).1.1;omega
  .have:=(T.rng _ _ hp).1.1;omega
  .exact T.fn _ _ _ hp hab
 .rintro⟨k,hk,h⟩;have ek:k=j:=l7;subst ek;rw[hj]at h;have h:=I9 h;refine⟨i,rfl,?_⟩;rw[hi];congr 1;rw[h]at hp;rcases hp with⟨p1,p2⟩|hp<;>rcases hab with⟨q1,q2⟩|hab
  .rw[p1,q1]
  .have:=(T.rng _ _ hab).2.1;omega
  .have:=(T.rng _ _ hp).2.1;omega
  .exact T.inj _ _ _ hp hab
theorem TreeE.cod' (T:TreeE par prio ap par' prio' ap' R p0 q0) (hy:y∈castL (kids par' b)):∃x,R x y:=by obtain⟨i,rfl,h⟩:=KT.1 hy;have:=(X6.1 h).1;exact T.cod _ l7 l7
theorem TreeE.up(T:TreeE par prio ap par' prio' ap' R p0 q0){a x y:Int}(h0:0<=a)(hx:x∈castL (kids par a))(hxy:R x y):∃b,R a b:=by
 obtain⟨⟨x0,x1⟩,y0,y1⟩:=T.rng x y hxy;obtain⟨i,rfl,hi⟩:=KT.1 hx;obtain⟨j,rfl⟩:∃j:Nat,y=(j:Int):=⟨y.toNat,l7⟩;have hj:par'[j]? =some (par'[j]'l7):=bn _;rcases T.pa i j _ _ hxy hi hj with⟨e,_⟩|h
 .omega
 .exact⟨_,h⟩
def EIn(par prio:d1A)(ap:d1E)(par' prio' :d1A)(ap' :d1E)(R:Int->Int->Prop)(p0 q0 x:Int):Prop:=
 (∀y,R x y->(OC par prio ap x=-1->OC par' prio' ap' y=-1)/\(OC par prio ap x=p0->OC par' prio' ap' y=q0))/\(OC par prio ap x=p0->∃y,R x y)
theorem TreeE.ch1(T:TreeE par prio ap par' prio' ap' R p0 q0)(hab:RO R a b)(ih:∀u∈castL (kids par a),EIn par prio ap par' prio' ap' R p0 q0 u)(h:chS par prio ap a=-1):chS par' prio' ap' b=-1:=by have h1:=(a9G (xO par a)).1 h;refine(a9G (xO par' b)).2 λw hw=>?_;obtain⟨u,hu⟩:=T.cod' hw;have hk:=(T.kid hab hu).2 hw;exact((ih u hk).1 w hu).1 (h1 u hk)
theorem TreeE.ch2(T:TreeE par prio ap par' prio' ap' R p0 q0)(hab:RO R a b)(ih:∀u∈castL (kids par a),EIn par prio ap par' prio' ap' R p0 q0 u)(h:chS par prio ap a=p0):chS par' prio' ap' b=q0:=by have h0:=(T.rng _ _ T.r0);obtain⟨u,hu,h1,h2⟩:=(UC (xO par a) h0.1.1).1 h;obtain⟨w,hw⟩:=(ih u hu).2 h1;refine(UC (xO par' b) h0.2.1).2 ⟨w,(T.kid hab hw).1 hu,((ih u hu).1 w hw).2 h1,λy hy hne ho=>?_⟩;obtain⟨x,hx⟩:=T.cod' hy;have hxk:=(T.kid hab hx).2 hy;have hxu:x≠u:=λe=>hne (by rw[e]at hx;exact T.fn _ _ _ hx hw);have hox:OC par prio ap x≠-1:=λe=>ho (((ih x hxk).1 y hx).1 e);have:=h2 x hxk hxu hox;rw[T.pr x y hx,T.pr u w hw]at this;exact this
theorem TreeE.oc(T:TreeE par prio ap par' prio' ap' R p0 q0):∀(k:Nat) (x:Int),0<=x->x<(par.length:Int)->(par.length:Int) -x<=k->EIn par prio ap par' prio' ap' R p0 q0 x:=by
 intro k;induction k with
 |zero=>intro x h0 h1 hk;omega|succ k ih=>
  intro x x0 x1 hk;have h0:=(T.rng _ _ T.r0);have ihk:∀u∈castL (kids par x),EIn par prio ap par' prio' ap' R p0 q0 u:=λu hu=>by have:=Jt par prio T.v hu;exact ih u l7 l7 l7
  have e:=Zh par prio ap T.v (i:=x) l7 x1;refine⟨λy hxy=>?_,λhp=>?_⟩
  .obtain⟨_,y0,y1⟩:=T.rng x y hxy;have e' :=Zh par' prio' ap' T.v' (i:=y) l7 y1;rw[e,e'];cases h1:x8 (chS par prio ap x) (-1)
   .rw[o6];refine⟨λh=>absurd h (yO.1 h1),λh=>?_⟩;have hq:=T.ch2 (.inr hxy) ihk h;rw[hq,O9 l7,o6]
   .rw[o7];have hq:=T.ch1 (.inr hxy) ihk (O5.1 h1);rw[N9 hq,o7];constructor
    .intro h;cases ha:apF ap' y
     .rfl
     .rw[T.ap x y hxy ha,o7]at h;omega
    .intro h;cases ha:apF ap x
     .rw[ha,o6]at h;omega
     .rw[ha,o7]at h;rw[h]at hxy;have:=T.fn _ _ _ hxy T.r0;rw[this,T.ap0];rfl
  .rw[e]at hp;cases h1:x8 (chS par prio ap x) (-1)
   .rw[h1,o6]at hp;obtain⟨u,hu,h2,_⟩:=(UC (xO par x) h0.1.1).1 hp;obtain⟨w,hw⟩:=(ihk u hu).2 h2;exact T.up x0 hu hw
   .rw[h1,o7]at hp;cases ha:apF ap x
    .rw[ha,o6]at hp;omega
    .rw[ha,o7]at hp;rw[hp];exact⟨q0,T.r0⟩
theorem TreeE.sel(T:TreeE par prio ap par' prio' ap' R p0 q0)(ha:ap.length=par.length)(ha' :ap'.length=par'.length)(h:AX par prio ap=p0):AX par' prio' ap' =q0:=by unfold AX at h ⊢;rw[N9 T.v,N9 (show o9 ap=o9 par by unfold o9;rw[ha]),o7,o7]at h;rw[N9 T.v',N9 (show o9 ap' =o9 par' by unfold o9;rw[ha']),o7,o7];refine T.ch2 (.inl ⟨rfl,rfl⟩) (λu hu=>?_) h;have:=Jt par prio T.v hu;exact T.oc ((par.length:Int) -u).toNat u l7 l7 l7
end
end
section
theorem a7B(env:aS):uB [(1,0)] env=((1,0,0),0):=rfl
theorem c3N{par prio:d1A}{ap:d1E}(hv:Aa par prio=0){p:Int}(h0:0<=p):∀(k:Nat) (x:Int),0<=x->x<(par.length:Int)->(par.length:Int) -x<=k->OC par prio ap x=p->apF ap p=true:=by
 intro k;induction k with
 |zero=>intro x x0 x1 hk;omega|succ k ih=>
  intro x x0 x1 hk h;rw[Zh par prio ap hv l7 x1]at h;cases h1:x8 (chS par prio ap x) (-1)
  .rw[h1,o6]at h;obtain⟨b,hb,h2,_⟩:=(UC (xO par x) h0).1 h;have:=Jt par prio hv hb;exact ih b l7 l7 l7 h2
  .rw[h1,o7]at h;cases ha:apF ap x
   .rw[ha,o6]at h;omega
   .rw[ha,o7]at h;rw[←h];exact ha
theorem c1A{par prio:d1A}{ap:d1E}{p:Int}(h0:0<=p)(h:AX par prio ap=p):apF ap p=true:=by
 unfold AX at h;cases h1:x8 (Aa par prio) 0<;>rw[h1]at h
 .exact absurd (show(-1:Int)=p from h) l7
 cases h2:x8 (o9 ap) (o9 par)<;>rw[h2]at h
 .exact absurd (show(-1:Int)=p from h) l7
 rw[o7,o7]at h;have hv:=O5.1 h1;obtain⟨b,hb,h3,_⟩:=(UC (xO par (-1)) h0).1 h;have:=Jt par prio hv hb;exact c3N hv h0 ((par.length:Int) -b).toNat b l7 l7 l7 h3
variable {i:Nat}{d:Int}{s:A7}{T:Int}
theorem a0b(h:i∈V5 s d T):(V5 s d T)[dE (onR s d T) i]? =some i:=by obtain⟨i1,i2⟩:=jH h;exact CE _ i1 i2
theorem c3P{x:Nat}(hx:x<(V5 s d T).length):∃i,i∈V5 s d T/\dE (onR s d T) i=x:=by have e:=bn hx;obtain⟨i1,i2⟩:=jH (G8 hx);exact⟨_,G8 hx,IZ (Qn _ _) (CE _ i1 i2) e⟩
theorem b3M{ks:d1A}(hi:i<nR s)(h:Kv ks i=true):gG s ks i=true:=by unfold Kv at h;obtain⟨r,hr,h1⟩:=Y6.1 h;have e:=O5.1 h1;subst e;unfold gG;refine Y6.2 ⟨_,hr,?_⟩;unfold inN;rw[D8,decide_eq_true (show(0:Int)<=(i:Int) by omega),decide_eq_true (show(i:Int)<(nR s:Int) by omega),GX.2 (VS s i)];rfl
def Kn(s:A7)(ks:d1A)(i j:Nat):Prop:=i<nR s/\gG s ks i=true/\j=dE (gG s ks) i
variable {j:Nat}
section
variable {s:A7} {ks:d1A}
theorem Kn.at(h:Kn s ks i j):(sK ks s).2.2.2.2[j]? =some (rK s ks i):=by obtain⟨h1,h2,rfl⟩:=h;exact a3X h1 h2
theorem Kn.rl(h:Kn s ks i j):∃r,s.2.2.2.2[i]? =some r:=⟨_,bn h.1⟩
theorem Kn.on(h:Kn s ks i j)(d T:Int):onR (sK ks s) d T j=onR s d T i:=by obtain⟨r,hr⟩:=h.rl;obtain⟨e1,e2,e3,e4,e5,e6⟩:=Vu (ks:=ks) hr;unfold onR;rw[h.at,hr];simp only;rw[e2,e5]
theorem Kn.prio(h:Kn s ks i j):Bg (sK ks s) j=Bg s i:=by obtain⟨r,hr⟩:=h.rl;obtain⟨e1,e2,e3,e4,e5,e6⟩:=Vu (ks:=ks) hr;unfold Bg;rw[h.at,hr];exact e4
theorem Kn.inj{i i' j:Nat}(h:Kn s ks i j)(h' :Kn s ks i' j):i=i' :=by have h1:=CE (gG s ks) h.1 h.2.1;have h2:=CE (gG s ks) h'.1 h'.2.1;rw[←h.2.2]at h1;rw[←h'.2.2,h1]at h2;exact I9 h2
theorem Kn.fn{i j j' :Nat}(h:Kn s ks i j)(h' :Kn s ks i j'):j=j' :=h.2.2.trans h'.2.2.symm
theorem Kn.ex(h:j<(sK ks s).2.2.2.2.length):∃i,Kn s ks i j:=by
 have hl:j<(onL (gG s ks) (nR s)).length:=by
  have:(sK ks s).2.2.2.2.length=(onL (gG s ks) (nR s)).length:=by show(Uc s ks).length=_;unfold Uc;rw[H7]
  omega
 have e:=bn hl;obtain⟨i1,i2⟩:=LV _ (G8 hl);exact⟨_,i1,i2,(IZ (Qn _ _) (CE _ i1 i2) e).symm⟩
theorem Kn.par(hs:VR s)(h:Kn s ks i j):(dA s i=-1/\dA (sK ks s) j=-1)\/∃a b,Kn s ks a b/\a<i/\b<j/\dA s i=(a:Int)/\dA (sK ks s) j=(b:Int):=by
 obtain⟨r,hr⟩:=h.rl;obtain⟨e1,e2,e3,e4,e5,e6⟩:=Vu (ks:=ks) hr;have ep:dA (sK ks s) j=rP s ks (dA s i):=by unfold dA;rw[h.at];exact e3
 rw[ep];rcases hs.par hr with g|⟨a,q,g1,g2,g3,g4⟩
 .left;rw[g];exact⟨rfl,rfl⟩
 .right;have hup:upP s i=some a:=by unfold upP;rw[if_pos l7,g1,D8]
  have hk:gG s ks a=true:=a9W h.2.1 hup;have ha:a<nR s:=by have:=h.1;omega
  refine⟨a,dE (gG s ks) a,⟨ha,hk,rfl⟩,g2,?_,g1,?_⟩
  .rw[h.2.2];exact a7m g2 hk
  .unfold rP;rw[g1,if_pos l7];unfold a3z;rw[if_pos l7,D8];unfold a3y;rw[if_pos hk]
def RPk(s:A7)(ks:d1A)(d T:Int)(x y:Int):Prop:=∃i j,Kn s ks i j/\onR s d T i=true/\x=(dE (onR s d T) i:Int)/\y=(dE (onR (sK ks s) d T) j:Int)
theorem c3u(hs:VR s)(d T:Int):∀i j,Kn s ks i j->RO (RPk s ks d T) (anc (onR s d T) (dA s) i) (anc (onR (sK ks s) d T) (dA (sK ks s)) j):=by
 intro i;induction i using Nat.strongRecOn with
 |ind i ih=>
  intro j h;unfold anc;rcases h.par hs with⟨p1,p2⟩|⟨a,b,hab,ha,hb,p1,p2⟩
  .rw[if_neg l7,if_neg l7];exact .inl ⟨rfl,rfl⟩
  .rw[if_pos l7,if_pos l7,p1,p2,D8,D8,Oc,Oc,hab.on d T];cases ho:onR s d T a
   .rw[if_neg x9,if_neg x9];exact ih a ha b hab
   .rw[if_pos rfl,if_pos rfl];exact .inr ⟨a,b,hab,ho,rfl,rfl⟩
theorem Kn.mem(h:Kn s ks i j)(ho:onR s d T i=true):i∈V5 s d T/\j∈V5 (sK ks s) d T:=by unfold V5 onL;exact⟨I7.2 ⟨P8.2 h.1,ho⟩,I7.2 ⟨P8.2 (X6.1 h.at).1,by rw[h.on];exact ho⟩⟩
theorem Kn.ap(h:Kn s ks i j)(env:aS):(Kv ks i=true->gAp (sK ks s) env j=gAp s env i)/\(gAp (sK ks s) env j=true->gAp s env i=true)/\(gOk s env i=true->gOk (sK ks s) env j=true):=by
 obtain⟨r,hr⟩:=h.rl;have e:rK s ks i=if Kv ks i=true then(r.1,r.2.1,rP s ks (dA s i),r.2.2.2)else(r.1,r.2.1,rP s ks (dA s i),r.2.2.2.1,r.2.2.2.2.1,[(1,0)],[Jw (Py s r.2.1)],r.2.2.2.2.2.2.2):=by unfold rK;rw[hr]
 unfold gAp gOk;rw[h.at,hr,e];simp only;cases hh:Kv ks i
 .rw[if_neg x9];simp only;rw[a7B];refine⟨(λg=>by cases g),(λg=>by cases g),λ_=>rfl⟩
 .rw[if_pos rfl];exact⟨λ_=>rfl,id,id⟩
theorem c3l(hs:VR s)(ht:VR (sK ks s))(d T:Int)(env:aS){i0 j0:Nat}(h0:Kn s ks i0 j0)(hh:Kv ks i0=true)(ho:onR s d T i0=true)(ha0:gAp s env i0=true):
  TreeE (aV s d T).2.1 (aV s d T).2.2 ((V5 s d T).map (gAp s env)) (aV (sK ks s) d T).2.1 (aV (sK ks s) d T).2.2 ((V5 (sK ks s) d T).map (gAp (sK ks s) env)) (RPk s ks d T) (dE (onR s d T) i0:Nat) (dE (onR (sK ks s) d T) j0:Nat):=by
 have l1:(aV s d T).2.1.length=(V5 s d T).length:=H7 ..;have l2:(aV (sK ks s) d T).2.1.length=(V5 (sK ks s) d T).length:=H7 ..;have at1:∀{s:A7} {i:Nat},i∈V5 s d T->dE (onR s d T) i<(V5 s d T).length:=λ{s i} h=>(X6.1 (a0b h)).1;have eqi:∀{s:A7} {i j:Nat},i∈V5 s d T->j∈V5 s d T->dE (onR s d T) i=dE (onR s d T) j->i=j:=λ{s i j} hi hj e=>by have h1:=a0b hi;have h2:=a0b hj;rw[e,h2]at h1;exact(I9 h1).symm
 have apAt:∀(s:A7) (i:Nat),i∈V5 s d T->apF ((V5 s d T).map (gAp s env)) (dE (onR s d T) i:Nat)=gAp s env i:=λs i hi=>by unfold apF;rw[D8,qY,I8,a0b hi];rfl
 refine⟨OQ hs d T,OQ ht d T,?_,?_,?_,?_,?_,?_,?_,⟨i0,j0,h0,ho,rfl,rfl⟩,?_⟩
 .rintro x y ⟨i,j,h,ho,rfl,rfl⟩;obtain⟨m1,m2⟩:=h.mem ho;have:=at1 m1;have:=at1 m2;omega
 .intro y g0 g1;obtain⟨a,rfl⟩:∃a:Nat,y=(a:Int):=⟨y.toNat,l7⟩;obtain⟨j,hj,rfl⟩:=c3P (s:=sK ks s) (d:=d) (T:=T) (x:=a) l7;obtain⟨j1,j2⟩:=jH hj;obtain⟨i,hi⟩:=Kn.ex j1;exact⟨_,i,j,hi,by rw[←hi.on];exact j2,rfl,rfl⟩
 .rintro x y z ⟨i,j,h,ho,rfl,rfl⟩ ⟨i',j',h',ho',e,rfl⟩;have ei:=eqi (h.mem ho).1 (h'.mem ho').1 l7;subst ei;rw[h.fn h']
 .rintro x y z ⟨i,j,h,ho,rfl,rfl⟩ ⟨i',j',h',ho',rfl,e⟩;have ej:=eqi (h.mem ho).2 (h'.mem ho').2 l7;subst ej;rw[h.inj h']
 .rintro x y ⟨i,j,h,ho,rfl,rfl⟩;obtain⟨m1,m2⟩:=h.mem ho;show((V5 s d T).map (Bg s)).getD ((dE (onR s d T) i:Nat):Int).toNat 0=((V5 (sK ks s) d T).map (Bg (sK ks s))).getD ((dE (onR (sK ks s) d T) j:Nat):Int).toNat 0;rw[D8,D8,qY,qY,I8,I8,a0b m1,a0b m2];exact h.prio.symm
 .rintro x y ⟨i,j,h,ho,rfl,rfl⟩ ha;obtain⟨m1,m2⟩:=h.mem ho;rw[apAt _ _ m2]at ha;rw[apAt _ _ m1];exact(h.ap env).2.1 ha
 .rintro x y p q ⟨i,j,h,ho,ex,ey⟩ hp hq;have ex:x=dE (onR s d T) i:=l7;have ey:y=dE (onR (sK ks s) d T) j:=l7;subst ex;subst ey;obtain⟨m1,m2⟩:=h.mem ho;have hp:((V5 s d T).map (anc (onR s d T) (dA s)))[dE (onR s d T) i]? =some p:=hp;have hq:((V5 (sK ks s) d T).map (anc (onR (sK ks s) d T) (dA (sK ks s))))[dE (onR (sK ks s) d T) j]? =some q:=hq;rw[I8,a0b m1]at hp;rw[I8,a0b m2]at hq;have hp:=I9 hp;have hq:=I9 hq;rw[←hp,←hq];exact c3u hs d T i j h
 .rw[apAt _ _ (h0.mem ho).2,(h0.ap env).1 hh];exact ha0
theorem b9B(hs:VR s)(ht:VR (sK ks s)){env:aS}{m d:Int}{v:V3}{r:Int}(hd:xI s env m d= .inl (v,r))(hh:r∈ks):∃j,xI (sK ks s) env m d= .inl (v,j):=by
 obtain⟨hc,hr,q,hq,hv⟩:=a4S hd;obtain⟨i0,hi0,rfl⟩:∃i0,i0∈V5 s d env.1/\r=(i0:Int):=by have:r∈castL (V5 s d env.1):=hr;unfold castL at this;obtain⟨i,hi,e⟩:=U0.1 this;exact⟨i,hi,e.symm⟩
 obtain⟨i1,i2⟩:=jH hi0;have hhas:Kv ks i0=true:=by unfold Kv;exact Y6.2 ⟨_,hh,UM _⟩
 have hk:=b3M (show i0<nR s from i1) hhas;have h0:Kn s ks i0 (dE (gG s ks) i0):=⟨i1,hk,rfl⟩;have e1:(aV s d env.1).1=castL (V5 s d env.1):=rfl;have hch:(∀i∈V5 s d env.1,gOk s env i=true)/\AX (aV s d env.1).2.1 (aV s d env.1).2.2 ((V5 s d env.1).map (gAp s env))=(dE (onR s d env.1) i0:Nat):=by
  unfold Z4 at hc;rw[e1]at hc;rcases MS s env m d (V5 s d env.1) [] (λi hi=>(jH hi).1)with⟨g1,g2⟩|⟨_,e,g3,g4⟩
  .refine⟨g1,?_⟩;rw[g2]at hc;simp only[G6]at hc;cases hlt:E8 (AX (aV s d env.1).2.1 (aV s d env.1).2.2 ((V5 s d env.1).map (gAp s env))) 0<;>rw[hlt]at hc
   .have g5:=iE.1 hlt;have hb:=Za (aV s d env.1).2.1 (aV s d env.1).2.2 ((V5 s d env.1).map (gAp s env));have hl:(aV s d env.1).2.1.length=(V5 s d env.1).length:=H7 ..;generalize AX (aV s d env.1).2.1 (aV s d env.1).2.2 ((V5 s d env.1).map (gAp s env))=z at*;obtain⟨a,rfl⟩:∃a:Nat,z=(a:Int):=⟨z.toNat,l7⟩;obtain⟨i,hi,hia⟩:=c3P (s:=s) (d:=d) (T:=env.1) (x:=a) l7;have hpi:=a0b hi;rw[hia]at hpi;have hc1:=congrArg (·.1) hc;have hc1:(castL (V5 s d env.1)).getD a 0=(i0:Int):=hc1;rw[qY,MH hpi]at hc1;have:i=i0:=by
     have:(i:Int)=(i0:Int):=hc1;omega
    subst this;rw[hia]
   .have hc1:AX (aV s d env.1).2.1 (aV s d env.1).2.2 ((V5 s d env.1).map (gAp s env))=(i0:Int):=congrArg (·.1) hc;have:=jF.1 hlt;omega
  .rw[g3]at hc;simp only at hc;rw[hc]at g4;exact absurd rfl g4
 obtain⟨hgok,hsel⟩:=hch;have hap:gAp s env i0=true:=by have:=c1A l7 hsel;unfold apF at this;rw[D8,qY,I8,a0b hi0]at this;exact this
 have T:=c3l hs ht d env.1 env h0 hhas i2 hap;have hsel2:=T.sel (by rw[H7];exact(H7 ..).symm) (by rw[H7];exact(H7 ..).symm) hsel;have e2:(aV (sK ks s) d env.1).1=castL (V5 (sK ks s) d env.1):=rfl;have hm0:=(h0.mem i2).2;have hch2:Z4 (sK ks s) env m d=(((dE (gG s ks) i0:Nat):Int),0,0,0,0):=by
  unfold Z4;rw[e2];rcases MS (sK ks s) env m d (V5 (sK ks s) d env.1) [] (λi hi=>(jH hi).1)with⟨g1,g2⟩|⟨⟨j,k1,k2⟩,_⟩
  .rw[g2];simp only[G6];rw[hsel2,N7 l7,o6,D8];rw[qY,MH (a0b hm0)];rfl
  .obtain⟨j1,j2⟩:=jH k1;obtain⟨i,hi⟩:=Kn.ex j1;rw[hi.on]at j2;have:=(hi.ap env).2.2 (hgok i (hi.mem j2).1);rw[k2]at this;cases this
 refine⟨(dE (gG s ks) i0:Nat),?_⟩;unfold xI;rw[hch2];simp only;rw[UM,o7,O9 (show((dE (gG s ks) i0:Nat):Int)≠-1 by omega),O9 (show((dE (gG s ks) i0:Nat):Int)≠-2 by omega),o6,o6,F7,h0.at];have hr0:s.2.2.2.2[i0]? =some q:=by rw[F7]at hq;exact hq
 have e:rK s ks i0=(q.1,q.2.1,rP s ks (dA s i0),q.2.2.2):=by unfold rK;rw[hr0];simp only;rw[if_pos hhas]
 rw[e];simp only;rw[hv];rfl
end
end
section
theorem c6k{t:A7}{a b:aS}{m:Int}{nT:d1E}{Q:Int->Prop}{D:List V3}(hD:D.length=t.2.2.2.1.length)(ot:Us t (je t).1/\∀d,0<=d->d<nD t->d∈(je t).1)
  (hat:∀d,ND nT d->(0<=d/\d<nD t)/\(∃v j,F9 D d=some v/\xI t (zh a D) m d= .inl (v,j))/\(∀x∈O6 t d,ND nT x)/\Un t (λx=>x∈O6 t d) Q d)
  (hE:SimE Q a b) (ha:EvOk a) (hb:EvOk b):∃Y,scS t b m nT= .inl Y/\∀x,ND nT x->F9 Y.1 x=F9 D x:=by
 have key:∀(suf pre:d1A) (B:DB),(je t).1=pre++suf->B.1.length=t.2.2.2.1.length/\B.2.length=t.2.2.2.1.length->(∀x∈pre,ND nT x->F9 B.1 x=F9 D x)->
   ∃Y,bD (scG t b m nT) suf B= .inl Y/\∀x∈pre++suf,ND nT x->F9 Y.1 x=F9 D x:=by
  intro suf;induction suf with
  |nil=>intro pre B he hl hi;exact⟨B,rfl,λx hx=>hi x (by simpa using hx)⟩|cons d suf ih=>
   intro pre B he hl hi;have hdr:=ot.1.2.1 d (by rw[he];simp);have step:∃B2,scG t b m nT B d= .inl B2/\(B2.1.length=t.2.2.2.1.length/\B2.2.length=t.2.2.2.1.length)/\∀x∈pre++[d],ND nT x->F9 B2.1 x=F9 D x:=by
    unfold scG;cases hn:(F9 nT d).getD false
    .refine⟨B,rfl,hl,λx hx hxn=>?_⟩;rcases C9.1 hx with hx|hx
     .exact hi x hx hxn
     .rw[D9.1 hx]at hxn;unfold ND at hxn;rw[hn]at hxn;cases hxn
    .obtain⟨_,⟨v,j,f1,hd⟩,k4,k5⟩:=hat d hn;have hsim:=PP (s:=t) (hE.at (P:=λx=>x∈O6 t d) (D:=D) (D' :=B.1) (by rw[hD,hl.1]) (λx hx=>(hi x (ot.1.2.2 pre d suf he x hx) (k4 x hx)).symm)) (Ah ha _) (Ah hb _) k5 m;rw[hd]at hsim;simp only[o7];rw[←hsim];refine⟨_,rfl,⟨by simp[hl.1],by simp[hl.2]⟩,λx hx hxn=>?_⟩;show F9 (B.1.set d.toNat v) x=_;by_cases e:x=d
     .subst e;rw[TL _ hdr.1 (by unfold o9;unfold nD o9 at hdr;omega),f1]
     .rw[Ju _ hdr.1 e];rcases C9.1 hx with hx|hx
      .exact hi x hx hxn
      .exact absurd (D9.1 hx) e
   obtain⟨B2,h1,h2,h3⟩:=step;obtain⟨Y,h4,h5⟩:=ih (pre++[d]) B2 (by rw[he];simp) h2 h3;refine⟨Y,?_,λx hx=>h5 x (by simpa using hx)⟩;unfold bD;rw[h1];exact h4
 obtain⟨Y,h1,h2⟩:=key (je t).1 [] (List.replicate t.2.2.2.1.length (0,0,0),List.replicate t.2.2.2.1.length 0) rfl ⟨x9,x9⟩ (λx hx=>by cases hx);refine⟨Y,h1,λx hx=>h2 x ?_ hx⟩;have hr:=(hat x hx).1;exact ot.2 x hr.1 hr.2
theorem c8W{l' :U6}{c:aF}{mt:A7}{nN:d1E}{P:Nat->DB->Prop}(hat:∀(j:Nat) (v:List V3),c.2.2[j]? =some v->∃Y,scS mt (DZ l' c v) (j:Int) nN= .inl Y/\P j Y):
  ∃b',mS l' c mt nN= .inl b' /\b'.length=c.2.2.length/\∀(j:Nat) (Y:DB),b'[j]? =some Y->P j Y:=by
 have key:∀(suf pre:List (List V3×Nat)) (b' :List DB),c.2.2.zipIdx=pre++suf->b'.length=pre.length->(∀(j:Nat) (Y:DB),b'[j]? =some Y->P j Y)->
   ∃Z,bD (mG l' c mt nN) suf b' = .inl Z/\Z.length=(pre++suf).length/\∀(j:Nat) (Y:DB),Z[j]? =some Y->P j Y:=by
  intro suf;induction suf with
  |nil=>intro pre b' he hl hi;exact⟨b',rfl,by simpa using hl,hi⟩|cons a suf ih=>
   intro pre b' he hl hi;have ha:c.2.2.zipIdx[pre.length]? =some a:=by rw[he];simp
   obtain⟨h1,h2⟩:=a4v ha;obtain⟨Y,y1,y2⟩:=hat pre.length a.1 h1;obtain⟨Z,z1,z2,z3⟩:=ih (pre++[a]) (b' ++[Y]) (by rw[he];simp) (by simp[hl]) (λj W hj=>by
    by_cases hlt:j<b'.length
    .rw[U5 hlt]at hj;exact hi j W hj
    .have hjl:=(X6.1 hj).1;rw[F5,au]at hjl;have ej:j=b'.length:=l7;subst ej;rw[J4 (E9 _)]at hj;simp at hj;rw[←hj,hl];exact y2)
   refine⟨Z,?_,by rw[z2];simp,z3⟩;unfold bD mG;rw[h2,y1];exact z1
 obtain⟨Z,z1,z2,z3⟩:=key c.2.2.zipIdx [] [] rfl rfl (λj Y hj=>by cases hj);exact⟨Z,z1,by rw[z2];simp,z3⟩
theorem a2F{n:Int×Int}(h:1<=n.1/\n.1<=6):(jD [n]).2.2=[]:=by
 unfold jD Nk;have e:isM n.1=false:=by unfold isM;rw[Y9 l7];rfl
 simp only[bK,e,vJ];rfl
variable {y:Int}{s:A7}{e:List (Int×Int)}
theorem b0s{ks:d1A}(hR:RedOk s){r' :Z7}(hr' :r' ∈(sK ks s).2.2.2.2)(he:e=r'.2.2.2.2.2.1\/e=r'.2.2.2.2.2.2.1)(hy:y∈(jD e).2.1\/y∈(jD e).2.2):
  ∃(i:Nat) (r:Z7),s.2.2.2.2[i]? =some r/\Kv ks i=true/\r'.2.1=r.2.1/\(e=r.2.2.2.2.2.1\/e=r.2.2.2.2.2.2.1):=by
 obtain⟨i,hi,rfl⟩:=U0.1 (show r' ∈(onL (gG s ks) (nR s)).map (rK s ks)from hr');obtain⟨i1,_⟩:=LV _ hi;have hri:s.2.2.2.2[i]? =some s.2.2.2.2[i]:=bn i1;have hrk:rK s ks i=if Kv ks i=true then(s.2.2.2.2[i].1,s.2.2.2.2[i].2.1,rP s ks (dA s i),s.2.2.2.2[i].2.2.2)else(s.2.2.2.2[i].1,s.2.2.2.2[i].2.1,rP s ks (dA s i),s.2.2.2.2[i].2.2.2.1,s.2.2.2.2[i].2.2.2.2.1,[(1,0)],[Jw (Py s s.2.2.2.2[i].2.1)],s.2.2.2.2[i].2.2.2.2.2.2.2):=by unfold rK;rw[hri]
 rw[hrk]at he ⊢;cases hh:Kv ks i
 .exfalso;rw[hh,if_neg x9]at he;obtain⟨d,d1,d2,d3⟩:=hR.df i _ hri;have ht:Py s s.2.2.2.2[i].2.1=d.2:=by unfold Py;rw[show F9 s.2.2.2.1 s.2.2.2.2[i].2.1=some d from d1]
  rcases he with rfl|rfl
  .simp only at hy;rw[VA (n:=(1,0)) ⟨G7,G7⟩,a2F (n:=(1,0)) ⟨G7,G7⟩]at hy;rcases hy with hy|hy<;>cases hy
  .simp only at hy;rw[ht,VA (Ro ⟨d2,d3⟩),a2F (Ro ⟨d2,d3⟩)]at hy;rcases hy with hy|hy<;>cases hy
 .rw[hh,if_pos rfl]at he;rw[if_pos rfl];exact⟨i,_,hri,hh,rfl,he⟩
theorem a0n(h:y∈(jD e).2.1):∃n∈e,Hl n=some (1,y):=by obtain⟨n,hn,rfl⟩:=U0.1 ((jk y _).1 (show y∈ja (Nk (λo=>x8 o 8) e)from h));obtain⟨h1,h2⟩:=I7.1 hn;refine⟨n,h1,?_⟩;have e8:n.1=8:=O5.1 h2;unfold Hl;rw[e8];rfl
theorem a8r(h:y∈(jD e).2.2):∃n∈e,Hl n=some (4,y):=by obtain⟨n,hn,rfl⟩:=U0.1 ((jk y _).1 (show y∈ja (Nk isM e)from h));obtain⟨h1,h2⟩:=I7.1 hn;refine⟨n,h1,?_⟩;unfold Hl;rcases WJ h2 with e8|e8|e8|e8<;>rw[e8]<;>rfl
theorem a5k{ks:d1A}{i:Nat} :Kv ks i=true↔(i:Int)∈ks:=by
 unfold Kv;rw[Y6];constructor
 .rintro⟨r,hr,h1⟩;rw[←O5.1 h1];exact hr
 .exact λh=>⟨_,h,UM _⟩
theorem a2p(l:U6)(s:A7):L9 l s=l9 (L8 0 (Iq s)) ((F9 l.2.2 (Iq s)).getD wR) wR:=rfl
variable {l:U6}
theorem a7T(hK:KeepOk l){k:Int}(hs:F9 l.2.2 k=some s)(own mem:d1A):F9 (KR l k own mem).2.2 k=some (sK own s)/\L9 (KR l k own mem) (sK own s)=sK mem (L9 l s):=by
 obtain⟨k0,k1,_,ks⟩:=bg hs;have hm:=hK.mem _ s ks;have klt:k.toNat<l.2.2.length:=(X6.1 ks).1;rw[a2p,a2p];have e2:Iq (sK own s)=Iq s:=rfl;rw[e2];unfold KR;rw[if_pos ⟨k0,k1⟩,ks];simp only;generalize Iq s=z at*;by_cases h0:0<=z/\z<o9 l.2.2
 .rw[if_pos h0];have hlt:z.toNat<l.2.2.length:=by have:=h0.2;unfold o9 at this;omega
  have ht:l.2.2[z.toNat]? =some l.2.2[z.toNat]:=bn hlt;rw[ht];simp only;have hne:z.toNat≠k.toNat:=l7;constructor
  .unfold F9
   rw[if_pos k0,jq hne,cZ klt]
  .rw[Y3 h0.1,o7,o7];unfold F9
   rw[if_pos h0.1,if_pos h0.1,cZ (by rw[ji];exact hlt),ht];rfl
 .rw[if_neg h0];constructor
  .unfold F9
   rw[if_pos k0,cZ klt]
  .by_cases hn:0<=z
   .have:z<o9 l.2.2:=by unfold o9;omega
    exact absurd ⟨hn,this⟩ h0
   .rw[Y9 l7];rfl
theorem b8a{l l' :U6}(h:KL l l'){k:Int}(hs:F9 l.2.2 k=some s){t:A7}(ht:F9 l'.2.2 k=some t)(hh:hdS t=hdS s)(c:aF):Ba l' k c=Ba l k c:=by
 have e1:t.2.1=s.2.1:=congrArg (λx:THd=>x.2.1) hh;have e2:t.2.2.1=s.2.2.1:=congrArg (λx:THd=>x.2.2.1) hh;have e:=b3U h s.2.1;have hmi:nV l' t=nV l s:=by
  unfold nV;rw[e1];cases h1:F9 l.2.2 s.2.1 with
  |none=>
   rw[h1]at e;cases h2:F9 l'.2.2 s.2.1 with
   |none=>rfl|some y=>rw[h2]at e;cases e
  |some x=>
   rw[h1]at e;cases h2:F9 l'.2.2 s.2.1 with
   |none=>rw[h2]at e;cases e|some y=>rw[h2]at e;have e3:y.2.2.1=x.2.2.1:=congrArg (λx:THd=>x.2.2.1) (I9 e);simp only;rw[e3]
 unfold Ba;rw[hs,ht];simp only;rw[hmi,h.en,e2]
variable {x:Int}
section
variable {l:U6} {k:Int} {s:A7} {c:aF} {d:Int} {X:DB} {b:List DB} (h:EvC l k s c d X b)
include h
theorem EvC.tgt(hM:c.2.2.length<=10){m x:Int}(hk:(m,x)∈kS (qF l k s c 40 [] (-1) d 0)):Tgt l k s c (qF l k s c 40 [] (-1) d 0) m x/\Gd l s c d m x:=by
 have hp:=h.nodes hM;obtain⟨y,h1,h2,h3⟩:=yI.1 hk;have e2:eM y=m:=congrArg (·.1) h3;have e3:eI y=x:=congrArg (·.2) h3;constructor
 .rcases hp.clo y h1 h2 with g|g
  .cases g
  .rw[e2,e3]at g;exact g
 .rcases hp.ok.nd y h1 with⟨_,g,_⟩|⟨g,_⟩|⟨g,_⟩|⟨g,_⟩|⟨g,_⟩
  .rw[e2,e3]at g;exact g
  all_goals exact absurd (h2.symm.trans g) G7
theorem EvC.ownRef(hM:c.2.2.length<=10)(hk:(-1,x)∈kS (qF l k s c 40 [] (-1) d 0)){r' :Z7} (hr' :r' ∈(sK (ja (vO (qF l k s c 40 [] (-1) d 0))) s).2.2.2.2) (hd:r'.2.1=x) {e:List (Int×Int)} (he:e=r'.2.2.2.2.2.1\/e=r'.2.2.2.2.2.2.1):
  (y∈(jD e).2.1->(1,y)∈yg l k s c (-1) x)/\(y∈(jD e).2.2->(4,y)∈yg l k s c (-1) x):=by
 have hR:RedOk s:=RJ h.hv (bg h.hs).2.2.2;have key:(y∈(jD e).2.1\/y∈(jD e).2.2)->∀n∈e,n∈uj (IP l k s c (-1) x):=λhy n hn=>by
  obtain⟨i,r,h1,h2,h3,h4⟩:=b0s hR hr' he hy;obtain⟨x',hx',g,hev⟩:=(h.own hM).1 ((jk _ _).1 (a5k.1 h2));obtain⟨v,r0,q,p1,p0,p2,p3,p4,p5⟩:=h.met g;have es:scM l s (-1)=s:=rfl;rw[es]at p2;rw[p1]at hev;have hev:(i:Int)=r0:=hev;rw[←hev,F7,h1]at p2;cases p2;have:x' =x:=by rw[←p4,←h3,hd]
  subst this;rw[p5];unfold uj;rcases h4 with rfl|rfl
  .exact I5 _ hn
  .exact aK _ hn
 have er:yg l k s c (-1) x=Pq [] (IP l k s c (-1) x):=rfl;rw[er];constructor
 .intro hy;obtain⟨n,hn,hro⟩:=a0n hy;exact Vb.2 (.inr ⟨n,key (.inl hy) n hn,hro⟩)
 .intro hy;obtain⟨n,hn,hro⟩:=a8r hy;exact Vb.2 (.inr ⟨n,key (.inr hy) n hn,hro⟩)
theorem EvC.ownIn(hM:c.2.2.length<=10) (hx:DpS (sK (ja (vO (qF l k s c 40 [] (-1) d 0))) s) d x):(-1,x)∈kS (qF l k s c 40 [] (-1) d 0):=by
 have hd:(-1,d)∈kS (qF l k s c 40 [] (-1) d 0):=(h.nodes hM).key;have step:∀z,(-1,z)∈kS (qF l k s c 40 [] (-1) d 0)->∀y∈O6 (sK (ja (vO (qF l k s c 40 [] (-1) d 0))) s) z,(-1,y)∈kS (qF l k s c 40 [] (-1) d 0):=λz hz y hy=>by
  unfold O6 at hy;cases hq:inD (nD (sK (ja (vO (qF l k s c 40 [] (-1) d 0))) s)) z<;>rw[hq]at hy
  .simp at hy
  .obtain⟨r',hr',h1,h2⟩:=WU.1 ((jk _ _).1 hy);unfold zM at h2;have hT:=(h.tgt hM hz).1;rcases C9.1 h2 with h2|h2
   .exact(hT _ ((h.ownRef hM hz hr' h1 (.inl rfl)).1 (I7.1 h2).1)).1 rfl
   .exact(hT _ ((h.ownRef hM hz hr' h1 (.inr rfl)).1 (I7.1 h2).1)).1 rfl
 rcases hx with rfl|hx
 .exact hd
 .exact(pR _ d).2.2.2 (λz=>(-1,z)∈kS (qF l k s c 40 [] (-1) d 0)) (λy hy=>step d hd y hy) step x hx
theorem EvC.memIn(hM:c.2.2.length<=10) (hx:DpM (sK (ja (vO (qF l k s c 40 [] (-1) d 0))) s) (sK (ja (yQ (qF l k s c 40 [] (-1) d 0))) (L9 l s)) d x):∀j:Nat,j<c.2.2.length->((j:Int),x)∈kS (qF l k s c 40 [] (-1) d 0):=by
 obtain⟨z,hz,hzx⟩:=hx;have h0:∀j:Nat,j<c.2.2.length->((j:Int),z)∈kS (qF l k s c 40 [] (-1) d 0):=by
  obtain⟨_,r',hr',h1,h2⟩:=TR.1 hz;have hk:=h.ownIn hM h1;have hT:=(h.tgt hM hk).1;unfold Bf at h2;rcases C9.1 h2 with h2|h2
  .exact(hT _ ((h.ownRef hM hk hr' rfl (.inl rfl)).2 h2)).2 rfl
  .exact(hT _ ((h.ownRef hM hk hr' rfl (.inr rfl)).2 h2)).2 rfl
 have step:∀w,(∀j:Nat,j<c.2.2.length->((j:Int),w)∈kS (qF l k s c 40 [] (-1) d 0))->∀y∈O6 (sK (ja (yQ (qF l k s c 40 [] (-1) d 0))) (L9 l s)) w,∀j:Nat,j<c.2.2.length->((j:Int),y)∈kS (qF l k s c 40 [] (-1) d 0):=λw hw y hy j hj=>by
  unfold O6 at hy;cases hq:inD (nD (sK (ja (yQ (qF l k s c 40 [] (-1) d 0))) (L9 l s))) w<;>rw[hq]at hy
  .simp at hy
  .obtain⟨r',hr',h1,h2⟩:=WU.1 ((jk _ _).1 hy);have hkj:=hw j hj;obtain⟨hT,hgj⟩:=h.tgt hM hkj;have hla:=(h.scm (bn hj)).1;have hR:RedOk (L9 l s):=RJ h.hv (bg hla).2.2.2;have key:∀e,(e=r'.2.2.2.2.2.1\/e=r'.2.2.2.2.2.2.1)->y∈(jD e).2.1->((1:Int),y)∈yg l k s c (j:Int) w:=λe he hye=>by
    obtain⟨i,r,g1,g2,g3,g4⟩:=b0s hR hr' he (.inl hye);obtain⟨m',x',hm0,hx',g,hev⟩:=(h.memU hM).1 ((jk _ _).1 (a5k.1 g2));obtain⟨v,r0,q,p1,p0,p2,p3,p4,p5⟩:=h.met g;have es:scM l s m' =L9 l s:=by unfold scM;rw[Y3 hm0];rfl
    rw[es]at p2;rw[p1]at hev;have hev:(i:Int)=r0:=hev;rw[←hev,F7,g1]at p2;cases p2;have:x' =w:=by rw[←p4,←g3,h1]
    subst this;obtain⟨n,hn,hro⟩:=a0n hye;have hnn:n∈uj (IP l k s c m' x'):=by
     rw[p5];unfold uj;rcases g4 with rfl|rfl
     .exact I5 _ hn
     .exact aK _ hn
    obtain⟨jm,ejm,hjm⟩:∃jm:Nat,m' =(jm:Int)/\jm<c.2.2.length:=by
     rcases g with⟨e,_⟩|⟨jm,u,e,hu,_⟩
     .exact absurd hm0 (by rw[e];decide)
     .exact⟨jm,e,(X6.1 hu).1⟩
    rw[a6h];refine(Va _ _).2 (.inr ⟨n,?_,hro⟩);unfold a6z;rw[jV,o7];exact List.mem_flatMap.2 ⟨jm,P8.2 hjm,by rw[←ejm];exact hnn⟩
   unfold zM at h2;rcases C9.1 h2 with h2|h2
   .exact(hT _ (key _ (.inl rfl) (I7.1 h2).1)).1 rfl
   .exact(hT _ (key _ (.inr rfl) (I7.1 h2).1)).1 rfl
 rcases hzx with rfl|hzx
 .exact h0
 .exact(pR _ z).2.2.2 (λw=>∀j:Nat,j<c.2.2.length->((j:Int),w)∈kS (qF l k s c 40 [] (-1) d 0)) (λy hy=>step z h0 y hy) step x hzx
theorem EvC.redV(hM:c.2.2.length<=10):∃v r r',evI l k c d=(v,r,0,0,0,0)/\evI (Ot l k (qF l k s c 40 [] (-1) d 0)) k c d=(v,r',0,0,0,0):=by
 obtain⟨v,r,f1,f2,f3,f4⟩:=h.at (x:=d) (.inl rfl);have he:evI l k c d=(v,r,0,0,0,0):=by unfold evI;rw[if_pos h.ha,h.hs];exact f3
 obtain⟨A,hA⟩:∃A,A=qF l k s c 40 [] (-1) d 0:=⟨_,rfl⟩;have hown:∀{x:Int},(-1,x)∈kS A->Gd l s c d (-1) x->(evM l k s c (-1) x).2.1∈ja (vO A):=λ{x} h1 h2=>(jk _ _).2 (by rw[hA];exact(h.own hM).2 ⟨x,by rw[←hA];exact h1,h2,rfl⟩);have hmem:∀{m x:Int},0<=m->(m,x)∈kS A->Gd l s c d m x->(evM l k s c m x).2.1∈ja (yQ A):=λ{m x} h0 h1 h2=>(jk _ _).2 (by rw[hA];exact(h.memU hM).2 ⟨m,x,h0,by rw[←hA];exact h1,h2,rfl⟩);have hoi:∀{x:Int},DpS (sK (ja (vO A)) s) d x->(-1,x)∈kS A:=λ{x} hx=>by rw[hA]at hx ⊢;exact h.ownIn hM hx
 have hmi:∀{x:Int},DpM (sK (ja (vO A)) s) (sK (ja (yQ A)) (L9 l s)) d x->∀j:Nat,j<c.2.2.length->((j:Int),x)∈kS A:=λ{x} hx=>by rw[hA]at hx ⊢;exact h.memIn hM hx
 have htg:∀{m x:Int},(m,x)∈kS A->Gd l s c d m x:=λ{m x} hx=>by rw[hA]at hx;exact(h.tgt hM hx).2
 rw[←hA];have hkl:=h.kl A;have hv2:=b7P h.hv hkl;have hL2:=b9D hkl h.hL;have hT2:∀t∈(Ot l k A).2.1,qO t:=by rw[hkl.tb];exact h.hT
 obtain⟨ls,lm⟩:=a7T h.keepOk h.hs (ja (vO A)) (ja (yQ A));have ls:F9 (Ot l k A).2.2 k=some (sK (ja (vO A)) s):=ls;have lm:L9 (Ot l k A) (sK (ja (vO A)) s)=sK (ja (yQ A)) (L9 l s):=lm;have hdd:0<=d/\d<nD (sK (ja (vO A)) s):=h.dd;have hmb:∀x∈mbS (sK (ja (vO A)) s) d,0<=x/\x<nD (sK (ja (yQ A)) (L9 l s)):=by have:=WQ hv2 (bg ls).2.2.2 d;rw[lm]at this;exact this
 have ha2:(Bi (Ot l k A) k c true d).1=0:=by unfold Bi;rw[N9 hv2,ls];simp only[o7];rw[N7 hdd.1,show L8 (o9 (sK (ja (vO A)) s).2.2.2.1) d=false from Y9 hdd.2];simp only[o6];rw[b8a hkl h.hs ls rfl c,N9 (Wl h.ha)];rfl
 have vs:=b2M h.hv (bg h.hs).2.2.1;have vs2:=b2M hv2 (bg ls).2.2.1;have vm:=Yy h.hv h.hs;have vm2:VR (sK (ja (yQ A)) (L9 l s)):=by have:=Yy hv2 ls;rw[lm]at this;exact this
 have os2:=Oh (hL2.sc _ (bg ls).2.2.1) (Kr hv2 (bg ls).2.2.2);have om2:Us (sK (ja (yQ A)) (L9 l s)) (je (sK (ja (yQ A)) (L9 l s))).1/\∀d,0<=d->d<nD (sK (ja (yQ A)) (L9 l s))->d∈(je (sK (ja (yQ A)) (L9 l s))).1:=by have h1:=Qg hL2 hv2 ls;have h2:=a5E hv2 ls;rw[lm]at h1 h2;exact Oh h1 h2
 obtain⟨b',g1,g2,g3⟩:=c8W (l' :=Ot l k A) (c:=c) (mt:=sK (ja (yQ A)) (L9 l s)) (nN:=wM (sK (ja (vO A)) s) (sK (ja (yQ A)) (L9 l s)) d)
  (P:=λj Y=>∃D,b[j]? =some D/\∀x,ND (wM (sK (ja (vO A)) s) (sK (ja (yQ A)) (L9 l s)) d) x->F9 Y.1 x=F9 D.1 x) (λj u hj=>by
   obtain⟨D,d1,d2⟩:=h.mem hj;have hjl:=(X6.1 hj).1;have henv:DZ (Ot l k A) c u=DZ l c u:=by unfold DZ;rw[hkl.tb]
   rw[henv];obtain⟨Y,y1,y2⟩:=c6k (t:=sK (ja (yQ A)) (L9 l s)) (m:=(j:Int)) (nT:=wM (sK (ja (vO A)) s) (sK (ja (yQ A)) (L9 l s)) d) (Q:=λ_=>False) (D:=D.1) (Fa d2).1 om2 (λx hx=>by
     have hx' :=(a1D hmb x).1 hx;have hk:=hmi hx' j hjl;have hg:=htg hk;refine⟨hx'.bd hmb,?_,λy hy=>(a1D hmb y).2 ?_,?_⟩
     .have hgx:DpM s (L9 l s) d x:=by
       rcases hg with⟨e,_⟩|⟨_,_,_,_,hx⟩
       .omega
       .exact hx
      obtain⟨D',e0,w,r1,e1,e2,e3,e4⟩:=h.evMm hj hgx;rw[d1]at e0;cases e0;have hr1:r1∈ja (yQ A):=by have:=hmem l7 hk hg;rw[e3]at this;exact this
      obtain⟨j',hj'⟩:=b9B vm vm2 e4 hr1;exact⟨w,j',e1,hj'⟩
     .obtain⟨z,hz,hzx⟩:=hx';exact⟨z,hz,hzx.dir hy⟩
     .have:=vk hv2 ls x;rw[lm]at this;exact this) (a:=DZ l c u) (b:=DZ l c u) ⟨rfl,rfl,rfl,rfl,λ_ _=>rfl⟩ (KX h.hT c u) (KX h.hT c u)
   exact⟨Y,y1,D,d1,y2⟩)
 have hbl:=h.bl;have hE:SimE (λx=>ND (wM (sK (ja (vO A)) s) (sK (ja (yQ A)) (L9 l s)) d) x) (uf l s c b) (uf (Ot l k A) (sK (ja (vO A)) s) c b'):=by
  refine⟨rfl,rfl,?_,by simp[uf,g2,hbl],λx hx=>?_⟩
  .show((L9 l s).2.2.2.1.map (·.2),l.2.1)=((L9 (Ot l k A) (sK (ja (vO A)) s)).2.2.2.1.map (·.2),(Ot l k A).2.1);rw[lm,hkl.tb]<;>rfl
  .simp only[uf,qL];refine bu λj=>?_;rw[I8,I8];cases hb' :b'[j]? with
   |none=>have:b[j]? =none:=pG.2 (by have:=pG.1 hb';omega);rw[this]<;>rfl|some Y=>obtain⟨D,d1,d2⟩:=g3 j Y hb';rw[d1];show some (F9 D.1 x)=some (F9 Y.1 x);rw[d2 x hx]
 have hcm:=h.hC.nm;have hbE:EvOk (uf (Ot l k A) (sK (ja (vO A)) s) c b'):=Np hT2 _ c l7;obtain⟨Y,y1,y2⟩:=c6k (t:=sK (ja (vO A)) s) (m:=-1) (nT:=wS (sK (ja (vO A)) s) d) (D:=X.1) (Fa h.mS'.2).1 os2 (λx hx=>by
   have hx' :=(XE hdd.1 hdd.2 x).1 hx;have hk:=hoi hx';have hg:=htg hk;refine⟨hx'.bd hdd.1 hdd.2,?_,λy hy=>(XE hdd.1 hdd.2 y).2 (hx'.dir hy),λr hr hd e he=>?_⟩
   .have hgx:DpS s d x:=by
     rcases hg with⟨_,hx⟩|⟨j,_,e,_⟩
     .exact hx
     .omega
    obtain⟨w,r1,e1,e2,e3,e4⟩:=h.evS hgx;have hr1:r1∈ja (vO A):=by have:=hown hk hg;rw[e3]at this;exact this
    obtain⟨j',hj'⟩:=b9B vs vs2 e4 hr1;exact⟨w,j',e1,hj'⟩
   .refine⟨(Jm hv2 (bg ls).2.2.2 x r hr hd e he).1,λy hy=>(a1D hmb y).2 ⟨y,TR.2 ⟨UQ.2 hdd,r,hr,by rw[hd];exact hx',?_⟩,.inl rfl⟩⟩;unfold Bf;rcases he with rfl|rfl
    .exact I5 _ hy
    .exact aK _ hy) hE h.eo hbE
 have hYd:=y2 d ((XE hdd.1 hdd.2 d).2 (.inl rfl));rw[f1]at hYd;refine⟨v,r,Y.2.getD d.toNat 0,he,?_⟩;unfold evI;rw[if_pos ha2,ls];show TG (Ot l k A) (sK (ja (vO A)) s) c d=_;unfold TG PR;rw[lm,show mS (Ot l k A) c (sK (ja (yQ A)) (L9 l s)) (Dk (sK (ja (yQ A)) (L9 l s)) (uC (sK (ja (yQ A)) (L9 l s)).2.2.2.1.length) (mbS (sK (ja (vO A)) s) d))= .inl b' from g1];simp only;rw[show scS (sK (ja (vO A)) s) (uf (Ot l k A) (sK (ja (vO A)) s) c b') (-1) (JS (sK (ja (vO A)) s) (uC (sK (ja (vO A)) s).2.2.2.1.length) d)= .inl Y from y1];show(Y.1.getD d.toNat (0,0,0),Y.2.getD d.toNat 0,(0:Int),(0:Int),(0:Int),(0:Int))=_;have e1:Y.1.getD d.toNat (0,0,0)=v:=by unfold F9 at hYd;rw[if_pos hdd.1]at hYd;rw[qY,hYd];rfl
 rw[e1]
end
theorem YI(hW:WfL l)(k:Int)(c:aF)(d:Int):En l k c d=some true:=by
 unfold En;rw[a6B,o8,a4k,b7Y];cases hl:smL l
 .rfl
 cases hc:smC c
 .rfl
 obtain⟨hL,hT⟩:=c1E hl hW;have hC:=c1C hc;have hM:=b9i hc;obtain⟨r1,_⟩:=b2m (k:=k) (d:=d) hL hC hT hM;rw[E5,o6,o8,E5,o6,o8,U1,ZZ hL hC hT,o8];cases hz:iV (x8 (evI l k c d).2.2.1 0) (iV (x8 (evI l k c d).2.2.2.1 0) (iV (x8 (evI l k c d).2.2.2.2.1 0) (x8 (evI l k c d).2.2.2.2.2 0)))
 .rfl
 have h0:(evI l k c d).2.2.1=0:=by unfold iV at hz;rw[A8]at hz;exact O5.1 hz.1
 obtain⟨s,X,b,h⟩:=a3f hL hC hT h0;obtain⟨v,r,r',e1,e2⟩:=h.redV hM;have hr:b5L l k c d=(v,0,0,0,0):=by unfold b5L;rw[if_pos h0,h.exS];simp only;rw[e2]
 rw[E5,o6,r1,o8,hr,e1];simp only[UM];rfl
end
end Go.GP
namespace Go.GP
open Gt
theorem Xb:∀x,a7d Gt.ps4 x->(Gt.s4.fn x:d1F)=some true:=λx h=>YI (c8P h.1) x.2.1 x.2.2.1 x.2.2.2
end Go.GP
