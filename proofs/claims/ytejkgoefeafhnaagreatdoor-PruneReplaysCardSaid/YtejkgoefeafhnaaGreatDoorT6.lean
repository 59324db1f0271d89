import Derived.Test.YtejkgoefeafhnaaGreatDoorT5
set_option linter.all false
namespace Go.GP
open Gt
set_option maxRecDepth 100000
section
def VR(s:A7):Prop:=∃sg,∀(j:Nat) (r:aj),s.2.2.2.2[j]? =some r->RuleV s sg j r
variable {i:Nat}{s:A7}{j:Nat}
theorem VR.uniq(h:VR s){r q:aj}(hr:s.2.2.2.2[i]? =some r)(hq:s.2.2.2.2[j]? =some q)(e:r.1=q.1):i=j:=by
 obtain⟨sg,h⟩:=h;have key:∀(a b:Nat) (x y:aj),s.2.2.2.2[a]? =some x->s.2.2.2.2[b]? =some y->x.1=y.1->¬a<b:=λa b x y hx hy he hlt=>by have:=jg.1 (h b y hy).nm x (FB.2 ⟨a,by have:=(X7.1 hx).1;have:=(X7.1 hy).1;omega,(X7.1 hx).2⟩);exact this (a3O.2 he)
 have h1:=key i j r q hr hq e;have h2:=key j i q r hq hr e.symm;omega
variable {r:aj}
theorem VR.par(h:VR s)(hr:s.2.2.2.2[i]? =some r):eQ s i=-1\/∃(p:Nat) (q:aj),eQ s i=(p:Int)/\p<i/\s.2.2.2.2[p]? =some q/\q.2.1=r.2.1:=by
 obtain⟨sg,h⟩:=h;have hb:=(h i r hr).pa;have e:eQ s i=r.2.2.1:=by unfold eQ;rw[hr]
 unfold SB at hb;rw[←e]at hb;generalize eQ s i=z at*;cases h1:x8 z (-1)<;>rw[h1]at hb
 .rw[o6]at hb;cases h2:D9 z 0<;>rw[h2]at hb
  case true=>cases hb
  rw[o6]at hb;cases h3:L6 (i:Int) z<;>rw[h3]at hb
  case true=>cases hb
  rw[o6]at hb;have g2:=iM.1 h2;have g3:=DX.1 h3;right;obtain⟨p,rfl⟩:∃p:Nat,z=(p:Int):=⟨z.toNat,l7⟩;rw[F8]at hb;cases hq:s.2.2.2.2[p]? with
  |none=>rw[hq]at hb;cases hb|some q=>
   rw[hq]at hb;simp only at hb;refine⟨p,q,rfl,l7,hq,?_⟩;cases g:x8 q.2.1 r.2.1<;>rw[g]at hb
   .cases hb
   .exact P7.1 g
 .exact .inl (P7.1 h1)
def PaR(s t:A7)(p p' :Int):Prop:=(p=-1/\p' =-1)\/∃(i j:Nat) (r q:aj),p=(i:Int)/\p' =(j:Int)/\s.2.2.2.2[i]? =some r/\t.2.2.2.2[j]? =some q/\r.1=q.1
structure EqR (s t:A7) (r q:aj):Prop where
 nm:r.1=q.1
 df:r.2.1=q.2.1
 rest:r.2.2.2=q.2.2.2
 pa:PaR s t r.2.2.1 q.2.2.1
structure SameR (s t:A7) (d:Int):Prop where
 fwd:∀(i:Nat) (r:aj),s.2.2.2.2[i]? =some r->r.2.1=d->∃(j:Nat) (q:aj),t.2.2.2.2[j]? =some q/\EqR s t r q
 bwd:∀(j:Nat) (q:aj),t.2.2.2.2[j]? =some q->q.2.1=d->∃(i:Nat) (r:aj),s.2.2.2.2[i]? =some r/\EqR s t r q
def Rn(s t:A7)(d:Int)(i j:Nat):Prop:=∃r q,s.2.2.2.2[i]? =some r/\t.2.2.2.2[j]? =some q/\r.1=q.1/\r.2.1=d/\q.2.1=d
section
variable {s t:A7} {d:Int} (hs:VR s) (ht:VR t) (hR:SameR s t d)
include hs ht hR
omit hs in
theorem a6a{r q:aj}(h:Rn s t d i j)(hr:s.2.2.2.2[i]? =some r)(hq:t.2.2.2.2[j]? =some q):EqR s t r q:=by obtain⟨r',q',h1,h2,h3,h4,h5⟩:=h;rw[hr]at h1;cases h1;rw[hq]at h2;cases h2;obtain⟨j',q'',g1,g2⟩:=hR.fwd i _ hr h4;have:j' =j:=ht.uniq g1 hq (g2.nm.symm.trans h3);subst this;rw[hq]at g1;cases g1;exact g2
omit hs in
theorem a6b(h:Rn s t d i j)(T:Int):onR s d T i=onR t d T j:=by obtain⟨r,q,h1,h2,h3,h4,h5⟩:=id h;have e:=a6a ht hR h h1 h2;unfold onR;rw[h1,h2];simp only;rw[O5 h4,O5 h5,e.rest]
def RP' (s t:A7) (d T:Int) (x y:Int):Prop:=∃i j,Rn s t d i j/\onR s d T i=true/\x=(lI (onR s d T) i:Int)/\y=(lI (onR t d T) j:Int)
theorem b8l(T:Int):∀i j,Rn s t d i j->RO (RP' s t d T) (anc (onR s d T) (eQ s) i) (anc (onR t d T) (eQ t) j):=by
 intro i;induction i using Nat.strongRecOn with
 |ind i ih=>
  intro j h;obtain⟨r,q,h1,h2,h3,h4,h5⟩:=id h;have e:=a6a ht hR h h1 h2;have ep:eQ s i=r.2.2.1:=by unfold eQ;rw[h1]
  have ep' :eQ t j=q.2.2.1:=by unfold eQ;rw[h2]
  have hpa:=e.pa;rw[←ep,←ep']at hpa;unfold anc;rcases hpa with⟨p1,p2⟩|⟨i',j',r',q',p1,p2,p3,p4,p5⟩
  .rw[if_neg l7,if_neg l7];exact .inl ⟨rfl,rfl⟩
  .rcases hs.par h1 with g|⟨a,ra,a1,a2,a3,a4⟩
   .omega
   rcases ht.par h2 with g|⟨b,rb,b1,b2,b3,b4⟩
   .omega
   have ea:a=i' :=l7;have eb:b=j' :=l7;subst ea;subst eb;rw[p3]at a3;cases a3;rw[p4]at b3;cases b3;have hn:Rn s t d a b:=⟨r',q',p3,p4,p5,a4.trans h4,b4.trans h5⟩;rw[if_pos l7,if_pos l7,a1,b1,E8,E8,UD,UD,←a6b ht hR hn T];cases ho:onR s d T a
   .rw[if_neg x9,if_neg x9];exact ih a a2 b hn
   .rw[if_pos rfl,if_pos rfl];exact .inr ⟨a,b,hn,ho,rfl,rfl⟩
end
theorem a9B{s:A7}(h:VR s)(d:Int):∀n,n<=s.2.2.2.2.length->LK (s.2.2.2.2.take n) d<=8
 |0,_=>by simp[LK]|n+1,hn=>by
  have ih:=a9B h d n l7;have hlt:n<s.2.2.2.2.length:=l7;have hr:s.2.2.2.2[n]? =some s.2.2.2.2[n]:=bQ hlt;obtain⟨sg,h⟩:=h;have hc:=(h n _ hr).ct;rw[U7 hlt];unfold LK at ih hc ⊢;rw[Dc];rw[DX]at hc;by_cases e:s.2.2.2.2[n].2.1=d
  .rw[e]at hc;have h1:List.countP (λ(o:aj)=>x8 o.2.1 d) [s.2.2.2.2[n]]<=1:=tq;omega
  .have h1:List.countP (λ(o:aj)=>x8 o.2.1 d) [s.2.2.2.2[n]]=0:=by
    rw[List.countP_eq_zero];intro x hx;rw[D8.1 hx,O8 e];simp
   omega
theorem b4r(s:A7)(d T:Int):∀n,n<=s.2.2.2.2.length->(onL (onR s d T) n).length<=LK (s.2.2.2.2.take n) d
 |0,_=>by simp[onL,LK]|n+1,hn=>by
  have ih:=b4r s d T n l7;have hlt:n<s.2.2.2.2.length:=l7;have hr:s.2.2.2.2[n]? =some s.2.2.2.2[n]:=bQ hlt;rw[Jo,F5,U7 hlt];unfold LK at ih ⊢;rw[Dc];cases ho:onR s d T n
  .simp only[cond_false,dB];omega
  .have hd:x8 s.2.2.2.2[n].2.1 d=true:=by
    unfold onR at ho;rw[hr]at ho;simp only at ho;cases g:x8 s.2.2.2.2[n].2.1 d
    .rw[g]at ho;cases ho
    .rfl
   have h1:List.countP (λ(o:aj)=>x8 o.2.1 d) [s.2.2.2.2[n]]=1:=by simp[hd]
   rw[h1];show _+1<=_+1;omega
theorem c0S(on:Nat->Bool)(par:Nat->Int):∀i,-1<=anc on par i/\anc on par i<(lI on i:Int)\/anc on par i=-1:=by
 intro i;induction i using Nat.strongRecOn with
 |ind i ih=>
  unfold anc;by_cases h:0<=par i/\par i<(i:Int)
  .rw[if_pos h,UD];have hlt:(par i).toNat<i:=l7;cases ho:on (par i).toNat
   .rw[if_neg x9];rcases ih _ hlt with g|g
    .have:=a4z on (Nat.le_of_lt hlt);exact .inl ⟨g.1,l7⟩
    .exact .inr g
   .rw[if_pos rfl];have:=b3l hlt ho;exact .inl ⟨l7,l7⟩
  .rw[if_neg h];exact .inr rfl
theorem a0r(h:VR s)(d T:Int):Bv (dn s d T).2.1 (dn s d T).2.2=0:=by
 have hlen:(aB s d T).length<=8:=by have h1:=b4r s d T s.2.2.2.2.length (E9 _);have h2:=a9B h d s.2.2.2.2.length (E9 _);unfold aB;omega
 show Bv ((aB s d T).map (anc (onR s d T) (eQ s))) ((aB s d T).map (Dn s))=0;unfold Bv;have l1:o9 ((aB s d T).map (anc (onR s d T) (eQ s)))=((aB s d T).length:Int):=by unfold o9;rw[L9]
 have l2:o9 ((aB s d T).map (Dn s))=((aB s d T).length:Int):=by unfold o9;rw[L9]
 rw[l1,l2,O5 rfl,E5,o6,N7 l7,o6];have:aO ((aB s d T).map (anc (onR s d T) (eQ s))).length (OI ((aB s d T).map (anc (onR s d T) (eQ s))) ((aB s d T).map (Dn s)))=none:=by
  unfold aO;rw[jL];intro k hk;have hk:k<(aB s d T).length:=by have:=U5.1 hk;rwa[L9]at this
  have e:=bQ hk;unfold OI;rw[V7,V7,e];simp only[eH];obtain⟨i1,i2⟩:=qG (I4 hk);generalize hi:(aB s d T)[k]=i at*;have hcnt:lI (onR s d T) i=k:=QN (Wy _ _) (Ih _ i1 i2) e;have hr:s.2.2.2.2[i]? =some s.2.2.2.2[i]:=bQ i1;obtain⟨sg,h⟩:=h;have hv:=h i _ hr;have hpr:Dn s i=s.2.2.2.2[i].2.2.2.1:=by unfold Dn;rw[hr]
  have p0:=hv.p0;have p9:=hv.p9;rw[←hpr]at p0 p9;have ha:=c0S (onR s d T) (eQ s) i;rw[hcnt]at ha;rw[N7 (show -1<=anc (onR s d T) (eQ s) i by omega),Y9 (show anc (onR s d T) (eQ s) i<(k:Int) by omega),p0,p9];rfl
 rw[this]
end
section
def gOk(s:A7)(env:aV)(i:Nat):Bool:=match s.2.2.2.2[i]? with|some r=>l9 (x8 (o9 r.2.2.2.2.2.1) 0) true (x8 (uw r.2.2.2.2.2.1 env).2 0)|none=>true
def gAp(s:A7)(env:aV)(i:Nat):Bool:=match s.2.2.2.2[i]? with|some r=>l9 (x8 (o9 r.2.2.2.2.2.1) 0) true (x8 (uw r.2.2.2.2.2.1 env).1.2.2 1)|none=>true
theorem Ui(s:A7)(env:aV)(m d:Int):∀(L:d5S) (ap:d5V),(∀i∈L,i<s.2.2.2.2.length)->
  ((∀i∈L,gOk s env i=true)/\bF (EU s env m d) (castL L) ap= .inl (ap++L.map (gAp s env)))\/((∃i∈L,gOk s env i=false)/\∃e:Int×E4,bF (EU s env m d) (castL L) ap= .inr e/\e.2.1≠0)
 |[],ap,_=> .inl ⟨λi hi=>by(cases hi),by simp[castL,bF]⟩|i::L,ap,h=>by
  have hr:s.2.2.2.2[i]? =some (s.2.2.2.2[i]'(h i x9)):=bQ _;have hc:castL (i::L)=(i:Int)::castL L:=rfl;rw[hc];unfold bF;have hg:EU s env m d ap (i:Int)=l9 (gOk s env i) (.inl (ap++[gAp s env i])) (.inr (0,(uw (s.2.2.2.2[i]'(h i x9)).2.2.2.2.2.1 env).2,m,d,(i:Int))):=by
   unfold EU gOk gAp;rw[F8,hr];simp only;cases x8 (o9 (s.2.2.2.2[i]'(h i x9)).2.2.2.2.2.1) 0
   .cases x8 (uw (s.2.2.2.2[i]'(h i x9)).2.2.2.2.2.1 env).2 0<;>rfl
   .rfl
  rw[hg];cases ho:gOk s env i
  .refine .inr ⟨⟨i,x9,ho⟩,_,rfl,?_⟩;unfold gOk at ho;rw[hr]at ho;simp only at ho;cases h1:x8 (o9 (s.2.2.2.2[i]'(h i x9)).2.2.2.2.2.1) 0<;>rw[h1]at ho
   .exact zh.1 ho
   .cases ho
  .simp only[o7];rcases Ui s env m d L (ap++[gAp s env i]) (λj hj=>h j (by simp[hj]))with⟨g1,g2⟩|⟨⟨j,g1,g2⟩,g3⟩
   .refine .inl ⟨λj hj=>?_,by rw[g2];simp⟩;rcases D6.1 hj with rfl|hj
    .exact ho
    .exact g1 j hj
   .exact .inr ⟨⟨j,by simp[g1],g2⟩,g3⟩
variable {i:Nat}{T:Int}
section
variable {s t:A7} {d:Int} (hs:VR s) (ht:VR t) (hR:SameR s t d)
include ht hR
theorem c1M{i j:Nat}(h:Rn s t d i j)(env:aV):gOk s env i=gOk t env j/\gAp s env i=gAp t env j:=by obtain⟨r,q,h1,h2,_⟩:=id h;have e:=a6a ht hR h h1 h2;unfold gOk gAp;rw[h1,h2];simp only;rw[e.rest];exact⟨rfl,rfl⟩
theorem b5J(hi:i∈aB s d T):∃j,Rn s t d i j/\j∈aB t d T:=by
 obtain⟨i1,i2⟩:=qG hi;have hr:s.2.2.2.2[i]? =some s.2.2.2.2[i]:=bQ i1;have hd:s.2.2.2.2[i].2.1=d:=by
  have ho:=i2;unfold onR at ho;rw[hr]at ho;simp only at ho;cases g:x8 s.2.2.2.2[i].2.1 d
  .rw[g]at ho;cases ho
  .exact P7.1 g
 obtain⟨j,q,g1,g2⟩:=hR.fwd i _ hr hd;have hn:Rn s t d i j:=⟨_,q,hr,g1,g2.nm,hd,g2.df.symm.trans hd⟩;refine⟨j,hn,?_⟩;unfold aB onL;refine O0.2 ⟨U5.2 (X7.1 g1).1,?_⟩;rw[←a6b ht hR hn T];exact i2
include hs
theorem b5I{j:Nat}(hj:j∈aB t d T):∃i,Rn s t d i j/\i∈aB s d T:=by
 obtain⟨i1,i2⟩:=qG hj;have hr:t.2.2.2.2[j]? =some t.2.2.2.2[j]:=bQ i1;have hd:t.2.2.2.2[j].2.1=d:=by
  have ho:=i2;unfold onR at ho;rw[hr]at ho;simp only at ho;cases g:x8 t.2.2.2.2[j].2.1 d
  .rw[g]at ho;cases ho
  .exact P7.1 g
 obtain⟨i,q,g1,g2⟩:=hR.bwd j _ hr hd;have hn:Rn s t d i j:=⟨q,_,g1,hr,g2.nm,g2.df.trans hd,hd⟩;refine⟨i,hn,?_⟩;unfold aB onL;refine O0.2 ⟨U5.2 (X7.1 g1).1,?_⟩;rw[a6b ht hR hn T];exact i2
theorem Jq{s:A7}{d T:Int}(h:i∈aB s d T):(aB s d T)[lI (onR s d T) i]? =some i:=by obtain⟨i1,i2⟩:=qG h;exact Ih _ i1 i2
theorem b7W(T:Int)(env:aV):TreeR (aB s d T).length (aB t d T).length (dn s d T).2.1 (dn s d T).2.2 ((aB s d T).map (gAp s env)) (dn t d T).2.1 (dn t d T).2.2 ((aB t d T).map (gAp t env)) (RP' s t d T):=by
 have mem:∀{i j:Nat},Rn s t d i j->onR s d T i=true->i∈aB s d T/\j∈aB t d T:=λ{i j} h ho=>by obtain⟨r,q,h1,h2,_⟩:=id h;unfold aB onL;exact⟨O0.2 ⟨U5.2 (X7.1 h1).1,ho⟩,O0.2 ⟨U5.2 (X7.1 h2).1,by rw[←a6b ht hR h T];exact ho⟩⟩
 have at1:∀{s:A7} {i:Nat},i∈aB s d T->lI (onR s d T) i<(aB s d T).length:=λ{s i} h=>by have:=Jq hs ht hR h;exact(X7.1 this).1
 have eqi:∀{s:A7} {i j:Nat},i∈aB s d T->j∈aB s d T->lI (onR s d T) i=lI (onR s d T) j->i=j:=λ{s i j} hi hj e=>by have h1:=Jq hs ht hR hi;have h2:=Jq hs ht hR hj;rw[e,h2]at h1;exact(P5 h1).symm
 have posn:∀{s:A7} (x:Nat),x<(aB s d T).length->∃i,i∈aB s d T/\lI (onR s d T) i=x:=λ{s} x hx=>by have e:=bQ hx;obtain⟨i1,i2⟩:=qG (I4 hx);exact⟨_,I4 hx,QN (Wy _ _) (Ih _ i1 i2) e⟩
 have uniqL:∀{i j j' :Nat},Rn s t d i j->Rn s t d i j' ->j=j' :=λ{i j j'} h h' =>by obtain⟨r,q,h1,h2,h3,_⟩:=h;obtain⟨r',q',g1,g2,g3,_⟩:=h';rw[h1]at g1;cases g1;exact ht.uniq h2 g2 (h3.symm.trans g3)
 have uniqR:∀{i i' j:Nat},Rn s t d i j->Rn s t d i' j->i=i' :=λ{i i' j} h h' =>by obtain⟨r,q,h1,h2,h3,_⟩:=h;obtain⟨r',q',g1,g2,g3,_⟩:=h';rw[h2]at g2;cases g2;exact hs.uniq h1 g1 (h3.trans g3.symm)
 refine⟨a0r hs d T,a0r ht d T,?_,?_,?_,?_,?_,?_,?_,?_,?_,?_⟩
 .show((aB s d T).map _).length=_;rw[L9]
 .show((aB t d T).map _).length=_;rw[L9]
 .rintro x y ⟨i,j,h,ho,rfl,rfl⟩;obtain⟨m1,m2⟩:=mem h ho;have:=at1 m1;have:=at1 m2;omega
 .intro x h0 h1;obtain⟨a,rfl⟩:∃a:Nat,x=(a:Int):=⟨x.toNat,l7⟩;obtain⟨i,hi,rfl⟩:=posn (s:=s) a l7;obtain⟨j,hj,_⟩:=b5J ht hR hi;exact⟨_,i,j,hj,(qG hi).2,rfl,rfl⟩
 .intro y h0 h1;obtain⟨a,rfl⟩:∃a:Nat,y=(a:Int):=⟨y.toNat,l7⟩;obtain⟨j,hj,rfl⟩:=posn (s:=t) a l7;obtain⟨i,hi,him⟩:=b5I hs ht hR hj;exact⟨_,i,j,hi,(qG him).2,rfl,rfl⟩
 .rintro x y z ⟨i,j,h,ho,rfl,rfl⟩ ⟨i',j',h',ho',e,rfl⟩;have ei:=eqi (mem h ho).1 (mem h' ho').1 l7;subst ei;rw[uniqL h h']
 .rintro x y z ⟨i,j,h,ho,rfl,rfl⟩ ⟨i',j',h',ho',rfl,e⟩;have ej:=eqi (mem h ho).2 (mem h' ho').2 l7;subst ej;rw[uniqR h h']
 .rintro x y ⟨i,j,h,ho,rfl,rfl⟩;obtain⟨m1,m2⟩:=mem h ho;have p1:=Jq hs ht hR m1;have p2:=Jq hs ht hR m2;show((aB s d T).map (Dn s)).getD ((lI (onR s d T) i:Nat):Int).toNat 0=((aB t d T).map (Dn t)).getD ((lI (onR t d T) j:Nat):Int).toNat 0;rw[E8,E8,uZ,uZ,V7,V7,p1,p2];obtain⟨r,q,h1,h2,_⟩:=id h;have e:=a6a ht hR h h1 h2;show Dn s i=Dn t j;unfold Dn;rw[h1,h2];simp only;rw[e.rest]
 .rintro x y ⟨i,j,h,ho,rfl,rfl⟩;obtain⟨m1,m2⟩:=mem h ho;have p1:=Jq hs ht hR m1;have p2:=Jq hs ht hR m2;unfold apF;rw[E8,E8,uZ,uZ,V7,V7,p1,p2];show gAp s env i=gAp t env j;exact(c1M ht hR h env).2
 .rintro x y p q ⟨i,j,h,ho,ex,ey⟩ hp hq;have ex:x=lI (onR s d T) i:=l7;have ey:y=lI (onR t d T) j:=l7;subst ex;subst ey;obtain⟨m1,m2⟩:=mem h ho;have p1:=Jq hs ht hR m1;have p2:=Jq hs ht hR m2;have hp:((aB s d T).map (anc (onR s d T) (eQ s)))[lI (onR s d T) i]? =some p:=hp;have hq:((aB t d T).map (anc (onR t d T) (eQ t)))[lI (onR t d T) j]? =some q:=hq;rw[V7,p1]at hp;rw[V7,p2]at hq;have hp:=P5 hp;have hq:=P5 hq;rw[←hp,←hq];exact b8l hs ht hR T i j h
theorem a4w(env:aV)(m:Int):((Z9 s env m d).2.1≠0/\(Z9 t env m d).2.1≠0)\/
  ((Z9 s env m d).2.1=0/\(Z9 t env m d).2.1=0/\(((Z9 s env m d).1=-1/\(Z9 t env m d).1=-1)\/((Z9 s env m d).1=-2/\(Z9 t env m d).1=-2)\/∃i j,Rn s t d i j/\(Z9 s env m d).1=(i:Int)/\(Z9 t env m d).1=(j:Int))):=by
 have T:=b7W hs ht hR env.1 env;have hsel:=T.sel (by rw[L9]) (by rw[L9]);have e1:(dn s d env.1).1=castL (aB s d env.1):=rfl;have e2:(dn t d env.1).1=castL (aB t d env.1):=rfl;unfold Z9;rw[e1,e2];rcases Ui s env m d (aB s d env.1) [] (λi hi=>(qG hi).1)with⟨g1,g2⟩|⟨⟨i,g1,g2⟩,e,g3,g4⟩
 .rcases Ui t env m d (aB t d env.1) [] (λi hi=>(qG hi).1)with⟨k1,k2⟩|⟨⟨j,k1,k2⟩,_⟩
  .rw[g2,k2];simp only[G8];right;rcases hsel with⟨q1,q2⟩|⟨q1,q2⟩|⟨i,j,q1,q2,q3,q4⟩
   .rw[q1,q2];exact⟨rfl,rfl,.inl ⟨rfl,rfl⟩⟩
   .rw[q1,q2];exact⟨rfl,rfl,.inr (.inl ⟨rfl,rfl⟩)⟩
   .obtain⟨r,q,h1,h2,_⟩:=id q1;have m1:i∈aB s d env.1:=by unfold aB onL;exact O0.2 ⟨U5.2 (X7.1 h1).1,q2⟩
    have m2:j∈aB t d env.1:=by unfold aB onL;exact O0.2 ⟨U5.2 (X7.1 h2).1,by rw[←a6b ht hR q1 env.1];exact q2⟩
    rw[q3,q4,N7 (show(0:Int)<=(lI (onR s d env.1) i:Nat) by omega),N7 (show(0:Int)<=(lI (onR t d env.1) j:Nat) by omega),o6,o6,E8,E8];refine⟨rfl,rfl,.inr (.inr ⟨i,j,q1,?_,?_⟩)⟩
    .show(castL (aB s d env.1)).getD _ 0=_;rw[uZ,VG (Jq hs ht hR m1)];rfl
    .show(castL (aB t d env.1)).getD _ 0=_;rw[uZ,VG (Jq hs ht hR m2)];rfl
  .obtain⟨i,hi,him⟩:=b5I hs ht hR k1;have:=g1 i him;rw[(c1M ht hR hi env).1,k2]at this;cases this
 .left;obtain⟨j,hj,hjm⟩:=b5J ht hR g1;rcases Ui t env m d (aB t d env.1) [] (λi hi=>(qG hi).1)with⟨k1,k2⟩|⟨_,e',k3,k4⟩
  .have:=k1 j hjm;rw[←(c1M ht hR hj env).1,g2]at this;cases this
  .rw[g3,k3];exact⟨g4,k4⟩
theorem b3q(env:aV)(m:Int):(∃v i j,yX s env m d= .inl (v,i)/\yX t env m d= .inl (v,j))\/(∃e e',yX s env m d= .inr e/\yX t env m d= .inr e'):=by
 unfold yX;rcases a4w hs ht hR env m with⟨h1,h2⟩|⟨h1,h2,h3⟩
 .rw[O8 h1,O8 h2];exact .inr ⟨_,_,rfl,rfl⟩
 .rw[O5 h1,O5 h2,o7,o7];rcases h3 with⟨k1,k2⟩|⟨k1,k2⟩|⟨i,j,q1,k1,k2⟩
  .rw[k1,k2];exact .inr ⟨_,_,rfl,rfl⟩
  .rw[k1,k2];exact .inr ⟨_,_,rfl,rfl⟩
  .rw[k1,k2,O8 (show(i:Int)≠-1 by omega),O8 (show(i:Int)≠-2 by omega),O8 (show(j:Int)≠-1 by omega),O8 (show(j:Int)≠-2 by omega),F8,F8];obtain⟨r,q,h1,h2,_⟩:=id q1;have e:=a6a ht hR q1 h1 h2;rw[h1,h2];simp only[o6];rw[e.rest];cases x8 (uw q.2.2.2.2.2.2.1 env).2 0
   .exact .inr ⟨_,_,rfl,rfl⟩
   .exact .inl ⟨_,_,_,rfl,rfl⟩
end
end
section
structure Two (s t:A7) (nS nT:d5V) (Q:Int->Prop):Prop where
 n:t.2.2.2.1.length=s.2.2.2.1.length
 vs:VR s
 vt:VR t
 os:Ya s (kN s).1/\∀d,0<=d->d<nD s->d∈(kN s).1
 ot:Ya t (kN t).1/\∀d,0<=d->d<nD t->d∈(kN t).1
 at' :∀d,ND nT d->(0<=d/\d<nD s)/\ND nS d/\SameR s t d/\(∀x∈P8 t d,ND nT x)/\VA t (λx=>x∈P8 t d) Q d/\VA s (λx=>x∈P8 s d) Q d
theorem c1O{s t:A7}{a b:aV}{m:Int}{nS nT:d5V}{Q:Int->Prop}{X:DB}(hT:Two s t nS nT Q)(hE:SimE Q a b)(ha:EvOk a)(hb:EvOk b)(hX:scS s a m nS= .inl X):
  ∃Y,scS t b m nT= .inl Y/\∀x,ND nT x->G6 Y.1 x=G6 X.1 x:=by
 have hXl:=IB hX;have key:∀(suf pre:d5R) (B:DB),(kN t).1=pre++suf->B.1.length=s.2.2.2.1.length/\B.2.length=s.2.2.2.1.length->(∀x∈pre,ND nT x->G6 B.1 x=G6 X.1 x)->
   ∃Y,bF (scG t b m nT) suf B= .inl Y/\∀x∈pre++suf,ND nT x->G6 Y.1 x=G6 X.1 x:=by
  intro suf;induction suf with
  |nil=>intro pre B he hl hi;exact⟨B,rfl,λx hx=>hi x (by simpa using hx)⟩|cons d suf ih=>
   intro pre B he hl hi;have hdr:=hT.ot.1.2.1 d (by rw[he];simp);have hnn:nD t=nD s:=by unfold nD o9;rw[hT.n]
   have step:∃B2,scG t b m nT B d= .inl B2/\(B2.1.length=s.2.2.2.1.length/\B2.2.length=s.2.2.2.1.length)/\∀x∈pre++[d],ND nT x->G6 B2.1 x=G6 X.1 x:=by
    unfold scG;cases hn:(G6 nT d).getD false
    .refine⟨B,rfl,hl,λx hx hxn=>?_⟩;rcases D5.1 hx with hx|hx
     .exact hi x hx hxn
     .rw[D8.1 hx]at hxn;unfold ND at hxn;rw[hn]at hxn;cases hxn
    .obtain⟨_,k2,k3,k4,k5,k6⟩:=hT.at' d hn;obtain⟨v,r,f1,f2,f3⟩:=ZA ha hT.os.1 hX (hT.os.2 d hdr.1 l7) k2 k6;have hd:∃j,yX t (yZ a X.1) m d= .inl (v,j):=by
      rcases b3q hT.vs hT.vt k3 (yZ a X.1) m with⟨v',i,j,g1,g2⟩|⟨e,e',g1,g2⟩
      .rw[f3]at g1;cases g1;exact⟨j,g2⟩
      .rw[f3]at g1;cases g1
     obtain⟨j,hd⟩:=hd;have hsim:=Ub (s:=t) (hE.at (P:=λx=>x∈P8 t d) (D:=X.1) (D' :=B.1) (by rw[hXl.1,hl.1]) (λx hx=>(hi x (hT.ot.1.2.2 pre d suf he x hx) (k4 x hx)).symm)) (DR ha _) (DR hb _) k5 m;rw[hd]at hsim;simp only[o7];rw[←hsim];refine⟨_,rfl,⟨by simp[hl.1],by simp[hl.2]⟩,λx hx hxn=>?_⟩;show G6 (B.1.set d.toNat v) x=_;by_cases e:x=d
     .subst e;rw[ZO _ hdr.1 (by unfold o9;unfold nD o9 at hdr hnn;omega),f1]
     .rw[NF _ hdr.1 e];rcases D5.1 hx with hx|hx
      .exact hi x hx hxn
      .exact absurd (D8.1 hx) e
   obtain⟨B2,h1,h2,h3⟩:=step;obtain⟨Y,h4,h5⟩:=ih (pre++[d]) B2 (by rw[he];simp) h2 h3;refine⟨Y,?_,λx hx=>h5 x (by simpa using hx)⟩;unfold bF;rw[h1];exact h4
 obtain⟨Y,h1,h2⟩:=key (kN t).1 [] (List.replicate t.2.2.2.1.length (0,0,0),List.replicate t.2.2.2.1.length 0) rfl ⟨by simp[hT.n],by simp[hT.n]⟩ (λx hx=>by cases hx);refine⟨Y,h1,λx hx=>h2 x ?_ hx⟩;have hr:=(hT.at' x hx).1;have hnn:nD t=nD s:=by unfold nD o9;rw[hT.n]
 exact hT.ot.2 x hr.1 l7
theorem c6t{l l' :U9}{c:aF}{ms mt:A7}{nM nN:d5V}(htb:l'.2.1=l.2.1)(hTb:∀t∈l.2.1,ru t)(hT:Two ms mt nM nN (λ_=>False)):
  ∀(L:List (List V3×Nat)) (b b' X:List DB),(b.length=b'.length/\∀x,ND nN x->b.map (λv=>G6 v.1 x)=b'.map (λv=>G6 v.1 x))->bF (mG l c ms nM) L b= .inl X->
   ∃Y,bF (mG l' c mt nN) L b' = .inl Y/\X.length=Y.length/\∀x,ND nN x->X.map (λv=>G6 v.1 x)=Y.map (λv=>G6 v.1 x)
 |[],b,b',X,hb,h=>by cases h;exact⟨b',rfl,hb.1,hb.2⟩|a::L,b,b',X,hb,h=>by
  unfold bF at h;cases hg:mG l c ms nM b a with
  |inr e=>rw[hg]at h;cases h|inl b1=>
   rw[hg]at h;simp only at h;unfold mG at hg;cases hs:scS ms (Ib l c a.1) (a.2:Int) nM with
   |inr e=>rw[hs]at hg;cases hg|inl x=>
    rw[hs]at hg;cases hg;have he:Ib l' c a.1=Ib l c a.1:=by unfold Ib;rw[htb]
    obtain⟨y,y1,y2⟩:=c1O hT (b:=Ib l c a.1) ⟨rfl,rfl,rfl,rfl,λ_ _=>rfl⟩ (QJ hTb c a.1) (QJ hTb c a.1) hs;obtain⟨Y,h3,h4,h5⟩:=c6t htb hTb hT L (b++[x]) (b' ++[y]) X ⟨by simp[hb.1],λz hz=>by rw[dC,dC,hb.2 z hz];exact congrArg (λq=>_++[q]) (y2 z hz).symm⟩ h;refine⟨Y,?_,h4,h5⟩;unfold bF mG;rw[he,y1];exact h3
end
section
variable {s:A7}
theorem b9T{l:U9}(h:(iE l).1=0)(hs:s∈l.2.2):VR s:=by obtain⟨i,hi,rfl⟩:=Y7 hs;exact⟨_,λj r hr=>a8d (Oq h (bQ hi) hr)⟩
theorem a2v{l:U9}(h:(iE l).1=0){k:Int}(hs:G6 l.2.2 k=some s):VR (P9 l s):=by
 rcases zM h hs with⟨_,_,g⟩|⟨_,_,_,_,g⟩
 .rw[g];exact⟨FX l s,λj r hr=>by cases hr⟩
 .exact b9T h g
def DpS(s:A7)(d x:Int):Prop:=x=d\/x∈bI s d
def DpM(s m:A7)(d x:Int):Prop:=∃z∈mbS s d,DpS m z x
abbrev wS(s:A7)(d:Int):d5V:=JR s (wP s.2.2.2.1.length) d
abbrev wM(s m:A7)(d:Int):d5V:=Eh m (wP m.2.2.2.1.length) (mbS s d)
variable {d:Int}
theorem a1j(h0:0<=d)(h1:d<nD s)(x:Int):ND (wS s d) x↔DpS s d x:=by
 rw[c0l,b4d (Fp _) h0 h1];unfold DpS;constructor
 .rintro(h|h|h)
  .unfold wP at h;rw[Ws]at h;cases h
  .exact .inl h
  .exact .inr h
 .rintro(h|h)
  .exact .inr (.inl h)
  .exact .inr (.inr h)
variable {m:A7}
theorem a9d(hr:∀x∈mbS s d,0<=x/\x<nD m)(x:Int):ND (wM s m d) x↔DpM s m d x:=by
 rw[c0l,b4c _ (Fp _) hr];unfold DpM DpS;constructor
 .rintro(h|h)
  .unfold wP at h;rw[Ws]at h;cases h
  .exact h
 .exact λh=> .inr h
variable {x:Int}
theorem d_ :x∈mbS s d↔inD (nD s) d=true/\∃r∈s.2.2.2.2,DpS s d r.2.1/\x∈Dk r:=by
 unfold mbS;cases hq:inD (nD s) d
 .simp
 .rw[o7,rf,a9V];constructor
  .rintro⟨r,hr,h1,h2⟩;exact⟨rfl,r,hr,(NK _ _ _).1 (xW.1 h1),h2⟩
  .rintro⟨_,r,hr,h1,h2⟩;exact⟨r,hr,xW.2 ((NK _ _ _).2 h1),h2⟩
variable {y:Int}
theorem DpS.trans(h:DpS s d x)(k:DpS s x y):DpS s d y:=by
 rcases k with rfl|k
 .exact h
 .obtain⟨_,t1,t2,_⟩:=xm s d;obtain⟨_,_,_,u⟩:=xm s x;refine .inr (u (λz=>z∈bI s d) (λz hz=>?_) (λz hz w hw=>t2 z hz w hw) y k);rcases h with rfl|h
  .exact t1 z hz
  .exact t2 x h z hz
theorem DpS.dir(h:DpS s d x)(k:y∈P8 s x):DpS s d y:=h.trans (.inr ((xm s x).2.1 y k))
theorem DpS.bd(h:DpS s d x)(h0:0<=d)(h1:d<nD s):0<=x/\x<nD s:=by
 rcases h with rfl|h
 .exact⟨h0,h1⟩
 .exact zK h
theorem Yq{n d:Int} :inD n d=true↔0<=d/\d<n:=by
 unfold inD;cases h:L6 0 d
 .rw[DX]at h;simp only[o6];constructor
  .intro x;cases x
  .intro x;omega
 .rw[jr]at h;simp only[o7];rw[jK];omega
theorem DpM.up(h0:0<=d)(h1:d<nD s)(h:DpS s d x)(k:DpM s m x y):DpM s m d y:=by obtain⟨z,hz,hy⟩:=k;obtain⟨_,r,hr,h2,h3⟩:=d_.1 hz;exact⟨z,d_.2 ⟨Yq.2 ⟨h0,h1⟩,r,hr,h.trans h2,h3⟩,hy⟩
theorem DpM.bd(hr:∀x∈mbS s d,0<=x/\x<nD m)(h:DpM s m d x):0<=x/\x<nD m:=by obtain⟨z,hz,hx⟩:=h;exact hx.bd (hr z hz).1 (hr z hz).2
theorem TG(h:VR s)(d:Int):SameR s s d:=by
 have key:∀(i:Nat) (r:aj),s.2.2.2.2[i]? =some r->EqR s s r r:=λi r hr=>by
  refine⟨rfl,rfl,rfl,?_⟩;rcases h.par hr with e|⟨p,q,e,_,hq,_⟩
  .have:r.2.2.1=-1:=by rw[←e];unfold eQ;rw[hr]
   exact .inl ⟨this,this⟩
  .have:r.2.2.1=(p:Int):=by rw[←e];unfold eQ;rw[hr]
   exact .inr ⟨p,p,q,q,this,this,hq,hq,rfl⟩
 exact⟨λi r hr _=>⟨i,r,hr,key i r hr⟩,λj q hq _=>⟨j,q,hq,key j q hq⟩⟩
structure EvC (l:U9) (k:Int) (s:A7) (c:aF) (d:Int) (X:DB) (b:List DB):Prop where
 hL:SmL l
 hC:SmC c
 hT:∀t∈l.2.1,ru t
 hs:G6 l.2.2 k=some s
 ha:(Cj l k c true d).1=0
 ev:Ru l s c (wS s d) (wM s (P9 l s) d)= .inl (X,b)
section
variable {l:U9} {k:Int} {s:A7} {c:aF} {d:Int} {X:DB} {b:List DB} (h:EvC l k s c d X b)
include h
theorem EvC.hv:(iE l).1=0:=(QA h.ha).1
theorem EvC.dd:0<=d/\d<nD s:=YU h.ha h.hs
theorem EvC.sm:SmS s:=h.hL.sc s (dU h.hs).2.2.1
theorem EvC.smm:SmS (P9 l s):=Uz h.hL h.hv h.hs
theorem EvC.mb:∀x∈mbS s d,0<=x/\x<nD (P9 l s):=ZY h.hv (dU h.hs).2.2.2 d
theorem EvC.mb2(x:Int):∀y∈mbS s x,0<=y/\y<nD (P9 l s):=ZY h.hv (dU h.hs).2.2.2 x
theorem EvC.os:Ya s (kN s).1/\∀d,0<=d->d<nD s->d∈(kN s).1:=x_ h.sm (TL h.hv (dU h.hs).2.2.2)
theorem EvC.om:Ya (P9 l s) (kN (P9 l s)).1/\∀d,0<=d->d<nD (P9 l s)->d∈(kN (P9 l s)).1:=x_ h.smm (b4a h.hv h.hs)
theorem EvC.refp(hx:DpS s d x):VA s (λy=>y∈P8 s x) (λy=>ND (wM s (P9 l s) d) y) x:=λr hr hd e he=>
 ⟨(Nh h.hv (dU h.hs).2.2.2 x r hr hd e he).1,λy hy=>(a9d h.mb y).2 ⟨y,d_.2 ⟨Yq.2 h.dd,r,hr,by rw[hd];exact hx,by
  unfold Dk;rcases he with rfl|rfl
  .exact J8 _ hy
  .exact di _ hy⟩,.inl rfl⟩⟩
theorem EvC.mS' :mS l c (P9 l s) (wM s (P9 l s) d)= .inl b/\scS s (xY l s c b) (-1) (wS s d)= .inl X:=by
 have he:=h.ev;unfold Ru at he;cases hb:mS l c (P9 l s) (wM s (P9 l s) d)with
 |inr e=>rw[hb]at he;cases he|inl b0=>
  rw[hb]at he;simp only at he;cases hx:scS s (xY l s c b0) (-1) (wS s d)with
  |inr e=>rw[hx]at he;cases he|inl X0=>rw[hx]at he;cases he;exact⟨rfl,hx⟩
theorem EvC.bl:b.length=c.2.2.length:=a3c h.mS'.1
theorem EvC.eo:EvOk (xY l s c b):=PR h.hT s c (by have:=h.bl;have:=h.hC.nm;omega)
theorem EvC.fix(hx:DpS s d x):∃v r,G6 X.1 x=some v/\G6 X.2 x=some r/\yX s (yZ (xY l s c b) X.1) (-1) x= .inl (v,r):=by have hb:=hx.bd h.dd.1 h.dd.2;exact ZA h.eo h.os.1 h.mS'.2 (h.os.2 x hb.1 hb.2) ((a1j h.dd.1 h.dd.2 x).2 hx) (h.refp hx)
theorem EvC.mem{j:Nat}{v:List V3}(hj:c.2.2[j]? =some v):∃x,b[j]? =some x/\scS (P9 l s) (Ib l c v) (j:Int) (wM s (P9 l s) d)= .inl x:=by obtain⟨Y,e1,e2,e3⟩:=c6s c.2.2.zipIdx [] b h.mS'.1;rw[G8]at e1;subst e1;exact e3 j (v,j) (by rw[AO,hj];simp)
theorem EvC.mfix{j:Nat}{v:List V3}(hj:c.2.2[j]? =some v)(hx:DpM s (P9 l s) d x):∃D,b[j]? =some D/\scS (P9 l s) (Ib l c v) (j:Int) (wM s (P9 l s) d)= .inl D/\∃w r,G6 D.1 x=some w/\G6 D.2 x=some r/\yX (P9 l s) (yZ (Ib l c v) D.1) (j:Int) x= .inl (w,r):=by obtain⟨D,h1,h2⟩:=h.mem hj;have hb:=hx.bd h.mb;exact⟨D,h1,h2,ZA (QJ h.hT c v) h.om.1 h2 (h.om.2 x hb.1 hb.2) ((a9d h.mb x).2 hx) (xn h.hv h.hs x)⟩
theorem EvC.two(hx:DpS s d x):Two s s (wS s d) (wS s x) (λy=>ND (wM s (P9 l s) x) y):=by
 have hb:=hx.bd h.dd.1 h.dd.2;have hk:=dU h.hs;refine⟨rfl,b9T h.hv hk.2.2.1,b9T h.hv hk.2.2.1,h.os,h.os,λy hy=>?_⟩;have hy' :=(a1j hb.1 hb.2 y).1 hy;have hr:VA s (λz=>z∈P8 s y) (λz=>ND (wM s (P9 l s) x) z) y:=λr hr hd e he=>
  ⟨(Nh h.hv hk.2.2.2 y r hr hd e he).1,λz hz=>(a9d (h.mb2 x) z).2 ⟨z,d_.2 ⟨Yq.2 hb,r,hr,by rw[hd];exact hy',by
   unfold Dk;rcases he with rfl|rfl
   .exact J8 _ hz
   .exact di _ hz⟩,.inl rfl⟩⟩
 exact⟨hy'.bd hb.1 hb.2,(a1j h.dd.1 h.dd.2 y).2 (hx.trans hy'),TG (b9T h.hv hk.2.2.1) y,λz hz=>(a1j hb.1 hb.2 z).2 (hy'.dir hz),hr,hr⟩
theorem EvC.twoM(hx:DpS s d x):Two (P9 l s) (P9 l s) (wM s (P9 l s) d) (wM s (P9 l s) x) (λ_=>False):=by refine⟨rfl,a2v h.hv h.hs,a2v h.hv h.hs,h.om,h.om,λy hy=>?_⟩;have hy' :=(a9d (h.mb2 x) y).1 hy;refine⟨hy'.bd (h.mb2 x),(a9d h.mb y).2 (hy'.up h.dd.1 h.dd.2 hx),TG (a2v h.hv h.hs) y,λz hz=>(a9d (h.mb2 x) z).2 ?_,xn h.hv h.hs y,xn h.hv h.hs y⟩;obtain⟨w,hw,hyw⟩:=hy';exact⟨w,hw,hyw.dir hz⟩
theorem EvC.at(hx:DpS s d x):∃v r,G6 X.1 x=some v/\G6 X.2 x=some r/\VQ l s c x=(v,r,0,0,0,0)/\yX s (yZ (xY l s c b) X.1) (-1) x= .inl (v,r):=by
 have hb:=hx.bd h.dd.1 h.dd.2;obtain⟨v,r,f1,f2,f3⟩:=h.fix hx;obtain⟨m1,m2⟩:=h.mS';obtain⟨b',g1,g2,g3⟩:=c6t rfl h.hT (h.twoM hx) c.2.2.zipIdx [] [] b ⟨rfl,λ_ _=>rfl⟩ m1;have hE:SimE (λz=>ND (wM s (P9 l s) x) z) (xY l s c b) (xY l s c b'):=by refine⟨rfl,rfl,rfl,by simp[xY,g2],λz hz=>?_⟩;have:=g3 z hz;simp only[xY,vF];exact this
 have hbl:=h.bl;have hcm:=h.hC.nm;have hb' :EvOk (xY l s c b'):=PR h.hT s c l7;obtain⟨Y,y1,y2⟩:=c1O (h.two hx) hE h.eo hb' m2;have hself:DpS s x x:=.inl rfl;have hnx:=(a1j hb.1 hb.2 x).2 hself;have hrx:VA s (λz=>z∈P8 s x) (λz=>ND (wM s (P9 l s) x) z) x:=(h.two hx).at' x hnx |>.2.2.2.2.1;obtain⟨v',r',f1',f2',f3'⟩:=ZA hb' h.os.1 y1 (h.os.2 x hb.1 hb.2) hnx hrx;have hsim:=Ub (s:=s) (hE.at (P:=λz=>z∈P8 s x) (D:=X.1) (D' :=Y.1) (by rw[(IB m2).1,(IB y1).1]) (λz hz=>(y2 z ((a1j hb.1 hb.2 z).2 (hself.dir hz))).symm)) (DR h.eo _) (DR hb' _) hrx (-1);rw[f3,f3']at hsim;cases hsim;refine⟨v,r,f1,f2,?_,f3⟩;unfold VQ Ru;rw[show mS l c (P9 l s) (Eh (P9 l s) (wP (P9 l s).2.2.2.1.length) (mbS s x))= .inl b' from g1];simp only;rw[show scS s (xY l s c b') (-1) (JR s (wP s.2.2.2.1.length) x)= .inl Y from y1];have e1:Y.1.getD x.toNat (0,0,0)=v:=by unfold G6 at f1';rw[if_pos hb.1]at f1';rw[uZ,f1'];rfl
 have e2:Y.2.getD x.toNat 0=r:=by unfold G6 at f2';rw[if_pos hb.1]at f2';rw[uZ,f2'];rfl
 show(Y.1.getD x.toNat (0,0,0),Y.2.getD x.toNat 0,(0:Int),(0:Int),(0:Int),(0:Int))=_;rw[e1,e2]
end
end
section
theorem VV{α β ρ ρ' :Type}{G:β->α->β⊕ρ}{H:β->α->β⊕ρ'}(hG:∀b a b',G b a= .inl b' ->H b a= .inl b'):∀(l:List α) (b r:β),bF G l b= .inl r->bF H l b= .inl r
 |[],b,r,h=>by cases h;rfl|a::l,b,r,h=>by
  unfold bF at h ⊢;cases hg:G b a with
  |inr e=>rw[hg]at h;cases h|inl b' =>rw[hg]at h;rw[hG b a b' hg];exact VV hG l b' r h
variable {s:A7}{d:Int}{env:aV}{m:Int}
theorem c1q(m' :Int)(b:d5V)(i:Int)(b' :d5V)(h:EU s env m d b i= .inl b'):EU s env m' d b i= .inl b' :=by
 unfold EU at h ⊢;cases hr:G6 s.2.2.2.2 i with
 |none=>rw[hr]at h;cases h;rfl|some r=>
  rw[hr]at h;simp only at h ⊢;cases h1:x8 (o9 r.2.2.2.2.2.1) 0<;>rw[h1]at h
  .cases h2:x8 (uw r.2.2.2.2.2.1 env).2 0<;>rw[h2]at h
   .cases h
   .exact h
  .exact h
theorem b3k(m' :Int)(h:(Z9 s env m d).2.1=0):Z9 s env m' d=Z9 s env m d:=by
 unfold Z9 at h ⊢;cases hf:bF (EU s env m d) (dn s d env.1).1 []with
 |inr e=>rw[hf]at h;exact absurd h (uJ (EU s env m d) (λr=>r.2.1≠0) Uh _ _ _ hf)|inl ap=>rw[VV (c1q m') _ _ _ hf]
theorem c1n(m' :Int){v:V3×Int}(h:yX s env m d= .inl v):yX s env m' d= .inl v:=by
 unfold yX at h ⊢;cases h0:x8 (Z9 s env m d).2.1 0<;>rw[h0]at h
 .cases h
 rw[b3k m' (P7.1 h0),h0];cases h1:x8 (Z9 s env m d).1 (-1)<;>rw[h1]at h
 case true=>cases h
 cases h2:x8 (Z9 s env m d).1 (-2)<;>rw[h2]at h
 case true=>cases h
 simp only[o7,o6]at h ⊢;cases hl:G6 s.2.2.2.2 (Z9 s env m d).1 with
 |none=>rw[hl]at h;cases h|some q=>
  rw[hl]at h;simp only at h ⊢;cases h4:x8 (uw q.2.2.2.2.2.2.1 env).2 0<;>rw[h4]at h
  .cases h
  .exact h
theorem d3Y{need:d5V}(m' :Int){X:DB}(h:scS s env m need= .inl X):scS s env m' need= .inl X:=by
 unfold scS at h ⊢;refine VV (λb a b' hg=>?_) _ _ _ h;unfold scG at hg ⊢;cases hn:(G6 need a).getD false<;>rw[hn]at hg
 .exact hg
 simp only[o7]at hg ⊢;cases hd:yX s (yZ env b.1) m a with
 |inr e=>rw[hd]at hg;cases hg|inl v=>rw[hd]at hg;rw[c1n m' hd];exact hg
variable {l:U9}{c:aF}{k:Int}
theorem SA(h:(Cj l k c true d).1=0):(Cj l k c false 0).1=0:=by
 unfold Cj at h ⊢;cases h0:x8 (iE l).1 0<;>rw[h0]at h
 .exact h
 cases hs:G6 l.2.2 k with
 |none=>rw[hs]at h;exact h|some s=>
  rw[hs]at h;simp only[o7,o6]at h ⊢;cases h1:(l9 (D9 d 0) true (L6 (o9 s.2.2.2.1) d))<;>rw[h1]at h
  .exact h
  .exact absurd (show(6:Int)=0 from h) H9
theorem a1r(h:(Cj l k c true d).1=0):(DI l k c).2.2=0:=by
 have h:=SA h;unfold Cj at h;cases h0:x8 (iE l).1 0<;>rw[h0]at h
 .exact absurd (show(1:Int)=0 from h) H9
 cases hs:G6 l.2.2 k with
 |none=>rw[hs]at h;exact absurd (show(6:Int)=0 from h) H9|some s=>
  rw[hs]at h;simp only[o7,o6]at h;cases h1:x8 (DI l k c).2.2 0<;>rw[h1]at h
  .simp only[o6]at h;exact h
  .exact P7.1 h1
theorem Za(h1:(DI l k c).2.2=0)(hs:G6 l.2.2 k=some s):D9 c.1 0=false/\D9 109572 c.1=false/\(Bz l.1 s.2.2.1 c.2.1).2=0/\D9 (pF l s).2 (o9 c.2.2)=false/\∀i,i<c.2.2.length->Wn l.1 (pF l s).1 c.2.2 i=none:=by
 unfold DI at h1;rw[hs]at h1;simp only at h1;cases g1:D9 c.1 0<;>rw[g1]at h1
 case true=>exact absurd (show(3:Int)=0 from h1) H9
 cases g2:D9 109572 c.1<;>rw[g2]at h1
 case true=>exact absurd (show(3:Int)=0 from h1) H9
 cases g3:x8 (Bz l.1 s.2.2.1 c.2.1).2 0<;>rw[g3]at h1
 .simp only[o6]at h1;rw[O5 h1]at g3;cases g3
 have g3:=P7.1 g3;cases g4:D9 (pF l s).2 (o9 c.2.2)<;>rw[g4]at h1
 case true=>exact absurd (show(4:Int)=0 from h1) H9
 simp only[o6,o7]at h1;refine⟨rfl,rfl,g3,rfl,uY ?_⟩;cases hf:aO c.2.2.length (Wn l.1 (pF l s).1 c.2.2)with
 |none=>rfl|some r=>
  exfalso;rw[hf]at h1;simp only at h1;unfold aO at hf;obtain⟨i,hi,hp⟩:=List.exists_of_findSome?_eq_some hf;unfold Wn at hp;cases hv:c.2.2[i]? with
  |none=>rw[hv]at hp;cases hp|some vs=>
   rw[hv]at hp;simp only at hp;cases hq:x8 (Bz l.1 (pF l s).1 vs).2 0<;>rw[hq]at hp
   .cases hp;rw[O5 h1]at hq;cases hq
   .cases hp
variable {j:Nat}{v:List V3}
theorem b3Y(h:∀i,i<c.2.2.length->Wn l.1 (pF l s).1 c.2.2 i=none)(hj:c.2.2[j]? =some v):(Bz l.1 (pF l s).1 v).2=0:=by
 have:=h j (X7.1 hj).1;unfold Wn at this;rw[hj]at this;simp only at this;cases hq:x8 (Bz l.1 (pF l s).1 v).2 0<;>rw[hq]at this
 .cases this
 .exact P7.1 hq
theorem a6I{en:List jw}{fs:List jm}{vs:List V6}(h:(Bz en fs vs).2=0):vs.length=fs.length:=by
 unfold Bz at h;cases h1:D9 (o9 vs) (o9 fs)<;>rw[h1]at h
 case true=>exact absurd (show(5:Int)=0 from h) H9
 cases h2:D9 (o9 fs) (o9 vs)<;>rw[h2]at h
 case true=>exact absurd (show(4:Int)=0 from h) H9
 rw[iM]at h1 h2;simp only[o9]at h1 h2;omega
variable {x:Int}
section
variable {l:U9} {k:Int} {s:A7} {c:aF} {d:Int} {X:DB} {b:List DB} (h:EvC l k s c d X b)
include h
theorem EvC.scm(hj:c.2.2[j]? =some v):G6 l.2.2 s.2.1=some (P9 l s)/\0<=s.2.1/\(P9 l s).2.1=-1/\P9 l (P9 l s)=yJ:=by
 rcases zM h.hv h.hs with⟨_,g,_⟩|⟨g1,g2,g3,g,_⟩
 .have:=b0Q (SA h.ha) h.hs (jK.1 g);rw[this]at hj;cases hj
 .have hm:=Xe h.hv (dU h.hs).2.2.2;unfold CP at hm;have hne:x8 s.2.1 (-1)=false:=O8 (by rw[jr]at g1;omega);rw[hne,g2,g]at hm;simp only[o6]at hm;have hm1:(P9 l s).2.1=-1:=by
   cases hq:L6 (((k.toNat:Nat)):Int) s.2.1<;>rw[hq]at hm
   case true=>cases hm
   cases hq2:x8 (P9 l s).2.1 (-1)<;>rw[hq2]at hm
   .cases hm
   .exact P7.1 hq2
  exact⟨g,jr.1 g1,hm1,a1X l s hm1⟩
theorem EvC.argm(hj:c.2.2[j]? =some v)(h0:0<=x)(h1:x<nD (P9 l s)):(Cj l s.2.1 (c.1,v,[]) true x).1=0:=by
 obtain⟨e1,e2,e3,e4⟩:=h.scm hj;obtain⟨p1,p2,p3,p4,p5⟩:=Za (a1r h.ha) h.hs;have hmi:pF l s=((P9 l s).2.2.1,8):=by unfold pF;rw[e1]
 have pv:=b3Y p5 hj;rw[hmi]at pv;have hc:(DI l s.2.1 (c.1,v,[])).2.2=0:=by
  unfold DI;rw[e1];simp only;rw[p1,p2,show x8 (Bz l.1 (P9 l s).2.2.1 v).2 0=true from O5 pv];simp only[o6,o7];have hz:D9 (pF l (P9 l s)).2 (o9 ([]:List (List V3)))=false:=by
   unfold pF;rw[e3];have hn:G6 l.2.2 (-1)=none:=by unfold G6;rw[if_neg l7]
   rw[hn];rfl
  rw[hz];rfl
 unfold Cj;rw[O5 h.hv,e1];simp only[o7];rw[N7 h0,show L6 (o9 (P9 l s).2.2.2.1) x=false from Y9 h1];simp only[o6];rw[O5 hc];rfl
theorem EvC.two2(hx:DpM s (P9 l s) d x):Two (P9 l s) (P9 l s) (wM s (P9 l s) d) (wS (P9 l s) x) (λ_=>False):=by have hb:=hx.bd h.mb;refine⟨rfl,a2v h.hv h.hs,a2v h.hv h.hs,h.om,h.om,λy hy=>?_⟩;have hy' :=(a1j hb.1 hb.2 y).1 hy;refine⟨hy'.bd hb.1 hb.2,(a9d h.mb y).2 ?_,TG (a2v h.hv h.hs) y,λz hz=>(a1j hb.1 hb.2 z).2 (hy'.dir hz),xn h.hv h.hs y,xn h.hv h.hs y⟩;obtain⟨z,hz,hxz⟩:=hx;exact⟨z,hz,hxz.trans hy'⟩
theorem EvC.mat(hj:c.2.2[j]? =some v)(hx:DpM s (P9 l s) d x):∃D,b[j]? =some D/\∃w r,G6 D.1 x=some w/\G6 D.2 x=some r/\VQ l (P9 l s) (c.1,v,[]) x=(w,r,0,0,0,0)/\yX (P9 l s) (yZ (Ib l c v) D.1) (j:Int) x= .inl (w,r):=by
 have hb:=hx.bd h.mb;obtain⟨e1,e2,e3,e4⟩:=h.scm hj;obtain⟨D,h1,h2,w,r,f1,f2,f3⟩:=h.mfix hj hx;refine⟨D,h1,w,r,f1,f2,?_,f3⟩;have hE:SimE (λ_=>False) (Ib l c v) (Ib l c v):=⟨rfl,rfl,rfl,rfl,λ_ _=>rfl⟩;have hev:=QJ h.hT c v;obtain⟨Y,y1,y2⟩:=c1O (h.two2 hx) hE hev hev h2;have hself:DpS (P9 l s) x x:=.inl rfl;have hnx:=(a1j hb.1 hb.2 x).2 hself;obtain⟨w',r',f1',f2',f3'⟩:=ZA hev h.om.1 y1 (h.om.2 x hb.1 hb.2) hnx (xn h.hv h.hs x);have hsim:=Ub (s:=P9 l s) (hE.at (P:=λz=>z∈P8 (P9 l s) x) (D:=D.1) (D' :=Y.1) (by rw[(IB h2).1,(IB y1).1]) (λz hz=>(y2 z ((a1j hb.1 hb.2 z).2 (hself.dir hz))).symm)) (DR hev _) (DR hev _) (xn h.hv h.hs x) (j:Int);rw[f3,f3']at hsim;cases hsim;unfold VQ Ru;rw[show mS l (c.1,v,[]) (P9 l (P9 l s)) (Eh (P9 l (P9 l s)) (wP (P9 l (P9 l s)).2.2.2.1.length) (mbS (P9 l s) x))= .inl []from rfl];simp only;have henv:xY l (P9 l s) (c.1,v,[]) []=Ib l c v:=by unfold xY Ib;rw[e4];rfl
 rw[henv,show scS (P9 l s) (Ib l c v) (-1) (JR (P9 l s) (wP (P9 l s).2.2.2.1.length) x)= .inl Y from d3Y (-1) y1];have q1:Y.1.getD x.toNat (0,0,0)=w:=by unfold G6 at f1';rw[if_pos hb.1]at f1';rw[uZ,f1'];rfl
 have q2:Y.2.getD x.toNat 0=r:=by unfold G6 at f2';rw[if_pos hb.1]at f2';rw[uZ,f2'];rfl
 show(Y.1.getD x.toNat (0,0,0),Y.2.getD x.toNat 0,(0:Int),(0:Int),(0:Int),(0:Int))=_;rw[q1,q2]
theorem EvC.args(hx:DpS s d x):(Cj l k c true x).1=0:=by have hb:=hx.bd h.dd.1 h.dd.2;exact b0L (SA h.ha) h.hs hb.1 hb.2
end
end
section
variable {sg:O7}{ops:List (Int×Int)}{N:Int}{k:Int}
theorem a8a(hk:gK k=some true)(h:(JS (k,N) ops sg).2=0):((RR (k,N) ops sg).getD ((0,0),0)).2=0:=by
 unfold JS at h;rw[b8i]at h;revert h;cases F7 (x8 N 0)
 .exact id
 .rw[show gK (k,N).1=some true from hk];exact id
theorem b2e(h:(JS (7,N) ops sg).2=0):0<=N/\N<o9 sg.2.2.1:=by
 have h:=a8a rfl h;have hf:rY (7,N) sg=l9 (L6 0 N) (some (D9 N (o9 sg.2.2.1))) (some false):=rfl;unfold RR at h;rw[hf,show nV (7,N) sg=some true from rfl]at h;cases h1:L6 0 N<;>rw[h1]at h
 .exact absurd (show(6:Int)=0 from h) H9
 cases h2:D9 N (o9 sg.2.2.1)<;>rw[h2]at h
 .exact absurd (show(6:Int)=0 from h) H9
 exact⟨jr.1 h1,jK.1 h2⟩
theorem b5F(h:(JS (33,N) ops sg).2=0):0<=N:=by
 have h:=a8a rfl h;have hf:rY (33,N) sg=l9 (L6 0 N) (some (D9 N (o9 sg.2.1))) (some false):=rfl;unfold RR at h;rw[hf,show nV (33,N) sg=some true from rfl]at h;cases h1:L6 0 N<;>rw[h1]at h
 .exact absurd (show(6:Int)=0 from h) H9
 exact jr.1 h1
theorem b8Y(h:(JS (34,N) ops sg).2=0):0<=N:=by
 have h:=a8a rfl h;have hf:nV (34,N) sg=l9 (L6 0 N) (some (L6 (eX N 8) 5)) (some false):=rfl;unfold RR at h;rw[hf]at h;cases h1:L6 0 N<;>rw[h1]at h
 .exact absurd (show(3:Int)=0 from h) H9
 exact jr.1 h1
variable {i:Nat}
theorem QM{n:Int×Int}{t:Int×Int}(h:GI sg n ops i= .inr t):(JS n ops sg).2=0:=by
 unfold GI at h;split at h
 .assumption
 .cases h
theorem JJ{sg:O7} :∀(t:XT) (o:Nat) {r:Int×Int},jc sg t o= .inr r->∀n∈t.post,∃ops,(JS n ops sg).2=0
 | .l0 n,o,r,h,x,hx=>by unfold XT.post at hx;rw[D8.1 hx];unfold jc at h;exact⟨_,QM h⟩| .l1 n a,o,r,h,x,hx=>by
  unfold XT.post at hx;unfold jc at h;cases ha:jc sg a o with
  |inl e=>rw[ha]at h;cases h|inr ta=>
   rw[ha]at h;rcases D5.1 hx with hx|hx
   .exact JJ a o ha x hx
   .rw[D8.1 hx];exact⟨_,QM h⟩
 | .l2 n a b,o,r,h,x,hx=>by
  unfold XT.post at hx;unfold jc at h;cases ha:jc sg a o with
  |inl e=>rw[ha]at h;cases h|inr ta=>
   rw[ha]at h;simp only at h;cases hb:jc sg b (o+a.size)with
   |inl e=>rw[hb]at h;cases h|inr tb=>
    rw[hb]at h;rcases D5.1 hx with hx|hx
    .rcases D5.1 hx with hx|hx
     .exact JJ a o ha x hx
     .exact JJ b _ hb x hx
    .rw[D8.1 hx];exact⟨_,QM h⟩
 | .l3 n a b c,o,r,h,x,hx=>by
  unfold XT.post at hx;unfold jc at h;cases ha:jc sg a o with
  |inl e=>rw[ha]at h;cases h|inr ta=>
   rw[ha]at h;simp only at h;cases hb:jc sg b (o+a.size)with
   |inl e=>rw[hb]at h;cases h|inr tb=>
    rw[hb]at h;simp only at h;cases hc:jc sg c (o+a.size+b.size)with
    |inl e=>rw[hc]at h;cases h|inr tc=>
     rw[hc]at h;rcases D5.1 hx with hx|hx
     .rcases D5.1 hx with hx|hx
      .rcases D5.1 hx with hx|hx
       .exact JJ a o ha x hx
       .exact JJ b _ hb x hx
      .exact JJ c _ hc x hx
     .rw[D8.1 hx];exact⟨_,QM h⟩
theorem a0v{e:List (Int×Int)}(h:(nZ e sg).2.2=0):∀n∈e,∃ops,(JS n ops sg).2=0:=by
 unfold nZ at h;cases hs:ng e with
 |inl x=>rw[hs]at h;exact absurd h (Dx hs)|inr t=>
  rw[hs]at h;simp only at h;cases ht:jc sg t 0 with
  |inl x=>rw[ht]at h;exact absurd h (Dz t 0 ht)|inr r=>intro n hn;rw[(Dy hs).1]at hn;exact JJ t 0 ht n hn
def xN(r:aj):List F6:=r.2.2.2.2.2.1++r.2.2.2.2.2.2.1
variable {l:U9}
theorem b5P(h:(iE l).1=0){s:A7}(hs:l.2.2[i]? =some s){r:aj}(hr:r∈s.2.2.2.2):∀n∈xN r,∃ops,(JS n ops (FX l s)).2=0:=by
 obtain⟨h1,d,h2,h3⟩:=Qp h hs hr;intro n hn;rcases D5.1 hn with hn|hn
 .rcases h1 with h1|h1
  .rw[h1]at hn;cases hn
  .exact a0v (by rw[Rk h1]) n hn
 .exact a0v (by rw[Rk h3]) n hn
def JQ(n:F6):Option F6:=
 l9 (x8 n.1 7) (some (0,n.2)) (l9 (x8 n.1 8) (some (1,n.2)) (l9 (x8 n.1 9) (some (2,0)) (l9 (x8 n.1 33) (some (3,n.2)) (l9 (x8 n.1 34) (some (3,dY .i64 n.2 8)) (l9 (isM n.1) (some (4,n.2)) none)))))
theorem a5R{n r:F6}(h:JQ n=some r):(n.1=7/\r=(0,n.2))\/(n.1=8/\r=(1,n.2))\/(n.1=9/\r=(2,0))\/(n.1=33/\r=(3,n.2))\/(n.1=34/\r=(3,dY .i64 n.2 8))\/(isM n.1=true/\r=(4,n.2)):=by
 unfold JQ at h;cases h1:x8 n.1 7<;>rw[h1]at h
 case true=>cases h;exact .inl ⟨P7.1 h1,rfl⟩
 cases h2:x8 n.1 8<;>rw[h2]at h
 case true=>cases h;exact .inr (.inl ⟨P7.1 h2,rfl⟩)
 cases h3:x8 n.1 9<;>rw[h3]at h
 case true=>cases h;exact .inr (.inr (.inl ⟨P7.1 h3,rfl⟩))
 cases h4:x8 n.1 33<;>rw[h4]at h
 case true=>cases h;exact .inr (.inr (.inr (.inl ⟨P7.1 h4,rfl⟩)))
 cases h5:x8 n.1 34<;>rw[h5]at h
 case true=>cases h;exact .inr (.inr (.inr (.inr (.inl ⟨P7.1 h5,rfl⟩))))
 cases h6:isM n.1<;>rw[h6]at h
 .cases h
 .cases h;exact .inr (.inr (.inr (.inr (.inr ⟨rfl,rfl⟩))))
def adR(l:List F6)(n:F6):List F6:=match JQ n with|none=>l|some r=>l9 (l.any λx=>kq r x) l (l++[r])
def OU(l:List F6)(q:aj):List F6:=(xN q).foldl adR l
theorem a6X{l:List F6}(r:F6)(h:l.length<=1000000):aY l r=some (l.any λx=>kq r x):=by unfold aY gZ;refine zW l (λx=>kq r x) h (λi a ha=>?_) (by rw[I9];rfl);rw[J3 ha,o7,F8,ha,o8];show l9 (kq r a) _ _=_;cases kq r a<;>rfl
theorem b2P{l:List F6}(n:F6)(h:l.length<=1000000):qf l n=some (adR l n):=by
 have tail:∀r:F6,(o5 (aY l r) λ(x_1:Bool)=>l9 x_1 (some l) (o5 (bV l [r]) λ(x:List F6)=>some x))=some (l9 (l.any λx=>kq r x) l (l++[r])):=λr=>by rw[a6X r h,o8,uq Y8,o8];cases l.any λx=>kq r x<;>rfl
 unfold qf adR JQ;cases x8 n.1 7
 case true=>exact tail _
 cases x8 n.1 8
 case true=>exact tail _
 cases x8 n.1 9
 case true=>exact tail _
 cases x8 n.1 33
 case true=>exact tail _
 cases x8 n.1 34
 case true=>exact tail _
 simp only[o6];rw[a7v];cases x8 n.1 36
 case true=>exact tail _
 cases x8 n.1 37
 case true=>exact tail _
 cases x8 n.1 38
 case true=>exact tail _
 cases x8 n.1 39
 case true=>exact tail _
 rfl
theorem a2C(l:List F6)(n:F6):(adR l n).length<=l.length+1:=by
 unfold adR;cases JQ n with
 |none=>simp|some r=>
  simp only;cases l.any λx=>kq r x
  .simp
  .simp
theorem a9l:∀(ns l:List F6),(ns.foldl adR l).length<=l.length+ns.length
 |[],l=>by simp|n::ns,l=>by have:=a9l ns (adR l n);have:=a2C l n;rw[O9,I5];omega
theorem a9m{l:List F6}(q:aj)(h:l.length<=500000)(h1:q.2.2.2.2.2.1.length<=50)(h2:q.2.2.2.2.2.2.1.length<=50):lq l q=some (OU l q):=by
 unfold lq;refine dD q.2.2.2.2.2.1 adR (λb i=>(b,i)) (λb=>b) (λi b=>b.length<=l.length+i) l l7 x9 (λi a b ha hi hI=>?_) (λb hI=>by rw[I9];rfl) (λhI=>?_)
 .simp only[J3 ha,o7,F8,ha,o8];have hi2:=(X7.1 ha).1;rw[b2P a l7,o8,Y3 l7];exact⟨rfl,by have:=a2C b a;omega⟩
 .refine dD q.2.2.2.2.2.2.1 adR (λb i=>(b,i)) (λb=>b) (λi b=>b.length<=l.length+50+i) _ l7 l7 (λi a b ha hi hI=>?_) (λb hI=>by rw[I9];rfl) (λhI2=>?_)
  .simp only[J3 ha,o7,F8,ha,o8];have hi2:=(X7.1 ha).1;rw[b2P a l7,o8,Y3 l7];exact⟨rfl,by have:=a2C b a;omega⟩
  .unfold OU xN;rw[Y0]
theorem YM(l:List F6)(q:aj)(h1:q.2.2.2.2.2.1.length<=50)(h2:q.2.2.2.2.2.2.1.length<=50):(OU l q).length<=l.length+100:=by have:=a9l (xN q) l;unfold OU;unfold xN at this ⊢;rw[F5]at this;omega
theorem Yv{r:F6} :∀(ns l:List F6),r∈ns.foldl adR l↔r∈l\/∃n∈ns,JQ n=some r
 |[],l=>by simp|n::ns,l=>by
  rw[O9,Yv ns];have hm:r∈adR l n↔r∈l\/JQ n=some r:=by
   unfold adR;cases hn:JQ n with
   |none=>simp|some q=>
    simp only;cases ha:l.any λx=>kq q x
    .simp only[o6];rw[D5,D8];constructor
     .rintro(h|h)
      .exact .inl h
      .exact .inr (by rw[h])
     .rintro(h|h)
      .exact .inl h
      .exact .inr (P5 h).symm
    .simp only[o7];obtain⟨x,hx,hq⟩:=aP.1 ha;have:=(SS q x).1 hq;subst this;constructor
     .exact .inl
     .rintro(h|h)
      .exact h
      .cases h;exact hx
  rw[hm];constructor
  .rintro((h|h)|⟨m,h1,h2⟩)
   .exact .inl h
   .exact .inr ⟨n,x9,h⟩
   .exact .inr ⟨m,by simp[h1],h2⟩
  .rintro(h|⟨m,h1,h2⟩)
   .exact .inl (.inl h)
   .rcases D6.1 h1 with rfl|h1
    .exact .inl (.inr h2)
    .exact .inr ⟨m,h1,h2⟩
variable {r:F6}
theorem a5m{l:List F6}{q:aj} :r∈OU l q↔r∈l\/∃n∈xN q,JQ n=some r:=Yv _ _
def evI(l:U9)(k:Int)(c:aF)(d:Int):V3×Int×E4:=if(Cj l k c true d).1=0 then(match G6 l.2.2 k with|some s=>VQ l s c d|none=>((0,0,0),0,0,0,0,0))else((0,0,0),0,Cj l k c true d)
variable {c:aF}{d:Int}
theorem a2O(hL:SmL l)(hC:SmC c)(hT:∀t∈l.2.1,ru t):lJ l k c d=some (evI l k c d):=a7h hL hC hT
theorem b0r(hL:SmL l)(hC:SmC c)(hT:∀t∈l.2.1,ru t):yB l k c d=some (evI l k c d):=a5J hL hC hT
section
variable (l:U9) (k:Int) (s:A7) (c:aF)
def Hz(m:Int):List V3:=l9 (L6 0 m) ((G6 c.2.2 m).getD []) c.2.1
def evM(m x:Int):V3×Int×E4:=l9 (L6 0 m) (evI l s.2.1 (c.1,Hz c m,[]) x) (evI l k c x)
def scM(m:Int):A7:=l9 (L6 0 m) (P9 l s) s
def b8F:aj:=([],0,0,0,(0,0),[],[],[])
def Lr(m x:Int):aj:=(G6 (scM l s m).2.2.2.2 (evM l k s c m x).2.1).getD b8F
def zB(m x:Int):List F6:=l9 (L6 0 m) ((List.range c.2.2.length).foldl (λacc (j:Nat)=>OU acc (Lr l k s c (j:Int) x)) []) (OU [] (Lr l k s c m x))
abbrev Nd:Type:=X9
def Qj(acc:List Nd)(m x:Int):Bool:=acc.any λy=>x8 y.1 1&&x8 y.2.2.1 m&&x8 y.2.2.2.1 x
def chT(rec:List Nd->Int->Int->Int->List Nd)(acc:List Nd)(m:Int)(r:F6)(dep:Int):List Nd:=
 l9 (x8 r.1 0) (acc++[(2,dep,m,r.2,-1,(G6 (Hz c m) r.2).getD (0,0,0))])
 (l9 (x8 r.1 1) (rec acc m r.2 dep)
 (l9 (x8 r.1 2) (acc++[(4,dep,m,r.2,-1,5,0,c.1)])
 (l9 (x8 r.1 3) (acc++[(3,dep,m,r.2,-1,0,0,0)])
 ((List.range c.2.2.length).foldl (λacc (j:Nat)=>rec acc (j:Int) r.2 dep) acc))))
def ndD(m x dep:Int):Nd:=(1,dep,m,x,(evM l k s c m x).2.1,(evM l k s c m x).1)
def ndR(m x dep:Int):Nd:=(5,dep,m,x,-1,(evM l k s c m x).1)
def EJ:Nat->List Nd->Int->Int->Int->List Nd
 |0,acc,_,_,_=>acc|n+1,acc,m,x,dep=>l9 (Qj acc m x) (acc++[ndR l k s c m x dep])
   ((zB l k s c m x).foldl (λacc r=>chT c (λa m x d=>EJ n a m x d) acc m r (dep+1)) (acc++[ndD l k s c m x dep]))
end
def Gd(l:U9)(s:A7)(c:aF)(d m x:Int):Prop:=(m=-1/\DpS s d x)\/∃(j:Nat) (v:List V3),m=(j:Int)/\c.2.2[j]? =some v/\DpM s (P9 l s) d x
def rkM(l:U9)(s:A7)(m x:Int):Nat:=l9 (L6 0 m) (bI (P9 l s) x).length (15+(bI s x).length)
theorem kH(j:Nat):L6 0 (j:Int)=true:=Y5 l7
theorem ZN{α:Type}{l:List α}{j:Nat}{v:α}(h:l[j]? =some v):G6 l (j:Int)=some v:=by rw[F8];exact h
variable {x:Int}{m:Int}
section
variable {l:U9} {k:Int} {s:A7} {c:aF} {d:Int} {X:DB} {b:List DB} (h:EvC l k s c d X b)
include h
theorem EvC.evS(hx:DpS s d x):∃v r,G6 X.1 x=some v/\G6 X.2 x=some r/\evM l k s c (-1) x=(v,r,0,0,0,0)/\yX s (yZ (xY l s c b) X.1) (-1) x= .inl (v,r):=by obtain⟨v,r,h1,h2,h3,h4⟩:=h.at hx;refine⟨v,r,h1,h2,?_,h4⟩;unfold evM evI;rw[show L6 0 (-1:Int)=false from rfl,o6,if_pos (h.args hx),h.hs];exact h3
theorem EvC.evMm{j:Nat}{v:List V3}(hj:c.2.2[j]? =some v)(hx:DpM s (P9 l s) d x):∃D,b[j]? =some D/\∃w r,G6 D.1 x=some w/\G6 D.2 x=some r/\evM l k s c (j:Int) x=(w,r,0,0,0,0)/\yX (P9 l s) (yZ (Ib l c v) D.1) (j:Int) x= .inl (w,r):=by
 obtain⟨D,h0,w,r,h1,h2,h3,h4⟩:=h.mat hj hx;refine⟨D,h0,w,r,h1,h2,?_,h4⟩;have hb:=hx.bd h.mb;have hi:Hz c (j:Int)=v:=by unfold Hz;rw[kH,o7,ZN hj];rfl
 unfold evM evI;rw[kH,o7,hi,if_pos (h.argm hj hb.1 hb.2),(h.scm hj).1];exact h3
theorem EvC.met(hg:Gd l s c d m x):∃v r q,evM l k s c m x=(v,r,0,0,0,0)/\0<=r/\G6 (scM l s m).2.2.2.2 r=some q/\q∈(scM l s m).2.2.2.2/\q.2.1=x/\Lr l k s c m x=q:=by
 have key:∀(sc:A7) (env:aV) (i:Int) (v:V3) (r:Int),yX sc env i x= .inl (v,r)->∃q,0<=r/\G6 sc.2.2.2.2 r=some q/\q∈sc.2.2.2.2/\q.2.1=x:=λsc env i v r hd=>by obtain⟨_,h2,q,h3,_⟩:=b3p hd;obtain⟨q',h4,h5,h6⟩:=Rj h2;rw[h3]at h4;cases h4;exact⟨q,(dU h3).1,h3,h5,h6⟩
 rcases hg with⟨rfl,hx⟩|⟨j,v,rfl,hj,hx⟩
 .obtain⟨v,r,_,_,h3,h4⟩:=h.evS hx;obtain⟨q,q0,q1,q2,q3⟩:=key _ _ _ _ _ h4;have e:scM l s (-1)=s:=rfl;refine⟨v,r,q,h3,q0,by rw[e];exact q1,by rw[e];exact q2,q3,?_⟩;unfold Lr;rw[h3,e,q1];rfl
 .obtain⟨D,_,w,r,_,_,h3,h4⟩:=h.evMm hj hx;obtain⟨q,q0,q1,q2,q3⟩:=key _ _ _ _ _ h4;have e:scM l s (j:Int)=P9 l s:=by unfold scM;rw[kH];rfl
  refine⟨w,r,q,h3,q0,by rw[e];exact q1,by rw[e];exact q2,q3,?_⟩;unfold Lr;rw[h3,e,q1];rfl
theorem EvC.inps(hg:Gd l s c d m x):(Hz c m).length=(scM l s m).2.2.1.length/\G6 l.2.2 (l9 (L6 0 m) s.2.1 k)=some (scM l s m):=by
 obtain⟨p1,p2,p3,p4,p5⟩:=Za (a1r h.ha) h.hs;rcases hg with⟨rfl,hx⟩|⟨j,v,rfl,hj,hx⟩
 .exact⟨a6I p3,h.hs⟩
 .obtain⟨e1,_,_,_⟩:=h.scm hj;have hi:Hz c (j:Int)=v:=by unfold Hz;rw[kH,o7,ZN hj];rfl
  have hmi:pF l s=((P9 l s).2.2.1,8):=by unfold pF;rw[e1]
  have pv:=b3Y p5 hj;rw[hmi]at pv;rw[hi];unfold scM;rw[kH,o7,o7];exact⟨a6I pv,e1⟩
theorem EvC.refN(hg:Gd l s c d m x){q:aj}(hq:q∈(scM l s m).2.2.2.2)(hd:q.2.1=x){n:F6}(hn:n∈xN q)(hr:JQ n=some r):
  (r.1=0/\0<=r.2/\r.2<o9 (Hz c m))\/(r.1=1/\Gd l s c d m r.2/\rkM l s m r.2<rkM l s m x)\/(r.1=2/\r.2=0)\/(r.1=3/\0<=r.2)\/(r.1=4/\m=-1/\0<=r.2/\∀(j:Nat) (v:List V3),c.2.2[j]? =some v->Gd l s c d (j:Int) r.2/\rkM l s (j:Int) r.2<rkM l s m x):=by
 obtain⟨hil,hla⟩:=h.inps hg;obtain⟨ops,hops⟩:=b5P h.hv (dU hla).2.2.2 hq n hn;obtain⟨k',N⟩:=n;have hsub:∀p:Int->Bool,p k' =true->N∈Ry p q.2.2.2.2.2.1\/N∈Ry p q.2.2.2.2.2.2.1:=λp hp=>by
  rcases D5.1 hn with hn|hn
  .exact .inl (X5.2 ⟨(k',N),O0.2 ⟨hn,hp⟩,rfl⟩)
  .exact .inr (X5.2 ⟨(k',N),O0.2 ⟨hn,hp⟩,rfl⟩)
 rcases a5R hr with⟨e,rfl⟩|⟨e,rfl⟩|⟨e,rfl⟩|⟨e,rfl⟩|⟨e,rfl⟩|⟨e,rfl⟩
 .have e:k' =7:=e;subst e;have:=b2e hops;rw[(b9I l _).2.2]at this;left;refine⟨rfl,this.1,?_⟩;have h2:=this.2;unfold o9 at h2 ⊢;rw[L9]at h2;rw[hil];exact h2
 .have e:k' =8:=e;subst e;right;left;have hm:∃e',(e' =q.2.2.2.2.2.1\/e' =q.2.2.2.2.2.2.1)/\N∈(oH e').2.1:=by
   rcases hsub (λo=>x8 o 8) rfl with g|g
   .exact⟨_,.inl rfl,(rf N _).2 g⟩
   .exact⟨_,.inr rfl,(rf N _).2 g⟩
  obtain⟨e',he',hN⟩:=hm;have hdir:N∈P8 (scM l s m) x:=(Nh h.hv (dU hla).2.2.2 x q hq hd e' he').1 N hN;refine⟨rfl,?_,?_⟩
  .rcases hg with⟨rfl,hx⟩|⟨j,v,rfl,hj,w,hw,hx⟩
   .exact .inl ⟨rfl,hx.dir hdir⟩
   .have es:scM l s (j:Int)=P9 l s:=by unfold scM;rw[kH];rfl
    rw[es]at hdir;exact .inr ⟨j,v,rfl,hj,w,hw,hx.dir hdir⟩
  .have hac:=TL h.hv (dU hla).2.2.2 N (uF hdir).1 (uF hdir).2;have:=a6C hdir hac;unfold rkM;rcases hg with⟨rfl,hx⟩|⟨j,v,rfl,hj,hx⟩
   .have es:scM l s (-1)=s:=rfl;rw[es]at this;show 15+_<15+_;show 15+(bI s N).length<15+(bI s x).length;omega
   .have es:scM l s (j:Int)=P9 l s:=by unfold scM;rw[kH];rfl
    rw[es]at this;rw[kH];exact this
 .right;right;left;exact⟨rfl,rfl⟩
 .have e:k' =33:=e;subst e;right;right;right;left;exact⟨rfl,b5F hops⟩
 .have e:k' =34:=e;subst e;right;right;right;left;refine⟨rfl,?_⟩;have h0:=b8Y hops;show 0<=dY .i64 N 8;have hru:=(h.hL.sc _ (dU hla).2.2.1).ro q hq;have hI:kE N:=by
   rcases D5.1 hn with hn|hn
   .exact hru.1.2.2.1 (34,N) hn
   .exact hru.1.2.2.2 (34,N) hn
  have hd8:N.tdiv 8=N / 8:=ku h0;rw[Be (by rw[hd8];unfold kE at hI ⊢;omega),hd8];omega
 .right;right;right;right;have hm:∃e',(e' =q.2.2.2.2.2.1\/e' =q.2.2.2.2.2.2.1)/\N∈(oH e').2.2:=by
   rcases hsub isM e with g|g
   .exact⟨_,.inl rfl,(rf N _).2 g⟩
   .exact⟨_,.inr rfl,(rf N _).2 g⟩
  obtain⟨e',he',hN⟩:=hm;rcases hg with⟨rfl,hx⟩|⟨j,v,rfl,hj,hx⟩
  .have es:scM l s (-1)=s:=rfl;rw[es]at hq;have hmb:N∈mbS s d:=d_.2 ⟨Yq.2 h.dd,q,hq,by rw[hd];exact hx,by
    unfold Dk;rcases he' with rfl|rfl
    .exact J8 _ hN
    .exact di _ hN⟩
   refine⟨rfl,rfl,(h.mb N hmb).1,λj v hj=>⟨.inr ⟨j,v,rfl,hj,N,hmb,.inl rfl⟩,?_⟩⟩;unfold rkM;rw[kH];have:=FY h.smm N;show(bI (P9 l s) N).length<15+_;omega
  .have es:scM l s (j:Int)=P9 l s:=by unfold scM;rw[kH];rfl
   rw[es]at hq;exact absurd ((xn h.hv h.hs x q hq hd e' he').2 N hN) id
theorem EvC.ruleLen(hg:Gd l s c d m x):(Lr l k s c m x).2.2.2.2.2.1.length<=50/\(Lr l k s c m x).2.2.2.2.2.2.1.length<=50:=by obtain⟨v,r,q,_,_,_,q2,_,q4⟩:=h.met hg;obtain⟨_,hla⟩:=h.inps hg;rw[q4];exact((h.hL.sc _ (dU hla).2.2.1).ro q q2).2
end
theorem Gd.all{s:A7}{d j:Int}(hg:Gd l s c d j x)(h0:0<=j)(hi:i<c.2.2.length):Gd l s c d (i:Int) x:=by
 rcases hg with⟨e,_⟩|⟨_,_,_,_,hx⟩
 .omega
 .exact .inr ⟨i,_,rfl,bQ hi,hx⟩
end
section
theorem a1y{α:Type}{eq:α->α->Bool}(h:∀a,eq a a=true):∀l:List α,b0X eq l l=true
 |[]=>rfl|a::l=>by unfold b0X;rw[h a,a1y h l];rfl
theorem II:∀(t:Ty) (a:t.den),OL t a a=true
 | .bool,a=>by cases a<;>rfl| .int _,a=>by unfold OL;exact decide_eq_true rfl| .str,a=>by unfold OL;exact decide_eq_true rfl| .sl t,a=>by unfold OL;exact a1y (II t) a| .prod p q,a=>by unfold OL;rw[II p,II q];rfl| .unit,a=>by unfold OL;rfl| .ent _ _ p q,a=>by unfold OL;rw[II p,II q];rfl
theorem b3r(t:Ty)(a:t.den):deq t a a=true:=II t a
theorem FI{α σ τ ε:Type}(l:List α)(mk:τ->Int->σ)(fin:τ->ε)(R:Nat->τ->Prop){f:σ->Option (σ⊕ε)}{b:τ}(hl:l.length<=1000000)(h0:R 0 b)
  (hin:∀(i:Nat) (a:α) (b:τ),l[i]? =some a->R i b->∃b',f (mk b (i:Int))=some (.inl (mk b' ((i+1:Nat):Int)))/\R (i+1) b')
  (hend:∀b,R l.length b->f (mk b (l.length:Int))=some (.inr (fin b))):∃b',ay f (mk b 0)=some (fin b')/\R l.length b' :=by
 have key:∀(n i:Nat) (b:τ),i<=l.length->l.length -i<n->R i b->∃b',lM f n (mk b (i:Int))=some (fin b')/\R l.length b' :=by
  intro n;induction n with
  |zero=>intro i b _ h _;omega|succ n ih=>
   intro i b hi hn hI;unfold lM;by_cases h:i<l.length
   .obtain⟨b',h1,h2⟩:=hin i _ b (bQ h) hI;rw[h1];exact ih (i+1) b' l7 l7 h2
   .have:i=l.length:=l7;subst this;rw[hend b hI];exact⟨b,rfl,hI⟩
 exact key iL 0 b l7 (by unfold iL;omega) h0
abbrev Fnd:Type:=List (F6×I8)
section
variable (l:U9) (k:Int) (s:A7) (c:aF)
def Bd(acc:List X9)(fd:Fnd):J5:=(acc,l,k,c,fd,0,0,0,0)
def Vw(fd:Fnd):Prop:=∃f,Ou kq fd f/\∀(m x:Int) v,f (m,x)=some v->v=((evM l k s c m x).1,(evM l k s c m x).2.1)
end
theorem c1o(l:U9)(k:Int)(s:A7)(c:aF):Vw l k s c []:=⟨λ_=>none,b1p _,λ_ _ _ h=>by cases h⟩
section
variable {l:U9} {k:Int} {s:A7} {c:aF} {d:Int} {X:DB} {b:List DB} (h:EvC l k s c d X b)
include h
theorem EvC.eval{m x:Int}(hg:Gd l s c d m x)(acc:List X9){fd:Fnd}(hf:Vw l k s c fd):
  ∃fd',iF (Bd l k c acc fd) (m,x)=some (((evM l k s c m x).1,(evM l k s c m x).2.1),Bd l k c acc fd')/\Vw l k s c fd' :=by
 obtain⟨f,hf1,hf2⟩:=hf;obtain⟨v,r,q,e1,_⟩:=h.met hg;unfold iF;show ∃fd',l9 (a3f kq fd (m,x)) (some (a5q kq fd (m,x) ((0,0,0),0),Bd l k c acc fd)) (o5 (l9 (L6 0 m) (o5 (G6 l.2.2 k) λ(y:A7)=>o5 (G6 c.2.2 m) λ(z:List V6)=>some (y.2.1,c.1,z,[])) (some (k,c))) λ(y:Int×aF)=>
  o5 (lJ l y.1 y.2 x) λ(z:V6×Int×I7)=>o5 (l9 (F7 (x8 z.2.2.1 0)) (l9 (x8 0 0) (some (acc,l,k,c,fd,z.2.2)) (some (Bd l k c acc fd))) (some (Bd l k c acc fd))) λ(w:J5)=>some ((z.1,z.2.1),w.1,w.2.1,w.2.2.1,w.2.2.2.1,m_ kq w.2.2.2.2.1 (m,x) (z.1,z.2.1),w.2.2.2.2.2))=_/\_
 cases hm:a3f kq fd (m,x)
 .rw[o6];have hput:Vw l k s c (m_ kq fd (m,x) (v,r)):=by
   refine⟨_,b1q SS hf1 (m,x) (v,r),λm' x' w hw=>?_⟩;cases hk:kq (m',x') (m,x)<;>rw[hk]at hw
   .exact hf2 m' x' w hw
   .have e:=(SS _ _).1 hk;cases e;cases hw;rw[e1]
  have hev:∃kk cc,l9 (L6 0 m) (o5 (G6 l.2.2 k) λ(y:A7)=>o5 (G6 c.2.2 m) λ(z:List V6)=>some (y.2.1,c.1,z,[])) (some (k,c))=some (kk,cc)/\lJ l kk cc x=some (v,r,0,0,0,0):=by
   rcases hg with⟨rfl,hx⟩|⟨j,u,rfl,hj,hx⟩
   .refine⟨k,c,rfl,?_⟩;rw[a2O h.hL h.hC h.hT];exact congrArg some e1
   .rw[kH,o7,h.hs,o8,ZN hj,o8];refine⟨_,_,rfl,?_⟩;have hi:Hz c (j:Int)=u:=by unfold Hz;rw[kH,o7,ZN hj];rfl
    unfold evM at e1;rw[kH,o7,hi]at e1;rw[a2O h.hL (c:=(c.1,u,[])) ⟨h.hC.nv u (kK hj),x9,x9⟩ h.hT];exact congrArg some e1
  obtain⟨kk,cc,g1,g2⟩:=hev;rw[g1,o8,g2,o8];refine⟨m_ kq fd (m,x) (v,r),?_,hput⟩;rw[e1];rfl
 .rw[o7];refine⟨fd,?_,f,hf1,hf2⟩;have h1:=hf1.has (m,x);rw[hm]at h1;cases hv:f (m,x)with
  |none=>rw[hv]at h1;cases h1|some w=>have h2:=hf1.get (m,x) ((0,0,0),0);rw[hv]at h2;rw[h2,hf2 m x w hv];rfl
theorem EvC.refs{m x:Int}(hg:Gd l s c d m x)(hM:c.2.2.length<=10)(acc:List X9){fd:Fnd}(hf:Vw l k s c fd):
  ∃fd',nH (Bd l k c acc fd) (m,x)=some (zB l k s c m x,Bd l k c acc fd')/\Vw l k s c fd' :=by
 unfold nH;rcases hg with⟨rfl,hx⟩|⟨j,u,rfl,hj,hx⟩
 .have hg:Gd l s c d (-1) x:=.inl ⟨rfl,hx⟩;obtain⟨fd',h1,h2⟩:=h.eval hg acc hf;obtain⟨v,r,q,e1,q0,q1,q2,q3,q4⟩:=h.met hg;refine⟨fd',?_,h2⟩;have hlen:=h.ruleLen hg;rw[show(D9 (-1,x).1 0)=true from rfl,o7];rw[show G6 (Bd l k c acc fd).2.1.2.2 (Bd l k c acc fd).2.2.1=some s from h.hs,o8,h1,o8];rw[show x8 (Bd l k c acc fd).2.2.1 (Bd l k c acc fd').2.2.1=true from O5 rfl,o7];simp only[show(Bd l k c acc fd).2.1=l from rfl,show(Bd l k c acc fd').2.1=l from rfl,b3r,o7];have es:scM l s (-1)=s:=rfl;rw[es]at q1;rw[e1];simp only;rw[q1,o8];rw[q4]at hlen;rw[a9m q x9 hlen.1 hlen.2,o8];unfold zB;rw[show L6 0 (-1:Int)=false from rfl,o6,q4]
 .have hg:Gd l s c d (j:Int) x:=.inr ⟨j,u,rfl,hj,hx⟩;obtain⟨e1,e2,e3,e4⟩:=h.scm hj;rw[show(D9 ((j:Int),x).1 0)=false from N7 (by show(0:Int)<=(j:Int);omega),o6];rw[show G6 (Bd l k c acc fd).2.1.2.2 (Bd l k c acc fd).2.2.1=some s from h.hs,o8];rw[show G6 (Bd l k c acc fd).2.1.2.2 s.2.1=some (P9 l s)from e1,o8];have key:=FI (σ:=J5×List F6×Int) (c.2.2) (λ(t:Fnd×List F6) i=>(Bd l k c acc t.1,t.2,i)) (λt=>(Bd l k c acc t.1,t.2))
   (λi t=>Vw l k s c t.1/\t.2=(List.range i).foldl (λacc (j:Nat)=>OU acc (Lr l k s c (j:Int) x)) []/\t.2.length<=100*i)
   (f:=λ(x_1:J5×List F6×Int)=>
    l9 (D9 x_1.2.2 (o9 (Bd l k c acc fd).2.2.2.1.2.2))
     (o5 (iF x_1.1 (x_1.2.2,((j:Int),x).2)) λ(x_2:I8×J5)=>
      o5 (G6 (P9 l s).2.2.2.2 x_2.1.2) λ(x:aj)=>
       o5 (lq x_1.2.1 x) λ(x:List F6)=>
        some (Sum.inl (x_2.2,x,C9 IntKind.i64 x_1.2.2 1)))
     (some (Sum.inr (x_1.1,x_1.2.1)))) (b:=(fd,[])) l7 ⟨hf,rfl,x9⟩ (λi a t ha ht=>?_) (λt ht=>?_)
  .obtain⟨t,h1,h2,h3,h4⟩:=key;refine⟨t.1,?_,h2⟩;rw[h1,o8];rw[h3];unfold zB;rw[kH,o7]
  .obtain⟨ht1,ht2,ht3⟩:=ht;have hi:=(X7.1 ha).1;have hgi:=Gd.all hg l7 hi;obtain⟨fd',g1,g2⟩:=h.eval hgi acc ht1;obtain⟨v,r,q,p1,p0,p2,p3,p4,p5⟩:=h.met hgi;have hlen:=h.ruleLen hgi;have es:scM l s (i:Int)=P9 l s:=by unfold scM;rw[kH];rfl
   rw[es]at p2;refine⟨(fd',OU t.2 q),?_,g2,?_,?_⟩
   .simp only;rw[show D9 (i:Int) (o9 (Bd l k c acc fd).2.2.2.1.2.2)=true from J3 (l:=c.2.2) ha,o7];rw[g1,o8,p1];simp only;rw[p2,o8];rw[p5]at hlen;rw[a9m q l7 hlen.1 hlen.2,o8,Y3 l7]
   .show OU t.2 q=_;rw[W9,Y0,←ht2,←p5];rfl
   .show(OU t.2 q).length<=_;rw[p5]at hlen;have:=YM t.2 q hlen.1 hlen.2;omega
  .simp only;rw[show D9 (c.2.2.length:Int) (o9 (Bd l k c acc fd).2.2.2.1.2.2)=false from I9 c.2.2];rfl
end
end
section
def kM(q:F6):Int:=q.1
def kX(q:F6):Int:=q.2
def kC(q:F6):Int:=(kM q+1)*14+kX q
def isD(y:Nd):Bool:=x8 (eK y) 1
def vg(acc:List Nd):List F6:=(acc.filter isD).map a4H
abbrev Ba(acc:List Nd):Nat:=(vg acc).length
theorem uK(a b:List Nd):vg (a++b)=vg a++vg b:=by unfold vg;rw[mO,dC]
variable {y:Nd}
theorem Me(h:eK y=1):vg [y]=[a4H y]:=by unfold vg isD;rw[dJ,O5 h];rfl
theorem ZM(h:eK y≠1):vg [y]=[]:=by unfold vg isD;rw[dJ,O8 h];rfl
variable {acc:List Nd}
theorem zY{q:F6} :q∈vg acc↔∃y∈acc,eK y=1/\a4H y=q:=by
 unfold vg;rw[X5];constructor
 .rintro⟨y,h1,h2⟩;obtain⟨h3,h4⟩:=O0.1 h1;exact⟨y,h3,P7.1 h4,h2⟩
 .rintro⟨y,h1,h2,h3⟩;exact⟨y,O0.2 ⟨h1,O5 h2⟩,h3⟩
variable {m:Int}{x:Int}
theorem WV :Qj acc m x=true↔(m,x)∈vg acc:=by
 rw[zY];unfold Qj;rw[aP];constructor
 .rintro⟨y,h1,h2⟩;simp only[A8]at h2;obtain⟨⟨g1,g2⟩,g3⟩:=h2;exact⟨y,h1,P7.1 g1,fC (P7.1 g2) (P7.1 g3)⟩
 .rintro⟨y,h1,h2,h3⟩;refine⟨y,h1,?_⟩;have g2:y.2.2.1=m:=congrArg (·.1) h3;have g3:y.2.2.2.1=x:=congrArg (·.2) h3;simp only[A8];exact⟨⟨O5 h2,O5 g2⟩,O5 g3⟩
theorem a0B(y:Nd):∀(l pre:List Nd),wfR pre (l++[y])=(wfR pre l&&okR (pre++l) y)
 |[],pre=>by show(okR pre y&&true)=(true&&okR (pre++[]) y);rw[H7,Bool.and_true,fE]|x::l,pre=>by show(okR pre x&&wfR (pre++[x]) (l++[y]))=((okR pre x&&wfR (pre++[x]) l)&&okR (pre++x::l) y);rw[a0B y l (pre++[x]),Rw,G5];rfl
def MR(acc:List Nd)(dep:Int):Prop:=(acc=[]/\dep=0)\/∃q,acc.getLast?=some q/\1<=dep/\(dep<=eD q\/(dep=eD q+1/\eK q=1))
variable {dep:Int}
theorem MR.nn(h:MR acc dep):0<=dep:=by rcases h with⟨_,e⟩|⟨q,_,e,_⟩<;>omega
theorem MR.fol(h:MR acc dep)(hd:eD y=dep)(hb:dep<=1000)(h1:acc=[]->eK y=1):
  (match acc.getLast? with|none=>x8 y.2.1 0&&x8 y.1 1|some q=>c1p q y)=true:=by
 rcases h with⟨e1,e2⟩|⟨q,e1,e2,e3⟩
 .rw[e1];show(x8 (eD y) 0&&x8 (eK y) 1)=true;rw[O5 l7,O5 (h1 e1)];rfl
 .rw[e1];show(!(D9 (eD y) 1)&&(bif D9 (eD q) (eD y)then x8 (J9 .i64 (eD y) 1) (eD q)&&x8 (eK q) 1 else true))=true;rw[N7 l7];rcases e3 with e3|⟨e3,e4⟩
  .rw[N7 l7];rfl
  .rw[U6 l7,X3 U4,O5 l7,O5 e4];rfl
theorem b4q{pre:List Nd}{x:Nd}(h1:b3a x=true)(h2:(bif x8 x.1 1 then !(D9 x.2.2.2.2.1 0)&&!(XQ pre x false)else x8 x.2.2.2.2.1 (-1))=true)(h3:(bif x8 x.1 5 then XQ pre x true else true)=true)
  (h4:(match pre.getLast? with|none=>x8 x.2.1 0&&x8 x.1 1|some q=>c1p q x)=true):okR pre x=true:=by
 unfold okR;simp only[A8];exact⟨⟨⟨h1,h2⟩,h3⟩,h4⟩
section
variable (l:U9) (k:Int) (s:A7) (c:aF) (d:Int)
def b2K(y:Nd):Prop:=
 (eK y=1/\Gd l s c d (eM y) (eI y)/\eR y=(evM l k s c (eM y) (eI y)).2.1/\Yf y=(evM l k s c (eM y) (eI y)).1)\/
 (eK y=5/\Gd l s c d (eM y) (eI y)/\eR y=-1/\Yf y=(evM l k s c (eM y) (eI y)).1)\/
 (eK y=2/\(∃x,Gd l s c d (eM y) x)/\0<=eI y/\eI y<o9 (Hz c (eM y))/\eR y=-1/\Yf y=(G6 (Hz c (eM y)) (eI y)).getD (0,0,0))\/
 (eK y=4/\(∃x,Gd l s c d (eM y) x)/\eI y=0/\eR y=-1/\Yf y=(5,0,c.1))\/
 (eK y=3/\(∃x,Gd l s c d (eM y) x)/\0<=eI y/\eR y=-1)
structure AOk (acc:List Nd):Prop where
 nd:∀y∈acc,b2K l k s c d y
 nu:(vg acc).Nodup
 wf:wfR [] acc=true
 dp:∀y∈acc,0<=eD y/\eD y<=1000
def Tgt(R:List Nd)(m x:Int):Prop:=∀r∈zB l k s c m x,(r.1=1->(m,r.2)∈vg R)/\(r.1=4->∀j:Nat,j<c.2.2.length->((j:Int),r.2)∈vg R)
end
theorem Tgt.mono{l:U9}{k:Int}{s:A7}{c:aF}{R t:List Nd}(h:Tgt l k s c R m x):Tgt l k s c (R++t) m x:=λr hr=>
 ⟨λe=>by rw[uK];exact J8 _ ((h r hr).1 e),λe j hj=>by rw[uK];exact J8 _ ((h r hr).2 e j hj)⟩
section
variable {l:U9} {k:Int} {s:A7} {c:aF} {d:Int} {X:DB} {b:List DB} (h:EvC l k s c d X b)
include h
theorem EvC.bd(hg:Gd l s c d m x)(hM:c.2.2.length<=10):-1<=m/\m<10/\0<=x/\x<14:=by
 rcases hg with⟨rfl,hx⟩|⟨j,v,rfl,hj,hx⟩
 .have:=hx.bd h.dd.1 h.dd.2;have:=h.sm.nd;unfold nD o9 at*;omega
 .have:=hx.bd h.mb;have:=h.smm.nd;have:=(X7.1 hj).1;unfold nD o9 at*;omega
theorem EvC.base(hM:c.2.2.length<=10)(hy:b2K l k s c d y):b3a y=true/\(eK y=1->0<=eR y)/\(eK y≠1->eR y=-1):=by
 have key:(1<=eK y/\eK y<=5)/\0<=eI y/\-1<=eM y/\(eK y=1->0<=eR y)/\(eK y≠1->eR y=-1):=by
  rcases hy with⟨e,g,e2,_⟩|⟨e,g,e2,_⟩|⟨e,⟨x,g⟩,e0,_,e2,_⟩|⟨e,⟨x,g⟩,e0,e2,_⟩|⟨e,⟨x,g⟩,e0,e2⟩
  .have hb:=h.bd g hM;obtain⟨v,r,q,p1,p2,_⟩:=h.met g;rw[p1]at e2;have e2:eR y=r:=e2;exact⟨l7,l7,l7,λ_=>by omega,λhn=>absurd e hn⟩
  .have hb:=h.bd g hM;exact⟨l7,l7,l7,λhn=>by omega,λ_=>e2⟩
  .have hb:=h.bd g hM;exact⟨l7,l7,l7,λhn=>by omega,λ_=>e2⟩
  .have hb:=h.bd g hM;exact⟨l7,l7,l7,λhn=>by omega,λ_=>e2⟩
  .have hb:=h.bd g hM;exact⟨l7,l7,l7,λhn=>by omega,λ_=>e2⟩
 obtain⟨⟨k1,k2⟩,k3,k4,k5⟩:=key;refine⟨?_,k5⟩;show(!(D9 (eK y) 1)&&!(D9 5 (eK y))&&!(D9 (eI y) 0)&&!(D9 (eM y) (-1)))=true;rw[N7 l7,N7 l7,N7 l7,N7 l7];rfl
theorem EvC.len(hA:AOk l k s c d acc)(hM:c.2.2.length<=10):Ba acc<=154:=by
 have hin:∀q∈vg acc,-1<=kM q/\kM q<10/\0<=kX q/\kX q<14:=λq hq=>by
  obtain⟨y,hy,h1,rfl⟩:=zY.1 hq;rcases hA.nd y hy with⟨e,g,_⟩|⟨e,g,_⟩|⟨e,g,_⟩|⟨e,g,_⟩|⟨e,g,_⟩
  .exact h.bd g hM
  all_goals exact absurd (h1.symm.trans e) H9
 have hn:((vg acc).map kC).Nodup:=by rw[List.Nodup,List.pairwise_map];refine List.Pairwise.imp_of_mem ?_ hA.nu;intro a b ha hb hab he;have h1:=hin a ha;have h2:=hin b hb;unfold kC at he;refine hab (fC (show kM a=kM b by omega) (show kX a=kX b by omega))
 have:=QO (n:=154) hn (λz hz=>by obtain⟨q,hq,rfl⟩:=X5.1 hz;have:=hin q hq;unfold kC;omega)
 rw[L9]at this;exact this
theorem EvC.pushO(hM:c.2.2.length<=10)(hA:AOk l k s c d acc)(hF:MR acc dep)(hy:b2K l k s c d y)(h1:eK y≠1)(hd:eD y=dep)(hb:dep<=1000)(hne:acc≠[])
  (h5:eK y=5->∃z∈acc,eK z=1/\a4H z=a4H y/\Yf z=Yf y):AOk l k s c d (acc++[y]):=by
 obtain⟨b1,b2,b3⟩:=h.base hM hy;have hnn:=hF.nn;refine⟨λz hz=>?_,?_,?_,λz hz=>?_⟩
 rotate_left 3
 .rcases D5.1 hz with hz|hz
  .exact hA.dp z hz
  .rw[D8.1 hz];omega
 .rcases D5.1 hz with hz|hz
  .exact hA.nd z hz
  .rw[D8.1 hz];exact hy
 .rw[uK,ZM h1,H7];exact hA.nu
 .rw[a0B,hA.wf,fE,G8];refine b4q b1 ?_ ?_ (hF.fol hd hb (λe=>absurd e hne))
  .rw[show x8 y.1 1=false from O8 h1,show x8 y.2.2.2.2.1 (-1)=true from O5 (b3 h1)];rfl
  cases h6:x8 y.1 5
  .rfl
  .rw[show XQ acc y true=true from b6u.2 (by
    obtain⟨z,z1,z2,z3,z4⟩:=h5 (P7.1 h6);exact⟨z,z1,z2,z3,λ_=>z4⟩)]
   rfl
theorem EvC.pushD(hM:c.2.2.length<=10)(hA:AOk l k s c d acc)(hF:MR acc dep)(hg:Gd l s c d m x)(hb:dep<=1000)(hs:Qj acc m x=false):AOk l k s c d (acc++[ndD l k s c m x dep]):=by
 have hy:b2K l k s c d (ndD l k s c m x dep):=.inl ⟨rfl,hg,rfl,rfl⟩;obtain⟨b1,b2,b3⟩:=h.base hM hy;have hns:(m,x)∉vg acc:=λhh=>by rw[WV.2 hh]at hs;cases hs
 have hnn:=hF.nn;refine⟨λz hz=>?_,?_,?_,λz hz=>?_⟩
 rotate_left 3
 .rcases D5.1 hz with hz|hz
  .exact hA.dp z hz
  .rw[D8.1 hz];show 0<=dep/\dep<=1000;omega
 .rcases D5.1 hz with hz|hz
  .exact hA.nd z hz
  .rw[D8.1 hz];exact hy
 .rw[uK,Me (y:=ndD l k s c m x dep) rfl];refine N8.2 ⟨hA.nu,x9,λa ha b' hb' e=>?_⟩;rw[D8.1 hb']at e;subst e;exact hns ha
 .rw[a0B,hA.wf,fE,G8];refine b4q b1 ?_ rfl (hF.fol (y:=ndD l k s c m x dep) rfl hb (λ_=>rfl));rw[show x8 (ndD l k s c m x dep).1 1=true from rfl,show D9 (ndD l k s c m x dep).2.2.2.2.1 0=false from N7 (b2 rfl)];cases h6:XQ acc (ndD l k s c m x dep) false
  .rfl
  .obtain⟨z,z1,z2,z3,_⟩:=b6u.1 h6;exact absurd (zY.2 ⟨z,z1,z2,z3⟩) hns
end
end
section
section
variable (l:U9) (k:Int) (s:A7) (c:aF) (d:Int)
structure SPost (acc R:List Nd) (m x dep:Int):Prop where
 ok:AOk l k s c d R
 pre:∃t,R=acc++t
 cnt:R.length+1000*Ba acc<=acc.length+1+1000*Ba R
 fits:1<=dep->MR R dep
 key:(m,x)∈vg R
 clo:∀y∈R,eK y=1->y∈acc\/Tgt l k s c R (eM y) (eI y)
structure CPost (acc R:List Nd) (dep:Int) (w:Nat):Prop where
 ok:AOk l k s c d R
 pre:∃t,R=acc++t
 cnt:R.length+1000*Ba acc<=acc.length+w+1000*Ba R
 fits:MR R dep
 clo:∀y∈R,eK y=1->y∈acc\/Tgt l k s c R (eM y) (eI y)
def SOk(n:Nat):Prop:=∀(m x dep:Int) (acc:List Nd),Gd l s c d m x->rkM l s m x<n->AOk l k s c d acc->MR acc dep->0<=dep->dep+rkM l s m x<=100->acc.length<=1000*Ba acc->SPost l k s c d acc (EJ l k s c n acc m x dep) m x dep
def wtM(m:Int):Nat:=l9 (L6 0 m) 1 10
def MB(n:Nat)(m dep:Int)(acc:List Nd)(r:F6):List Nd:=chT c (λa m x d=>EJ l k s c n a m x d) acc m r dep
end
theorem a2w(m:Int):1<=wtM m/\wtM m<=10:=by unfold wtM;cases L6 0 m<;>exact⟨H9,H9⟩
variable {dep:Int}
theorem a1E(acc:List Nd){y:Nd}(h:eD y=dep)(h1:1<=dep):MR (acc++[y]) dep:=.inr ⟨y,x9,h1,.inl l7⟩
variable {R:List Nd}
theorem b8v(h:MR R (dep+1))(h1:1<=dep):MR R dep:=by
 rcases h with⟨_,e⟩|⟨q,e1,e2,e3⟩
 .omega
 .exact .inr ⟨q,e1,h1,.inl l7⟩
variable {acc:List Nd}{m:Int}{x:Int}{w:Nat}
section
variable {l:U9} {k:Int} {s:A7} {c:aF} {d:Int} {X:DB} {b:List DB}
theorem CPost.refl(hA:AOk l k s c d acc)(hF:MR acc dep):CPost l k s c d acc acc dep w:=⟨hA,⟨[],x9⟩,l7,hF,λy hy _=> .inl hy⟩
theorem CPost.trans{acc R Q:List Nd}{w v:Nat}(h:CPost l k s c d acc R dep w)(g:CPost l k s c d R Q dep v):CPost l k s c d acc Q dep (w+v):=by
 obtain⟨t,ht⟩:=h.pre;obtain⟨u,hu⟩:=g.pre;refine⟨g.ok,⟨t++u,by rw[hu,ht,G5]⟩,by have:=h.cnt;have:=g.cnt;omega,g.fits,λy hy e=>?_⟩;rcases g.clo y hy e with h1|h1
 .rcases h.clo y h1 e with h2|h2
  .exact .inl h2
  .right;rw[hu];exact h2.mono
 .exact .inr h1
theorem CPost.keys(h:CPost l k s c d acc R dep w){q:F6}(hq:q∈vg acc):q∈vg R:=by obtain⟨t,ht⟩:=h.pre;rw[ht,uK];exact J8 _ hq
theorem SPost.toC(h:SPost l k s c d acc R m x dep)(h1:1<=dep):CPost l k s c d acc R dep 1:=⟨h.ok,h.pre,h.cnt,h.fits h1,h.clo⟩
variable (h:EvC l k s c d X b)
include h
theorem EvC.refLen(hg:Gd l s c d m x)(hM:c.2.2.length<=10):(zB l k s c m x).length*wtM m<=1000:=by
 unfold zB wtM;cases hm:L6 0 m
 .have hl:=h.ruleLen hg;have:=YM [] (Lr l k s c m x) hl.1 hl.2;simp only[o6];simp only[dB]at this;omega
 .simp only[o7];have key:∀i,i<=c.2.2.length->((List.range i).foldl (λacc (j:Nat)=>OU acc (Lr l k s c (j:Int) x)) []).length<=100*i:=by
   intro i;induction i with
   |zero=>intro _;simp|succ i ih=>intro hi;have ih:=ih l7;rw[W9,Y0];have hl:=h.ruleLen (Gd.all hg (jr.1 hm) (i:=i) l7);have:=YM ((List.range i).foldl (λacc (j:Nat)=>OU acc (Lr l k s c (j:Int) x)) []) (Lr l k s c (i:Int) x) hl.1 hl.2;show(OU _ _).length<=_;omega
  have:=key c.2.2.length l7;omega
theorem EvC.refIn(hg:Gd l s c d m x){r:F6}(hr:r∈zB l k s c m x):
  (r.1=0/\0<=r.2/\r.2<o9 (Hz c m))\/(r.1=1/\Gd l s c d m r.2/\rkM l s m r.2<rkM l s m x)\/(r.1=2/\r.2=0)\/(r.1=3/\0<=r.2)\/(r.1=4/\m=-1/\0<=r.2/\∀(j:Nat) (v:List V3),c.2.2[j]? =some v->Gd l s c d (j:Int) r.2/\rkM l s (j:Int) r.2<rkM l s m x):=by
 unfold zB at hr;cases hm:L6 0 m
 .rw[hm,o6]at hr;rcases a5m.1 hr with hr|⟨n,hn,hr⟩
  .cases hr
  .obtain⟨v,r',q,_,_,_,q2,q3,q4⟩:=h.met hg;rw[q4]at hn;exact h.refN hg q2 q3 hn hr
 .rw[hm,o7]at hr;have h0:=jr.1 hm;have key:∀i,i<=c.2.2.length->r∈(List.range i).foldl (λacc (j:Nat)=>OU acc (Lr l k s c (j:Int) x)) []->∃j:Nat,j<c.2.2.length/\∃n∈xN (Lr l k s c (j:Int) x),JQ n=some r:=by
   intro i;induction i with
   |zero=>intro _ hh;cases hh|succ i ih=>
    intro hi hh;rw[W9,Y0]at hh;rcases a5m.1 (show r∈OU _ _ from hh)with g|⟨n,hn,g⟩
    .exact ih l7 g
    .exact⟨i,l7,n,hn,g⟩
  obtain⟨j,hj,n,hn,hr⟩:=key _ (E9 _) hr;have hgj:=Gd.all hg h0 hj;obtain⟨v,r',q,_,_,_,q2,q3,q4⟩:=h.met hgj;rw[q4]at hn;have es:∀i:Int,0<=i->scM l s i=P9 l s:=λi hi=>by unfold scM;rw[Y5 hi];rfl
  have er:∀y,rkM l s (j:Int) y=rkM l s m y:=λy=>by unfold rkM;rw[kH,hm]
  rcases h.refN hgj q2 q3 hn hr with⟨e1,e2,e3⟩|⟨e1,e2,e3⟩|e|e|⟨e1,e2,e3⟩
  .left;refine⟨e1,e2,?_⟩;have l1:=(h.inps hgj).1;have l2:=(h.inps hg).1;rw[es _ l7]at l1;rw[es _ h0]at l2;unfold o9 at e3 ⊢;rw[l2,←l1];exact e3
  .right;left;rw[er,er]at e3;refine⟨e1,?_,e3⟩;rcases hg with⟨rfl,_⟩|⟨i,v,rfl,hi,_⟩
   .exact absurd h0 H9
   .exact Gd.all e2 l7 (X7.1 hi).1
  .exact .inr (.inr (.inl e))
  .exact .inr (.inr (.inr (.inl e)))
  .omega
theorem EvC.kid{n:Nat}(hS:SOk l k s c d n)(hM:c.2.2.length<=10)(hg:Gd l s c d m x)(hn:rkM l s m x<n+1){r:F6}(hr:r∈zB l k s c m x)(hA:AOk l k s c d acc)(hF:MR acc dep)(hne:acc≠[])(h1:1<=dep)(h2:dep+rkM l s m x<=101)(hc:acc.length+wtM m<=1+1000*Ba acc):
  CPost l k s c d acc (MB l k s c n m dep acc r) dep (wtM m)/\(r.1=1->(m,r.2)∈vg (MB l k s c n m dep acc r))/\(r.1=4->∀j:Nat,j<c.2.2.length->((j:Int),r.2)∈vg (MB l k s c n m dep acc r)):=by
 have hw:=a2w m;have push:∀y:Nd,b2K l k s c d y->eK y≠1->eK y≠5->eD y=dep->CPost l k s c d acc (acc++[y]) dep (wtM m):=λy hy k1 k5 hd=>by
  refine⟨h.pushO hM hA hF hy k1 hd l7 hne (λe=>absurd e k5),⟨[y],rfl⟩,?_,a1E acc hd h1,λz hz e=>?_⟩
  .have:Ba (acc++[y])=Ba acc:=by unfold Ba;rw[uK,ZM k1,H7]
   rw[F5,this];simp only[aJ];omega
  .rcases D5.1 hz with hz|hz
   .exact .inl hz
   .rw[D8.1 hz]at e;exact absurd e k1
 unfold MB chT;rcases h.refIn hg hr with⟨e,e1,e2⟩|⟨e,e1,e2⟩|⟨e,e1⟩|⟨e,e1⟩|⟨e,e1,e2,e3⟩
 .rw[show x8 r.1 0=true from O5 e,o7];exact⟨push _ (.inr (.inr (.inl ⟨rfl,⟨x,hg⟩,e1,e2,rfl,rfl⟩))) (show(2:Int)≠1 by decide) (show(2:Int)≠5 by decide) rfl,λg=>by rw[e]at g;exact absurd g H9,λg=>by rw[e]at g;exact absurd g H9⟩
 .rw[show x8 r.1 0=false by rw[e];rfl,show x8 r.1 1=true from O5 e,o6,o7];have:=hS m r.2 dep acc e1 l7 hA hF l7 l7 l7;refine⟨?_,λ_=>this.key,λg=>by rw[e]at g;exact absurd g H9⟩;have hc2:=this.toC h1;exact⟨hc2.ok,hc2.pre,bC hc2.cnt (Nat.add_le_add_right (Nat.add_le_add_left hw.1 _) _),hc2.fits,hc2.clo⟩
 .rw[show x8 r.1 0=false by rw[e];rfl,show x8 r.1 1=false by rw[e];rfl,show x8 r.1 2=true from O5 e,o6,o6,o7];exact⟨push _ (.inr (.inr (.inr (.inl ⟨rfl,⟨x,hg⟩,e1,rfl,rfl⟩)))) (show(4:Int)≠1 by decide) (show(4:Int)≠5 by decide) rfl,λg=>by rw[e]at g;exact absurd g H9,λg=>by rw[e]at g;exact absurd g H9⟩
 .rw[show x8 r.1 0=false by rw[e];rfl,show x8 r.1 1=false by rw[e];rfl,show x8 r.1 2=false by rw[e];rfl,show x8 r.1 3=true from O5 e,o6,o6,o6,o7];exact⟨push _ (.inr (.inr (.inr (.inr ⟨rfl,⟨x,hg⟩,e1,rfl⟩)))) (show(3:Int)≠1 by decide) (show(3:Int)≠5 by decide) rfl,λg=>by rw[e]at g;exact absurd g H9,λg=>by rw[e]at g;exact absurd g H9⟩
 .rw[show x8 r.1 0=false by rw[e];rfl,show x8 r.1 1=false by rw[e];rfl,show x8 r.1 2=false by rw[e];rfl,show x8 r.1 3=false by rw[e];rfl,o6,o6,o6,o6];have hw10:wtM m=10:=by rw[e1];rfl
  have key:∀i,i<=c.2.2.length->CPost l k s c d acc ((List.range i).foldl (λacc (j:Nat)=>EJ l k s c n acc (j:Int) r.2 dep) acc) dep i/\∀j:Nat,j<i->((j:Int),r.2)∈vg ((List.range i).foldl (λacc (j:Nat)=>EJ l k s c n acc (j:Int) r.2 dep) acc):=by
   intro i;induction i with
   |zero=>intro _;exact⟨CPost.refl hA hF,λj hj=>by omega⟩|succ i ih=>
    intro hi;obtain⟨p1,p2⟩:=ih l7;rw[W9,Y0];obtain⟨g1,g2⟩:=e3 i _ (bQ l7);have hp:=hS (i:Int) r.2 dep _ g1 l7 p1.ok p1.fits l7 l7 (by have:=p1.cnt;omega);have hpc:=hp.toC h1;refine⟨p1.trans hpc,λj hj=>?_⟩;by_cases hji:j=i
    .subst hji;exact hp.key
    .exact hpc.keys (p2 j l7)
  obtain⟨p1,p2⟩:=key _ (E9 _);refine⟨⟨p1.ok,p1.pre,bC p1.cnt (Nat.add_le_add_right (Nat.add_le_add_left l7 _) _),p1.fits,p1.clo⟩,λg=>by rw[e]at g;exact absurd g H9,λ_=>p2⟩
theorem EvC.kids{n:Nat}(hS:SOk l k s c d n)(hM:c.2.2.length<=10)(hg:Gd l s c d m x)(hn:rkM l s m x<n+1)(hA:AOk l k s c d acc)(hF:MR acc dep)(h1:0<=dep)(h2:dep+rkM l s m x<=100)(hc:acc.length<=1000*Ba acc)(hs:Qj acc m x=false):
  ∀i,i<=(zB l k s c m x).length->CPost l k s c d (acc++[ndD l k s c m x dep]) (((zB l k s c m x).take i).foldl (MB l k s c n m (dep+1)) (acc++[ndD l k s c m x dep])) (dep+1) (i*wtM m)/\
   (∀r∈(zB l k s c m x).take i,(r.1=1->(m,r.2)∈vg (((zB l k s c m x).take i).foldl (MB l k s c n m (dep+1)) (acc++[ndD l k s c m x dep])))/\(r.1=4->∀j:Nat,j<c.2.2.length->((j:Int),r.2)∈vg (((zB l k s c m x).take i).foldl (MB l k s c n m (dep+1)) (acc++[ndD l k s c m x dep])))):=by
 have hw:=a2w m;have hrl:=h.refLen hg hM;intro i;induction i with
 |zero=>intro _;rw[List.take_zero];exact⟨CPost.refl (h.pushD hM hA hF hg l7 hs) (.inr ⟨ndD l k s c m x dep,x9,l7,.inr ⟨rfl,rfl⟩⟩),λr hr=>by cases hr⟩|succ i ih=>
  intro hi;obtain⟨p1,p2⟩:=ih l7;have hlt:i<(zB l k s c m x).length:=l7;rw[U7 hlt,Y0];have hcnt0:Ba (acc++[ndD l k s c m x dep])=Ba acc+1:=by unfold Ba;rw[uK,Me (y:=ndD l k s c m x dep) rfl];simp
  have hne:((zB l k s c m x).take i).foldl (MB l k s c n m (dep+1)) (acc++[ndD l k s c m x dep])≠[]:=by obtain⟨t,ht⟩:=p1.pre;rw[ht];simp
  have hmul:(i+1)*wtM m<=1000:=bC (G9 _ hi) hrl;have hmul2:(i+1)*wtM m=i*wtM m+wtM m:=Nat.succ_mul _ _;have hpc:=p1.cnt;rw[F5,hcnt0]at hpc;simp only[aJ]at hpc;obtain⟨q1,q2,q3⟩:=h.kid hS hM hg hn (I4 hlt) p1.ok p1.fits hne l7 l7 l7;refine⟨?_,λr hr=>?_⟩
  .rw[hmul2];exact p1.trans q1
  .rcases D5.1 hr with hr|hr
   .exact⟨λe=>q1.keys ((p2 r hr).1 e),λe j hj=>q1.keys ((p2 r hr).2 e j hj)⟩
   .rw[D8.1 hr];exact⟨q2,q3⟩
theorem EvC.sub(hM:c.2.2.length<=10)(n:Nat):SOk l k s c d n:=by
 induction n with
 |zero=>intro m x dep acc hg hn;omega|succ n hS=>
  intro m x dep acc hg hn hA hF h1 h2 hc;unfold EJ;cases hs:Qj acc m x
  .rw[o6];obtain⟨p1,p2⟩:=h.kids hS hM hg hn hA hF h1 h2 hc hs _ (E9 _);rw[aS]at p1 p2;have hcnt0:Ba (acc++[ndD l k s c m x dep])=Ba acc+1:=by unfold Ba;rw[uK,Me (y:=ndD l k s c m x dep) rfl];simp
   have hrl:=h.refLen hg hM;have hpc:=p1.cnt;rw[F5,hcnt0]at hpc;simp only[aJ]at hpc;have hself:(m,x)∈vg (acc++[ndD l k s c m x dep]):=zY.2 ⟨ndD l k s c m x dep,x9,rfl,rfl⟩;refine⟨p1.ok,?_,by show List.length (((zB l k s c m x)).foldl (MB l k s c n m (dep+1)) (acc++[ndD l k s c m x dep]))+_<=_+1000*Ba (((zB l k s c m x)).foldl (MB l k s c n m (dep+1)) (acc++[ndD l k s c m x dep]));omega,λg=>b8v p1.fits g,p1.keys hself,λy hy e=>?_⟩
   .obtain⟨t,ht⟩:=p1.pre;exact⟨ndD l k s c m x dep::t,by show((zB l k s c m x)).foldl (MB l k s c n m (dep+1)) (acc++[ndD l k s c m x dep])=_;rw[ht];simp⟩
   .rcases p1.clo y hy e with g|g
    .rcases D5.1 g with g|g
     .exact .inl g
     .right;rw[D8.1 g];exact p2
    .exact .inr g
  .rw[o7];obtain⟨z,z1,z2,z3⟩:=zY.1 (WV.1 hs);have hne:acc≠[]:=λe=>by rw[e]at z1;cases z1
   have hz:Yf z=(evM l k s c m x).1:=by
    rcases hA.nd z z1 with⟨e,g,_,g2⟩|⟨e,g⟩|⟨e,g⟩|⟨e,g⟩|⟨e,g⟩
    .rw[g2,show eM z=m from congrArg (·.1) z3,show eI z=x from congrArg (·.2) z3]
    all_goals exact absurd (z2.symm.trans e) H9
   have k1:eK (ndR l k s c m x dep)≠1:=show(5:Int)≠1 by decide
   refine⟨h.pushO hM hA hF (.inr (.inl ⟨rfl,hg,rfl,rfl⟩)) k1 rfl l7 hne (λ_=>⟨z,z1,z2,z3,hz⟩),⟨[_],rfl⟩,?_,λg=>a1E acc rfl g,?_,λy hy e=>?_⟩
   .have:Ba (acc++[ndR l k s c m x dep])=Ba acc:=by unfold Ba;rw[uK,ZM k1,H7]
    rw[F5,this];simp only[aJ];omega
   .rw[uK];exact J8 _ (WV.1 hs)
   .rcases D5.1 hy with hy|hy
    .exact .inl hy
    .rw[D8.1 hy]at e;exact absurd e k1
end
end
section
variable {acc:List Nd}
theorem a4P(hl:acc.length<=1000000)(B:J5)(hB:B.1=acc)(m x:Int):oK B m x=some (Qj acc m x,B):=by
 unfold oK fU gY;rw[hB];rw[zW acc (λy=>x8 y.1 1&&x8 y.2.2.1 m&&x8 y.2.2.2.1 x) hl (λi a ha=>?_) (by rw[I9];rfl)]
 .rfl
 .simp only[J3 ha,o7,F8,ha,o8];unfold rF;cases x8 a.1 1
  .rfl
  .cases x8 a.2.2.1 m
   .rfl
   .cases x8 a.2.2.2.1 x<;>rfl
section
variable {l:U9} {k:Int} {s:A7} {c:aF} {d:Int} {X:DB} {b:List DB}
theorem YN(fd:Fnd)(y:Nd)(hl:acc.length<=1000000):iZ (Bd l k c acc fd) y=some (Bd l k c (acc++[y]) fd):=by unfold iZ;rw[show(Bd l k c acc fd).1=acc from rfl,uq Y8];rfl
variable (l k s c d)
def POk(n:Nat)(r20:J5->F6->Int->Option J5):Prop:=∀(m x dep:Int) (acc:List Nd) (fd:Fnd),Gd l s c d m x->rkM l s m x<n->AOk l k s c d acc->MR acc dep->0<=dep->dep+rkM l s m x<=100->acc.length<=1000*Ba acc->Vw l k s c fd->
 ∃fd',r20 (Bd l k c acc fd) (m,x) dep=some (Bd l k c (EJ l k s c n acc m x dep) fd')/\Vw l k s c fd'
variable {l k s c d}
variable (h:EvC l k s c d X b)
include h
theorem EvC.childP{n:Nat}{r20:J5->F6->Int->Option J5}(r36:J5->F6->F6->Int->Option J5)(hP:POk l k s c d n r20)(hM:c.2.2.length<=10){m x:Int}(hg:Gd l s c d m x)(hn:rkM l s m x<n+1){r:F6}(hr:r∈zB l k s c m x){dep:Int}{fd:Fnd}(hA:AOk l k s c d acc)(hF:MR acc dep)(hne:acc≠[])(h1:1<=dep)(h2:dep+rkM l s m x<=101)(hc:acc.length+wtM m<=1+1000*Ba acc)(hf:Vw l k s c fd):
  ∃fd',nC r20 r36 (Bd l k c acc fd) (m,x) r dep=some (Bd l k c (MB l k s c n m dep acc r) fd')/\Vw l k s c fd' :=by
 have hw:=a2w m;have hd:=h.len hA hM;unfold nC MB chT;rcases h.refIn hg hr with⟨e,e1,e2⟩|⟨e,e1,e2⟩|⟨e,e1⟩|⟨e,e1⟩|⟨e,e1,e2,e3⟩
 .rw[show x8 r.1 0=true from O5 e,o7,o7];refine⟨fd,?_,hf⟩;obtain⟨v,hv,_⟩:=lZ e1 e2;have hi:rE (Bd l k c acc fd) m=some (Hz c m,Bd l k c acc fd):=by
   unfold rE Hz;rcases hg with⟨rfl,_⟩|⟨j,u,rfl,hj,_⟩
   .rfl
   .rw[N7 l7,o6,kH,o7];rw[show G6 (Bd l k c acc fd).2.2.2.1.2.2 (j:Int)=some u from ZN hj,ZN hj];rfl
  rw[hi,o8];simp only;rw[hv,o8,YN _ _ l7,o8];rfl
 .rw[show x8 r.1 0=false by rw[e];rfl,show x8 r.1 1=true from O5 e,o6,o7,o6,o7];obtain⟨fd',g1,g2⟩:=hP m r.2 dep acc fd e1 l7 hA hF l7 l7 l7 hf;refine⟨fd',?_,g2⟩;rw[g1];rfl
 .rw[show x8 r.1 0=false by rw[e];rfl,show x8 r.1 1=false by rw[e];rfl,show x8 r.1 2=true from O5 e];simp only[o6,o7];refine⟨fd,?_,hf⟩;rw[YN _ _ l7,o8];rfl
 .rw[show x8 r.1 0=false by rw[e];rfl,show x8 r.1 1=false by rw[e];rfl,show x8 r.1 2=false by rw[e];rfl,show x8 r.1 3=true from O5 e];simp only[o6,o7];refine⟨fd,?_,hf⟩;rw[YN _ _ l7,o8]
 .rw[show x8 r.1 0=false by rw[e];rfl,show x8 r.1 1=false by rw[e];rfl,show x8 r.1 2=false by rw[e];rfl,show x8 r.1 3=false by rw[e];rfl,show x8 r.1 4=true from O5 e];simp only[o6,o7];have hw10:wtM m=10:=by rw[e1];rfl
  have hS:=h.sub hM n;have key:∀i,i<=c.2.2.length->CPost l k s c d acc ((List.range i).foldl (λacc (j:Nat)=>EJ l k s c n acc (j:Int) r.2 dep) acc) dep i:=by
   intro i;induction i with
   |zero=>intro _;exact CPost.refl hA hF|succ i ih=>intro hi;have p1:=ih l7;rw[W9,Y0];obtain⟨g1,g2⟩:=e3 i _ (bQ l7);have hp:=hS (i:Int) r.2 dep _ g1 l7 p1.ok p1.fits l7 l7 (by have:=p1.cnt;omega);exact p1.trans (hp.toC h1)
  have lw:=FI (σ:=J5×Int) (c.2.2) (λ(t:List Nd×Fnd) i=>(Bd l k c t.1 t.2,i)) (λt=>Bd l k c t.1 t.2)
   (λi t=>t.1=(List.range i).foldl (λacc (j:Nat)=>EJ l k s c n acc (j:Int) r.2 dep) acc/\Vw l k s c t.2)
   (f:=λ(x:J5×Int)=>
        l9 (D9 x.2 (o9 (Bd l k c acc fd).2.2.2.1.2.2))
         (o5 (r20 x.1 (x.2,r.2) dep) λ(x_1:J5)=>
          some (Sum.inl (x_1,C9 IntKind.i64 x.2 1)))
         (some (Sum.inr x.1))) (b:=(acc,fd)) l7 ⟨rfl,hf⟩ (λi a t ha ht=>?_) (λt ht=>?_)
  .obtain⟨t,t1,t2,t3⟩:=lw;refine⟨t.2,?_,t3⟩;rw[t1,o8,t2]
  .obtain⟨ht1,ht2⟩:=ht;have hi:=(X7.1 ha).1;have p1:=key i l7;obtain⟨g1,g2⟩:=e3 i _ ha;rw[←ht1]at p1;obtain⟨fd',f1,f2⟩:=hP (i:Int) r.2 dep t.1 t.2 g1 l7 p1.ok p1.fits l7 l7 (by have:=p1.cnt;omega) ht2;refine⟨(EJ l k s c n t.1 (i:Int) r.2 dep,fd'),?_,?_,f2⟩
   .simp only;rw[show D9 (i:Int) (o9 (Bd l k c acc fd).2.2.2.1.2.2)=true from J3 (l:=c.2.2) ha,o7,f1,o8,Y3 l7]
   .show EJ l k s c n t.1 (i:Int) r.2 dep=_;rw[W9,Y0,←ht1];rfl
  .simp only;rw[show D9 (c.2.2.length:Int) (o9 (Bd l k c acc fd).2.2.2.1.2.2)=false from I9 c.2.2];rfl
theorem EvC.subP(hM:c.2.2.length<=10)(n:Nat):∀N,2*n<=N->POk l k s c d n (P6 N).1:=by
 induction n with
 |zero=>intro N _ m x dep acc fd hg hn;omega|succ n ih=>
  intro N hN m x dep acc fd hg hn hA hF h1 h2 hc hf;obtain⟨N',rfl⟩:∃N',N=N' +2:=⟨N -2,l7⟩;have hP:=ih N' l7;have hS:=h.sub hM n;have hd:=h.len hA hM;show ∃fd',qL (P6 (N' +1)).1 (P6 (N' +1)).2 (Bd l k c acc fd) (m,x) dep=_/\_;unfold qL;obtain⟨fd1,a1,a2⟩:=h.eval hg acc hf;rw[a1,o8];simp only;rw[a4P (acc:=acc) l7 _ rfl,o8];simp only;unfold EJ;cases hs:Qj acc m x
  .rw[o6,o6,YN _ _ l7,o8];obtain⟨fd2,b1,b2⟩:=h.refs hg hM (acc++[ndD l k s c m x dep]) a2;rw[show(Bd l k c (acc++[((1,dep,m,x,(evM l k s c m x).2.1,(evM l k s c m x).1):X9)]) fd1)=Bd l k c (acc++[ndD l k s c m x dep]) fd1 from rfl,b1,o8];simp only;have hK:=h.kids hS hM hg hn hA hF h1 h2 hc hs;have hrl:=h.refLen hg hM;have hw:=a2w m;have hcnt0:Ba (acc++[ndD l k s c m x dep])=Ba acc+1:=by unfold Ba;rw[uK,Me (y:=ndD l k s c m x dep) rfl];simp
   have lw:=FI (σ:=J5×Int) (zB l k s c m x) (λ(t:List Nd×Fnd) i=>(Bd l k c t.1 t.2,i)) (λt=>Bd l k c t.1 t.2)
    (λi t=>t.1=((zB l k s c m x).take i).foldl (MB l k s c n m (dep+1)) (acc++[ndD l k s c m x dep])/\Vw l k s c t.2)
    (f:=λ(x_2:J5×Int)=>
        l9 (D9 x_2.2 (o9 (zB l k s c m x)))
         (o5 (G6 (zB l k s c m x) x_2.2) λ(x_3:F6)=>
          o5 (V4 (zB l k s c m x) (V8 x_2.2)) λ(x_4:F6)=>
           o5 ((P6 (N' +1)).2 x_2.1 (m,x) x_4 (C9 IntKind.i64 dep 1)) λ(x:J5)=>
            some (Sum.inl (x,C9 IntKind.i64 x_2.2 1)))
         (some (Sum.inr x_2.1))) (b:=(acc++[ndD l k s c m x dep],fd2)) (bC (bC (Nat.le_mul_of_pos_right _ hw.1) hrl) H9) ⟨rfl,b2⟩ (λi a t ha ht=>?_) (λt ht=>?_)
   .obtain⟨t,t1,t2,t3⟩:=lw;refine⟨t.2,?_,t3⟩;rw[t1,o8,t2,aS];rfl
   .obtain⟨ht1,ht2⟩:=ht;have hi:=(X7.1 ha).1;have hi3:i<1000:=by
     have:=bC (Nat.le_mul_of_pos_right (zB l k s c m x).length hw.1) hrl;omega
    have p1:=(hK i l7).1;rw[←ht1]at p1;have hne:t.1≠[]:=by obtain⟨u,hu⟩:=p1.pre;rw[hu];simp
    have hmul:(i+1)*wtM m<=1000:=bC (G9 _ hi) hrl;have hmul2:(i+1)*wtM m=i*wtM m+wtM m:=Nat.succ_mul _ _;have hpc:=p1.cnt;rw[F5,hcnt0]at hpc;simp only[aJ]at hpc;obtain⟨fd',f1,f2⟩:=h.childP (P6 N').2 hP hM hg hn (kK ha) p1.ok p1.fits hne l7 l7 l7 ht2;refine⟨(MB l k s c n m (dep+1) t.1 a,fd'),?_,?_,f2⟩
    .simp only;rw[J3 ha,o7,F8,ha,o8];rw[show V4 (zB l k s c m x) (V8 (i:Int))=some a by unfold V4 V8;simpa using ha,o8];rw[show C9 IntKind.i64 dep 1=dep+1 from ai U4];rw[show(P6 (N' +1)).2 (Bd l k c t.1 t.2) (m,x) a (dep+1)=nC (P6 N').1 (P6 N').2 (Bd l k c t.1 t.2) (m,x) a (dep+1)from rfl];rw[f1,o8,Y3 l7]
    .show MB l k s c n m (dep+1) t.1 a=_;rw[List.take_succ,ha,Y0,←ht1];rfl
   .simp only;rw[I9];rfl
  .rw[o7,o7,YN _ _ l7,o8];exact⟨fd1,rfl,a2⟩
end
end
section
theorem Yn(l:U9)(k:Int)(s:A7)(c:aF)(d:Int):AOk l k s c d []:=⟨(λy hy=>by cases hy),List.Pairwise.nil,rfl,(λy hy=>by cases hy)⟩
theorem a7g{l:U9}{k:Int}{c:aF}{d:Int}(hL:SmL l)(hC:SmC c)(hT:∀t∈l.2.1,ru t)(h:(evI l k c d).2.2.1=0):∃s X b,EvC l k s c d X b:=by
 unfold evI at h;by_cases ha:(Cj l k c true d).1=0
 .rw[if_pos ha]at h;obtain⟨hv,s,hs⟩:=QA ha;rw[hs]at h;simp only at h;cases he:Ru l s c (wS s d) (wM s (P9 l s) d)with
  |inr e=>have h:(c6x d (Ru l s c (wS s d) (wM s (P9 l s) d))).2.2.1=0:=h;rw[he]at h;exact absurd h (a4K he)|inl x=>exact⟨s,x.1,x.2,hL,hC,hT,hs,ha,he⟩
 .rw[if_neg ha]at h;exact absurd h ha
def exS(l:U9)(k:Int)(c:aF)(d:Int):List Nd×E4:=
 if(evI l k c d).2.2.1=0 then(EJ l k ((G6 l.2.2 k).getD yJ) c 40 [] (-1) d 0,0,0,0,0)else([],(evI l k c d).2.2)
section
variable {l:U9} {k:Int} {s:A7} {c:aF} {d:Int} {X:DB} {b:List DB} (h:EvC l k s c d X b)
include h
theorem EvC.root:Gd l s c d (-1) d/\rkM l s (-1) d<40:=by refine⟨.inl ⟨rfl,.inl rfl⟩,?_⟩;have:=FY h.sm d;show 15+_<40;omega
theorem EvC.nodes(hM:c.2.2.length<=10):SPost l k s c d [] (EJ l k s c 40 [] (-1) d 0) (-1) d 0:=
 h.sub hM 40 (-1) d 0 [] h.root.1 h.root.2 (Yn l k s c d) (.inl ⟨rfl,rfl⟩) l7 (by have:=h.root.2;omega) x9
theorem EvC.few(hM:c.2.2.length<=10):(EJ l k s c 40 [] (-1) d 0).length<=160000:=by have hp:=h.nodes hM;have h1:=hp.cnt;have h2:=h.len hp.ok hM;have h3:Ba ([]:List Nd)=0:=rfl;rw[h3]at h1;simp only[dB]at h1;omega
theorem EvC.exS:exS l k c d=(EJ l k s c 40 [] (-1) d 0,0,0,0,0):=by
 obtain⟨v,r,_,_,h3,_⟩:=h.at (x:=d) (.inl rfl);have he:(evI l k c d).2.2.1=0:=by unfold evI;rw[if_pos h.ha,h.hs];simp only;rw[h3]
 unfold Go.GP.exS;rw[if_pos he,h.hs];rfl
theorem EvC.hd(hM:c.2.2.length<=10):∃t,EJ l k s c 40 [] (-1) d 0=ndD l k s c (-1) d 0::t:=by have hK:=(h.kids (n:=39) (h.sub hM 39) hM h.root.1 (by have:=h.root.2;omega) (Yn l k s c d) (.inl ⟨rfl,rfl⟩) l7 (by have:=h.root.2;omega) x9 rfl _ (E9 _)).1;rw[aS]at hK;obtain⟨t,ht⟩:=hK.pre;exact⟨t,ht⟩
end
theorem a7k{l:U9}{k:Int}{c:aF}{d:Int}(hL:SmL l)(hC:SmC c)(hT:∀t∈l.2.1,ru t)(hM:c.2.2.length<=10):BG l k c d=some (exS l k c d):=by
 unfold BG;rw[a2O hL hC hT,o8];by_cases h0:(evI l k c d).2.2.1=0
 .obtain⟨s,X,b,h⟩:=a7g hL hC hT h0;rw[O5 h0,E5,o6];have hf:2*40<=iL:=by unfold iL;omega
  obtain⟨fd',g1,g2⟩:=h.subP hM 40 iL hf (-1) d 0 [] [] h.root.1 h.root.2 (Yn l k s c d) (.inl ⟨rfl,rfl⟩) l7 (by have:=h.root.2;omega) x9 (c1o l k s c);rw[show wL ([],l,k,c,[],0,0,0,0) (-1,d) 0=(P6 iL).1 (Bd l k c [] []) (-1,d) 0 from rfl,g1,o8,h.exS];rfl
 .unfold exS;rw[O8 h0,bg,o7,if_neg h0]
section
variable {l:U9} {k:Int} {s:A7} {c:aF} {d:Int} {X:DB} {b:List DB} (h:EvC l k s c d X b)
include h
end
end
section
theorem b9J{c:aF}(h:smC c=true):c.2.2.length<=10:=by
 unfold smC at h;cases h1:D9 14 (o9 c.2.1)<;>rw[h1]at h
 case true=>cases h
 cases h2:D9 10 (o9 c.2.2)<;>rw[h2]at h
 case true=>cases h
 rw[iM]at h2;unfold o9 at h2;omega
theorem c0i{α:Type}{l:List α}{i:Nat}{a:α}(h:l[i]? =some a):V4 l (V8 (i:Int))=some a:=by unfold V4 V8;simpa using h
def csM(s:A7)(k:Int)(c:aF)(m:Int):aF×Int:=l9 (L6 0 m) ((c.1,Hz c m,[]),s.2.1) (c,k)
theorem c1r(s:A7)(k:Int)(c:aF)(m:Int):(csM s k c m).1.2.1=Hz c m:=by unfold csM Hz;cases L6 0 m<;>rfl
section
variable {l:U9} {k:Int} {s:A7} {c:aF} {d:Int} {X:DB} {b:List DB} (h:EvC l k s c d X b)
include h
theorem EvC.csOk{m x:Int}(hg:Gd l s c d m x):L6 (o9 c.2.2) m=false/\l9 (L6 0 m) (o5 (G6 c.2.2 m) λ(x:List V6)=>o5 (G6 l.2.2 k) λ(x_9:A7)=>some (((c.1,x,[]):aF),x_9.2.1)) (some (c,k))=some (csM s k c m)/\SmC (csM s k c m).1:=by
 rcases hg with⟨rfl,_⟩|⟨j,u,rfl,hj,_⟩
 .exact⟨Y9 (by unfold o9;omega),rfl,h.hC⟩
 .have hi:Hz c (j:Int)=u:=by unfold Hz;rw[kH,o7,ZN hj];rfl
  have hlt:=(X7.1 hj).1;refine⟨Y9 (by unfold o9;omega),?_,?_⟩
  .unfold csM;rw[kH,o7,o7,ZN hj,o8,h.hs,hi];rfl
  .unfold csM;rw[kH,o7,hi];exact⟨h.hC.nv u (kK hj),x9,x9⟩
end
end
section
def kkF(k:Int):Int:=l9 (x8 k 0) 2 (l9 (x8 k 1) 1 (l9 (x8 k 2) 4 (l9 (x8 k 3) 3 100)))
def ivF(k:Int):Int:=l9 (x8 k 2) 0 (l9 (x8 k 1) 1 (l9 (x8 k 4) 2 (l9 (x8 k 3) 3 4)))
def JM(n:F6):F6:=match JQ n with|none=>(0,0)|some r=>(kkF r.1,r.2)
theorem c1u(k:Int):kkF k≠0:=by unfold kkF;cases x8 k 0<;>cases x8 k 1<;>cases x8 k 2<;>cases x8 k 3<;>decide
theorem QY{n r:F6}(h:JQ n=some r):ivF (kkF r.1)=r.1/\kkF r.1≠0:=by rcases a5R h with⟨_,rfl⟩|⟨_,rfl⟩|⟨_,rfl⟩|⟨_,rfl⟩|⟨_,rfl⟩|⟨_,rfl⟩<;>exact⟨rfl,c1u _⟩
theorem a5a{m n r:F6}(h:JQ n=some r):JM m=JM n↔JQ m=some r:=by
 unfold JM;rw[h];cases hm:JQ m with
 |none=>
  constructor
  .intro e;exact absurd (congrArg (·.1) e).symm (QY h).2
  .intro e;cases e
 |some q=>
  constructor
  .intro e;have e1:kkF q.1=kkF r.1:=congrArg (·.1) e;have e2:q.2=r.2:=congrArg (·.2) e;have k1:=(QY hm).1;have k2:=(QY h).1;rw[e1,k2]at k1;exact congrArg some (fC k1.symm e2)
  .intro e;cases e;rfl
theorem a3K(n:F6):FU n=some (JM n):=by
 unfold FU JM JQ;cases x8 n.1 7
 case true=>rfl
 cases x8 n.1 8
 case true=>rfl
 cases x8 n.1 9
 case true=>rfl
 cases x8 n.1 33
 case true=>rfl
 cases x8 n.1 34
 case true=>rfl
 simp only[o6];rw[a7v];cases x8 n.1 36
 case true=>rfl
 cases x8 n.1 37
 case true=>rfl
 cases x8 n.1 38
 case true=>rfl
 cases x8 n.1 39
 case true=>rfl
 rfl
variable {n:F6}
theorem b2g{L:List F6}(hl:L.length<=1000000){i:Nat}(hn:L[i]? =some n):GU L (i:Int)=some (match JQ n with|none=>false|some r=> !(((L.take i).foldl adR []).any λx=>kq r x)):=by
 unfold GU;have hi:=(X7.1 hn).1;rw[F8,hn,o8,a3K,o8];have hlen:(L.take i).length=i:=by rw[bD];omega
 refine X8 (xw (L.take i) (λm=>kq (JM m) (JM n)) false PUnit.unit l7 (λj a ha=>?_) ?_) ?_
 .have hj:=(X7.1 ha).1;have hj2:j<i:=by rw[hlen]at hj;exact hj
  have ha2:L[j]? =some a:=by rw[Z7]at ha;rw[if_pos hj2]at ha;exact ha
  rw[U6 (show(j:Int)<(i:Int) by omega),o7,F8,ha2,o8,a3K,o8];unfold kq;cases x8 (JM a).1 (JM n).1
  .rfl
  .cases x8 (JM a).2 (JM n).2<;>rfl
 .rw[hlen,N7 (aX _)];rfl
 .cases hr:JQ n with
  |none=>
   have hk:(JM n).1=0:=by unfold JM;rw[hr]
   cases (L.take i).any λm=>kq (JM m) (JM n)
   .show some (F7 (x8 (JM n).1 0))=_;rw[hk];rfl
   .rfl
  |some r=>
   have hany:((L.take i).any λm=>kq (JM m) (JM n))=(((L.take i).foldl adR []).any λx=>kq r x):=by
    rw[fO,aP,aP];constructor
    .rintro⟨m,hm,hk⟩;exact⟨r,(Yv _ _).2 (.inr ⟨m,hm,(a5a hr).1 ((SS _ _).1 hk)⟩),(SS _ _).2 rfl⟩
    .rintro⟨x,hx,hk⟩;have:=(SS _ _).1 hk;subst this;rcases(Yv _ _).1 hx with hx|⟨m,hm,hx⟩
     .cases hx
     .exact⟨m,hm,(SS _ _).2 ((a5a hr).2 hx)⟩
   rw[hany];have hk:x8 (JM n).1 0=false:=O8 (by unfold JM;rw[hr];exact(QY hr).2);show _=some (!(((L.take i).foldl adR []).any λx=>kq r x));cases (((L.take i).foldl adR []).any λx=>kq r x)
   .show some (F7 (x8 (JM n).1 0))=_;rw[hk];rfl
   .rfl
theorem b2Q:∀(L l:List F6),∃t,L.foldl adR l=l++t
 |[],l=>⟨[],x9⟩|n::L,l=>by
  obtain⟨t,ht⟩:=b2Q L (adR l n);have:∃u,adR l n=l++u:=by
   unfold adR;cases JQ n with
   |none=>exact⟨[],x9⟩|some r=>
    simp only;cases l.any λx=>kq r x
    .exact⟨[r],rfl⟩
    .exact⟨[],x9⟩
  obtain⟨u,hu⟩:=this;refine⟨u++t,?_⟩;rw[O9,ht,hu,G5]
section
variable (l:U9) (k:Int) (s:A7) (c:aF)
def a8o(m x:Int):List F6:=l9 (L6 0 m) ((List.range c.2.2.length).flatMap λ(j:Nat)=>xN (Lr l k s c (j:Int) x)) (xN (Lr l k s c m x))
def Rb(acc:List Nd):H5:=(l,k,c,acc)
end
theorem b5z(l:U9)(k:Int)(s:A7)(c:aF)(m x:Int):zB l k s c m x=(a8o l k s c m x).foldl adR []:=by
 unfold zB a8o;cases L6 0 m
 .rfl
 .simp only[o7];have key:∀(J:d5S) (a:List F6),J.foldl (λacc (j:Nat)=>OU acc (Lr l k s c (j:Int) x)) a=(J.flatMap λ(j:Nat)=>xN (Lr l k s c (j:Int) x)).foldl adR a:=by
   intro J;induction J with
   |nil=>intro a;rfl|cons j J ih=>intro a;rw[O9,ih,List.flatMap_cons,Y0];rfl
  exact key _ _
variable {m:Int}{x:Int}
section
variable {l:U9} {k:Int} {s:A7} {c:aF} {d:Int} {X:DB} {b:List DB}
theorem b5O{acc:List Nd}(hl:acc.length<=1000000)(m x:Int):xI (Rb l k c acc) m x=some (Qj acc m x,Rb l k c acc):=by
 unfold xI;refine X8 (xw acc (λy=>x8 y.1 1&&x8 y.2.2.1 m&&x8 y.2.2.2.1 x) (true,Rb l k c acc) PUnit.unit hl (λi a ha=>?_) (by show l9 (D9 (acc.length:Int) (o9 acc)) _ _=_;rw[I9];rfl)) ?_
 .simp only[show(Rb l k c acc).2.2.2=acc from rfl,J3 ha,o7,F8,ha,o8,c0i ha];cases x8 a.1 1
  .rfl
  .cases x8 a.2.2.1 m
   .rfl
   .cases x8 a.2.2.2.1 x<;>rfl
 .unfold Qj;cases acc.any λy=>x8 y.1 1&&x8 y.2.2.1 m&&x8 y.2.2.2.1 x<;>rfl
variable (h:EvC l k s c d X b)
include h
theorem EvC.rwhere(hg:Gd l s c d m x)(acc:List Nd):oq (Rb l k c acc) m=some ((csM s k c m).2,(csM s k c m).1,Rb l k c acc):=by
 unfold oq;rcases hg with⟨rfl,_⟩|⟨j,u,rfl,hj,_⟩
 .rfl
 .have hi:Hz c (j:Int)=u:=by unfold Hz;rw[kH,o7,ZN hj];rfl
  rw[N7 l7,o6];rw[show G6 (Rb l k c acc).1.2.2 (Rb l k c acc).2.1=some s from h.hs,o8,show G6 (Rb l k c acc).2.2.1.2.2 (j:Int)=some u from ZN hj,o8];unfold csM;rw[kH,o7,hi];rfl
theorem EvC.rev(hg:Gd l s c d m x):gu l (csM s k c m).2 (csM s k c m).1 x=some (evM l k s c m x):=by
 obtain⟨q1,q2,q3⟩:=h.csOk hg;rcases hg with⟨rfl,hx⟩|⟨j,u,rfl,hj,hx⟩
 .have hb:=hx.bd h.dd.1 h.dd.2;have e:evM l k s c (-1) x=VQ l s c x:=by
   unfold evM evI;rw[show L6 0 (-1:Int)=false from rfl,o6,if_pos (h.args hx),h.hs]
  rw[e];exact MK h.hL h.hC h.hT h.hv h.hs hb.1 hb.2
 .have hb:=hx.bd h.mb;have hi:Hz c (j:Int)=u:=by unfold Hz;rw[kH,o7,ZN hj];rfl
  have e1:=(h.scm hj).1;have e:evM l k s c (j:Int) x=VQ l (P9 l s) (c.1,u,[]) x:=by unfold evM evI;rw[kH,o7,hi,if_pos (h.argm hj hb.1 hb.2),e1]
  have ec:csM s k c (j:Int)=((c.1,u,[]),s.2.1):=by unfold csM;rw[kH,o7,hi]
  rw[ec]at q3 ⊢;rw[e];exact MK h.hL q3 h.hT h.hv e1 hb.1 hb.2
theorem EvC.selLen(hg:Gd l s c d m x)(hM:c.2.2.length<=10):(a8o l k s c m x).length<=1000:=by
 unfold a8o;cases hm:L6 0 m
 .have hl:=h.ruleLen hg;simp only[o6];unfold xN;rw[F5];omega
 .simp only[o7];have key:∀i,i<=c.2.2.length->((List.range i).flatMap λ(j:Nat)=>xN (Lr l k s c (j:Int) x)).length<=100*i:=by
   intro i;induction i with
   |zero=>intro _;simp|succ i ih=>
    intro hi;have ih:=ih l7;have hl:=h.ruleLen (Gd.all hg (jr.1 hm) (i:=i) l7);rw[W9,List.flatMap_append,F5];have:(([i]:d5S).flatMap λ(j:Nat)=>xN (Lr l k s c (j:Int) x)).length<=100:=by rw[List.flatMap_cons,List.flatMap_nil,H7];unfold xN;rw[F5];omega
    omega
  have:=key c.2.2.length (E9 _);omega
theorem EvC.rsel(hg:Gd l s c d m x)(hM:c.2.2.length<=10)(acc:List Nd):rU (Rb l k c acc) m x (evM l k s c m x).2.1=some (a8o l k s c m x,Rb l k c acc):=by
 unfold rU a8o;rcases hg with⟨rfl,hx⟩|⟨j,u,rfl,hj,hx⟩
 .have hg:Gd l s c d (-1) x:=.inl ⟨rfl,hx⟩;obtain⟨v,r,q,e1,q0,q1,q2,q3,q4⟩:=h.met hg;have hlen:=h.ruleLen hg;rw[show D9 (-1:Int) 0=true from rfl,o7,show L6 0 (-1:Int)=false from rfl,o6,q4,e1];rw[q4]at hlen;have es:scM l s (-1)=s:=rfl;rw[es]at q1;rw[show G6 (Rb l k c acc).1.2.2 (Rb l k c acc).2.1=some s from h.hs,o8];simp only;rw[q1,o8,uq Y8,o8,o8,q1,o8,uq Y8,o8];rfl
 .have hg:Gd l s c d (j:Int) x:=.inr ⟨j,u,rfl,hj,hx⟩;rw[N7 l7,o6,kH,o7];have lw:=FI (σ:=H5×List F6×Int) (c.2.2) (λ(t:List F6) i=>(Rb l k c acc,t,i)) (λt=>(Rb l k c acc,t))
   (λi t=>t=(List.range i).flatMap (λ(j:Nat)=>xN (Lr l k s c (j:Int) x))/\t.length<=100*i)
   (f:=λ(x_1:H5×List F6×Int)=>
    l9 (D9 x_1.2.2 (o9 x_1.1.2.2.1.2.2))
     (o5 (oq x_1.1 x_1.2.2) λ(x_2:Int×aF×H5)=>
      o5 (gu x_2.2.2.1 x_2.1 x_2.2.1 x) λ(x_3:V6×Int×I7)=>
       o5 (G6 x_2.2.2.1.2.2 x_2.1) λ(x_4:A7)=>
        o5 (G6 x_4.2.2.2.2 x_3.2.1) λ(x_5:aj)=>
         o5 (bV x_1.2.1 x_5.2.2.2.2.2.1) λ(x_6:List F6)=>
          o5 (G6 x_2.2.2.1.2.2 x_2.1) λ(x_7:A7)=>
           o5 (G6 x_7.2.2.2.2 x_3.2.1) λ(x_8:aj)=>
            o5 (bV x_6 x_8.2.2.2.2.2.2.1) λ(x_9:List F6)=>
             some (Sum.inl (x_2.2.2,x_9,C9 IntKind.i64 x_1.2.2 1)))
     (some (Sum.inr (x_1.1,x_1.2.1)))) (b:=[]) l7 ⟨rfl,x9⟩ (λi a t ha ht=>?_) (λt ht=>?_)
  .obtain⟨t,t1,t2,t3⟩:=lw;rw[t1,o8,t2]
  .obtain⟨ht1,ht2⟩:=ht;have hi:=(X7.1 ha).1;have hgi:=Gd.all hg l7 hi;obtain⟨v,r,q,p1,p0,p2,p3,p4,p5⟩:=h.met hgi;have hlen:=h.ruleLen hgi;rw[p5]at hlen;refine⟨t++xN q,?_,?_,?_⟩
   .simp only;rw[show D9 (i:Int) (o9 (Rb l k c acc).2.2.1.2.2)=true from J3 (l:=c.2.2) ha,o7,h.rwhere hgi,o8];simp only;rw[show gu (Rb l k c acc).1 (csM s k c (i:Int)).2 (csM s k c (i:Int)).1 x=some (evM l k s c (i:Int) x)from h.rev hgi,o8,p1];simp only;have hsc:G6 (Rb l k c acc).1.2.2 (csM s k c (i:Int)).2=some (scM l s (i:Int)):=by
     have e1:=(h.scm ha).1;unfold csM scM;rw[kH,o7,o7];exact e1
    rw[hsc,o8,p2,o8,uq l7,o8,o8,p2,o8,uq (by rw[F5];omega),o8,Y3 l7];unfold xN;rw[G5]
   .rw[W9,List.flatMap_append,←ht1,←p5];simp
   .unfold xN;rw[F5,F5];omega
  .simp only;rw[show D9 (c.2.2.length:Int) (o9 (Rb l k c acc).2.2.1.2.2)=false from I9 c.2.2];rfl
end
end
section
section
variable {l:U9} {k:Int} {s:A7} {c:aF} {d:Int} {X:DB} {b:List DB}
theorem a6f{acc:List Nd}(y:Nd)(hl:acc.length<=1000000):bV (Rb l k c acc).2.2.2 [y]=some (acc++[y]):=uq (by show acc.length+1<=_;omega)
variable (l k s c d)
def c5W(n:Nat)(r41:H5->Int->Int->Int->Option H5):Prop:=∀(m x dep:Int) (acc:List Nd),Gd l s c d m x->rkM l s m x<n->AOk l k s c d acc->MR acc dep->0<=dep->dep+rkM l s m x<=100->acc.length<=1000*Ba acc->
 r41 (Rb l k c acc) m x dep=some (Rb l k c (EJ l k s c n acc m x dep))
variable {l k s c d}
variable (h:EvC l k s c d X b)
include h
theorem EvC.rref{n:Nat}{r41:H5->Int->Int->Int->Option H5}(r71:H5->F6->Int->Int->aF->Option H5)(hP:c5W l k s c d n r41)(hM:c.2.2.length<=10){m x:Int}(hg:Gd l s c d m x)(hn:rkM l s m x<n+1){nd r:F6}(hnd:JQ nd=some r)(hr:r∈zB l k s c m x){dep:Int}{acc:List Nd}(hA:AOk l k s c d acc)(hF:MR acc dep)(hne:acc≠[])(h1:1<=dep)(h2:dep+rkM l s m x<=101)(hc:acc.length+wtM m<=1+1000*Ba acc):
  lW r41 r71 (Rb l k c acc) nd m dep (csM s k c m).1=some (Rb l k c (MB l k s c n m dep acc r)):=by
 have hw:=a2w m;have hd:=h.len hA hM;have hkey:FU nd=some (kkF r.1,r.2):=by rw[a3K];unfold JM;rw[hnd]
 unfold lW MB chT;rw[hkey,o8];simp only;rcases h.refIn hg hr with⟨e,e1,e2⟩|⟨e,e1,e2⟩|⟨e,e1⟩|⟨e,e1⟩|⟨e,e1,e2,e3⟩
 .rw[show kkF r.1=2 by rw[e];rfl,show x8 r.1 0=true from O5 e,o7,show x8 (2:Int) 1=false from rfl,show x8 (2:Int) 100=false from rfl,show x8 (2:Int) 2=true from rfl,o6,o6,o7,c1r];obtain⟨v,hv,_⟩:=lZ e1 e2;rw[hv,o8,a6f _ l7,o8];rfl
 .rw[show kkF r.1=1 by rw[e];rfl,show x8 r.1 0=false by rw[e];rfl,show x8 r.1 1=true from O5 e,o6,o7,show x8 (1:Int) 1=true from rfl,o7];rw[hP m r.2 dep acc e1 l7 hA hF l7 l7 l7,o8]
 .rw[show kkF r.1=4 by rw[e];rfl,show x8 r.1 0=false by rw[e];rfl,show x8 r.1 1=false by rw[e];rfl,show x8 r.1 2=true from O5 e];rw[show x8 (4:Int) 1=false from rfl,show x8 (4:Int) 100=false from rfl,show x8 (4:Int) 2=false from rfl,show x8 (4:Int) 4=true from rfl];simp only[o6,o7];rw[a6f _ l7,o8,show(csM s k c m).1.1=c.1 by unfold csM;cases L6 0 m<;>rfl];rfl
 .rw[show kkF r.1=3 by rw[e];rfl,show x8 r.1 0=false by rw[e];rfl,show x8 r.1 1=false by rw[e];rfl,show x8 r.1 2=false by rw[e];rfl,show x8 r.1 3=true from O5 e];rw[show x8 (3:Int) 1=false from rfl,show x8 (3:Int) 100=false from rfl,show x8 (3:Int) 2=false from rfl,show x8 (3:Int) 4=false from rfl];simp only[o6,o7];rw[a6f _ l7,o8];rfl
 .rw[show kkF r.1=100 by rw[e];rfl,show x8 r.1 0=false by rw[e];rfl,show x8 r.1 1=false by rw[e];rfl,show x8 r.1 2=false by rw[e];rfl,show x8 r.1 3=false by rw[e];rfl];rw[show x8 (100:Int) 1=false from rfl,show x8 (100:Int) 100=true from rfl];simp only[o6,o7];have hw10:wtM m=10:=by rw[e1];rfl
  have hS:=h.sub hM n;have key:∀i,i<=c.2.2.length->CPost l k s c d acc ((List.range i).foldl (λacc (j:Nat)=>EJ l k s c n acc (j:Int) r.2 dep) acc) dep i:=by
   intro i;induction i with
   |zero=>intro _;exact CPost.refl hA hF|succ i ih=>intro hi;have p1:=ih l7;rw[W9,Y0];obtain⟨g1,g2⟩:=e3 i _ (bQ l7);have hp:=hS (i:Int) r.2 dep _ g1 l7 p1.ok p1.fits l7 l7 (by have:=p1.cnt;omega);exact p1.trans (hp.toC h1)
  have lw:=FI (σ:=H5×Int) (c.2.2) (λ(t:List Nd) i=>(Rb l k c t,i)) (λt=>Rb l k c t)
   (λi t=>t=(List.range i).foldl (λacc (j:Nat)=>EJ l k s c n acc (j:Int) r.2 dep) acc)
   (f:=λ(x_1:H5×Int)=>
      l9 (D9 x_1.2 (o9 x_1.1.2.2.1.2.2))
       (o5 (r41 x_1.1 x_1.2 r.2 dep) λ(x:H5)=>
        some (Sum.inl (x,C9 IntKind.i64 x_1.2 1)))
       (some (Sum.inr x_1.1))) (b:=acc) l7 rfl (λi a t ha ht=>?_) (λt ht=>?_)
  .obtain⟨t,t1,t2⟩:=lw;rw[t1,o8,t2]
  .have hi:=(X7.1 ha).1;have p1:=key i l7;obtain⟨g1,g2⟩:=e3 i _ ha;rw[←ht]at p1;refine⟨EJ l k s c n t (i:Int) r.2 dep,?_,?_⟩
   .simp only;rw[show D9 (i:Int) (o9 (Rb l k c t).2.2.1.2.2)=true from J3 (l:=c.2.2) ha,o7];rw[hP (i:Int) r.2 dep t g1 l7 p1.ok p1.fits l7 l7 (by have:=p1.cnt;omega),o8,Y3 l7]
   .rw[W9,Y0,←ht];rfl
  .simp only;rw[show D9 (c.2.2.length:Int) (o9 (Rb l k c t).2.2.1.2.2)=false from I9 c.2.2];rfl
theorem EvC.rsubP(hM:c.2.2.length<=10)(n:Nat):∀N,2*n<=N->c5W l k s c d n (Y1 N).1:=by
 induction n with
 |zero=>intro N _ m x dep acc hg hn;omega|succ n ih=>
  intro N hN m x dep acc hg hn hA hF h1 h2 hc;obtain⟨N',rfl⟩:∃N',N=N' +2:=⟨N -2,l7⟩;have hP:=ih N' l7;have hS:=h.sub hM n;have hd:=h.len hA hM;show xH (Y1 (N' +1)).1 (Y1 (N' +1)).2 (Rb l k c acc) m x dep=_;unfold xH;rw[h.rwhere hg,o8];simp only;rw[show gu (Rb l k c acc).1 (csM s k c m).2 (csM s k c m).1 x=some (evM l k s c m x)from h.rev hg,o8,b5O l7,o8];simp only;unfold EJ;cases hs:Qj acc m x
  .rw[o6,o6,a6f _ l7,o8];rw[show(((Rb l k c acc).1,(Rb l k c acc).2.1,(Rb l k c acc).2.2.1,acc++[((1,dep,m,x,(evM l k s c m x).2.1,(evM l k s c m x).1):X9)]):H5)=Rb l k c (acc++[ndD l k s c m x dep])from rfl,h.rsel hg hM,o8];simp only;have hK:=h.kids hS hM hg hn hA hF h1 h2 hc hs;have hrl:=h.refLen hg hM;have hw:=a2w m;have hsl:=h.selLen hg hM;have hcnt0:Ba (acc++[ndD l k s c m x dep])=Ba acc+1:=by unfold Ba;rw[uK,Me (y:=ndD l k s c m x dep) rfl];simp
   obtain⟨L,hL⟩:∃L,L=a8o l k s c m x:=⟨_,rfl⟩;have hLr:zB l k s c m x=L.foldl adR []:=by rw[hL];exact b5z l k s c m x
   rw[←hL]at hsl ⊢;have lw:=FI (σ:=H5×Int) L (λ(t:List Nd) i=>(Rb l k c t,i)) (λt=>Rb l k c t)
    (λi t=>t=((L.take i).foldl adR []).foldl (MB l k s c n m (dep+1)) (acc++[ndD l k s c m x dep]))
    (f:=λ(x_5:H5×Int)=>
         l9 (D9 x_5.2 (o9 L))
          (o5 (GU L x_5.2) λ(x_6:Bool)=>
           l9 x_6
            (o5 (G6 L x_5.2) λ(x_7:F6)=>
             o5 (V4 L (V8 x_5.2)) λ(x_8:F6)=>
              o5 ((Y1 (N' +1)).2 x_5.1 x_8 m (C9 IntKind.i64 dep 1) (csM s k c m).1) λ(x:H5)=>
               some (Sum.inl (x,C9 IntKind.i64 x_5.2 1)))
            (some (Sum.inl (x_5.1,C9 IntKind.i64 x_5.2 1))))
          (some (Sum.inr x_5.1))) (b:=acc++[ndD l k s c m x dep]) l7 rfl (λi a t ha ht=>?_) (λt ht=>?_)
   .obtain⟨t,t1,t2⟩:=lw;rw[t1,o8,t2,aS,←hLr];rfl
   .have hi:=(X7.1 ha).1;have htk:L.take (i+1)=L.take i++[a]:=by rw[List.take_succ,ha];rfl
    simp only;rw[J3 ha,o7,b2g l7 ha,o8];cases hra:JQ a with
    |none=>simp only[o6];refine⟨t,by rw[Y3 l7],?_⟩;rw[htk,Y0,ht];unfold adR;rw[O9,hra];rfl|some r=>
     simp only;cases hany:((L.take i).foldl adR []).any λx=>kq r x
     .simp only[Bool.not_false,o7];have hnew:(L.take (i+1)).foldl adR []=(L.take i).foldl adR []++[r]:=by
       rw[htk,Y0,O9,List.foldl_nil];show adR ((L.take i).foldl adR []) a=_;generalize (L.take i).foldl adR []=P at hany;unfold adR;rw[hra];simp only;rw[hany];rfl
      obtain⟨u,hu⟩:=b2Q (L.drop (i+1)) ((L.take (i+1)).foldl adR []);rw[←Y0,gp,←hLr,hnew]at hu;have hrm:r∈zB l k s c m x:=by rw[hu];simp
      obtain⟨P,hPd⟩:∃P,P=(L.take i).foldl adR []:=⟨_,rfl⟩;rw[←hPd]at hu hnew ht;have htake:(zB l k s c m x).take P.length=P:=by rw[hu,G5,List.take_left]
      have hlt:P.length<(zB l k s c m x).length:=by rw[hu];simp
      have p1:=(hK P.length l7).1;rw[htake,←ht]at p1;have hne:t≠[]:=by obtain⟨u,hu⟩:=p1.pre;rw[hu];simp
      have hmul:(P.length+1)*wtM m<=1000:=bC (G9 _ hlt) hrl;have hmul2:(P.length+1)*wtM m=P.length*wtM m+wtM m:=Nat.succ_mul _ _;have hpc:=p1.cnt;rw[F5,hcnt0]at hpc;simp only[aJ]at hpc;refine⟨MB l k s c n m (dep+1) t r,?_,?_⟩
      .rw[F8,ha,o8,c0i ha,o8];rw[show C9 IntKind.i64 dep 1=dep+1 from ai U4];rw[show(Y1 (N' +1)).2 (Rb l k c t) a m (dep+1) (csM s k c m).1=lW (Y1 N').1 (Y1 N').2 (Rb l k c t) a m (dep+1) (csM s k c m).1 from rfl];rw[h.rref (Y1 N').2 hP hM hg hn hra hrm p1.ok p1.fits hne l7 l7 l7,o8,Y3 l7]
      .rw[hnew,Y0,←ht];rfl
     .simp only[jf,o6];refine⟨t,by rw[Y3 l7],?_⟩;rw[htk,Y0,ht,O9,List.foldl_nil];generalize (L.take i).foldl adR []=P at hany;unfold adR;rw[hra];simp only;rw[hany];rfl
   .simp only;rw[I9];rfl
  .rw[o7,o7,a6f _ l7,o8];rfl
end
variable {l:U9}{k:Int}{c:aF}{d:Int}
theorem a5L(hL:SmL l)(hC:SmC c)(hT:∀t∈l.2.1,ru t)(hM:c.2.2.length<=10):Gu l k c d=some (exS l k c d):=by
 unfold Gu;rw[b0r hL hC hT,o8];by_cases h0:(evI l k c d).2.2.1=0
 .obtain⟨s,X,b,h⟩:=a7g hL hC hT h0;rw[O5 h0,E5,o6];have hf:2*40<=iL:=by unfold iL;omega
  have g1:=h.rsubP hM 40 iL hf (-1) d 0 [] h.root.1 h.root.2 (Yn l k s c d) (.inl ⟨rfl,rfl⟩) l7 (by have:=h.root.2;omega) x9;rw[show EE (l,k,c,[]) (-1) d 0=(Y1 iL).1 (Rb l k c []) (-1) d 0 from rfl,g1,o8,h.exS];rfl
 .unfold exS;rw[O8 h0,bg,o7,if_neg h0]
def b5x(l:U9)(k:Int)(A:List Nd):U9:=PD l k (EZ (UN A)) (EZ (Uy A))
def c1K(l:U9)(k:Int)(c:aF)(d:Int):V3×E4:=
 if(evI l k c d).2.2.1=0 then((evI (b5x l k (exS l k c d).1) k c d).1,(evI (b5x l k (exS l k c d).1) k c d).2.2)else((0,0,0),(evI l k c d).2.2)
theorem b8u(h:(evI l k c d).2.2.1≠0):exS l k c d=([],(evI l k c d).2.2):=if_neg h
section
variable {l:U9} {k:Int} {s:A7} {c:aF} {d:Int} {X:DB} {b:List DB} (h:EvC l k s c d X b)
include h
theorem EvC.own(hM:c.2.2.length<=10){r:Int} :r∈UN (EJ l k s c 40 [] (-1) d 0)↔∃x,(-1,x)∈vg (EJ l k s c 40 [] (-1) d 0)/\Gd l s c d (-1) x/\r=(evM l k s c (-1) x).2.1:=by
 have hp:=h.nodes hM;unfold UN;rw[X5];constructor
 .rintro⟨y,hy,rfl⟩;obtain⟨h1,h2⟩:=O0.1 hy;unfold y_ at h2;rw[A8]at h2;have e1:=P7.1 h2.1;have e2:=P7.1 h2.2;refine⟨eI y,zY.2 ⟨y,h1,e1,fC e2 rfl⟩,?_⟩;rcases hp.ok.nd y h1 with⟨_,g,g2,_⟩|⟨g,_⟩|⟨g,_⟩|⟨g,_⟩|⟨g,_⟩
  .rw[e2]at g g2;exact⟨g,g2⟩
  all_goals exact absurd (e1.symm.trans g) H9
 .rintro⟨x,hx,g,rfl⟩;obtain⟨y,h1,h2,h3⟩:=zY.1 hx;have e2:eM y=-1:=congrArg (·.1) h3;have e3:eI y=x:=congrArg (·.2) h3;refine⟨y,O0.2 ⟨h1,?_⟩,?_⟩
  .unfold y_;rw[O5 h2,O5 e2];rfl
  .rcases hp.ok.nd y h1 with⟨_,g,g2,_⟩|⟨g,_⟩|⟨g,_⟩|⟨g,_⟩|⟨g,_⟩
   .rw[g2,e2,e3]
   all_goals exact absurd (h2.symm.trans g) H9
theorem EvC.memU(hM:c.2.2.length<=10){r:Int} :r∈Uy (EJ l k s c 40 [] (-1) d 0)↔∃m x,0<=m/\(m,x)∈vg (EJ l k s c 40 [] (-1) d 0)/\Gd l s c d m x/\r=(evM l k s c m x).2.1:=by
 have hp:=h.nodes hM;unfold Uy;rw[X5];constructor
 .rintro⟨y,hy,rfl⟩;obtain⟨h1,h2⟩:=O0.1 hy;unfold ZZ at h2;rw[A8]at h2;have e1:=P7.1 h2.1;refine⟨eM y,eI y,jr.1 h2.2,zY.2 ⟨y,h1,e1,rfl⟩,?_⟩;rcases hp.ok.nd y h1 with⟨_,g,g2,_⟩|⟨g,_⟩|⟨g,_⟩|⟨g,_⟩|⟨g,_⟩
  .exact⟨g,g2⟩
  all_goals exact absurd (e1.symm.trans g) H9
 .rintro⟨m,x,h0,hx,g,rfl⟩;obtain⟨y,h1,h2,h3⟩:=zY.1 hx;have e2:eM y=m:=congrArg (·.1) h3;have e3:eI y=x:=congrArg (·.2) h3;refine⟨y,O0.2 ⟨h1,?_⟩,?_⟩
  .unfold ZZ;rw[O5 h2,e2,Y5 h0];rfl
  .rcases hp.ok.nd y h1 with⟨_,g,g2,_⟩|⟨g,_⟩|⟨g,_⟩|⟨g,_⟩|⟨g,_⟩
   .rw[g2,e2,e3]
   all_goals exact absurd (h2.symm.trans g) H9
theorem EvC.ruleBd{m x:Int}(hg:Gd l s c d m x):0<=(evM l k s c m x).2.1/\(evM l k s c m x).2.1<((60:Nat):Int):=by obtain⟨v,r,q,e1,q0,q1,_⟩:=h.met hg;obtain⟨_,hla⟩:=h.inps hg;have hn:=(h.hL.sc _ (dU hla).2.2.1).nr;have:=(dU q1).2.1;unfold o9 at this;rw[e1];show 0<=r/\r<_;omega
theorem EvC.usedLen(hM:c.2.2.length<=10):(EZ (UN (EJ l k s c 40 [] (-1) d 0))).length<=60/\(EZ (Uy (EJ l k s c 40 [] (-1) d 0))).length<=60:=by
 refine⟨TJ 60 (Vl _) λr hr=>?_,TJ 60 (Vl _) λr hr=>?_⟩
 .obtain⟨x,_,g,rfl⟩:=(h.own hM).1 ((rf _ _).1 hr);exact h.ruleBd g
 .obtain⟨m,x,_,_,g,rfl⟩:=(h.memU hM).1 ((rf _ _).1 hr);exact h.ruleBd g
theorem EvC.keepOk:KeepOk l:=a2W h.hv h.hL h.hT
theorem EvC.kl(A:List Nd):KL l (b5x l k A):=b8y k _ _ h.keepOk.mem
end
theorem b2d(hL:SmL l)(hC:SmC c)(hT:∀t∈l.2.1,ru t)(hM:c.2.2.length<=10):Ac l k c d=some (c1K l k c d)/\Iy l k c d=some (c1K l k c d):=by
 unfold Ac Iy c1K;rw[a7k hL hC hT hM,a5L hL hC hT hM,o8,o8];by_cases h0:(evI l k c d).2.2.1=0
 .obtain⟨s,X,b,h⟩:=a7g hL hC hT h0;rw[if_pos h0,h.exS];obtain⟨A,hA⟩:∃A,A=EJ l k s c 40 [] (-1) d 0:=⟨_,rfl⟩;have hf:=h.few hM;have hu:=h.usedLen hM;rw[←hA]at hf hu ⊢;simp only;rw[show F7 (x8 0 0)=false from rfl,o6,o6,a3M l7,a1c l7,o8,o8];simp only;rw[b8z h.keepOk k l7 l7,b5H h.keepOk k l7 l7,o8,o8];have hL2:=c6p (h.kl A) hL;have hT2:∀t∈(b5x l k A).2.1,ru t:=by rw[(h.kl A).tb];exact hT
  have e1:=a2O (k:=k) (d:=d) hL2 hC hT2;have e2:=b0r (k:=k) (d:=d) hL2 hC hT2;unfold b5x at e1 e2;rw[e1,e2];exact⟨rfl,rfl⟩
 .rw[if_neg h0,b8u h0];simp only;rw[O8 h0];exact⟨rfl,rfl⟩
theorem WF(hW:WfL l)(k:Int)(c:aF)(d:Int):CO l k c d=some true:=by
 unfold CO;rw[a6k,o8,a3Q,b8n];cases hl:smL l
 .rfl
 cases hc:smC c
 .rfl
 obtain⟨hL,hT⟩:=c2I hl hW;obtain⟨r1,r2⟩:=b2d (k:=k) (d:=d) hL (c2H hc) hT (b9J hc);rw[E5,o6,o8,E5,o6,r1,o8,r2,o8];rw[Jf,Jf,Jf,Jf,Jf,Jf,Jf];rfl
end
section
theorem b3W(P:Int->Prop)(pr:Int->Int):∀(L:d5R),(∃z∈L,P z)->∃z∈L,P z/\∀w∈L,P w->pr w<=pr z
 |[],h=>by obtain⟨z,hz,_⟩:=h;cases hz
 |c::L,h=>by
  by_cases hc:∃z∈L,P z
  .obtain⟨z,hz,z1,z2⟩:=b3W P pr L hc;by_cases hcc:P c/\pr z<pr c
   .refine⟨c,x9,hcc.1,λw hw w1=>?_⟩;rcases D6.1 hw with rfl|hw
    .exact aX _
    .have:=z2 w hw w1;omega
   .refine⟨z,U3 _ hz,z1,λw hw w1=>?_⟩;rcases D6.1 hw with rfl|hw
    .have:=not_and.1 hcc w1;omega
    .exact z2 w hw w1
  .obtain⟨z,hz,hz1⟩:=h;rcases D6.1 hz with rfl|hz
   .refine⟨z,x9,hz1,λw hw w1=>?_⟩;rcases D6.1 hw with rfl|hw
    .exact aX _
    .exact absurd ⟨w,hw,w1⟩ hc
   .exact absurd ⟨z,hz,hz1⟩ hc
variable {l:d5R}
theorem b3b{oc pr:Int->Int}(hn:l.Nodup)(h:qR oc pr l=[]):∀x∈l,oc x=-1:=by intro x hx;refine bT λhne=>?_;obtain⟨z,hz,z1,z2⟩:=b3W (λz=>oc z≠-1) pr l ⟨x,hx,hne⟩;have:=((PK (oc:=oc) (pr:=pr) hn).2 z).2 ⟨hz,z1,z2⟩;rw[h]at this;cases this
theorem a9A{oc pr:Int->Int}(hn:l.Nodup):chF oc pr l=-1↔∀x∈l,oc x=-1:=by
 have hm:=(PK (oc:=oc) (pr:=pr) hn).2;constructor
 .intro h;unfold chF at h;cases hb:qR oc pr l with
  |nil=>exact b3b hn hb|cons b r=>
   rw[hb]at h;cases r with
   |nil=>exact absurd h ((hm b).1 (by rw[hb];simp)).2.1|cons c r=>exact absurd (show(-2:Int)=-1 from h) H9
 .intro h;unfold chF;cases hb:qR oc pr l with
  |nil=>rfl|cons b r=>have:=(hm b).1 (by rw[hb];simp);exact absurd (h b this.1) this.2.1
theorem a2H{oc pr:Int->Int}(hn:l.Nodup){p:Int}(h0:0<=p):chF oc pr l=p↔∃b∈l,oc b=p/\∀y∈l,y≠b->oc y≠-1->pr y<pr b:=by
 obtain⟨hn2,hm⟩:=PK (oc:=oc) (pr:=pr) hn;constructor
 .intro h;unfold chF at h;cases hb:qR oc pr l with
  |nil=>rw[hb]at h;exact absurd (show(-1:Int)=p from h) l7|cons b r=>
   rw[hb]at h;cases r with
   |cons c r=>exact absurd (show(-2:Int)=p from h) l7|nil=>
    have h1:=(hm b).1 (by rw[hb];simp);refine⟨b,h1.1,h,λy hy hne ho=>?_⟩;have h2:=h1.2.2 y hy ho;by_cases he:pr y=pr b
    .have:y∈qR oc pr l:=(hm y).2 ⟨hy,ho,λw hw hw2=>by rw[he];exact h1.2.2 w hw hw2⟩;rw[hb]at this;exact absurd (D8.1 this) hne
    .omega
 .rintro⟨b,hb,h1,h2⟩;have hbb:b∈qR oc pr l:=(hm b).2 ⟨hb,l7,λy hy hy2=>by
   by_cases he:y=b
   .rw[he];exact aX _
   .have:=h2 y hy he hy2;omega⟩
  have hall:∀y∈qR oc pr l,y=b:=λy hy=>bT λhne=>by have g:=(hm y).1 hy;have:=h2 y g.1 hne g.2.1;have:=g.2.2 b hb l7;omega
  unfold chF;revert hn2 hbb hall;generalize qR oc pr l=B;intro hn2 hbb hall;match B with
  |[]=>cases hbb|[x]=>rw[hall x x9];exact h1|x::y::r=>have e1:=hall x x9;have e2:=hall y x9;rw[e1,e2]at hn2;simp at hn2
structure TreeE (par prio:d5R) (ap:d5V) (par' prio' :d5R) (ap' :d5V) (R:Int->Int->Prop) (p0 q0:Int):Prop where
 v:Bv par prio=0
 v' :Bv par' prio' =0
 rng:∀x y,R x y->(0<=x/\x<(par.length:Int))/\0<=y/\y<(par'.length:Int)
 cod:∀y,0<=y->y<(par'.length:Int)->∃x,R x y
 fn:∀x y z,R x y->R x z->y=z
 inj:∀x y z,R x z->R y z->x=y
 pr:∀x y,R x y->prF prio x=prF prio' y
 ap:∀x y,R x y->apF ap' y=true->apF ap x=true
 pa:∀(x y:Nat) (p q:Int),R (x:Int) (y:Int)->par[x]? =some p->par'[y]? =some q->(p=-1/\q=-1)\/R p q
 r0:R p0 q0
 ap0:apF ap' q0=true
variable {a:Int}{b:Int}{y:Int}
section
variable {par prio par' prio' :d5R} {ap ap' :d5V} {R:Int->Int->Prop} {p0 q0:Int}
theorem TreeE.kid(T:TreeE par prio ap par' prio' ap' R p0 q0){a b x y:Int}(hab:RO R a b)(hxy:R x y):x∈castL (kids par a)↔y∈castL (kids par' b):=by
 obtain⟨⟨x0,x1⟩,y0,y1⟩:=T.rng x y hxy;obtain⟨i,rfl⟩:∃i:Nat,x=(i:Int):=⟨x.toNat,l7⟩;obtain⟨j,rfl⟩:∃j:Nat,y=(j:Int):=⟨y.toNat,l7⟩;have hi:par[i]? =some (par[i]'l7):=bQ _;have hj:par'[j]? =some (par'[j]'l7):=bQ _;have hp:=T.pa i j _ _ hxy hi hj;rw[Kz,Kz];constructor
 .rintro⟨k,hk,h⟩;have ek:k=i:=l7;subst ek;rw[hi]at h;have h:=P5 h;refine⟨j,rfl,?_⟩;rw[hj];congr 1;rw[h]at hp;rcases hp with⟨p1,p2⟩|hp<;>rcases hab with⟨q1,q2⟩|hab
  .rw[p2,q2]
  .have:=(T.rng _ _ hab).1.1;omega
  .have:=(T.rng _ _ hp).1.1;omega
  .exact T.fn _ _ _ hp hab
 .rintro⟨k,hk,h⟩;have ek:k=j:=l7;subst ek;rw[hj]at h;have h:=P5 h;refine⟨i,rfl,?_⟩;rw[hi];congr 1;rw[h]at hp;rcases hp with⟨p1,p2⟩|hp<;>rcases hab with⟨q1,q2⟩|hab
  .rw[p1,q1]
  .have:=(T.rng _ _ hab).2.1;omega
  .have:=(T.rng _ _ hp).2.1;omega
  .exact T.inj _ _ _ hp hab
theorem TreeE.cod' (T:TreeE par prio ap par' prio' ap' R p0 q0) (hy:y∈castL (kids par' b)):∃x,R x y:=by obtain⟨i,rfl,h⟩:=Kz.1 hy;have:=(X7.1 h).1;exact T.cod _ l7 l7
theorem TreeE.up(T:TreeE par prio ap par' prio' ap' R p0 q0){a x y:Int}(h0:0<=a)(hx:x∈castL (kids par a))(hxy:R x y):∃b,R a b:=by
 obtain⟨⟨x0,x1⟩,y0,y1⟩:=T.rng x y hxy;obtain⟨i,rfl,hi⟩:=Kz.1 hx;obtain⟨j,rfl⟩:∃j:Nat,y=(j:Int):=⟨y.toNat,l7⟩;have hj:par'[j]? =some (par'[j]'l7):=bQ _;rcases T.pa i j _ _ hxy hi hj with⟨e,_⟩|h
 .omega
 .exact⟨_,h⟩
def EIn(par prio:d5R)(ap:d5V)(par' prio' :d5R)(ap' :d5V)(R:Int->Int->Prop)(p0 q0 x:Int):Prop:=
 (∀y,R x y->(OC par prio ap x=-1->OC par' prio' ap' y=-1)/\(OC par prio ap x=p0->OC par' prio' ap' y=q0))/\(OC par prio ap x=p0->∃y,R x y)
theorem TreeE.ch1(T:TreeE par prio ap par' prio' ap' R p0 q0)(hab:RO R a b)(ih:∀u∈castL (kids par a),EIn par prio ap par' prio' ap' R p0 q0 u)(h:chS par prio ap a=-1):chS par' prio' ap' b=-1:=by have h1:=(a9A (CJ par a)).1 h;refine(a9A (CJ par' b)).2 λw hw=>?_;obtain⟨u,hu⟩:=T.cod' hw;have hk:=(T.kid hab hu).2 hw;exact((ih u hk).1 w hu).1 (h1 u hk)
theorem TreeE.ch2(T:TreeE par prio ap par' prio' ap' R p0 q0)(hab:RO R a b)(ih:∀u∈castL (kids par a),EIn par prio ap par' prio' ap' R p0 q0 u)(h:chS par prio ap a=p0):chS par' prio' ap' b=q0:=by have h0:=(T.rng _ _ T.r0);obtain⟨u,hu,h1,h2⟩:=(a2H (CJ par a) h0.1.1).1 h;obtain⟨w,hw⟩:=(ih u hu).2 h1;refine(a2H (CJ par' b) h0.2.1).2 ⟨w,(T.kid hab hw).1 hu,((ih u hu).1 w hw).2 h1,λy hy hne ho=>?_⟩;obtain⟨x,hx⟩:=T.cod' hy;have hxk:=(T.kid hab hx).2 hy;have hxu:x≠u:=λe=>hne (by rw[e]at hx;exact T.fn _ _ _ hx hw);have hox:OC par prio ap x≠-1:=λe=>ho (((ih x hxk).1 y hx).1 e);have:=h2 x hxk hxu hox;rw[T.pr x y hx,T.pr u w hw]at this;exact this
theorem TreeE.oc(T:TreeE par prio ap par' prio' ap' R p0 q0):∀(k:Nat) (x:Int),0<=x->x<(par.length:Int)->(par.length:Int) -x<=k->EIn par prio ap par' prio' ap' R p0 q0 x:=by
 intro k;induction k with
 |zero=>intro x h0 h1 hk;omega|succ k ih=>
  intro x x0 x1 hk;have h0:=(T.rng _ _ T.r0);have ihk:∀u∈castL (kids par x),EIn par prio ap par' prio' ap' R p0 q0 u:=λu hu=>by have:=NE par prio T.v hu;exact ih u l7 l7 l7
  have e:=a1l par prio ap T.v (i:=x) l7 x1;refine⟨λy hxy=>?_,λhp=>?_⟩
  .obtain⟨_,y0,y1⟩:=T.rng x y hxy;have e' :=a1l par' prio' ap' T.v' (i:=y) l7 y1;rw[e,e'];cases h1:x8 (chS par prio ap x) (-1)
   .rw[o6];refine⟨λh=>absurd h (zh.1 h1),λh=>?_⟩;have hq:=T.ch2 (.inr hxy) ihk h;rw[hq,O8 l7,o6]
   .rw[o7];have hq:=T.ch1 (.inr hxy) ihk (P7.1 h1);rw[O5 hq,o7];constructor
    .intro h;cases ha:apF ap' y
     .rfl
     .rw[T.ap x y hxy ha,o7]at h;omega
    .intro h;cases ha:apF ap x
     .rw[ha,o6]at h;omega
     .rw[ha,o7]at h;rw[h]at hxy;have:=T.fn _ _ _ hxy T.r0;rw[this,T.ap0];rfl
  .rw[e]at hp;cases h1:x8 (chS par prio ap x) (-1)
   .rw[h1,o6]at hp;obtain⟨u,hu,h2,_⟩:=(a2H (CJ par x) h0.1.1).1 hp;obtain⟨w,hw⟩:=(ihk u hu).2 h2;exact T.up x0 hu hw
   .rw[h1,o7]at hp;cases ha:apF ap x
    .rw[ha,o6]at hp;omega
    .rw[ha,o7]at hp;rw[hp];exact⟨q0,T.r0⟩
theorem TreeE.sel(T:TreeE par prio ap par' prio' ap' R p0 q0)(ha:ap.length=par.length)(ha' :ap'.length=par'.length)(h:EY par prio ap=p0):EY par' prio' ap' =q0:=by unfold EY at h ⊢;rw[O5 T.v,O5 (show o9 ap=o9 par by unfold o9;rw[ha]),o7,o7]at h;rw[O5 T.v',O5 (show o9 ap' =o9 par' by unfold o9;rw[ha']),o7,o7];refine T.ch2 (.inl ⟨rfl,rfl⟩) (λu hu=>?_) h;have:=NE par prio T.v hu;exact T.oc ((par.length:Int) -u).toNat u l7 l7 l7
end
end
section
theorem a7i(env:aV):uw [(1,0)] env=((1,0,0),0):=rfl
def Kn(s:A7)(ks:d5R)(i j:Nat):Prop:=i<nR s/\qi s ks i=true/\j=lI (qi s ks) i
variable {j:Nat}{i:Nat}
section
variable {s:A7} {ks:d5R}
theorem Kn.at(h:Kn s ks i j):(sK ks s).2.2.2.2[j]? =some (rK s ks i):=by obtain⟨h1,h2,rfl⟩:=h;exact b8T h1 h2
theorem Kn.rl(h:Kn s ks i j):∃r,s.2.2.2.2[i]? =some r:=⟨_,bQ h.1⟩
theorem Kn.on(h:Kn s ks i j)(d T:Int):onR (sK ks s) d T j=onR s d T i:=by obtain⟨r,hr⟩:=h.rl;obtain⟨e1,e2,e3,e4,e5,e6⟩:=b0l (ks:=ks) hr;unfold onR;rw[h.at,hr];simp only;rw[e2,e5]
theorem Kn.prio(h:Kn s ks i j):Dn (sK ks s) j=Dn s i:=by obtain⟨r,hr⟩:=h.rl;obtain⟨e1,e2,e3,e4,e5,e6⟩:=b0l (ks:=ks) hr;unfold Dn;rw[h.at,hr];exact e4
theorem Kn.inj{i i' j:Nat}(h:Kn s ks i j)(h' :Kn s ks i' j):i=i' :=by have h1:=Ih (qi s ks) h.1 h.2.1;have h2:=Ih (qi s ks) h'.1 h'.2.1;rw[←h.2.2]at h1;rw[←h'.2.2,h1]at h2;exact P5 h2
theorem Kn.fn{i j j' :Nat}(h:Kn s ks i j)(h' :Kn s ks i j'):j=j' :=h.2.2.trans h'.2.2.symm
theorem Kn.ex(h:j<(sK ks s).2.2.2.2.length):∃i,Kn s ks i j:=by
 have hl:j<(onL (qi s ks) (nR s)).length:=by
  have:(sK ks s).2.2.2.2.length=(onL (qi s ks) (nR s)).length:=by show(Tz s ks).length=_;unfold Tz;rw[L9]
  omega
 have e:=bQ hl;obtain⟨i1,i2⟩:=Wx _ (I4 hl);exact⟨_,i1,i2,(QN (Wy _ _) (Ih _ i1 i2) e).symm⟩
theorem Kn.par(hs:VR s)(h:Kn s ks i j):(eQ s i=-1/\eQ (sK ks s) j=-1)\/∃a b,Kn s ks a b/\a<i/\b<j/\eQ s i=(a:Int)/\eQ (sK ks s) j=(b:Int):=by
 obtain⟨r,hr⟩:=h.rl;obtain⟨e1,e2,e3,e4,e5,e6⟩:=b0l (ks:=ks) hr;have ep:eQ (sK ks s) j=rP s ks (eQ s i):=by unfold eQ;rw[h.at];exact e3
 rw[ep];rcases hs.par hr with g|⟨a,q,g1,g2,g3,g4⟩
 .left;rw[g];exact⟨rfl,rfl⟩
 .right;have hup:upP s i=some a:=by unfold upP;rw[if_pos l7,g1,E8]
  have hk:qi s ks a=true:=b8A h.2.1 hup;have ha:a<nR s:=by have:=h.1;omega
  refine⟨a,lI (qi s ks) a,⟨ha,hk,rfl⟩,g2,?_,g1,?_⟩
  .rw[h.2.2];exact b3l g2 hk
  .unfold rP;rw[g1,if_pos l7];unfold a7C;rw[if_pos l7,E8];unfold a5t;rw[if_pos hk]
theorem Kn.mem{d T:Int}(h:Kn s ks i j)(ho:onR s d T i=true):i∈aB s d T/\j∈aB (sK ks s) d T:=by unfold aB onL;exact⟨O0.2 ⟨U5.2 h.1,ho⟩,O0.2 ⟨U5.2 (X7.1 h.at).1,by rw[h.on];exact ho⟩⟩
theorem Kn.ap(h:Kn s ks i j)(env:aV):(Yg ks i=true->gAp (sK ks s) env j=gAp s env i)/\(gAp (sK ks s) env j=true->gAp s env i=true)/\(gOk s env i=true->gOk (sK ks s) env j=true):=by
 obtain⟨r,hr⟩:=h.rl;have e:rK s ks i=if Yg ks i=true then(r.1,r.2.1,rP s ks (eQ s i),r.2.2.2)else(r.1,r.2.1,rP s ks (eQ s i),r.2.2.2.1,r.2.2.2.2.1,[(1,0)],[Wh (a0t s r.2.1)],r.2.2.2.2.2.2.2):=by unfold rK;rw[hr]
 unfold gAp gOk;rw[h.at,hr,e];simp only;cases hh:Yg ks i
 .rw[if_neg x9];simp only;rw[a7i];refine⟨(λg=>by cases g),(λg=>by cases g),λ_=>rfl⟩
 .rw[if_pos rfl];exact⟨λ_=>rfl,id,id⟩
end
end
section
end
section
section
variable {l:U9} {k:Int} {s:A7} {c:aF} {d:Int} {X:DB} {b:List DB} (h:EvC l k s c d X b)
include h
end
end
end Go.GP
namespace Go.GP
open Gt
theorem UR:∀x,a6K Gt.ps3 x->(Gt.s3.fn x:d5W)=some true:=λx h=>WF (d5l h.1) x.2.1 x.2.2.1 x.2.2.2
end Go.GP
