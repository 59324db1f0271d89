import Derived.Test.YtpiondedhhgjbaaGreatDoorV5
import Derived.Test.YtpiondedhhgjbaaGreatDoorV6
import Derived.Lib.IndexMore
set_option linter.all false
namespace Go.GP
open Gt
set_option maxRecDepth 100000
section
def ScT(s:c6F)(o:Option (dF×H6)):Prop:=∃t n c,o=some (t,n,c)/\eH t.2.2.1/\t.2.1.length<=s.length/\(c=0->∃k:Nat,n=(k:Int)/\1<=k/\k<=s.length)
variable {s:c6F}
theorem CX(c:Int)(hc:c≠0):ScT s (some ((0,[],0,0),0,c)):=⟨_,_,_,rfl,oI,D5,λh=>absurd h hc⟩
theorem Rf{i:Nat}(h:i<s.length):sat s (i:Int)=some ((s[i].toNat:Nat):Int):=by rw[wZ,lF h];rfl
theorem YK(s:c6F)(hl:s.length<=1000000):∃b,yw s=some b/\(b=true->10<=s.length):=by
 unfold yw;rw[show iY s 0=_ from Df hl 0 o5,o9];cases C9 ((((s.drop 0).takeWhile zG).length:Nat):Int) 4
 .exact⟨false,rfl,λh=>by cases h⟩
 rw[o7,show iY s 5=_ from Df hl 5 o5,o9];cases C9 ((((s.drop 5).takeWhile zG).length:Nat):Int) 2
 .exact⟨false,rfl,λh=>by cases h⟩
 rw[o7,show iY s 8=_ from Df hl 8 o5,o9];cases h8:U7 2 ((((s.drop 8).takeWhile zG).length:Nat):Int)
 .exact⟨false,rfl,λh=>by cases h⟩
 have h8:=pg.1 h8;have hlen:=(jl zG (l:=s.drop 8)).length_le;rw[aG]at hlen;have h10:10<=s.length:=o5;rw[o7,show sat s 4=_ from Rf (i:=4) o5,o9];cases C9 ((s[4].toNat:Nat):Int) 45
 .exact⟨false,rfl,λh=>by cases h⟩
 rw[o7,show sat s 7=_ from Rf (i:=7) o5,o9];exact⟨_,rfl,λ_=>h10⟩
theorem Vg(s:c6F)(k:Int)(hl:s.length<=1000000)(hk:0<=k):∃b,lX s k=some b/\(b=true->1+k<=s.length):=by
 unfold lX;rw[NY,o9];cases hp:[46].isPrefixOf s
 .exact⟨false,rfl,λh=>by cases h⟩
 obtain⟨t,ht⟩:=eF.1 hp;have htl:=congrArg List.length ht;simp only[I8,fC]at htl;rw[o7,show iY s 1=_ from Df hl 1 o5,o9];refine⟨_,rfl,λh=>?_⟩;have h:=gp.1 h;have hlen:=(jl zG (l:=s.drop 1)).length_le;rw[aG]at hlen;omega
theorem a2w(k:Int)(s:c6F)(hl:s.length<=100000)(hk:k=2\/k=3\/k=5\/(k=4/\1<=s.length)):∃v c,AL k s=some (v,c)/\eH v:=by
 have fin:∀(v c lim:Int),eH v->∃v' c',(l7 (C9 c 0) (l7 (I5 lim v) (some (v,(3:Int))) (some (v,c))) (some (v,c)))=some (v',c')/\eH v' :=by
  intro v c lim hv;cases C9 c 0
  .exact⟨_,_,rfl,hv⟩
  .cases I5 lim v
   .exact⟨_,_,rfl,hv⟩
   .exact⟨_,_,rfl,hv⟩
 unfold AL jU dV;rcases hk with rfl|rfl|rfl|⟨rfl,h1⟩
 .obtain⟨v,c,h,hv⟩:=EY s 0 o5 hl;simp (disch:=decide) only[J7,o6];rw[h,o9,o9];exact fin v c _ hv
 .obtain⟨v,c,h,hv⟩:=EY s 2 o5 hl;simp (disch:=decide) only[J7,U6,o6,o7];rw[show fK 2=some 2 from rfl,o9,h,o9,o9];exact fin v c _ hv
 .obtain⟨v,c,h,hv⟩:=GI s o5;simp (disch:=decide) only[J7,U6,o6,o7];rw[h,o9];exact fin v c _ hv
 .have hcut:gy s 0 (N9 .i64 (A7 s) 1)=some (s.take (A7 s -1).toNat):=by
   rw[dO (by unfold eH A7;omega),yA (by unfold A7;omega) (by unfold A7;omega)]
  obtain⟨v,c,h,hv⟩:=EY (s.take (A7 s -1).toNat) 4 o5 E5;simp (disch:=decide) only[J7,U6,o6,o7];rw[hcut,o9,show fK 4=some 4 from rfl,o9,h,o9,o9];exact fin v c _ hv
theorem a0U(s:c6F)(hl:s.length<=100000)(h0:1<=((s.takeWhile zG).length)):ScT s (yx s):=by
 have hwl:=(jl zG (l:=s)).length_le;have fin:∀(k:Int) (n:Nat),1<=n->n<=s.length->(k=2\/k=3\/k=4\/k=5)->ScT s ((λ(x:dF×H6)=>
   l9
    (l7 (I5 x.2.2 (A7 s))
     (l9 (sat s x.2.2) λ(x_1:Int)=>
      l9 (kS x_1) λ(x_2:Bool)=>
       l7 x_2 (some (Sum.inr ((0,[],0,0),0,2)))
        (l7 (U7 65 x_1)
         (l7 (U7 x_1 90) (some (Sum.inr ((0,[],0,0),0,2)))
          (l9 (fJ x_1) λ(x_3:Bool)=>
           l7 x_3 (some (Sum.inr ((0,[],0,0),0,2)))
            (l7 (C9 x_1 95) (some (Sum.inr ((0,[],0,0),0,2)))
             (l7 (C9 x_1 46) (some (Sum.inr ((0,[],0,0),0,2))) (some (Sum.inl x.1))))))
         (l9 (fJ x_1) λ(x_3:Bool)=>
          l7 x_3 (some (Sum.inr ((0,[],0,0),0,2)))
           (l7 (C9 x_1 95) (some (Sum.inr ((0,[],0,0),0,2)))
            (l7 (C9 x_1 46) (some (Sum.inr ((0,[],0,0),0,2))) (some (Sum.inl x.1)))))))
     (some (Sum.inl x.1)))
    λ(o:dF⊕dF×H6)=>
    Z8 o
     (λ(x_1:dF)=>
      l9 (gy s 0 x.2.2) λ(x_2:c6F)=>
       l9 (AL x.2.1 x_2) λ(x_3:H6)=>
        l7 (H5 (C9 x_3.2 0)) (some ((0,[],0,0),0,3))
         (l9 (gy s 0 x.2.2) λ(x_4:c6F)=>some ((x.2.1,x_4,x_3.1,0),x.2.2,0)))
     λ(r:dF×H6)=>some r) ((0,[],0,0),k,(n:Int))):=by
  intro k n hn1 hn2 hk;simp only;have e1:∃q:dF⊕dF×H6,(l7 (I5 (n:Int) (A7 s))
     (l9 (sat s (n:Int)) λ(x_1:Int)=>
      l9 (kS x_1) λ(x_2:Bool)=>
       l7 x_2 (some (Sum.inr ((0,[],0,0),0,2)))
        (l7 (U7 65 x_1)
         (l7 (U7 x_1 90) (some (Sum.inr ((0,[],0,0),0,2)))
          (l9 (fJ x_1) λ(x_3:Bool)=>
           l7 x_3 (some (Sum.inr ((0,[],0,0),0,2)))
            (l7 (C9 x_1 95) (some (Sum.inr ((0,[],0,0),0,2)))
             (l7 (C9 x_1 46) (some (Sum.inr ((0,[],0,0),0,2))) (some (Sum.inl ((0,[],0,0):dF)))))))
         (l9 (fJ x_1) λ(x_3:Bool)=>
          l7 x_3 (some (Sum.inr ((0,[],0,0),0,2)))
           (l7 (C9 x_1 95) (some (Sum.inr ((0,[],0,0),0,2)))
            (l7 (C9 x_1 46) (some (Sum.inr ((0,[],0,0),0,2))) (some (Sum.inl (0,[],0,0))))))))
     (some (Sum.inl (0,[],0,0))))=some q/\(q= .inl (0,[],0,0)\/q= .inr ((0,[],0,0),0,2)):=by
   by_cases hlt:n<s.length
   .rw[aP (by unfold A7;omega),o7,Rf hlt,o9,Ip,o9,EE];cases KJ s[n]
    .cases U7 65 ((s[n].toNat:Nat):Int)<;>cases U7 ((s[n].toNat:Nat):Int) 90<;>cases zG s[n]<;>cases C9 ((s[n].toNat:Nat):Int) 95<;>cases C9 ((s[n].toNat:Nat):Int) 46<;>first|exact⟨_,rfl,.inl rfl⟩|exact⟨_,rfl,.inr rfl⟩
    .exact⟨_,rfl,.inr rfl⟩
   .rw[U1 (by unfold A7;omega)];exact⟨_,rfl,.inl rfl⟩
  obtain⟨q,hq,hq2⟩:=e1;rw[hq,o9];rcases hq2 with rfl|rfl
  .rw[V6,yA o5 o5,o9,F7];obtain⟨v,c,h,hv⟩:=a2w k (s.take n) E5 (by
    rcases hk with rfl|rfl|rfl|rfl
    .exact .inl rfl
    .exact .inr (.inl rfl)
    .exact .inr (.inr (.inr ⟨rfl,by simp;omega⟩))
    .exact .inr (.inr (.inl rfl)))
   rw[h,o9];simp only;cases C9 c 0
   .exact CX 3 J8
   .exact⟨_,_,_,rfl,hv,by simp;omega,λ_=>⟨n,rfl,hn1,hn2⟩⟩
  .exact CX 2 J8
 unfold yx;obtain⟨b,hb,hb10⟩:=YK s o5;rw[hb,o9];cases b
 .rw[P9,o7];have e0:=Df (s:=s) o5 0 o5;rw[kw,show((0:Nat):Int)=0 from rfl]at e0;generalize hd:(s.takeWhile zG).length=d at*;have hs:gy s (d:Int) (A7 s)=some (s.drop d):=by rw[pG o5 o5,F7]
  have hkind:∃(k:Int) (n:Nat),(l9 (gy s (d:Int) (A7 s)) λ(x_1:c6F)=>
      l9 (lX x_1 2) λ(x_2:Bool)=>
       l7 x_2 (some (3,G5 IntKind.i64 (d:Int) 3))
        (l9 (gy s (d:Int) (A7 s)) λ(x_3:c6F)=>
         l9 (lX x_3 4) λ(x_4:Bool)=>
          l7 x_4
           (l9 (gy s (G5 IntKind.i64 (d:Int) 5) (A7 s)) λ(x_5:c6F)=>
            l9 (jm x_5 [37]) λ(x_6:Bool)=>
             l7 x_6 (some (4,G5 IntKind.i64 (d:Int) 6)) (some (2,(d:Int))))
           (some (2,(d:Int)))))=(some (k,(n:Int)):Option (Int×Int))/\1<=n/\n<=s.length/\(k=2\/k=3\/k=4\/k=5):=by
   rw[hs,o9];obtain⟨b2,h2,l2⟩:=Vg (s.drop d) 2 E5 o5;rw[h2,o9];cases b2
   .rw[o6,o9];obtain⟨b4,h4,l4⟩:=Vg (s.drop d) 4 E5 o5;rw[h4,o9];cases b4
    .exact⟨2,d,rfl,h0,hwl,.inl rfl⟩
    .have l4:=l4 rfl;rw[aG]at l4;rw[o7,show G5 .i64 (d:Int) 5=((d+5:Nat):Int) by rw[dN di];omega,pG o5 o5,o9,NY,o9,F7];cases h37:[37].isPrefixOf (s.drop (d+5))
     .exact⟨2,d,rfl,h0,hwl,.inl rfl⟩
     .obtain⟨t,ht⟩:=eF.1 h37;have:=congrArg List.length ht;simp at this;refine⟨4,d+6,?_,o5,o5,.inr (.inr (.inl rfl))⟩;rw[o7,show G5 .i64 (d:Int) 6=((d+6:Nat):Int) by rw[dN di];omega]
   .have l2:=l2 rfl;rw[aG]at l2;refine⟨3,d+3,?_,o5,o5,.inr (.inl rfl)⟩;rw[o7,show G5 .i64 (d:Int) 3=((d+3:Nat):Int) by rw[dN di];omega]
  obtain⟨k,n,hk,hn1,hn2,hkk⟩:=hkind;rw[e0,o9,hk,o9];have hz:∃q:dF×H6⊕dF×H6,(l7 (I5 1 (d:Int))
      (l9 (sat s 0) λ(x:Int)=>
       l7 (C9 x 48) (some (Sum.inr ((0,[],0,0),0,2))) (some (Sum.inl (((0,[],0,0):dF),k,(n:Int)))))
      (some (Sum.inl ((0,[],0,0),k,(n:Int)))))=some q/\(q= .inl ((0,[],0,0),k,(n:Int))\/q= .inr ((0,[],0,0),0,2)):=by
   cases I5 1 (d:Int)
   .exact⟨_,rfl,.inl rfl⟩
   .rw[o7,show sat s 0=_ from Rf (i:=0) o5,o9];cases C9 ((s[0].toNat:Nat):Int) 48
    .exact⟨_,rfl,.inl rfl⟩
    .exact⟨_,rfl,.inr rfl⟩
  obtain⟨q,hq,hq2⟩:=hz;rw[hq,o9];rcases hq2 with rfl|rfl
  .rw[V6];exact fin k n hn1 hn2 hkk
  .exact CX 2 J8
 .rw[H7,o6,o9,V6];exact fin 5 10 o5 (hb10 rfl) (.inr (.inr (.inr rfl)))
theorem a0f{a b:Nat}(h1:a<=b)(h2:b<=s.length):gy s (a:Int) (b:Int)=some ((s.take b).drop a):=by rw[Py o5 o5 o5,F7,F7]
theorem XI(cs:c6F):∀l:c6F,-1<=Lib.indexAny l cs/\Lib.indexAny l cs<l.length
 |[]=>by simp[Lib.indexAny]|b::l=>by
  have ih:=XI cs l;unfold Lib.indexAny;split
  .simp<;>omega
  .split
   .simp;omega
   .simp;omega
theorem ZK(s:c6F)(hl:s.length<=1000000)(h0:1<=(s.takeWhile uV).length):ScT s (AP s):=by
 have hw:=(jl uV (l:=s)).length_le;unfold AP;rw[a2s hl,o9];cases I5 16 ((s.takeWhile uV).length:Int)
 .rw[o6,yA o5 o5,o9,F7];exact⟨_,_,_,rfl,oI,by simp;omega,λ_=>⟨_,rfl,h0,hw⟩⟩
 .exact CX 4 J8
theorem Wj(s:c6F)(hl:s.length<=100000)(hA:Asc s)(h0:1<=s.length):ScT s (yz s):=by
 have hs1:gy s 1 (A7 s)=some (s.drop 1):=pG (lo:=1) o5 o5;unfold yz;rw[hs1,o9];have hany:xX (s.drop 1) [34,10]=some (Lib.indexAny (s.drop 1) [34,10]):=by
  unfold xX;have a1:Nat.blt (s.drop 1).length 4294967281=true:=by rw[Z5];simp;omega
  have a2:NP (s.drop 1)=true:=by unfold NP;rw[kN];intro c hc;rw[Z5];exact z_ hA 1 c hc
  rw[a1,a2];rfl
 rw[hany,o9];obtain⟨b1,b2⟩:=XI [34,10] (s.drop 1);generalize Lib.indexAny (s.drop 1) [34,10]=x at b1 b2;rw[aG]at b2;by_cases hx:x<0
 .rw[aP hx];exact CX 5 J8
 obtain⟨k,rfl⟩:∃k:Nat,x=(k:Int):=⟨x.toNat,o5⟩;have b3:k+1<s.length:=by have:=Int.ofNat_lt.1 b2;omega
 have e1:G5 .i64 1 (k:Int)=((1+k:Nat):Int):=by rw[dN di];omega
 rw[U1 o5,o6,e1,Rf (i:=1+k) o5,o9];cases C9 ((s[1+k].toNat:Nat):Int) 10
 case true=>exact CX 5 J8
 rw[o6,show gy s 1 ((1+k:Nat):Int)=_ from a0f (a:=1) o5 o5,o9];generalize hw:(s.take (1+k)).drop 1=w;have hwl:w.length=k:=by rw[←hw];simp;omega
 have hloop:=jH (f:=λ(x:dF×Int)=>
         l7 (I5 x.2 (A7 w))
          (l9 (sat w x.2) λ(x_3:Int)=>
           l7 (I5 x_3 32) (some (Out.rt (((0,[],0,0):dF),((0:Int),(2:Int)))))
            (l9 (sat w x.2) λ(x_4:Int)=>
             l7 (I5 126 x_4) (some (Out.rt ((0,[],0,0),0,2)))
              (some (Out.nx (x.1,G5 IntKind.i64 x.2 1)))))
          (some (Out.ex x.1))) (s:=(((0,[],0,0):dF),0)) (λx=>∃j:Nat,x.2=(j:Int)/\j<=w.length) (λ_=>True) (λr=>r=((0,[],0,0),0,2)) (λx=>w.length -x.2.toNat) ⟨0,rfl,o5⟩ E5 (by
  rintro⟨t,q⟩ ⟨j,h1,h2⟩;simp only at h1;subst h1;by_cases hlt:j<w.length
  .rw[aP (by unfold A7;simp only;omega),o7];simp only;rw[Rf hlt,o9,o9];cases I5 ((w[j].toNat:Nat):Int) 32
   .cases I5 126 ((w[j].toNat:Nat):Int)
    .exact .inl ⟨_,rfl,⟨j+1,by simp only;rw[dH o5],o5⟩,by simp only;rw[dH o5,F7,F7];omega⟩
    .exact .inr (.inr ⟨_,rfl,rfl⟩)
   .exact .inr (.inr ⟨_,rfl,rfl⟩)
  .rw[U1 (by unfold A7;simp only;omega)];exact .inr (.inl ⟨_,rfl,trivial⟩))
 rcases hloop with⟨e,h,-⟩|⟨e,h,rfl⟩
 .refine(show ScT s (l9 (V4 _ (((0,[],0,0):dF),0)) _)from ?_);rw[h,o9,V6];cases I5 64 (k:Int)
  .rw[o6];have q1:G5 .i64 (k:Int) 2=((k+2:Nat):Int):=by rw[dN di];omega
   have q2:w.length<=s.length:=o5;exact⟨_,_,_,rfl,oI,q2,λ_=>⟨k+2,q1,o5,o5⟩⟩
  .exact CX 4 J8
 .refine(show ScT s (l9 (V4 _ (((0,[],0,0):dF),0)) _)from ?_);rw[h];exact CX 2 J8
theorem a9J(s:c6F)(hl:s.length<=100000)(hA:Asc s)(h0:1<=s.length):ScT s (ES s):=by
 cases s with
 |nil=>simp at h0|cons c r=>
  have h1:ScT (c::r) (l9 (gy (c::r) 0 1) λ(x:c6F)=>some ((7,x,0,0),1,0)):=by rw[show(1:Int)=((1:Nat):Int)from rfl,yA o5 E5,o9];exact⟨_,_,_,rfl,oI,D5,λ_=>⟨1,rfl,o5,h0⟩⟩
  have h2:∀b:Bool,ScT (c::r) (l9 (gy (c::r) 1 (A7 (c::r))) λ(x_3:c6F)=>
         l9 (jm x_3 [61]) λ(x_4:Bool)=>
          l7 x_4 (l9 (gy (c::r) 0 2) λ(x:c6F)=>some ((7,x,0,0),2,0))
           (l7 b (some ((0,[],0,0),0,2))
            (l9 (gy (c::r) 0 1) λ(x:c6F)=>some ((7,x,0,0),1,0)))):=by
   intro b;rw[pG o5 E5,o9,NY,o9];cases hp:[61].isPrefixOf ((c::r).drop (1:Int).toNat)
   .rw[o6];cases b
    .exact h1
    .exact CX 2 J8
   .obtain⟨t,ht⟩:=eF.1 hp;have htl:=congrArg List.length ht;simp at htl;rw[o7,show(2:Int)=((2:Nat):Int)from rfl,yA o5 E5,o9];exact⟨_,_,_,rfl,oI,by simp;omega,λ_=>⟨2,rfl,o5,by simp;omega⟩⟩
  unfold ES;rw[show sat (c::r) 0=some (c.toNat:Int)from rfl,o9,Ip,o9,EE,o9];cases C9 (c.toNat:Int) 10
  case true=>rw[o7,show(1:Int)=((1:Nat):Int)from rfl,yA o5 E5,o9];exact⟨_,_,_,rfl,oI,D5,λ_=>⟨1,rfl,o5,h0⟩⟩
  rw[o6];cases hlow:KJ c
  case true=>rw[o7,bZ];exact ZK _ o5 (by rw[ng (by unfold uV;rw[hlow];rfl)];simp)
  rw[o6];cases hdg:zG c
  case true=>rw[o7,bZ];exact a0U _ hl (by rw[ng hdg];simp)
  rw[o6];cases C9 (c.toNat:Int) 34
  case true=>rw[o7,bZ];exact Wj _ hl hA h0
  rw[o6];cases C9 (c.toNat:Int) 60
  case true=>exact h2 _
  cases C9 (c.toNat:Int) 61
  case true=>exact h2 _
  cases C9 (c.toNat:Int) 33
  case true=>exact h2 true
  simp only[o6];have hib:∃x,Bj [40,41,44,58,43,45,42] (c.toNat:Int)=some x:=⟨_,rfl⟩;obtain⟨x,hx⟩:=hib;rw[hx,o9];cases U7 0 x
  .exact CX 2 J8
  .exact h1
def TkG(x:dF):Prop:=eH x.2.2.1/\x.2.1.length<=100000
theorem ZZ(s:c6F)(hA:Asc s):∃T o c,xH s=some (T,o,c)/\(∀x∈T,TkG x)/\T.length<=65536:=by
 unfold xH;by_cases hl:65536<A7 s
 .rw[aP hl];exact⟨[],0,4,rfl,(λx hx=>by cases hx),D5⟩
 have hl' :s.length<=65536:=by unfold A7 at hl;omega
 rw[U1 o5,o6];obtain⟨j,hj,-,hj2⟩:=a0V (s:=s) o5 (i:=0) o5;rw[show((0:Nat):Int)=0 from rfl]at hj;rw[hj,o9];have hloop:=jH (f:=tkF s) (s:=([],(j:Int))) (λx=>∃p:Nat,x.2=(p:Int)/\p<=s.length/\x.1.length<=p/\∀y∈x.1,TkG y) (λe=>e.length<=65536/\∀y∈e,TkG y) (λr=>r.1=[]) (λx=>s.length -x.2.toNat) ⟨j,rfl,hj2,D5,λy hy=>by cases hy⟩ E5 (by
  rintro⟨acc,q⟩ ⟨p,h1,h2,h3,h4⟩;simp only at h1 h3 h4;subst h1;unfold tkF;by_cases hlt:p<s.length
  .rw[aP (by unfold A7;simp only;omega),o7];simp only;rw[pG o5 o5,o9,F7];obtain⟨t,n,c,e,g1,g2,g3⟩:=a9J (s.drop p) E5 (z_ hA p) E5;rw[e,o9];simp only;by_cases hc:c=0
   .obtain⟨k,rfl,k1,k2⟩:=g3 hc;rw[aG]at k2;rw[U6 hc,H7,o6,ru _ o5,o9,show G5 .i64 (p:Int) (k:Int)=((p+k:Nat):Int) by rw[dN di];omega];obtain⟨j',hj',q1,q2⟩:=a0V (s:=s) o5 (i:=p+k) o5;rw[hj',o9];refine .inl ⟨_,rfl,⟨j',rfl,q2,by simp;omega,λy hy=>?_⟩,by simp only[F7];omega⟩;rcases J6.1 hy with hy|hy
    .exact h4 y hy
    .simp at hy;subst hy;rw[aG]at g2;exact⟨g1,by simp only;omega⟩
   .rw[J7 hc];exact .inr (.inr ⟨_,rfl,rfl⟩)
  .rw[U1 (by unfold A7;simp only;omega)];exact .inr (.inl ⟨_,rfl,by simp only;omega,h4⟩))
 rcases hloop with⟨e,h,h1,h2⟩|⟨e,h,h1⟩
 .exact⟨e,0,0,by refine Y5 (show V4 (tkF s) ([],(j:Int))=_ from h) ?_;rfl,h2,h1⟩
 .refine⟨e.1,e.2.1,e.2.2,by refine Y5 (show V4 (tkF s) ([],(j:Int))=_ from h) ?_;rfl,?_,?_⟩
  .rw[h1];exact λx hx=>by cases hx
  .rw[h1];simp
end
section
def NdI(nd:List (Int×Int)):Prop:=∀n∈nd,eH n.2
abbrev pT(T:List dF)(E:Int)(N:E9)(i:Nat)(nd:List (Int×Int))(off c:Int):A8:=(T,(i:Int),E,N,nd,off,c)
section
variable (T:List dF) (E:Int) (N:E9)
structure GdS (i0 sl i:Nat) (nd:List (Int×Int)):Prop where
 lo:i0<=i
 hi:i<=T.length
 sl:nd.length+sl<=i
 ni:NdI nd
def Rs(i0 sl:Nat)(o:Option (Bool×A8)):Prop:=∃b i nd off c,o=some (b,pT T E N i nd off c)/\GdS T i0 sl i nd
end
variable {i:Nat}{nd:List (Int×Int)}{off:Int}{c:Int}{i0:Nat}{sl:Nat}{k:Int}
section
variable {T:List dF} {E:Int} {N:E9}
theorem ny{i0 sl i0' sl' i:Nat}(h:GdS T i0 sl i nd)(h1:i0' <=i0)(h2:sl' <=sl):GdS T i0' sl' i nd:=⟨by have:=h.lo;omega,h.hi,by have:=h.sl;omega,h.ni⟩
theorem mF(b:Bool)(h:GdS T i0 sl i nd):Rs T E N i0 sl (some (b,pT T E N i nd off c)):=⟨b,i,nd,off,c,rfl,h⟩
theorem vS{i0 sl i1 sl1:Nat}{o:Option (Bool×A8)}{K:Bool×A8->Option (Bool×A8)}(h:Rs T E N i0 sl o)(hK:∀b i nd off c,GdS T i0 sl i nd->Rs T E N i1 sl1 (K (b,pT T E N i nd off c))):Rs T E N i1 sl1 (l9 o K):=by obtain⟨b,i,nd,off,c,rfl,hg⟩:=h;exact hK b i nd off c hg
theorem jc{x y:Option (Bool×A8)}(b:Bool)(h1:Rs T E N i0 sl x)(h2:Rs T E N i0 sl y):Rs T E N i0 sl (l7 b x y):=by cases b<;>assumption
variable (hT:T.length<=65536) (hK:∀x∈T,TkG x)
include hT
theorem a8g(hi:i<=T.length)(a:Nat)(ha:a<=10):az (pT T E N i nd off c) (a:Int)=some (pk T (i+a),pT T E N i nd off c):=by
 unfold az pk;have e:G5 .i64 (i:Int) (a:Int)=((i+a:Nat):Int):=by rw[dN di];omega
 simp only[e];by_cases h:i+a<T.length
 .rw[aP (by unfold A7;omega),o7,V8,lF h];rfl
 .rw[U1 (by unfold A7;omega),o6,aA o5];rfl
theorem QQ(hi:i<=T.length):az (pT T E N i nd off c) 0=some (pk T i,pT T E N i nd off c):=a8g hT hi 0 o5
omit hT in
theorem SH(h:(pk T i).1≠0):i<T.length:=by
 rcases pF i T.length with hlt|hge
 .exact hlt
 .exfalso;apply h;unfold pk;rw[aA hge];rfl
omit hT in
include hK in
theorem b2n(i:Nat):TkG (pk T i):=by
 unfold pk;rcases pF i T.length with hlt|hge
 .rw[lF hlt];exact hK _ (Y2 hlt)
 .rw[aA hge];exact⟨oI,D5⟩
theorem atT(hi:i<=T.length)(hk:k≠0)(w:c6F):∃b,jC (pT T E N i nd off c) k w=some (b,pT T E N i nd off c)/\(b=true->i<T.length):=by
 unfold jC
 rw[QQ hT hi,o9];by_cases g:(pk T i).1=k
 .simp only[U6 g,o7];exact⟨_,rfl,λ_=>SH (by rw[g];exact hk)⟩
 .simp only[J7 g,o6];exact⟨_,rfl,λh=>by cases h⟩
omit hT in
theorem O_(e:Int):∃off',ae (pT T E N i nd off c) e=some (false,pT T E N i nd off' e):=by
 unfold ae;simp only;by_cases hlt:i<T.length
 .rw[aP (by unfold A7;omega),o7,V8,lF hlt,o9];exact⟨_,rfl⟩
 .rw[U1 (by unfold A7;omega),o6];exact⟨_,rfl⟩
omit hT in
theorem a7i(h:GdS T i0 sl i nd)(e:Int):Rs T E N i0 sl (ae (pT T E N i nd off c) e):=by obtain⟨off',he⟩:=O_ (T:=T) (E:=E) (N:=N) (i:=i) (nd:=nd) (off:=off) (c:=c) e;rw[he];exact mF false h
omit hT in
theorem qW(h:GdS T i0 sl i nd)(k:Nat)(hi:i+k<=T.length):GdS T i0 (sl+k) (i+k) nd:=⟨by have:=h.lo;omega,hi,by have:=h.sl;omega,h.ni⟩
def One(i:Nat)(b:Bool)(i' :Nat):Prop:=(b=false/\i' =i)\/(b=true/\i' =i+1/\i' <=T.length)
theorem a4f(hi:i<=T.length)(hk:k≠0)(w:c6F):∃b i' off' c',fZ (pT T E N i nd off c) k w=some (b,pT T E N i' nd off' c')/\One (T:=T) i b i' :=by
 unfold fZ;obtain⟨b,e,hb⟩:=atT (E:=E) (N:=N) (nd:=nd) (off:=off) (c:=c) hT hi hk w;rw[e,o9];cases b
 .simp only[P9,o7];rw[bZ];obtain⟨off',he⟩:=O_ (T:=T) (E:=E) (N:=N) (i:=i) (nd:=nd) (off:=off) (c:=c) 2;exact⟨_,_,_,_,he,.inl ⟨rfl,rfl⟩⟩
 .have:=hb rfl;simp only[H7,o6];rw[dH o5];exact⟨true,i+1,off,c,rfl,.inr ⟨rfl,rfl,this⟩⟩
omit hT in
theorem Ua{i0 sl i i' :Nat}{b:Bool}(h:GdS T i0 sl i nd)(h1:One (T:=T) i b i'):GdS T i0 sl i' nd:=by
 rcases h1 with⟨-,rfl⟩|⟨-,rfl,h2⟩
 .exact h
 .exact ny (qW h 1 h2) (D7 _) o5
theorem TR(h:GdS T i0 sl i nd)(hk:k≠0)(w:c6F):Rs T E N i0 sl (fZ (pT T E N i nd off c) k w):=by obtain⟨b,i',off',c',e,h1⟩:=a4f (E:=E) (N:=N) (nd:=nd) (off:=off) (c:=c) hT h.hi hk w;rw[e];exact mF b (Ua h h1)
theorem b0T(h:GdS T i0 sl i nd)(w:c6F):Rs T E N i0 sl (U9 (pT T E N i nd off c) w):=by unfold U9;rw[bZ];exact TR hT h J8 w
theorem Am(h:GdS T i0 (sl+1) i nd)(op:Int){n:Int}(hn:eH n):Rs T E N i0 sl (I4 (pT T E N i nd off c) op n):=by
 unfold I4;have:=h.sl;have:=h.hi;simp only;rw[ru _ o5,o9];refine mF true ⟨h.lo,h.hi,by simp;omega,λm hm=>?_⟩;rcases J6.1 hm with hm|hm
 .exact h.ni m hm
 .simp at hm;subst hm;exact hn
omit hT in
theorem a7s{l:List c6F}(hl:l.length<=100000)(w:c6F):∃v,cu l w=some v/\eH v:=by
 by_cases h:∀x∈l,x≠w
 .exact⟨-1,(a4s o5 w).2 h,by unfold eH;omega⟩
 .have:∃j:Nat,b3e l j w:=by
   have hm:w∈l:=by apply jR;intro hn;exact h (λx hx e=>hn (by rw[←e];exact hx))
   clear h hl;induction l with
   |nil=>cases hm|cons a l ih=>
    by_cases ha:a=w
    .exact⟨0,by rw[ha];rfl,λx hx=>by cases hx⟩
    .rcases D8.1 hm with e|hm
     .exact absurd e.symm ha
     .obtain⟨j,h1,h2⟩:=ih hm;refine⟨j+1,h1,λx hx=>?_⟩;rw[List.take_succ_cons]at hx;rcases D8.1 hx with rfl|hx
      .exact ha
      .exact h2 x hx
  obtain⟨j,hj⟩:=this;have:=(bg.1 hj.1).1;exact⟨j,(a4s o5 w).1 j hj,by unfold eH;omega⟩
include hK in
theorem a7l(hi:i<=T.length){l:List c6F}(hl:l.length<=100000):∃v b i' off' c',gm (pT T E N i nd off c) l=some (v,b,pT T E N i' nd off' c')/\eH v/\One (T:=T) i b i' :=by
 have fl:∀e,∃v b i' off' c',(l9 (ae (pT T E N i nd off c) e) λ(x:Bool×A8)=>some ((0:Int),x))=some (v,b,pT T E N i' nd off' c')/\eH v/\One (T:=T) i b i' :=by intro e;obtain⟨off',he⟩:=O_ (T:=T) (E:=E) (N:=N) (i:=i) (nd:=nd) (off:=off) (c:=c) e;rw[he];exact⟨0,false,i,off',e,rfl,oI,.inl ⟨rfl,rfl⟩⟩
 unfold gm;rw[QQ hT hi,o9];by_cases g:(pk T i).1=1
 .have hlt:i<T.length:=SH (by rw[g];decide);simp only[U6 g,H7,o6];rw[mP (by have:=(b2n hK i).2;omega),o9];cases mJ (pk T i).2.1
  .exact fl 2
  .simp only[H7,o6];obtain⟨v,hv,hb⟩:=a7s hl (pk T i).2.1;rw[hv,o9];cases I5 v 0
   .simp only[o6];rw[dH o5];exact⟨v,true,i+1,off,c,rfl,hb,.inr ⟨rfl,rfl,hlt⟩⟩
   .exact fl 6
 .simp only[J7 g,P9,o7];exact fl 2
omit hT in
theorem b1R(w:c6F):∃v,zn w=some v/\eH v:=by
 unfold zn;have:=jH (f:=λ(x:Int)=>
   l7 (U7 x 5)
    (l9 (eY x) λ(x_1:c6F)=>
     l7 (seq x_1 w) (some (Out.rt x)) (some (Out.nx (G5 IntKind.i64 x 1))))
    (some (Out.ex PUnit.unit))) (s:=0) (λx=>∃j:Nat,x=(j:Int)/\j<=6) (λ_=>True) (λr=>eH r) (λx=>6 -x.toNat) ⟨0,rfl,o5⟩ D5 (by
  rintro x ⟨j,rfl,hj⟩;by_cases h5:j<=5
  .rw[bH o5,o7,Gf,o9];cases seq (wX (j:Int)) w
   .exact .inl ⟨_,rfl,⟨j+1,by rw[dH o5],o5⟩,by rw[dH o5];simp only[F7];omega⟩
   .exact .inr (.inr ⟨_,rfl,by unfold eH;omega⟩)
  .rw[dE o5];exact .inr (.inl ⟨_,rfl,trivial⟩))
 rcases this with⟨e,h,-⟩|⟨r,h,hr⟩
 .exact⟨-1,by refine Y5 h ?_;rfl,by unfold eH;omega⟩
 .exact⟨r,by refine Y5 h ?_;rfl,hr⟩
theorem b3q(hi:i<=T.length):∃v b i' off' c',bz (pT T E N i nd off c)=some (v,b,pT T E N i' nd off' c')/\eH v/\One (T:=T) i b i' :=by
 have fl:∀e,∃v b i' off' c',(l9 (ae (pT T E N i nd off c) e) λ(x:Bool×A8)=>some ((0:Int),x))=some (v,b,pT T E N i' nd off' c')/\eH v/\One (T:=T) i b i' :=by intro e;obtain⟨off',he⟩:=O_ (T:=T) (E:=E) (N:=N) (i:=i) (nd:=nd) (off:=off) (c:=c) e;rw[he];exact⟨0,false,i,off',e,rfl,oI,.inl ⟨rfl,rfl⟩⟩
 unfold bz;rw[QQ hT hi,o9];obtain⟨v,hv,hb⟩:=b1R (pk T i).2.1;simp only[hv,o9];by_cases g:(pk T i).1=1
 .have hlt:i<T.length:=SH (by rw[g];decide);simp only[U6 g,H7,o6];cases I5 v 0
  .simp only[o6];rw[dH o5];exact⟨v,true,i+1,off,c,rfl,hb,.inr ⟨rfl,rfl,hlt⟩⟩
  .exact fl 2
 .simp only[J7 g,P9,o7];exact fl 2
omit hT in
theorem b1t(w:c6F):∃v,vX w=some v:=by
 unfold vX;have:=jH (f:=cwF w) (s:=10) (λx=>∃j:Nat,x=(j:Int)/\10<=j/\j<=40) (λ_=>True) (λr=>True) (λx=>40 -x.toNat) ⟨10,rfl,o5,o5⟩ D5 (by
  rintro x ⟨j,rfl,h10,hj⟩;unfold cwF;by_cases h5:j<=39
  .rw[bH o5,o7];have nx:∃s',(some (Out.nx (G5 .i64 (j:Int) 1)):Option (Out Int PUnit Int))=some (.nx s')/\(∃j' :Nat,s' =(j' :Int)/\10<=j' /\j' <=40)/\40 -s'.toNat<40 -((j:Int)).toNat:=
    ⟨_,rfl,⟨j+1,by rw[dH o5],o5,o5⟩,by rw[dH o5];simp only[F7];omega⟩
   cases H5 (seq w [])
   .exact .inl nx
   .rw[o7,lm,o9];cases seq (pV (j:Int)) w
    .exact .inl nx
    .exact .inr (.inr ⟨_,rfl,trivial⟩)
  .rw[dE o5];exact .inr (.inl ⟨_,rfl,trivial⟩))
 rcases this with⟨e,h,-⟩|⟨r,h,-⟩
 .exact⟨0,by refine Y5 (show V4 (cwF w) 10=_ from h) ?_;rfl⟩
 .exact⟨r,by refine Y5 (show V4 (cwF w) 10=_ from h) ?_;rfl⟩
def opF(w:c6F)(x:Int):Option (Out Int PUnit (Int×Int)):=
     l7 (U7 x 24)
      (l9 (gY x) λ(x_1:c6F×Int)=>
       l7 (H5 (seq x_1.1 []))
        (l7 (seq x_1.1 w) (some (Out.rt (x,x_1.2))) (some (Out.nx (G5 IntKind.i64 x 1))))
        (some (Out.nx (G5 IntKind.i64 x 1))))
      (some (Out.ex PUnit.unit))
omit hT in
theorem opT(t:dF):∃o k,ku t=some (o,k):=by
 have:=jH (f:=opF t.2.1) (s:=11) (λx=>∃j:Nat,x=(j:Int)/\11<=j/\j<=25) (λ_=>True) (λr=>True) (λx=>25 -x.toNat) ⟨11,rfl,o5,o5⟩ D5 (by
  rintro x ⟨j,rfl,h10,hj⟩;unfold opF;by_cases h5:j<=24
  .rw[bH o5,o7,a4Z,o9];have nx:∃s',(some (Out.nx (G5 .i64 (j:Int) 1)):Option (Out Int PUnit (Int×Int)))=some (.nx s')/\(∃j' :Nat,s' =(j' :Int)/\11<=j' /\j' <=25)/\25 -s'.toNat<25 -((j:Int)).toNat:=
    ⟨_,rfl,⟨j+1,by rw[dH o5],o5,o5⟩,by rw[dH o5];simp only[F7];omega⟩
   cases H5 (seq (Ai (j:Int)).1 [])
   .exact .inl nx
   .rw[o7];cases seq (Ai (j:Int)).1 t.2.1
    .exact .inl nx
    .exact .inr (.inr ⟨_,rfl,trivial⟩)
  .rw[dE o5];exact .inr (.inl ⟨_,rfl,trivial⟩))
 have hl:∃o k,(l9 (V4 (opF t.2.1) 11) λ(o:PUnit⊕H6)=>Z8 o (λ(y:PUnit)=>some ((0:Int),(0:Int))) λ(r:H6)=>some r)=some (o,k):=by
  rcases this with⟨e,h,-⟩|⟨r,h,-⟩
  .rw[h];exact⟨0,0,rfl⟩
  .rw[h];exact⟨r.1,r.2,rfl⟩
 obtain⟨o,k,h⟩:=hl;unfold ku;cases H5 (C9 t.1 7)
 .exact⟨o,k,h⟩
 .cases H5 (C9 t.1 1)
  .exact⟨o,k,h⟩
  .exact⟨0,0,rfl⟩
end
end
section
structure NmLe (N:E9):Prop where
 e:N.1.length<=100000/\∀e∈N.1,e.2.length<=100000
 t:N.2.1.length<=100000
 i:N.2.2.1.length<=100000
 d:N.2.2.2.1.length<=100000
 m:N.2.2.2.2.length<=100000
theorem b7T{l:List bK}(hl:l.length<=100000)(t:dF):∃v,gV l t=some v/\v<A7 l:=by
 unfold gV vG;have:=jH (f:=λ(x:Int)=>l7 (I5 x (A7 l)) (l9 (P5 l x) λ(x_1:bK)=>l9 (some (seq x_1.1 t.2.1)) λ(x_2:Bool)=>l7 x_2 (some (Out.rt x)) (some (Out.nx (G5 IntKind.i64 x 1)))) (some (Out.ex PUnit.unit))) (s:=0) (λx=>∃j:Nat,x=(j:Int)/\j<=l.length) (λ_=>True) (λr=>r<A7 l) (λx=>l.length -x.toNat) ⟨0,rfl,o5⟩ E5 (by
  rintro x ⟨j,rfl,hj⟩;by_cases h5:j<l.length
  .rw[aP (by unfold A7;omega),o7,V8,lF h5,o9,o9];cases seq l[j].1 t.2.1
   .exact .inl ⟨_,rfl,⟨j+1,by rw[dH o5],o5⟩,by rw[dH o5];simp only[F7];omega⟩
   .exact .inr (.inr ⟨_,rfl,by unfold A7;omega⟩)
  .rw[U1 (by unfold A7;omega)];exact .inr (.inl ⟨_,rfl,trivial⟩))
 rcases this with⟨e,h,-⟩|⟨r,h,hr⟩
 .exact⟨-1,by refine Y5 h ?_;rfl,by unfold A7;omega⟩
 .exact⟨r,by refine Y5 h ?_;rfl,hr⟩
variable {i0:Nat}{sl:Nat}{i:Nat}{nd:List (Int×Int)}{off:Int}{c:Int}{m:Nat}
section
variable {T:List dF} {E:Int} {N:E9}
theorem ZH{i0 sl i0' sl' :Nat}{o:Option (Bool×A8)}(h:Rs T E N i0 sl o)(h1:i0' <=i0)(h2:sl' <=sl):Rs T E N i0' sl' o:=by obtain⟨b,i,nd,off,c,e,hg⟩:=h;exact⟨b,i,nd,off,c,e,ny hg h1 h2⟩
variable (hT:T.length<=65536) (hK:∀x∈T,TkG x) (hN:NmLe N)
include hT hK hN
theorem b8f(h:GdS T i0 sl i nd)(hlt:i<T.length):Rs T E N i0 sl (sZ (pT T E N i nd off c)):=by
 unfold sZ;rw[QQ hT h.hi,o9];simp only;rw[show az (pT T E N i nd off c) 1=_ from a8g hT h.hi 1 o5,o9];simp only;rw[mP (by have:=(b2n hK i).2;omega),o9];cases mJ (pk T i).2.1
 .simp only[P9,o7];rw[bZ];exact a7i h 2
 simp only[H7,o6];have hq:∃b,(l7 (C9 (pk T (i+1)).1 7) (some (seq (pk T (i+1)).2.1 [58])) (some false))=some b/\(b=true->i+1<T.length):=by
  by_cases g:(pk T (i+1)).1=7
  .rw[U6 g];exact⟨_,rfl,λ_=>SH (by rw[g];decide)⟩
  .rw[J7 g];exact⟨false,rfl,λh=>by cases h⟩
 obtain⟨b,hb,hb2⟩:=hq;rw[hb,o9];have hlo:=h.lo;have hhi:=h.hi;have hsl:=h.sl;cases b
 .simp only[o6];obtain⟨v,hv,hvI⟩:=a7s hN.i (pk T i).2.1;rw[hv,o9];cases U7 0 v
  .rw[o6];obtain⟨v2,b2,i',off',c',e,e2,e3⟩:=a7l (E:=E) (N:=N) (nd:=nd) (off:=off) (c:=c) hT hK h.hi hN.d;rw[e,o9];simp only;rcases e3 with⟨rfl,rfl⟩|⟨rfl,rfl,e4⟩
   .exact mF false h
   .simp only[o7];rw[bZ];exact Am hT (qW h 1 e4) 8 e2
  .rw[o7,dH o5,bZ];exact Am hT (qW h 1 hlt) 7 hvI
 .simp only[o7];have hi2:=hb2 rfl;obtain⟨v,hv,hvl⟩:=b7T hN.e.1 (pk T i);rw[hv,o9];by_cases h0:v<0
  .rw[aP h0,o7,bZ];exact a7i h 6
  .obtain⟨en,he,hme⟩:=vH (l:=N.1) (i:=v) o5 hvl;rw[U1 o5,o6,he,o9];rw[show G5 .i64 (i:Int) 2=((i+2:Nat):Int) by rw[dN di];omega];obtain⟨v2,b2,i',off',c',e,e2,e3⟩:=a7l (E:=E) (N:=N) (nd:=nd) (off:=off) (c:=c) (i:=i+2) hT hK o5 (hN.e.2 en hme);rw[show gm (T,((i+2:Nat):Int),E,N,nd,off,c) en.2=_ from e,o9];simp only;have g2:=qW h 2 o5;rcases e3 with⟨rfl,rfl⟩|⟨rfl,rfl,e4⟩
   .exact mF false (ny g2 (D7 _) o5)
   .simp only[o7];rw[bZ];exact Am hT (ny (qW g2 1 e4) (D7 _) o5) 6 (YU _ _)
structure AllT (T:List dF) (E:Int) (N:E9) (m:Nat):Prop where
 e:∀i0 sl i nd off c,GdS T i0 sl i nd->6*(T.length -i)+5<=m->Rs T E N i0 sl ((o8 m).1 (pT T E N i nd off c))
 b:∀k i0 sl i nd off c,GdS T i0 sl i nd->6*(T.length -i)+4<=m->Rs T E N i0 sl ((o8 m).2.1 (pT T E N i nd off c) k)
 u:∀i0 sl i nd off c,GdS T i0 sl i nd->6*(T.length -i)+3<=m->Rs T E N i0 sl ((o8 m).2.2.1 (pT T E N i nd off c))
 a:∀i0 sl i nd off c,GdS T i0 sl i nd->6*(T.length -i)+2<=m->Rs T E N i0 sl ((o8 m).2.2.2.1 (pT T E N i nd off c))
 c:∀op i0 sl i nd off c,GdS T i0 (sl+1) i nd->6*(T.length -i)+6<=m->Rs T E N i0 sl ((o8 m).2.2.2.2 (pT T E N i nd off c) op)
omit hK hN in
theorem b7R(ih:AllT T E N m)(h:GdS T i0 sl i nd)(hm:6*(T.length -i)+5<=m+1):Rs T E N i0 sl ((o8 (m+1)).1 (pT T E N i nd off c)):=by
 rw[c6f];unfold mX;obtain⟨b,e,hb⟩:=atT (E:=E) (N:=N) (nd:=nd) (off:=off) (c:=c) hT h.hi (k:=1) J8 [105,102];rw[e,o9];have hhi:=h.hi;cases b
 .simp only[P9,o7];rw[bZ];exact ih.b 1 _ _ _ _ _ _ h o5
 .have hlt:=hb rfl;simp only[H7,o6];rw[dH o5];have g1:=qW h 1 hlt;have lo1:i+1<=i+1:=D7 _;have ge:GdS T (i+1) (sl+1) (i+1) nd:=⟨D7 _,g1.hi,g1.sl,g1.ni⟩;have hi0:=h.lo;refine ZH (i0:=i+1) (sl:=sl) ?_ o5 (D7 _);refine vS (ih.e _ _ _ _ _ _ ge o5) (λb i' nd' off' c' hg=>?_);refine jc b ?_ (mF false (ny hg (D7 _) o5));refine vS (TR hT hg J8 _) (λb i' nd' off' c' hg=>?_);refine jc b ?_ (mF false (ny hg (D7 _) o5));refine vS (ih.e _ _ _ _ _ _ hg (by have:=hg.lo;omega)) (λb i' nd' off' c' hg=>?_);refine jc b ?_ (mF false (ny hg (D7 _) o5));refine vS (TR hT hg J8 _) (λb i' nd' off' c' hg=>?_);refine jc b ?_ (mF false (ny hg (D7 _) o5));refine vS (ih.e _ _ _ _ _ _ hg (by have:=hg.lo;omega)) (λb i' nd' off' c' hg=>?_);refine jc b ?_ (mF false (ny hg (D7 _) o5));rw[bZ];exact Am hT hg 26 oI
omit hN in
theorem c5w(ih:AllT T E N m)(h:GdS T i0 sl i nd)(hm:6*(T.length -i)+3<=m+1):Rs T E N i0 sl ((o8 (m+1)).2.2.1 (pT T E N i nd off c)):=by
 have hhi:=h.hi;have hlo:=h.lo;rw[c6g];unfold qU;obtain⟨b,e,hb⟩:=atT (E:=E) (N:=N) (nd:=nd) (off:=off) (c:=c) hT h.hi (k:=7) J8 [45];rw[e,o9];cases b
 .simp only[o6];obtain⟨b,e,hb⟩:=atT (E:=E) (N:=N) (nd:=nd) (off:=off) (c:=c) hT h.hi (k:=1) J8 [110,111,116];rw[e,o9];cases b
  .simp only[o6];rw[bZ];exact ih.a _ _ _ _ _ _ h o5
  .have hlt:=hb rfl;simp only[o7];rw[dH o5];have g1:=qW h 1 hlt;refine vS (ih.u _ _ _ _ _ _ g1 o5) (λb i' nd' off' c' hg=>?_);refine jc b ?_ (mF false (ny hg (D7 _) o5));rw[bZ];exact Am hT hg 25 oI
 .have hlt:=hb rfl;simp only[o7];rw[show az (pT T E N i nd off c) 1=_ from a8g hT h.hi 1 o5,o9,a4C,o9];by_cases hl:b1N (pk T (i+1)).1=0
  .simp only[hl,U6 (rfl:(0:Int)=0),H7,o6];rw[dH o5];have g1:=qW h 1 hlt;refine vS (ih.u _ _ _ _ _ _ g1 o5) (λb i' nd' off' c' hg=>?_);refine jc b ?_ (mF false (ny hg (D7 _) o5));rw[bZ];exact Am hT hg 10 oI
  .have h1:i+1<T.length:=SH (by
    intro e;apply hl;rw[e];rfl)
   simp only[J7 hl,P9,o7];rw[show G5 .i64 (i:Int) 2=((i+2:Nat):Int) by rw[dN di];omega,o9,bZ];exact Am hT (ny (qW h 2 o5) (D7 _) o5) _ (a4w _ _)
theorem b7x(ih:AllT T E N m)(h:GdS T i0 sl i nd)(hm:6*(T.length -i)+2<=m+1):Rs T E N i0 sl ((o8 (m+1)).2.2.2.1 (pT T E N i nd off c)):=by
 have hhi:=h.hi;have hlo:=h.lo;rw[c6d];unfold rO;rw[QQ hT h.hi,o9,a4C,o9];by_cases hl:b1N (pk T i).1=0
 .simp only[hl,U6 (rfl:(0:Int)=0),H7,o6];by_cases h5:(pk T i).1=5
  .have hlt:i<T.length:=SH (by rw[h5];decide);simp only[U6 h5,o7];rw[dH o5,bZ];exact Am hT (qW h 1 hlt) 5 (b2n hK i).1
  .simp only[J7 h5,o6];obtain⟨b,e,hb⟩:=atT (E:=E) (N:=N) (nd:=nd) (off:=off) (c:=c) hT h.hi (k:=7) J8 [40];rw[e,o9];cases b
   .simp only[o6];by_cases h1:(pk T i).1=1
    .have hlt:i<T.length:=SH (by rw[h1];decide);simp only[U6 h1,H7,o6];rw[dH o5];have g1:=qW h 1 hlt;have em:∀op n:Int,eH n->Rs T E N i0 sl (l9 (I4 (pT T E N (i+1) nd off c) op n) λ(x:Bool×A8)=>some x):=by
      intro op n hn;rw[bZ];exact Am hT g1 op hn
     refine jc _ (em 1 1 di) (jc _ (em 1 0 oI) (jc _ (em 9 0 oI) ?_));obtain⟨v,hv⟩:=b1t (pk T i).2.1;rw[hv,o9];simp only[o9];refine jc _ ?_ ?_
     .obtain⟨b,i',off',c',e,h1⟩:=a4f (E:=E) (N:=N) (nd:=nd) (off:=off) (c:=c) hT (show i+1<=T.length from hlt) (k:=7) J8 [40];unfold U9;rw[bZ,show fZ (T,((i+1:Nat):Int),E,N,nd,off,c) 7 [40]=_ from e,o9];rcases h1 with⟨rfl,rfl⟩|⟨rfl,rfl,h2⟩
      .exact mF false (ny g1 (D7 _) o5)
      .simp only[o7];have g2:=qW g1 1 h2;refine vS (ih.c v i0 (sl+1) (i+1+1) nd off' c' g2 o5) (λb i' nd' off' c' hg=>?_);refine jc b ?_ (mF false (ny hg (D7 _) o5));rw[bZ,bZ];exact TR hT (ny hg (D7 _) o5) J8 _
     .rw[bZ];exact b8f hT hK hN h hlt
    .simp only[J7 h1,P9,o7];rw[bZ];exact a7i h 2
   .have hlt:=hb rfl;simp only[o7];rw[dH o5];have g1:=qW h 1 hlt;refine vS (ih.e _ _ _ _ _ _ (ny g1 (D7 _) (by omega:sl<=sl+1)) o5) (λb i' nd' off' c' hg=>?_);refine jc b ?_ (mF false hg);rw[bZ];exact b0T hT hg _
 .have hlt:i<T.length:=SH (by intro e;apply hl;rw[e];rfl);simp only[J7 hl,P9,o7];rw[o9,dH o5,bZ];exact Am hT (qW h 1 hlt) _ (b2n hK i).1
omit hK hN in
theorem b7K(ih:AllT T E N m){k:Int}(h:GdS T i0 sl i nd)(hm:6*(T.length -i)+4<=m+1):Rs T E N i0 sl ((o8 (m+1)).2.1 (pT T E N i nd off c) k):=by
 rw[b8j];have hlo:=h.lo;have gi:GdS T i sl i nd:=⟨D7 _,h.hi,h.sl,h.ni⟩;refine ZH (i0:=i) (sl:=sl) ?_ hlo (D7 _);refine vS (ih.u _ _ _ _ _ _ gi o5) (λb i' nd' off' c' hg=>?_);refine jc _ (mF false hg) ?_;have hloop:=jH (f:=biF (o8 m).2.1 k) (s:=(pT T E N i' nd' off' c',5)) (λx=>∃i' nd' off' c' g,x=(pT T E N i' nd' off' c',g)/\GdS T i sl i' nd') (λ_=>False) (λr=>Rs T E N i sl (some r)) (λx=>T.length -x.1.2.1.toNat) ⟨i',nd',off',c',5,rfl,hg⟩ E5 (by
  rintro x ⟨i',nd',off',c',g,rfl,hg⟩;have hhi:=hg.hi;have hlo:=hg.lo;unfold biF;simp only;rw[QQ hT hg.hi,o9];simp only;obtain⟨o,kk,ho⟩:=opT (pk T i');rw[ho,o9];by_cases h0:o=0
  .simp only[U6 h0,o7,o9,gI];exact .inr (.inr ⟨_,rfl,mF true hg⟩)
  .have hlt:i' <T.length:=by
    rcases pF i' T.length with h|h
    .exact h
    .exfalso;have:pk T i' =(0,[],0,0):=by unfold pk;rw[aA h];rfl
     rw[this]at ho;have e0:=b2g (t:=(0,[],0,0)) (.inl rfl);rw[e0]at ho;cases ho;exact h0 rfl
   simp only[J7 h0,o6];cases I5 kk k
   case true=>simp only[o7,o9,gI];exact .inr (.inr ⟨_,rfl,mF true hg⟩)
   simp only[o6];cases I5 g kk
   case true=>simp only[o7,o9,gI];exact .inr (.inr ⟨_,rfl,mF true hg⟩)
   simp only[o6,o9,V6];rw[dH o5];have g1:=qW hg 1 hlt;have g1' :GdS T (i' +1) (sl+1) (i' +1) nd' :=⟨D7 _,g1.hi,g1.sl,g1.ni⟩;obtain⟨b2,i2,nd2,off2,c2,e2,hg2⟩:=ih.b (G5 .i64 kk 1) (i' +1) (sl+1) (i' +1) nd' off' c' g1' o5;have hlo2:=hg2.lo;have hhi2:=hg2.hi;rw[show(o8 m).2.1 (T,((i' +1:Nat):Int),E,N,nd',off',c') (G5 .i64 kk 1)=_ from e2,o9];have hg2' :GdS T i (sl+1) i2 nd2:=⟨o5,hg2.hi,hg2.sl,hg2.ni⟩;cases b2
   .simp only[P9,o7];exact .inr (.inr ⟨_,rfl,mF false (ny hg2' (D7 _) o5)⟩)
   .simp only[H7,o6];obtain⟨b3,i3,nd3,off3,c3,e3,hg3⟩:=Am (E:=E) (N:=N) (off:=off2) (c:=c2) hT ⟨D7 i2,hg2.hi,hg2.sl,hg2.ni⟩ o oI;have hi3:=hg3.lo;rw[e3,o9];have hg3' :GdS T i sl i3 nd3:=⟨o5,hg3.hi,hg3.sl,hg3.ni⟩;cases C9 kk 3
    .exact .inl ⟨_,rfl,⟨i3,nd3,off3,c3,kk,rfl,hg3'⟩,by simp only[F7];omega⟩
    .exact .inl ⟨_,rfl,⟨i3,nd3,off3,c3,_,rfl,hg3'⟩,by simp only[F7];omega⟩)
 rcases hloop with⟨e,h,hf⟩|⟨e,h,hf⟩
 .exact hf.elim
 .rw[h,o9,gI];exact hf
end
end
section
variable {i0:Nat}{sl:Nat}{i:Nat}{nd:List (Int×Int)}{off:Int}{c:Int}{i1:Nat}{sl1:Nat}
section
variable {T:List dF} {E:Int} {N:E9}
variable (hT:T.length<=65536) (hK:∀x∈T,TkG x) (hN:NmLe N)
def Ri(T:List dF)(E:Int)(N:E9)(i0 sl:Nat)(o:Option (A8⊕Bool×A8)):Prop:=∃b i nd off c,o=some (.inr (b,pT T E N i nd off c))/\GdS T i0 sl i nd
theorem Lj(b:Bool)(h:GdS T i0 sl i nd):Ri T E N i0 sl (some (.inr (b,pT T E N i nd off c))):=⟨b,i,nd,off,c,rfl,h⟩
theorem ZG{o:Option (Bool×A8)}{K:Bool×A8->Option (A8⊕Bool×A8)}(h:Rs T E N i0 sl o)(hK:∀b i nd off c,GdS T i0 sl i nd->Ri T E N i1 sl1 (K (b,pT T E N i nd off c))):Ri T E N i1 sl1 (l9 o K):=by obtain⟨b,i,nd,off,c,rfl,hg⟩:=h;exact hK b i nd off c hg
theorem Gn{x y:Option (A8⊕Bool×A8)}(b:Bool)(h1:Ri T E N i0 sl x)(h2:Ri T E N i0 sl y):Ri T E N i0 sl (l7 b x y):=by cases b<;>assumption
theorem a0M{o:Option (Bool×A8)}(h:Rs T E N i0 sl o):Ri T E N i0 sl (l9 o λ(x:Bool×A8)=>some (Sum.inr x)):=by obtain⟨b,i,nd,off,c,rfl,hg⟩:=h;exact Lj b hg
include hT
theorem b2z{K:Int×Bool×A8->Option (Bool×A8)}(h:GdS T i0 sl i nd)(hK:∀v b i' off' c',eH v->GdS T i0 sl i' nd->Rs T E N i1 sl1 (K (v,b,pT T E N i' nd off' c'))):Rs T E N i1 sl1 (l9 (bz (pT T E N i nd off c)) K):=by obtain⟨v,b,i',off',c',e,hv,h1⟩:=b3q (E:=E) (N:=N) (nd:=nd) (off:=off) (c:=c) hT h.hi;rw[e];exact hK v b i' off' c' hv (Ua h h1)
theorem b2y{K:Int×Bool×A8->Option (A8⊕Bool×A8)}(h:GdS T i0 sl i nd)(hK:∀v b i' off' c',eH v->GdS T i0 sl i' nd->Ri T E N i1 sl1 (K (v,b,pT T E N i' nd off' c'))):Ri T E N i1 sl1 (l9 (bz (pT T E N i nd off c)) K):=by obtain⟨v,b,i',off',c',e,hv,h1⟩:=b3q (E:=E) (N:=N) (nd:=nd) (off:=off) (c:=c) hT h.hi;rw[e];exact hK v b i' off' c' hv (Ua h h1)
include hK
theorem a4W{l:List c6F}{K:Int×Bool×A8->Option (A8⊕Bool×A8)}(h:GdS T i0 sl i nd)(hl:l.length<=100000)(hK' :∀v b i' off' c',eH v->GdS T i0 sl i' nd->Ri T E N i1 sl1 (K (v,b,pT T E N i' nd off' c'))):Ri T E N i1 sl1 (l9 (gm (pT T E N i nd off c) l) K):=by obtain⟨v,b,i',off',c',e,hv,h1⟩:=a7l (E:=E) (N:=N) (nd:=nd) (off:=off) (c:=c) hT hK h.hi hl;rw[e];exact hK' v b i' off' c' hv (Ua h h1)
include hN
theorem b7M{m:Nat}(ih:AllT T E N m){op:Int}(h:GdS T i0 (sl+1) i nd)(hm:6*(T.length -i)+6<=m+1):Rs T E N i0 sl ((o8 (m+1)).2.2.2.2 (pT T E N i nd off c) op):=by
 rw[c6e];have hhi:=h.hi;have hlo:=h.lo;have hi:GdS T i (sl+1) i nd:=⟨D7 _,h.hi,h.sl,h.ni⟩;have dn:∀{j:Nat} {nd' :List (Int×Int)},GdS T i (sl+1) j nd' ->GdS T i sl j nd' :=λg=>ny g (D7 _) o5;refine ZH (i0:=i) (sl:=sl) ?_ hlo (D7 _);unfold rP;have body:Ri T E N i sl (l7 (C9 op 35) (l9 (I4 (pT T E N i nd off c) op 0) λ(x:Bool×A8)=>some (Sum.inr x)) (some (.inr (true,pT T E N i nd off c)))):=Gn _ (a0M (Am hT hi op oI)) (Lj _ (dn hi));have tail:Rs T E N i sl (l9 ((o8 m).1 (pT T E N i nd off c)) λ(x:Bool×A8)=>
    l7 (H5 x.1) (some (false,x.2))
     (l7 (C9 op 31)
      (l7 (C9 op 31) (l9 (I4 x.2 op 0) λ(x:Bool×A8)=>some x) (some (false,x.2)))
      (some (false,x.2)))):=by
  refine vS (ih.e _ _ _ _ _ _ hi o5) (λb i1 nd1 off1 c1 g1=>?_);refine jc _ (mF false (dn g1)) (jc _ (jc _ ?_ (mF false (dn g1))) (mF false (dn g1)));rw[bZ];exact Am hT g1 op oI
 have md:∀{j:Nat} {nd' :List (Int×Int)} {off' c' :Int},GdS T i (sl+1) j nd' ->Rs T E N i sl (l9 (U9 (pT T E N j nd' off' c') [44]) λ(x:Bool×A8)=>
   l7 (H5 x.1) (some (false,x.2))
    (l9 (bz x.2) λ(x:Int×Bool×A8)=>
     l7 x.2.1
      (l9 (I4 x.2.2 op x.1) λ(x:Bool×A8)=>some x)
      (some (false,x.2.2)))):=by
  intro j nd' off' c' g;refine vS (b0T hT g _) (λb i1 nd1 off1 c1 g1=>jc _ (mF false (dn g1)) ?_);refine b2z hT g1 (λv b i2 off2 c2 hv g2=>jc _ ?_ (mF false (dn g2)));rw[bZ];exact Am hT g2 op hv
 have em:∀{j:Nat} {nd' :List (Int×Int)} {off' c' :Int},GdS T i (sl+1) j nd' ->Rs T E N i sl (l9 (I4 (pT T E N j nd' off' c') op 0) λ(x:Bool×A8)=>some x):=by intro j nd' off' c' g;rw[bZ];exact Am hT g op oI
 clear body tail;have early:∀{A:Option (A8⊕Bool×A8)} {f:A8->Option (Bool×A8)},Ri T E N i sl A->Rs T E N i sl (l9 A λo=>Z8 o f λr=>some r):=by intro A f hA;obtain⟨b,j,nd',off',c',rfl,g⟩:=hA;exact mF b g
 cases C9 op 35
 case true=>exact early (a0M (Am hT hi op oI))
 have h36:∃b,(l7 (C9 op 36) (some (C9 op 36))
    (l7 (C9 op 37) (some (C9 op 37)) (l7 (C9 op 38) (some (C9 op 38)) (some (C9 op 39)))))=some b:=by
  cases C9 op 36<;>cases C9 op 37<;>cases C9 op 38<;>exact⟨_,rfl⟩
 obtain⟨b36,h36⟩:=h36;rw[o6,h36,o9];cases b36
 case true=>rw[o7];refine early (a4W hT hK hi hN.m (λv b i2 off2 c2 hv g2=>Gn _ (a0M (Am hT g2 op hv)) (Lj _ (dn g2))))
 have h33:∃b,(l7 (C9 op 33) (some (C9 op 33)) (some (C9 op 34)))=some b:=by cases C9 op 33<;>exact⟨_,rfl⟩
 obtain⟨b33,h33⟩:=h33;rw[o6,h33,o9];cases b33
 case true=>rw[o7];refine early (a4W hT hK hi hN.t (λv b i1 off1 c1 hv g1=>Gn _ (Lj _ (dn g1)) ?_));refine ZG (b0T hT g1 _) (λb i2 nd2 off2 c2 g2=>Gn _ (Lj _ (dn g2)) ?_);refine ZG (ih.e _ _ _ _ _ _ g2 (by have:=g2.lo;omega)) (λb i3 nd3 off3 c3 g3=>Gn _ (Lj _ (dn g3)) ?_);refine Gn _ (a0M (Am hT g3 op hv)) ?_;refine ZG (b0T hT g3 _) (λb i4 nd4 off4 c4 g4=>Gn _ (Lj _ (dn g4)) ?_);refine b2y hT g4 (λw b i5 off5 c5 hw g5=>Gn _ (a0M (Am hT g5 op (YU _ _))) (Lj _ (dn g5)))
 rw[o6,o9,V6];refine vS (ih.e _ _ _ _ _ _ hi o5) (λb i1 nd1 off1 c1 g1=>jc _ (mF false (dn g1)) ?_);refine jc _ (jc _ (em g1) ?_) (jc _ (em g1) ?_)
 all_goals
  refine vS (b0T hT g1 _) (λb i2 nd2 off2 c2 g2=>jc _ (mF false (dn g2)) ?_);refine vS (ih.e _ _ _ _ _ _ g2 (by have:=g2.lo;omega)) (λb i3 nd3 off3 c3 g3=>jc _ (mF false (dn g3)) ?_);exact jc _ (jc _ (md g3) (em g3)) (jc _ (jc _ (md g3) (em g3)) (jc _ (md g3) (em g3)))
theorem a3S:∀m,AllT T E N m
 |0=>⟨λ_ _ _ _ _ _ _ h=>by omega,λ_ _ _ _ _ _ _ _ h=>by omega,λ_ _ _ _ _ _ _ h=>by omega,λ_ _ _ _ _ _ _ h=>by omega,λ_ _ _ _ _ _ _ _ h=>by omega⟩|m+1=>
  have ih:=a3S m
  ⟨λ_ _ _ _ _ _ h hm=>b7R hT ih h hm,λ_ _ _ _ _ _ _ h hm=>b7K hT ih h hm,λ_ _ _ _ _ _ h hm=>c5w hT hK ih h hm,λ_ _ _ _ _ _ h hm=>b7x hT hK hN ih h hm,λ_ _ _ _ _ _ _ h hm=>b7M hT hK hN ih h hm⟩
end
end
section
theorem a9i{s:c6F}{i:Nat}{c:UInt8}(h:s[i]? =some c)(hc:128<=c.toNat):127<nG s (i:Int):=by
 have hg:(ByteArray.mk s.toArray).get! i=c:=by
  unfold ByteArray.get!;have:(s.toArray)[i]! =c:=by simp[h]
  exact this
 have hd:127<(Utf8.decode ⟨s.toArray⟩ i).1:=by
  unfold Utf8.decode;simp only[aH,hg];rw[if_neg o5];have e:127<Utf8.runeError:=by decide
  split
  .split
   .rename_i h1 h2;simp only;omega
   .exact e
  .split
   .split
    .rename_i h1 h2 h3;simp only[D6,decide_eq_true_eq]at h3;simp only;omega
    .exact e
   .split
    .split
     .rename_i h1 h2 h3 h4;simp only[D6,decide_eq_true_eq]at h4;simp only;omega
     .exact e
    .exact e
 unfold nG;rw[F7];omega
def LnB(b:UInt8):Prop:=b=9\/prB b=true
theorem XP:∀L:List c6F,L.length<=(xC L).length
 |[]=>D7 _|w::L=>by have:=XP L;simp[xC];omega
theorem a6w(s:c6F):∃L c,vJ s=some (L,c)/\(c=0->s=xC L/\s.length<=65536/\∀w∈L,∀b∈w,LnB b):=by
 unfold vJ;by_cases hl:65536<A7 s
 .rw[aP hl];exact⟨[],4,rfl,λh=>by cases h⟩
 have hl' :s.length<=65536:=by unfold A7 at hl;omega
 rw[U1 o5,o6];cases hq:seq s []
 case true=>exact⟨[],0,rfl,λ_=>⟨by rw[jW.1 hq];rfl,hl',λw hw=>by cases hw⟩⟩
 rw[o6];have hloop:=jH (f:=spF s) (s:=([],0,s,0)) (λx=>∃st p:Nat,x.2.1=(st:Int)/\x.2.2.1=s/\x.2.2.2=(p:Int)/\st<=p/\p<=s.length/\s.take st=xC x.1/\x.1.length<=st/\(∀w∈x.1,∀b∈w,LnB b)/\∀b∈(s.take p).drop st,LnB b)
  (λe=>∃st:Nat,e.2=(st:Int)/\st<=s.length/\s.take st=xC e.1/\∀w∈e.1,∀b∈w,LnB b) (λr=>r=([],2)) (λx=>s.length -x.2.2.2.toNat)
  ⟨0,0,rfl,rfl,rfl,D7 _,cO _,rfl,D7 _,(λw hw=>by cases hw),λb hb=>by simp at hb⟩ E5 (by
  rintro⟨acc,st0,s',p0⟩ ⟨st,p,h1,h2,h3,h4,h5,h6,h7,h8,h9⟩;simp only at h1 h2 h3 h6 h7 h8;subst h1;subst h2;subst h3;by_cases hlt:p<s'.length
  .have hc:=lF hlt;generalize s'[p]=c at hc;unfold spF;simp only[aF hc,o7];by_cases hb:c.toNat<128
   .obtain⟨r1,r2⟩:=QZ hc hb;rw[r1,r2];have tk:s'.take (p+1)=s'.take p++[c]:=by
     rw[Jc,hc];rfl
    have nx:LnB c->∃s'',(some (Out.nx (acc,(st:Int),s',((p+1:Nat):Int))):Option (Out (List c6F×Int×c6F×Int) (List c6F×Int) (List c6F×Int)))=some (.nx s'')/\(∃st p:Nat,s''.2.1=(st:Int)/\s''.2.2.1=s' /\s''.2.2.2=(p:Int)/\st<=p/\p<=s'.length/\s'.take st=xC s''.1/\s''.1.length<=st/\(∀w∈s''.1,∀b∈w,LnB b)/\∀b∈(s'.take p).drop st,LnB b)/\s'.length -s''.2.2.2.toNat<s'.length -((p:Int)).toNat:=by
     intro hL;refine⟨_,rfl,⟨st,p+1,rfl,rfl,rfl,o5,hlt,h6,h7,h8,λb hb=>?_⟩,by simp only[F7];omega⟩;rw[tk,kX E5]at hb;rcases J6.1 hb with hb|hb
     .exact h9 b hb
     .simp at hb;subst hb;exact hL
    by_cases h10:(c.toNat:Int)=10
    .rw[U6 h10,o7,show gy s' (st:Int) (p:Int)=_ from a0f h4 o5,o9,ru _ o5,o9,dH o5];have hc10:c=10:=by
      have:c.toNat=10:=o5;exact UInt8.toNat_inj.1 this
     refine .inl ⟨_,rfl,⟨p+1,p+1,rfl,rfl,rfl,D7 _,hlt,?_,by simp;omega,λw hw=>?_,λb hb=>by simp[jf]at hb⟩,by simp only[F7];omega⟩
     .simp only;rw[XO,←h6,tk,hc10];have e1:s'.take p=s'.take st++(s'.take p).drop st:=by
       have:=(Z4 st (s'.take p)).symm;rw[ig,iJ h4]at this;exact this
      rw[show xC [(s'.take p).drop st]=(s'.take p).drop st++[10]from rfl,←E8,←e1]
     .rcases J6.1 hw with hw|hw
      .exact h8 w hw
      .simp only[lH]at hw;subst hw;exact h9
    rw[J7 h10,o6];by_cases h9' :(c.toNat:Int)=9
    .rw[U6 h9',o7];exact .inl (nx (.inl (by have:c.toNat=9:=o5;exact UInt8.toNat_inj.1 this)))
    rw[J7 h9',o6];by_cases h32:(32:Int)<=(c.toNat:Int)
    .rw[bH h32,o7];by_cases h126:(c.toNat:Int)<=126
     .rw[bH h126,o7];exact .inl (nx (.inr (by unfold prB;simp;omega)))
     .rw[dE o5];exact .inr (.inr ⟨_,rfl,rfl⟩)
    .rw[dE o5];exact .inr (.inr ⟨_,rfl,rfl⟩)
   .have hh:=a9i hc o5;rw[J7 o5,o6,J7 o5,o6,bH o5,o7,dE o5];exact .inr (.inr ⟨_,rfl,rfl⟩)
  .unfold spF;rw[U1 (by unfold A7;simp only;omega)];exact .inr (.inl ⟨_,rfl,st,rfl,o5,h6,h8⟩))
 rcases hloop with⟨e,h,st,h1,h2,h3,h4⟩|⟨e,h,rfl⟩
 .have:∃L c,(l9 (V4 (spF s) ([],0,s,0)) λ(o:List c6F×Int⊕List c6F×Int)=>
   Z8 o (λ(y:List c6F×Int)=>l7 (H5 (C9 y.2 (A7 s))) (some ([],2)) (some (y.1,0)))
    λ(r:List c6F×Int)=>some r)=some (L,c)/\(c=0->s=xC L/\s.length<=65536/\∀w∈L,∀b∈w,LnB b):=by
   rw[h,o9,V6];by_cases hf:e.2=A7 s
   .rw[U6 hf];refine⟨_,_,rfl,λ_=>⟨?_,hl',h4⟩⟩;rw[←h3,W9 (by unfold A7 at hf;omega)]
   .rw[J7 hf];exact⟨_,_,rfl,λh=>by cases h⟩
  exact this
 .have:∃L c,(l9 (V4 (spF s) ([],0,s,0)) λ(o:List c6F×Int⊕List c6F×Int)=>
   Z8 o (λ(y:List c6F×Int)=>l7 (H5 (C9 y.2 (A7 s))) (some ([],2)) (some (y.1,0)))
    λ(r:List c6F×Int)=>some r)=some (L,c)/\(c=0->s=xC L/\s.length<=65536/\∀w∈L,∀b∈w,LnB b):=by
   rw[h];exact⟨_,_,rfl,λh=>by cases h⟩
  exact this
theorem b1T{l:Z9}(h:NmL l){s:au}(hs:s∈l.2.2):NmLe (nmS l s):=by
 obtain⟨s1,s2,-⟩:=h.s s hs;have ne:=h.ne;have nt:=h.nt;unfold nmS;refine⟨⟨by simp only;omega,λe he=>by have:=(h.e e he).1;omega⟩,by simp only[L8];omega,by simp only[L8];omega,by simp only[L8];omega,?_⟩;simp only;cases U7 0 s.2.1
 .simp[l7]
 .rw[o7];cases hq:P5 l.2.2 s.2.1 with
  |none=>simp|some q=>have:=(h.s q (wE hq).2.2.1).2.1;simp only[L8];omega
theorem b1P{w:c6F}(h:∀b∈w,LnB b):Asc w:=λc hc=>by
 rcases h c hc with rfl|h
 .decide
 .have:=(b8k h).2;omega
def spW(ws:List c6F):c6F:=ws.flatMap (λw=>32::w)
theorem TV{t:Int×Int}{en:List bK}(h:vty t en=true)(h6:t.1=6):∃e,P5 en t.2=some e/\e∈en:=by
 unfold vty at h;rw[U6 h6,o7]at h;cases g1:U7 0 t.2<;>rw[g1]at h
 .cases h
 rw[o7]at h;exact vH (pg.1 g1) (zo.1 h)
theorem MN{t:Int×Int}{en:List bK}(h:vty t en=true):(t.1=1/\t.2=0)\/(t.1=2/\t.2=0)\/(t.1=3/\t.2=0)\/(t.1=4/\t.2=0)\/(t.1=5/\t.2=0)\/t.1=6:=by
 unfold vty at h;cases g0:C9 t.1 6<;>rw[g0]at h
 case true=>have:=gp.1 g0;omega
 rw[o6]at h;cases g1:U7 1 t.1<;>rw[g1]at h
 .cases h
 cases g2:U7 t.1 5<;>rw[g2]at h
 .cases h
 have h1:=pg.1 g1;have h2:=pg.1 g2;have h3:=gp.1 h;omega
structure EnL (en:List bK):Prop where
 n:∀e∈en,e.1.length<=80
 m:∀e∈en,e.2.length<=100/\∀m∈e.2,m.length<=100
theorem a6m{p:Int}(h:0<=p):H5 (C9 p 0)=I5 0 p:=by
 cases g:I5 0 p
 .have:=qc.1 g;rw[U6 (show p=0 by omega)];rfl
 .have:=zo.1 g;rw[J7 (show p≠0 by omega)];rfl
theorem b4b{a x:c6F}(h:a.length+x.length<=1000000000):zD a x=some (A7 x,(),a++x):=by unfold zD;rw[if_pos o5];rfl
end
section
structure FmL (l:Z9):Prop where
 v:(rW l).1=0
 n:NmL l
 w:WfL l
section
variable {l:Z9} (h:FmL l)
include h
theorem b4l:EnL l.1:=⟨λe he=>(h.n.e e he).2.1,λe he=>⟨by have:=(h.n.e e he).1;omega,λm hm=>by have:=(h.n.e e he).2.2 m hm;omega⟩⟩
end
end
section
theorem c5y{l:Z9}(h:(rW l).1=0):rW l=(0,0,0,0):=c6A h
variable {a:c6F}
theorem b4a(h:a.length<=1000000000):xf a=some (a,a):=by unfold xf;rw[if_pos o5]
theorem b7V{l:Z9}(h1:smL l=true)(hw:WfL l)(hv:(rW l).1=0):FmL l:=⟨hv,b4v h1 hw,hw⟩
theorem jJ{α β:Type}{o:Option α}{K:α->Option β}{r:β}(h:l9 o K=some r):∃a,o=some a/\K a=some r:=by
 cases o with
 |none=>cases h|some a=>exact⟨a,rfl,h⟩
def Xo(sub:c6F):c6F->c6F->Prop
 |[],r=>True|c::a,r=>sub.isPrefixOf (c::(a++r))=false/\Xo sub a r
theorem YR{sub:c6F}(h0:sub≠[]):∀{a x:c6F},Xo sub a (sub++x)->Lib.index (a++(sub++x)) sub=(a.length:Int)
 |[],x,h=>by
  cases sub with
  |nil=>exact absurd rfl h0|cons c t=>show Lib.index (c::(t++x)) (c::t)=0;unfold Lib.index;rw[if_pos (by rw[eF];exact⟨x,rfl⟩)]
 |c::a,x,h=>by
  have ih:=YR h0 h.2;rw[U3];unfold Lib.index;rw[h.1,ih];have:(((a.length:Nat):Int)==-1)=false:=by rw[beq_eq_false_iff_ne];omega
  rw[this];simp
theorem a4l{sub:c6F}(h0:sub≠[]):∀{a:c6F},Xo sub a []->Lib.index a sub=-1
 |[],h=>by
  cases sub with
  |nil=>exact absurd rfl h0|cons c t=>rfl
 |c::a,h=>by have ih:=a4l h0 h.2;have h1:=h.1;rw[G7]at h1;unfold Lib.index;rw[h1,ih];rfl
theorem b1w{sub a x:c6F}(h0:sub≠[])(h:Xo sub a (sub++x))(hl:(a++(sub++x)).length<=1000000000):zf (a++(sub++x)) sub=some (a,x,true):=by unfold zf Lib.cut;rw[if_pos o5,YR h0 h,if_pos o5,F7,ed];rw[show a.length+sub.length=(a++sub).length by simp,←E8,fG]
theorem b4f{sub a:c6F}(h0:sub≠[])(h:Xo sub a [])(hl:a.length<=1000000000):zf a sub=some (a,[],false):=by unfold zf Lib.cut;rw[if_pos o5,a4l h0 h,if_neg o5]
theorem Pm{c:UInt8} :∀{a r:c6F},(∀x∈a,x≠c)->Xo [c] a r
 |[],r,h=>trivial
 |x::a,r,h=>by refine⟨?_,Pm λy hy=>h y (by simp[hy])⟩;have:=h x D5;simp only[List.isPrefixOf,Bool.and_true];simpa[beq_eq_false_iff_ne]using λe=>this e.symm
end
section
section
variable {E:List bK} {T:List eP} {S:List au} {k:Int} {N:E9} {b:Bool}
structure EnU (E:List bK):Prop where
 id:∀e∈E,mJ e.1=true
 un:∀(j:Nat) e,E[j]? =some e->∀x∈E.take j,x.1≠e.1
 le:E.length<=1000
end
end
section
structure EnW (E:List bK):Prop extends EnU E where
 mid:∀e∈E,∀m∈e.2,mJ m=true
 mun:∀e∈E,∀(j:Nat) v,e.2[j]? =some v->∀x∈e.2.take j,x≠v
 mle:∀e∈E,e.2.length<=1000
def vaT(n:Int)(t:Int×Int)(E:List bK):c6F:=
 l7 (C9 t.1 1) (l7 (C9 n 0) [102,97,108,115,101] [116,114,117,101]) (l7 (C9 t.1 2) (Lib.itoa n) (l7 (C9 t.1 3) (Di n 2) (l7 (C9 t.1 4) (Di n 4++[37]) (l7 (C9 t.1 5) (fV n) (gtN ((P5 E t.2).getD ([],[])).2 n)))))
theorem Au{n:Int}{b:Int×Int}(h:inB n b=true):b.1<=n/\n<=b.2:=by
 unfold inB at h;cases g:U7 b.1 n<;>rw[g]at h
 .cases h
 .exact⟨pg.1 g,pg.1 h⟩
theorem Nb{k:Int}(E:List bK)(hk:k=1\/k=2\/k=3\/k=4\/k=5):bnd (k,0) E=l7 (C9 k 1) (0,1) (l7 (C9 k 2) (-1000000000000,1000000000000) (l7 (C9 k 3) (-1000000000000000,1000000000000000) (l7 (C9 k 4) (-1000000000,1000000000) (0,109572)))):=by rcases hk with rfl|rfl|rfl|rfl|rfl<;>rfl
theorem b3l{e:bK}{E:List bK}{i:Int}(h:vty (6,i) E=true)(he:P5 E i=some e):bnd (6,i) E=(0,N9 .i64 (A7 e.2) 1):=by
 have h1:=Ji (6,i) E;have:eQ (6,i) E=some (0,N9 .i64 (A7 e.2) 1):=by unfold eQ;rw[oz,h,o9];simp (disch:=decide) only[J7,H7,o6];rw[he];rfl
 rw[this]at h1;exact(Y1 h1).symm
section
variable {E:List bK} {t:Int×Int} {n:Int}
theorem b1g(hv:vty t E=true)(hn:inB n (bnd t E)=true){P:Int×Int->Prop}(h1:0<=n->n<=1->P (1,0))(h2:-1000000000000<=n->n<=1000000000000->P (2,0))(h3:-1000000000000000<=n->n<=1000000000000000->P (3,0))
  (h4:-1000000000<=n->n<=1000000000->P (4,0)) (h5:0<=n->n<=109572->P (5,0)) (h6:∀e i,P5 E i=some e->e∈E->0<=n->n<=N9 .i64 (A7 e.2) 1->vty (6,i) E=true->P (6,i)):P t:=by
 obtain⟨k,i⟩:=t;rcases MN hv with h|h|h|h|h|h
 .obtain⟨rfl,rfl⟩:k=1/\i=0:=h;rw[Nb E D5]at hn;exact h1 (Au hn).1 (Au hn).2
 .obtain⟨rfl,rfl⟩:k=2/\i=0:=h;rw[Nb E D5]at hn;exact h2 (Au hn).1 (Au hn).2
 .obtain⟨rfl,rfl⟩:k=3/\i=0:=h;rw[Nb E D5]at hn;exact h3 (Au hn).1 (Au hn).2
 .obtain⟨rfl,rfl⟩:k=4/\i=0:=h;rw[Nb E D5]at hn;exact h4 (Au hn).1 (Au hn).2
 .obtain⟨rfl,rfl⟩:k=5/\i=0:=h;rw[Nb E D5]at hn;exact h5 (Au hn).1 (Au hn).2
 .obtain rfl:k=6:=h;obtain⟨e,he,hm⟩:=TV hv rfl;rw[b3l hv he]at hn;exact h6 e i he hm (Au hn).1 (Au hn).2 hv
end
end
section
section
variable {E:List bK} {t:Int×Int} {n:Int}
theorem b1r(hW:EnW E)(hv:vty t E=true):-1000000000000000<=(bnd t E).1/\(bnd t E).2<=1000000000000000/\-1<=(bnd t E).2:=by
 obtain⟨k,i⟩:=t;rcases MN hv with h|h|h|h|h|h
 .obtain⟨rfl,rfl⟩:k=1/\i=0:=h;rw[Nb E D5];decide
 .obtain⟨rfl,rfl⟩:k=2/\i=0:=h;rw[Nb E D5];decide
 .obtain⟨rfl,rfl⟩:k=3/\i=0:=h;rw[Nb E D5];decide
 .obtain⟨rfl,rfl⟩:k=4/\i=0:=h;rw[Nb E D5];decide
 .obtain⟨rfl,rfl⟩:k=5/\i=0:=h;rw[Nb E D5];decide
 .obtain rfl:k=6:=h;obtain⟨e,he,hm⟩:=TV hv rfl;have hml:=hW.mle e hm;rw[b3l hv he,dO (by unfold eH A7;omega)];unfold A7;refine⟨D5,?_,?_⟩<;>simp only<;>omega
end
end
section
section
variable {l:Z9} (h:FmL l)
include h
theorem b4m:EnW l.1:=by
 refine { id:=?_,un:=?_,le:=?_,mid:=?_,mun:=?_,mle:=?_ }
 .intro e he;obtain⟨j,hj⟩:=Za he;exact(a5l h.v hj).1
 .intro j e he;exact(a5l h.v he).2.1
 .have:=h.n.ne;omega
 .intro e he m hm;obtain⟨j,hj⟩:=Za he;obtain⟨i,hi⟩:=Za hm;exact((a5l h.v hj).2.2.2 i m hi).1
 .intro e he i v hi;obtain⟨j,hj⟩:=Za he;exact((a5l h.v hj).2.2.2 i v hi).2
 .intro e he;have:=(h.n.e e he).1;omega
end
end
section
def n_(p:Nat):Nat->c6F->Nat->Nat->Prop
 |_,[],v,u=>u=v|i,c::g,v,u=>(i=p->c=46/\n_ p (i+1) g v u)/\(i≠p->zG c=true/\n_ p (i+1) g (10*v+(c.toNat -48)) u)
theorem TZ{s:c6F}{p:Int} :∀(m:Nat) (v i:Int) (e:Int×Bool),iZ (npF p) m (v,true,s,i)=some (.inl e)->e.2=true
 |0,v,i,e,h=>by cases h|m+1,v,i,e,h=>by
  rw[jG]at h;unfold npF at h;cases g1:I5 i (A7 s)<;>simp only[g1,o6,o7]at h
  .cases h;rfl
  cases g2:C9 i p<;>simp only[g2,o6,o7]at h
  .cases g3:mV (nG s i)with
   |none=>rw[g3]at h;cases h|some b=>
    rw[g3,o9]at h;cases b<;>simp only[H7,P9,o6,o7]at h
    .cases h
    .exact TZ m _ _ e h
  .cases g3:C9 (nG s i) 46<;>simp only[g3,H7,P9,o6,o7]at h
   .cases h
   .exact TZ m _ _ e h
theorem a2v{s:c6F}(hA:Asc s){p:Nat} :∀(g pre:c6F) (v m:Nat) (v' :Int),s=pre++g->v<=4611686018427387904->iZ (npF (p:Int)) m ((v:Int),false,s,(pre.length:Int))=some (.inl (v',false))->∃u:Nat,v' =(u:Int)/\u<=4611686018427387904/\n_ p pre.length g v u
 |g,pre,v,0,v',h,hv,hr=>by cases hr|[],pre,v,m+1,v',h,hv,hr=>by rw[G7]at h;subst h;rw[jG]at hr;unfold npF at hr;simp only[aS s,o6]at hr;cases hr;exact⟨v,rfl,hv,rfl⟩|c::g,pre,v,m+1,v',h,hv,hr=>by
  have hc:s[pre.length]? =some c:=by rw[h,H9 (D7 _),dR];rfl
  obtain⟨r1,r2⟩:=QZ hc (hA c (yu hc));rw[jG]at hr;unfold npF at hr;simp only[aF hc,o7,r1,r2]at hr;have hn:s=(pre++[c])++g:=by rw[h];simp
  have hl:(pre++[c]).length=pre.length+1:=D5;by_cases hp:pre.length=p
  .rw[U6 o5,o7]at hr;cases g3:C9 (c.toNat:Int) 46<;>simp only[g3,H7,P9,o6,o7]at hr
   .cases hr
   have hc46:c=46:=by
    have:=gp.1 g3;have h2:c.toNat=(46:UInt8).toNat:=by show c.toNat=46;omega
    exact UInt8.toNat_inj.1 h2
   rw[←hl]at hr;obtain⟨u,a1,a2,a3⟩:=a2v hA g (pre++[c]) v m v' hn hv hr;rw[hl]at a3;exact⟨u,a1,a2,λ_=>⟨hc46,a3⟩,λhne=>absurd hp hne⟩
  .rw[J7 o5,o6]at hr;cases g3:mV (c.toNat:Int)with
   |none=>rw[g3]at hr;cases hr|some b=>
    rw[g3,o9]at hr;have hdb:b=zG c:=by have:=EE c;rw[show fJ (c.toNat:Int)=mV (c.toNat:Int)from rfl,g3]at this;exact Y1 this
    cases hb:b<;>rw[hb]at hr hdb<;>simp only[H7,P9,o6,o7]at hr
    .cases hr
    cases g4:I5 461168601842738790 (v:Int)<;>simp only[g4,o6,o7]at hr
    .have hbd:=YL hdb.symm;have hw:wrap .i64 (N9 .i32 (c.toNat:Int) 48)=((c.toNat -48:Nat):Int):=by
      have h1:N9 .i32 (c.toNat:Int) 48=((c.toNat -48:Nat):Int):=by unfold N9 IntKind.wrap;simp[IntKind.signed,IntKind.bits];omega
      rw[h1];exact BB di
     have hv2:=qc.1 g4;have e1:G5 .i64 (mY .i64 (v:Int) 10) ((c.toNat -48:Nat):Int)=((10*v+(c.toNat -48):Nat):Int):=by rw[Vm di,dN di];omega
     rw[hw,e1]at hr;cases g5:I5 4611686018427387904 ((10*v+(c.toNat -48):Nat):Int)<;>rw[g5]at hr
     .rw[←hl]at hr;obtain⟨u,a1,a2,a3⟩:=a2v hA g (pre++[c]) (10*v+(c.toNat -48)) m v' hn (by have:=qc.1 g5;omega) hr;rw[hl]at a3;exact⟨u,a1,a2,λhe=>absurd he hp,λ_=>⟨hdb.symm,a3⟩⟩
     .exact absurd (show false=true from TZ m _ _ _ hr) J8
    .exact absurd (show false=true from TZ m _ _ _ hr) J8
theorem Zd{p:Nat} :∀(g:c6F) (i v u:Nat),(p<i\/i+g.length<=p)->n_ p i g v u->Dg g/\u=ww v g
 |[],i,v,u,hp,h=>⟨(λc hc=>by cases hc),h⟩|c::g,i,v,u,hp,h=>by simp only[F5]at hp;obtain⟨h1,h2⟩:=h.2 o5;obtain⟨a1,a2⟩:=Zd g (i+1) _ u o5 h2;exact⟨λd hd=>(D8.1 hd).elim (λe=>e▸h1) (a1 d),a2⟩
theorem a7P{p:Nat} :∀(g:c6F) (i v u:Nat),i<=p->p<i+g.length->n_ p i g v u->∃d f,g=d++46::f/\i+d.length=p/\Dg d/\Dg f/\u=ww v (d++f)
 |[],i,v,u,h1,h2,h=>by simp at h2;omega|c::g,i,v,u,h1,h2,h=>by
  simp only[F5]at h2;by_cases hp:i=p
  .obtain⟨rfl,hn⟩:=h.1 hp;obtain⟨a1,a2⟩:=Zd g (i+1) v u (.inl o5) hn;exact⟨[],g,rfl,(by simp;exact hp),(λc hc=>by cases hc),a1,a2⟩
  .obtain⟨hc,hn⟩:=h.2 hp;obtain⟨d,f,e1,e2,e3,e4,e5⟩:=a7P g (i+1) _ u o5 o5 hn;exact⟨c::d,f,by rw[e1];rfl,by simp only[F5];omega,λx hx=>(D8.1 hx).elim (λe=>e▸hc) (e3 x),e4,e5⟩
theorem OW:∀(n:Nat) (d:c6F),d.length=n+1->Dg d->NoZ d->Lib.decDigits (ww 0 d)=d
 |0,d,hl,hd,hz=>by
  obtain⟨c,rfl⟩:=List.length_eq_one_iff.1 hl;have hb:=YL (hd c D5);have e:ww 0 [c]=c.toNat -48:=by unfold ww;simp
  rw[e,Lib.decDigits,dif_pos o5];congr 1;exact UInt8.toNat_inj.1 E5
 |n+1,d,hl,hd,hz=>by
  obtain⟨d',c,rfl⟩:∃d' c,d=d' ++[c]:=by refine⟨d.dropLast,d.getLast (by intro e;rw[e]at hl;simp at hl),(rM _).symm⟩
  have hl' :d'.length=n+1:=by simp at hl;omega
  have hb:=YL (hd c D5);have hz' :NoZ d' :=by intro h1 a t e;exact hz E5 a (t++[c]) (by rw[e];rfl)
  have ih:=OW n d' hl' (λx hx=>hd x (by simp[hx])) hz';have hpos:1<=ww 0 d' :=by
   cases d' with
   |nil=>simp at hl'
   |cons a t=>have ha:=hz D5 a (t++[c]) rfl;have hba:=YL (hd a D5);have h48:a.toNat≠48:=λe=>ha (UInt8.toNat_inj.1 e);have:=a5m t (10*0+(a.toNat -48));show 1<=ww (10*0+(a.toNat -48)) t;omega
  have e:ww 0 (d' ++[c])=10*ww 0 d' +(c.toNat -48):=by rw[b1h];rfl
  rw[e,Lib.decDigits,dif_neg o5];rw[show(10*ww 0 d' +(c.toNat -48)) / 10=ww 0 d' by omega,ih];congr 2;exact UInt8.toNat_inj.1 E5
theorem Kr:∀(a:c6F),a≠[]->Dg a->(Lib.decDigits (ww 0 a)).length<=a.length/\List.replicate (a.length -(Lib.decDigits (ww 0 a)).length) 48++Lib.decDigits (ww 0 a)=a
 |[],h,_=>absurd rfl h|[c],_,hd=>by have:=OW 0 [c] rfl hd (λh=>by simp at h);rw[this];simp|c::b::t,_,hd=>by
  by_cases hc:c=48
  .subst hc;obtain⟨a1,a2⟩:=Kr (b::t) D5 (λx hx=>hd x (by simp at hx ⊢;right;exact hx));have e:ww 0 (48::b::t)=ww 0 (b::t):=rfl;rw[e];refine⟨by simp only[F5]at a1 ⊢;omega,?_⟩;rw[show(48::b::t).length -(Lib.decDigits (ww 0 (b::t))).length=((b::t).length -(Lib.decDigits (ww 0 (b::t))).length)+1 by simp only[F5]at a1 ⊢;omega,oh,U3,a2]
  .have:=OW (t.length+1) (c::b::t) D5 hd (λ_ x y e=>by cases e;exact hc);rw[this];simp
theorem a7b{a b:c6F}(ha:Dg a)(hb:Dg b):Dg (a++b):=λc hc=>(J6.1 hc).elim (ha c) (hb c)
theorem a5K{d f:c6F}(hd:Dg d)(hf:Dg f)(h1:d≠[])(hz:NoZ d):KC (ww 0 (d++f)) f.length=d++46::f:=by
 have hlen:1<=d.length:=by cases d with|nil=>exact absurd rfl h1|cons a b=>simp
 have key:List.replicate (f.length+1 -(Lib.decDigits (ww 0 (d++f))).length) 48++Lib.decDigits (ww 0 (d++f))=d++f:=by
  by_cases h2:1<d.length
  .have hz2:NoZ (d++f):=by
    intro _ c t e;cases d with
    |nil=>exact absurd rfl h1|cons a b=>rw[U3,I7]at e;rw[←e.1];exact hz h2 a b rfl
   have:=OW ((d++f).length -1) (d++f) E5 (a7b hd hf) hz2;rw[this];rw[show f.length+1 -(d++f).length=0 by simp;omega];rfl
  .have hl:(d++f).length=f.length+1:=by simp;omega
   have:=(Kr (d++f) (by simp[h1]) (a7b hd hf)).2;rw[hl]at this;exact this
 unfold KC;simp only;rw[key];rw[show(d++f).length -f.length=d.length by simp,ed,fG]
theorem b1X{d r:c6F}(h:d≠[]){o:PUnit⊕(Int×Int)} (hq:(l7 (I5 1 (d.length:Int)) (l9 (sat (d++r) 0) λ(x:Int)=>l7 (C9 x 48) (some (Sum.inr (0,2))) (some (Sum.inl PUnit.unit))) (some (Sum.inl PUnit.unit)))=some o):(o= .inl PUnit.unit/\NoZ d)\/o= .inr (0,2):=by
 cases d with
 |nil=>exact absurd rfl h|cons c t=>
  by_cases h1:1<(c::t).length
  .rw[aP o5,o7,show sat (c::t++r) 0=some (c.toNat:Int)from rfl,o9]at hq;rw[show C9 (c.toNat:Int) 48=decide (c=48)from b7r c 48 o5]at hq;by_cases hc:c=48
   .rw[decide_eq_true hc,o7]at hq;cases hq;exact .inr rfl
   .rw[decide_eq_false hc,o6]at hq;cases hq;exact .inl ⟨rfl,λ_ x y e=>by cases e;exact hc⟩
  .rw[U1 o5,o6]at hq;cases hq;exact .inl ⟨rfl,λh=>absurd h h1⟩
structure NumS (s:c6F) (k:Nat) (n:Int):Prop where
 ex:∃d f,Dg d/\Dg f/\d≠[]/\NoZ d/\f.length=k/\ww 0 (d++f)<=4611686018427387904/\((s=(if k=0 then d else d++46::f)/\n=(ww 0 (d++f):Int))\/(s=45::(if k=0 then d else d++46::f)/\n=-(ww 0 (d++f):Int)/\1<=ww 0 (d++f)))
variable {n:Int}{s:c6F}
theorem a0q{k:Nat}(hA:Asc s)(hk:k<=9)(hl:s.length<=100000)(h:ou s (k:Int)=some (n,0)):NumS s k n:=by
 unfold ou at h;obtain⟨⟨t,b⟩,e1,h⟩:=jJ h;have ht:(b=true/\s=45::t)\/(b=false/\s=t):=by
  obtain⟨t',b',q1,q2,q3,q4⟩:=F_ s [45] o5;rw[q1]at e1;cases e1;cases b with
  |true=>exact .inl ⟨rfl,q3 rfl⟩|false=>exact .inr ⟨rfl,(q4 rfl).symm⟩
 have hAt:Asc t:=by
  rcases ht with⟨-,e⟩|⟨-,e⟩
  .intro c hc;exact hA c (by rw[e];simp[hc])
  .rw[←e];exact hA
 have htl:t.length<=100000:=by rcases ht with⟨-,e⟩|⟨-,e⟩<;>rw[e]at hl<;>(try simp only[F5]at hl)<;>omega
 obtain⟨wh,e2,h⟩:=jJ h;have hwh:wh=(t.length:Int) -(if k=0 then 0 else(k:Int)+1):=by
  by_cases h0:k=0
  .subst h0;rw[show I5 0 ((0:Nat):Int)=false from rfl,o6]at e2;cases e2;simp[A7]
  .rw[aP o5,o7,dN di,dO (by unfold eH A7;simp only;omega)]at e2;cases e2;simp[A7,h0]
 cases g1:I5 wh 1<;>simp only[g1,o7,o6]at h
 case true=>rw[o9,gI]at h;cases h
 have hw1:=qc.1 g1;obtain⟨w,rfl⟩:∃w:Nat,wh=(w:Int):=⟨wh.toNat,(og o5).symm⟩;have hwl:w<=t.length/\1<=w:=by
  constructor
  .by_cases h0:k=0
   .rw[if_pos h0]at hwh;omega
   .rw[if_neg h0]at hwh;omega
  .omega
 have hsplit:t=t.take w++t.drop w:=(Z4 w t).symm;have htk:(t.take w).length=w:=by rw[aX];omega
 have hne:t.take w≠[]:=by intro e;rw[e]at htk;simp at htk;omega
 obtain⟨o,e3,h⟩:=jJ h;have hno:=b1X (d:=t.take w) (r:=t.drop w) hne (o:=o) (by rw[htk,←hsplit];exact e3);rcases hno with⟨rfl,hz⟩|rfl
 case inr=>rw[gI]at h;cases h
 rw[V6]at h;obtain⟨o2,e4,h⟩:=jJ h;cases o2 with
 |inr r=>
  rw[gI]at h;cases h;rcases a7N t (w:Int) o5 with⟨v,b2,q,-⟩|⟨r,q,q2⟩
  .rw[show V4 (npF (w:Int)) (0,false,t,0)=some (.inr (n,0))from e4]at q;cases q
  .rw[show V4 (npF (w:Int)) (0,false,t,0)=some (.inr (n,0))from e4]at q;cases q;cases q2
 |inl y=>
  rw[V6]at h;obtain⟨v,ov⟩:=y;simp only at h;have hov:ov=false:=by
   cases ov with
   |false=>rfl|true=>
    exfalso;cases b<;>simp only[o7,o6]at h
    .cases h
    .cases g:C9 v 0<;>simp only[g,o7,o6,H7]at h<;>cases h
  subst hov;have e4:V4 (npF (w:Int)) (0,false,t,0)=some (.inl (v,false)):=e4;unfold V4 at e4;obtain⟨u,hu,hub,hn⟩:=a2v hAt (p:=w) t [] 0 dZ v rfl o5 e4;have hdf:∃d f,Dg d/\Dg f/\d≠[]/\NoZ d/\f.length=k/\u=ww 0 (d++f)/\t=(if k=0 then d else d++46::f):=by
   by_cases h0:k=0
   .rw[if_pos h0]at hwh;have hw:w=t.length:=o5;obtain⟨a1,a2⟩:=Zd t 0 0 u (.inr o5) hn;refine⟨t,[],a1,(λc hc=>by cases hc),by rw[hw,bJ]at hne;exact hne,by rw[hw,bJ]at hz;exact hz,by rw[h0];rfl,by rw[G7];exact a2,by rw[if_pos h0]⟩
   .rw[if_neg h0]at hwh;obtain⟨d,f,a1,a2,a3,a4,a5⟩:=a7P t 0 0 u o5 o5 hn;have hd:d.length=w:=o5;have htd:t.take w=d:=by rw[a1,←hd,ed]
    rw[htd]at hne hz;refine⟨d,f,a3,a4,hne,hz,?_,a5,by rw[if_neg h0];exact a1⟩;have:=congrArg List.length a1;simp only[I8,F5]at this;omega
  obtain⟨d,f,q1,q2,q3,q4,q5,q6,q7⟩:=hdf;refine⟨d,f,q1,q2,q3,q4,q5,by rw[←q6];exact hub,?_⟩;rw[←q6];rw[←q7];rcases ht with⟨rfl,e⟩|⟨rfl,e⟩
  .right;simp only[o7,o6,P9]at h;cases g:C9 v 0<;>simp only[g,o7,o6]at h
   .cases h;have:=zI.1 g;refine⟨e,?_,o5⟩;rw[dO di,hu];omega
   .cases h
  .left;simp only[o6]at h;cases h;exact⟨e,hu⟩
theorem a8k(hA:Asc s)(hl:s.length<=100000)(h:jU s=some (n,0)):Lib.itoa n=s/\eH n:=by
 have h:ou s ((0:Nat):Int)=some (n,0):=by unfold jU at h;obtain⟨x,e,h⟩:=jJ h;cases h;exact e
 obtain⟨d,f,q1,q2,q3,q4,q5,q6,q7⟩:=(a0q hA o5 hl h).ex;have hf:f=[]:=bf.1 q5;subst hf;rw[G7]at q6 q7;have hdl:d.length=(d.length -1)+1:=by cases d with|nil=>exact absurd rfl q3|cons a b=>simp
 have hdv:=OW (d.length -1) d hdl q1 q4;simp only[if_true]at q7;rcases q7 with⟨rfl,e⟩|⟨rfl,e,h1⟩
 .refine⟨?_,by unfold eH;omega⟩;unfold Lib.itoa;rw[if_neg o5,e,F7,hdv]
 .refine⟨?_,by unfold eH;omega⟩;unfold Lib.itoa;rw[if_pos o5,show n.natAbs=ww 0 d by omega,hdv]
theorem a8i{k:Nat}(hk:1<=k/\k<=9)(hA:Asc s)(hl:s.length<=100000)(h:dV s (k:Int)=some (n,0)):Di n k=s/\eH n:=by
 have hc:fK (k:Int)=some (k:Int):=by unfold fK wL Dj;congr 1;omega
 have h:ou s (k:Int)=some (n,0):=by unfold dV at h;rw[hc,o9]at h;obtain⟨x,e,h⟩:=jJ h;cases h;exact e
 obtain⟨d,f,q1,q2,q3,q4,q5,q6,q7⟩:=(a0q hA o5 hl h).ex;have hfx:=a5K q1 q2 q3 q4;rw[q5]at hfx;rw[if_neg o5]at q7;rcases q7 with⟨rfl,e⟩|⟨rfl,e,h1⟩
 .refine⟨?_,by unfold eH;omega⟩;unfold Di;rw[if_neg o5,show n.natAbs=ww 0 (d++f) by omega,hfx]
 .refine⟨?_,by unfold eH;omega⟩;unfold Di;rw[if_pos o5,show n.natAbs=ww 0 (d++f) by omega,hfx]
theorem b3T(a:Int):∀k:Nat,ys a<=ys (a+(k:Int))
 |0=>by simp|k+1=>by have h:=b3T a k;have h2:=Gx (a+(k:Int));have h3:=QA (a+(k:Int));rw[show a+((k+1:Nat):Int)=a+(k:Int)+1 by omega];omega
theorem a5p{a b:Int}(h:a<=b):ys a<=ys b:=by
 have:=b3T a (b -a).toNat
 rw[show a+(((b -a).toNat:Nat):Int)=b by omega]at this;exact this
theorem TW(y:Int)(i:Nat):∀k:Nat,yY y i<=yY y (i+k)
 |0=>by simp|k+1=>by have h:=TW y i k;have h3:=IM y (((i+k:Nat):Int)+1);show yY y i<=yY y (i+k)+dim y (((i+k:Nat):Int)+1);omega
theorem b1S(y:Int):yY y 12=diy y:=by unfold diy;cases h:il y<;>simp[yY,dim,h]
theorem b1k{y m d:Int}(hy:1900<=y/\y<=2199)(hm:1<=m/\m<=12)(h1:1<=d)(h2:d<=dim y m):0<=Kt y m d/\Kt y m d<=109572/\ymd (Kt y m d)=(y,m,d):=by
 have e0:ys 1900=0:=by decide+kernel
 have e9:ys 2200=109573:=by decide+kernel
 have a0:=a5p hy.1;have a9:=a5p (show y+1<=2200 by omega);have asu:=Gx y;have hmi:(((m -1).toNat+1:Nat):Int)=m:=o5;have hs1:yY y ((m -1).toNat+1)=yY y (m -1).toNat+dim y m:=by show yY y (m -1).toNat+dim y (((m -1).toNat:Int)+1)=_;rw[show(((m -1).toNat:Nat):Int)+1=m by omega]
 have hs2:=TW y ((m -1).toNat+1) (12 -((m -1).toNat+1));rw[show(m -1).toNat+1+(12 -((m -1).toNat+1))=12 by omega,b1S]at hs2;have hs0:=(PD y (m -1).toNat o5).1;have hn:Kt y m d=ys y+(yY y (m -1).toNat+d -1):=by unfold Kt;omega
 have b0:0<=Kt y m d:=o5;have b9:Kt y m d<=109572:=o5;refine⟨b0,b9,?_⟩;obtain⟨y1,y2,y3,y4⟩:=Ql b0 b9;have hyo:yOf (Kt y m d)=y:=by
  rcases Int.lt_trichotomy (yOf (Kt y m d)) y with h|h|h
  .have:=a5p (show yOf (Kt y m d)+1<=y by omega);omega
  .exact h
  .have:=a5p (show y+1<=yOf (Kt y m d) by omega);omega
 have hr:Kt y m d -ys y<rem y 12:=by rw[a4S];omega
 have q1:=b3p y 12 (Kt y m d -ys y) o5 o5 hr;obtain⟨q2,q3,q4,q5⟩:=a4H y 12 (Kt y m d -ys y) o5 o5 hr;rw[show yY y (12 -12)=0 from rfl]at q1;unfold ymd;simp only;rw[hyo];generalize mo y 12 (Kt y m d -ys y)=r at q1 q2 q3 q4 q5;obtain⟨rq,rm⟩:=r;simp only at q1 q2 q3 q4 q5;have ht1:yY y ((rm -1).toNat+1)=yY y (rm -1).toNat+dim y rm:=by show yY y (rm -1).toNat+dim y (((rm -1).toNat:Int)+1)=_;rw[show(((rm -1).toNat:Nat):Int)+1=rm by omega]
 have hm2:rm=m:=by
  rcases Int.lt_trichotomy rm m with h|h|h
  .have:=TW y ((rm -1).toNat+1) ((m -1).toNat -((rm -1).toNat+1));rw[show(rm -1).toNat+1+((m -1).toNat -((rm -1).toNat+1))=(m -1).toNat by omega]at this;omega
  .exact h
  .have:=TW y ((m -1).toNat+1) ((rm -1).toNat -((m -1).toNat+1));rw[show(m -1).toNat+1+((rm -1).toNat -((m -1).toNat+1))=(rm -1).toNat by omega]at this;omega
 subst hm2;have:rq+1=d:=o5;rw[this]
theorem P_{y m d n:Int}(h:iL y m d=some (n,0)):(1900<=y/\y<=2199)/\(1<=m/\m<=12)/\1<=d/\d<=dim y m/\n=Kt y m d:=by
 have no:∀{v:Option (Int×Int)},v=some (0,3)->v=some (n,0)->False:=λe1 e2=>by rw[e1]at e2;cases e2
 by_cases hy:1900<=y/\y<=2199
 .by_cases hm:1<=m/\m<=12
  .by_cases h1:1<=d
   .by_cases h2:d<=dim y m
    .rw[Ve hy hm h1 h2]at h;cases h;exact⟨hy,hm,h1,h2,rfl⟩
    .exact(no (by unfold iL;rw[U1 hy.1,o6,U1 hy.2,o6,U1 hm.1,o6,U1 hm.2,o6,U1 h1,o6,qm o5 hm,o9,aP o5];rfl) h).elim
   .exact(no (by unfold iL;rw[U1 hy.1,o6,U1 hy.2,o6,U1 hm.1,o6,U1 hm.2,o6,aP o5];rfl) h).elim
  .refine(no ?_ h).elim;unfold iL;rw[U1 hy.1,o6,U1 hy.2,o6];by_cases h3:m<1
   .rw[aP h3];rfl
   .rw[U1 o5,o6,aP o5];rfl
 .refine(no ?_ h).elim;unfold iL;by_cases h3:y<1900
  .rw[aP h3];rfl
  .rw[U1 o5,o6,aP o5];rfl
theorem a6Z{s:c6F}(hA:Asc s):∀(g pre:c6F) (v m:Nat) (v' :Int),s=pre++g->(v+1)*10^g.length<=10000000000000->iZ ddF m ((v:Int),s,(pre.length:Int))=some (.inl v')->Dg g/\v' =(ww v g:Int)
 |g,pre,v,0,v',h,hv,hr=>by cases hr|[],pre,v,m+1,v',h,hv,hr=>by rw[G7]at h;subst h;rw[jG]at hr;unfold ddF at hr;simp only[aS s,o6]at hr;cases hr;exact⟨(λc hc=>by cases hc),rfl⟩|c::g,pre,v,m+1,v',h,hv,hr=>by
  have hc:s[pre.length]? =some c:=by rw[h,H9 (D7 _),dR];rfl
  obtain⟨r1,r2⟩:=QZ hc (hA c (yu hc));rw[jG]at hr;unfold ddF at hr;simp only[aF hc,o7,r1,r2]at hr;cases g1:I5 (c.toNat:Int) 48<;>simp only[g1,o7,o6]at hr
  case true=>cases hr
  cases g2:I5 57 (c.toNat:Int)<;>simp only[g2,o7,o6]at hr
  case true=>cases hr
  have b1:=qc.1 g1;have b2:=qc.1 g2;have hd9:c.toNat -48<=9:=o5;have hp:1<=10^g.length:=Nat.pos_of_ne_zero D5;simp only[F5]at hv;have hstep:(10*v+(c.toNat -48)+1)*10^g.length<=10000000000000:=by
   have e1:(v+1)*10^(g.length+1)=(v+1)*10*10^g.length:=by rw[Nat.pow_succ,Nat.mul_comm (10^g.length) 10,Nat.mul_assoc]
   rw[e1]at hv;exact V5 (J3 _ o5) hv
  have hv10:10*v+(c.toNat -48)+1<=10000000000000:=by have:=Nat.mul_le_mul_left (10*v+(c.toNat -48)+1) hp;omega
  have hw:wrap .i64 (N9 .i32 (c.toNat:Int) 48)=((c.toNat -48:Nat):Int):=by
   have h1:N9 .i32 (c.toNat:Int) 48=((c.toNat -48:Nat):Int):=by unfold N9 IntKind.wrap;simp[IntKind.signed,IntKind.bits];omega
   rw[h1];exact BB di
  have e1:G5 .i64 (mY .i64 (v:Int) 10) ((c.toNat -48:Nat):Int)=((10*v+(c.toNat -48):Nat):Int):=by rw[Vm di,dN di];omega
  rw[hw,e1]at hr;have hn:s=(pre++[c])++g:=by rw[h];simp
  rw[show((pre.length+1:Nat):Int)=(((pre++[c]).length:Nat):Int) by simp]at hr;obtain⟨a1,a2⟩:=a6Z hA g (pre++[c]) _ m v' hn hstep hr;refine⟨λx hx=>(D8.1 hx).elim (λe=>?_) (a1 x),a2⟩;rw[e];unfold zG;simp only[D6,decide_eq_true_eq];omega
theorem NS{g:c6F}{v:Int}(hA:Asc g)(hl:g.length<=4)(h:uU g=some (v,true)):Dg g/\v=(ww 0 g:Int):=by
 unfold uU at h;obtain⟨o,e,h⟩:=jJ h;cases o with
 |inr r=>
  rw[gI]at h;cases h;exfalso;have:∀(m:Nat) (x:Int×c6F×Int) (r:Int×Bool),iZ ddF m x=some (.inr r)->r.2=false:=by
   intro m;induction m with
   |zero=>intro x r h;cases h|succ m ih=>
    intro x r h;rw[jG]at h;unfold ddF at h;cases g0:I5 x.2.2 (A7 x.2.1)<;>simp only[g0,o7,o6]at h
    .cases h
    cases g1:I5 (nG x.2.1 x.2.2) 48<;>simp only[g1,o7,o6]at h
    case true=>cases h;rfl
    cases g2:I5 57 (nG x.2.1 x.2.2)<;>simp only[g2,o7,o6]at h
    case true=>cases h;rfl
    exact ih _ _ h
  exact absurd (show true=false from this _ _ _ e) J8
 |inl y=>
  rw[V6]at h;cases h;have hp:(0+1)*10^g.length<=10000000000000:=by have:g.length=0\/g.length=1\/g.length=2\/g.length=3\/g.length=4:=o5;rcases this with e|e|e|e|e<;>rw[e]<;>decide
  exact a6Z hA g [] 0 dZ v rfl hp e
theorem Zj{A:c6F}{w:Nat}(hd:Dg A)(hl:A.length=w)(hw:1<=w):Zi (ww 0 A:Int) w=A:=by unfold Zi;rw[b1J o5,F7,←hl];exact(Kr A (by intro e;rw[e]at hl;simp at hl;omega) hd).2
theorem G_(hA:Asc s)(hl:s.length<=1000000)(h:xn s=some (n,0)):0<=n/\n<=109572/\fV n=s:=by
 unfold xn at h;cases g10:C9 (A7 s) 10
 .rw[g10]at h;cases h
 have h10:s.length=10:=by have:=gp.1 g10;unfold A7 at this;omega
 obtain⟨A,rest,hA4,es⟩:∃A rest,A.length=4/\s=A++rest:=⟨s.take 4,s.drop 4,by rw[aX];omega,(Z4 4 s).symm⟩;obtain⟨c1,rest,rfl⟩:∃c1 r2,rest=c1::r2:=by
  cases rest with
  |nil=>rw[es]at h10;simp at h10;omega|cons a b=>exact⟨a,b,rfl⟩
 obtain⟨B,rest2,hB2,e2⟩:∃B r,B.length=2/\rest=B++r:=⟨rest.take 2,rest.drop 2,by rw[aX];rw[es]at h10;simp at h10;omega,(Z4 2 rest).symm⟩;subst e2;obtain⟨c2,C,rfl⟩:∃c2 C,rest2=c2::C:=by
  cases rest2 with
  |nil=>rw[es]at h10;simp at h10;omega|cons a b=>exact⟨a,b,rfl⟩
 have hC2:C.length=2:=by rw[es]at h10;simp at h10;omega
 subst es;have e4:sat (A++(c1::(B++(c2::C)))) 4=some (c1.toNat:Int):=by rw[show(4:Int)=((4:Nat):Int)from rfl,wZ,H9 o5,hA4];rfl
 have e7:sat (A++(c1::(B++(c2::C)))) 7=some (c2.toNat:Int):=by rw[show(7:Int)=((7:Nat):Int)from rfl,wZ,H9 o5,hA4,show 7 -4=2+1 from rfl,qf,H9 o5,hB2];rfl
 have q1:gy (A++(c1::(B++(c2::C)))) 0 4=some A:=by rw[yA o5 E5,show(4:Int).toNat=A.length by omega,ed]
 have q2:gy (A++(c1::(B++(c2::C)))) 5 7=some B:=by rw[Py o5 o5 E5];rw[show A++(c1::(B++(c2::C)))=(A++[c1])++(B++(c2::C)) by simp,show(7:Int).toNat=(A++[c1]).length+B.length by simp;omega,List.take_length_add_append,show(5:Int).toNat=(A++[c1]).length by simp;omega,fG,ed]
 have q3:gy (A++(c1::(B++(c2::C)))) 8 (A7 (A++(c1::(B++(c2::C)))))=some C:=by rw[pG o5 E5];rw[show A++(c1::(B++(c2::C)))=(A++[c1]++B++[c2])++C by simp,show(8:Int).toNat=(A++[c1]++B++[c2]).length by simp;omega,fG]
 rw[g10,H7,o6,e4,o9]at h;cases g1:C9 (c1.toNat:Int) 45<;>simp only[g1,H7,P9,o7,o6]at h
 .cases h
 rw[e7,o9]at h;cases g2:C9 (c2.toNat:Int) 45<;>simp only[g2,H7,P9,o7,o6]at h
 .cases h
 rw[o9,V6,q1,o9]at h;obtain⟨d1,f1,h⟩:=jJ h;rw[q2,o9]at h;obtain⟨d2,f2,h⟩:=jJ h;rw[q3,o9]at h;obtain⟨d3,f3,h⟩:=jJ h;obtain⟨v1,t1⟩:=d1;obtain⟨v2,t2⟩:=d2;obtain⟨v3,t3⟩:=d3;simp only at h;cases t1
 .cases h
 cases t2
 .cases h
 cases t3
 .cases h
 simp only[H7,o6]at h;obtain⟨x,hx,h⟩:=jJ h;cases h;have as1:Asc A:=λc hc=>hA c (by simp[hc]);have as2:Asc B:=λc hc=>hA c (by simp[hc]);have as3:Asc C:=λc hc=>hA c (by simp[hc]);obtain⟨a1,rfl⟩:=NS as1 o5 f1;obtain⟨a2,rfl⟩:=NS as2 o5 f2;obtain⟨a3,rfl⟩:=NS as3 o5 f3;obtain⟨hy,hm,h1,h2,hn⟩:=P_ hx;obtain⟨b0,b9,hymd⟩:=b1k hy hm h1 h2;rw[←hn]at b0 b9 hymd;refine⟨b0,b9,?_⟩;have c1e:c1=45:=by
  have:=gp.1 g1;have h2:c1.toNat=(45:UInt8).toNat:=by show c1.toNat=45;omega
  exact UInt8.toNat_inj.1 h2
 have c2e:c2=45:=by
  have:=gp.1 g2;have h2:c2.toNat=(45:UInt8).toNat:=by show c2.toNat=45;omega
  exact UInt8.toNat_inj.1 h2
 unfold fV;rw[if_pos ⟨b0,b9⟩,hymd];simp only;rw[Zj a1 hA4 o5,Zj a2 hB2 o5,Zj a3 hC2 o5,c1e,c2e];simp
end
section
theorem OO{a b:c6F}(h:Asc (a++b)):Asc a/\Asc b:=⟨λc hc=>h c (by simp[hc]),λc hc=>h c (by simp[hc])⟩
theorem b1F{α ρ:Type}(l:List α)(p:α->Bool)(g:Nat->ρ)(hl:l.length<=1000000){f:Int->Option (Out Int PUnit ρ)} (h1:∀(i:Nat) (a:α),l[i]? =some a->f (i:Int)=some (l7 (p a) (.rt (g i)) (.nx ((i+1:Nat):Int)))) (h2:f (l.length:Int)=some (.ex PUnit.unit)):
  (V4 f 0=some (.inl PUnit.unit))\/∃(j:Nat) (a:α),l[j]? =some a/\p a=true/\V4 f 0=some (.inr (g j)):=by
 have:=jH (f:=f) (s:=0) (λx=>∃j:Nat,x=(j:Int)/\j<=l.length) (λ_=>True) (λr=>∃(j:Nat) (a:α),l[j]? =some a/\p a=true/\r=g j) (λx=>l.length -x.toNat) ⟨0,rfl,o5⟩ E5 (by
  rintro x ⟨j,rfl,hj⟩;by_cases h5:j<l.length
  .have hg:=lF h5;have:=h1 j _ hg;cases hp:p l[j]<;>rw[hp]at this
   .exact .inl ⟨_,this,⟨j+1,rfl,o5⟩,by simp only[F7];omega⟩
   .exact .inr (.inr ⟨_,this,j,_,hg,hp,rfl⟩)
  .have:j=l.length:=o5;subst this;exact .inr (.inl ⟨_,h2,trivial⟩))
 rcases this with⟨e,h,-⟩|⟨r,h,j,a,ha,hp,rfl⟩
 .exact .inl h
 .exact .inr ⟨j,a,ha,hp,h⟩
section
variable {E:List bK} {t:Int×Int} {w:c6F}
theorem b1Z{n:Int}(hm:∀e∈E,e.2.length<=100000)(hv:vty t E=true)(hA:Asc w)(hl:w.length<=100000)(h:pU w t E=some (n,0)):vaT n t E=w/\eH n:=by
 obtain⟨k,i⟩:=t;unfold pU at h;rcases MN hv with h1|h1|h1|h1|h1|h1
 .obtain⟨rfl,rfl⟩:k=1/\i=0:=h1;simp only[U6 (rfl:(1:Int)=1),o7]at h;cases g1:seq w [102,97,108,115,101]<;>simp only[g1,o7,o6]at h
  .cases g2:seq w [116,114,117,101]<;>simp only[g2,o7,o6]at h
   .cases h
   .cases h;rw[jW.1 g2];exact⟨rfl,by unfold eH;omega⟩
  .cases h;rw[jW.1 g1];exact⟨rfl,by unfold eH;omega⟩
 .obtain⟨rfl,rfl⟩:k=2/\i=0:=h1;simp (disch:=decide) only[U6,J7,o7,o6]at h;obtain⟨x,hx,h⟩:=jJ h;cases h;exact a8k hA hl hx
 .obtain⟨rfl,rfl⟩:k=3/\i=0:=h1;simp (disch:=decide) only[U6,J7,o7,o6]at h;obtain⟨x,hx,h⟩:=jJ h;cases h;exact a8i (k:=2) o5 hA hl hx
 .obtain⟨rfl,rfl⟩:k=4/\i=0:=h1;simp (disch:=decide) only[U6,J7,o7,o6]at h;obtain⟨c,hc,h⟩:=jJ h;cases hb:c.2<;>rw[hb]at h<;>simp only[H7,P9,o7,o6]at h
  .cases h
  have hw:w=c.1++[37]:=by
   unfold kL lu lw at hc;obtain⟨c',hc,e⟩:=jJ hc;cases e;obtain⟨b,hbb,hc⟩:=jJ hc;cases b
   .cases hc;cases hb
   simp only[H7,o6]at hc;obtain⟨y,hy,hc⟩:=jJ hc;cases hc;cases g:U7 (A7 ([37]:c6F)) (A7 w)<;>rw[g]at hbb
   .cases hbb
   rw[o7]at hbb;obtain⟨z,hz,hbb⟩:=jJ hbb;have hwl:1<=w.length:=by have:=pg.1 g;unfold A7 at this;simp at this;omega
   have e1:N9 .i64 (A7 w) (A7 ([37]:c6F))=((w.length -1:Nat):Int):=by rw[dO (by unfold eH A7;simp;omega)];unfold A7;simp;omega
   rw[e1,pG o5 o5,F7]at hz;rw[e1,yA o5 o5,F7]at hy;cases hz;cases hy;have hs:w.drop (w.length -1)=[37]:=jW.1 (Y1 hbb);simp only;rw[←hs,Z4]
  obtain⟨x,hx,h⟩:=jJ h;cases h;rw[hw]at hA hl ⊢;obtain⟨a1,a2⟩:=a8i (k:=4) o5 (OO hA).1 (by simp at hl;omega) hx;refine⟨?_,a2⟩;show Di n 4++[37]=_;rw[a1]
 .obtain⟨rfl,rfl⟩:k=5/\i=0:=h1;simp (disch:=decide) only[U6,J7,o7,o6]at h;obtain⟨x,hx,h⟩:=jJ h;cases h;obtain⟨a1,a2,a3⟩:=G_ hA o5 hx;exact⟨a3,by unfold eH;omega⟩
 .obtain rfl:k=6:=h1;obtain⟨e,he,hem⟩:=TV hv rfl;have hml:=hm e hem;simp (disch:=decide) only[U6,J7,o7,o6]at h;rw[he,o9]at h;obtain⟨o,ho,h⟩:=jJ h;have hf:=b1F e.2 (λv=>seq v w) (λi=>((i:Int),(0:Int))) o5 (f:=λ(x_1:Int)=>
         l7 (I5 x_1 (A7 e.2))
          (l9 (P5 e.2 x_1) λ(v:c6F)=>
           l7 (seq v w) (some (Out.rt (x_1,0))) (some (Out.nx (G5 IntKind.i64 x_1 1))))
          (some (Out.ex PUnit.unit))) (λi a ha=>by
     have:=(bg.1 ha).1;simp only[aF ha,o7,V8,ha,o9];rw[dH o5];cases seq a w<;>rfl) (by simp only[aS,o6])
  rcases hf with q|⟨j,a,ha,hp,q⟩
  .obtain rfl:=Y1 (ho.symm.trans q);rw[V6]at h;cases h
  .obtain rfl:=Y1 (ho.symm.trans q);rw[gI]at h;cases h;have hj:=(bg.1 ha).1;refine⟨?_,by unfold eH;omega⟩;unfold vaT gtN;simp (disch:=decide) only[J7,o6];rw[he,Y3,V8,ha];exact jW.1 hp
theorem b7t{v:aI}{n:Int}(hm:∀e∈E,e.2.length<=100000)(hA:Asc w)(hl:w.length<=100000)(h:Ah w t E=some (v,0)):vty t E=true/\inB v.2.2 (bnd t E)=true/\vaT v.2.2 t E=w/\eH v.2.2:=by
 unfold Ah at h;rw[qG,o9]at h;cases hv:vty t E<;>rw[hv]at h<;>simp only[H7,P9,o7,o6]at h
 .cases h
 obtain⟨x,hx,h⟩:=jJ h;cases g:C9 x.2 0<;>rw[g]at h<;>simp only[H7,P9,o7,o6]at h
 .exact absurd (congrArg (·.2) (Y1 h)) (zI.1 g)
 have hx0:x=(x.1,0):=by rw[←gp.1 g]
 obtain⟨b,hb,h⟩:=jJ h;cases b<;>simp only[H7,P9,o7,o6]at h
 .cases h
 cases h;rw[hx0]at hx;obtain⟨a1,a2⟩:=b1Z hm hv hA hl hx;refine⟨rfl,?_,a1,a2⟩;unfold iU at hb;rw[BO,o9]at hb;unfold inB;simp only;cases g1:U7 (bnd t E).1 x.1<;>rw[g1]at hb
 .cases hb
 .exact Y1 hb
end
end
section
structure NmOkB (N:E9):Prop where
 e:∀e∈N.1,e.1.length<=100000/\∀m∈e.2,m.length<=100000
 t:∀s∈N.2.1,s.length<=100000
 i:∀s∈N.2.2.1,s.length<=100000
 d:∀s∈N.2.2.2.1,s.length<=100000
 m:∀s∈N.2.2.2.2,s.length<=100000
variable {N:E9}{m:Int}{k:Int}
theorem yF(hk:k=7\/k=8\/k=36\/k=37\/k=38\/k=39)(hN:NmOkB N):yL (k,m) [] N (jP (k,m) N):=by
 have key:∀(l:List c6F) (before after:c6F),(∀s∈l,s.length<=100000)->before.length<=100->after.length<=100->
   X3 (k,m) N=l7 (I5 m 0) (some 6) (l7 (U7 (A7 l) m) (some 6) (some 0))->
   ay (k,m) N=l7 (I5 m 0) (some (([],0,false),6))
    (l7 (U7 (A7 l) m) (some (([],0,false),6))
     (l9 (P5 l m) λ(x_1:c6F)=>
      l9 (N8 before x_1) λ(x_2:c6F)=>
       l9 (N8 x_2 after) λ(x:c6F)=>some ((x,7,false),0)))->
   jP (k,m) N=(before++gtN l m++after,7)->yL (k,m) [] N (jP (k,m) N):=by
  intro l before after hl hb ha hf0 hr he;have hf:X3 (k,m) N=some (l7 (I5 m 0) 6 (l7 (U7 (A7 l) m) 6 0)):=by rw[hf0];cases I5 m 0<;>cases U7 (A7 l) m<;>rfl
  refine a0O _ hf ?_;have hnum:Fz k=false:=by rcases hk with rfl|rfl|rfl|rfl|rfl|rfl<;>rfl
  rw[Gl _ _ _ _ o5,hr,he,hnum];by_cases h0:m<0
  .rw[aP h0];rfl
  by_cases h1:A7 l<=m
  .simp only[U1 (show 0<=m by omega),bH h1];rfl
  .have:=EP (l:=l) (i:=m) o5 o5;have h2:=hl _ this.2;simp only[U1 (show 0<=m by omega),dE (show m<A7 l by omega),o6,this.1,o9];rw[G6 o5,o9,G6 E5,o9];rfl
 have mem:∀k:Int,(k=36\/k=37\/k=38\/k=39)->ay (k,m) N=l7 (I5 m 0) (some (([],0,false),6))
    (l7 (U7 (A7 N.2.2.2.2) m) (some (([],0,false),6))
     (l9 (P5 N.2.2.2.2 m) λ(x_1:c6F)=>
      l9 (N8 (pV k++[40]) x_1) λ(x_2:c6F)=>
       l9 (N8 x_2 [41]) λ(x:c6F)=>some ((x,7,false),0))):=by
  intro k hk;have hw:=lJ k;unfold ay V9;simp only[J7 (show k≠6 by omega),J7 (show k≠7 by omega),J7 (show k≠8 by omega),o6,lm,o9,G6 (a:=pV k) (b:=[40]) E5,V6]
 have lf:∀k:Int,(k=36\/k=37\/k=38\/k=39)->jP (k,m) N=(pV k++[40]++gtN N.2.2.2.2 m++[41],7):=by intro k hk;unfold jP;simp only[dE (show 5<k by omega),J7 (show k≠6 by omega),J7 (show k≠7 by omega),J7 (show k≠8 by omega),J7 (show k≠9 by omega),J7 (show k≠35 by omega),o6]
 have wl:=λk=>lJ k;rcases hk with rfl|rfl|rfl|rfl|rfl|rfl
 .refine key N.2.2.1 [] [] hN.i D5 D5 rfl ?_ ?_
  .unfold ay V9;simp (disch:=decide) only[U6,J7,o7,o6,o9,V6]
  .unfold jP;simp (disch:=decide) only[U6,J7,dE,o7,o6];simp
 .refine key N.2.2.2.1 [] [] hN.d D5 D5 rfl ?_ ?_
  .unfold ay V9;simp (disch:=decide) only[U6,J7,o7,o6,o9,V6]
  .unfold jP;simp (disch:=decide) only[U6,J7,dE,o7,o6];simp
 .exact key N.2.2.2.2 (pV 36++[40]) [41] hN.m J8 J8 rfl (mem _ o5) (lf _ o5)
 .exact key N.2.2.2.2 (pV 37++[40]) [41] hN.m J8 J8 rfl (mem _ o5) (lf _ o5)
 .exact key N.2.2.2.2 (pV 38++[40]) [41] hN.m J8 J8 rfl (mem _ o5) (lf _ o5)
 .exact key N.2.2.2.2 (pV 39++[40]) [41] hN.m J8 J8 rfl (mem _ o5) (lf _ o5)
theorem ZC(hm:eH m)(hN:NmOkB N):yL (6,m) [] N (jP (6,m) N):=by
 have hf:X3 (6,m) N=(l7 (I5 m 0) (some 6)
    (l7 (U7 (A7 N.1) (aO .i64 m 16)) (some 6)
     (l9 (P5 N.1 (aO .i64 m 16)) λ(x:bK)=>
      l7 (U7 (A7 x.2) (fE m 16)) (some 6) (some 0)))):=rfl
 have hr:ay (6,m) N=l9 (l7 (I5 m 0) (some (Sum.inr (([],0,false),6)))
   (l7 (U7 (A7 N.1) (aO IntKind.i64 m 16)) (some (Sum.inr (([],0,false),6)))
    (l9 (P5 N.1 (aO IntKind.i64 m 16)) λ(x:bK)=>
     l9 (N8 x.1 [58]) λ(x_1:c6F)=>some (Sum.inl (([],0,false),x.2,fE m 16,x_1,[]))))) λ(o:H8×List c6F×Int×c6F×c6F⊕H8×Int)=>
 Z8 o
  (λ(x:H8×List c6F×Int×c6F×c6F)=>
   l7 (I5 x.2.2.1 0) (some (([],0,false),6))
    (l7 (U7 (A7 x.2.1) x.2.2.1) (some (([],0,false),6))
     (l9 (P5 x.2.1 x.2.2.1) λ(x_1:c6F)=>
      l9 (N8 x.2.2.2.1 x_1) λ(x_2:c6F)=>
       l9 (N8 x_2 x.2.2.2.2) λ(x:c6F)=>
        l9 (V9 x) λ(x:H8)=>some (x,0))))
  λ(r:H8×Int)=>some r:=rfl
 have hl:jP (6,m) N=(((P5 N.1 (aO .i64 m 16)).getD ([],[])).1++[58]++gtN ((P5 N.1 (aO .i64 m 16)).getD ([],[])).2 (fE m 16),7):=rfl;unfold yL;rw[hf,Gl _ _ _ _ o5,hr,hl];by_cases h0:m<0
 .rw[aP h0];exact⟨6,rfl,rfl⟩
 rw[U1 o5,o6,o6];by_cases h1:A7 N.1<=aO .i64 m 16
 .rw[bH h1];exact⟨6,rfl,rfl⟩
 rw[dE o5,o6,o6];have hq:0<=aO .i64 m 16:=by rw[MI hm 16 (.inr rfl),nH o5];omega
 obtain⟨e,he,hmem⟩:=vH (l:=N.1) hq o5;have hb:=hN.e e hmem;have hr0:fE m 16=m % 16:=Aw o5;simp only[he,o9,Y3,G6 (a:=e.1) (b:=[58]) E5,V6];rw[U1 (show 0<=fE m 16 by omega),o6];by_cases h2:A7 e.2<=fE m 16
 .rw[bH h2];exact⟨6,rfl,rfl⟩
 rw[dE o5,o6,o6];have hg:=EP (l:=e.2) (i:=fE m 16) o5 o5;have h3:=hb.2 _ hg.2;refine⟨0,rfl,?_⟩;rw[hg.1,o9,G6 E5,o9,G6 E5,o9];simp only[V9,o9,G7];rfl
theorem a8X(hN:NmOkB N)(hm:eH m)(ha:arF k=0)(hu:m=0\/bI k=some true):yL (k,m) [] N (jP (k,m) N):=by
 have hz:(k=9\/k=35)->m=0:=by
  intro h;rcases hu with h1|h1
  .exact h1
  .exfalso;rcases h with rfl|rfl<;>exact absurd h1 J8
 rcases ar0 ha with rfl|rfl|rfl|rfl|rfl|rfl|rfl|rfl|rfl|rfl|rfl|rfl|rfl|rfl
 .exact uh o5 hm N
 .exact uh o5 hm N
 .exact uh o5 hm N
 .exact uh o5 hm N
 .exact uh o5 hm N
 .exact ZC hm hN
 .exact yF o5 hN
 .exact yF o5 hN
 .rw[hz o5];exact a0G
 .rw[hz o5];exact Yi
 .exact yF o5 hN
 .exact yF o5 hN
 .exact yF o5 hN
 .exact yF o5 hN
theorem a0J{b:Bool}(hm:eH m)(hN:NmOkB N)(a:H8)(h1:a.1.length<=1000000000):yL (33,m) [a] N (yN (33,m) N b (a.1,a.2.1)):=by
 have hf:X3 (33,m) N=l7 (I5 m 0) (some 6) (l7 (U7 (A7 N.2.1) m) (some 6) (some 0)):=rfl;have hr:U4 (33,m) [a] N=aT (33,m) a N:=by unfold U4;generalize hq:aT (33,m) a N=q;simp (disch:=decide) only[U6,J7,o7,o6,o9,lx0,hq];cases q<;>rfl
 have hx:yN (33,m) N b (a.1,a.2.1)=(pV 33++[40]++gtN N.2.1 m++[44,32]++a.1++[41],7):=rfl;unfold yL;rw[hf,hr,hx];unfold aT V9;simp (disch:=decide) only[U6,J7,o7,o6,o9,lm];by_cases h0:m<0
 .rw[aP h0];exact⟨6,rfl,rfl⟩
 rw[U1 o5,o6,o6];by_cases h2:A7 N.2.1<=m
 .rw[bH h2];exact⟨6,rfl,rfl⟩
 rw[dE o5,o6,o6];have hg:=EP (l:=N.2.1) (i:=m) o5 o5;have h3:=hN.t _ hg.2;have hw:=lJ 33;refine⟨0,rfl,?_⟩;rw[o9,V6,G6 E5,o9,hg.1,o9,G6 E5,o9,G6 E5,o9,G6 E5,o9,G6 E5,o9];rfl
theorem ZB{b:Bool}(hm:eH m)(hN:NmOkB N)(a:H8)(h1:a.1.length<=1000000000):yL (34,m) [a] N (yN (34,m) N b (a.1,a.2.1)):=by
 have hf:X3 (34,m) N=l7 (I5 m 0) (some 6) (l7 (U7 (A7 N.2.1) (aO .i64 m 8)) (some 6) (l7 (I5 5 (fE m 8)) (some 3) (some 0))):=rfl;have hr:U4 (34,m) [a] N=aT (34,m) a N:=by unfold U4;generalize hq:aT (34,m) a N=q;simp (disch:=decide) only[U6,J7,o7,o6,o9,lx0,hq];cases q<;>rfl
 have hx:yN (34,m) N b (a.1,a.2.1)=(pV 34++[40]++gtN N.2.1 (aO .i64 m 8)++[44,32]++a.1++[44,32]++wX (fE m 8)++[41],7):=rfl;unfold yL;rw[hf,hr,hx];unfold aT V9;simp (disch:=decide) only[U6,J7,o7,o6,o9,lm,Gf];by_cases h0:m<0
 .rw[aP h0,U1 (show m<=0 by omega)];simp only[o7,o6,o9,aP h0,gI];exact⟨6,rfl,rfl⟩
 have hq:aO .i64 m 8=m / 8:=by rw[MI hm 8 (.inl rfl),nH o5]
 have hi:(l7 (I5 0 m) (some (aO .i64 m 8)) (some m):c6K)=some (aO .i64 m 8):=by
  by_cases h:0<m
  .rw[aP h];rfl
  .rw[U1 o5,o6,show aO .i64 m 8=m by omega]
 rw[hi,o9,U1 (show 0<=m by omega),o6,U1 (show 0<=aO .i64 m 8 by omega),o6];by_cases h2:A7 N.2.1<=aO .i64 m 8
 .rw[bH h2];exact⟨6,rfl,rfl⟩
 rw[dE o5,o6,o6];have hg:=EP (l:=N.2.1) (i:=aO .i64 m 8) o5 o5;have h3:=hN.t _ hg.2;have hw:=lJ 34;have hm:=yX (fE m 8);have hr0:fE m 8=m % 8:=Aw o5;rw[o9,V6,G6 E5,o9,hg.1,o9,G6 E5,o9,G6 E5,o9,G6 E5,o9,VC (show 0<=fE m 8 by omega)];cases I5 5 (fE m 8)
 .refine⟨0,rfl,?_⟩;rw[o6,G6 E5,o9,G6 E5,o9,G6 E5,o9];simp[l7];rfl
 .exact⟨3,rfl,rfl⟩
theorem a8Y(hN:NmOkB N)(hm:eH m)(ha:arF k=1)(hu:m=0\/bI k=some true)(a:H8)(h1:a.1.length<=1000000000):yL (k,m) [a] N (yN (k,m) N a.2.2 (a.1,a.2.1)):=by
 have hz:(k=10\/k=25\/k=31\/k=32)->m=0:=by
  intro h;rcases hu with h1|h1
  .exact h1
  .exfalso;rcases h with rfl|rfl|rfl|rfl<;>exact absurd h1 J8
 have hw:=CO (a.1,a.2.1) 6;simp only at hw;rcases ar1 ha with rfl|rfl|rfl|rfl|rfl|rfl
 .rw[hz o5];refine⟨0,rfl,?_⟩;unfold U4 yN;simp (disch:=decide) only[U6,J7,o7,o6,o9,lx0,CP a 6 h1];cases h:a.2.2
  .simp only[o6,o7];rw[G6 E5,o9,o9,gI];rfl
  .simp only[o7];rw[G6 E5,o9,G6 E5,o9,G6 E5,o9,o9,gI];rfl
 .rw[hz o5];refine⟨0,rfl,?_⟩;unfold U4 yN;simp (disch:=decide) only[U6,J7,o7,o6,o9,lx0,CP a 6 h1];rw[G6 E5,o9,o9,gI];rfl
 .rw[hz o5];refine⟨0,rfl,?_⟩;have hl:=lJ 31;unfold U4 yN V9;simp (disch:=decide) only[U6,J7,o7,o6,o9,lx0,lm];rw[G6 E5,o9,G6 E5,o9,G6 E5,o9,o9,gI];rfl
 .rw[hz o5];refine⟨0,rfl,?_⟩;have hl:=lJ 32;unfold U4 yN V9;simp (disch:=decide) only[U6,J7,o7,o6,o9,lx0,lm];rw[G6 E5,o9,G6 E5,o9,G6 E5,o9,o9,gI];rfl
 .exact a0J hm hN a h1
 .exact ZB hm hN a h1
theorem a5U{n:Int×Int}(hN:NmOkB N)(hI:eH n.2):(jP n N).1.length<=300000:=by
 unfold jP;have hw:=lJ n.1;have g1:=uB hN.i n.2;have g2:=uB hN.d n.2;have g3:=uB hN.m n.2;have hv:((vO (n.1,0,n.2) []).getD ([],0)).1.length<=100:=by obtain⟨t,ht,hl⟩:=wB (B:=100) o5 o5 (v:=(n.1,0,n.2)) (en:=[]) hI (λe h=>by cases h);rw[←wz [] hI,ht];exact hl
 have he:((P5 N.1 (aO .i64 n.2 16)).getD ([],[])).1.length<=100000/\(gtN ((P5 N.1 (aO .i64 n.2 16)).getD ([],[])).2 (fE n.2 16)).length<=100000:=by
  cases hx:P5 N.1 (aO .i64 n.2 16)with
  |none=>exact⟨D5,uB (B:=100000) (λs h=>by cases h) _⟩|some e=>have:=hN.e e (wE hx).2.2.1;exact⟨this.1,uB this.2 _⟩
 cases U7 n.1 5
 case true=>simp only[o7];omega
 cases C9 n.1 6
 case true=>simp only[o7,o6];simp;omega
 cases C9 n.1 7
 case true=>simp only[o7,o6];omega
 cases C9 n.1 8
 case true=>simp only[o7,o6];omega
 cases C9 n.1 9
 case true=>simp[l7]
 cases C9 n.1 35
 case true=>simp[l7]
 .simp only[o6];simp;omega
theorem a7Q{n:Int×Int}(hN:NmOkB N)(b:Bool)(a:Tx):(yN n N b a).1.length<=a.1.length+300000:=by
 unfold yN;have hw:=lJ n.1;have hm:=yX (fE n.2 8);have g1:=uB hN.t n.2;have g2:=uB hN.t (aO .i64 n.2 8);have w:=CO a 6;cases C9 n.1 33
 case true=>simp only[o7];simp;omega
 cases C9 n.1 34
 case true=>simp only[o7,o6];simp;omega
 cases C9 n.1 25
 case true=>simp only[o7,o6];simp;omega
 cases C9 n.1 10
 case true=>simp only[o7,o6];cases b<;>simp<;>omega
 .simp only[o6];simp;omega
theorem zC{N:E9}(hN:NmOkB N):∀(t:XT),(∀n∈t.post,eH n.2)->(mG N t).1.length<=300000*t.size
 | .l0 n,h=>a5U hN (h n (by simp[XT.post]))| .l1 n a,h=>by have h1:=zC hN a (λm hm=>h m (by simp[XT.post,hm]));have h2:=a7Q (n:=n) hN (Fz a.node.1) (mG N a);simp only[mG,XT.size];omega| .l2 n a b,h=>by have h1:=zC hN a (λm hm=>h m (by simp[XT.post,hm]));have h2:=zC hN b (λm hm=>h m (by simp[XT.post,hm]));have h3:=a5j (n:=n) (mG N a) (mG N b);simp only[mG,XT.size];omega| .l3 n a b c,h=>by have h1:=zC hN a (λm hm=>h m (by simp[XT.post,hm]));have h2:=zC hN b (λm hm=>h m (by simp[XT.post,hm]));have h3:=zC hN c (λm hm=>h m (by simp[XT.post,hm]));simp only[mG,XT.size,ifX];simp;omega
variable {e:List (Int×Int)}
theorem a7n(he:e.length<=48)(hN:NmOkB N)(hI:∀n∈e,eH n.2):∀(t:XT) (pre suf:List (Int×Int)) (p:List H8) (m:Nat),e=pre++t.post++suf->t.wf->p.length+t.size<=60->
  iZ (fmF e N) (m+t.size) (p,(pre.length:Int))=l7 (C9 (ffS N t.post) 0) (iZ (fmF e N) m (p++[pcT N t],((pre.length+t.size:Nat):Int))) (some (.inr ([],ffS N t.post))):=by
 have stepN:∀(n:Int×Int) (pre suf:List (Int×Int)) (p args:List H8) (x:Tx) (m:Nat),e=pre++[n]++suf->p.length<=60->args.length<=3->arF n.1=(args.length:Int)->((n.2=0\/bI n.1=some true)->yL n args N x)->
   iZ (fmF e N) (m+1) (p++args,(pre.length:Int))=l7 (C9 (flS n N) 0) (iZ (fmF e N) m (p++[(x.1,x.2,Fz n.1)],((pre.length+1:Nat):Int))) (some (.inr ([],flS n N))):=by
  intro n pre suf p args x m h1 h2 h3 h4 h5;have hn:e[pre.length]? =some n:=by rw[h1,E8,H9 (D7 _),dR];rfl
  have hlt:=(bg.1 hn).1;rw[jG,a4k hn o5 o5 h3 h4 h5];unfold fmG;cases C9 (flS n N) 0<;>rfl
 intro t;induction t with
 |l0 n=>
  intro pre suf p m h hw hs;have hI1:=hI n (by rw[h];simp[XT.post]);have:=stepN n pre suf p [] (jP n N) m h o5 D5 hw (λhu=>a8X hN hI1 hw hu);rw[G7]at this;rw[show(XT.l0 n).size=1 from rfl,this];unfold XT.post ffS ffS;cases hf:C9 (flS n N) 0
  .simp only[o6,hf]
  .simp only[o7,U6 (rfl:(0:Int)=0)];rfl
 |l1 n a iha=>
  intro pre suf p m h hw hs;simp only[XT.post,XT.size]at h hs ⊢;have hI1:=hI n (by rw[h];simp);have hIa:∀n∈a.post,eH n.2:=λq hq=>hI q (by rw[h];simp[hq]);have hl:=zC hN a hIa;rw[show m+(a.size+1)=(m+1)+a.size by omega,iha pre ([n]++suf) p (m+1) (by rw[h];simp) hw.2 o5,BQ];cases hf:C9 (ffS N a.post) 0
  .simp only[o6,hf]
  have:=stepN n (pre++a.post) suf p [pcT N a] (yN n N (Fz a.node.1) (mG N a)) m (by rw[h];simp) o5 D5 hw.1 (λhu=>a8Y hN hI1 hw.1 hu (pcT N a) (by simp only[pcT];omega));rw[show(pre++a.post).length=pre.length+a.size by simp[XT.post_len]]at this;simp only[o7];rw[this];unfold ffS ffS;cases hg:C9 (flS n N) 0
  .simp only[o6,hg]
  .simp only[o7,U6 (rfl:(0:Int)=0)];rfl
 |l2 n a b iha ihb=>
  intro pre suf p m h hw hs;simp only[XT.post,XT.size]at h hs ⊢;have hI1:=hI n (by rw[h];simp);have hIa:∀n∈a.post,eH n.2:=λq hq=>hI q (by rw[h];simp[hq]);have hIb:∀n∈b.post,eH n.2:=λq hq=>hI q (by rw[h];simp[hq]);have hla:=zC hN a hIa;have hlb:=zC hN b hIb;have s1:=a.size_pos;have s2:=b.size_pos;rw[show m+(a.size+b.size+1)=(m+1+b.size)+a.size by omega,iha pre (b.post++[n]++suf) p (m+1+b.size) (by rw[h];simp) hw.2.1 o5,BQ,BQ];cases hf:C9 (ffS N a.post) 0
  .simp only[o6,hf]
  have i2:=ihb (pre++a.post) ([n]++suf) (p++[pcT N a]) (m+1) (by rw[h];simp) hw.2.2 E5;rw[show(pre++a.post).length=pre.length+a.size by simp[XT.post_len]]at i2;simp only[o7];rw[i2];cases hf2:C9 (ffS N b.post) 0
  .simp only[o6,hf2]
  have:=stepN n (pre++a.post++b.post) suf p [pcT N a,pcT N b] (JQ n (mG N a) (mG N b)) m (by rw[h];simp) o5 D5 hw.1 (λhu=>Zz hw.1 hu (pcT N a) (pcT N b) (by simp only[pcT];omega) (by simp only[pcT];omega));rw[show(pre++a.post++b.post).length=pre.length+a.size+b.size by simp[XT.post_len];omega,show pre.length+a.size+b.size+1=pre.length+(a.size+b.size+1) by omega]at this;simp only[o7];rw[show p++[pcT N a]++[pcT N b]=p++[pcT N a,pcT N b] by simp,this];unfold ffS ffS;cases hg:C9 (flS n N) 0
  .simp only[o6,hg]
  .simp only[o7,U6 (rfl:(0:Int)=0)];rfl
 |l3 n a b c iha ihb ihc=>
  intro pre suf p m h hw hs;simp only[XT.post,XT.size]at h hs ⊢;have hI1:=hI n (by rw[h];simp);have hIa:∀n∈a.post,eH n.2:=λq hq=>hI q (by rw[h];simp[hq]);have hIb:∀n∈b.post,eH n.2:=λq hq=>hI q (by rw[h];simp[hq]);have hIc:∀n∈c.post,eH n.2:=λq hq=>hI q (by rw[h];simp[hq]);have hla:=zC hN a hIa;have hlb:=zC hN b hIb;have hlc:=zC hN c hIc;have s1:=a.size_pos;have s2:=b.size_pos;have s3:=c.size_pos;have h26:=ar3 hw.1;rw[show m+(a.size+b.size+c.size+1)=(m+1+c.size+b.size)+a.size by omega,iha pre (b.post++c.post++[n]++suf) p (m+1+c.size+b.size) (by rw[h];simp) hw.2.1 o5,BQ,BQ,BQ];cases hf:C9 (ffS N a.post) 0
  .simp only[o6,hf]
  have i2:=ihb (pre++a.post) (c.post++[n]++suf) (p++[pcT N a]) (m+1+c.size) (by rw[h];simp) hw.2.2.1 E5;rw[show(pre++a.post).length=pre.length+a.size by simp[XT.post_len]]at i2;simp only[o7];rw[i2];cases hf2:C9 (ffS N b.post) 0
  .simp only[o6,hf2]
  have i3:=ihc (pre++a.post++b.post) ([n]++suf) (p++[pcT N a]++[pcT N b]) (m+1) (by rw[h];simp) hw.2.2.2 E5;rw[show(pre++a.post++b.post).length=pre.length+a.size+b.size by simp[XT.post_len];omega]at i3;simp only[o7];rw[i3];cases hf3:C9 (ffS N c.post) 0
  .simp only[o6,hf3]
  have:=stepN n (pre++a.post++b.post++c.post) suf p [pcT N a,pcT N b,pcT N c] (ifX (mG N a) (mG N b) (mG N c)) m (by rw[h];simp) o5 D5 hw.1 (λhu=>by obtain⟨k,v⟩:=n;simp only at h26 hu;subst h26;exact ZA hu (pcT N a) (pcT N b) (pcT N c) (by simp only[pcT];omega) (by simp only[pcT];omega) (by simp only[pcT];omega))
  rw[show(pre++a.post++b.post++c.post).length=pre.length+a.size+b.size+c.size by simp[XT.post_len];omega,show pre.length+a.size+b.size+c.size+1=pre.length+(a.size+b.size+c.size+1) by omega]at this;simp only[o7];rw[show p++[pcT N a]++[pcT N b]++[pcT N c]=p++[pcT N a,pcT N b,pcT N c] by simp,this];unfold ffS ffS;cases hg:C9 (flS n N) 0
  .simp only[o6,hg]
  .simp only[o7,U6 (rfl:(0:Int)=0)];rfl
theorem YQ(hN:NmOkB N)(hI:∀n∈e,eH n.2):iq e N=some (BC e N):=by
 unfold iq sW BC;rw[Ed];unfold uu;cases h:kM e with
 |inl x=>simp only[o9,J7 (xW h)];rfl|inr t=>
  obtain⟨h1,h2,h3,h4⟩:=OT h;obtain⟨hp,-⟩:=qK h;simp only[o9,U6 (rfl:(0:Int)=0),H7,o6];have hl:V4 (fmF e N) ([],0)=some (l7 (C9 (ffS N e) 0) (.inl [pcT N t]) (.inr ([],ffS N e))):=by
   unfold V4;rw[show dZ=(dZ -t.size)+t.size by unfold dZ;omega];have:=a7n h2 hN hI t [] [] [] (dZ -t.size) (by simp[←hp]) (ML h) E5;rw[show(([]:List (Int×Int)).length:Int)=0 from rfl]at this;rw[this,←hp];cases C9 (ffS N e) 0
   .rfl
   .simp only[o7];rw[show dZ -t.size=(dZ -t.size -1)+1 by unfold dZ;omega];rw[jG];unfold fmF;simp only[aB,bY];rw[←h3,show I5 ((e.length:Nat):Int) (A7 e)=false from aS e];rfl
  refine Y5 hl ?_;rw[o9];cases C9 (ffS N e) 0<;>rfl
variable {s:c6F}
theorem a2B(hA:Asc s)(hN:NmLe N)(hO:NmOkB N):∃e k c,qQ s N=some (e,k,c)/\NdI e:=by
 obtain⟨T,o,c,e,h1,h2⟩:=ZZ s hA;unfold qQ;rw[e,o9];cases H5 (C9 c 0)
 case true=>exact⟨_,_,_,rfl,λn hn=>by cases hn⟩
 simp only[o6];have g0:GdS T 0 0 0 []:=⟨D7 _,cO _,D7 _,λn hn=>by cases hn⟩;obtain⟨b,i,nd,off,c1,e1,g1⟩:=(a3S (E:=A7 s) (N:=N) h2 h1 hN dZ).e 0 0 0 [] 0 0 g0 (by unfold dZ;omega);rw[show qR (T,0,A7 s,N,[],0,0)=_ from e1,o9];have fin:∀{j:Nat} {off' c' :Int},∃e k c,(l7 (H5 (C9 (pT T (A7 s) N j nd off' c').2.2.2.2.2.2 0)) (some (([]:List H6),(pT T (A7 s) N j nd off' c').2.2.2.2.2))
    (l9 (sW (pT T (A7 s) N j nd off' c').2.2.2.2.1) λ(x_1:c6G×Int)=>
     l7 (H5 (C9 x_1.2 0)) (some ([],0,x_1.2))
      (l9 (iq (pT T (A7 s) N j nd off' c').2.2.2.2.1 N) λ(x_2:c6F×Int)=>
       l7 (H5 (C9 x_2.2 0)) (some ([],0,2))
        (l7 (H5 (seq x_2.1 s)) (some ([],0,2)) (some ((pT T (A7 s) N j nd off' c').2.2.2.2.1,0,0))))))=some (e,k,c)/\NdI e:=by
  intro j off' c';have n0:NdI []:=λn hn=>by cases hn
  simp only;cases H5 (C9 c' 0)
  case true=>exact⟨_,_,_,rfl,n0⟩
  simp only[o6];unfold sW;rw[Ed,o9];rw[YQ hO g1.ni];simp only[o9];cases H5 (C9 (uu nd).2.2 0)
  case true=>exact⟨_,_,_,rfl,n0⟩
  cases H5 (C9 (BC nd N).2 0)
  case true=>exact⟨_,_,_,rfl,n0⟩
  cases H5 (seq (BC nd N).1 s)
  case true=>exact⟨_,_,_,rfl,n0⟩
  exact⟨_,_,_,rfl,g1.ni⟩
 cases b
 .exact fin
 .simp only[o7];cases I5 (i:Int) (A7 T)
  .exact fin
  .obtain⟨off',he⟩:=O_ (T:=T) (E:=A7 s) (N:=N) (i:=i) (nd:=nd) (off:=off) (c:=c1) 2;simp only[o7];rw[he];exact @fin i off' 2
theorem a7q{σ ε α ρ:Type}(l:List α)(p:α->Bool)(mk:Nat->σ)(g:Nat->ρ)(ex:ε)(hl:l.length<=1000000){f:σ->Option (Out σ ε ρ)} (h1:∀(i:Nat) (a:α),l[i]? =some a->f (mk i)=some (l7 (p a) (.rt (g i)) (.nx (mk (i+1))))) (h2:f (mk l.length)=some (.ex ex)):
  (V4 f (mk 0)=some (.inl ex))\/∃(j:Nat) (a:α),l[j]? =some a/\p a=true/\V4 f (mk 0)=some (.inr (g j)):=by
 have key:∀(n i m:Nat),l.length -i=n->i<=l.length->(iZ f (m+1+n) (mk i)=some (.inl ex))\/∃(j:Nat) (a:α),l[j]? =some a/\p a=true/\iZ f (m+1+n) (mk i)=some (.inr (g j)):=by
  intro n;induction n with
  |zero=>intro i m hn hi;obtain rfl:i=l.length:=o5;left;rw[aH,jG,h2]
  |succ n ih=>
   intro i m hn hi;have hlt:i<l.length:=o5;have hg:=lF hlt;have hs:=h1 i _ hg;rw[show m+1+(n+1)=(m+1+n)+1 by omega,jG,hs];cases hp:p l[i]
   .exact ih (i+1) m o5 o5
   .exact .inr ⟨i,_,hg,hp,rfl⟩
 have:=key l.length 0 (dZ -1 -l.length) o5 o5;rw[show dZ -1 -l.length+1+l.length=dZ by unfold dZ;omega]at this;exact this
theorem a8l(s:c6F)(hl:s.length<=100000):∃v c,jU s=some (v,c):=by obtain⟨v,c,h,-⟩:=EY s 0 o5 hl;exact⟨v,c,by unfold jU;rw[h];rfl⟩
theorem a8j(s:c6F)(k:Nat)(hk:1<=k/\k<=9)(hl:s.length<=100000):∃v c,dV s (k:Int)=some (v,c):=by
 obtain⟨v,c,h,-⟩:=EY s (k:Int) o5 hl;have hc:fK (k:Int)=some (k:Int):=by unfold fK wL Dj;congr 1;omega
 exact⟨v,c,by unfold dV;rw[hc,o9,h];rfl⟩
theorem a6X(w:c6F)(hl:w.length<=100000):∃a b,kL w [37]=some (a,b)/\a.length<=w.length:=by
 unfold kL lu lw;cases g:U7 (A7 ([37]:c6F)) (A7 w)
 .exact⟨w,false,rfl,D7 _⟩
 have hwl:1<=w.length:=by have:=pg.1 g;unfold A7 at this;simp at this;omega
 have e1:N9 .i64 (A7 w) (A7 ([37]:c6F))=((w.length -1:Nat):Int):=by rw[dO (by unfold eH A7;simp;omega)];unfold A7;simp;omega
 rw[o7,e1,pG o5 o5,o9,o9];cases H5 (seq (w.drop ((w.length -1:Nat):Int).toNat) [37])
 .rw[o6,yA o5 o5];exact⟨_,_,rfl,by rw[aX];omega⟩
 .exact⟨_,_,rfl,D7 _⟩
theorem a3J(w:c6F)(t:Int×Int)(E:List bK)(hl:w.length<=100000)(hm:∀e∈E,e.2.length<=100002):∃v c,Ah w t E=some (v,c):=by
 unfold Ah;rw[qG,o9];cases hv:vty t E
 .exact⟨_,_,rfl⟩
 simp only[H7,o6];have hp:∃x,pU w t E=some x:=by
  obtain⟨k,i⟩:=t;unfold pU;rcases MN hv with h1|h1|h1|h1|h1|h1
  .obtain⟨rfl,rfl⟩:k=1/\i=0:=h1;simp only[U6 (rfl:(1:Int)=1),o7];cases seq w [102,97,108,115,101]
   .cases seq w [116,114,117,101]<;>exact⟨_,rfl⟩
   .exact⟨_,rfl⟩
  .obtain⟨rfl,rfl⟩:k=2/\i=0:=h1;simp (disch:=decide) only[U6,J7,o7,o6];obtain⟨v,c,h⟩:=a8l w hl;rw[h];exact⟨_,rfl⟩
  .obtain⟨rfl,rfl⟩:k=3/\i=0:=h1;simp (disch:=decide) only[U6,J7,o7,o6];obtain⟨v,c,h⟩:=a8j w 2 o5 hl;rw[show dV w 2=some (v,c)from h];exact⟨_,rfl⟩
  .obtain⟨rfl,rfl⟩:k=4/\i=0:=h1;simp (disch:=decide) only[U6,J7,o7,o6];obtain⟨a,b,h,h2⟩:=a6X w hl;rw[h,o9];cases b
   .exact⟨_,rfl⟩
   simp only[H7,o6];obtain⟨v,c,h⟩:=a8j a 4 o5 o5;rw[show dV a 4=some (v,c)from h];exact⟨_,rfl⟩
  .obtain⟨rfl,rfl⟩:k=5/\i=0:=h1;simp (disch:=decide) only[U6,J7,o7,o6];obtain⟨v,c,h,-⟩:=GI w o5;rw[h];exact⟨_,rfl⟩
  .obtain rfl:k=6:=h1;obtain⟨e,he,hem⟩:=TV hv rfl;have hml:=hm e hem;simp (disch:=decide) only[U6,J7,o7,o6];rw[he,o9];have hf:=a7q e.2 (λv=>seq v w) (λi=>(i:Int)) (λi=>((i:Int),(0:Int))) PUnit.unit o5 (f:=λ(x_1:Int)=>
         l7 (I5 x_1 (A7 e.2))
          (l9 (P5 e.2 x_1) λ(v:c6F)=>
           l7 (seq v w) (some (Out.rt (x_1,0))) (some (Out.nx (G5 IntKind.i64 x_1 1))))
          (some (Out.ex PUnit.unit))) (λi a ha=>by
     have:=(bg.1 ha).1;simp only[aF ha,o7,V8,ha,o9];rw[dH o5];cases seq a w<;>rfl) (by simp only[aS,o6])
   rcases hf with q|⟨j,a,ha,hp,q⟩
   .exact⟨_,by refine Y5 q ?_;rw[o9,V6]⟩
   .exact⟨_,by refine Y5 q ?_;rw[o9,gI]⟩
 obtain⟨x,hx⟩:=hp;rw[hx,o9];cases H5 (C9 x.2 0)
 .simp only[o6];unfold iU;rw[BO,o9];cases U7 (bnd t E).1 x.1
  .exact⟨_,_,rfl⟩
  .rw[o7,o9];cases H5 (U7 x.1 (bnd t E).2)<;>exact⟨_,_,rfl⟩
 .exact⟨_,_,rfl⟩
theorem a4a(t sub:c6F)(h0:sub≠[])(hl:t.length<=1000000000):∃a r f,zf t sub=some (a,r,f)/\(f=true->t=a++(sub++r))/\(f=false->a=t):=by
 unfold zf Lib.cut;rw[if_pos o5];rcases Lib.index_spec t sub with⟨h,-⟩|⟨i,h1,h2,h3,-⟩
 .rw[h,if_neg o5];exact⟨_,_,_,rfl,(λh=>by cases h),λ_=>rfl⟩
 .rw[h1,if_pos o5,F7];refine⟨_,_,_,rfl,λ_=>?_,(λh=>by cases h)⟩;unfold Lib.occAt at h3;obtain⟨r,hr⟩:=eF.1 h3;have e2:t.drop (i+sub.length)=r:=by rw[←af,←hr,fG]
  rw[e2,hr,Z4]
theorem b4h{t:c6F}(hO:NmOkB N)(hI:∀n∈e,eH n.2)(h:qQ t N=some (e,k,0)):(BC e N).1=t/\e≠[]:=by
 have hb:=VI ⟨k,h⟩;rw[YQ hO hI]at hb;have hf:=Y1 hb;refine⟨by rw[hf],λhe=>?_⟩;rw[he]at hf;have:(BC [] N).2≠0:=by
  unfold BC;cases hs:kM ([]:List (Int×Int))with
  |inl x=>exact xW hs|inr T=>have:=(qK hs).1;cases T<;>simp[XT.post]at this
 rw[hf]at this;exact this rfl
theorem a4A:∀(L:List c6F) (w:c6F),w∈L->w.length<=(xC L).length
 |[],w,hw=>by cases hw|v::L,w,hw=>by
  simp only[xC,I8,F5];rcases D8.1 hw with rfl|hw
  .omega
  .have:=a4A L w hw;omega
theorem Vk{n:c6F}(h:mJ n=true):n.length<=80:=by
 cases n with
 |nil=>simp|cons c r=>rw[QJ]at h;simp only[D6,decide_eq_true_eq]at h;omega
theorem b3Y{a:c6F}(h:a.length+1<=1000000000):BJ a 10=some ((),a++[10]):=by
 unfold BJ;rw[show(Nat.ble (a.length+1) 1073741824&&decide ((0:Int)<=10)&&decide ((10:Int)<=255))=true by rw[D6,D6];exact⟨⟨by rw[Nat.ble_eq];omega,J8⟩,J8⟩]
 rfl
variable {α:Type}
def nmP(L:List α)(f:α->c6F)(n:c6F)(i:Nat):c6K:=match L[i]? with|some a=>l7 (seq (f a) n) (some (i:Int)) none|none=>none
def nmI(L:List α)(f:α->c6F)(n:c6F):Int:=match ja L.length (nmP L f n)with|some r=>r|none=>-1
theorem Ir(L:List α)(f:α->c6F)(n:c6F):nmI L f n=-1\/∃(i:Nat) (a:α),nmI L f n=(i:Int)/\L[i]? =some a/\f a=n/\P5 L (nmI L f n)=some a/\a∈L:=by
 unfold nmI;cases h:ja L.length (nmP L f n)with
 |none=>exact .inl rfl|some r=>
  right;obtain⟨i,hi,hp⟩:=DU h;unfold nmP at hp;have e:=lF hi;rw[e]at hp;simp only at hp;cases g:seq (f L[i]) n<;>rw[g]at hp
  .cases hp
  .rw[o7]at hp;cases hp;exact⟨i,L[i],rfl,e,jW.1 g,by simp only;rw[V8];exact e,Y2 hi⟩
theorem TY(L:List α)(fl:α->c6F)(n:c6F)(hl:L.length<=1000000){f:Int->Option (Out Int PUnit Int)}
  (h1:∀(i:Nat) (a:α),L[i]? =some a->f (i:Int)=some (l7 (seq (fl a) n) (.rt (i:Int)) (.nx (G5 .i64 (i:Int) 1)))) (h2:f (L.length:Int)=some (.ex PUnit.unit)):
  (l9 (V4 f 0) λ(o:PUnit⊕Int)=>Z8 o (λ(y:PUnit)=>some (-1)) λ(r:Int)=>some r)=some (nmI L fl n):=by
 refine Y5 (Ig (p:=nmP L fl n) L.length hl PUnit.unit (λi hi=>?_) h2) ?_
 .have e:=lF hi;rw[h1 i _ e];unfold nmP;rw[e];simp only;cases seq (fl L[i]) n<;>rfl
 .unfold nmI;cases ja L.length (nmP L fl n)<;>rfl
variable {l:Z9}
theorem NF(n:c6F)(h:l.2.2.length<=1000000):nM l n=some (nmI l.2.2 (λ(s:au)=>s.1) n):=by unfold nM;refine TY l.2.2 (λ(s:au)=>s.1) n h (λi a ha=>?_) (by rw[aS];rfl);simp only[aF ha,o7,V8,ha,o9];cases seq a.1 n<;>rfl
theorem a0Q(n:c6F)(h:l.2.2.length<=1000000):Ha l n=some (nmI l.2.2 (λ(s:au)=>s.1) n):=by unfold Ha;refine TY l.2.2 (λ(s:au)=>s.1) n h (λi a ha=>?_) (by rw[aS];rfl);simp only[aF ha,o7,V8,ha,o9];cases seq a.1 n<;>rfl
theorem NI(n:c6F)(h:l.2.1.length<=1000000):nN l n=some (nmI l.2.1 (λ(s:eP)=>s.1) n):=by unfold nN;refine TY l.2.1 (λ(s:eP)=>s.1) n h (λi a ha=>?_) (by rw[aS];rfl);simp only[aF ha,o7,V8,ha,o9];cases seq a.1 n<;>rfl
theorem a0R(n:c6F)(h:l.2.1.length<=1000000):He l n=some (nmI l.2.1 (λ(s:eP)=>s.1) n):=by unfold He;refine TY l.2.1 (λ(s:eP)=>s.1) n h (λi a ha=>?_) (by rw[aS];rfl);simp only[aF ha,o7,V8,ha,o9];cases seq a.1 n<;>rfl
theorem a1j(h:s.length<=1000000){f:Int->Option (Out Int PUnit Bool)}{r:Bool}
  (h1:∀(i:Nat) (x:UInt8),s[i]? =some x->f (i:Int)=some (l7 (MS x) (.nx (G5 .i64 (i:Int) 1)) (.rt false))) (h2:f (s.length:Int)=some (.ex PUnit.unit)):
  (l9 (V4 f 0) λ(o:PUnit⊕Bool)=>Z8 o (λ(y:PUnit)=>some r) λ(r:Bool)=>some r)=some (s.all MS&&r):=by
 refine Y5 (Io s (λi a=>MS a) false PUnit.unit _ o5 (λi x hx=>?_) h2) ?_
 .have hi:=(bg.1 hx).1;rw[h1 i x hx,dH o5];cases MS x<;>rfl
 .by_cases hw:s.all MS=true
  .rw[if_pos ((TN s MS).2 hw),hw,o9,V6,nP]
  .rw[if_neg (λh=>hw ((TN s MS).1 h))];simp only[wO]at hw;rw[hw,Bool.false_and];rfl
theorem Si(h:s.length<=1000000):uz s=some (Qh s):=by
 unfold uz;have h5:I5 64 (A7 s)= !decide (s.length<=64):=by simp only[I5,A7];rw[←decide_not];congr 1;simp;omega
 rw[h5];unfold Qh;cases decide (s.length<=64)
 .rfl
 .show(l9 _ _)=_;refine(a1j (r:=true) h (λi x hx=>?_) ?_).trans (by rw[Bool.and_true,nP])
  .simp only[aF hx,o7,wZ,hx,eX,o9];rw[Wy];cases I5 (x.toNat:Int) 32<;>cases I5 126 (x.toNat:Int)<;>cases C9 (x.toNat:Int) 34<;>rfl
  .rw[aS];rfl
theorem a2O(h:s.length<=1000000):DY s=some (Qh s):=by
 unfold DY;have h5:U7 (A7 s) 64=decide (s.length<=64):=by simp only[U7,A7];congr 1;simp;omega
 rw[h5];unfold Qh;refine(a1j (r:=decide (s.length<=64)) h (λi x hx=>?_) ?_).trans (by rw[Bool.and_comm])
 .simp only[aF hx,o7,wZ,hx,eX,o9];rw[Wy];cases I5 (x.toNat:Int) 32<;>cases I5 126 (x.toNat:Int)<;>cases C9 (x.toNat:Int) 34<;>rfl
 .rw[aS];rfl
structure AmW (a:F8):Prop where
 d:eH a.2.1
 s:a.2.2.1.length<=4611686018427387904
 n:a.2.2.2.1.length<=4611686018427387904
 f:a.2.2.2.2.1.length<=4611686018427387904
 p:a.2.2.2.2.2.1.length<=4611686018427387904
 pr:eH a.2.2.2.2.2.2.1
 g:∀n∈a.2.2.2.2.2.2.2.1,eH n.2
 v:∀n∈a.2.2.2.2.2.2.2.2.1,eH n.2
 t:a.2.2.2.2.2.2.2.2.2.2.1.length<=4611686018427387904
 lo:eH a.2.2.2.2.2.2.2.2.2.2.2.2.1
 hi:eH a.2.2.2.2.2.2.2.2.2.2.2.2.2.1
 rn:eH a.2.2.2.2.2.2.2.2.2.2.2.2.2.2
structure AmF (a:F8):Prop where
 g:a.2.2.2.2.2.2.2.1.length<=60
 v:a.2.2.2.2.2.2.2.2.1.length<=60
 s:a.2.2.2.2.2.2.2.2.2.1.length<=200
def rlS(a:F8):Bool:=!(seq a.2.2.2.2.1 []&&seq a.2.2.2.2.2.1 []&&C9 a.2.2.2.2.2.2.1 0&&C9 (A7 a.2.2.2.2.2.2.2.1) 0&&C9 (A7 a.2.2.2.2.2.2.2.2.1) 0&&seq a.2.2.2.2.2.2.2.2.2.1 [])
def snS(a:F8):Bool:=!(seq a.2.2.1 []&&seq a.2.2.2.1 [])
def vdS(a:F8):Bool:=!(C9 a.2.2.2.2.2.2.2.2.2.2.2.1.1 0&&C9 a.2.2.2.2.2.2.2.2.2.2.2.1.2 0)
def rwS(a:F8):Bool:=!(seq a.2.2.2.2.2.2.2.2.2.2.1 []&&(C9 a.2.2.2.2.2.2.2.2.2.2.2.1.1 0&&(C9 a.2.2.2.2.2.2.2.2.2.2.2.1.2 0&&(C9 a.2.2.2.2.2.2.2.2.2.2.2.2.1 0&&(C9 a.2.2.2.2.2.2.2.2.2.2.2.2.2.1 0&&C9 a.2.2.2.2.2.2.2.2.2.2.2.2.2.2 0)))))
def unS(a:F8):Bool:=l7 (C9 a.1 1) (rwS a) (l7 (C9 a.1 2) (rlS a || rwS a) (l7 (C9 a.1 3) (rlS a || snS a || vdS a) (rlS a || snS a || vdS a || !(C9 a.2.2.2.2.2.2.2.2.2.2.2.2.2.2 0))))
theorem W_(l:List α):I5 0 (A7 l)= !(C9 (A7 l) 0):=by
 cases l with
 |nil=>rfl|cons a l=>rw[aP (by unfold A7;simp only[F5];omega),J7 (by unfold A7;simp only[F5];omega)];rfl
theorem YT(a:F8):zh a=some (unS a):=by
 unfold zh unS rlS snS vdS rwS;rw[W_,W_];generalize seq a.2.2.2.2.1 []=b1;generalize seq a.2.2.2.2.2.1 []=b2;generalize C9 a.2.2.2.2.2.2.1 0=b3;generalize C9 (A7 a.2.2.2.2.2.2.2.1) 0=b4;generalize C9 (A7 a.2.2.2.2.2.2.2.2.1) 0=b5;generalize seq a.2.2.2.2.2.2.2.2.2.1 []=b6;generalize seq a.2.2.1 []=c1;generalize seq a.2.2.2.1 []=c2;generalize seq a.2.2.2.2.2.2.2.2.2.2.1 []=d0;generalize C9 a.2.2.2.2.2.2.2.2.2.2.2.1.1 0=d1;generalize C9 a.2.2.2.2.2.2.2.2.2.2.2.1.2 0=d2;generalize C9 a.2.2.2.2.2.2.2.2.2.2.2.2.1 0=d3;generalize C9 a.2.2.2.2.2.2.2.2.2.2.2.2.2.1 0=d4;generalize C9 a.2.2.2.2.2.2.2.2.2.2.2.2.2.2 0=d5;generalize C9 a.1 1=k1;generalize C9 a.1 2=k2;generalize C9 a.1 3=k3;have e1:l7 (H5 b1) (some true) (l7 (H5 b2) (some true) (l7 (H5 b3) (some true) (l7 (!b4) (some true) (l7 (!b5) (some true) (some (H5 b6))))))=some (!(b1&&b2&&b3&&b4&&b5&&b6)):=by cases b1<;>cases b2<;>cases b3<;>cases b4<;>cases b5<;>cases b6<;>rfl
 have e2:l7 (H5 c1) (some true) (some (H5 c2))=some (!(c1&&c2)):=by cases c1<;>cases c2<;>rfl
 have e3:l7 (H5 d0) (some true) (some (H5 (iV d1 (iV d2 (iV d3 (iV d4 d5))))))=some (!(d0&&(d1&&(d2&&(d3&&(d4&&d5)))))):=by cases d0<;>rfl
 rw[e1,o9,e2,o9,e3,o9];generalize (!(b1&&b2&&b3&&b4&&b5&&b6))=R;generalize (!(c1&&c2))=S;generalize (!(d0&&(d1&&(d2&&(d3&&(d4&&d5))))))=W;have e4:H5 (iV d1 d2)= !(d1&&d2):=rfl;rw[e4];generalize (!(d1&&d2))=V;cases k1<;>cases k2<;>cases k3<;>cases R<;>cases S<;>cases V<;>cases W<;>rfl
variable {a:F8}
theorem a9d(h1:1<=a.1)(h4:a.1<=4):Oq a=some (!(unS a)):=by
 have hk:a.1=1\/a.1=2\/a.1=3\/a.1=4:=by
  have h1:(1:Int)<=a.1:=h1;have h4:a.1<=(4:Int):=h4;generalize a.1=k at h1 h4;have:∀k:Int,1<=k->k<=4->k=1\/k=2\/k=3\/k=4:=λk a b=>by omega
  exact this k h1 h4
 unfold Oq wI unS rlS snS vdS rwS;generalize seq a.2.2.2.2.1 []=b1;generalize seq a.2.2.2.2.2.1 []=b2;generalize C9 a.2.2.2.2.2.2.1 0=b3;generalize C9 (A7 a.2.2.2.2.2.2.2.1) 0=b4;generalize C9 (A7 a.2.2.2.2.2.2.2.2.1) 0=b5;generalize seq a.2.2.2.2.2.2.2.2.2.1 []=b6;generalize seq a.2.2.1 []=c1;generalize seq a.2.2.2.1 []=c2;generalize seq a.2.2.2.2.2.2.2.2.2.2.1 []=d0;generalize C9 a.2.2.2.2.2.2.2.2.2.2.2.1.1 0=d1;generalize C9 a.2.2.2.2.2.2.2.2.2.2.2.1.2 0=d2;generalize C9 a.2.2.2.2.2.2.2.2.2.2.2.2.1 0=d3;generalize C9 a.2.2.2.2.2.2.2.2.2.2.2.2.2.1 0=d4;generalize C9 a.2.2.2.2.2.2.2.2.2.2.2.2.2.2 0=d5;have e1:l7 b1 (l7 b2 (l7 b3 (l7 b4 (l7 b5 (some b6) (some false)) (some false)) (some false)) (some false)) (some false)=some (b1&&b2&&b3&&b4&&b5&&b6):=by cases b1<;>cases b2<;>cases b3<;>cases b4<;>cases b5<;>rfl
 rw[e1,o9];generalize (b1&&b2&&b3&&b4&&b5&&b6)=R;have j11:C9 1 1=true:=rfl;have j12:C9 1 2=false:=rfl;have j13:C9 1 3=false:=rfl;have j14:C9 1 4=false:=rfl;have j21:C9 2 1=false:=rfl;have j22:C9 2 2=true:=rfl;have j23:C9 2 3=false:=rfl;have j24:C9 2 4=false:=rfl;have j31:C9 3 1=false:=rfl;have j32:C9 3 2=false:=rfl;have j33:C9 3 3=true:=rfl;have j34:C9 3 4=false:=rfl;have j41:C9 4 1=false:=rfl;have j42:C9 4 2=false:=rfl;have j43:C9 4 3=false:=rfl;have j44:C9 4 4=true:=rfl;rcases hk with e|e|e|e<;>rw[e]
 .simp only[j11,j12,j13,j14,o7,o6,o9];cases d0<;>cases d1<;>cases d2<;>cases d3<;>cases d4<;>cases d5<;>rfl
 .simp only[j21,j22,j23,j24,o7,o6,o9];cases R<;>cases d0<;>cases d1<;>cases d2<;>cases d3<;>cases d4<;>cases d5<;>rfl
 .simp only[j31,j32,j33,j34,o7,o6,o9];cases R<;>cases c1<;>cases c2<;>cases d1<;>cases d2<;>rfl
 .simp only[j41,j42,j43,j44,o7,o6,o9];cases R<;>cases c1<;>cases c2<;>cases d1<;>cases d2<;>cases d5<;>rfl
def wnS(a:F8):Bool:=l7 (C9 a.1 1) (mJ a.2.2.1&&mJ a.2.2.2.1&&mJ a.2.2.2.2.1&&(seq a.2.2.2.2.2.1 [] || mJ a.2.2.2.2.2.1)&&Qh a.2.2.2.2.2.2.2.2.2.1)
 (l7 (C9 a.1 2) (mJ a.2.2.1&&mJ a.2.2.2.1) (mJ a.2.2.2.2.2.2.2.2.2.2.1))
theorem d_(hw:AmW a)(hf:AmF a):zi a=some (wnS a):=by
 unfold zi wnS;rw[nJ hw.s,nJ hw.n,nJ hw.f,nJ hw.p,nJ hw.t,Si (by have:=hf.s;omega)];simp only[o9];cases C9 a.1 1
 .cases C9 a.1 2
  .rfl
  .cases mJ a.2.2.1<;>rfl
 .cases mJ a.2.2.1<;>cases mJ a.2.2.2.1<;>cases mJ a.2.2.2.2.1<;>cases seq a.2.2.2.2.2.1 []<;>cases mJ a.2.2.2.2.2.1<;>rfl
theorem Xh(hw:AmW a)(hf:AmF a)(h1:1<=a.1)(h4:a.1<=4):DC a=some (wnS a):=by
 have hk:a.1=1\/a.1=2\/a.1=3\/a.1=4:=by
  have h1:(1:Int)<=a.1:=h1;have h4:a.1<=(4:Int):=h4;generalize a.1=k at h1 h4;have:∀k:Int,1<=k->k<=4->k=1\/k=2\/k=3\/k=4:=λk a b=>by omega
  exact this k h1 h4
 unfold DC wI wnS;rw[tJ hw.s,tJ hw.n,tJ hw.f,tJ hw.p,tJ hw.t,a2O (by have:=hf.s;omega)];simp only[o9];rcases hk with e|e|e|e<;>rw[e]
 .cases mJ a.2.2.1<;>cases mJ a.2.2.2.1<;>cases mJ a.2.2.2.2.1<;>cases seq a.2.2.2.2.2.1 []<;>cases mJ a.2.2.2.2.2.1<;>rfl
 .cases mJ a.2.2.1<;>cases mJ a.2.2.2.1<;>rfl
 .rfl
 .rfl
end
section
def vfS(n:Int)(t:Int×Int)(en:List bK):c6F×Int:=(iR (t.1,t.2,n) en).getD ([],0)
theorem b1i{l:Z9}(hE:EnL l.1){n:Int}{t:Int×Int}(h:eH n):rY l t n=some (vfS n t l.1)/\Bd n t l=some (vfS n t l.1)/\(vfS n t l.1).1.length<=100:=by
 obtain⟨x,hx,hl⟩:=wB (B:=100) o5 o5 (v:=(t.1,t.2,n)) h hE.m;have e:vfS n t l.1=x:=by unfold vfS;rw[hx];rfl
 refine⟨?_,?_,by rw[e];exact hl⟩
 .unfold rY;rw[hx,o9,e]
 .unfold Bd;rw[←wz _ h,hx,o9,e]
def ovT(a:F8):c6F:=l7 (H5 (seq a.2.2.2.2.2.1 [])) ([32,111,118,101,114,32]++a.2.2.2.2.2.1) []
def prT(a:F8):c6F:=l7 (H5 (C9 a.2.2.2.2.2.2.1 0)) ([32,112,114,105,111,32]++Lib.itoa a.2.2.2.2.2.2.1) []
def hdT(a:F8):c6F:=[105,110,115,101,114,116,32]++a.2.2.1++[32]++a.2.2.2.1++[32,111,102,32]++a.2.2.2.2.1++ovT a++prT a++[32,102,114,111,109,32]++fV a.2.1
def srT(a:F8):c6F:=l7 (H5 (seq a.2.2.2.2.2.2.2.2.2.1 [])) ([32,115,114,99,32,34]++a.2.2.2.2.2.2.2.2.2.1++[34]) []
def isT(a:F8)(p:c6F)(N:E9):c6F×Int:=
 l7 (H5 (C9 (BC a.2.2.2.2.2.2.2.2.1 N).2 0)) ([],(BC a.2.2.2.2.2.2.2.2.1 N).2) (p++[32,105,115,32]++(BC a.2.2.2.2.2.2.2.2.1 N).1++srT a,0)
def YW(l:Z9)(a:F8):c6F×Int:=
 match P5 l.2.2 (nmI l.2.2 (λ(s:au)=>s.1) a.2.2.1)with
 |none=>([],6)|some s=>l7 (I5 0 (A7 a.2.2.2.2.2.2.2.1))
   (l7 (H5 (C9 (BC a.2.2.2.2.2.2.2.1 (nmS l s)).2 0)) ([],(BC a.2.2.2.2.2.2.2.1 (nmS l s)).2) (isT a (hdT a++[32,119,104,101,110,32]++(BC a.2.2.2.2.2.2.2.1 (nmS l s)).1) (nmS l s)))
   (isT a (hdT a) (nmS l s))
structure AmI (a:F8):Prop where
 s:a.2.2.1.length<=80
 n:a.2.2.2.1.length<=80
 f:a.2.2.2.2.1.length<=80
 p:a.2.2.2.2.2.1.length<=80
variable {a:F8}
theorem a4o(hw:AmW a)(hi:AmI a):(hdT a).length<=1000:=by have h1:=hi.s;have h2:=hi.n;have h3:=hi.f;have h4:=hi.p;have h5:=yg a.2.1;have h6:=EO hw.pr;unfold hdT ovT prT;cases seq a.2.2.2.2.2.1 []<;>cases C9 a.2.2.2.2.2.2.1 0<;>simp<;>omega
theorem b2W(hf:AmF a):(srT a).length<=300:=by have:=hf.s;unfold srT;cases seq a.2.2.2.2.2.2.2.2.2.1 []<;>simp<;>omega
section
variable {l:Z9} (hS:SmL l) (hF:FmL l)
include hS hF
theorem a5S(hw:AmW a)(hf:AmF a)(hi:AmI a):uZ l a=some (YW l a)/\(YW l a).1.length<=400000:=by
 have hd5:=yg a.2.1;have h6:=EO hw.pr;have hh:=a4o hw hi;have hsr:=b2W hf;have h1:=hi.s;have h2:=hi.n;have h3:=hi.f;have h4:=hi.p;have hs2:=hf.s;unfold uZ YW;rw[NF _ (by have:=hS.few.2.2;omega),o9];rcases Ir l.2.2 (λ(s:au)=>s.1) a.2.2.1 with e|⟨i,s,e,-,-,NZ,hm⟩
 .rw[e];have:P5 l.2.2 (-1)=none:=KG (.inl rfl);rw[this];exact⟨rfl,D5⟩
 .rw[NZ,U1 (by rw[e];omega),o6,a0l hF.n NZ,o9];have hN:=b4w hF.n hm;simp only;rw[a7o hN hw.g,a7o hN hw.v,jI hw.pr,oC];have lg:=TT hN hw.g;have lv:=TT hN hw.v;generalize BC a.2.2.2.2.2.2.2.1 (nmS l s)=G at*;obtain⟨gt,gc⟩:=G;generalize hV:BC a.2.2.2.2.2.2.2.2.1 (nmS l s)=V at*;obtain⟨vt,vc⟩:=V;simp only at lg lv;have hov:(l7 (H5 (seq a.2.2.2.2.2.1 [])) (l9 (N8 [32,111,118,101,114,32] a.2.2.2.2.2.1) λ(x:c6F)=>l9 (N8 ([105,110,115,101,114,116,32]++a.2.2.1++[32]++a.2.2.2.1++[32,111,102,32]++a.2.2.2.2.1) x) λ(x:c6F)=>some x)
    (some ([105,110,115,101,114,116,32]++a.2.2.1++[32]++a.2.2.2.1++[32,111,102,32]++a.2.2.2.2.1)))=some ([105,110,115,101,114,116,32]++a.2.2.1++[32]++a.2.2.2.1++[32,111,102,32]++a.2.2.2.2.1++ovT a):=by
   unfold ovT;cases seq a.2.2.2.2.2.1 []
   .simp only[P9,o7];rw[G6 E5,o9,G6 E5,o9]
   .simp
  have lov:(ovT a).length<=90:=by unfold ovT;cases seq a.2.2.2.2.2.1 []<;>simp<;>omega
  have lpr:(prT a).length<=30:=by unfold prT;cases C9 a.2.2.2.2.2.2.1 0<;>simp<;>omega
  rw[G6 E5,o9,G6 E5,o9,G6 E5,o9,G6 E5,o9,G6 E5,o9,hov,o9];generalize hA:[105,110,115,101,114,116,32]++a.2.2.1++[32]++a.2.2.2.1++[32,111,102,32]++a.2.2.2.2.1++ovT a=A at*;have lA:A.length<=500:=by rw[←hA];simp;omega
  have hpr:(l7 (H5 (C9 a.2.2.2.2.2.2.1 0)) (l9 (some (Lib.itoa a.2.2.2.2.2.2.1)) λ(x:c6F)=>l9 (N8 [32,112,114,105,111,32] x) λ(x:c6F)=>l9 (N8 A x) λ(x:c6F)=>some x) (some A))=some (A++prT a):=by
   unfold prT;cases C9 a.2.2.2.2.2.2.1 0
   .simp only[P9,o7,o9];rw[G6 E5,o9,G6 E5,o9]
   .simp
  rw[hpr,o9,o9,G6 E5,o9,G6 E5,o9];have hB:A++prT a++([32,102,114,111,109,32]++fV a.2.1)=hdT a:=by rw[←hA];unfold hdT;simp only[E8]
  rw[hB];have tail:∀p:c6F,p.length<=200000->(l9 (some (vt,vc)) λ(x:c6F×Int)=>
                   l7 (H5 (C9 x.2 0)) (some (([]:c6F),x.2))
                    (l9 (N8 [32,105,115,32] x.1) λ(x:c6F)=>
                     l9 (N8 p x) λ(x:c6F)=>
                      l7 (H5 (seq a.2.2.2.2.2.2.2.2.2.1 []))
                       (l9 (N8 [32,115,114,99,32,34] a.2.2.2.2.2.2.2.2.2.1)
                        λ(x_14:c6F)=>
                        l9 (N8 x_14 [34]) λ(x_15:c6F)=>
                         l9 (N8 x x_15) λ(x:c6F)=>some (x,(0:Int)))
                       (some (x,0))))=some (isT a p (nmS l s))/\(isT a p (nmS l s)).1.length<=400000:=λp hp=>by
   unfold isT;rw[hV];simp only[o9];cases C9 vc 0
   .exact⟨rfl,D5⟩
   .simp only[H7,o6];rw[G6 E5,o9,G6 E5,o9];refine⟨?_,by simp;omega⟩;unfold srT;cases seq a.2.2.2.2.2.2.2.2.2.1 []
    .simp only[P9,o7];rw[G6 E5,o9,G6 E5,o9,G6 E5,o9];simp only[E8]
    .simp
  cases I5 0 (A7 a.2.2.2.2.2.2.2.1)
  .simp only[o6];exact tail _ o5
  .simp only[o7,o9];cases C9 gc 0
   .exact⟨rfl,D5⟩
   .simp only[H7,o6];rw[G6 E5,o9,G6 E5,o9];rw[show hdT a++([32,119,104,101,110,32]++gt)=hdT a++[32,119,104,101,110,32]++gt from(E8 _ _ _).symm];exact tail _ E5
theorem a2M(hw:AmW a)(hf:AmF a)(hi:AmI a)(hp0:0<=a.2.2.2.2.2.2.1):Cj l a=some (YW l a):=by
 have hd5:=yg a.2.1;have h6:=EO hw.pr;have hh:=a4o hw hi;have h1:=hi.s;have h2:=hi.n;have h3:=hi.f;have h4:=hi.p;have hs2:=hf.s;unfold Cj YW;rw[a0Q _ (by have:=hS.few.2.2;omega),o9];rcases Ir l.2.2 (λ(s:au)=>s.1) a.2.2.1 with e|⟨i,s,e,-,-,NZ,hm⟩
 .rw[e];have:P5 l.2.2 (-1)=none:=KG (.inl rfl);rw[this];rfl
 .rw[NZ,U1 (by rw[e];omega),o6,Yd hF.n NZ,o9];have hN:=b4w hF.n hm;simp only;rw[a4V hN hw.g,a4V hN hw.v,vM hw.pr,zy];have lg:=TT hN hw.g;have lv:=TT hN hw.v;generalize BC a.2.2.2.2.2.2.2.1 (nmS l s)=G at*;obtain⟨gt,gc⟩:=G;generalize hV:BC a.2.2.2.2.2.2.2.2.1 (nmS l s)=V at*;obtain⟨vt,vc⟩:=V;simp only at lg lv;have hov:(l7 (H5 (seq a.2.2.2.2.2.1 [])) (l9 (N8 ([105,110,115,101,114,116,32]++a.2.2.1++[32]++a.2.2.2.1++[32,111,102,32]++a.2.2.2.2.1) [32,111,118,101,114,32]) λ(x:c6F)=>l9 (N8 x a.2.2.2.2.2.1) λ(x:c6F)=>some x)
    (some ([105,110,115,101,114,116,32]++a.2.2.1++[32]++a.2.2.2.1++[32,111,102,32]++a.2.2.2.2.1)))=some ([105,110,115,101,114,116,32]++a.2.2.1++[32]++a.2.2.2.1++[32,111,102,32]++a.2.2.2.2.1++ovT a):=by
   unfold ovT;cases seq a.2.2.2.2.2.1 []
   .simp only[P9,o7];rw[G6 E5,o9,G6 E5,o9];simp only[E8]
   .simp
  have lov:(ovT a).length<=90:=by unfold ovT;cases seq a.2.2.2.2.2.1 []<;>simp<;>omega
  have lpr:(prT a).length<=30:=by unfold prT;cases C9 a.2.2.2.2.2.2.1 0<;>simp<;>omega
  rw[G6 E5,o9,G6 E5,o9,G6 E5,o9,G6 E5,o9,G6 E5,o9,hov,o9];generalize hA:[105,110,115,101,114,116,32]++a.2.2.1++[32]++a.2.2.2.1++[32,111,102,32]++a.2.2.2.2.1++ovT a=A at*;have lA:A.length<=500:=by rw[←hA];simp;omega
  have hpr:(l7 (I5 0 a.2.2.2.2.2.2.1) (l9 (N8 A [32,112,114,105,111,32]) λ(x:c6F)=>l9 (some (Lib.itoa a.2.2.2.2.2.2.1)) λ(x_7:c6F)=>l9 (N8 x x_7) λ(x:c6F)=>some x) (some A))=some (A++prT a):=by
   unfold prT;rw[a6m hp0];cases I5 0 a.2.2.2.2.2.2.1
   .simp
   .simp only[o7,o9];rw[G6 E5,o9,G6 E5,o9];simp only[E8]
  rw[hpr,o9,G6 E5,o9,o9,G6 E5,o9];have hB:A++prT a++[32,102,114,111,109,32]++fV a.2.1=hdT a:=by rw[←hA];unfold hdT;simp only[E8]
  rw[hB];have tail:∀p:c6F,p.length<=200000->(l9 (some (vt,vc)) λ(x:c6F×Int)=>
                   l7 (H5 (C9 x.2 0)) (some (([]:c6F),x.2))
                    (l9 (N8 p [32,105,115,32]) λ(x_14:c6F)=>
                     l9 (N8 x_14 x.1) λ(x:c6F)=>
                      l7 (H5 (seq a.2.2.2.2.2.2.2.2.2.1 []))
                       (l9 (N8 x [32,115,114,99,32,34]) λ(x:c6F)=>
                        l9 (N8 x a.2.2.2.2.2.2.2.2.2.1) λ(x:c6F)=>
                         l9 (N8 x [34]) λ(x:c6F)=>some (x,(0:Int)))
                       (some (x,0))))=some (isT a p (nmS l s)):=λp hp=>by
   unfold isT;rw[hV];simp only[o9];cases C9 vc 0
   .rfl
   .simp only[H7,o6];rw[G6 E5,o9,G6 E5,o9];unfold srT;cases seq a.2.2.2.2.2.2.2.2.2.1 []
    .simp only[P9,o7];rw[G6 E5,o9,G6 E5,o9,G6 E5,o9];simp only[E8]
    .simp
  cases I5 0 (A7 a.2.2.2.2.2.2.2.1)
  .simp only[o6];exact tail _ o5
  .simp only[o7,o9];cases C9 gc 0
   .rfl
   .simp only[H7,o6];rw[G6 E5,o9,G6 E5,o9];exact tail _ E5
end
end
section
def rwT(a:F8)(lo hi:c6F):c6F:=a.2.2.2.2.2.2.2.2.2.2.1++[32,102,114,111,109,32]++fV a.2.1++[32]++lo++[32]++hi
def rwE(l:Z9)(t:eP)(a:F8)(lo hi:c6F):c6F×Int:=
 l7 (C9 a.1 4) ([114,101,112,101,97,108,114,111,119,32]++rwT a lo hi,0)
  (l7 (H5 (C9 (vfS a.2.2.2.2.2.2.2.2.2.2.2.2.2.2 t.2.2.1 l.1).2 0)) ([],(vfS a.2.2.2.2.2.2.2.2.2.2.2.2.2.2 t.2.2.1 l.1).2)
   ([105,110,115,101,114,116,114,111,119,32]++rwT a lo hi++[32]++(vfS a.2.2.2.2.2.2.2.2.2.2.2.2.2.2 t.2.2.1 l.1).1,0))
def Oz(l:Z9)(a:F8):c6F×Int:=
 match P5 l.2.1 (nmI l.2.1 (λ(s:eP)=>s.1) a.2.2.2.2.2.2.2.2.2.2.1)with
 |none=>([],6)|some t=>l7 (H5 (C9 (vfS a.2.2.2.2.2.2.2.2.2.2.2.2.1 t.2.1 l.1).2 0)) ([],(vfS a.2.2.2.2.2.2.2.2.2.2.2.2.1 t.2.1 l.1).2)
   (l7 (H5 (C9 a.2.2.2.2.2.2.2.2.2.2.2.2.2.1 (G5 .i64 (bnd t.2.1 l.1).2 1)))
    (l7 (H5 (C9 (vfS a.2.2.2.2.2.2.2.2.2.2.2.2.2.1 t.2.1 l.1).2 0)) ([],(vfS a.2.2.2.2.2.2.2.2.2.2.2.2.2.1 t.2.1 l.1).2) (rwE l t a (vfS a.2.2.2.2.2.2.2.2.2.2.2.2.1 t.2.1 l.1).1 (vfS a.2.2.2.2.2.2.2.2.2.2.2.2.2.1 t.2.1 l.1).1))
    (rwE l t a (vfS a.2.2.2.2.2.2.2.2.2.2.2.2.1 t.2.1 l.1).1 [101,110,100]))
def b4J(a:F8):c6F:=[114,101,112,101,97,108,32]++a.2.2.1++[32]++a.2.2.2.1++[32,102,114,111,109,32]++fV a.2.1
def xI(l:Z9)(a:F8):c6F×Int:=
 l7 (I5 a.1 1) ([],1) (l7 (I5 4 a.1) ([],1) (l7 (unS a) ([],2) (l7 (H5 (wnS a)) ([],2)
  (l7 (I5 a.2.1 0) ([],3) (l7 (I5 109572 a.2.1) ([],3) (l7 (I5 a.2.2.2.2.2.2.1 0) ([],3) (l7 (I5 9 a.2.2.2.2.2.2.1) ([],3)
   (l7 (C9 a.1 1) (YW l a) (l7 (C9 a.1 2) (b4J a,0) (Oz l a))))))))))
variable {a:F8}
section
variable {l:Z9} (hS:SmL l) (hF:FmL l)
include hS hF
theorem a9g(hw:AmW a)(ht:a.2.2.2.2.2.2.2.2.2.2.1.length<=80):zg l a=some (Oz l a)/\GZ l a=some (Oz l a)/\(Oz l a).1.length<=400000:=by
 have hd5:=yg a.2.1;have hE:=b4l hF;unfold zg GZ Oz;rw[NI _ (by have:=hS.few.2.1;omega),a0R _ (by have:=hS.few.2.1;omega),o9,o9];rcases Ir l.2.1 (λ(s:eP)=>s.1) a.2.2.2.2.2.2.2.2.2.2.1 with e|⟨i,t,e,-,-,NZ,hm⟩
 .rw[e];have:P5 l.2.1 (-1)=none:=KG (.inl rfl);rw[this];exact⟨rfl,rfl,D5⟩
 .rw[NZ,U1 (by rw[e];omega),o6,o6,o9,o9];simp only;obtain⟨p1,r1,l1⟩:=b1i (l:=l) hE (t:=t.2.1) hw.lo;obtain⟨p2,r2,l2⟩:=b1i (l:=l) hE (t:=t.2.1) hw.hi;obtain⟨p3,r3,l3⟩:=b1i (l:=l) hE (t:=t.2.2.1) hw.rn;rw[p1,p2,p3,r1,r2,r3,BO,Ji];unfold rwE;generalize vfS a.2.2.2.2.2.2.2.2.2.2.2.2.1 t.2.1 l.1=A at*;generalize vfS a.2.2.2.2.2.2.2.2.2.2.2.2.2.1 t.2.1 l.1=B at*;generalize vfS a.2.2.2.2.2.2.2.2.2.2.2.2.2.2 t.2.2.1 l.1=C at*;obtain⟨A1,A2⟩:=A;obtain⟨B1,B2⟩:=B;obtain⟨C1,C2⟩:=C;simp only at l1 l2 l3;simp only[o9];cases C9 A2 0
  .exact⟨rfl,rfl,D5⟩
  simp only[H7,o6];have tailP:∀hi:c6F,hi.length<=100->
    (l9 (N8 a.2.2.2.2.2.2.2.2.2.2.1 [32,102,114,111,109,32]) λ(x_3:c6F)=>
         l9 (sU a.2.1) λ(x_4:c6F)=>
          l9 (N8 x_3 x_4) λ(x_5:c6F)=>
           l9 (N8 x_5 [32]) λ(x_6:c6F)=>
            l9 (N8 x_6 A1) λ(x_7:c6F)=>
             l9 (N8 x_7 [32]) λ(x_8:c6F)=>
              l9 (N8 x_8 hi) λ(x_9:c6F)=>
               l7 (C9 a.1 4)
                (l9 (N8 [114,101,112,101,97,108,114,111,119,32] x_9)
                 λ(x:c6F)=>some (x,(0:Int)))
                (l7 (H5 (C9 C2 0)) (some ([],C2))
                  (l9 (N8 [105,110,115,101,114,116,114,111,119,32] x_9)
                   λ(x_10:c6F)=>
                   l9 (N8 x_10 [32]) λ(x_11:c6F)=>
                    l9 (N8 x_11 C1) λ(x:c6F)=>some (x,(0:Int)))))=
    some (l7 (C9 a.1 4) ([114,101,112,101,97,108,114,111,119,32]++rwT a A1 hi,0) (l7 (H5 (C9 C2 0)) ([],C2) ([105,110,115,101,114,116,114,111,119,32]++rwT a A1 hi++[32]++C1,0)))/\
    (l7 (C9 a.1 4) ([114,101,112,101,97,108,114,111,119,32]++rwT a A1 hi,(0:Int)) (l7 (H5 (C9 C2 0)) ([],C2) ([105,110,115,101,114,116,114,111,119,32]++rwT a A1 hi++[32]++C1,0))).1.length<=400000:=λhi hh=>by
   have lr:(rwT a A1 hi).length<=500:=by unfold rwT;simp;omega
   rw[G6 E5,o9,oC,o9,G6 E5,o9,G6 E5,o9,G6 E5,o9,G6 E5,o9,G6 E5,o9];rw[show a.2.2.2.2.2.2.2.2.2.2.1++[32,102,114,111,109,32]++fV a.2.1++[32]++A1++[32]++hi=rwT a A1 hi from rfl];cases C9 a.1 4
   .simp only[o6];cases C9 C2 0
    .exact⟨rfl,D5⟩
    .simp only[H7,o6];rw[G6 E5,o9,G6 E5,o9,G6 E5,o9];exact⟨rfl,by simp;omega⟩
   .simp only[o7];rw[G6 E5,o9];exact⟨rfl,by simp;omega⟩
  have hdf:sU a.2.1=vN a.2.1:=by rw[oC,zy]
  cases C9 a.2.2.2.2.2.2.2.2.2.2.2.2.2.1 (G5 .i64 (bnd t.2.1 l.1).2 1)
  .simp only[P9,o7];cases C9 B2 0
   .exact⟨rfl,rfl,D5⟩
   .simp only[H7,o6,o9,V6];obtain⟨q1,q2⟩:=tailP B1 l2;refine⟨q1,?_,q2⟩;rw[←hdf];exact q1
  .simp only[H7,o6,o9,V6];obtain⟨q1,q2⟩:=tailP [101,110,100] D5;refine⟨q1,?_,q2⟩;rw[←hdf];exact q1
theorem a5V(hw:AmW a)(hf:AmF a):xZ l a=some (xI l a)/\VR l a=some (xI l a)/\(xI l a).1.length<=400000:=by
 have hd5:=yg a.2.1;unfold xZ VR xI;rw[YT,d_ hw hf];cases g1:I5 a.1 1
 case true=>exact⟨rfl,rfl,D5⟩
 cases g2:I5 4 a.1
 case true=>exact⟨rfl,rfl,D5⟩
 have k1:=qc.1 g1;have k4:=qc.1 g2;rw[a9d k1 k4,Xh hw hf k1 k4];simp only[o6,o9,V6];cases unS a
 case true=>exact⟨rfl,rfl,D5⟩
 simp only[o6,Bool.not_false,H7,o9];cases hn:wnS a
 .exact⟨rfl,rfl,D5⟩
 simp only[H7,o6,o9,V6];cases I5 a.2.1 0
 case true=>exact⟨rfl,rfl,D5⟩
 cases I5 109572 a.2.1
 case true=>exact⟨rfl,rfl,D5⟩
 cases g3:I5 a.2.2.2.2.2.2.1 0
 case true=>exact⟨rfl,rfl,D5⟩
 cases I5 9 a.2.2.2.2.2.2.1
 case true=>exact⟨rfl,rfl,D5⟩
 have hp0:=qc.1 g3;simp only[o6,o9,V6];unfold wnS at hn;unfold wI;cases h1:C9 a.1 1
 .cases h2:C9 a.1 2
  .rw[h1,h2]at hn;have hid:mJ a.2.2.2.2.2.2.2.2.2.2.1=true:=hn;obtain⟨r1,r2,r3⟩:=a9g hS hF hw (Vk hid);have hk:(l7 (C9 a.1 3) (some true) (some (C9 a.1 4)))=some true:=by
    have e1:=zI.1 h1;have e2:=zI.1 h2;have:∀k:Int,1<=k->k<=4->k≠1->k≠2->k=3\/k=4:=λk a b c d=>by omega
    rcases this a.1 k1 k4 e1 e2 with e|e<;>rw[e]<;>rfl
   rw[hk];simp only[o9,o7,o6,r1,r2];exact⟨by first|trivial|rfl,by first|trivial|rfl,r3⟩
  .rw[h1,h2]at hn;have hk:(l7 (C9 a.1 3) (some true) (some (C9 a.1 4)))=some false:=by rw[gp.1 h2];rfl
   rw[hk];simp only[o7,o6,D6]at hn;have i1:=Vk hn.1;have i2:=Vk hn.2;simp only[o9,o7,o6];refine⟨?_,?_,by unfold b4J;simp;omega⟩
   .rw[G6 E5,o9,G6 E5,o9,G6 E5,o9,G6 E5,o9,oC,o9,G6 E5,o9];rfl
   .rw[G6 E5,o9,G6 E5,o9,G6 E5,o9,G6 E5,o9,zy,o9,G6 E5,o9];rfl
 .rw[h1]at hn;have hk:(l7 (C9 a.1 3) (some true) (some (C9 a.1 4)))=some false:=by rw[gp.1 h1];rfl
  rw[hk];simp only[o7,D6,lG]at hn;obtain⟨⟨⟨⟨n1,n2⟩,n3⟩,n4⟩,n5⟩:=hn;have hi:AmI a:=⟨Vk n1,Vk n2,Vk n3,n4.elim (λe=>by rw[jW.1 e];simp) Vk⟩;obtain⟨p1,p2⟩:=a5S hS hF hw hf hi;simp only[o9,o7,o6,p1,a2M hS hF hw hf hi hp0];exact⟨by first|trivial|rfl,by first|trivial|rfl,p2⟩
end
def a5y(l:Z9)(b:c6F)(a:F8):c6F⊕(c6F×Int):=l7 (C9 (xI l a).2 0) (.inl (b++(xI l a).1++[10])) (.inr ([],(xI l a).2))
def b1p(l:Z9)(act:List F8):c6F×Int:=l7 (C9 (rW l).1 0) (match qV (a5y l) act []with| .inl y=>l7 (I5 65536 (A7 y)) ([],4) (y,0)| .inr r=>r) ([],1)
theorem XD{l:Z9} :∀(act:List F8) (b c:c6F),(b=c\/(65536<b.length/\65536<c.length))->
  (match qV (λ(b:c6F) (a:F8)=>(l7 (C9 (xI l a).2 0) (.inl (l7 (U7 (A7 b) 65536) (b++(xI l a).1++[10]) b)) (.inr ([],(xI l a).2)):c6F⊕(c6F×Int))) act b with| .inl y=>l7 (I5 65536 (A7 y)) ([],4) (y,0)| .inr r=>r)=
  (match qV (a5y l) act c with| .inl y=>l7 (I5 65536 (A7 y)) ([],4) (y,0)| .inr r=>r)
 |[],b,c,h=>by
  rcases h with rfl|⟨h1,h2⟩
  .rfl
  .unfold qV;simp only;rw[aP (by unfold A7;omega),aP (by unfold A7;omega)];rfl
 |a::act,b,c,h=>by
  unfold qV a5y;cases C9 (xI l a).2 0
  .rfl
  .simp only[o7];refine XD act _ _ ?_;rcases h with rfl|⟨h1,h2⟩
   .cases g:U7 (A7 b) 65536
    .right;have:=Vl.1 g;unfold A7 at this;simp only[o6,I8,F5,aB];omega
    .exact .inl rfl
   .right;rw[dE (by unfold A7;omega)];simp only[o6,I8,F5,aB];omega
theorem a1E:zU=some true:=by decide+kernel
variable {α:Type}
def PR(o:Option (Int×α×D9))(Q:α->D9->Prop):Prop:=∃c a p,o=some (c,a,p)/\(c=0->Q a p)
def PQ(o:Option (Int×D9))(Q:D9->Prop):Prop:=∃c p,o=some (c,p)/\(c=0->Q p)
def PL(o:Option (F8×Int))(Q:F8->Prop):Prop:=∃a c,o=some (a,c)/\(c=0->Q a)
variable {p:D9}{Q:α->D9->Prop}
theorem PR.ok{a:α}(h:Q a p):PR (some (0,a,p)) Q:=⟨0,a,p,rfl,λ_=>h⟩
variable {β:Type}{D:β}{dp:D9}{o:Option (Int×α×D9)}
theorem PR.bind{A:Int×α×D9->Option (Int×β×D9)}{Q' :β->D9->Prop}
  (h:PR o Q) (hA:∀a p,Q a p->PR (A (0,a,p)) Q'):PR (l9 o λx=>l7 (C9 x.1 0) (A x) (some (x.1,D,dp))) Q' :=by
 obtain⟨c,a,p,rfl,hc⟩:=h;rw[o9];by_cases e:c=0
 .subst e;exact hA a p (hc rfl)
 .simp only[J7 e,o6];exact⟨c,D,dp,rfl,λh=>absurd h e⟩
theorem PQ.bind{o:Option (Int×D9)}{Q:D9->Prop}{A:Int×D9->Option (Int×β×D9)}{Q' :β->D9->Prop}
  (h:PQ o Q) (hA:∀p,Q p->PR (A (0,p)) Q'):PR (l9 o λx=>l7 (C9 x.1 0) (A x) (some (x.1,D,dp))) Q' :=by
 obtain⟨c,p,rfl,hc⟩:=h;rw[o9];by_cases e:c=0
 .subst e;exact hA p (hc rfl)
 .simp only[J7 e,o6];exact⟨c,D,dp,rfl,λh=>absurd h e⟩
theorem PR.line{A:Int×α×D9->Option (F8×Int)}{D:F8}{Q' :F8->Prop}
  (h:PR o Q) (hA:∀a p,Q a p->PL (A (0,a,p)) Q'):PL (l9 o λx=>l7 (C9 x.1 0) (A x) (some (D,x.1))) Q' :=by
 obtain⟨c,a,p,rfl,hc⟩:=h;rw[o9];by_cases e:c=0
 .subst e;exact hA a p (hc rfl)
 .simp only[J7 e,o6];exact⟨D,c,rfl,λh=>absurd h e⟩
theorem PQ.line{o:Option (Int×D9)}{Q:D9->Prop}{A:Int×D9->Option (F8×Int)}{D:F8}{Q' :F8->Prop}
  (h:PQ o Q) (hA:∀p,Q p->PL (A (0,p)) Q'):PL (l9 o λx=>l7 (C9 x.1 0) (A x) (some (D,x.1))) Q' :=by
 obtain⟨c,p,rfl,hc⟩:=h;rw[o9];by_cases e:c=0
 .subst e;exact hA p (hc rfl)
 .simp only[J7 e,o6];exact⟨D,c,rfl,λh=>absurd h e⟩
theorem PL.ok{Q:F8->Prop}(h:Q a):PL (some (a,0)) Q:=⟨a,0,rfl,λ_=>h⟩
theorem PL.no{c:Int}{Q:F8->Prop}(h:c≠0):PL (some (a,c)) Q:=⟨a,c,rfl,λe=>absurd e h⟩
theorem Qs{c:Int} :PQ (qM p c) (λp' =>c=0/\p' =p):=⟨c,p,rfl,λh=>⟨h,rfl⟩⟩
theorem uM{b:Bool} :PQ (P6 p b) (λp' =>b=true/\p' =p):=by
 cases b
 .exact⟨2,_,rfl,λh=>absurd h J8⟩
 .exact⟨0,p,rfl,λ_=>⟨rfl,rfl⟩⟩
def txP(p:D9):c6F:=l7 p.2.2 [] (32::p.2.1)
structure GdP (l:Z9) (p:D9):Prop where
 l:p.1=l
 n:p.2.1.length<=100000
 a:Asc p.2.1
structure Wd (w:c6F):Prop where
 ne:w≠[]
 nb:∀x∈w,x≠32
 a:Asc w
 n:w.length<=100000
theorem a4j:∀t:c6F,(∃a r,t=a++([32]++r)/\∀x∈a,x≠32)\/∀x∈t,x≠32
 |[]=> .inr (λx hx=>by cases hx)|c::t=>by
  by_cases hc:c=32
  .subst hc;exact .inl ⟨[],t,rfl,λx hx=>by cases hx⟩
  .rcases a4j t with⟨a,r,e,h⟩|h
   .exact .inl ⟨c::a,r,by rw[e];rfl,λx hx=>(D8.1 hx).elim (λe=>e▸hc) (h x)⟩
   .exact .inr λx hx=>(D8.1 hx).elim (λe=>e▸hc) (h x)
variable {l:Z9}
theorem AV(g:GdP l p):PR (ai p) (λw p' =>GdP l p' /\Wd w/\p.2.2=false/\txP p=32::(w++txP p')):=by
 obtain⟨l',t,b⟩:=p;obtain⟨rfl,hn,hA⟩:=g;simp only at hn hA;unfold ai;refine PQ.bind uM λp1 hp1=>?_;obtain⟨hb,rfl⟩:=hp1;have hb:b=false:=by simpa[H5]using hb
 subst hb;rcases a4j t with⟨a,r,rfl,ha⟩|ha
 .simp only;rw[b1w D5 (Pm ha) o5,o9];refine PQ.bind uM λp2 hp2=>?_;obtain⟨hw,rfl⟩:=hp2;have hw:a≠[]:=λe=>by subst e;exact absurd (show false=true from hw) J8
  have hn2:a.length+(r.length+1)<=100000:=by simpa using hn
  refine PR.ok ⟨⟨rfl,(by show r.length<=100000;omega),λc hc=>hA c (by simp[show c∈r from hc])⟩,⟨hw,ha,λc hc=>hA c (by simp[show c∈a from hc]),(by show a.length<=100000;omega)⟩,trivial,?_⟩;simp[txP,H5,l7]
 .simp only;rw[b4f D5 (Pm ha) o5,o9];refine PQ.bind uM λp2 hp2=>?_;obtain⟨hw,rfl⟩:=hp2;have hw:t≠[]:=λe=>by subst e;exact absurd (show false=true from hw) J8
  refine PR.ok ⟨⟨rfl,(by show([]:c6F).length<=100000;simp),λc hc=>by cases hc⟩,⟨hw,ha,hA,hn⟩,trivial,?_⟩;simp[txP,H5,l7]
theorem Ol(g:GdP l p):PR (iG p) (λw p' =>GdP l p' /\Wd w/\mJ w=true/\txP p=32::(w++txP p')):=by unfold iG;refine PR.bind (AV g) λw p1 h=>?_;obtain⟨g1,hw,-,e⟩:=h;simp only;rw[mP (by have:=hw.n;omega),o9];refine PQ.bind uM λp2 hp2=>?_;obtain⟨hi,rfl⟩:=hp2;exact PR.ok ⟨g1,hw,hi,e⟩
theorem a2E(g:GdP l p):PR (oQ p) (λd p' =>GdP l p' /\0<=d/\d<=109572/\Wd (fV d)/\txP p=32::(fV d++txP p')):=by unfold oQ;refine PR.bind (AV g) λw p1 h=>?_;obtain⟨g1,hw,-,e⟩:=h;simp only;obtain⟨n,c,hd,-⟩:=GI w (by have:=hw.n;omega);rw[hd,o9];refine PQ.bind Qs λp2 hp2=>?_;obtain⟨hc,rfl⟩:=hp2;simp only at hc;subst hc;obtain⟨d0,d1,dt⟩:=G_ hw.a (by have:=hw.n;omega) hd;refine PR.ok ⟨g1,d0,d1,by rw[dt];exact hw,?_⟩;rw[dt];exact e
theorem b4F(g:GdP l p):PR (rF p) (λd p' =>GdP l p' /\1<=d/\d<=9/\Wd (Lib.itoa d)/\txP p=32::(Lib.itoa d++txP p')):=by
 unfold rF;refine PR.bind (AV g) λw p1 h=>?_;obtain⟨g1,hw,-,e⟩:=h;simp only;obtain⟨n,c,hd⟩:=a8l w hw.n;rw[hd,o9];refine PQ.bind Qs λp2 hp2=>?_;obtain⟨hc,rfl⟩:=hp2;simp only at hc;subst hc;obtain⟨dt,-⟩:=a8k hw.a hw.n hd;simp only;cases g9:U7 1 n
 .rw[o6];refine PQ.bind uM λp3 hp3=>?_;exact absurd hp3.1 J8
 .rw[o7];refine PQ.bind uM λp3 hp3=>?_;obtain⟨h9,rfl⟩:=hp3;refine PR.ok ⟨g1,pg.1 g9,pg.1 h9,by rw[dt];exact hw,?_⟩;rw[dt];exact e
section
variable {E:List bK} {t:Int×Int} {n:Int}
theorem a3I(hW:EnW E)(hv:vty t E=true)(hn:inB n (bnd t E)=true)(hI:eH n):vfS n t E=(vaT n t E,0):=by
 have key:iR (t.1,t.2,n) E=some (vaT n t E,0):=by
  have hw:iU n (t.1,t.2) E=some true:=by unfold iU;rw[BO,o9];obtain⟨b1,b2⟩:=Au hn;rw[bH b1,bH b2];rfl
  have f2:=jI hI;have f3:cZ n 2=some (Di n 2):=gz (k:=2) hI o5;have f4:cZ n 4=some (Di n 4):=gz (k:=4) hI o5;have l4:=LZ (k:=4) hI o5;have st:∀t:Int×Int,vty t E=true->iU n t E=some true->iR (t.1,t.2,n) E=(l7 (C9 t.1 1) (l7 (C9 n 0) (some ([102,97,108,115,101],0)) (some ([116,114,117,101],0)))
     (l7 (C9 t.1 2) (some (Lib.itoa n,0)) (l7 (C9 t.1 3) (some (Di n 2,0)) (l7 (C9 t.1 4) (some (Di n 4++[37],0)) (l7 (C9 t.1 5) (some (fV n,0))
      (l9 (P5 E t.2) λ(x:bK)=>l9 (P5 x.2 n) λ(x:c6F)=>some (x,0))))))):=by
   intro t hv hw;unfold iR
   simp only[qG,hv,hw,o9,H7,o6,f2,f3,f4,oC];rw[G6 E5,o9]
  refine b1g (P:=λt=>vty t E=true->iU n t E=some true->iR (t.1,t.2,n) E=some (vaT n t E,0)) hv hn ?_ ?_ ?_ ?_ ?_ ?_ hv hw
  .intro g1 g2 hv hw;rw[st _ hv hw];unfold vaT;simp only[U6 (rfl:(1:Int)=1),o7];cases C9 n 0<;>rfl
  .intro g1 g2 hv hw;rw[st _ hv hw];rfl
  .intro g1 g2 hv hw;rw[st _ hv hw];rfl
  .intro g1 g2 hv hw;rw[st _ hv hw];rfl
  .intro g1 g2 hv hw;rw[st _ hv hw];rfl
  .intro e i he hm g1 g2 hv0 hv hw;have hml:=hW.mle e hm;have g2' :n<A7 e.2:=by rw[dO (by unfold eH A7;omega)]at g2;omega
   obtain⟨x,hx,-⟩:=vH g1 g2';rw[st _ hv hw];unfold vaT gtN;simp (disch:=decide) only[J7,o6];rw[he,o9,Y3,hx];rfl
 unfold vfS;rw[key];rfl
end
variable {w:c6F}
theorem Zp{t:Int×Int}(g:GdP l p)(hw:Wd w)(hm:∀e∈l.1,e.2.length<=100000):
  PR (jw p w t) (λn p' =>p' =p/\vty t l.1=true/\inB n (bnd t l.1)=true/\eH n/\vaT n t l.1=w):=by
 unfold jw;rw[g.l];obtain⟨v,c,h⟩:=a3J w t l.1 hw.n (λe he=>by have:=hm e he;omega);rw[h,o9];refine PQ.bind Qs λp2 hp2=>?_;obtain⟨hc,rfl⟩:=hp2;simp only at hc;subst hc;obtain⟨h1,h2,h3,h4⟩:=b7t (n:=0) hm hw.a hw.n h;exact PR.ok ⟨rfl,h1,h2,h4,h3⟩
variable {N:E9}
theorem a5L{e:List (Int×Int)}(h:(BC e N).2=0):e.length<=48:=by
 unfold BC at h;cases hs:kM e with
 |inl x=>rw[hs]at h;exact absurd h (xW hs)|inr T=>exact(OT hs).2.1
variable {s:c6F}
theorem a8S(hA:Asc s)(hN:NmLe N)(hO:NmOkB N):
  PR (sQ p s N) (λe p' =>p' =p/\BC e N=(s,0)/\e≠[]/\e.length<=48/\∀n∈e,eH n.2):=by
 unfold sQ;obtain⟨e,k,c,h,hI⟩:=a2B hA hN hO;rw[h,o9];refine PQ.bind Qs λp2 hp2=>?_;obtain⟨hc,rfl⟩:=hp2;simp only at hc;subst hc;have hb:=VI ⟨k,h⟩;rw[YQ hO hI]at hb;have hf:=Y1 hb;exact PR.ok ⟨rfl,hf,(b4h hO hI h).2,a5L (N:=N) (by rw[hf]),hI⟩
theorem b7P(w:c6F)(hl:w.length<=100000):∃a b,kL w [34]=some (a,b)/\a.length<=w.length/\(b=true->w=a++[34]):=by
 unfold kL lu lw;cases g:U7 (A7 ([34]:c6F)) (A7 w)
 .exact⟨w,false,rfl,D7 _,λh=>by cases h⟩
 have hwl:1<=w.length:=by have:=pg.1 g;unfold A7 at this;simp at this;omega
 have e1:N9 .i64 (A7 w) (A7 ([34]:c6F))=((w.length -1:Nat):Int):=by rw[dO (by unfold eH A7;simp;omega)];unfold A7;simp;omega
 rw[o7,e1,pG o5 o5,o9,o9];cases h:seq (w.drop ((w.length -1:Nat):Int).toNat) [34]
 .exact⟨_,_,rfl,D7 _,λh=>by cases h⟩
 .rw[H7,o6,yA o5 o5];refine⟨_,_,rfl,by rw[aX];omega,λ_=>?_⟩;have:=jW.1 h;rw[←this,Z4]
theorem c1K(hl:s.length<=100000):PR (uo p s) (λx p' =>p' =p/\x≠[]/\Qh x=true/\s=x++[34]):=by
 unfold uo;obtain⟨a,b,h,hla,hb⟩:=b7P s hl;rw[h,o9];cases b
 .simp only[o6];refine PQ.bind uM λp2 hp2=>?_;exact absurd hp2.1 J8
 .simp only[o7];cases g:seq a []
  .simp only[P9,o7];rw[Si o5,o9];refine PQ.bind uM λp2 hp2=>?_;obtain⟨hs,rfl⟩:=hp2;exact PR.ok ⟨rfl,Rj.1 g,hs,hb rfl⟩
  .simp only[H7,o6];refine PQ.bind uM λp2 hp2=>?_;exact absurd hp2.1 J8
variable {σ:Type}
def PJ(o:Option (σ⊕(Int×α×D9)))(Q:σ->Prop):Prop:=(∃s,o=some (.inl s)/\Q s)\/∃r,o=some (.inr r)/\r.1≠0
theorem PJ.ok{s:σ}{Q:σ->Prop}(h:Q s):PJ (some (.inl s):Option (σ⊕(Int×α×D9))) Q:=.inl ⟨s,rfl,h⟩
theorem PJ.bind{A:Int×α×D9->Option (σ⊕(Int×β×D9))}{Q' :σ->Prop}
  (h:PR o Q) (hA:∀a p,Q a p->PJ (A (0,a,p)) Q'):PJ (l9 o λx=>l7 (C9 x.1 0) (A x) (some (.inr (x.1,D,dp)))) Q' :=by
 obtain⟨c,a,p,rfl,hc⟩:=h;rw[o9];by_cases e:c=0
 .subst e;exact hA a p (hc rfl)
 .simp only[J7 e,o6];exact .inr ⟨_,rfl,e⟩
theorem PJ.bindQ{o:Option (Int×D9)}{Q:D9->Prop}{A:Int×D9->Option (σ⊕(Int×β×D9))}{Q' :σ->Prop}
  (h:PQ o Q) (hA:∀p,Q p->PJ (A (0,p)) Q'):PJ (l9 o λx=>l7 (C9 x.1 0) (A x) (some (.inr (x.1,D,dp)))) Q' :=by
 obtain⟨c,p,rfl,hc⟩:=h;rw[o9];by_cases e:c=0
 .subst e;exact hA p (hc rfl)
 .simp only[J7 e,o6];exact .inr ⟨_,rfl,e⟩
theorem PJ.join{o:Option (σ⊕(Int×α×D9))}{Q:σ->Prop}{A:σ->Option (Int×α×D9)}{Q' :α->D9->Prop}
  (h:PJ o Q) (hA:∀s,Q s->PR (A s) Q'):PR (l9 o λz=>Z8 z (λx=>A x) (λr=>some r)) Q' :=by
 rcases h with⟨s,rfl,h⟩|⟨r,rfl,h⟩
 .rw[o9,V6];exact hA s h
 .rw[o9,gI];exact⟨r.1,r.2.1,r.2.2,rfl,λe=>absurd e h⟩
theorem b3N(w:c6F)(ws:List c6F):spW (w::ws)=32::(w++spW ws):=by simp[spW]
theorem c1J(g:GdP l p):PR (ql p) (λa p' =>GdP l p' /\∃S N F d,a=(2,d,S,N,[],[],0,[],[],[],[],(0,0),0,0,0)/\mJ S=true/\mJ N=true/\0<=d/\d<=109572/\
  (∀w∈[S,N,F,fV d],Wd w)/\txP p=spW [S,N,F,fV d]++txP p'):=by
 unfold ql;refine PR.bind (Ol g) λS p1 h1=>?_;obtain⟨g1,wS,iS,e1⟩:=h1;refine PR.bind (Ol g1) λN p2 h2=>?_;obtain⟨g2,wN,iN,e2⟩:=h2;refine PR.bind (AV g2) λF p3 h3=>?_;obtain⟨g3,wF,-,e3⟩:=h3;refine PR.bind (a2E g3) λd p4 h4=>?_;obtain⟨g4,d0,d1,wd,e4⟩:=h4;refine PR.ok ⟨g4,S,N,F,d,rfl,iS,iN,d0,d1,?_,?_⟩
 .intro w hw;simp only[D8,rJ,or_false]at hw;rcases hw with rfl|rfl|rfl|rfl<;>assumption
 .rw[e1,e2,e3,e4];simp[spW]
def b3R:c6F:=[101,110,100]
def HiP(l:Z9)(t:eP)(hi:Int)(wh:c6F):Prop:=(wh=b3R/\hi=G5 .i64 (bnd t.2.1 l.1).2 1)\/(wh≠b3R/\inB hi (bnd t.2.1 l.1)=true/\eH hi/\vaT hi t.2.1 l.1=wh)
structure RowP (l:Z9) (k:Int) (a:F8) (T F:c6F) (ws:List c6F) (d lo hi n:Int) (t:eP) (wh:c6F):Prop where
 fa:a=(k,d,[],[],[],[],0,[],[],[],T,(0,0),lo,hi,n)
 iT:mJ T=true
 ft:P5 l.2.1 (nmI l.2.1 (λ(s:eP)=>s.1) T)=some t
 d0:0<=d
 d1:d<=109572
 vk:vty t.2.1 l.1=true
 blo:inB lo (bnd t.2.1 l.1)=true
 ilo:eH lo
 fhi:HiP l t hi wh
 fn:(k=3/\vty t.2.2.1 l.1=true/\inB n (bnd t.2.2.1 l.1)=true/\eH n/\ws=[T,F,fV d,vaT lo t.2.1 l.1,wh,vaT n t.2.2.1 l.1])\/(k≠3/\n=0/\ws=[T,F,fV d,vaT lo t.2.1 l.1,wh])
 fw:∀w∈ws,Wd w
theorem b3v{k:Int}(g:GdP l p)(hm:∀e∈l.1,e.2.length<=100000)(ht:l.2.1.length<=1000000):
  PR (nK p k) (λa p' =>GdP l p' /\∃T F ws d lo hi n t wh,RowP l k a T F ws d lo hi n t wh/\txP p=spW ws++txP p'):=by
 unfold nK;refine PR.bind (Ol g) λT p1 h1=>?_;obtain⟨g1,wT,iT,e1⟩:=h1;simp only;rw[g1.l,NI _ ht,o9];refine PJ.join (Q:=λs=>s=p1/\0<=nmI l.2.1 (λ(s:eP)=>s.1) T) ?_ λs hs=>?_
 .cases c:I5 (nmI l.2.1 (λ(s:eP)=>s.1) T) 0
  .exact PJ.ok ⟨rfl,qc.1 c⟩
  .rw[o7];refine PJ.bindQ Qs λp2 hp2=>?_;exact absurd hp2.1 J8
 obtain⟨rfl,h0⟩:=hs;rcases Ir l.2.1 (λ(s:eP)=>s.1) T with hn|⟨j,t,-,-,-,NZ,-⟩
 .omega
 rw[g1.l,NZ,o9];refine PR.bind (AV g1) λF p2 h2=>?_;obtain⟨g2,wF,-,e2⟩:=h2;refine PR.bind (a2E g2) λd p3 h3=>?_;obtain⟨g3,d0,d1,wd,e3⟩:=h3;refine PR.bind (AV g3) λwl p4 h4=>?_;obtain⟨g4,wwl,-,e4⟩:=h4;refine PR.bind (Zp g4 wwl hm) λlo p5 h5=>?_;obtain⟨rfl,vk,blo,ilo,elo⟩:=h5;refine PR.bind (AV g4) λwh p6 h6=>?_;obtain⟨g6,wwh,-,e6⟩:=h6;have fin:∀(hi:Int) {D:F8} {dp:D9},HiP l t hi wh->PR (l7 (C9 k 3) (l9 (ai p6) λ(x_10:Int×c6F×D9)=>
    l7 (C9 x_10.1 0) (l9 (jw x_10.2.2 x_10.2.1 t.2.2.1) λ(x_11:Int×Int×D9)=>
     l7 (C9 x_11.1 0) (some (0,(k,d,[],[],[],[],0,[],[],[],T,(0,0),lo,hi,x_11.2.1),x_11.2.2)) (some (x_11.1,D,dp))) (some (x_10.1,D,dp)))
    (some (0,(k,d,[],[],[],[],0,[],[],[],T,(0,0),lo,hi,0),p6)))
   (λa p' =>GdP l p' /\∃T F ws d lo hi n t wh,RowP l k a T F ws d lo hi n t wh/\txP p=spW ws++txP p'):=by
  intro hi D dp hh;cases hk:C9 k 3
  .rw[o6];refine PR.ok ⟨g6,T,F,[T,F,fV d,vaT lo t.2.1 l.1,wh],d,lo,hi,0,t,wh,⟨rfl,iT,NZ,d0,d1,vk,blo,ilo,hh,.inr ⟨zI.1 hk,rfl,rfl⟩,?_⟩,?_⟩
   .intro w hw;simp only[D8,rJ,or_false]at hw;rcases hw with rfl|rfl|rfl|rfl|rfl
    .exact wT
    .exact wF
    .exact wd
    .rw[elo];exact wwl
    .exact wwh
   .rw[e1,e2,e3,e4,e6,elo];simp[spW]
  .rw[o7];refine PR.bind (AV g6) λwn p7 h7=>?_;obtain⟨g7,wwn,-,e7⟩:=h7;refine PR.bind (Zp g7 wwn hm) λn p8 h8=>?_;obtain⟨rfl,vv,bn,inn,en⟩:=h8;refine PR.ok ⟨g7,T,F,[T,F,fV d,vaT lo t.2.1 l.1,wh,vaT n t.2.2.1 l.1],d,lo,hi,n,t,wh,⟨rfl,iT,NZ,d0,d1,vk,blo,ilo,hh,.inl ⟨gp.1 hk,vv,bn,inn,rfl⟩,?_⟩,?_⟩
   .intro w hw;simp only[D8,rJ,or_false]at hw;rcases hw with rfl|rfl|rfl|rfl|rfl|rfl
    .exact wT
    .exact wF
    .exact wd
    .rw[elo];exact wwl
    .exact wwh
    .rw[en];exact wwn
   .rw[e1,e2,e3,e4,e6,e7,elo,en];simp[spW]
 simp only;cases c:seq wh [101,110,100]
 .rw[o6];refine PR.bind (Zp g6 wwh hm) λhi p7 h7=>?_;obtain⟨rfl,-,bhi,ihi,ehi⟩:=h7;exact fin hi (.inr ⟨Rj.1 c,bhi,ihi,ehi⟩)
 .rw[o7,BO,o9];refine fin _ (.inl ⟨jW.1 c,?_⟩);rw[g6.l]
def ovX(P:c6F):c6F:=l7 (H5 (seq P [])) ([32,111,118,101,114,32]++P) []
def prX(r:Int):c6F:=l7 (H5 (C9 r 0)) ([32,112,114,105,111,32]++Lib.itoa r) []
theorem b8g(h:NmOk N):NmOkB N:=
 ⟨λe he=>⟨by have:=(h.e e he).1;omega,λm hm=>by have:=(h.e e he).2 m hm;omega⟩,λs hs=>by have:=h.t s hs;omega,λs hs=>by have:=h.i s hs;omega,λs hs=>by have:=h.d s hs;omega,λs hs=>by have:=h.m s hs;omega⟩
def GuP(N0:E9)(gd:List (Int×Int))(t rest:c6F):Prop:=(gd=[]/\t=[32,105,115,32]++rest)\/
 (gd≠[]/\gd.length<=48/\(∀n∈gd,eH n.2)/\(BC gd N0).2=0/\t=[32,119,104,101,110,32]++((BC gd N0).1++([32,105,115,32]++rest)))
structure InsP (l:Z9) (t:c6F) (a:F8) (S N D P:c6F) (r d:Int) (gd v:List (Int×Int)) (x:c6F):Prop where
 fa:a=(1,d,S,N,D,P,r,gd,v,x,[],(0,0),0,0,0)
 iS:mJ S=true
 iN:mJ N=true
 iD:mJ D=true
 iP:P=[]\/mJ P=true
 r0:0<=r
 r9:r<=9
 d0:0<=d
 d1:d<=109572
 gl:gd.length<=48
 gi:∀n∈gd,eH n.2
 vl:v.length<=48
 vi:∀n∈v,eH n.2
 sx:x=[]\/Qh x=true
 lS:S.length<=100000
 lN:N.length<=100000
 lD:D.length<=100000
 lP:P.length<=100000
 tx:YW l a=([105,110,115,101,114,116]++t,0)
theorem c1I(g:GdP l p)(hF:FmL l)(hl:l.2.2.length<=1000000):PR (um p) (λa p' =>∃S N D P r d gd v x,InsP l (txP p) a S N D P r d gd v x):=by
 unfold um;refine PR.bind (Ol g) λS p1 h1=>?_;obtain⟨g1,wS,iS,e1⟩:=h1;simp only;rw[g1.l,NF _ hl,o9];refine PJ.join (Q:=λs=>s=p1/\0<=nmI l.2.2 (λ(s:au)=>s.1) S) ?_ λs hs=>?_
 .cases c:I5 (nmI l.2.2 (λ(s:au)=>s.1) S) 0
  .exact PJ.ok ⟨rfl,qc.1 c⟩
  .rw[o7];refine PJ.bindQ Qs λp2 hp2=>?_;exact absurd hp2.1 J8
 obtain⟨rfl,h0⟩:=hs;rcases Ir l.2.2 (λ(s:au)=>s.1) S with hn|⟨j,sc,-,-,-,NZ,hmem⟩
 .omega
 rw[g1.l,a0l hF.n NZ,o9];have hLe:=b1T hF.n hmem;have hOB:=b8g (b4w hF.n hmem);refine PR.bind (Ol g1) λN p2 h2=>?_;obtain⟨g2,wN,iN,e2⟩:=h2;refine PR.bind (AV g2) λwo p3 h3=>?_;obtain⟨g3,-,-,e3⟩:=h3;refine PQ.bind uM λp4 hp4=>?_;obtain⟨ho,rfl⟩:=hp4;have ho:wo=[111,102]:=jW.1 ho;subst ho;refine PR.bind (Ol g3) λD p5 h5=>?_;obtain⟨g5,wD,iD,e5⟩:=h5;refine PR.bind (AV g5) λw6 p6 h6=>?_;obtain⟨g6,ww6,-,e6⟩:=h6;refine PJ.join (Q:=λs=>GdP l s.1/\∃P,s.2.1=(1,0,S,N,D,P,0,[],[],[],[],(0,0),0,0,0)/\(P=[]\/mJ P=true)/\P.length<=100000/\txP p5=ovX P++32::(s.2.2++txP s.1)) ?_ λs hs=>?_
 .simp only;cases c:seq w6 [111,118,101,114]
  .rw[o6];exact PJ.ok ⟨g6,[],rfl,.inl rfl,D5,by rw[e6];rfl⟩
  .rw[o7];refine PJ.bind (Ol g6) λP p7 h7=>?_;obtain⟨g7,wP,iP,e7⟩:=h7;refine PJ.bind (AV g7) λw8 p8 h8=>?_;obtain⟨g8,-,-,e8⟩:=h8;refine PJ.ok ⟨g8,P,rfl,.inr iP,wP.n,?_⟩;have hP:seq P []=false:=Rj.2 wP.ne;rw[e6,jW.1 c,e7,e8];unfold ovX;rw[hP];simp[H5,l7]
 obtain⟨q1,a1,w1⟩:=s;obtain⟨k1,P,rfl,iP,lP,t1⟩:=hs;simp only at k1 t1;refine PJ.join (Q:=λs=>GdP l s.1/\∃r,s.2.1=(1,0,S,N,D,P,r,[],[],[],[],(0,0),0,0,0)/\0<=r/\r<=9/\txP p5=ovX P++(prX r++32::(s.2.2++txP s.1))) ?_ λs hs=>?_
 .simp only;cases c:seq w1 [112,114,105,111]
  .rw[o6];exact PJ.ok ⟨k1,0,rfl,o5,o5,by rw[t1];rfl⟩
  .rw[o7];refine PJ.bind (b4F k1) λr p7 h7=>?_;obtain⟨g7,r1,r9,wr,e7⟩:=h7;refine PJ.bind (AV g7) λw8 p8 h8=>?_;obtain⟨g8,-,-,e8⟩:=h8;refine PJ.ok ⟨g8,r,rfl,o5,r9,?_⟩;have hr:C9 r 0=false:=J7 o5;rw[t1,jW.1 c,e7,e8];unfold prX;rw[hr];simp[H5,l7]
 obtain⟨q2,a2,w2⟩:=s;obtain⟨k2,r,rfl,r0,r9,t2⟩:=hs;simp only at k2 t2;refine PQ.bind uM λp7 hp7=>?_;obtain⟨hf,rfl⟩:=hp7;have hf:w2=[102,114,111,109]:=jW.1 hf;subst hf;refine PR.bind (a2E k2) λd p8 h8=>?_;obtain⟨g8,d0,d1,wd,e8⟩:=h8;refine PR.bind (AV g8) λw9 p9 h9=>?_;obtain⟨g9,-,-,e9⟩:=h9;refine PJ.join (Q:=λs=>GdP l s.1/\s.2.2=nmS l sc/\∃gd,s.2.1=(1,d,S,N,D,P,r,gd,[],[],[],(0,0),0,0,0)/\GuP (nmS l sc) gd (txP p8) s.1.2.1) ?_ λs hs=>?_
 .simp only;cases c:seq w9 [119,104,101,110]
  .rw[o6];have hno:PQ (P6 p9 (H5 p9.2.2)) (λp' =>H5 p9.2.2=true/\p' =p9):=uM;cases c2:seq w9 [105,115]
   .rw[o6];refine PJ.bindQ uM λp10 hp10=>?_;exact absurd hp10.1 J8
   .rw[o7];refine PJ.bindQ uM λp10 hp10=>?_;obtain⟨hb,rfl⟩:=hp10;refine PJ.ok ⟨g9,rfl,[],rfl,.inl ⟨rfl,?_⟩⟩;have hb:p10.2.2=false:=by
     cases h:p10.2.2
     .rfl
     .rw[h]at hb;exact absurd hb J8
    rw[e9,jW.1 c2];simp[txP,hb,l7]
  .rw[o7];refine PJ.bindQ uM λp10 hp10=>?_;obtain⟨hb,rfl⟩:=hp10;have hb:p10.2.2=false:=by
    cases h:p10.2.2
    .rfl
    .rw[h]at hb;exact absurd hb J8
   simp only;obtain⟨ga,gr,gf,hc,hc1,hc2⟩:=a4a p10.2.1 [32,105,115,32] D5 (by have:=g9.n;omega);rw[hc,o9];refine PJ.bindQ uM λp11 hp11=>?_;obtain⟨hg,rfl⟩:=hp11;have e10:=hc1 hg;have hA:Asc ga:=(OO (a:=ga) (by rw[←e10];exact g9.a)).1;have hA2:Asc gr:=(OO (OO (a:=ga) (by rw[←e10];exact g9.a)).2).2;have hgr:gr.length<=100000:=by have:=g9.n;rw[e10]at this;simp at this;omega
   refine PJ.bind (a8S hA hLe hOB) λgd p12 h12=>?_;obtain⟨rfl,fe,hne,hle,hI⟩:=h12;refine PJ.ok ⟨⟨g9.l,hgr,hA2⟩,rfl,gd,rfl,.inr ⟨hne,hle,hI,by rw[fe],?_⟩⟩;rw[e9,jW.1 c,fe];unfold txP;rw[hb,e10];simp[l7]
 obtain⟨q3,a3,N0⟩:=s;obtain⟨k3,hN0,gd,rfl,hgu⟩:=hs;simp only at k3 hN0 hgu;subst hN0;simp only;obtain⟨va,vr,vf,hc,hc1,hc2⟩:=a4a q3.2.1 [32,115,114,99,32,34] D5 (by have:=k3.n;omega);rw[hc,o9];have hA:Asc va:=by
  cases vf
  .rw[hc2 rfl];exact k3.a
  .exact(OO (a:=va) (by rw[←hc1 rfl];exact k3.a)).1
 refine PR.bind (a8S hA hLe hOB) λv p12 h12=>?_;obtain⟨rfl,fe,hne,hvl,hvI⟩:=h12;have hgl:gd.length<=48/\∀n∈gd,eH n.2:=by
  rcases hgu with⟨rfl,-⟩|⟨-,h1,h2,-⟩
  .exact⟨D5,λn hn=>by cases hn⟩
  .exact⟨h1,h2⟩
 have fin:∀x:c6F,p12.2.1=va++l7 (H5 (seq x [])) ([32,115,114,99,32,34]++x++[34]) []->YW l (1,d,S,N,D,P,r,gd,v,x,[],(0,0),0,0,0)=([105,110,115,101,114,116]++txP p,0):=by
  intro x hx;have hT:txP p=32::(S++32::(N++32::([111,102]++32::(D++(ovX P++(prX r++32::([102,114,111,109]++32::(fV d++txP p8)))))))):=by rw[e1,e2,e3,e5,t2,e8]
  unfold YW;rw[NZ];simp only;have hH:hdT (1,d,S,N,D,P,r,gd,v,x,[],(0,0),0,0,0)=[105,110,115,101,114,116]++32::(S++32::(N++32::([111,102]++32::(D++(ovX P++(prX r++32::([102,114,111,109]++32::fV d))))))):=by unfold hdT ovT prT ovX prX;simp only[E8,U3,J4]
  have hV:∀q:c6F,isT (1,d,S,N,D,P,r,gd,v,x,[],(0,0),0,0,0) q (nmS l sc)=(q++([32,105,115,32]++p12.2.1),0):=by intro q;unfold isT;simp only;rw[fe];have:srT (1,d,S,N,D,P,r,gd,v,x,[],(0,0),0,0,0)=l7 (H5 (seq x [])) ([32,115,114,99,32,34]++x++[34]) []:=rfl;rw[this];simp only[U6 (rfl:(0:Int)=0),H7,o6];rw[hx];simp only[E8]
  rcases hgu with⟨rfl,ht⟩|⟨hgn,-,-,hg0,ht⟩
  .rw[show I5 0 (A7 ([]:List (Int×Int)))=false from rfl,o6,hV,hH,hT,ht];simp only[E8,U3,J4]
  .have hlen:I5 0 (A7 gd)=true:=by
    refine aP ?_;unfold A7;have:=List.length_pos_iff.2 hgn;omega
   rw[hlen,o7,hg0,show H5 (C9 (0:Int) 0)=false from rfl,o6,hV,hH,hT,ht];simp only[E8,U3,J4]
 simp only;cases vf
 .rw[o6];exact PR.ok ⟨S,N,D,P,r,d,gd,v,[],rfl,iS,iN,iD,iP,r0,r9,d0,d1,hgl.1,hgl.2,hvl,hvI,.inl rfl,wS.n,wN.n,wD.n,lP,fin [] (by rw[hc2 rfl];simp[l7,H5,seq])⟩
 .rw[o7];have e12:=hc1 rfl;have hvr:vr.length<=100000:=by have:=k3.n;rw[e12]at this;simp at this;omega
  refine PR.bind (c1K hvr) λx p13 h13=>?_;obtain⟨rfl,hxn,hxs,ex⟩:=h13;refine PR.ok ⟨S,N,D,P,r,d,gd,v,x,rfl,iS,iN,iD,iP,r0,r9,d0,d1,hgl.1,hgl.2,hvl,hvI,.inr hxs,wS.n,wN.n,wD.n,lP,fin x ?_⟩;rw[e12,ex,Rj.2 hxn];simp[l7,H5]
theorem a6U(h:∀x∈w,x≠32):w.count 32=0:=List.count_eq_zero.2 λhm=>h 32 hm rfl
theorem a6V:∀(ws:List c6F),(∀w∈ws,∀x∈w,x≠32)->(spW ws).count 32=ws.length
 |[],_=>rfl|w::ws,h=>by rw[b3N,List.count_cons_self,qA,a6U (h w D5),a6V ws (λv hv=>h v (by simp[hv]))];simp
theorem c5t:∀(ws:List c6F) (f:c6F),(∀x∈f,x≠32)->(∀w∈ws,∀x∈w,x≠32)->Lib.splitK [32] 0 ws.length (f++spW ws)=f::ws
 |[],f,hf,h=>by rw[show f++spW []=f by simp[spW]];rfl|w::ws,f,hf,h=>by
  have e:f++spW (w::ws)=f++([32]++(w++spW ws)):=by rw[b3N];rfl
  rw[e];have hi:=YR (sub:=[32]) D5 (Pm hf) (a:=f) (x:=w++spW ws);rw[F5];unfold Lib.splitK;rw[hi];have:((((f.length:Nat):Int))==-1)=false:=by rw[beq_eq_false_iff_ne];omega
  rw[this];simp only[iw,if_false,F7,aH];rw[ed];congr 1;rw[show f.length+([32]:c6F).length=(f++[32]).length by simp,←E8,fG];exact c5t ws w (h w D5) (λv hv=>h v (by simp[hv]))
variable {ws:List c6F}
theorem c6z{f:c6F}(hf:∀x∈f,x≠32)(h:∀w∈ws,∀x∈w,x≠32)(hl:(f++spW ws).length<=1000000000):BK (f++spW ws) [32]=some (f::ws):=by unfold BK Lib.split;rw[if_pos ⟨o5,D5⟩,Lib.count_one];rw[qA,a6U hf,a6V ws h,bY,c5t ws f hf h]
theorem a4n(w:c6F)(k:Nat)(hl:w.length<=1000000000):∃b,lT w (k:Int)=some b:=by
 unfold lT BK;rw[if_pos ⟨o5,D5⟩,o9];generalize Lib.split w [32]=L;cases g:I5 (k:Int) (A7 L)
 .exact⟨false,rfl⟩
 .have hk:=zo.1 g;unfold A7 at hk;have e:=lF (show k<L.length by omega);rw[o7,V8,e,o9];rw[show aN L (Z7 (k:Int))=L[k]? from rfl,e,o9];exact⟨_,rfl⟩
theorem a4m{f:c6F}(hf:∀x∈f,x≠32)(h:∀w∈ws,∀x∈w,x≠32)(hl:(f++spW ws).length<=1000000000){i:Nat}(hb:lT (f++spW ws) ((i+1:Nat):Int)=some true):ws[i]? =some [102,114,111,109]:=by
 unfold lT at hb;rw[c6z hf h hl,o9]at hb;cases g:I5 ((i+1:Nat):Int) (A7 (f::ws))<;>rw[g]at hb
 .exact absurd (Y1 (show some false=some true from hb)) J8
 .have hk:=zo.1 g;unfold A7 at hk;simp only[F5]at hk;have e:=lF (show i+1<(f::ws).length by simp;omega);rw[o7,V8,e,o9,show aN (f::ws) (Z7 ((i+1:Nat):Int))=(f::ws)[i+1]? from rfl,e,o9]at hb;have:=jW.1 (Y1 hb);rw[←qf (a:=f),e,this]
theorem b3P{w w0:c6F}(h0:∀x∈w0,x≠32)(h:∀v∈ws,∀x∈v,x≠32)(e:w=w0++(spW ws++txP p))(hc:w.count 32=ws.length):w=w0++spW ws:=by
 rw[e,qA,qA,a6U h0,a6V ws h]at hc;have h1:(txP p).count 32=0:=o5;have h2:txP p=[]:=by
  unfold txP at h1 ⊢;cases hb:p.2.2
  .rw[hb]at h1;simp[l7]at h1
  .rfl
 rw[e,h2,G7]
def Yx(l:Z9)(w:c6F)(a:F8):Prop:=AmW a/\AmF a/\xI l a=(w,0)/\6<=w.length
theorem b7Z{t:c6F}{S N D P:c6F}{r d:Int}{gd v:List (Int×Int)}{x:c6F}(h:InsP l t a S N D P r d gd v x):Yx l ([105,110,115,101,114,116]++t) a:=by
 have ht:=h.tx;have hd0:=h.d0;have hd1:=h.d1;have hr0:=h.r0;have hr9:=h.r9;have i0:eH 0:=by unfold eH;omega
 obtain rfl:=h.fa;have hx:x.length<=64:=by
  rcases h.sx with rfl|h
  .simp
  .unfold Qh at h;simp at h;exact h.1
 have id:eH d:=by unfold eH;omega
 have ir:eH r:=by unfold eH;omega
 refine⟨⟨id,V5 h.lS o5,V5 h.lN o5,V5 h.lD o5,V5 h.lP o5,ir,h.gi,h.vi,D5,i0,i0,i0⟩,
  ⟨V5 h.gl o5,V5 h.vl o5,V5 hx o5⟩,?_,D5⟩
 unfold xI;have hu:unS (1,d,S,N,D,P,r,gd,v,x,[],(0,0),0,0,0)=false:=rfl;have hw:wnS (1,d,S,N,D,P,r,gd,v,x,[],(0,0),0,0,0)=true:=by
  have hsx:Qh x=true:=by
   rcases h.sx with rfl|h
   .rfl
   .exact h
  have hip:(seq P [] || mJ P)=true:=by
   rcases h.iP with rfl|h
   .rfl
   .rw[h];simp
  unfold wnS;simp only[U6 (rfl:(1:Int)=1),o7];rw[h.iS,h.iN,h.iD,hip,hsx];rfl
 rw[hu,hw];simp only[U1 (show(1:Int)<=1 by omega),U1 (show(1:Int)<=4 by omega),o6,H7,U1 hd0,U1 hd1,U1 hr0,U1 hr9,U6 (rfl:(1:Int)=1),o7];exact ht
variable {d:Int}
theorem b8a{S N:c6F}(iS:mJ S=true)(iN:mJ N=true)(wS:Wd S)(wN:Wd N)(d0:0<=d)(d1:d<=109572):
  Yx l ([114,101,112,101,97,108]++spW [S,N,[102,114,111,109],fV d]) (2,d,S,N,[],[],0,[],[],[],[],(0,0),0,0,0):=by
 have i0:eH 0:=by unfold eH;omega
 have id:eH d:=by unfold eH;omega
 refine⟨⟨id,V5 wS.n o5,V5 wN.n o5,D5,D5,i0,(λn hn=>by cases hn),(λn hn=>by cases hn),D5,i0,i0,i0⟩,⟨D5,D5,D5⟩,?_,D5⟩;unfold xI;have hu:unS (2,d,S,N,[],[],0,[],[],[],[],(0,0),0,0,0)=false:=rfl;have hw:wnS (2,d,S,N,[],[],0,[],[],[],[],(0,0),0,0,0)=true:=by unfold wnS;simp only[J7 (show(2:Int)≠1 by decide),U6 (rfl:(2:Int)=2),o7,o6];rw[iS,iN];rfl
 rw[hu,hw];simp only[U1 (show(1:Int)<=2 by omega),U1 (show(2:Int)<=4 by omega),o6,H7,U1 d0,U1 d1,U1 (show(0:Int)<=0 by omega),U1 (show(0:Int)<=9 by omega),J7 (show(2:Int)≠1 by decide),U6 (rfl:(2:Int)=2),o7];unfold b4J;simp[spW]
theorem b8b(hF:FmL l){k:Int}{T:c6F}{d lo hi n:Int}{t:eP}{wh:c6F}(hk:k=3\/k=4)
  (h:RowP l k a T [102,114,111,109] ws d lo hi n t wh):Yx l (l7 (C9 k 3) [105,110,115,101,114,116,114,111,119] [114,101,112,101,97,108,114,111,119]++spW ws) a:=by
 have hW:=b4m hF;have i0:eH 0:=by unfold eH;omega
 have hd0:=h.d0;have hd1:=h.d1;have id:eH d:=by unfold eH;omega
 have hb:=b1r hW h.vk;have hadd:G5 .i64 (bnd t.2.1 l.1).2 1=(bnd t.2.1 l.1).2+1:=dN di;have wT:Wd T:=h.fw T (by rcases h.fn with⟨-,-,-,-,e⟩|⟨-,-,e⟩<;>rw[e]<;>simp);have ihi:eH hi:=by
  rcases h.fhi with⟨-,e⟩|⟨-,-,e,-⟩
  .rw[e,hadd];unfold eH;omega
  .exact e
 have inn:eH n:=by
  rcases h.fn with⟨-,-,-,e,-⟩|⟨-,e,-⟩
  .exact e
  .rw[e];exact i0
 have hlo:=a3I hW h.vk h.blo h.ilo;have hft:=h.ft;obtain rfl:=h.fa;refine⟨⟨id,D5,D5,D5,D5,i0,(λn hn=>by cases hn),(λn hn=>by cases hn),V5 wT.n o5,h.ilo,ihi,inn⟩,⟨D5,D5,D5⟩,?_,?_⟩
 rotate_left
 .rcases hk with rfl|rfl<;>simp[l7,C9]
 have hu:unS (k,d,[],[],[],[],0,[],[],[],T,(0,0),lo,hi,n)=false:=by
  rcases hk with rfl|rfl
  .rfl
  .rcases h.fn with⟨e,-⟩|⟨-,rfl,-⟩
   .exact absurd e J8
   .rfl
 have hw:wnS (k,d,[],[],[],[],0,[],[],[],T,(0,0),lo,hi,n)=true:=by
  unfold wnS;rcases hk with rfl|rfl
  .simp only[J7 (show(3:Int)≠1 by decide),J7 (show(3:Int)≠2 by decide),o6];exact h.iT
  .simp only[J7 (show(4:Int)≠1 by decide),J7 (show(4:Int)≠2 by decide),o6];exact h.iT
 have hline:xI l (k,d,[],[],[],[],0,[],[],[],T,(0,0),lo,hi,n)=Oz l (k,d,[],[],[],[],0,[],[],[],T,(0,0),lo,hi,n):=by unfold xI;rw[hu,hw];have k1:1<=k:=o5;have k4:k<=4:=o5;simp only[U1 k1,U1 k4,o6,H7,U1 hd0,U1 hd1,U1 (show(0:Int)<=0 by omega),U1 (show(0:Int)<=9 by omega),J7 (show k≠1 by omega),J7 (show k≠2 by omega)]
 rw[hline];unfold Oz;simp only;rw[hft];simp only;rw[hlo];have hE:∀x:c6F,(k=3->wh=x->rwE l t (k,d,[],[],[],[],0,[],[],[],T,(0,0),lo,hi,n) (vaT lo t.2.1 l.1) x=([105,110,115,101,114,116,114,111,119]++spW ws,0))/\
   (k=4->wh=x->rwE l t (k,d,[],[],[],[],0,[],[],[],T,(0,0),lo,hi,n) (vaT lo t.2.1 l.1) x=([114,101,112,101,97,108,114,111,119]++spW ws,0)):=by
  intro x;refine⟨λhk3 hx=>?_,λhk4 hx=>?_⟩
  .subst hk3;subst hx;rcases h.fn with⟨-,vv,bn,inn,e⟩|⟨e,-⟩
   .unfold rwE rwT;simp only[J7 (show(3:Int)≠4 by decide),o6];rw[a3I hW vv bn inn,e];simp[spW,C9,H5,l7]
   .exact absurd rfl e
  .subst hk4;subst hx;rcases h.fn with⟨e,-⟩|⟨-,hn,e⟩
   .exact absurd e J8
   .unfold rwE rwT;simp only[U6 (rfl:(4:Int)=4),o7];rw[e];simp[spW]
 have hfin:∀x:c6F,wh=x->rwE l t (k,d,[],[],[],[],0,[],[],[],T,(0,0),lo,hi,n) (vaT lo t.2.1 l.1) x=(l7 (C9 k 3) [105,110,115,101,114,116,114,111,119] [114,101,112,101,97,108,114,111,119]++spW ws,0):=by
  intro x hx;rcases hk with rfl|rfl
  .rw[(hE x).1 rfl hx,U6 rfl,o7]
  .rw[(hE x).2 rfl hx,J7 J8,o6]
 simp only[U6 (rfl:(0:Int)=0),H7,o6];rcases h.fhi with⟨e1,e2⟩|⟨-,bh,ih,e⟩
 .rw[show C9 hi (G5 .i64 (bnd t.2.1 l.1).2 1)=true from U6 e2,H7,o6];exact hfin _ e1
 .have hne:hi≠G5 .i64 (bnd t.2.1 l.1).2 1:=by
   have:=(Au bh).2;rw[hadd];omega
  rw[J7 hne,P9,o7,a3I hW h.vk bh ih];simp only[U6 (rfl:(0:Int)=0),H7,o6];exact hfin _ e.symm
theorem b4r(hF:FmL l)(hs:l.2.2.length<=1000000)(ht:l.2.1.length<=1000000)(hm:∀e∈l.1,e.2.length<=100000)(hl:w.length<=100000)(hA:Asc w):PL (rX l w) (Yx l w):=by
 unfold rX;rw[show En w [32]=some ((w.count 32:Nat):Int)from rfl,o9];have hcl:w.count 32<=100000:=V5 List.count_le_length hl;refine PR.line (AV (l:=l) (p:=(l,w,false)) ⟨rfl,hl,hA⟩) λw0 p1 h1=>?_;obtain⟨g1,ww0,-,e1⟩:=h1;have e1:w=w0++txP p1:=by have:txP (l,w,false)=32::w:=rfl;rw[this]at e1;exact List.tail_eq_of_cons_eq e1
 obtain⟨b3,hb3⟩:=a4n w 3 o5;obtain⟨b2,hb2⟩:=a4n w 2 o5;have cnt:∀n:Nat,n<=100000->C9 (G5 .i64 ((w.count 32:Nat):Int) 1) ((n+1:Nat):Int)=true->w.count 32=n:=λn hn h=>by rw[dH o5]at h;have:=gp.1 h;omega
 have no:∀{p:D9} {A:Int×D9->Option (F8×Int)} {D:F8},PL (l9 (P6 p false) λx=>l7 (C9 x.1 0) (A x) (some (D,x.1))) (Yx l w):=λ{p A D}=>PQ.line uM λp hp=>absurd hp.1 J8;have rowE:∀(k:Int) (n:Nat),(k=3\/k=4)->w0=l7 (C9 k 3) [105,110,115,101,114,116,114,111,119] [114,101,112,101,97,108,114,111,119]->n=(l7 (C9 k 3) 6 5:Nat)->w.count 32=n->b2=true->∀{a:F8} {p2:D9},
   (GdP l p2/\∃T F ws d lo hi n t wh,RowP l k a T F ws d lo hi n t wh/\txP p1=spW ws++txP p2)->Yx l w a:=by
  rintro k n hk hw0 hn hc hb a p2 ⟨-,T,F,ws,d,lo,hi,nn,t,wh,hR,et⟩;have hnb:∀v∈ws,∀x∈v,x≠32:=λv hv=>(hR.fw v hv).nb;have hlen:ws.length=n:=by
   rw[hn];rcases hR.fn with⟨rfl,-,-,-,e⟩|⟨h3,-,e⟩
   .rw[e];rfl
   .rw[e,J7 h3];rfl
  have hw:w=w0++spW ws:=b3P (p:=p2) ww0.nb hnb (by rw[e1,et]) (by rw[hc,hlen]);have hF2:F=[102,114,111,109]:=by rw[hb,hw]at hb2;have:=a4m ww0.nb hnb (by rw[←hw];omega) (i:=1) hb2;rcases hR.fn with⟨-,-,-,-,e⟩|⟨-,-,e⟩<;>rw[e]at this<;>simpa using this
  subst hF2;have:=b8b hF hk hR;rw[←hw0,←hw]at this;exact this
 simp only;cases c1:seq w0 [105,110,115,101,114,116]
 .rw[o6];cases c2:seq w0 [114,101,112,101,97,108]
  .rw[o6];cases c3:seq w0 [105,110,115,101,114,116,114,111,119]
   .rw[o6];cases c4:seq w0 [114,101,112,101,97,108,114,111,119]
    .rw[o6];exact PL.no J8
    .rw[o7];cases cc:C9 (G5 .i64 ((w.count 32:Nat):Int) 1) 6
     .rw[o6];exact no
     .rw[o7,show lT w 2=some b2 from hb2,o9];refine PQ.line uM λp2 hp2=>?_;obtain⟨hb,rfl⟩:=hp2;refine PR.line (b3v (k:=4) g1 hm ht) λa p3 h=>?_;exact PL.ok (rowE 4 5 (.inr rfl) (jW.1 c4) rfl (cnt 5 o5 cc) hb h)
   .rw[o7];cases cc:C9 (G5 .i64 ((w.count 32:Nat):Int) 1) 7
    .rw[o6];exact no
    .rw[o7,show lT w 2=some b2 from hb2,o9];refine PQ.line uM λp2 hp2=>?_;obtain⟨hb,rfl⟩:=hp2;refine PR.line (b3v (k:=3) g1 hm ht) λa p3 h=>?_;exact PL.ok (rowE 3 6 (.inl rfl) (jW.1 c3) rfl (cnt 6 o5 cc) hb h)
  .rw[o7];cases cc:C9 (G5 .i64 ((w.count 32:Nat):Int) 1) 5
   .rw[o6];exact no
   .rw[o7,show lT w 3=some b3 from hb3,o9];refine PQ.line uM λp2 hp2=>?_;obtain⟨hb,rfl⟩:=hp2;refine PR.line (c1J g1) λa p3 h=>?_;obtain⟨-,S,N,F,d,rfl,iS,iN,d0,d1,hw4,et⟩:=h;have hnb:∀v∈[S,N,F,fV d],∀x∈v,x≠32:=λv hv=>(hw4 v hv).nb;have hw:w=w0++spW [S,N,F,fV d]:=b3P (p:=p3) ww0.nb hnb (by rw[e1];simp only at et;rw[et]) (cnt 4 o5 cc);have hF2:F=[102,114,111,109]:=by
     rw[hb,hw]at hb3;have:=a4m ww0.nb hnb (by rw[←hw];omega) (i:=2) hb3;simpa using this
    subst hF2;have:=b8a (l:=l) iS iN (hw4 S D5) (hw4 N D5) d0 d1;rw[←jW.1 c2,←hw]at this;exact PL.ok this
 .rw[o7];refine PR.line (c1I g1 hF hs) λa p2 h=>?_;obtain⟨S,N,D,P,r,d,gd,v,x,hI⟩:=h;have:=b7Z hI;rw[←jW.1 c1,←e1]at this;exact PL.ok this
def ZpL(l:Z9):List c6F->List F8->Prop
 |[],[]=>True|w::ws,a::bs=>Yx l w a/\ZpL l ws bs|_,_=>False
theorem a5v{l:Z9}{w:c6F}{a:F8}(h:Yx l w a):∀{ws:List c6F} {bs:List F8},ZpL l ws bs->ZpL l (ws++[w]) (bs++[a])
 |[],[],_=>⟨h,trivial⟩|_::_,_::_,⟨h1,h2⟩=>⟨h1,a5v h h2⟩|[],_::_,h2=>h2.elim|_::_,[],h2=>h2.elim
theorem b1m{l:Z9} :∀{ws:List c6F} {bs:List F8},ZpL l ws bs->7*bs.length<=(xC ws).length
 |[],[],_=>D7 _|w::ws,a::bs,⟨h1,h2⟩=>by have:=b1m h2;have h6:=h1.2.2.2;unfold xC;simp only[F5,I8];omega|[],_::_,h2=>h2.elim|_::_,[],h2=>h2.elim
theorem b1l{l:Z9} :∀{ws:List c6F} {bs:List F8},ZpL l ws bs->∀a∈bs,AmW a/\AmF a
 |[],[],_,a,ha=>by cases ha|w::ws,b::bs,⟨h1,h2⟩,a,ha=>by
  rcases D8.1 ha with rfl|ha
  .exact⟨h1.1,h1.2.1⟩
  .exact b1l h2 a ha
 |[],_::_,h2,_,_=>h2.elim|_::_,[],h2,_,_=>h2.elim
theorem a5u{l:Z9} :∀{ws:List c6F} {bs:List F8} (b:c6F),ZpL l ws bs->qV (a5y l) bs b= .inl (b++xC ws)
 |[],[],b,_=>by simp[qV,xC]|w::ws,a::bs,b,⟨h1,h2⟩=>by
  have e:=h1.2.2.1;unfold qV;have:a5y l b a= .inl (b++w++[10]):=by unfold a5y;rw[e];rfl
  rw[this];simp only;rw[a5u _ h2];simp[xC]
 |[],_::_,_,h2=>h2.elim|_::_,[],_,h2=>h2.elim
theorem a8d(hS:SmL l)(hF:(rW l).1=0->FmL l)(hl:s.length<=100000):(∃i e,e≠0/\zO l s=some ([],i,e))\/
  ∃act ls,(rW l).1=0/\zO l s=some (act,0,0)/\s=xC ls/\ZpL l ls act:=by
 unfold zO;rw[Tq hS,o9];by_cases hv:(rW l).1=0
 case neg=>
  left;have:iV (C9 (rW l).1 0) (iV (C9 (rW l).2.1 0) (iV (C9 (rW l).2.2.1 0) (C9 (rW l).2.2.2 0)))=false:=by rw[J7 hv];rfl
  rw[this];exact⟨0,1,J8,rfl⟩
 rw[c5y hv];rw[show H5 (iV (C9 (0:Int) 0) (iV (C9 (0:Int) 0) (iV (C9 (0:Int) 0) (C9 (0:Int) 0))))=false from rfl,o6];have hF:=hF hv;obtain⟨ls,c,hs,hc⟩:=a6w s;rw[hs,o9];cases g:C9 c 0
 .exact .inl ⟨0,c,zI.1 g,rfl⟩
 obtain⟨e,h6,hb⟩:=hc (gp.1 g);have hj:(xC ls).length<=100000:=by rw[←e];exact hl
 have hA:∀w∈ls,Asc w:=λw hw=>b1P (hb w hw);have hlen:ls.length<=100000:=V5 (XP ls) hj;have hwl:∀w∈ls,w.length<=100000:=λw hw=>V5 (a4A _ _ hw) hj;simp only[H7,o6];have hlp:∀w∈ls,PL (rX l w) (Yx l w):=λw hw=>b4r hF (by have:=hS.few.2.2;omega) (by have:=hS.few.2.1;omega) (λe he=>by have:=(hF.n.e e he).1;omega) (hwl w hw) (hA w hw);have:=jH (f:=λ(x_1:List F8×Int)=>
       l7 (I5 x_1.2 (A7 ls))
        (l9 (P5 ls x_1.2) λ(x_2:c6F)=>
         l9 (aN ls (Z7 x_1.2)) λ(x:c6F)=>
          l9 (rX l x) λ(x:F8×Int)=>
           l7 (H5 (C9 x.2 0)) (some (Out.rt (([],x_1.2,x.2):List F8×Int×Int)))
            (l9 (eG x_1.1 [x.1]) λ(x:List F8)=>
             some (Out.nx (x,G5 IntKind.i64 x_1.2 1))))
        (some (Out.ex x_1.1))) (s:=([],0)) (λx=>∃j:Nat,x.2=(j:Int)/\j<=ls.length/\x.1.length=j/\ZpL l (ls.take j) x.1) (λact=>ZpL l ls act) (λr=>r.1=[]/\r.2.2≠0) (λx=>ls.length -x.2.toNat) ⟨0,rfl,o5,rfl,(show ZpL l (ls.take 0) []from trivial)⟩ E5 (by
  rintro⟨acc,i⟩ ⟨j,hij,hjl,hal,hz⟩;simp only at hij hal hz;subst hij;by_cases h5:j<ls.length
  .have he:=lF h5;simp only;rw[aP (by unfold A7;omega),o7,V8,he,o9,show aN ls (Z7 (j:Int))=ls[j]? from rfl,he,o9];obtain⟨a,c,hp,hc⟩:=hlp ls[j] (Y2 h5);rw[hp,o9];simp only;cases g0:C9 c 0
   .exact .inr (.inr ⟨_,rfl,rfl,zI.1 g0⟩)
   .left;have hok:=hc (gp.1 g0);rw[H7,o6,Pv (by simp only[F5,aB];omega),o9];refine⟨_,rfl,⟨j+1,dH o5,o5,by simp[hal],?_⟩,?_⟩
    .rw[Y8 h5];exact a5v hok hz
    .simp only;rw[dH o5];simp only[F7];omega
  .have:j=ls.length:=o5;subst this;simp only;rw[U1 (by unfold A7;omega)];rw[bJ]at hz;exact .inr (.inl ⟨_,rfl,hz⟩))
 rcases this with⟨act,h,hz⟩|⟨r,h,h1,h2⟩
 .refine .inr ⟨act,ls,(by first|exact hv|trivial),?_,e,hz⟩;refine Y5 h ?_;rfl
 .refine .inl ⟨r.2.1,r.2.2,h2,?_⟩;refine Y5 h ?_;rw[o9,gI,←h1]
section
variable {l:Z9} (hS:SmL l) (h:(rW l).1=0->FmL l) {act:List F8} (hl:act.length<=1000) (hw:∀a∈act,AmW a) (hf:∀a∈act,AmF a)
include hS h hl hw hf
theorem a6J:Aj l act=some (b1p l act):=by
 unfold Aj b1p;rw[Tq hS,o9];cases g:C9 (rW l).1 0
 .rfl
 .have hv:=gp.1 g;rw[c5y hv];have hF:=h hv;show(l9 _ _)=_;rw[o7];refine Oc act (λ(b:c6F) (a:F8)=>(l7 (C9 (xI l a).2 0) (.inl (l7 (U7 (A7 b) 65536) (b++(xI l a).1++[10]) b)) (.inr ([],(xI l a).2)):c6F⊕(c6F×Int))) (λb i=>(b,i)) (λb=>b) (λi b=>b.length<=i*400001) [] o5 D5 (λi a b ha hi hb=>?_) (λb hb=>by simp only[aS,o6]) (λhq=>?_)
  .have hlt:=(bg.1 ha).1;obtain⟨p1,-,p3⟩:=a5V hS hF (hw a (yu ha)) (hf a (yu ha));simp only[aF ha,o7,V8,ha,o9,p1];cases C9 (xI l a).2 0
   .exact⟨rfl,λb' e=>by cases e⟩
   .simp only[H7,o6,o7];unfold Hl;rw[o9];have hm:i*400001<=1000*400001:=J3 _ o5;refine⟨?_,λb' e=>?_⟩
    .simp only[show((b.length:Nat):Int)=A7 b from rfl];cases U7 (A7 b) 65536
     .simp only[o6];rw[dH o5]
     .simp only[o7];rw[b4b o5,o9];simp only;rw[b3Y E5,o9,dH o5]
    .have e:=Sum.inl.inj e;rw[←e];cases U7 (A7 b) 65536
     .rw[o6,N7,aY];exact V5 hb (dU _ _)
     .rw[o7,N7,aY,I8,I8,show([10]:c6F).length=1 from rfl,iO];exact Nat.add_le_add hb o5
  .have hc:=XD (l:=l) act [] [] (.inl rfl);rw[←hc];generalize hz:qV (λ(b:c6F) (a:F8)=>(l7 (C9 (xI l a).2 0) (.inl (l7 (U7 (A7 b) 65536) (b++(xI l a).1++[10]) b)) (.inr ([],(xI l a).2)):c6F⊕(c6F×Int))) act []=z at*;cases z with
   |inr r=>rfl|inl y=>have hy:=hq y rfl;have hm:act.length*400001<=1000*400001:=J3 _ hl;simp only[V6,o9];unfold Hl;rw[o9];simp only[show((y.length:Nat):Int)=A7 y from rfl];rw[b4a o5];cases I5 65536 (A7 y)<;>rfl
end
theorem NM(hW:WfL l):xF l s=some true:=by
 unfold xF;rw[a0W,o9];simp only[a1E,o9];cases h1:smL l
 case false=>rfl
 obtain⟨hS,-⟩:=b5t h1 hW;simp only[H7,o6];cases g:I5 5000 (A7 s)
 case true=>rfl
 rw[o6];have hl:s.length<=5000:=by have:=qc.1 g;unfold A7 at this;omega
 have hF:=b7V h1 hW;rcases a8d hS hF (s:=s) o5 with⟨i,e,he,hp⟩|⟨act,ls,hv,hp,es,hz⟩
 .rw[hp,o9];simp only;rw[J7 he];rfl
 .have h7:=b1m hz;rw[←es]at h7;have hall:=b1l hz;rw[hp,o9];simp only[U6 (rfl:(0:Int)=0),H7,o6];rw[a6J hS hF o5 (λa ha=>(hall a ha).1) (λa ha=>(hall a ha).2),o9];have:b1p l act=(s,0):=by
   unfold b1p;rw[hv,U6 rfl,o7,a5u [] hz];simp only[J4];rw[←es,U1 (by unfold A7;omega),o6]
  rw[this];simp only;rw[jW.2 rfl,U6 rfl];rfl
end
end Go.GP
namespace Go.GP
open Gt
theorem MP:∀x,a1u Gt.ps3 x->(Gt.s3.fn x:c6J)=some true:=λx h=>NM (l:=x.1) (s:=x.2) (c6D h.1)
end Go.GP
