import Derived.Test.YtbnndcenjpgdpaaGreatDoorV5
import Derived.Test.YtbnndcenjpgdpaaGreatDoorV6
import Derived.Lib.IndexMore
set_option linter.all false
namespace Go.GP
open Gt
set_option maxRecDepth 100000
section
theorem b9R(m:Nat)(p:D6):(o8 (m+1)).1 p=iZ (o8 m).1 (o8 m).2.1 (o8 m).2.2.1 (o8 m).2.2.2.1 (o8 m).2.2.2.2 p:=rfl
theorem b3o(m:Nat)(p:D6):(o8 (m+1)).2.2.1 p=gp (o8 m).1 (o8 m).2.1 (o8 m).2.2.1 (o8 m).2.2.2.1 (o8 m).2.2.2.2 p:=rfl
theorem b3n(m:Nat)(p:D6):(o8 (m+1)).2.2.2.1 p=gY (o8 m).1 (o8 m).2.1 (o8 m).2.2.1 (o8 m).2.2.2.1 (o8 m).2.2.2.2 p:=rfl
theorem a3w(m:Nat)(p:D6)(op:Int):(o8 (m+1)).2.2.2.2 p op=bn (o8 m).1 (o8 m).2.1 (o8 m).2.2.1 (o8 m).2.2.2.1 (o8 m).2.2.2.2 p op:=rfl
def biF(r207:D6->Int->Option (Bool×D6))(a1:Int)(x:D6×Int):Option (Out (D6×Int) PUnit (Bool×D6)):=
     o5 (U1 x.1 0) λ(x_1:bD×D6)=>
      o5 (lW x_1.1) λ(x_2:L9)=>
       o5
        (l7 (D8 x_2.1 0) (some (Sum.inr (true,x_1.2)))
         (l7 (J4 x_2.2 a1) (some (Sum.inr (true,x_1.2)))
          (l7 (J4 x.2 x_2.2) (some (Sum.inr (true,x_1.2))) (some (Sum.inl PUnit.unit)))))
        λ(o:PUnit⊕Bool×D6)=>
        dU o
         (λ(x:PUnit)=>
          o5 (r207 (x_1.2.1,I8 IntKind.i64 x_1.2.2.1 1,x_1.2.2.2) (I8 IntKind.i64 x_2.2 1))
           λ(x:Bool×D6)=>
           l7 (I5 x.1) (some (Out.rt (false,x.2)))
            (o5 (G7 x.2 x_2.1 0) λ(x:Bool×D6)=>
             l7 (D8 x_2.2 3) (some (Out.nx (x.2,L6 IntKind.i64 x_2.2 1)))
              (some (Out.nx (x.2,x_2.2)))))
         λ(r:Bool×D6)=>some (Out.rt r)
theorem b9Q(m:Nat)(p:D6)(c:Int):(o8 (m+1)).2.1 p c=o5 ((o8 m).2.2.1 p) λ(x:Bool×D6)=>l7 (I5 x.1) (some (false,x.2)) (o5 (X5 (biF (o8 m).2.1 c) (x.2,5)) λ(o:PUnit⊕Bool×D6)=>dU o (λ(y:PUnit)=>none) λ(r:Bool×D6)=>some r):=rfl
section
variable (T:List bD) (E:Int) (N:D9)
def EOk(m:Nat)(W:List V5)(P:List (Int×Int))(R:List V5):Prop:=∀i nd,At3 T i (W++R)->nd.length+P.length<=100000->(o8 m).1 (pS T E N i nd)=some (true,pS T E N (i+W.length) (nd++P))
def UOk(m:Nat)(W:List V5)(P:List (Int×Int))(R:List V5):Prop:=∀i nd,At3 T i (W++R)->nd.length+P.length<=100000->(o8 m).2.2.1 (pS T E N i nd)=some (true,pS T E N (i+W.length) (nd++P))
def AOk(m:Nat)(W:List V5)(P:List (Int×Int))(R:List V5):Prop:=∀i nd,At3 T i (W++R)->nd.length+P.length<=100000->(o8 m).2.2.2.1 (pS T E N i nd)=some (true,pS T E N (i+W.length) (nd++P))
def b2c(m:Nat)(c:Int)(W:List V5)(P:List (Int×Int))(R:List V5):Prop:=∀i nd,At3 T i (W++R)->nd.length+P.length<=100000->(o8 m).2.1 (pS T E N i nd) c=some (true,pS T E N (i+W.length) (nd++P))
def COk(m:Nat)(op:Int)(W:List V5)(P:List (Int×Int))(R:List V5):Prop:=∀i nd,At3 T i (W++R)->nd.length+P.length<=100000->(o8 m).2.2.2.2 (pS T E N i nd) op=some (true,pS T E N (i+W.length) (nd++P))
def LOk(m:Nat)(c:Int)(W:List V5)(P:List (Int×Int))(g:Int)(R:List V5):Prop:=∀i nd,At3 T i (W++R)->nd.length+P.length<=100000->∃(p' :D6) (q:Nat),q<=W.length/\(o8 m).2.2.1 (pS T E N i nd)=some (true,p')/\
 ∀j,fQ (biF (o8 m).2.1 c) (j+q) (p',5)=fQ (biF (o8 m).2.1 c) j (pS T E N (i+W.length) (nd++P),g)
end
variable {R:List V5}{m:Nat}{W:List V5}{P:List (Int×Int)}
section
variable {T:List bD} {E:Int} {N:D9}
theorem a4v(c:Int)(h:UOk T E N m W P R):LOk T E N m c W P 5 R:=λi nd hA hn=>⟨_,0,l9,h i nd hA hn,λj=>rfl⟩
theorem CE{i:Nat}(h:At3 T i (W++R)):i+W.length<=1000000:=by have:=vZ h;have h1:=this.2.1;have h2:=this.2.2;omega
theorem a8W{c g:Int}(h:LOk T E N m c W P g R)(hR:FK R c):b2c T E N (m+1) c W P R:=by
 intro i nd hA hn;obtain⟨p',q,hq,h1,h2⟩:=h i nd hA hn;have hl:=CE hA;have hB:=vZ hA;have hs:=Aq hB;rw[b9Q,h1,o9];simp only[F5,o6];have lp:X5 (biF (o8 m).2.1 c) (p',5)=some (.inr (true,pS T E N (i+W.length) (nd++P))):=by
  unfold X5;rw[show au=(au -q -1+1)+q by unfold au;omega,h2,bU];have st:biF (o8 m).2.1 c (pS T E N (i+W.length) (nd++P),g)=some (.rt (true,pS T E N (i+W.length) (nd++P))):=by
   unfold biF;simp only;rw[II hB,o9];simp only;rcases hR with hR|⟨k,hk,e,hc⟩
   .rw[b3e (t:=pk T (i+W.length)) (by rw[hs];exact hR),o9,O0 rfl,o7,o9,lU]
   .rw[a9y (t:=pk T (i+W.length)) hk (by rw[hs];exact e),o9];simp only;rw[J8 (by rcases hk with rfl|rfl|rfl|rfl|rfl|rfl|rfl|rfl|rfl<;>decide),o6,dE hc,o7,o9,lU]
  rw[st]
 rw[lp,o9,lU]
theorem b9K{c ga k:Int}{A B:List V5}{PA PB:List (Int×Int)}(hk:a6v k)(hA:LOk T E N m c A PA ga (opK k::(B++R)))(hB:b2c T E N m ((jB k).2+1) B PB R)(h1:c<=(jB k).2)(h2:(jB k).2<=ga):
  LOk T E N m c (A++opK k::B) (PA++PB++[(k,0)]) (l7 (D8 (jB k).2 3) 2 (jB k).2) R:=by
 intro i nd hAt hn;have hAt' :At3 T i (A++(opK k::(B++R))):=by rw[E8]at hAt;exact hAt
 simp only[A7,lH]at hn;obtain⟨p',q,hq,e1,e2⟩:=hA i nd hAt' l9;refine⟨p',q+1,by simp;omega,e1,λj=>?_⟩;have hO:=vZ hAt';have hs:=Aq hO;have hop:=a9y (t:=pk T (i+A.length)) hk hs;have hl:=CE hAt;simp only[A7,A8]at hl;have hsy:1<=(jB k).2/\(jB k).2<=5:=by rcases hk with rfl|rfl|rfl|rfl|rfl|rfl|rfl|rfl|rfl<;>decide
 rw[show j+(q+1)=(j+1)+q by omega,e2,bU];have st:biF (o8 m).2.1 c (pS T E N (i+A.length) (nd++PA),ga)=some (.nx (pS T E N (i+(A++opK k::B).length) (nd++(PA++PB++[(k,0)])),l7 (D8 (jB k).2 3) 2 (jB k).2)):=by
  unfold biF;simp only;rw[II hO,o9];simp only;rw[hop,o9];simp only;rw[J8 (by rcases hk with rfl|rfl|rfl|rfl|rfl|rfl|rfl|rfl|rfl<;>decide),o6,Y0 h1,o6,Y0 h2,o6,o9,ae,bY l9,cZ lm];rw[show(o8 m).2.1 (T,((i+A.length+1:Nat):Int),E,N,nd++PA,0,0) ((jB k).2+1)=_ from hB (i+A.length+1) (nd++PA) (eU hO) H7,o9];simp only[F5,o6];rw[oh H7,o9];simp only;rw[bI lm];have e3:i+A.length+1+B.length=i+(A++opK k::B).length:=by simp;omega
  have e4:nd++PA++PB++[(k,0)]=nd++(PA++PB++[(k,0)]):=x8;rw[e3,e4];by_cases h3:(jB k).2=3
  .rw[O0 h3,o7,o7,h3];rfl
  .rw[J8 h3,o6,o6]
 rw[st]
theorem b6h(h:b2c T E N m 1 W P R)(hne:W≠[])(hif:¬((hd3 W).1=1/\(hd3 W).2.1=[105,102])):EOk T E N (m+1) W P R:=by
 intro i nd hA hn;have hh:hd3 (W++R)=hd3 W:=by cases W with|nil=>exact absurd rfl hne|cons a W=>rfl
 rw[b9R];unfold iZ;rw[Ja hA,o9,hh];have e:l7 (D8 (hd3 W).1 1) (seq (hd3 W).2.1 [105,102]) false=false:=by
  by_cases g:(hd3 W).1=1
  .rw[O0 g,o7];exact pM.2 (λe=>hif ⟨g,e⟩)
  .rw[J8 g];rfl
 rw[e];simp only[af,o7];rw[h i nd hA hn,o9]
theorem c5a{A B C:List V5}{PA PB PC:List (Int×Int)} (hA:EOk T E N m A PA ((1,[116,104,101,110],0)::(B++((1,[101,108,115,101],0)::(C++R))))) (hB:EOk T E N m B PB ((1,[101,108,115,101],0)::(C++R))) (hC:EOk T E N m C PC R):
  EOk T E N (m+1) ((1,[105,102],0)::(A++(1,[116,104,101,110],0)::(B++(1,[101,108,115,101],0)::C))) (PA++PB++PC++[(26,0)]) R:=by
 intro i nd hAt hn;have h0:At3 T i ((1,[105,102],0)::(A++((1,[116,104,101,110],0)::(B++((1,[101,108,115,101],0)::(C++R)))))):=by have e:((1,[105,102],0)::(A++(1,[116,104,101,110],0)::(B++(1,[101,108,115,101],0)::C)))++R=((1,[105,102],0):V5)::(A++((1,[116,104,101,110],0)::(B++((1,[101,108,115,101],0)::(C++R))))):=x8;rw[←e];exact hAt
 have hl:=CE hAt;simp only[A7,A8,F6]at hl hn;have a1:=eU h0;have a2:=vZ a1;have a3:=eU a2;have a4:=vZ a3;have a5:=eU a4;rw[b9R];unfold iZ;rw[Ja h0,o9];rw[show(l7 (D8 (hd3 ((1,[105,102],0)::(A++((1,[116,104,101,110],0)::(B++((1,[101,108,115,101],0)::(C++R))))):List V5)).1 1) (seq (hd3 ((1,[105,102],0)::(A++((1,[116,104,101,110],0)::(B++((1,[101,108,115,101],0)::(C++R))))):List V5)).2.1 [105,102]) false)=true from rfl];simp only[F5,o6];rw[bY l9];rw[show(o8 m).1 (T,((i+1:Nat):Int),E,N,nd,0,0)=_ from hA (i+1) nd a1 l9,o9];simp only[o7];rw[show dF (pS T E N (i+1+A.length) (nd++PA)) 1 [116,104,101,110]=_ from Qq a2,o9];simp only[o7];rw[hB (i+1+A.length+1) (nd++PA) a3 H7,o9];simp only[o7];rw[show dF (pS T E N (i+1+A.length+1+B.length) (nd++PA++PB)) 1 [101,108,115,101]=_ from Qq a4,o9];simp only[o7];rw[hC (i+1+A.length+1+B.length+1) (nd++PA++PB) a5 H7,o9];simp only[o7];rw[oh H7,o9];have e3:i+1+A.length+1+B.length+1+C.length=i+((1,[105,102],0)::(A++(1,[116,104,101,110],0)::(B++(1,[101,108,115,101],0)::C)):List V5).length:=by simp;omega
 have e4:nd++PA++PB++PC++[(26,0)]=nd++(PA++PB++PC++[(26,0)]):=x8;rw[e3,e4]
theorem b2f(h:EOk T E N m W P ((7,[41],0)::R)):AOk T E N (m+1) ((7,[40],0)::(W++[(7,[41],0)])) P R:=by
 intro i nd hAt hn;have h0:At3 T i ((7,[40],0)::(W++((7,[41],0)::R))):=by have e:((7,[40],0)::(W++[(7,[41],0)]))++R=((7,[40],0):V5)::(W++((7,[41],0)::R)):=x8;rw[←e];exact hAt
 have hl:=CE hAt;simp only[A7,A8,F6]at hl;have hs:=Aq h0;have e1:(pk T i).1=7:=congrArg (λx:V5=>x.1) hs;rw[b3n];unfold gY;rw[II h0,o9,KX,o9];simp only[e1,show Vt 7=0 from rfl,O0 (rfl:(0:Int)=0),F5,o6,J8 (show(7:Int)≠5 by omega)];rw[Ja h0,o9];rw[show(l7 (D8 (hd3 ((7,[40],0)::(W++((7,[41],0)::R)):List V5)).1 7) (seq (hd3 ((7,[40],0)::(W++((7,[41],0)::R)):List V5)).2.1 [40]) false)=true from rfl];simp only[o7];rw[bY l9];rw[show(o8 m).1 (T,((i+1:Nat):Int),E,N,nd,0,0)=_ from h (i+1) nd (eU h0) hn,o9];simp only[o7];rw[xJ (vZ (eU h0)),o9];have e3:i+1+W.length+1=i+((7,[40],0)::(W++[(7,[41],0)]):List V5).length:=by simp;omega
 rw[e3]
theorem a8e(h:AOk T E N m W P R)(hne:W≠[])(h1:¬((hd3 W).1=7/\(hd3 W).2.1=[45]))(h2:¬((hd3 W).1=1/\(hd3 W).2.1=[110,111,116])):UOk T E N (m+1) W P R:=by
 intro i nd hA hn;have hh:hd3 (W++R)=hd3 W:=by cases W with|nil=>exact absurd rfl hne|cons a W=>rfl
 rw[b3o];unfold gp;rw[Ja hA,o9,hh];have e:l7 (D8 (hd3 W).1 7) (seq (hd3 W).2.1 [45]) false=false:=by
  by_cases g:(hd3 W).1=7
  .rw[O0 g,o7];exact pM.2 (λe=>h1 ⟨g,e⟩)
  .rw[J8 g];rfl
 have e' :l7 (D8 (hd3 W).1 1) (seq (hd3 W).2.1 [110,111,116]) false=false:=by
  by_cases g:(hd3 W).1=1
  .rw[O0 g,o7];exact pM.2 (λe=>h2 ⟨g,e⟩)
  .rw[J8 g];rfl
 rw[e];simp only[o6];rw[Ja hA,o9,hh,e'];simp only[o6];rw[h i nd hA hn,o9]
theorem c4K(h:UOk T E N m W P R):UOk T E N (m+1) ((1,[110,111,116],0)::W) (P++[(25,0)]) R:=by
 intro i nd hAt hn;have h0:At3 T i ((1,[110,111,116],0)::(W++R)):=hAt;have hl:=CE hAt;simp only[A7,A8,F6]at hl hn;rw[b3o];unfold gp;rw[Ja h0,o9];rw[show(l7 (D8 (hd3 ((1,[110,111,116],0)::(W++R):List V5)).1 7) (seq (hd3 ((1,[110,111,116],0)::(W++R):List V5)).2.1 [45]) false)=false from rfl];simp only[o6];rw[Ja h0,o9];rw[show(l7 (D8 (hd3 ((1,[110,111,116],0)::(W++R):List V5)).1 1) (seq (hd3 ((1,[110,111,116],0)::(W++R):List V5)).2.1 [110,111,116]) false)=true from rfl];simp only[o7];rw[bY l9];rw[show(o8 m).2.2.1 (T,((i+1:Nat):Int),E,N,nd,0,0)=_ from h (i+1) nd (eU h0) l9,o9];simp only[o7];rw[oh H7,o9];have e3:i+1+W.length=i+((1,[110,111,116],0)::W:List V5).length:=by simp;omega
 rw[e3,E8]
theorem b5U(h:UOk T E N m W P R)(hne:W≠[])(hlit:Vt (hd3 W).1=0):UOk T E N (m+1) ((7,[45],0)::W) (P++[(10,0)]) R:=by
 intro i nd hAt hn;have h0:At3 T i ((7,[45],0)::(W++R)):=hAt;have hl:=CE hAt;have hh:hd3 (W++R)=hd3 W:=by cases W with|nil=>exact absurd rfl hne|cons a W=>rfl
 simp only[A7,A8,F6]at hl hn;have hn1:=Pi h0;have e1:(pk T (i+1)).1=(hd3 W).1:=by rw[←hh];exact congrArg (λx:V5=>x.1) hn1
 rw[b3o];unfold gp;rw[Ja h0,o9];rw[show(l7 (D8 (hd3 ((7,[45],0)::(W++R):List V5)).1 7) (seq (hd3 ((7,[45],0)::(W++R):List V5)).2.1 [45]) false)=true from rfl];simp only[o7];rw[show U1 (pS T E N i nd) 1=_ from Le i 1 nd h0.2.1 h0.2.2 l9,o9,KX,o9];simp only[e1,hlit,O0 (rfl:(0:Int)=0),F5,o6];rw[bY l9];rw[show(o8 m).2.2.1 (T,((i+1:Nat):Int),E,N,nd,0,0)=_ from h (i+1) nd (eU h0) l9,o9];simp only[o7];rw[oh H7,o9];have e3:i+1+W.length=i+((7,[45],0)::W:List V5).length:=by simp;omega
 rw[e3,E8]
theorem b1U{k u:Int}{w:c5v}(hk:k=2\/k=3\/k=4)(hu:0<=u/\u<=1000000000000000000):UOk T E N (m+1) [(7,[45],0),(k,w,u)] [(k,-u)] R:=by
 intro i nd hAt hn;have h0:At3 T i ((7,[45],0)::(k,w,u)::R):=hAt;have hl:=CE hAt;simp only[A8,F6]at hl hn;have hn1:=Pi h0;have e1:(pk T (i+1)).1=k:=congrArg (λx:V5=>x.1) hn1;have e2:(pk T (i+1)).2.2.1=u:=congrArg (λx:V5=>x.2.2) hn1;have hlit:Vt k=k:=by rcases hk with rfl|rfl|rfl<;>rfl
 rw[b3o];unfold gp;rw[Ja h0,o9];rw[show(l7 (D8 (hd3 ((7,[45],0)::(k,w,u)::R:List V5)).1 7) (seq (hd3 ((7,[45],0)::(k,w,u)::R:List V5)).2.1 [45]) false)=true from rfl];simp only[o7];rw[show U1 (pS T E N i nd) 1=_ from Le i 1 nd h0.2.1 h0.2.2 l9,o9,KX,o9];simp only[e1,e2,hlit,J8 (show k≠0 by omega),af,o7];rw[o9];rw[show I8 .i64 (i:Int) 2=((i+2:Nat):Int) by rw[cZ lm];omega,bI lm];rw[show G7 (T,((i+2:Nat):Int),E,N,nd,0,0) k (0 -u)=_ from oh (i:=i+2) l9 k (0 -u),o9,Int.zero_sub];rfl
end
end
section
structure NmD (N:D9):Prop where
 id:NmI N
 le:N.1.length<=1000/\N.2.1.length<=1000/\N.2.2.1.length<=1000/\N.2.2.2.1.length<=1000/\N.2.2.2.2.length<=1000
 e:∀(j:Nat) e,N.1[j]? =some e->(∀x∈N.1.take j,x.1≠e.1)/\e.2.length<=1000/\∀(k:Nat) v,e.2[k]? =some v->∀x∈e.2.take k,x≠v
 t:∀(j:Nat) w,N.2.1[j]? =some w->∀x∈N.2.1.take j,x≠w
 i:∀(j:Nat) w,N.2.2.1[j]? =some w->∀x∈N.2.2.1.take j,x≠w
 d:∀(j:Nat) w,N.2.2.2.1[j]? =some w->(∀x∈N.2.2.2.1.take j,x≠w)/\∀x∈N.2.2.1,x≠w
 m:∀(j:Nat) w,N.2.2.2.2[j]? =some w->∀x∈N.2.2.2.2.take j,x≠w
theorem BZ{α:Type}{l:List α}{i:Int}{x:α}(h:P8 l i=some x):l[i.toNat]? =some x/\((i.toNat:Nat):Int)=i/\x∈l:=by obtain⟨h0,h1,h2,h3⟩:=ng h;exact⟨h3,l9,h2⟩
variable {m:Nat}{R:List V5}{v:Int}{k:Int}{W:List V5}{n:Int}{w:c5v}{P:List (Int×Int)}
section
variable {T:List bD} {E:Int} {N:D9}
theorem b9o{k u:Int}(hk:k=2\/k=3\/k=4):AOk T E N (m+1) [(k,w,u)] [(k,u)] R:=by
 intro i nd hAt hn;have h0:At3 T i ((k,w,u)::R):=hAt;have hl:=CE hAt;simp only[A8,F6]at hl hn;have hs:=Aq h0;have e1:(pk T i).1=k:=congrArg (λx:V5=>x.1) hs;have e2:(pk T i).2.2.1=u:=congrArg (λx:V5=>x.2.2) hs;have hlit:Vt k=k:=by rcases hk with rfl|rfl|rfl<;>rfl
 rw[b3n];unfold gY;rw[II h0,o9,KX,o9];simp only[e1,e2,hlit,J8 (show k≠0 by omega),af,o7];rw[o9,bY l9,show G7 (T,((i+1:Nat):Int),E,N,nd,0,0) k u=_ from oh (i:=i+1) l9 k u,o9];rfl
theorem b6b{u:Int} :AOk T E N (m+1) [(5,w,u)] [(5,u)] R:=by intro i nd hAt hn;have h0:At3 T i ((5,w,u)::R):=hAt;have hl:=CE hAt;simp only[A8,F6]at hl hn;have hs:=Aq h0;have e1:(pk T i).1=5:=congrArg (λx:V5=>x.1) hs;have e2:(pk T i).2.2.1=u:=congrArg (λx:V5=>x.2.2) hs;rw[b3n];unfold gY;rw[II h0,o9,KX,o9];simp only[e1,e2,show Vt 5=0 from rfl,O0 (rfl:(0:Int)=0),O0 (rfl:(5:Int)=5),F5,o6,o7];rw[bY l9,show G7 (T,((i+1:Nat):Int),E,N,nd,0,0) 5 u=_ from oh (i:=i+1) l9 5 u,o9];rfl
theorem Ui{i:Nat}{nd:List (Int×Int)}(h0:At3 T i ((1,w,n)::(W++R))):(o8 (m+1)).2.2.2.1 (pS T E N i nd)=
  (l7 (seq w [116,114,117,101]) (G7 (pS T E N (i+1) nd) 1 1)
   (l7 (seq w [102,97,108,115,101]) (G7 (pS T E N (i+1) nd) 1 0)
    (l7 (seq w [116,111,100,97,121]) (G7 (pS T E N (i+1) nd) 9 0)
     (o5 (lY w) λ(x_3:Int)=>
           l7 (I5 (D8 x_3 0))
            (o5 (O9 (pS T E N (i+1) nd) [40])
             λ(x_4:Bool×D6)=>
             l7 x_4.1
              (o5 ((o8 m).2.2.2.2 x_4.2 x_3) λ(x:Bool×D6)=>
                l7 x.1 (o5 (O9 x.2 [41]) λ(x:Bool×D6)=>some x)
                 (some (false,x.2)))
              (some (false,x_4.2)))
            (dJ (pS T E N i nd)))))):=by
 have hi:=MP h0;have hT:=h0.2.1;have hs:=Aq h0;have e1:(pk T i).1=1:=congrArg (λx:V5=>x.1) hs;have e2:(pk T i).2.1=w:=congrArg (λx:V5=>x.2.1) hs;rw[b3n];unfold gY;rw[II h0,o9,KX,o9];simp only[e1,e2,show Vt 1=0 from rfl,O0 (rfl:(0:Int)=0),F5,o6,J8 (show(1:Int)≠5 by omega)];rw[Ja h0,o9,show(l7 (D8 (hd3 ((1,w,n)::(W++R):List V5)).1 7) (seq (hd3 ((1,w,n)::(W++R):List V5)).2.1 [40]) false)=false from rfl];simp only[o6,O0 (rfl:(1:Int)=1),F5];rw[bY l9];simp only[vC];cases hc:lY w<;>rfl
theorem b6d :AOk T E N (m+1) [(1,[116,114,117,101],n)] [(1,1)] R:=by intro i nd hAt hn;simp only[A8,F6]at hn;rw[Ui (W:=[]) hAt,show seq ([116,114,117,101]:c5v) [116,114,117,101]=true from rfl,o7,oh l9];rfl
theorem b2e :AOk T E N (m+1) [(1,[102,97,108,115,101],n)] [(1,0)] R:=by intro i nd hAt hn;simp only[A8,F6]at hn;rw[Ui (W:=[]) hAt,show seq ([102,97,108,115,101]:c5v) [116,114,117,101]=false from rfl,o6,show seq ([102,97,108,115,101]:c5v) [102,97,108,115,101]=true from rfl,o7,oh l9];rfl
theorem b2g :AOk T E N (m+1) [(1,[116,111,100,97,121],n)] [(9,0)] R:=by intro i nd hAt hn;simp only[A8,F6]at hn;rw[Ui (W:=[]) hAt,show seq ([116,111,100,97,121]:c5v) [116,114,117,101]=false from rfl,o6,show seq ([116,111,100,97,121]:c5v) [102,97,108,115,101]=false from rfl,o6,show seq ([116,111,100,97,121]:c5v) [116,111,100,97,121]=true from rfl,o7,oh l9];rfl
theorem YW{i:Nat}{nd:List (Int×Int)}(h0:At3 T i ((1,w,n)::(W++R)))(hw:gq w=true):(o8 (m+1)).2.2.2.1 (pS T E N i nd)=dJ (pS T E N i nd):=by rw[Ui h0,a3c hw (by decide+kernel),o6,a3c hw (by decide+kernel),o6,a3c hw (by decide+kernel),o6,a6y hw,o9,O0 rfl];rfl
theorem c4S(hN:NmD N)(hv:P8 N.2.2.1 v=some (gtN N.2.2.1 v))(hR:FI R):AOk T E N (m+1) [(1,gtN N.2.2.1 v,0)] [(7,v)] R:=by intro i nd hAt hn;simp only[A8,F6]at hn;obtain⟨h1,h2,h3⟩:=BZ hv;have hw:=hN.id.i _ h3;rw[YW (W:=[]) hAt hw,b2U l9 hAt hR hw (by have:=hN.le;omega) ⟨h1,hN.i _ _ h1⟩,h2];rfl
theorem b9n(hN:NmD N)(hv:P8 N.2.2.2.1 v=some (gtN N.2.2.2.1 v))(hR:FI R):AOk T E N (m+1) [(1,gtN N.2.2.2.1 v,0)] [(8,v)] R:=by intro i nd hAt hn;simp only[A8,F6]at hn;obtain⟨h1,h2,h3⟩:=BZ hv;have hw:=hN.id.d _ h3;rw[YW (W:=[]) hAt hw,a9o l9 hAt hR hw (by have:=hN.le;omega) (by have:=hN.le;omega) (hN.d _ _ h1).2 ⟨h1,(hN.d _ _ h1).1⟩,h2];rfl
theorem b6c(hN:NmD N)(hI:fP v)(hz:flS (6,v) N=0) :AOk T E N (m+1) [(1,((P8 N.1 (dh .i64 v 16)).getD ([],[])).1,0),(7,[58],0),(1,gtN ((P8 N.1 (dh .i64 v 16)).getD ([],[])).2 (iE v 16),0)] [(6,v)] R:=by intro i nd hAt hn;simp only[A8,F6]at hn;obtain⟨e,h1,h2,q1,q2,q3,q4⟩:=Zq hI hz;rw[h1]at hAt ⊢;simp only[X8]at hAt ⊢;obtain⟨a1,a2,a3⟩:=BZ h1;obtain⟨b1,b2,b3⟩:=BZ h2;obtain⟨c1,c2,c3⟩:=hN.e _ _ a1;have hw:=(hN.id.e _ a3).1;have hv:=(hN.id.e _ a3).2 _ b3;rw[YW (W:=[(7,[58],0),(1,gtN e.2 (iE v 16),0)]) hAt hw,a7c l9 hAt hw hv (by have:=hN.le;omega) a1 rfl c1 l9 ⟨b1,c3 _ _ b1⟩,a2,b2,←q4];rfl
def Ux(k:Int):Prop:=k=14\/k=15\/k=16\/k=17\/k=18\/k=27\/k=28\/k=29\/k=30\/k=31\/k=32\/k=33\/k=34\/k=35\/k=36\/k=37\/k=38\/k=39
theorem YV(hk:Ux k)(h:COk T E N m k W P ((7,[41],0)::R)):AOk T E N (m+1) ((1,dC k,0)::(7,[40],0)::(W++[(7,[41],0)])) P R:=by
 intro i nd hAt hn;have h0:At3 T i ((1,dC k,0)::((7,[40],0)::(W++[(7,[41],0)])++R)):=hAt;have h2:At3 T (i+1) ((7,[40],0)::(W++((7,[41],0)::R))):=by have:=eU h0;have e:((7,[40],0)::(W++[(7,[41],0)])++R)=((7,[40],0):V5)::(W++((7,[41],0)::R)):=x8;rw[←e];exact this
 have hne:seq (dC k) [116,114,117,101]=false/\seq (dC k) [102,97,108,115,101]=false/\seq (dC k) [116,111,100,97,121]=false/\D8 k 0=false:=by rcases hk with rfl|rfl|rfl|rfl|rfl|rfl|rfl|rfl|rfl|rfl|rfl|rfl|rfl|rfl|rfl|rfl|rfl|rfl<;>exact⟨rfl,rfl,rfl,rfl⟩
 rw[Ui h0,hne.1,hne.2.1,hne.2.2.1,o6,o6,o6,a6x hk,o9,hne.2.2.2,af,o7];rw[xJ h2,o9];simp only[o7];rw[h (i+1+1) nd (eU h2) hn,o9];simp only[o7];rw[xJ (vZ (eU h2)),o9];have e3:i+1+1+W.length+1=i+((1,dC k,0)::(7,[40],0)::(W++[(7,[41],0)]):List V5).length:=by simp;omega
 rw[e3]
theorem b2n :COk T E N (m+1) 35 [] [(35,0)] R:=by intro i nd hAt hn;simp only[A8,F6]at hn;rw[a3w];unfold bn;simp (disch:=decide) only[O0,o7];rw[oh l9,o9];rfl
theorem b9x(hN:NmD N)(hk:k=36\/k=37\/k=38\/k=39)(hv:P8 N.2.2.2.2 v=some (gtN N.2.2.2.2 v)) :COk T E N (m+1) k [(1,gtN N.2.2.2.2 v,0)] [(k,v)] R:=by
 intro i nd hAt hn;simp only[A8,F6]at hn;obtain⟨h1,h2,h3⟩:=BZ hv;have hf:=Oz (E:=E) (N:=N) (nd:=nd) hAt (hN.id.m _ h3) (l:=N.2.2.2.2) (by have:=hN.le;omega) ⟨h1,hN.m _ _ h1⟩;rw[h2]at hf;rw[a3w];unfold bn;have e:(l7 (D8 k 36) (some (D8 k 36)) (l7 (D8 k 37) (some (D8 k 37)) (l7 (D8 k 38) (some (D8 k 38)) (some (D8 k 39)))))=some true:=by rcases hk with rfl|rfl|rfl|rfl<;>rfl
 rw[J8 (show k≠35 by omega),o6,e];simp only[o9,o7];rw[hf,o9];simp only[o7];rw[oh l9,o9];rfl
theorem b9z(hN:NmD N)(hv:P8 N.2.1 v=some (gtN N.2.1 v))(h:EOk T E N m W P R):COk T E N (m+1) 33 ((1,gtN N.2.1 v,0)::(7,[44],0)::W) (P++[(33,v)]) R:=by
 intro i nd hAt hn;simp only[A7,A8,F6]at hn;obtain⟨h1,h2,h3⟩:=BZ hv;have h0:At3 T i ((1,gtN N.2.1 v,0)::(7,[44],0)::(W++R)):=hAt;have hf:=Oz (E:=E) (N:=N) (nd:=nd) h0 (hN.id.t _ h3) (l:=N.2.1) (by have:=hN.le;omega) ⟨h1,hN.t _ _ h1⟩;rw[h2]at hf;rw[a3w];unfold bn;simp (disch:=decide) only[O0,J8,o7,o6,o9];rw[hf,o9];simp only[F5,o6];rw[xJ (eU h0),o9];simp only[F5,o6];rw[h (i+1+1) nd (eU (eU h0)) l9,o9];simp only[F5,o6];rw[oh H7,o9,o9,lU];have e3:i+1+1+W.length=i+((1,gtN N.2.1 v,0)::(7,[44],0)::W:List V5).length:=by simp;omega
 rw[e3,E8]
theorem b6k(hN:NmD N)(hI:fP v)(hz:flS (34,v) N=0)(h:EOk T E N m W P ((7,[44],0)::(1,jT (iE v 8),0)::R)):
  COk T E N (m+1) 34 ((1,gtN N.2.1 (dh .i64 v 8),0)::(7,[44],0)::(W++[(7,[44],0),(1,jT (iE v 8),0)])) (P++[(34,v)]) R:=by
 intro i nd hAt hn;simp only[A7,A8,F6]at hn;obtain⟨hv,g1,g2⟩:=a4W hI hz;obtain⟨h1,h2,h3⟩:=BZ hv;have h0:At3 T i ((1,gtN N.2.1 (dh .i64 v 8),0)::(7,[44],0)::(W++((7,[44],0)::(1,jT (iE v 8),0)::R))):=by have e:((1,gtN N.2.1 (dh .i64 v 8),0)::(7,[44],0)::(W++[(7,[44],0),(1,jT (iE v 8),0)]))++R=((1,gtN N.2.1 (dh .i64 v 8),0):V5)::(7,[44],0)::(W++((7,[44],0)::(1,jT (iE v 8),0)::R)):=x8;rw[←e];exact hAt
 have hf:=Oz (E:=E) (N:=N) (nd:=nd) h0 (hN.id.t _ h3) (l:=N.2.1) (by have:=hN.le;omega) ⟨h1,hN.t _ _ h1⟩;rw[h2]at hf;have hq:v=8*dh .i64 v 8+iE v 8:=by
  have hv0:0<=v:=by
   unfold flS at hz;rw[show U6 (34,v) N=l7 (J4 v 0) (some 6) (l7 (U7 (x9 N.2.1) (dh .i64 v 8)) (some 6) (l7 (J4 5 (iE v 8)) (some 3) (some 0)))from rfl]at hz;rcases Int.lt_or_le v 0 with h|h
   .rw[dE h]at hz;cases hz
   .exact h
  rw[Pj hI 8 (.inl rfl),uk hv0,BD hv0];omega
 have hql:=(ng hv).2.1;have hle:=hN.le;unfold x9 at hql;have h4:=vZ (eU (eU h0));rw[a3w];unfold bn;simp (disch:=decide) only[O0,J8,o7,o6,o9];rw[hf,o9];simp only[F5,o6];rw[xJ (eU h0),o9];simp only[F5,o6];rw[h (i+1+1) nd (eU (eU h0)) l9,o9];simp only[F5,o6];rw[xJ h4,o9];simp only[F5,o6];rw[a5u (eU h4) ⟨g1,g2⟩,o9];simp only[o7];rw[Jv lm,cZ lm,←hq,oh H7,o9,o9,lU];have e3:i+1+1+W.length+1+1=i+((1,gtN N.2.1 (dh .i64 v 8),0)::(7,[44],0)::(W++[(7,[44],0),(1,jT (iE v 8),0)]):List V5).length:=by simp;omega
 rw[e3,E8]
theorem b4E(hk:k=31\/k=32)(h:EOk T E N m W P R):COk T E N (m+1) k W (P++[(k,0)]) R:=by
 intro i nd hAt hn;simp only[A7,A8,F6]at hn;rw[a3w];unfold bn;rcases hk with rfl|rfl
 all_goals
  simp (disch:=decide) only[O0,J8,o7,o6,o9,ae];rw[h i nd hAt l9,o9];simp only[F5,o6];rw[oh H7,o9,E8]
theorem b9A(hk:k=17\/k=18\/k=27\/k=28\/k=29\/k=30){A B:List V5}{PA PB:List (Int×Int)}(hA:EOk T E N m A PA ((7,[44],0)::(B++R)))(hB:EOk T E N m B PB R):COk T E N (m+1) k (A++(7,[44],0)::B) (PA++PB++[(k,0)]) R:=by
 intro i nd hAt hn;simp only[A7,A8,F6]at hn;have h0:At3 T i (A++((7,[44],0)::(B++R))):=by rw[E8]at hAt;exact hAt
 have e3:i+A.length+1+B.length=i+(A++(7,[44],0)::B:List V5).length:=by simp;omega
 have e4:nd++PA++PB++[(k,0)]=nd++(PA++PB++[(k,0)]):=x8;rw[a3w];unfold bn;rcases hk with rfl|rfl|rfl|rfl|rfl|rfl
 all_goals
  simp (disch:=decide) only[O0,J8,o7,o6,o9,ae];rw[hA i nd h0 l9,o9];simp only[F5,o6];rw[xJ (vZ h0),o9];simp only[F5,o6];rw[hB (i+A.length+1) (nd++PA) (eU (vZ h0)) H7,o9];simp only[F5,o6];rw[oh H7,o9,e3,e4]
theorem b9y(hk:k=14\/k=15\/k=16)(hv:0<=v/\v<=5){A B:List V5}{PA PB:List (Int×Int)} (hA:EOk T E N m A PA ((7,[44],0)::(B++((7,[44],0)::(1,jT v,0)::R)))) (hB:EOk T E N m B PB ((7,[44],0)::(1,jT v,0)::R)):
  COk T E N (m+1) k (A++(7,[44],0)::(B++[(7,[44],0),(1,jT v,0)])) (PA++PB++[(k,v)]) R:=by
 intro i nd hAt hn;simp only[A7,A8,F6]at hn;have h0:At3 T i (A++((7,[44],0)::(B++((7,[44],0)::(1,jT v,0)::R)))):=by have e:(A++(7,[44],0)::(B++[(7,[44],0),(1,jT v,0)]))++R=A++((7,[44],0)::(B++((7,[44],0)::(1,jT v,0)::R)):List V5):=x8;rw[←e];exact hAt
 have h4:=vZ (eU (vZ h0));have e3:i+A.length+1+B.length+1+1=i+(A++(7,[44],0)::(B++[(7,[44],0),(1,jT v,0)]):List V5).length:=by simp;omega
 have e4:nd++PA++PB++[(k,v)]=nd++(PA++PB++[(k,v)]):=x8;rw[a3w];unfold bn;rcases hk with rfl|rfl|rfl
 all_goals
  simp (disch:=decide) only[O0,J8,o7,o6,o9,ae];rw[hA i nd h0 l9,o9];simp only[F5,o6];rw[xJ (vZ h0),o9];simp only[F5,o6];rw[hB (i+A.length+1) (nd++PA) (eU (vZ h0)) H7,o9];simp only[F5,o6];rw[xJ h4,o9];simp only[F5,o6];rw[a5u (eU h4) hv,o9];simp only[o7];rw[oh H7,o9,e3,e4]
end
end
section
def gT(c:Int):Int:=l7 (U7 6 c) 5 (l7 (D8 c 3) 2 c)
def tkT(N:D9)(t:XT):List V5:=xg (itT N t)
def tkW(N:D9)(t:XT)(c:Int):List V5:=xg (wiI (itT N t) (txT N t).2 c)
theorem WL(N:D9)(t:XT)(c:Int):tkW N t c=l7 (J4 (txT N t).2 c) ((7,[40],0)::(tkT N t++[(7,[41],0)])) (tkT N t):=by
 unfold tkW tkT wiI;cases J4 (txT N t).2 c
 .rfl
 .simp only[o7];rw[fJ,fJ];rfl
structure TrOk (T:List bD) (E:Int) (N:D9) (t:XT):Prop where
 ne:tkT N t≠[]
 nif:1<=(txT N t).2->¬((hd3 (tkT N t)).1=1/\(hd3 (tkT N t)).2.1=[105,102])
 neg:6<=(txT N t).2->AX t.node.1=false->Vt (hd3 (tkT N t)).1=0
 U:6<=(txT N t).2->∀R,FI R->∀m,10*t.size<=m->UOk T E N m (tkT N t) t.post R
 L:(txT N t).2<=5->∀R,FK R ((txT N t).2+1)->∀c,1<=c->c<=(txT N t).2->∀m,10*t.size<=m->LOk T E N m c (tkT N t) t.post (gT (txT N t).2) R
 E:∀R,FK R 1->∀m,10*t.size+2<=m->EOk T E N m (tkT N t) t.post R
variable {t:XT}{R:List V5}{m:Nat}{c:Int}
section
variable {T:List bD} {E:Int} {N:D9}
theorem NM{c d:Int}(h:FK R c)(hcd:c<=d):FK R d:=by
 rcases h with h|⟨k,h1,h2,h3⟩
 .exact .inl h
 .exact .inr ⟨k,h1,h2,l9⟩
theorem PH(R:List V5)(c:Int):FK ((7,[41],0)::R) c:=.inl (.inr (.inl rfl))
theorem TV(R:List V5)(c:Int):FK ((7,[44],0)::R) c:=.inl (.inr (.inr (.inl rfl)))
theorem c5p(h:TrOk T E N t)(h1:1<=c)(h2:c<=(txT N t).2)(hR:FI R)(hR2:(txT N t).2<=5->FK R ((txT N t).2+1))(hm:10*t.size<=m):LOk T E N m c (tkT N t) t.post (gT (txT N t).2) R:=by
 by_cases h6:6<=(txT N t).2
 .have:gT (txT N t).2=5:=by unfold gT;rw[Y7 h6];rfl
  rw[this];exact a4v c (h.U h6 R hR m hm)
 .exact h.L l9 R (hR2 l9) c h1 h2 m hm
theorem c4H(ne:tkT N t≠[])(nif:¬((hd3 (tkT N t)).1=1/\(hd3 (tkT N t)).2.1=[105,102]))(hc:1<=(txT N t).2)(hR:FK R 1)(hm:2<=m)(hL:LOk T E N (m -2) 1 (tkT N t) t.post (gT (txT N t).2) R):EOk T E N m (tkT N t) t.post R:=by obtain⟨m,rfl⟩:∃q,m=q+2:=⟨m -2,l9⟩;exact b6h (a8W hL hR) ne nif
theorem ZU(h:TrOk T E N t)(hm:10*t.size+4<=m):UOk T E N m ((7,[40],0)::(tkT N t++[(7,[41],0)])) t.post R:=by obtain⟨m,rfl⟩:∃q,m=q+2:=⟨m -2,l9⟩;exact a8e (b2f (h.E _ (PH R 1) m l9)) x8 (by rintro⟨-,h⟩;cases h) (by rintro⟨h,-⟩;cases h)
theorem c4Q(h:TrOk T E N t)(hR:FI R)(hm:10*t.size+4<=m):UOk T E N m (tkW N t 6) t.post R:=by
 rw[WL];by_cases h6:6<=(txT N t).2
 .rw[Y0 h6,o6];exact h.U h6 R hR m l9
 .rw[dE l9,o7];exact ZU h hm
theorem c4P(h:TrOk T E N t){c c' :Int}(h1:1<=c)(h2:c<=c')(hR:FI R)(hR2:FK R (c' +1))(hm:10*t.size+4<=m):∃g,LOk T E N m c (tkW N t c') t.post g R/\(g=5\/(c' <=(txT N t).2/\(txT N t).2<=5/\g=gT (txT N t).2)):=by
 rw[WL];by_cases h6:c' <=(txT N t).2
 .rw[Y0 h6,o6];refine⟨_,c5p h h1 l9 hR (λ_=>NM hR2 l9) l9,?_⟩;by_cases h7:6<=(txT N t).2
  .left;unfold gT;rw[Y7 h7];rfl
  .right;exact⟨h6,l9,rfl⟩
 .rw[dE l9,o7];exact⟨5,a4v c (ZU h hm),.inl rfl⟩
theorem c5t(h:TrOk T E N t)(h1:1<=c)(hR:FK R c)(hm:10*t.size+5<=m):b2c T E N m c (tkW N t c) t.post R:=by obtain⟨m,rfl⟩:∃q,m=q+1:=⟨m -1,l9⟩;obtain⟨g,hg,-⟩:=c4P h h1 (xy c) (a5H hR) (NM hR l9) (m:=m) l9;exact a8W hg hR
theorem b1P(t:XT)(h:TrOk T E N t)(c:Int):tkW N t c≠[]:=by
 rw[WL];cases J4 (txT N t).2 c
 .exact h.ne
 .simp[l7]
theorem TY(ne:tkT N t≠[])(nif:¬((hd3 (tkT N t)).1=1/\(hd3 (tkT N t)).2.1=[105,102]))(hc:6<=(txT N t).2)(neg:AX t.node.1=false->Vt (hd3 (tkT N t)).1=0)(U:∀R,FI R->∀m,10*t.size<=m->UOk T E N m (tkT N t) t.post R):TrOk T E N t:=by
 have hg:gT (txT N t).2=5:=by unfold gT;rw[Y7 hc];rfl
 refine⟨ne,λ_=>nif,λ_=>neg,λ_=>U,λh=>by omega,λR hR m hm=>c4H ne nif l9 hR l9 ?_⟩;rw[hg];exact a4v 1 (U R (a5H hR) (m -2) l9)
theorem CV(ne:tkT N t≠[])(nif:¬((hd3 (tkT N t)).1=1/\(hd3 (tkT N t)).2.1=[105,102]))(n1:¬((hd3 (tkT N t)).1=7/\(hd3 (tkT N t)).2.1=[45]))(n2:¬((hd3 (tkT N t)).1=1/\(hd3 (tkT N t)).2.1=[110,111,116]))(hc:6<=(txT N t).2)(neg:AX t.node.1=false->Vt (hd3 (tkT N t)).1=0)
  (A:∀R,FI R->∀m,10*t.size<=m+1->AOk T E N m (tkT N t) t.post R):TrOk T E N t:=by
 refine TY ne nif hc neg (λR hR m hm=>?_);have hp:=t.size_pos;obtain⟨m,rfl⟩:∃q,m=q+1:=⟨m -1,l9⟩;exact a8e (A R hR m l9) ne n1 n2
theorem b4N{w:c5v}{n:Int}{L:List V5}(hw:gq w=true):¬((hd3 ((1,w,n)::L)).1=1/\(hd3 ((1,w,n)::L)).2.1=[105,102])/\¬((hd3 ((1,w,n)::L)).1=7/\(hd3 ((1,w,n)::L)).2.1=[45])/\¬((hd3 ((1,w,n)::L)).1=1/\(hd3 ((1,w,n)::L)).2.1=[110,111,116]):=by
 refine⟨?_,?_,?_⟩
 .rintro⟨-,h⟩;exact a5g hw (by decide+kernel) h
 .rintro⟨h,-⟩;exact absurd (show(1:Int)=7 from h) C9
 .rintro⟨-,h⟩;exact a5g hw (by decide+kernel) h
theorem b4p(hN:NmD N){n:Int×Int}(ha:arF n.1=0)(hI:fP n.2)(hz:flS n N=0):TrOk T E N (.l0 n):=by
 obtain⟨k,v⟩:=n;have ident:∀w:c5v,tkT N (.l0 (k,v))=[(1,w,0)]->gq w=true->6<=(txT N (.l0 (k,v))).2->(∀R,FI R->∀m,AOk T E N (m+1) [(1,w,0)] [(k,v)] R)->TrOk T E N (.l0 (k,v)):=by intro w e hw hc hA;obtain⟨i1,i2,i3⟩:=b4N (n:=0) (L:=[]) hw;refine CV (by rw[e];simp) (by rw[e];exact i1) (by rw[e];exact i2) (by rw[e];exact i3) hc (λ_=>by rw[e];rfl) (λR hR m hm=>?_);simp only[XT.size]at hm;obtain⟨m,rfl⟩:∃q,m=q+1:=⟨m -1,l9⟩;rw[e];exact hA R hR m
 have word:∀w:c5v,tkT N (.l0 (k,v))=[(1,w,0)]->(w=[116,114,117,101]\/w=[102,97,108,115,101]\/w=[116,111,100,97,121])->6<=(txT N (.l0 (k,v))).2->(∀R m,AOk T E N (m+1) [(1,w,0)] [(k,v)] R)->TrOk T E N (.l0 (k,v)):=by
  intro w e hw hc hA;have hh:hd3 (tkT N (.l0 (k,v)))=(1,w,0):=by rw[e];rfl
  refine CV (by rw[e];simp) (by rw[hh];rcases hw with rfl|rfl|rfl<;>decide) (by rw[hh];rcases hw with rfl|rfl|rfl<;>decide) (by rw[hh];rcases hw with rfl|rfl|rfl<;>decide) hc (λ_=>by rw[hh];rfl) (λR hR m hm=>?_);simp only[XT.size]at hm;obtain⟨m,rfl⟩:∃q,m=q+1:=⟨m -1,l9⟩;rw[e];exact hA R m
 have num:(k=2\/k=3\/k=4)->-1000000000000000000<=v/\v<=1000000000000000000->TrOk T E N (.l0 (k,v)):=by
  intro hk hb;have e0:tkT N (.l0 (k,v))=l7 (J4 v 0) [(7,[45],0),(k,IV k v.natAbs,(v.natAbs:Int))] [(k,IV k v.natAbs,(v.natAbs:Int))]:=by
   have:itT N (.l0 (k,v))=OJ k v:=by show Gg (k,v) N=_;unfold Gg;rw[Y7 (show k<=5 by omega)];rfl
   unfold tkT;rw[this];unfold OJ;rw[J8 (show k≠1 by omega),J8 (show k≠5 by omega)];cases J4 v 0<;>rfl
  have hc:6<=(txT N (.l0 (k,v))).2:=by show 6<=(vg (k,v) N).2;unfold vg;rw[Y7 (show k<=5 by omega),o7];cases J4 v 0<;>simp[l7]
  have hnum:AX k=true:=by rcases hk with rfl|rfl|rfl<;>rfl
  by_cases h0:v<0
  .rw[dE h0,o7]at e0;refine TY (by rw[e0];simp) (by rw[e0];rintro⟨h,-⟩;exact absurd (show(7:Int)=1 from h) C9) hc (λh=>by rw[show(XT.l0 (k,v)).node.1=k from rfl,hnum]at h;cases h) (λR hR m hm=>?_);simp only[XT.size]at hm;obtain⟨m,rfl⟩:∃q,m=q+1:=⟨m -1,l9⟩;rw[e0];have:=b1U (T:=T) (E:=E) (N:=N) (m:=m) (w:=IV k v.natAbs) (u:=(v.natAbs:Int)) (R:=R) hk l9;rw[show(-(v.natAbs:Int))=v by omega]at this;exact this
  .rw[Y0 l9,o6]at e0;have hh:hd3 (tkT N (.l0 (k,v)))=(k,IV k v.natAbs,(v.natAbs:Int)):=by rw[e0];rfl
   refine CV (by rw[e0];simp) (by rw[hh];rintro⟨h,-⟩;simp only at h;omega) (by rw[hh];rintro⟨h,-⟩;simp only at h;omega) (by rw[hh];rintro⟨h,-⟩;simp only at h;omega) hc (λh=>by rw[show(XT.l0 (k,v)).node.1=k from rfl,hnum]at h;cases h) (λR hR m hm=>?_);simp only[XT.size]at hm;obtain⟨m,rfl⟩:∃q,m=q+1:=⟨m -1,l9⟩;rw[e0];have:=b9o (T:=T) (E:=E) (N:=N) (m:=m) (w:=IV k v.natAbs) (u:=(v.natAbs:Int)) (R:=R) hk;rw[show((v.natAbs:Nat):Int)=v by omega]at this ⊢;exact this
 have call:(k=36\/k=37\/k=38\/k=39)->TrOk T E N (.l0 (k,v)):=by
  intro hk;have hg:P8 N.2.2.2.2 v=some (gtN N.2.2.2.2 v):=by rcases hk with rfl|rfl|rfl|rfl<;>exact ED rfl hz
  have e:tkT N (.l0 (k,v))=(1,dC k,0)::(7,[40],0)::([(1,gtN N.2.2.2.2 v,0)]++[(7,[41],0)]):=by rcases hk with rfl|rfl|rfl|rfl<;>rfl
  have hc:6<=(txT N (.l0 (k,v))).2:=by rcases hk with rfl|rfl|rfl|rfl<;>exact(show(6:Int)<=7 by decide)
  have hh:hd3 (tkT N (.l0 (k,v)))=(1,dC k,0):=by rw[e];rfl
  refine CV (by rw[e];simp) (by rw[hh];rcases hk with rfl|rfl|rfl|rfl<;>decide) (by rw[hh];rcases hk with rfl|rfl|rfl|rfl<;>decide) (by rw[hh];rcases hk with rfl|rfl|rfl|rfl<;>decide) hc (λ_=>by rw[hh];rfl) (λR hR m hm=>?_);simp only[XT.size]at hm;obtain⟨m,rfl⟩:∃q,m=q+2:=⟨m -2,l9⟩;rw[e];exact YV (by unfold Ux;omega) (b9x hN hk hg)
 rcases ar0 ha with rfl|rfl|rfl|rfl|rfl|rfl|rfl|rfl|rfl|rfl|rfl|rfl|rfl|rfl
 .have hb:=DX (k:=1) l9 rfl hz;rcases(show v=0\/v=1 by omega)with rfl|rfl
  .exact word [102,97,108,115,101] rfl x8 (show(6:Int)<=7 by decide) (λR m=>b2e)
  .exact word [116,114,117,101] rfl x8 (show(6:Int)<=7 by decide) (λR m=>b6d)
 .have hb:=DX (k:=2) l9 rfl hz;exact num l9 l9
 .have hb:=DX (k:=3) l9 rfl hz;exact num l9 l9
 .have hb:=DX (k:=4) l9 rfl hz;exact num l9 l9
 .have hb:=DX (k:=5) l9 rfl hz;have e0:tkT N (.l0 (5,v))=[(5,aY v,v)]:=rfl;have hh:hd3 (tkT N (.l0 (5,v)))=(5,aY v,v):=rfl;have hc:6<=(txT N (.l0 (5,v))).2:=by
   show 6<=(l7 (J4 v 0) 6 7:Int);cases J4 v 0<;>simp[l7]
  refine CV (by rw[e0];simp) (by rw[hh];rintro⟨h,-⟩;exact absurd (show(5:Int)=1 from h) C9) (by rw[hh];rintro⟨h,-⟩;exact absurd (show(5:Int)=7 from h) C9) (by rw[hh];rintro⟨h,-⟩;exact absurd (show(5:Int)=1 from h) C9) hc (λ_=>by rw[hh];rfl) (λR hR m hm=>?_);simp only[XT.size]at hm;obtain⟨m,rfl⟩:∃q,m=q+1:=⟨m -1,l9⟩;rw[e0];exact b6b
 .obtain⟨e,h1,h2,q1,q2,q3,q4⟩:=Zq hI hz;have ee:=hN.id.e e (wE h1);have e0:tkT N (.l0 (6,v))=[(1,((P8 N.1 (dh .i64 v 16)).getD ([],[])).1,0),(7,[58],0),(1,gtN ((P8 N.1 (dh .i64 v 16)).getD ([],[])).2 (iE v 16),0)]:=rfl;have hw:gq ((P8 N.1 (dh .i64 v 16)).getD ([],[])).1=true:=by rw[h1];exact ee.1
  obtain⟨i1,i2,i3⟩:=b4N (n:=0) (L:=[(7,[58],0),(1,gtN ((P8 N.1 (dh .i64 v 16)).getD ([],[])).2 (iE v 16),0)]) hw;refine CV (by rw[e0];simp) (by rw[e0];exact i1) (by rw[e0];exact i2) (by rw[e0];exact i3) (show(6:Int)<=7 by decide) (λ_=>by rw[e0];rfl) (λR hR m hm=>?_);simp only[XT.size]at hm;obtain⟨m,rfl⟩:∃q,m=q+1:=⟨m -1,l9⟩;rw[e0];exact b6c hN hI hz
 .have hg:=ED (n:=(7,v)) (l:=N.2.2.1) rfl hz;exact ident (gtN N.2.2.1 v) rfl (hN.id.i _ (wE hg)) (show(6:Int)<=7 by decide) (λR hR m=>c4S hN hg hR)
 .have hg:=ED (n:=(8,v)) (l:=N.2.2.2.1) rfl hz;exact ident (gtN N.2.2.2.1 v) rfl (hN.id.d _ (wE hg)) (show(6:Int)<=7 by decide) (λR hR m=>b9n hN hg hR)
 .have hv:v=0:=by
   unfold flS at hz;rw[show U6 (9,v) N=l7 (I5 (D8 v 0)) (some 2) (some 0)from rfl]at hz;by_cases h:v=0
   .exact h
   .rw[J8 h]at hz;cases hz
  subst hv;exact word [116,111,100,97,121] rfl x8 (show(6:Int)<=7 by decide) (λR m=>b2g)
 .have hv:v=0:=by
   unfold flS at hz;rw[show U6 (35,v) N=l7 (I5 (D8 v 0)) (some 2) (some 0)from rfl]at hz;by_cases h:v=0
   .exact h
   .rw[J8 h]at hz;cases hz
  subst hv;have e:tkT N (.l0 (35,0))=(1,dC 35,0)::(7,[40],0)::([]++[(7,[41],0)]):=rfl;have hh:hd3 (tkT N (.l0 (35,0)))=(1,dC 35,0):=rfl;refine CV (by rw[e];simp) (by rw[hh];decide) (by rw[hh];decide) (by rw[hh];decide) (show(6:Int)<=7 by decide) (λ_=>by rw[hh];rfl) (λR hR m hm=>?_);simp only[XT.size]at hm;obtain⟨m,rfl⟩:∃q,m=q+2:=⟨m -2,l9⟩;rw[e];exact YV (by unfold Ux;omega) b2n
 .exact call l9
 .exact call l9
 .exact call l9
 .exact call l9
end
end
section
variable {N:D9}
theorem OA{k v:Int}(ha:0<=arF k)(hu:dw k=some false)(h:flS (k,v) N=0):v=0:=by
 by_cases h0:v=0
 .exact h0
 .have:=Zp (b4Y (N:=N) ha h0 hu);rw[h]at this;cases this
variable {n:Int×Int}{a:XT}
section
variable {T:List bD} {E:Int} {N:D9}
theorem b9d(hN:NmD N)(ha:arF n.1=1)(hI:fP n.2)(hz:flS n N=0)(h:TrOk T E N a):TrOk T E N (.l1 n a):=by
 obtain⟨k,v⟩:=n;have hsz:(XT.l1 (k,v) a).size=a.size+1:=rfl;have call:∀(W:List V5),Ux k->tkT N (.l1 (k,v) a)=(1,dC k,0)::(7,[40],0)::(W++[(7,[41],0)])->6<=(txT N (.l1 (k,v) a)).2->(∀m,10*a.size+3<=m->∀R,COk T E N m k W (a.post++[(k,v)]) ((7,[41],0)::R))->TrOk T E N (.l1 (k,v) a):=by
  intro W hk e hc hC;have hh:hd3 (tkT N (.l1 (k,v) a))=(1,dC k,0):=by rw[e];rfl
  refine CV (by rw[e];simp) ?_ ?_ ?_ hc (λ_=>by rw[hh];rfl) (λR hR m hm=>?_)
  .rw[hh];rcases hk with rfl|rfl|rfl|rfl|rfl|rfl|rfl|rfl|rfl|rfl|rfl|rfl|rfl|rfl|rfl|rfl|rfl|rfl<;>decide
  .rw[hh];rintro⟨h,-⟩;exact absurd (show(1:Int)=7 from h) C9
  .rw[hh];rcases hk with rfl|rfl|rfl|rfl|rfl|rfl|rfl|rfl|rfl|rfl|rfl|rfl|rfl|rfl|rfl|rfl|rfl|rfl<;>decide
  .rw[hsz]at hm;obtain⟨m,rfl⟩:∃q,m=q+1:=⟨m -1,l9⟩;rw[e];exact YV hk (hC m l9 R)
 have v0:(k=10\/k=25\/k=31\/k=32)->v=0:=by intro hk;refine OA (k:=k) (by rw[show arF k=1 from ha];decide) ?_ hz;rcases hk with rfl|rfl|rfl|rfl<;>decide
 rcases ar1 ha with rfl|rfl|rfl|rfl|rfl|rfl
 .rw[v0 l9]at hz hsz call ⊢;have e:tkT N (.l1 (10,0) a)=(7,[45],0)::l7 (AX a.node.1) ((7,[40],0)::(tkT N a++[(7,[41],0)])) (tkW N a 6):=by
   have:tkT N (.l1 (10,0) a)=xg ([sy 45]++l7 (AX a.node.1) ([sy 40]++itT N a++[sy 41]) (wiI (itT N a) (txT N a).2 6)):=rfl;rw[this,fJ];cases AX a.node.1
   .rfl
   .simp only[o7];rw[fJ,fJ];rfl
  refine TY (by rw[e];simp) (by rw[e];rintro⟨h,-⟩;exact absurd (show(7:Int)=1 from h) C9) (show(6:Int)<=6 by decide) (λ_=>by rw[e];rfl) (λR hR m hm=>?_);rw[hsz]at hm;obtain⟨m,rfl⟩:∃q,m=q+1:=⟨m -1,l9⟩;rw[e];cases hnb:AX a.node.1
  .refine b5U (c4Q h hR l9) (b1P a h 6) ?_;rw[WL];by_cases h6:6<=(txT N a).2
   .rw[Y0 h6,o6];exact h.neg h6 hnb
   .rw[dE l9];rfl
  .exact b5U (ZU h l9) (by simp[l7]) rfl
 .rw[v0 l9]at hz hsz call ⊢;have e:tkT N (.l1 (25,0) a)=(1,[110,111,116],0)::tkW N a 6:=by
   have:tkT N (.l1 (25,0) a)=xg ([nm [110,111,116],none]++wiI (itT N a) (txT N a).2 6):=rfl;rw[this,fJ];rfl
  refine TY (by rw[e];simp) (by rw[e];rintro⟨-,h⟩;exact absurd (show([110,111,116]:c5v)=[105,102]from h) C9) (show(6:Int)<=6 by decide) (λ_=>by rw[e];rfl) (λR hR m hm=>?_);rw[hsz]at hm;obtain⟨m,rfl⟩:∃q,m=q+1:=⟨m -1,l9⟩;rw[e];exact c4K (c4Q h hR l9)
 .rw[v0 l9]at hz hsz call ⊢;refine call (tkT N a) (by unfold Ux;omega) ?_ (show(6:Int)<=7 by decide) (λm hm R=>?_)
  .have:tkT N (.l1 (31,0) a)=xg ([nm (dC 31),sy 40]++itT N a++[sy 41]):=rfl;rw[this,fJ,fJ];rfl
  .obtain⟨m,rfl⟩:∃q,m=q+1:=⟨m -1,l9⟩;exact b4E l9 (h.E _ (PH R 1) m l9)
 .rw[v0 l9]at hz hsz call ⊢;refine call (tkT N a) (by unfold Ux;omega) ?_ (show(6:Int)<=7 by decide) (λm hm R=>?_)
  .have:tkT N (.l1 (32,0) a)=xg ([nm (dC 32),sy 40]++itT N a++[sy 41]):=rfl;rw[this,fJ,fJ];rfl
  .obtain⟨m,rfl⟩:∃q,m=q+1:=⟨m -1,l9⟩;exact b4E l9 (h.E _ (PH R 1) m l9)
 .have hg:=ED (n:=(33,v)) (l:=N.2.1) rfl hz;refine call ((1,gtN N.2.1 v,0)::(7,[44],0)::tkT N a) (by unfold Ux;omega) ?_ (show(6:Int)<=7 by decide) (λm hm R=>?_)
  .have:tkT N (.l1 (33,v) a)=xg ([nm (dC 33),sy 40,nm (gtN N.2.1 v),sy 44,none]++itT N a++[sy 41]):=rfl;rw[this,fJ,fJ];rfl
  .obtain⟨m,rfl⟩:∃q,m=q+1:=⟨m -1,l9⟩;exact b9z hN hg (h.E _ (PH R 1) m l9)
 .refine call ((1,gtN N.2.1 (dh .i64 v 8),0)::(7,[44],0)::(tkT N a++[(7,[44],0),(1,jT (iE v 8),0)])) (by unfold Ux;omega) ?_ (show(6:Int)<=7 by decide) (λm hm R=>?_)
  .have:tkT N (.l1 (34,v) a)=xg ([nm (dC 34),sy 40,nm (gtN N.2.1 (dh .i64 v 8)),sy 44,none]++itT N a++[sy 44,none,nm (jT (iE v 8)),sy 41]):=rfl;rw[this,fJ,fJ];show _::_::(_::_::(xg (itT N a))++[_,_,_])=_;unfold tkT;simp
  .obtain⟨m,rfl⟩:∃q,m=q+1:=⟨m -1,l9⟩;exact b6k hN hI hz (h.E _ (TV _ 1) m l9)
theorem b9e(hN:NmD N){a b:XT}(ha:arF n.1=2)(hI:fP n.2)(hz:flS n N=0)(h:TrOk T E N a)(g:TrOk T E N b):TrOk T E N (.l2 n a b):=by
 obtain⟨k,v⟩:=n;have hsz:(XT.l2 (k,v) a b).size=a.size+b.size+1:=rfl;have call:∀(W:List V5),Ux k->tkT N (.l2 (k,v) a b)=(1,dC k,0)::(7,[40],0)::(W++[(7,[41],0)])->6<=(txT N (.l2 (k,v) a b)).2->(∀m,10*a.size+10*b.size+3<=m->∀R,COk T E N m k W (a.post++b.post++[(k,v)]) ((7,[41],0)::R))->TrOk T E N (.l2 (k,v) a b):=by
  intro W hk e hc hC;have hh:hd3 (tkT N (.l2 (k,v) a b))=(1,dC k,0):=by rw[e];rfl
  refine CV (by rw[e];simp) ?_ ?_ ?_ hc (λ_=>by rw[hh];rfl) (λR hR m hm=>?_)
  .rw[hh];rcases hk with rfl|rfl|rfl|rfl|rfl|rfl|rfl|rfl|rfl|rfl|rfl|rfl|rfl|rfl|rfl|rfl|rfl|rfl<;>decide
  .rw[hh];rintro⟨h,-⟩;exact absurd (show(1:Int)=7 from h) C9
  .rw[hh];rcases hk with rfl|rfl|rfl|rfl|rfl|rfl|rfl|rfl|rfl|rfl|rfl|rfl|rfl|rfl|rfl|rfl|rfl|rfl<;>decide
  .rw[hsz]at hm;obtain⟨m,rfl⟩:∃q,m=q+1:=⟨m -1,l9⟩;rw[e];exact YV hk (hC m l9 R)
 by_cases h1:k=17\/k=18\/k=27\/k=28\/k=29\/k=30
 .have hv:v=0:=OA (k:=k) (by rw[show arF k=2 from ha];decide) (by rcases h1 with rfl|rfl|rfl|rfl|rfl|rfl<;>decide) hz;subst hv;have hb:SS k=true:=by rcases h1 with rfl|rfl|rfl|rfl|rfl|rfl<;>rfl
  refine call (tkT N a++(7,[44],0)::tkT N b) (by unfold Ux;omega) ?_ ?_ (λm hm R=>?_)
  .have:tkT N (.l2 (k,0) a b)=xg ([nm (dC k),sy 40]++itT N a++[sy 44,none]++itT N b++[sy 41]):=by
    show xg (Ku (k,0) (itT N a) (txT N a).2 (itT N b) (txT N b).2)=_;unfold Ku;rw[hb];rfl
   rw[this,fJ,fJ,fJ,fJ];show _::_::_=_;unfold tkT;simp;rfl
  .show 6<=(Iy (k,0) (txT N a) (txT N b)).2;unfold Iy;rw[hb];simp[l7]
  .obtain⟨m,rfl⟩:∃q,m=q+1:=⟨m -1,l9⟩;exact b9A h1 (h.E _ (TV _ 1) m l9) (g.E _ (PH R 1) m l9)
 by_cases h2:k=14\/k=15\/k=16
 .have hb:SS k=false/\Xt k=true:=by rcases h2 with rfl|rfl|rfl<;>exact⟨rfl,rfl⟩
  refine call (tkT N a++(7,[44],0)::(tkT N b++[(7,[44],0),(1,jT v,0)])) (by unfold Ux;omega) ?_ ?_ (λm hm R=>?_)
  .have:tkT N (.l2 (k,v) a b)=xg ([nm (dC k),sy 40]++itT N a++[sy 44,none]++itT N b++[sy 44,none,nm (jT v),sy 41]):=by
    show xg (Ku (k,v) (itT N a) (txT N a).2 (itT N b) (txT N b).2)=_;unfold Ku;rw[hb.1,hb.2];rfl
   rw[this,fJ,fJ,fJ,fJ];show _::_::_=_;unfold tkT;simp;rfl
  .show 6<=(Iy (k,v) (txT N a) (txT N b)).2;unfold Iy;rw[hb.1,hb.2];simp[l7]
  .obtain⟨m,rfl⟩:∃q,m=q+1:=⟨m -1,l9⟩;have hC:=b9y (T:=T) (E:=E) (N:=N) (R:=(7,[41],0)::R) h2 (a8K h2 hz) (h.E _ (TV _ 1) m l9) (g.E _ (TV _ 1) m l9);exact hC
 have hk:a6v k:=by have:=ar2 ha;unfold a6v;omega
 have hv:v=0:=OA (k:=k) (by rw[show arF k=2 from ha];decide) (by rcases hk with rfl|rfl|rfl|rfl|rfl|rfl|rfl|rfl|rfl<;>decide) hz;subst hv;have hb:SS k=false/\Xt k=false:=by rcases hk with rfl|rfl|rfl|rfl|rfl|rfl|rfl|rfl|rfl<;>exact⟨rfl,rfl⟩
 have hsy:1<=(jB k).2/\(jB k).2<=5:=by rcases hk with rfl|rfl|rfl|rfl|rfl|rfl|rfl|rfl|rfl<;>decide
 have hcl:(txT N (.l2 (k,0) a b)).2=(jB k).2:=by show(Iy (k,0) (txT N a) (txT N b)).2=_;unfold Iy;rw[hb.1,hb.2];rfl
 generalize hle:(l7 (D8 (jB k).2 3) 4 (jB k).2:Int)=le;have hle1:(jB k).2<=le/\((jB k).2=3->le=4)/\((jB k).2≠3->le=(jB k).2):=by
  rw[←hle];by_cases h3:(jB k).2=3
  .rw[O0 h3];exact⟨by rw[h3];decide,λ_=>rfl,λh=>absurd h3 h⟩
  .rw[J8 h3];exact⟨by simp[l7],λh=>absurd h h3,λ_=>rfl⟩
 have e:tkT N (.l2 (k,0) a b)=tkW N a le++opK k::tkW N b ((jB k).2+1):=by
  have:tkT N (.l2 (k,0) a b)=xg (wiI (itT N a) (txT N a).2 le++[none,some (opK k),none]++wiI (itT N b) (txT N b).2 ((jB k).2+1)):=by show xg (Ku (k,0) (itT N a) (txT N a).2 (itT N b) (txT N b).2)=_;unfold Ku;rw[hb.1,hb.2,hle];rfl
  rw[this,fJ,fJ];unfold tkW;rw[E8];rfl
 have hne:=b1P a h le;have hhd:hd3 (tkT N (.l2 (k,0) a b))=hd3 (tkW N a le):=by
  rw[e];cases hq:tkW N a le with
  |nil=>exact absurd hq hne|cons x y=>rfl
 have nif:¬((hd3 (tkT N (.l2 (k,0) a b))).1=1/\(hd3 (tkT N (.l2 (k,0) a b))).2.1=[105,102]):=by
  rw[hhd,WL];by_cases h6:le<=(txT N a).2
  .rw[Y0 h6,o6];exact h.nif l9
  .rw[dE l9,o7];rintro⟨h,-⟩;exact absurd (show(7:Int)=1 from h) C9
 have hL:∀R,FK R ((jB k).2+1)->∀c,1<=c->c<=(jB k).2->∀m,10*(a.size+b.size+1)<=m->LOk T E N m c (tkT N (.l2 (k,0) a b)) (XT.l2 (k,0) a b).post (gT (jB k).2) R:=by
  intro R hR c hc1 hc2 m hm;obtain⟨ga,hA,hga⟩:=c4P h (c:=c) (c' :=le) hc1 l9 (R:=opK k::(tkW N b ((jB k).2+1)++R)) (.inr ⟨k,hk,rfl⟩) (.inr ⟨k,hk,rfl,l9⟩) (m:=m) l9;have hB:=c5t g (c:=(jB k).2+1) l9 hR (m:=m) l9;have:=b9K hk hA hB hc2 (by
   rcases hga with rfl|⟨q1,q2,rfl⟩
   .omega
   .unfold gT;rw[dA l9,o6];by_cases h3:(txT N a).2=3
    .rw[O0 h3,o7];by_cases h4:(jB k).2=3
     .have:=hle1.2.1 h4;omega
     .have:=hle1.2.2 h4;omega
    .rw[J8 h3,o6];omega)
  rw[e];have hg:gT (jB k).2=l7 (D8 (jB k).2 3) 2 (jB k).2:=by unfold gT;rw[dA l9,o6]
  rw[hg];exact this
 refine⟨by rw[e];simp,λ_=>nif,λh6=>by rw[hcl]at h6;omega,λh6=>by rw[hcl]at h6;omega,λh5 R hR c hc1 hc2 m hm=>?_,λR hR m hm=>c4H (by rw[e];simp) nif (by rw[hcl];omega) hR l9 ?_⟩
 .rw[hcl]at hR hc2 ⊢;rw[hsz]at hm;exact hL R hR c hc1 hc2 m hm
 .rw[hcl];rw[hsz]at hm;exact hL R (NM hR l9) 1 l9 l9 (m -2) l9
theorem c4I{a b c:XT}(ha:arF n.1=3)(hz:flS n N=0)(h:TrOk T E N a)(g:TrOk T E N b)(f:TrOk T E N c):TrOk T E N (.l3 n a b c):=by
 obtain⟨k,v⟩:=n;have hk:k=26:=ar3 ha;subst hk;have hv:v=0:=OA (k:=26) C9 C9 hz;subst hv;have e:tkT N (.l3 (26,0) a b c)=(1,[105,102],0)::(tkT N a++(1,[116,104,101,110],0)::(tkT N b++(1,[101,108,115,101],0)::tkT N c)):=by have:tkT N (.l3 (26,0) a b c)=xg ([nm [105,102],none]++itT N a++[none,nm [116,104,101,110],none]++itT N b++[none,nm [101,108,115,101],none]++itT N c):=rfl;rw[this,fJ,fJ,fJ,fJ,fJ];show _::_=_;unfold tkT;simp;rfl
 refine⟨by rw[e];simp,λh6=>absurd (show(1:Int)<=0 from h6) C9,λh6=>absurd (show(6:Int)<=0 from h6) C9,λh6=>absurd (show(6:Int)<=0 from h6) C9,λ_ R hR c' h1 h2=>by have:c' <=(0:Int):=h2;omega,λR hR m hm=>?_⟩;rw[show(XT.l3 (26,0) a b c).size=a.size+b.size+c.size+1 from rfl]at hm;obtain⟨m,rfl⟩:∃q,m=q+1:=⟨m -1,l9⟩;rw[e];exact c5a (h.E _ (.inl (.inr (.inr (.inr (.inl rfl))))) m l9) (g.E _ (.inl (.inr (.inr (.inr (.inr rfl))))) m l9) (f.E R hR m l9)
theorem NW(hN:NmD N):∀(t:XT),t.wf->(∀n∈t.post,fP n.2)->(∀n∈t.post,flS n N=0)->TrOk T E N t
 | .l0 n,hw,hI,hz=>b4p hN hw (hI n (by simp[XT.post])) (hz n (by simp[XT.post]))| .l1 n a,hw,hI,hz=>b9d hN hw.1 (hI n (by simp[XT.post])) (hz n (by simp[XT.post])) (NW hN a hw.2 (λm hm=>hI m (by simp[XT.post,hm])) (λm hm=>hz m (by simp[XT.post,hm])))| .l2 n a b,hw,hI,hz=>b9e hN hw.1 (hI n (by simp[XT.post])) (hz n (by simp[XT.post])) (NW hN a hw.2.1 (λm hm=>hI m (by simp[XT.post,hm])) (λm hm=>hz m (by simp[XT.post,hm]))) (NW hN b hw.2.2 (λm hm=>hI m (by simp[XT.post,hm])) (λm hm=>hz m (by simp[XT.post,hm])))| .l3 n a b c,hw,hI,hz=>c4I hw.1 (hz n (by simp[XT.post])) (NW hN a hw.2.1 (λm hm=>hI m (by simp[XT.post,hm])) (λm hm=>hz m (by simp[XT.post,hm]))) (NW hN b hw.2.2.1 (λm hm=>hI m (by simp[XT.post,hm])) (λm hm=>hz m (by simp[XT.post,hm]))) (NW hN c hw.2.2.2 (λm hm=>hI m (by simp[XT.post,hm])) (λm hm=>hz m (by simp[XT.post,hm])))
end
theorem Q_:∀(L:List It) (R:c5v),WSR L R->L.length<=(bH L).length
 |[],_,_=>by simp|none::L,R,h=>by have:=Q_ L R h.2;simp[bH];exact this|some k::L,R,h=>by have:=Q_ L R h.2.2;obtain⟨c,t,e,-⟩:=h.1.ne;simp[bH,e];omega
theorem a9K{e:List (Int×Int)}{s:c5v}(hN:NmOk N)(hD:NmD N)(hI:∀n∈e,fP n.2)(h:BC e N=(s,0))(hs:s.length<=65536):sZ s N=some (e,0,0):=by
 have hf:=a2T hN hI;have hfS:=h;unfold BC at h;cases hst:mJ e with
 |inl x=>rw[hst]at h;simp only at h;exact absurd (congrArg (λq:c5v×Int=>q.2) h) (zk hst)|inr t=>
  rw[hst]at h;simp only at h;obtain⟨hp,h48⟩:=qi hst;have hw:=Gx hst;cases hff:D8 (ffS N e) 0 with
  |false=>rw[hff,o6]at h;exact absurd (congrArg (λq:c5v×Int=>q.2) h) (vV.1 hff)|true=>
   rw[hff,o7]at h;have hsx:s=(txT N t).1:=(congrArg (λq:c5v×Int=>q.1) h).symm;have hIt:∀n∈t.post,fP n.2:=by rw[←hp];exact hI
   have hzt:∀n∈t.post,flS n N=0:=by rw[←hp];exact Zo (eF.1 hff)
   have hfl:=CP t hw hIt hzt;have hws:=OE hD.id t hw hIt hzt;have hsf:s=bH (itT N t):=hsx.trans hfl.symm;have hW:=hws.ws [] a5d;have hlen:=Q_ _ _ hW;have htk:=a2e (L:=itT N t) (by rw[←hsf];exact hs) hW (c4G hws.st) (by rw[←hsf]at hlen;omega);rw[←hsf]at htk;have hpl:=a7w (itT N t) 0;have htl:(xg (itT N t)).length<=(itT N t).length:=by unfold xg;exact List.length_filterMap_le _ _
   rw[←hsf]at hlen;have hAt:At3 (xO 0 (itT N t)) 0 (tkT N t++[]):=by refine⟨?_,l9,l9⟩;rw[iI,E9];exact EJ (itT N t) 0
   have hsz:t.size<=48:=by rw[←t.post_len,←hp];exact h48
   have hE:=(NW (T:=xO 0 (itT N t)) (E:=x9 s) hD t hw hIt hzt).E [] (.inl (.inl rfl)) au (by unfold au;omega) 0 [] hAt (by simp only[F6,t.post_len];omega);unfold sZ;rw[htk,o9];simp only[O0 (rfl:(0:Int)=0),F5,o6];rw[show qA (xO 0 (itT N t),0,x9 s,N,[],0,0)=_ from hE,o9];simp only[o7];rw[Y0 (show x9 (xO 0 (itT N t))<=((0+(tkT N t).length:Nat):Int) by unfold x9 tkT;rw[hpl];omega),o6,o9];simp only[O0 (rfl:(0:Int)=0),F5,o6,G8];rw[←hp];unfold BB;rw[Ir];unfold Bz;rw[hst];simp only[o9,O0 (rfl:(0:Int)=0),F5,o6];rw[hf,hfS,o9];simp only[O0 (rfl:(0:Int)=0),F5,o6];rw[show seq s s=true from gm.2 rfl];rfl
theorem b4M{ρ:Type}{n:Nat}{p:Nat->Option ρ}(h:∀r,cO n p≠some r):∀i,i<n->p i=none:=by
 cases hf:cO n p with
 |some r=>exact absurd hf (h r)|none=>exact rC hf
theorem a4U{k i:Int}{r:Int×Int}(h:MX k i r=none):r.1=0:=by
 unfold MX at h;cases he:D8 r.1 0<;>rw[he]at h
 .cases h
 .exact eF.1 he
variable {l:O6}{j:Nat}
theorem WR(h:(gQ l).1=0){e:U2}(he:l.1[j]? =some e):gq e.1=true/\(∀x∈l.1.take j,x.1≠e.1)/\e.2.length<=16/\∀(i:Nat) m,e.2[i]? =some m->gq m=true/\∀x∈e.2.take i,x≠m:=by
 unfold gQ at h;cases h1:D8 (Az l).1 0<;>rw[h1]at h
 .simp only[o6]at h;rw[O0 h]at h1;cases h1
 have h1:=eF.1 h1;unfold Az at h1;cases h2:J4 8 (x9 l.1)<;>rw[h2]at h1
 case true=>exact absurd (show(4:Int)=0 from h1) C9
 simp only[o6]at h1;have hn:=b4M (n:=l.1.length) (p:=Ot l) (λr hf=>by
  rw[hf]at h1;obtain⟨j,_,hj⟩:=nN hf;unfold Ot at hj;split at hj
  .exact KQ hj h1
  .cases hj) j (aJ.1 he).1
 unfold Ot at hn;rw[he]at hn;have hz:=a4U hn;unfold XN at hz;cases g1:gq e.1<;>rw[g1]at hz
 .exact absurd (show(2:Int)=0 from hz) C9
 cases g2:zl l 1 j e.1<;>rw[g2]at hz
 case true=>exact absurd (show(7:Int)=0 from hz) C9
 cases g3:D8 (x9 e.2) 0<;>rw[g3]at hz
 case true=>exact absurd (show(5:Int)=0 from hz) C9
 cases g4:J4 16 (x9 e.2)<;>rw[g4]at hz
 case true=>exact absurd (show(4:Int)=0 from hz) C9
 simp only[o7,o6]at hz;have hmem:∀i<e.2.length,Tf e.2 i=none:=by
  intro i hi;cases hf:(List.range e.2.length).findSome? (Tf e.2)with
  |none=>exact List.findSome?_eq_none_iff.1 hf i (List.mem_range.2 hi)|some r=>
   exfalso;rw[hf]at hz;obtain⟨q,_,hq⟩:=List.exists_of_findSome?_eq_some hf;unfold Tf at hq;cases hv:e.2[q]? with
   |none=>rw[hv]at hq;cases hq|some x=>
    rw[hv]at hq;simp only at hq;cases k1:gq x<;>rw[k1]at hq
    .cases hq;exact absurd (show(2:Int)=0 from hz) C9
    .cases k2:(e.2.take q).any λy=>seq x y<;>rw[k2]at hq
     .cases hq
     .cases hq;exact absurd (show(7:Int)=0 from hz) C9
 refine⟨rfl,λx hx e2=>?_,eY (n:=16) g4,λi m hm=>?_⟩
 .unfold zl at g2;simp only[bM]at g2;exact g2 x hx (gm.2 e2)
 have hi:=(aJ.1 hm).1;have hp:=hmem i hi;unfold Tf at hp;rw[hm]at hp;simp only at hp;cases k1:gq m<;>rw[k1]at hp
 .cases hp
 cases k2:(e.2.take i).any λy=>seq m y<;>rw[k2]at hp
 .refine⟨rfl,λx hx e=>?_⟩;have:=bM.1 k2 x hx;exact this (gm.2 e.symm)
 .cases hp
theorem b1X(h:(gQ l).1=0){t:aP}(ht:l.2.1[j]? =some t):gq t.1=true/\∀x∈l.2.1.take j,x.1≠t.1:=by
 unfold gQ at h;cases h1:D8 (Az l).1 0<;>rw[h1]at h
 .simp only[o6]at h;rw[O0 h]at h1;cases h1
 cases h2:D8 (yz l).1 0<;>rw[h2]at h
 .simp only[o7,o6]at h;rw[O0 h]at h2;cases h2
 have h2:=eF.1 h2;unfold yz at h2;cases h3:J4 8 (x9 l.2.1)<;>rw[h3]at h2
 case true=>exact absurd (show(4:Int)=0 from h2) C9
 simp only[o6]at h2;have hn:=b4M (n:=l.2.1.length) (p:=Iu l) (λr hf=>by
  rw[hf]at h2;obtain⟨j,_,hj⟩:=nN hf;unfold Iu at hj;split at hj
  .exact KQ hj h2
  .cases hj) j (aJ.1 ht).1
 unfold Iu at hn;rw[ht]at hn;have hz:=a4U hn;unfold F_ at hz;cases g1:gq t.1<;>rw[g1]at hz
 .exact absurd (show(2:Int)=0 from hz) C9
 cases g2:zl l 2 j t.1<;>rw[g2]at hz
 case true=>exact absurd (show(7:Int)=0 from hz) C9
 refine⟨rfl,λx hx e=>?_⟩;unfold zl at g2;simp only[Z9,bM]at g2;exact g2.2 x hx (gm.2 e)
variable {en:List U2}
theorem a0G{f:dO}{a b:List dO}(h:Fb en f a b=0):gq f.1=true/\(∀x∈a,x.1≠f.1)/\∀x∈b,x.1≠f.1:=by
 unfold Fb at h;cases g1:gq f.1<;>rw[g1]at h
 .exact absurd (show(2:Int)=0 from h) C9
 cases g2:(a.any λx=>seq x.1 f.1)<;>rw[g2]at h
 case true=>exact absurd (show(7:Int)=0 from h) C9
 cases g3:(b.any λx=>seq x.1 f.1)<;>rw[g3]at h
 case true=>exact absurd (show(7:Int)=0 from h) C9
 rw[bM]at g2 g3;exact⟨rfl,λx hx e=>g2 x hx (gm.2 e),λx hx e=>g3 x hx (gm.2 e)⟩
theorem KP{c e:Int}(h:SY c e=none):c=0:=by
 unfold SY at h;cases he:D8 c 0<;>rw[he]at h
 .cases h
 .exact eF.1 he
variable {s:H6}{i:Nat}
theorem TZ(h:(gQ l).1=0)(hs:l.2.2[i]? =some s):(∀(j:Nat) f,s.2.2.1[j]? =some f->gq f.1=true/\∀x∈s.2.2.1.take j,x.1≠f.1)/\∀(j:Nat) f,s.2.2.2.1[j]? =some f->gq f.1=true/\(∀x∈s.2.2.1,x.1≠f.1)/\∀x∈s.2.2.2.1.take j,x.1≠f.1:=by
 have hp:=(YK h hs).2;unfold QE at hp;cases h1:zD l s with
 |some q=>rw[h1]at hp;exact absurd hp (Jp h1)|none=>
  unfold zD at h1;cases h2:cO s.2.2.1.length (inP l s)with
  |some q=>rw[h2]at h1;cases h1|none=>
   rw[h2]at h1;refine⟨λj f hf=>?_,λj f hf=>?_⟩
   .have hn:=rC h2 j (aJ.1 hf).1;unfold inP at hn;rw[hf]at hn;have:=a0G (KP hn);exact⟨this.1,this.2.1⟩
   .have hn:=rC h1 j (aJ.1 hf).1;unfold a0s at hn;rw[hf]at hn;exact a0G (KP hn)
variable {r:U3}{k:Nat}
theorem b1V(h:(gQ l).1=0)(hs:l.2.2[i]? =some s)(hr:s.2.2.2.2[k]? =some r):gq r.1=true/\∀q∈s.2.2.2.2.take k,q.1≠r.1:=by
 have he:=NZ h hs hr;unfold EP at he;cases g1:gq r.1<;>rw[g1]at he
 .exact absurd (show(2:Int)=0 from he) C9
 simp only[o7]at he;cases g2:(s.2.2.2.2.take k).any λx=>seq x.1 r.1<;>rw[g2]at he
 case true=>exact absurd (show(7:Int)=0 from he) C9
 rw[bM]at g2;exact⟨rfl,λq hq e=>g2 q hq (gm.2 e)⟩
variable {α:Type}{w:c5v}
theorem CQ{g:α->c5v}{l:List α}(h:(l.map g)[j]? =some w)(H:∀a,l[j]? =some a->∀x∈l.take j,g x≠g a):∀x∈(l.map g).take j,x≠w:=by
 rw[zG]at h;cases ha:l[j]? with
 |none=>rw[ha]at h;cases h|some a=>rw[ha]at h;cases h;intro x hx;rw[←List.map_take]at hx;obtain⟨y,hy,rfl⟩:=P9.1 hx;exact H a ha y hy
theorem mi{l:List α}{a:α}(h:a∈l):∃j:Nat,l[j]? =some a:=by obtain⟨j,hj,e⟩:=bP h;exact⟨j,by rw[qC hj,e]⟩
theorem a9r(hv:(gQ l).1=0)(h:NmL l)(hs:s∈l.2.2):NmD (nmS l s):=by
 obtain⟨i,hi⟩:=mi hs;obtain⟨f1,f2⟩:=TZ hv hi;obtain⟨s1,s2,s3,s4,s5,s6⟩:=h.s s hs;have hmem:(nmS l s).2.2.2.2=[]\/∃q,q∈l.2.2/\(nmS l s).2.2.2.2=q.2.2.2.1.map (·.1):=by
  unfold nmS;cases U7 0 s.2.1
  .exact .inl rfl
  .simp only[o7];cases hq:P8 l.2.2 s.2.1 with
   |none=>exact .inl rfl|some q=>exact .inr ⟨q,wE hq,rfl⟩
 refine⟨⟨λe he=>?_,λx hx=>?_,λx hx=>?_,λx hx=>?_,λx hx=>?_⟩,?_,λj e he=>?_,λj w hw=>?_,λj w hw=>?_,λj w hw=>?_,λj w hw=>?_⟩
 .obtain⟨j,hj⟩:=mi (show e∈l.1 from he);obtain⟨a,b,c,d⟩:=WR hv hj;refine⟨a,λm hm=>?_⟩;obtain⟨i,hi⟩:=mi hm;exact(d i m hi).1
 .obtain⟨t,ht,rfl⟩:=P9.1 (show x∈l.2.1.map (·.1)from hx);obtain⟨j,hj⟩:=mi ht;exact(b1X hv hj).1
 .obtain⟨t,ht,rfl⟩:=P9.1 (show x∈s.2.2.1.map (·.1)from hx);obtain⟨j,hj⟩:=mi ht;exact(f1 j t hj).1
 .obtain⟨t,ht,rfl⟩:=P9.1 (show x∈s.2.2.2.1.map (·.1)from hx);obtain⟨j,hj⟩:=mi ht;exact(f2 j t hj).1
 .rcases hmem with e|⟨q,hq,e⟩
  .rw[e]at hx;cases hx
  .rw[e]at hx;obtain⟨t,ht,rfl⟩:=P9.1 hx;obtain⟨k,hk⟩:=mi hq;obtain⟨j,hj⟩:=mi ht;exact((TZ hv hk).2 j t hj).1
 .have h1:=h.ne;have h2:=h.nt;refine⟨by show l.1.length<=1000;omega,by show(l.2.1.map (·.1)).length<=1000;simp;omega,by show(s.2.2.1.map (·.1)).length<=1000;simp;omega,by show(s.2.2.2.1.map (·.1)).length<=1000;simp;omega,?_⟩;rcases hmem with e|⟨q,hq,e⟩
  .rw[e];simp
  .rw[e];have:=(h.s q hq).2.1;simp;omega
 .obtain⟨a,b,c,d⟩:=WR hv (show l.1[j]? =some e from he);exact⟨b,l9,λk v hk=>(d k v hk).2⟩
 .exact CQ (show(l.2.1.map (·.1))[j]? =some w from hw) (λa ha=>(b1X hv ha).2)
 .exact CQ (show(s.2.2.1.map (·.1))[j]? =some w from hw) (λa ha=>(f1 j a ha).2)
 .refine⟨CQ (show(s.2.2.2.1.map (·.1))[j]? =some w from hw) (λa ha=>(f2 j a ha).2.2),λx hx=>?_⟩;have hw2:(s.2.2.2.1.map (·.1))[j]? =some w:=hw;rw[zG]at hw2;cases ha:s.2.2.2.1[j]? with
  |none=>rw[ha]at hw2;cases hw2|some a=>rw[ha]at hw2;cases hw2;obtain⟨t,ht,rfl⟩:=P9.1 (show x∈s.2.2.1.map (·.1)from hx);exact(f2 j a ha).2.1 t ht
 .rcases hmem with e|⟨q,hq,e⟩
  .rw[e]at hw;cases hw
  .rw[e]at hw ⊢;obtain⟨k,hk⟩:=mi hq;exact CQ hw (λa ha=>((TZ hv hk).2 j a ha).2.2)
def jc:List c5v->c5v
 |[]=>[]|w::L=>w++10::jc L
theorem ou:∀A B:List c5v,jc (A++B)=jc A++jc B
 |[],B=>rfl|w::A,B=>by rw[G9];simp only[jc];rw[ou A B];simp
def spF(a0:c5v)(x:List c5v×Int×c5v×Int):Option (Out (List c5v×Int×c5v×Int) (List c5v×Int) (List c5v×Int)):=
     l7 (J4 x.2.2.2 (x9 x.2.2.1))
      (l7 (D8 (sJ x.2.2.1 x.2.2.2) 10)
       (o5 (dM a0 x.2.1 x.2.2.2) λ(x_1:c5v)=>
        o5 (iy x.1 [x_1]) λ(x_2:List c5v)=>
         some (Out.nx (x_2,I8 IntKind.i64 x.2.2.2 1,x.2.2.1,ui x.2.2.1 x.2.2.2)))
       (l7 (D8 (sJ x.2.2.1 x.2.2.2) 9) (some (Out.nx (x.1,x.2.1,x.2.2.1,ui x.2.2.1 x.2.2.2)))
        (l7 (U7 32 (sJ x.2.2.1 x.2.2.2))
         (l7 (U7 (sJ x.2.2.1 x.2.2.2) 126) (some (Out.nx (x.1,x.2.1,x.2.2.1,ui x.2.2.1 x.2.2.2)))
          (some (Out.rt ([],2))))
         (some (Out.rt ([],2))))))
      (some (Out.ex (x.1,x.2.1)))
theorem b9S{c:UInt8}(h:prB c=true):32<=c.toNat/\c.toNat<=126:=by unfold prB at h;simpa using h
theorem a6c{s:c5v}(hs:s.length<=65536)(acc:List c5v)(st:Int):∀(w pre suf:c5v) (m:Nat),s=pre++w++suf->(∀c∈w,prB c=true)->fQ (spF s) (m+w.length) (acc,st,s,(pre.length:Int))=fQ (spF s) m (acc,st,s,((pre.length+w.length:Nat):Int))
 |[],pre,suf,m,h,hw=>rfl|c::w,pre,suf,m,h,hw=>by
  have hc:s[pre.length]? =some c:=by rw[h,E8,F7 (E5 _),aT];rfl
  have hb:=b9S (hw c x8);obtain⟨r1,r2⟩:=Dn hc l9;have st:spF s (acc,st,s,(pre.length:Int))=some (.nx (acc,st,s,((pre.length+1:Nat):Int))):=by unfold spF;simp only[U0 hc,o7,r1,r2];rw[J8 l9,o6,J8 l9,o6,Y7 l9,o7,Y7 l9,o7]
  rw[A8,show m+(w.length+1)=(m+w.length)+1 by omega,bU,st];have:=a6c hs acc ‹Int› w (pre++[c]) suf m (by rw[h];simp) (λd hd=>hw d (by simp[hd]));rw[show(pre++[c]).length=pre.length+1 by simp]at this;rw[show pre.length+(w.length+1)=pre.length+1+w.length by omega];exact this
theorem a1W{s:c5v}(hs:s.length<=65536):∀(L:List c5v) (pre:c5v) (acc:List c5v) (m:Nat),s=pre++jc L->(∀w∈L,∀c∈w,prB c=true)->acc.length<=pre.length->
  fQ (spF s) (m+(jc L).length+1) (acc,(pre.length:Int),s,(pre.length:Int))=some (.inl (acc++L,(s.length:Int)))
 |[],pre,acc,m,h,hw,ha=>by rw[jc,E9]at h;subst h;rw[bU];unfold spF;simp only[Y1 s,o6];simp|w::L,pre,acc,m,h,hw,ha=>by
  have hl:=congrArg List.length h;simp only[jc,A7,A8]at hl;have h' :s=pre++w++10::jc L:=by rw[h];simp[jc]
  have h10:s[(pre.length+w.length)]? =some 10:=by rw[h',←A7,F7 (E5 _),aT];rfl
  obtain⟨r1,r2⟩:=Dn h10 C9;have st:spF s (acc,(pre.length:Int),s,((pre.length+w.length:Nat):Int))=some (.nx (acc++[w],((pre.length+w.length+1:Nat):Int),s,((pre.length+w.length+1:Nat):Int))):=by
   unfold spF;have hsub:dM s (pre.length:Int) ((pre.length+w.length:Nat):Int)=some w:=by rw[TL l9 l9 l9,I9,I9,h',←A7,bJ,Y6]
   simp only[U0 h10,o7,r1,r2,O0 (show((10:UInt8).toNat:Int)=10 from rfl),hsub,o9];rw[Ak _ l9,o9,bY l9]
  rw[show m+(jc (w::L)).length+1=(m+(jc L).length+1+1)+w.length by simp[jc];omega,a6c hs acc _ w pre (10::jc L) _ h' (hw w x8),bU,st];have:=a1W hs L (pre++w++[10]) (acc++[w]) m (by rw[h'];simp) (λv hv=>hw v (by simp[hv])) H7;simp only[A7,lH]at this;simp only;rw[this];simp
theorem a1X{L:List c5v}(hs:(jc L).length<=65536)(hw:∀w∈L,∀c∈w,prB c=true):ji (jc L)=some (L,0):=by
 unfold ji;rw[Y0 (show x9 (jc L)<=65536 by unfold x9;omega),o6];cases L with
 |nil=>rfl|cons w L=>rw[show seq (jc (w::L)) []=false from pM.2 (by simp[jc]),o6];have:=a1W hs (w::L) [] [] (au -(jc (w::L)).length -1) rfl hw x8;rw[show au -(jc (w::L)).length -1+(jc (w::L)).length+1=au by unfold au;omega]at this;refine V6 (show X5 (spF (jc (w::L))) ([],0,jc (w::L),0)=_ from this) ?_;rw[o9,ae];rw[show D8 ((([]++w::L,(((jc (w::L)).length:Nat):Int)):List c5v×Int)).2 (x9 (jc (w::L)))=true from O0 rfl];rfl
theorem a8u(p x:c5v)(hl:(p++x).length<=1000000000):oI (p++x) p=some (x,true):=by
 unfold oI oq iD Lib.hasPrefix;have e:p.isPrefixOf (p++x)=true:=by rw[ja];exact List.prefix_append _ _
 rw[e,o9,F5,o6,qm (by unfold x9;omega) (by unfold x9;simp;omega),o9,o9];congr 2;unfold x9;rw[I9,Y6]
theorem a5h:∀(a b:c5v) (c:UInt8),(∀x∈a,x≠c)->Lib.indexByte (a++c::b) c=(a.length:Int)
 |[],b,c,h=>by simp[Lib.indexByte]|x::a,b,c,h=>by
  have ih:=a5h a b c (λy hy=>h y (by simp[hy]));have hx:=h x x8;rw[G9];unfold Lib.indexByte;rw[ih];have:(x==c)=false:=by simpa using hx
  rw[this];simp only[oz,if_false];have h2:(((a.length:Nat):Int)==-1)=false:=by rw[beq_eq_false_iff_ne];omega
  rw[h2];simp
theorem a3b(h:gq w=true):∀x∈w,x≠32:=by
 cases w with
 |nil=>cases h|cons c r=>rw[AL]at h;simp only[D5]at h;intro x hx e;have:=ax.1 h.1.2 x hx;rw[e]at this;revert this;decide
theorem IG(h:gq w=true):∀x∈w,prB x=true:=by
 cases w with
 |nil=>cases h
 |cons c r=>rw[AL]at h;simp only[D5]at h;exact λx hx=>a6j (ax.1 h.1.2 x hx)
theorem OB{σ ρ ε α:Type}(l:List α)(p:α->Bool)(mk:Nat->σ)(g:Nat->ρ)(hl:l.length<=1000000){f:σ->Option (Out σ ε ρ)} (h1:∀(i:Nat) (a:α),l[i]? =some a->f (mk i)=some (l7 (p a) (.rt (g i)) (.nx (mk (i+1))))):
  ∀(j:Nat) (a:α),l[j]? =some a->p a=true->(∀x∈l.take j,p x=false)->X5 f (mk 0)=some (.inr (g j)):=by
 intro j a ha hpa hp;have hj:=(aJ.1 ha).1;have step:∀(i k:Nat),i<=j->fQ f (k+(j -i)) (mk i)=fQ f k (mk j):=by
  intro i k hij;induction h:j -i generalizing i k with
  |zero=>rw[show i=j by omega];rfl|succ n ih=>
   have hi:i<l.length:=l9;have hg:=qC hi;have:=h1 i _ hg;rw[hp l[i] (by rw[List.mem_take_iff_getElem];exact⟨i,l9,rfl⟩),o6]at this
   rw[show k+(n+1)=(k+n)+1 by omega,bU,this];exact ih (i+1) k l9 l9
 have:=step 0 (au -j) l9;rw[show au -j+(j -0)=au by unfold au;omega]at this;unfold X5;rw[this,show au -j=(au -j -1)+1 by unfold au;omega,bU,h1 j a ha,hpa];rfl
theorem a0v{l:List α}{a:α}{r:List α}(h:l.drop i=a::r):l[i]? =some a/\l.drop (i+1)=r:=by
 refine⟨?_,by rw[←lX,h];rfl⟩;have:(l.drop i)[0]? =some a:=by rw[h];rfl
 simpa using this
theorem b6r{e:List (Int×Int)}(hN:NmOk N)(hD:NmD N)(hI:∀n∈e,fP n.2)(h:(BC e N).2=0):(BC e N).1≠[]/\∀c∈(BC e N).1,prB c=true:=by
 unfold BC at h ⊢;cases hst:mJ e with
 |inl x=>rw[hst]at h;exact absurd h (zk hst)|inr t=>
  rw[hst]at h;simp only at h ⊢;obtain⟨hp,h48⟩:=qi hst;have hw:=Gx hst;cases hff:D8 (ffS N e) 0 with
  |false=>rw[hff,o6]at h;exact absurd h (vV.1 hff)|true=>
   simp only[o7];have hIt:∀n∈t.post,fP n.2:=by rw[←hp];exact hI
   have hzt:∀n∈t.post,flS n N=0:=by rw[←hp];exact Zo (eF.1 hff)
   have hfl:=CP t hw hIt hzt;have hws:=OE hD.id t hw hIt hzt;rw[←hfl];refine⟨?_,a4z _ _ (hws.ws [] a5d)⟩;obtain⟨k,L',e1,hk⟩:=hws.st;obtain⟨c,r,e2,-⟩:=hk.ne;rw[e1];simp[bH,e2]
theorem a0l{b:Bool}{x y:Int}(h:l7 b x y=0)(hx:x≠0):b=false/\y=0:=by
 cases b
 .exact⟨rfl,h⟩
 .exact absurd h hx
theorem UX{n:Nat}{p:Nat->Option (Int×Int×Int×Int)}{z:Int×Int×Int×Int}(h:(match cO n p with|some r=>r|none=>z).1=0)(hp:∀i r,p i=some r->r.1≠0):∀i,i<n->p i=none:=
 Nb λr hf=>by rw[hf]at h;obtain⟨j,_,hj⟩:=nN hf;exact hp j r hj h
theorem b1Y(h:(gQ l).1=0):(Az l).1=0:=by
 unfold gQ at h;cases h1:D8 (Az l).1 0<;>rw[h1]at h
 .exact h
 .exact eF.1 h1
theorem b5V(h:(gQ l).1=0):(yz l).1=0:=by
 have h0:=b1Y h;unfold gQ at h;rw[O0 h0,o7]at h;cases h1:D8 (yz l).1 0<;>rw[h1]at h
 .exact h
 .exact eF.1 h1
structure EnV (l:O6) (i:Nat) (e:U2):Prop where
 id:gq e.1=true
 tk:zl l 1 i e.1=false
 ne:e.2≠[]
 le:e.2.length<=16
 mem:∀j m,e.2[j]? =some m->gq m=true/\((e.2.take j).any λx=>seq m x)=false
theorem a7T(h:(gQ l).1=0):l.1.length<=8/\∀i e,l.1[i]? =some e->EnV l i e:=by
 have h1:=b1Y h;unfold Az at h1;cases h2:J4 8 (x9 l.1)<;>rw[h2]at h1
 case true=>exact absurd (show(4:Int)=0 from h1) C9
 rw[o6]at h1;refine⟨by rw[mf]at h2;unfold x9 at h2;omega,λi e he=>?_⟩;have hn:=UX h1 (λj r hj=>by
  unfold Ot at hj;split at hj
  .exact KQ hj
  .cases hj) i (aJ.1 he).1
 unfold Ot at hn;rw[he]at hn;have hz:=XR hn;unfold XN at hz;cases g1:gq e.1<;>rw[g1]at hz
 .exact absurd (show(2:Int)=0 from hz) C9
 cases g2:zl l 1 i e.1<;>rw[g2]at hz
 case true=>exact absurd (show(7:Int)=0 from hz) C9
 cases g3:D8 (x9 e.2) 0<;>rw[g3]at hz
 case true=>exact absurd (show(5:Int)=0 from hz) C9
 cases g4:J4 16 (x9 e.2)<;>rw[g4]at hz
 case true=>exact absurd (show(4:Int)=0 from hz) C9
 simp only[o7,o6]at hz;refine⟨g1,g2,λe0=>?_,by rw[mf]at g4;unfold x9 at g4;omega,λj m hm=>?_⟩
 .rw[e0]at g3;exact absurd g3 C9
 have hf:∀r,cO e.2.length (Tf e.2)≠some r:=λr hf=>by
  have hz' :(match cO e.2.length (Tf e.2)with|some r=>r|none=>(0,0)).1=0:=hz;rw[hf]at hz';obtain⟨q,_,hq⟩:=nN hf;unfold Tf at hq;split at hq
  .rename_i m' _;cases a1:gq m'<;>rw[a1]at hq
   .cases hq;exact absurd (show(2:Int)=0 from hz') C9
   cases a2:(e.2.take q).any λx=>seq m' x<;>rw[a2]at hq
   .cases hq
   .cases hq;exact absurd (show(7:Int)=0 from hz') C9
  .cases hq
 have hj:=Nb hf j (aJ.1 hm).1;unfold Tf at hj;rw[hm]at hj;simp only at hj;cases a1:gq m<;>rw[a1]at hj
 .cases hj
 cases a2:(e.2.take j).any λx=>seq m x<;>rw[a2]at hj
 .exact⟨rfl,rfl⟩
 .cases hj
structure RwV (t:aP) (en:List U2) (x:zq):Prop where
 dv:EZ x.1=true
 dn:x.1.1≠x.1.2
 lh:x.2.1<x.2.2.1
 lo:inB x.2.1 (bnd t.2.1 en)=true
 hi:inB (L6 .i64 x.2.2.1 1) (bnd t.2.1 en)=true
 n:inB x.2.2.2 (bnd t.2.2.1 en)=true
theorem b1Z{t:aP}{x:zq}(h:Oc x (bnd t.2.1 en) (bnd t.2.2.1 en)=false):RwV t en x:=by
 unfold Oc at h;cases g1:EZ x.1<;>rw[g1]at h
 .cases h
 cases g2:D8 x.1.1 x.1.2<;>rw[g2]at h
 case true=>cases h
 cases g3:U7 x.2.2.1 x.2.1<;>rw[g3]at h
 case true=>cases h
 cases g4:inB x.2.1 (bnd t.2.1 en)<;>rw[g4]at h
 .cases h
 cases g5:inB (L6 .i64 x.2.2.1 1) (bnd t.2.1 en)<;>rw[g5]at h
 .cases h
 cases g6:inB x.2.2.2 (bnd t.2.2.1 en)<;>rw[g6]at h
 .cases h
 exact⟨g1,vV.1 g2,Nl.1 g3,g4,g5,g6⟩
structure TbV (l:O6) (i:Nat) (t:aP):Prop where
 id:gq t.1=true
 tk:zl l 2 i t.1=false
 le:t.2.2.2.length<=64
 vk:vty t.2.1 l.1=true
 vv:vty t.2.2.1 l.1=true
 rows:∀x∈t.2.2.2,RwV t l.1 x
theorem Bf(h:(gQ l).1=0):l.2.1.length<=8/\∀i t,l.2.1[i]? =some t->TbV l i t:=by
 have h1:=b5V h;unfold yz at h1;cases h2:J4 8 (x9 l.2.1)<;>rw[h2]at h1
 case true=>exact absurd (show(4:Int)=0 from h1) C9
 rw[o6]at h1;refine⟨by rw[mf]at h2;unfold x9 at h2;omega,λi t he=>?_⟩;have hn:=UX h1 (λj r hj=>by
  unfold Iu at hj;split at hj
  .exact KQ hj
  .cases hj) i (aJ.1 he).1
 unfold Iu at hn;rw[he]at hn;have hz:=XR hn;unfold F_ at hz;cases g1:gq t.1<;>rw[g1]at hz
 .exact absurd (show(2:Int)=0 from hz) C9
 cases g2:zl l 2 i t.1<;>rw[g2]at hz
 case true=>exact absurd (show(7:Int)=0 from hz) C9
 have hc:(Tu t l.1).2=0:=by
  cases g3:D8 (Tu t l.1).2 0<;>rw[g3]at hz
  .exact hz
  .exact eF.1 g3
 unfold Tu at hc;cases g4:J4 64 (x9 t.2.2.2)<;>rw[g4]at hc
 case true=>exact absurd (show(4:Int)=0 from hc) C9
 cases g5:vty t.2.1 l.1<;>rw[g5]at hc
 .exact absurd (show(8:Int)=0 from hc) C9
 cases g6:vty t.2.2.1 l.1<;>rw[g6]at hc
 .exact absurd (show(8:Int)=0 from hc) C9
 simp only[o7,o6]at hc;refine⟨g1,g2,by rw[mf]at g4;unfold x9 at g4;omega,g5,g6,λx hx=>?_⟩;obtain⟨j,hj,e1⟩:=bP hx;have hf:∀r,cO t.2.2.2.length (Xu t l.1)≠some r:=λr hf=>by
  have hc' :(match cO t.2.2.2.length (Xu t l.1)with|some r=>r|none=>(0,0)).2=0:=hc;rw[hf]at hc';obtain⟨q,_,hq⟩:=nN hf;unfold Xu at hq;split at hq
  .rename_i x' _;cases a1:Oc x' (bnd t.2.1 l.1) (bnd t.2.2.1 l.1)<;>rw[a1]at hq
   .cases a2:(t.2.2.2.take q).any λy=>DC y x'<;>rw[a2]at hq
    .cases hq
    .cases hq;exact absurd (show(11:Int)=0 from hc') C9
   .cases hq;exact absurd (show(3:Int)=0 from hc') C9
  .cases hq
 have hj' :=Nb hf j hj;unfold Xu at hj';rw[qC hj,e1]at hj';simp only at hj';cases a1:Oc x (bnd t.2.1 l.1) (bnd t.2.2.1 l.1)<;>rw[a1]at hj'
 .exact b1Z a1
 .cases hj'
structure RuV (s:H6) (sg:O8) (k:Nat) (r:U3):Prop where
 id:gq r.1=true
 nm:((s.2.2.2.2.take k).any λx=>seq x.1 r.1)=false
 df:∃d,P8 s.2.2.2.1 r.2.1=some d/\Jn r sg d.2=0
 pa:r.2.2.1=-1\/∃(p:Nat) (q:U3),r.2.2.1=(p:Int)/\p<k/\s.2.2.2.2[p]? =some q
 p0:0<=r.2.2.2.1
 p9:r.2.2.2.1<=9
 dv:EZ r.2.2.2.2.1=true
 dn:r.2.2.2.2.1.1≠r.2.2.2.2.1.2
 src:QY r.2.2.2.2.2.2.2=true
theorem a3O{sg:O8}(h:EP s sg k r=0):RuV s sg k r:=by
 unfold EP at h;cases g1:gq r.1<;>rw[g1]at h
 .exact absurd (show(2:Int)=0 from h) C9
 cases g2:(s.2.2.2.2.take k).any λx=>seq x.1 r.1<;>rw[g2]at h
 case true=>exact absurd (show(7:Int)=0 from h) C9
 simp only[o7,o6]at h;cases g3:P8 s.2.2.2.1 r.2.1 with
 |none=>rw[g3]at h;exact absurd (show(6:Int)=0 from h) C9|some d=>
  rw[g3]at h;simp only at h;obtain⟨g4,h⟩:=a0l h C9;cases g5:J4 r.2.2.2.1 0<;>rw[g5]at h
  case true=>exact absurd (show(3:Int)=0 from h) C9
  cases g6:J4 9 r.2.2.2.1<;>rw[g6]at h
  case true=>exact absurd (show(3:Int)=0 from h) C9
  cases g7:EZ r.2.2.2.2.1<;>rw[g7]at h
  .exact absurd (show(3:Int)=0 from h) C9
  cases g8:D8 r.2.2.2.2.1.1 r.2.2.2.2.1.2<;>rw[g8]at h
  case true=>exact absurd (show(3:Int)=0 from h) C9
  cases g9:U7 8 (a0q (s.2.2.2.2.take k) r.2.1:Int)<;>rw[g9]at h
  case true=>exact absurd (show(4:Int)=0 from h) C9
  cases g10:QY r.2.2.2.2.2.2.2<;>rw[g10]at h
  .exact absurd (show(2:Int)=0 from h) C9
  simp only[o7,o6]at h;refine⟨g1,g2,⟨d,g3,h⟩,?_,mf.1 g5,mf.1 g6,g7,vV.1 g8,g10⟩;cases a1:D8 r.2.2.1 (-1)<;>rw[a1]at g4
  .rw[o6]at g4;cases a2:J4 r.2.2.1 0<;>rw[a2]at g4
   case true=>cases g4
   rw[o6]at g4;cases a3:U7 (k:Int) r.2.2.1<;>rw[a3]at g4
   case true=>cases g4
   rw[o6]at g4;have b2:=mf.1 a2;have b3:=Nl.1 a3;right;obtain⟨p,hp⟩:∃p:Nat,r.2.2.1=(p:Int):=⟨r.2.2.1.toNat,(fM b2).symm⟩;rw[hp,O5]at g4;cases hq:s.2.2.2.2[p]? with
   |none=>rw[hq]at g4;cases g4|some q=>exact⟨p,q,hp,Int.ofNat_lt.1 (by rw[hp]at b3;exact b3),hq⟩
  .exact .inl (eF.1 a1)
structure FdV (en:List U2) (f:dO) (a b:List dO):Prop where
 id:gq f.1=true
 a:(a.any λx=>seq x.1 f.1)=false
 b:(b.any λx=>seq x.1 f.1)=false
 ty:vty f.2 en=true
theorem Ru{f:dO}{a b:List dO}(h:Fb en f a b=0):FdV en f a b:=by
 unfold Fb at h;cases g1:gq f.1<;>rw[g1]at h
 .exact absurd (show(2:Int)=0 from h) C9
 cases g2:a.any λx=>seq x.1 f.1<;>rw[g2]at h
 case true=>exact absurd (show(7:Int)=0 from h) C9
 cases g3:b.any λx=>seq x.1 f.1<;>rw[g3]at h
 case true=>exact absurd (show(7:Int)=0 from h) C9
 cases g4:vty f.2 en<;>rw[g4]at h
 .exact absurd (show(8:Int)=0 from h) C9
 exact⟨g1,g2,g3,g4⟩
structure ScV (l:O6) (i:Nat) (s:H6):Prop where
 id:gq s.1=true
 tk:zl l 3 i s.1=false
 mb:s.2.1=-1\/∃(p:Nat) (q:H6),s.2.1=(p:Int)/\p<i/\l.2.2[p]? =some q
 li:s.2.2.1.length<=12
 ld:s.2.2.2.1.length<=12
 ins:∀j f,s.2.2.1[j]? =some f->FdV l.1 f (s.2.2.1.take j) []
 defs:∀j f,s.2.2.2.1[j]? =some f->FdV l.1 f s.2.2.1 (s.2.2.2.1.take j)
 rules:∀k r,s.2.2.2.2[k]? =some r->RuV s (ug l s) k r
theorem oJ(h:(gQ l).1=0):l.2.2.length<=4/\∀i s,l.2.2[i]? =some s->ScV l i s:=by
 have h0:=h;refine⟨?_,λi s hs=>?_⟩
 .unfold gQ at h;rw[O0 (b1Y h0),o7,O0 (b5V h0),o7]at h;unfold Lr at h;cases h3:J4 4 (x9 l.2.2)<;>rw[h3]at h
  case true=>exact absurd (show(4:Int)=0 from h) C9
  rw[mf]at h3;unfold x9 at h3;omega
 have he:=WT h hs;unfold En at he;cases g1:gq s.1<;>rw[g1]at he
 .exact absurd (show(2:Int)=0 from he) C9
 cases g2:zl l 3 i s.1<;>rw[g2]at he
 case true=>exact absurd (show(7:Int)=0 from he) C9
 cases g3:JF l i s.2.1<;>rw[g3]at he
 case true=>exact absurd (show(6:Int)=0 from he) C9
 cases g4:J4 12 (x9 s.2.2.1)<;>rw[g4]at he
 case true=>exact absurd (show(4:Int)=0 from he) C9
 cases g5:J4 12 (x9 s.2.2.2.1)<;>rw[g5]at he
 case true=>exact absurd (show(4:Int)=0 from he) C9
 simp only[o7,o6]at he;have hfs:zD l s=none:=by
  unfold QE at he;cases hf:zD l s with
  |none=>rfl|some q=>rw[hf]at he;exact absurd he (Jp hf)
 refine⟨g1,g2,?_,by rw[mf]at g4;unfold x9 at g4;omega,by rw[mf]at g5;unfold x9 at g5;omega,λj f hf=>?_,λj f hf=>?_,λk r hr=>a3O (NZ h hs hr)⟩
 .unfold JF at g3;cases a1:D8 s.2.1 (-1)<;>rw[a1]at g3
  .rw[o6]at g3;cases a2:J4 s.2.1 0<;>rw[a2]at g3
   case true=>cases g3
   rw[o6]at g3;cases a3:U7 (i:Int) s.2.1<;>rw[a3]at g3
   case true=>cases g3
   rw[o6]at g3;have b2:=mf.1 a2;have b3:=Nl.1 a3;right;obtain⟨p,hp⟩:∃p:Nat,s.2.1=(p:Int):=⟨s.2.1.toNat,(fM b2).symm⟩;rw[hp,O5]at g3;cases hq:l.2.2[p]? with
   |none=>rw[hq]at g3;cases g3|some q=>exact⟨p,q,hp,Int.ofNat_lt.1 (by rw[hp]at b3;exact b3),hq⟩
  .exact .inl (eF.1 a1)
 .unfold zD at hfs;have hin:cO s.2.2.1.length (inP l s)=none:=by
   cases hq:cO s.2.2.1.length (inP l s)with
   |none=>rfl|some q=>rw[hq]at hfs;cases hfs
  have hj:=rC hin j (aJ.1 hf).1;unfold inP at hj;rw[hf]at hj;exact Ru (KP hj)
 .unfold zD at hfs;have hdf:cO s.2.2.2.1.length (a0s l s)=none:=by
   cases hq:cO s.2.2.1.length (inP l s)with
   |none=>rw[hq]at hfs;exact hfs|some q=>rw[hq]at hfs;cases hfs
  have hj:=rC hdf j (aJ.1 hf).1;unfold a0s at hj;rw[hf]at hj;exact Ru (KP hj)
def spW(ws:List c5v):c5v:=ws.flatMap (λw=>32::w)
def lnS(first:c5v)(ws:List c5v):c5v:=first++spW ws++[10]
theorem vF(w:c5v)(ws:List c5v):spW (w::ws)=32::w++spW ws:=by simp[spW]
theorem b1C(ws:List c5v)(w:c5v):spW (ws++[w])=spW ws++32::w:=by simp[spW]
theorem a6b(a b:List c5v):spW (a++b)=spW a++spW b:=by simp[spW]
theorem PO{B:Nat} :∀{ws:List c5v},(∀w∈ws,w.length<=B)->(spW ws).length<=ws.length*(B+1)
 |[],_=>by simp[spW]|w::ws,h=>by have h1:=PO (λv hv=>h v (U9 _ hv)) (ws:=ws);have h2:=h w x8;rw[vF];simp only[A7,A8,V4,Nat.one_mul];omega
variable {ws:List c5v}
theorem Hm{B:Nat}{f:c5v}(h:∀w∈ws,w.length<=B):(lnS f ws).length<=f.length+ws.length*(B+1)+1:=by have:=PO h;unfold lnS;simp;omega
theorem ZJ{B:Nat}(h:∀w∈ws,w.length<=B)(n:Nat):(spW (ws.take n)).length<=ws.length*(B+1):=by
 have h1:=PO (ws:=ws.take n) (λw hw=>h w (jE hw));have h2:(ws.take n).length<=ws.length:=by simp;omega
 exact V9 h1 (F8 _ h2)
theorem EG{f:c5v}(hf:f.length<=1000)(hl:ws.length<=1000)(h:∀w∈ws,w.length<=1000000):ai f ws=some (lnS f ws):=by
 unfold ai;refine kL ws (λb a=>b++(32::a)) (λb i=>(b,i)) id (λi b=>b=f++spW (ws.take i)) f l9 (by simp[spW]) (λi a b ha hi hb=>?_) (λb hb=>?_) ?_
 .have hlt:=(aJ.1 ha).1;have hm:=h a (rD ha);have ht:=ZJ h i;have h3:ws.length*(1000000+1)<=1000*1000001:=F8 _ hl;subst hb;simp only[U0 ha,o7,O5,ha,o9];rw[N9 H7,o9,N9 H7,o9,bY l9];refine⟨rfl,?_⟩;rw[aO hlt,b1C,(aJ.1 ha).2];simp
 .simp only[Y1,o6,id]
 .have hfold:∀(l:List c5v) (b:c5v),l.foldl (λb a=>b++(32::a)) b=b++spW l:=by
   intro l;induction l with
   |nil=>intro b;simp[spW]|cons w l ih=>intro b;rw[aF,ih,vF];simp
  have ht:=PO h;have h3:ws.length*(1000000+1)<=1000*1000001:=F8 _ hl;rw[hfold];simp only[id];rw[N9 H7,o9];simp[lnS]
def tyS(t:Int×Int)(en:List U2):c5v:=
 l7 (D8 t.1 1) [98,111,111,108] (l7 (D8 t.1 2) [105,110,116] (l7 (D8 t.1 3) [109,111,110,101,121] (l7 (D8 t.1 4) [114,97,116,101] (l7 (D8 t.1 5) [100,97,116,101] (((P8 en t.2).map (·.1)).getD [])))))
variable {t:Int×Int}
theorem KW(h:vty t en=true)(h6:t.1=6):∃e,P8 en t.2=some e/\e∈en:=by
 unfold vty at h;rw[O0 h6,o7]at h;cases g1:U7 0 t.2<;>rw[g1]at h
 .cases h
 rw[o7]at h;exact tH (iM.1 g1) (wz.1 h)
theorem Dq(h:vty t en=true):(t.1=1/\t.2=0)\/(t.1=2/\t.2=0)\/(t.1=3/\t.2=0)\/(t.1=4/\t.2=0)\/(t.1=5/\t.2=0)\/t.1=6:=by
 unfold vty at h;cases g0:D8 t.1 6<;>rw[g0]at h
 case true=>have:=eF.1 g0;omega
 rw[o6]at h;cases g1:U7 1 t.1<;>rw[g1]at h
 .cases h
 cases g2:U7 t.1 5<;>rw[g2]at h
 .cases h
 have h1:=iM.1 g1;have h2:=iM.1 g2;have h3:=eF.1 h;omega
theorem a6g(h:vty t en=true):jv t en=some (tyS t en):=by
 unfold jv tyS;cases g1:D8 t.1 1
 case true=>rfl
 cases g2:D8 t.1 2
 case true=>rfl
 cases g3:D8 t.1 3
 case true=>rfl
 cases g4:D8 t.1 4
 case true=>rfl
 cases g5:D8 t.1 5
 case true=>rfl
 have h6:t.1=6:=by have:=Dq h;have a1:=vV.1 g1;have a2:=vV.1 g2;have a3:=vV.1 g3;have a4:=vV.1 g4;have a5:=vV.1 g5;omega
 obtain⟨e,he,-⟩:=KW h h6;simp only[o6];rw[he];rfl
theorem b9h(hn:∀e∈en,e.1.length<=80):(tyS t en).length<=80:=by
 unfold tyS;cases D8 t.1 1
 case true=>simp
 cases D8 t.1 2
 case true=>simp
 cases D8 t.1 3
 case true=>simp
 cases D8 t.1 4
 case true=>simp
 cases D8 t.1 5
 case true=>simp
 simp only[o6];cases hl:P8 en t.2 with
 |none=>simp|some e=>exact hn e (ng hl).2.2.1
def enS(d:Int):c5v:=l7 (D8 d 109573) [101,110,100] (aY d)
theorem a8D(d:Int):qX d=some (enS d):=by unfold qX enS;rw[qx,o9];cases D8 d 109573<;>rfl
theorem a8C(d:Int):(enS d).length<=100:=by
 unfold enS;cases D8 d 109573
 .exact CG d
 .simp
def vaS(n:Int)(t:Int×Int)(en:List U2):c5v:=((fK (t.1,t.2,n) en).getD ([],0)).1
theorem Lt{n:Int}(h:fP n)(hm:∀e∈en,e.2.length<=100/\∀m∈e.2,m.length<=100):(vaS n t en).length<=100/\jR n t en=some (vaS n t en)/\∀l:O6,l.1=en->Po n t l=some (vaS n t en):=by
 obtain⟨x,hx,hl⟩:=Cf (B:=100) l9 l9 (v:=(t.1,t.2,n)) h hm;have e:vaS n t en=x.1:=by unfold vaS;rw[hx];rfl
 refine⟨by rw[e];exact hl,?_,λl hle=>?_⟩
 .unfold jR;rw[hx,o9,e]
 .unfold Po;subst hle;rw[←vG _ h,hx,o9,e]
def hiS(t:aP)(r:zq)(en:List U2):c5v:=l7 (U7 r.2.2.1 (bnd t.2.1 en).2) (vaS r.2.2.1 t.2.1 en) [101,110,100]
def Ei(t:aP)(r:zq)(en:List U2):List c5v:=[aY r.1.1,enS r.1.2,vaS r.2.1 t.2.1 en,hiS t r en,vaS r.2.2.2 t.2.2.1 en]
def PW:c5v:=[114,111,119]
structure EnL (en:List U2):Prop where
 n:∀e∈en,e.1.length<=80
 m:∀e∈en,e.2.length<=100/\∀m∈e.2,m.length<=100
theorem Wp{t:aP}{r:zq}(hE:EnL en)(h1:fP r.2.1)(h2:fP r.2.2.1)(h3:fP r.2.2.2):∀w∈Ei t r en,w.length<=100:=by
 intro w hw;simp only[Ei,D7,J5,or_false]at hw;rcases hw with rfl|rfl|rfl|rfl|rfl
 .exact CG _
 .exact a8C _
 .exact(Lt h1 hE.m).1
 .unfold hiS;cases U7 r.2.2.1 (bnd t.2.1 en).2
  .simp
  .exact(Lt h2 hE.m).1
 .exact(Lt h3 hE.m).1
theorem b7b{t:aP}{r:zq}(hE:EnL en)(h1:fP r.2.1)(h2:fP r.2.2.1)(h3:fP r.2.2.2):uZ t r en=some (lnS PW (Ei t r en)):=by have hl:=Wp (t:=t) hE h1 h2 h3;unfold uZ;rw[CY,o9,qx,a8D,(Lt (t:=t.2.1) h1 hE.m).2.1,(Lt (t:=t.2.1) h2 hE.m).2.1,(Lt (t:=t.2.2.1) h3 hE.m).2.1];have hq:=EG (f:=PW) (ws:=Ei t r en) C9 (by simp[Ei]) (λw hw=>V9 (hl w hw) l9);unfold Ei hiS PW at hq;unfold Ei hiS PW;cases g:U7 r.2.2.1 (bnd t.2.1 en).2<;>rw[g]at hq<;>simp only[o7,o6,o9]at hq ⊢<;>rw[hq]<;>rfl
def dnS(s:H6)(r:U3):c5v:=((P8 s.2.2.2.1 r.2.1).map (·.1)).getD []
def ovS(s:H6)(r:U3):List c5v:=l7 (U7 0 r.2.2.1) [[111,118,101,114],((P8 s.2.2.2.2 r.2.2.1).map (·.1)).getD []] []
def prS(r:U3):List c5v:=l7 (J4 0 r.2.2.2.1) [[112,114,105,111],Lib.itoa r.2.2.2.1] []
def daS(r:U3):List c5v:=[[102,114,111,109],aY r.2.2.2.2.1.1,[116,111],enS r.2.2.2.2.1.2]
def guS(r:U3)(N:D9):List c5v:=l7 (J4 0 (x9 r.2.2.2.2.2.1)) [[119,104,101,110],(BC r.2.2.2.2.2.1 N).1] []
def isS(r:U3)(N:D9):List c5v:=[[105,115],(BC r.2.2.2.2.2.2.1 N).1]
def soS(r:U3):List c5v:=l7 (seq r.2.2.2.2.2.2.2 []) [] [[115,114,99],34::r.2.2.2.2.2.2.2++[34]]
def ruW(s:H6)(r:U3)(N:D9):List c5v:=[r.1,[111,102],dnS s r]++ovS s r++prS r++daS r++guS r N++isS r N++soS r
def Am:c5v:=[114,117,108,101]
structure RuL (s:H6) (r:U3):Prop where
 n:r.1.length<=80
 d:∀d∈s.2.2.2.1,d.1.length<=80
 q:∀q∈s.2.2.2.2,q.1.length<=80
 g:∀n∈r.2.2.2.2.2.1,fP n.2
 v:∀n∈r.2.2.2.2.2.2.1,fP n.2
 s:r.2.2.2.2.2.2.2.length<=64
theorem YZ{b:Bool}{x y:List α}{P:α->Prop}(hx:∀w∈x,P w)(hy:∀w∈y,P w):∀w∈l7 b x y,P w:=by
 cases b
 .exact hy
 .exact hx
theorem a5L(h:RuL s r)(hN:NmOk N)(hp:fP r.2.2.2.1):∀w∈ruW s r N,w.length<=150000:=by
 have hdn:(dnS s r).length<=80:=by
  unfold dnS;cases hl:P8 s.2.2.2.1 r.2.1 with
  |none=>simp|some d=>exact h.d d (ng hl).2.2.1
 have hpn:(((P8 s.2.2.2.2 r.2.2.1).map (·.1)).getD []).length<=80:=by
  cases hl:P8 s.2.2.2.2 r.2.2.1 with
  |none=>simp|some d=>exact h.q d (ng hl).2.2.1
 have hit:=Jy hp;have hd1:=CG r.2.2.2.2.1.1;have hd2:=a8C r.2.2.2.2.1.2;have hg:=a4X hN h.g;have hv:=a4X hN h.v;have hn:=h.n;have hs:=h.s;unfold ruW;intro w hw;simp only[F9]at hw;rcases hw with(((((hw|hw)|hw)|hw)|hw)|hw)|hw
 .simp only[D7,J5,or_false]at hw;rcases hw with rfl|rfl|rfl
  .omega
  .simp
  .omega
 .refine YZ (P:=λw=>w.length<=150000) (λw hw=>?_) (λw hw=>by cases hw) w hw;simp only[D7,J5,or_false]at hw;rcases hw with rfl|rfl
  .simp
  .omega
 .refine YZ (P:=λw=>w.length<=150000) (λw hw=>?_) (λw hw=>by cases hw) w hw;simp only[D7,J5,or_false]at hw;rcases hw with rfl|rfl
  .simp
  .omega
 .simp only[daS,D7,J5,or_false]at hw;rcases hw with rfl|rfl|rfl|rfl
  .simp
  .omega
  .simp
  .omega
 .refine YZ (P:=λw=>w.length<=150000) (λw hw=>?_) (λw hw=>by cases hw) w hw;simp only[D7,J5,or_false]at hw;rcases hw with rfl|rfl
  .simp
  .omega
 .simp only[isS,D7,J5,or_false]at hw;rcases hw with rfl|rfl
  .simp
  .omega
 .refine YZ (P:=λw=>w.length<=150000) (λw hw=>by cases hw) (λw hw=>?_) w hw;simp only[D7,J5,or_false]at hw;rcases hw with rfl|rfl
  .simp
  .simp;omega
theorem a5K(s:H6)(r:U3)(N:D9):(ruW s r N).length<=17:=by unfold ruW ovS prS daS guS isS soS;cases U7 0 r.2.2.1<;>cases J4 0 r.2.2.2.1<;>cases J4 0 (x9 r.2.2.2.2.2.1)<;>cases seq r.2.2.2.2.2.2.2 []<;>simp
theorem a5P{s:c5v}(h:s.length<=64):(ak [34] s)=some (34::s)/\ak (34::s) [34]=some (34::s++[34]):=
 ⟨by rw[N9 H7];rfl,by rw[N9 H7]⟩
theorem Zw{p:Int}(h0:0<=p)(h9:p<=9):fP p:=by unfold fP;omega
theorem a7x{p:Int}(h:0<=p):I5 (D8 p 0)=J4 0 p:=by
 cases g:J4 0 p
 .have:=mf.1 g;rw[O0 (show p=0 by omega)];rfl
 .have:=wz.1 g;rw[J8 (show p≠0 by omega)];rfl
theorem b3G{sg:O8}(hv:RuV s sg k r)(h:RuL s r)(hN:NmOk N):qj s r N=some (lnS Am (ruW s r N)):=by
 obtain⟨d,hd,-⟩:=hv.df;have hp:fP r.2.2.2.1:=Zw hv.p0 hv.p9;have hw:=a5L (s:=s) (r:=r) (N:=N) h hN hp;have hc:=a5K s r N;have hq:=EG (f:=Am) (ws:=ruW s r N) C9 l9 (λw hx=>V9 (hw w hx) l9);unfold qj;rw[hd,o9,qx,a8D,a2T hN h.g,a2T hN h.v,jh hp];simp only[o9,(a5P h.s).1,(a5P h.s).2];have hdn:dnS s r=d.1:=by unfold dnS;rw[hd];rfl
 have hpr:I5 (D8 r.2.2.2.1 0)=J4 0 r.2.2.2.1:=a7x hv.p0;rw[hpr];unfold ruW ovS prS daS guS isS soS Am at hq;unfold ruW ovS prS daS guS isS soS Am;rw[hdn]at hq ⊢;have hpq:U7 0 r.2.2.1=true->∃q,P8 s.2.2.2.2 r.2.2.1=some q:=λg=>by
  rcases hv.pa with hm|⟨p,q,e,-,hq2⟩
  .rw[hm]at g;exact absurd g C9
  .exact⟨q,by rw[e,O5];exact hq2⟩
 cases g1:U7 0 r.2.2.1
 case true=>
  obtain⟨q,hq2⟩:=hpq g1;rw[g1,hq2]at hq;rw[hq2];cases g2:J4 0 r.2.2.2.1<;>cases g3:J4 0 (x9 r.2.2.2.2.2.1)<;>cases g4:seq r.2.2.2.2.2.2.2 []<;>rw[g2,g3,g4]at hq <;>
   simp only[o7,o6,F5,af,o9,ah,X8,E9,G9,G8]at hq ⊢ <;>
   simp only[uM,o9,G9,G8,A8,F6,Nat.reduceAdd,Nat.reduceLeDiff]<;>rw[hq]<;>rfl
 case false=>
  rw[g1]at hq;cases g2:J4 0 r.2.2.2.1<;>cases g3:J4 0 (x9 r.2.2.2.2.2.1)<;>cases g4:seq r.2.2.2.2.2.2.2 []<;>rw[g2,g3,g4]at hq <;>
   simp only[o7,o6,F5,af,o9,ah,X8,E9,G9,G8]at hq ⊢ <;>
   simp only[uM,o9,G9,G8,A8,F6,Nat.reduceAdd,Nat.reduceLeDiff]<;>rw[hq]<;>rfl
theorem b2B{g:α->c5v}{l:List α}{a:α}(ha:l[i]? =some a):(l.take (i+1)).flatMap g=(l.take i).flatMap g++g a/\((l.take i).flatMap g).length+(g a).length<=(l.flatMap g).length:=by
 have hlt:=(aJ.1 ha).1;have e1:l.take (i+1)=l.take i++[a]:=by rw[aO hlt,(aJ.1 ha).2]
 have e2:l=l.take (i+1)++l.drop (i+1):=(gB _ _).symm;refine⟨by rw[e1];simp,?_⟩;have e3:(l.flatMap g).length=((l.take (i+1)).flatMap g).length+((l.drop (i+1)).flatMap g).length:=by
  conv=>lhs;rw[e2]
  rw[List.flatMap_append,A7]
 rw[e3,e1,List.flatMap_append,A7];simp only[dH,List.flatMap_nil,E9];omega
theorem Dv{α γ:Type}(l:List α)(g:α->c5v)(hl:l.length<=1000000)(b:c5v)(hb:b.length+(l.flatMap g).length<=1000000000)
  {f:c5v×Int->Option ((c5v×Int)⊕c5v)} {K:c5v->Option γ} {r:Option γ}
  (hin:∀(i:Nat) (a:α) (acc:c5v),l[i]? =some a->i<=1000000->acc.length+(g a).length<=1000000000->f (acc,(i:Int))=some (.inl (acc++g a,((i+1:Nat):Int))))
  (hend:∀acc,f (acc,(l.length:Int))=some (.inr acc)) (hk:K (b++l.flatMap g)=r):o5 (fF f (b,0)) K=r:=by
 refine kL l (λb a=>b++g a) (λb i=>(b,i)) id (λi acc=>acc=b++(l.take i).flatMap g) b hl x8 (λi a acc ha hi hI=>?_) (λacc hI=>hend acc) (λ_=>?_)
 .obtain⟨h1,h2⟩:=b2B (g:=g) ha;subst hI;refine⟨hin i a _ ha hi (by rw[A7];omega),?_⟩;rw[h1,E8]
 .have hfold:∀(l:List α) (b:c5v),l.foldl (λb a=>b++g a) b=b++l.flatMap g:=by
   intro l;induction l with
   |nil=>intro b;simp|cons w l ih=>intro b;rw[aF,ih];simp
  rw[hfold];exact hk
theorem GK{a x:c5v}(h:a.length+x.length<=1000000000):ig a x=some (x9 x,(),a++x):=by unfold ig;rw[if_pos l9];rfl
end
section
def ML:c5v:=[101,110,117,109]
def Fz:c5v:=[116,97,98,108,101]
def Ep:c5v:=[115,99,111,112,101]
def vH:c5v:=[109,101,109,98,101,114,115]
def vY:c5v:=[105,110,112,117,116]
def IW:c5v:=[100,101,102]
def enT(e:U2):c5v:=lnS ML (e.1::e.2)
def roT(l:O6)(t:aP)(r:zq):c5v:=lnS PW (Ei t r l.1)
def tbH(l:O6)(t:aP):c5v:=lnS Fz [t.1,tyS t.2.1 l.1,tyS t.2.2.1 l.1]
def tbT(l:O6)(t:aP):c5v:=tbH l t++t.2.2.2.flatMap (roT l t)
def meN(l:O6)(s:H6):c5v:=((P8 l.2.2 s.2.1).map (·.1)).getD []
def meT(l:O6)(s:H6):c5v:=l7 (U7 0 s.2.1) (lnS vH [meN l s]) []
def fdT(w:c5v)(l:O6)(f:dO):c5v:=lnS w [f.1,tyS f.2 l.1]
def ruT(l:O6)(s:H6)(r:U3):c5v:=lnS Am (ruW s r (nmS l s))
def scH(s:H6):c5v:=lnS Ep [s.1]
def scT(l:O6)(s:H6):c5v:=scH s++meT l s++s.2.2.1.flatMap (fdT vY l)++s.2.2.2.1.flatMap (fdT IW l)++s.2.2.2.2.flatMap (ruT l s)
def txL(l:O6):c5v:=l.1.flatMap enT++l.2.1.flatMap (tbT l)++l.2.2.flatMap (scT l)
structure FmL (l:O6):Prop where
 v:(gQ l).1=0
 n:NmL l
 w:WfL l
theorem uu{α:Type}{g:α->c5v}{B:Nat} :∀{l:List α},(∀a∈l,(g a).length<=B)->(l.flatMap g).length<=l.length*B
 |[],_=>by simp|a::l,h=>by have h1:=uu (g:=g) (B:=B) (l:=l) (λx hx=>h x (U9 _ hx));have h2:=h a x8;rw[dH,A7,A8,V4,Nat.one_mul];omega
variable {s:H6}{t:aP}
section
variable {l:O6} (h:FmL l)
include h
theorem Zt:EnL l.1:=⟨λe he=>(h.n.e e he).2.1,λe he=>⟨by have:=(h.n.e e he).1;omega,λm hm=>by have:=(h.n.e e he).2.2 m hm;omega⟩⟩
theorem XW{t:Int×Int} :(tyS t l.1).length<=80:=b9h (Zt h).n
theorem Zm{e:U2}(he:e∈l.1):(∀w∈e.1::e.2,w.length<=80)/\(e.1::e.2).length<=21/\(enT e).length<=1800:=by
 have h1:=h.n.e e he;have hw:∀w∈e.1::e.2,w.length<=80:=λw hw=>by
  rcases D7.1 hw with rfl|hw
  .exact h1.2.1
  .exact h1.2.2 w hw
 have hc:(e.1::e.2).length<=21:=by simp only[A8];omega
 have:=Hm (f:=ML) hw;have h3:(e.1::e.2).length*(80+1)<=21*81:=F8 _ hc;exact⟨hw,hc,by unfold enT;simp only[ML,A8,F6]at this ⊢;simp only[A8]at h3;omega⟩
theorem TW(ht:t∈l.2.1){r:zq}(hr:r∈t.2.2.2):a8b r:=h.w.ri t ht r hr
theorem b3F(ht:t∈l.2.1){r:zq}(hr:r∈t.2.2.2):(roT l t r).length<=600:=by obtain⟨h1,h2,h3⟩:=TW h ht hr;have:=Hm (f:=PW) (Wp (t:=t) (Zt h) h1 h2 h3);unfold roT;simp only[PW,Ei,A8,F6]at this ⊢;omega
theorem tb3(ht:t∈l.2.1):∀w∈[t.1,tyS t.2.1 l.1,tyS t.2.2.1 l.1],w.length<=80:=by
 intro w hw;simp only[D7,J5,or_false]at hw;rcases hw with rfl|rfl|rfl
 .exact h.n.t t ht
 .exact XW h
 .exact XW h
theorem b4l(ht:t∈l.2.1):(tbH l t).length<=300:=by have:=Hm (f:=Fz) (tb3 h ht);unfold tbH;simp only[Fz,A8,F6]at this ⊢;omega
theorem b4n(ht:t∈l.2.1):t.2.2.2.length<=64:=by obtain⟨i,hi,e⟩:=bP ht;exact((Bf h.v).2 i t (by rw[qC hi,e])).le
theorem b4m(ht:t∈l.2.1):(tbT l t).length<=40000:=by have h1:=b4l h ht;have h2:=uu (g:=roT l t) (B:=600) (l:=t.2.2.2) (λr hr=>b3F h ht hr);have h3:=F8 600 (b4n h ht);unfold tbT;rw[A7];omega
theorem b5A(hs:s∈l.2.2):∃i,l.2.2[i]? =some s/\ScV l i s:=by
 obtain⟨i,hi,e⟩:=bP hs;have he:l.2.2[i]? =some s:=by rw[qC hi,e]
 exact⟨i,he,(oJ h.v).2 i s he⟩
theorem u_(hs:s∈l.2.2):s.1.length<=80:=by
 obtain⟨i,-,hv⟩:=b5A h hs;have:=hv.id;unfold gq at this;cases hc:s.1 with
 |nil=>simp|cons c r=>rw[hc]at this;simp only[D5,decide_eq_true_eq]at this;omega
theorem TC{w:c5v}(hw:w.length<=10){f:dO}(hf:f.1.length<=80):(∀v∈[f.1,tyS f.2 l.1],v.length<=80)/\(fdT w l f).length<=200:=by
 have h2:∀v∈[f.1,tyS f.2 l.1],v.length<=80:=by
  intro v hv;simp only[D7,J5,or_false]at hv;rcases hv with rfl|rfl
  .exact hf
  .exact XW h
 have:=Hm (f:=w) h2;refine⟨h2,?_⟩;unfold fdT;simp only[A8,F6]at this ⊢;omega
theorem p_(hs:s∈l.2.2){r:U3}(hr:r∈s.2.2.2.2):RuL s r/\NmOk (nmS l s)/\(∃k,RuV s (ug l s) k r)/\(ruT l s r).length<=2550100:=by
 obtain⟨i,hi,hv⟩:=b5A h hs;obtain⟨k,hk,e⟩:=bP hr;have hru:=hv.rules k r (by rw[qC hk,e]);obtain⟨-,-,-,n4,n5,n6⟩:=h.n.s s hs;have hI:=h.w.si s hs r hr;have hsrc:r.2.2.2.2.2.2.2.length<=64:=by have:=hru.src;unfold QY at this;simp only[D5,decide_eq_true_eq]at this;exact this.1
 have hL:RuL s r:=⟨n6 r hr,n5,n6,hI.1,hI.2,hsrc⟩;have hN:=c5d h.n hs;have h1:=Hm (f:=Am) (a5L hL hN (Zw hru.p0 hru.p9));have h2:=F8 150001 (a5K s r (nmS l s));refine⟨hL,hN,⟨k,hru⟩,?_⟩;unfold ruT;simp only[Am,A8,F6]at h1 ⊢;omega
theorem a9j(hs:s∈l.2.2):(meN l s).length<=80/\(meT l s).length<=100:=by
 have h1:(meN l s).length<=80:=by
  unfold meN;cases hl:P8 l.2.2 s.2.1 with
  |none=>simp|some q=>exact u_ h (ng hl).2.2.1
 refine⟨h1,?_⟩;unfold meT;cases U7 0 s.2.1
 .simp
 .have:=Hm (f:=vH) (ws:=[meN l s]) (B:=80) (λw hw=>by rw[V7.1 hw];exact h1);simp only[o7,vH,A8,F6]at this ⊢;omega
theorem t_(hs:s∈l.2.2):(∀w∈[s.1],w.length<=80)/\(scH s).length<=100:=by
 have h1:∀w∈[s.1],w.length<=80:=λw hw=>by rw[V7.1 hw];exact u_ h hs
 have:=Hm (f:=Ep) h1;refine⟨h1,?_⟩;unfold scH;simp only[Ep,A8,F6]at this ⊢;omega
theorem a4V(hs:s∈l.2.2):(s.2.2.1.flatMap (fdT vY l)).length<=2800/\(s.2.2.2.1.flatMap (fdT IW l)).length<=2800:=by obtain⟨n1,n2,n3,n4,n5,n6⟩:=h.n.s s hs;have h1:=uu (g:=fdT vY l) (B:=200) (l:=s.2.2.1) (λf hf=>(TC h C9 (n4 f hf)).2);have h2:=uu (g:=fdT IW l) (B:=200) (l:=s.2.2.2.1) (λf hf=>(TC h C9 (n5 f hf)).2);have h3:=F8 200 n1;have h4:=F8 200 n2;omega
theorem a5N(hs:s∈l.2.2):(s.2.2.2.2.flatMap (ruT l s)).length<=244815600:=by obtain⟨n1,n2,n3,n4,n5,n6⟩:=h.n.s s hs;have h1:=uu (g:=ruT l s) (B:=2550100) (l:=s.2.2.2.2) (λr hr=>(p_ h hs hr).2.2.2);have h3:=F8 2550100 n3;omega
theorem b3R(hs:s∈l.2.2):(scT l s).length<=244830000:=by have h1:=(t_ h hs).2;have h2:=(a9j h hs).2;have h3:=a4V h hs;have h4:=a5N h hs;unfold scT;simp only[A7];omega
end
end
section
theorem l1k{w:List c5v}{B:Nat}(hB:B<=1000000)(h:∀v∈w,v.length<=B):∀v∈w,v.length<=1000000:=λv hv=>V9 (h v hv) hB
variable {l:O6}
theorem a6G(h:FmL l):(l.1.flatMap enT).length<=20000:=by have h1:=uu (g:=enT) (B:=1800) (l:=l.1) (λe he=>(Zm h he).2.2);have h2:=F8 1800 h.n.ne;omega
theorem a4o(h:FmL l):(l.2.1.flatMap (tbT l)).length<=400000:=by have h1:=uu (g:=tbT l) (B:=40000) (l:=l.2.1) (λt ht=>b4m h ht);have h2:=F8 40000 h.n.nt;omega
theorem a3X(h:FmL l):(l.2.2.flatMap (scT l)).length<=979320000:=by have h1:=uu (g:=scT l) (B:=244830000) (l:=l.2.2) (λs hs=>b3R h hs);have h2:=F8 244830000 (oJ h.v).1;omega
def foS(l:O6):c5v×nZ:=l7 (D8 (gQ l).1 0) (l7 (J4 65536 (x9 (txL l))) ([],4,0,0,0) (txL l,0,0,0,0)) ([],gQ l)
section
variable {l:O6} (h:FmL l)
include h
theorem b9F{i:Nat}{s:H6}(hs:l.2.2[i]? =some s)(acc:c5v)(ha:acc.length+(scT l s).length<=1000000000)(hi:i<=1000000):
  (o5 (ai [115,99,111,112,101] [s.1]) λ(x_2:c5v)=>
          o5 (ig acc x_2) λ(x_3:Int×PUnit×c5v)=>
           o5
            (l7 (U7 0 s.2.1)
             (o5 (P8 l.2.2 s.2.1) λ(x:H6)=>
              o5 (ai [109,101,109,98,101,114,115] [x.1]) λ(x:c5v)=>
               o5 (ig x_3.2.2 x) λ(x:Int×PUnit×c5v)=>some x.2.2)
             (some x_3.2.2))
            λ(x_4:c5v)=>
            o5
             (fF
              (λ(x:c5v×Int)=>
               l7 (J4 x.2 (x9 s.2.2.1))
                (o5 (P8 s.2.2.1 x.2) λ(x_5:dO)=>
                 o5 (jv x_5.2 l.1) λ(x_6:c5v)=>
                  o5 (ai [105,110,112,117,116] [x_5.1,x_6])
                   λ(x_7:c5v)=>
                   o5 (ig x.1 x_7) λ(x_8:Int×PUnit×c5v)=>
                    some (Sum.inl (x_8.2.2,I8 IntKind.i64 x.2 1)))
                (some (Sum.inr x.1)))
              (x_4,0))
             λ(y:c5v)=>
             o5
              (fF
               (λ(x:c5v×Int)=>
                l7 (J4 x.2 (x9 s.2.2.2.1))
                 (o5 (P8 s.2.2.2.1 x.2) λ(x_5:dO)=>
                  o5 (jv x_5.2 l.1) λ(x_6:c5v)=>
                   o5 (ai [100,101,102] [x_5.1,x_6]) λ(x_7:c5v)=>
                    o5 (ig x.1 x_7) λ(x_8:Int×PUnit×c5v)=>
                     some (Sum.inl (x_8.2.2,I8 IntKind.i64 x.2 1)))
                 (some (Sum.inr x.1)))
               (y,0))
              λ(y:c5v)=>
              o5 (jm l (i:Int)) λ(x_5:D9)=>
               o5
                (fF
                 (λ(x:c5v×Int)=>
                  l7 (J4 x.2 (x9 s.2.2.2.2))
                   (o5 (P8 s.2.2.2.2 x.2) λ(x_6:U3)=>
                    o5 (qj s x_6 x_5) λ(x_7:c5v)=>
                     o5 (ig x.1 x_7) λ(x_8:Int×PUnit×c5v)=>
                      some (Sum.inl (x_8.2.2,I8 IntKind.i64 x.2 1)))
                   (some (Sum.inr x.1)))
                 (y,0))
                λ(y:c5v)=>some (Sum.inl (y,I8 IntKind.i64 (i:Int) 1)))
  =some ((Sum.inl (acc++scT l s,((i+1:Nat):Int)):(c5v×Int)⊕c5v)):=by
 have hm:=rD hs;have hV:=(oJ h.v).2 i s hs;have hH:=t_ h hm;have hM:=a9j h hm;have hF:=a4V h hm;have hR:=a5N h hm;obtain⟨n1,n2,n3,n4,n5,n6⟩:=h.n.s s hm;have ha' :acc.length+((scH s).length+(meT l s).length+(s.2.2.1.flatMap (fdT vY l)).length+(s.2.2.2.1.flatMap (fdT IW l)).length+(s.2.2.2.2.flatMap (ruT l s)).length)<=1000000000:=by unfold scT at ha;simp only[A7]at ha;omega
 have e1:ai [115,99,111,112,101] [s.1]=some (scH s):=EG (f:=Ep) C9 x8 (l1k l9 hH.1);rw[e1,o9,GK l9,o9];have e2:(l7 (U7 0 s.2.1)
             (o5 (P8 l.2.2 s.2.1) λ(x:H6)=>
              o5 (ai [109,101,109,98,101,114,115] [x.1]) λ(x:c5v)=>
               o5 (ig (acc++scH s) x) λ(x:Int×PUnit×c5v)=>some x.2.2)
             (some (acc++scH s)))=some (acc++scH s++meT l s):=by
  unfold meT;rcases hV.mb with hm1|⟨p,q,e,-,hq⟩
  .rw[hm1];simp[U7]
  .have e3:P8 l.2.2 s.2.1=some q:=by rw[e,O5];exact hq
   have e4:meN l s=q.1:=by unfold meN;rw[e3];rfl
   have e5:ai [109,101,109,98,101,114,115] [q.1]=some (lnS vH [q.1]):=EG (f:=vH) C9 x8 (λw hw=>by rw[V7.1 hw,←e4];omega);have e6:U7 0 s.2.1=true:=by rw[e];exact Y7 l9
   have e7:(meT l s).length=(lnS vH [q.1]).length:=by unfold meT;rw[e6,e4];rfl
   rw[e6,o7,e3,o9,e5,o9,GK H7,o9,e4];rfl
 rw[e2,o9];refine Dv s.2.2.1 (fdT vY l) l9 _ (by simp only[A7];omega) (λj f b hf hj hb=>?_) (λb=>by simp only[Y1,o6]) ?_
 .have hfm:=rD hf;have hv:=(hV.ins j f hf).ty;have hl:=TC h (w:=vY) C9 (n4 f hfm);have e3:ai [105,110,112,117,116] [f.1,tyS f.2 l.1]=some (fdT vY l f):=EG (f:=vY) C9 x8 (l1k l9 hl.1);simp only[U0 hf,o7,O5,hf,o9,a6g hv,e3,GK hb,bY (show j<=9000000000000000000 by omega)]
 refine Dv s.2.2.2.1 (fdT IW l) l9 _ (by simp only[A7];omega) (λj f b hf hj hb=>?_) (λb=>by simp only[Y1,o6]) ?_
 .have hfm:=rD hf;have hv:=(hV.defs j f hf).ty;have hl:=TC h (w:=IW) C9 (n5 f hfm);have e3:ai [100,101,102] [f.1,tyS f.2 l.1]=some (fdT IW l f):=EG (f:=IW) C9 x8 (l1k l9 hl.1);simp only[U0 hf,o7,O5,hf,o9,a6g hv,e3,GK hb,bY (show j<=9000000000000000000 by omega)]
 rw[a1b h.n (k:=(i:Int)) (by rw[O5];exact hs),o9];refine Dv s.2.2.2.2 (ruT l s) l9 _ (by simp only[A7];omega) (λj r b hr hj hb=>?_) (λb=>by simp only[Y1,o6]) ?_
 .obtain⟨a1,a2,⟨k,a3⟩,a4⟩:=p_ h hm (rD hr);have e3:qj s r (nmS l s)=some (ruT l s r):=b3G a3 a1 a2;simp only[U0 hr,o7,O5,hr,o9,e3,GK hb,bY (show j<=9000000000000000000 by omega)]
 rw[bY l9];unfold scT;simp only[E8]
end
end
section
variable {l:O6}
theorem c5r(h:(gQ l).1=0):gQ l=(0,0,0,0):=c5s h
variable {a:c5v}
theorem Uw(h:a.length<=1000000000):yP a=some (a,a):=by unfold yP;rw[if_pos l9]
theorem a6M(hS:SmL l)(h:(gQ l).1=0->FmL l):qH l=some (foS l):=by
 unfold qH foS;rw[SK hS,o9];cases g:D8 (gQ l).1 0
 .simp only[af,o7,o6]
 simp only[F5,o7,o6];have h:=h (eF.1 g);have hE:=a6G h;have hT:=a4o h;have hC:=a3X h;refine Dv l.1 enT (by have:=h.n.ne;omega) _ (by simp only[F6];omega) (λj e b he hj hb=>?_) (λb=>by simp only[Y1,o6]) ?_
 .obtain⟨a1,a2,a3⟩:=Zm h (rD he);have hle:iy [e.1] e.2=some (e.1::e.2):=by rw[uM (by simp only[A8,F6]at a2 ⊢;omega)];rfl
  have e3:ai [101,110,117,109] (e.1::e.2)=some (enT e):=EG (f:=ML) C9 l9 (l1k l9 a1);simp only[U0 he,o7,O5,he,o9,hle,e3,GK hb,bY (show j<=9000000000000000000 by omega)]
 refine Dv l.2.1 (tbT l) (by have:=h.n.nt;omega) _ (by simp only[G8];omega) (λj t b ht hj hb=>?_) (λb=>by simp only[Y1,o6]) ?_
 .have hm:=rD ht;have hV:=(Bf h.v).2 j t ht;have h3:=tb3 h hm;have hl:(tbH l t).length+(t.2.2.2.flatMap (roT l t)).length=(tbT l t).length:=by unfold tbT;rw[A7]
  have e3:ai [116,97,98,108,101] [t.1,tyS t.2.1 l.1,tyS t.2.2.1 l.1]=some (tbH l t):=EG (f:=Fz) C9 x8 (l1k l9 h3);simp only[U0 ht,o7,O5,ht,o9,a6g hV.vk,a6g hV.vv,e3];rw[GK l9,o9];refine Dv t.2.2.2 (roT l t) (by have:=hV.le;omega) _ (by simp only[A7];omega) (λi r c hr hi hc=>?_) (λb=>by simp only[Y1,o6]) ?_
  .obtain⟨i1,i2,i3⟩:=TW h hm (rD hr);have e4:uZ t r l.1=some (roT l t r):=b7b (Zt h) i1 i2 i3;simp only[U0 hr,o7,O5,hr,o9,e4,GK hc,bY (show i<=9000000000000000000 by omega)]
  .rw[bY l9];unfold tbT;simp only[E8]
 refine Dv l.2.2 (scT l) (by have:=(oJ h.v).1;omega) _ (by simp only[A7,G8];omega) (λj s b hs hj hb=>?_) (λb=>by simp only[Y1,o6]) ?_
 .simp only[U0 hs,o7,O5,hs,o9];exact b9F h hs b hb hj
 .have e5:[]++l.1.flatMap enT++l.2.1.flatMap (tbT l)++l.2.2.flatMap (scT l)=txL l:=rfl;rw[e5];have e6:(txL l).length<=1000000000:=by unfold txL;simp only[A7];omega
  unfold Oe;rw[o9,Uw e6];simp only[o9];show l7 (J4 65536 (x9 (txL l))) _ _=_;cases J4 65536 (x9 (txL l))<;>rfl
theorem b4L(h1:smL l=true)(hw:WfL l)(hv:(gQ l).1=0):FmL l:=⟨hv,b6C h1 hw,hw⟩
theorem Gm{α β:Type}{o:Option α}{K:α->Option β}{r:β}(h:o5 o K=some r):∃a,o=some a/\K a=some r:=by
 cases o with
 |none=>cases h|some a=>exact⟨a,rfl,h⟩
variable {n:Int×Int}
theorem a7F{ops:List (Int×Int)}{sg:O8}(h:(a1B n ops sg).2=0)(hr:∃r,xE n ops sg=some r):
  (n.2=0\/dZ n.1=some true)/\lM n sg=some true/\qg n sg=some true:=by
 obtain⟨r,e⟩:=hr;have h0:r.2=0:=by unfold a1B at h;rw[e]at h;exact h
 unfold xE at e;obtain⟨o,e1,e⟩:=Gm e;cases o with
 |inr q=>
  cases (show some q=some r from e);cases g:D8 n.2 0
  .rw[g,af,o7]at e1;obtain⟨b,e2,e1⟩:=Gm e1;cases b
   .cases e1;exact absurd (show(2:Int)=0 from h0) C9
   .cases e1
  .rw[g,F5,o6]at e1;cases e1
 |inl x=>
  have hm:n.2=0\/dZ n.1=some true:=by
   cases g:D8 n.2 0
   .rw[g,af,o7]at e1;obtain⟨b,e2,e1⟩:=Gm e1;cases b
    .cases e1
    .exact .inr e2
   .exact .inl (eF.1 g)
  have e:(o5 (lM n sg) λ(x:Bool)=>_)=some r:=e;obtain⟨b,e2,e⟩:=Gm e;cases b
  .cases (show some (((0,0),3):(Int×Int)×Int)=some r from e);exact absurd (show(3:Int)=0 from h0) C9
  simp only[F5,o6]at e;obtain⟨b,e3,e⟩:=Gm e;cases b
  .cases (show some (((0,0),6):(Int×Int)×Int)=some r from e);exact absurd (show(6:Int)=0 from h0) C9
  exact⟨hm,e2,e3⟩
theorem a7M(l:O6)(s:H6):(ug l s).1=(nmS l s).1/\x9 (ug l s).2.1=x9 (nmS l s).2.1/\x9 (ug l s).2.2.1=x9 (nmS l s).2.2.1/\x9 (ug l s).2.2.2.1=x9 (nmS l s).2.2.2.1/\x9 (ug l s).2.2.2.2.1=x9 (nmS l s).2.2.2.2:=by
 have e:∀q:Option H6,(if 0<=s.2.1 then l.2.2[s.2.1.toNat]? else none)=q->(nmS l s).2.2.2.2=(match q with|some q=>q.2.2.2.1.map (·.1)|none=>[]):=by
  rintro q rfl;unfold nmS;by_cases h:0<=s.2.1
  .rw[Y7 h,o7,if_pos h];obtain⟨p,hp⟩:∃p:Nat,s.2.1=(p:Int):=⟨s.2.1.toNat,(fM h).symm⟩;rw[hp,O5,I9];rfl
  .rw[dA (uY.1 h),o6,if_neg h]
 unfold ug;generalize hq:(if 0<=s.2.1 then l.2.2[s.2.1.toNat]? else none)=q;have e:=e q hq;cases q with
 |none=>rw[e];exact⟨rfl,by simp[nmS,x9],by simp[nmS,x9],by simp[nmS,x9],rfl⟩|some q=>rw[e];exact⟨rfl,by simp[nmS,x9],by simp[nmS,x9],by simp[nmS,x9],by simp[x9]⟩
theorem n_{b c:Bool}(h:l7 b (some c) (some false)=some true):b=true/\c=true:=by
 cases b
 .cases h
 .exact⟨rfl,fE h⟩
theorem TG{m n:Int}(h:l7 (U7 0 m) (some (J4 m n)) (some false)=some true):((l7 (J4 m 0) (some 6) (l7 (U7 n m) (some 6) (some 0))):c5A)=some 0:=by obtain⟨h1,h2⟩:=n_ h;rw[Y0 (iM.1 h1),dA (wz.1 h2)];rfl
theorem Qx{lo hi m:Int}(h:l7 (U7 lo m) (some (U7 m hi)) (some false)=some true):((l7 (J4 m lo) (some 3) (l7 (J4 hi m) (some 3) (some 0))):c5A)=some 0:=by obtain⟨h1,h2⟩:=n_ h;rw[Y0 (iM.1 h1),Y0 (iM.1 h2)];rfl
variable {s:H6}
theorem b9E(ha:0<=arF n.1)(hI:fP n.2)(h:(n.2=0\/dZ n.1=some true)/\lM n (ug l s)=some true/\qg n (ug l s)=some true):flS n (nmS l s)=0:=by
 obtain⟨k,m⟩:=n;obtain⟨hm,hr,hf⟩:=h;obtain⟨s1,s2,s3,s4,s5⟩:=a7M l s;refine Zp ?_;have zero:∀k:Int,(dZ k=some true->False)->(m=0\/dZ k=some true)->(U6 (k,m) (nmS l s)=l7 (I5 (D8 m 0)) (some 2) (some 0))->U6 (k,m) (nmS l s)=some 0:=by intro k h1 h2 h3;have:m=0:=h2.resolve_right λh=>h1 h;rw[h3,this];rfl
 have rou:∀k:Int,(lM (k,m) (ug l s)=l7 (U7 0 m) (some (U7 m 5)) (some false))->lM (k,m) (ug l s)=some true->(U6 (k,m) (nmS l s)=l7 (J4 m 0) (some 3) (l7 (J4 5 m) (some 3) (some 0)))->U6 (k,m) (nmS l s)=some 0:=by intro k h1 h2 h3;rw[h3];exact Qx (h1▸h2)
 have mem:∀k:Int,(qg (k,m) (ug l s)=l7 (ug l s).2.2.2.2.2 (l7 (U7 0 m) (some (J4 m (x9 (ug l s).2.2.2.2.1))) (some false)) (some false))->qg (k,m) (ug l s)=some true->(U6 (k,m) (nmS l s)=l7 (J4 m 0) (some 6) (l7 (U7 (x9 (nmS l s).2.2.2.2) m) (some 6) (some 0)))->U6 (k,m) (nmS l s)=some 0:=by
  intro k h1 h2 h3;rw[h3,←s5];rw[h1]at h2;cases hb:(ug l s).2.2.2.2.2<;>rw[hb]at h2
  .cases h2
  .exact TG h2
 have h3:arF k=0\/arF k=1\/arF k=2\/arF k=3:=by have:=(Oi k).2.2;simp only at ha;omega
 rcases h3 with h|h|h|h
 .rcases ar0 h with rfl|rfl|rfl|rfl|rfl|rfl|rfl|rfl|rfl|rfl|rfl|rfl|rfl|rfl
  .exact Qx hr
  .exact Qx hr
  .exact Qx hr
  .exact Qx hr
  .exact Qx hr
  .have hr:some (U7 0 m)=some true:=hr;have hr:=iM.1 (fE hr);have hf:l7 (J4 (dh .i64 m 16) (x9 (ug l s).1)) (o5 (P8 (ug l s).1 (dh .i64 m 16)) λ(x:U2)=>some (J4 (iE m 16) (x9 x.2))) (some false)=some true:=hf;rw[s1]at hf;show(l7 (J4 m 0) (some 6) (l7 (U7 (x9 (nmS l s).1) (dh .i64 m 16)) (some 6) (o5 (P8 (nmS l s).1 (dh .i64 m 16)) λ(x:U2)=>l7 (U7 (x9 x.2) (iE m 16)) (some 6) (some 0))):c5A)=some 0;rw[Y0 l9,o6];cases g:J4 (dh .i64 m 16) (x9 (nmS l s).1)<;>rw[g]at hf
   .cases hf
   rw[dA (wz.1 g),o6];rw[o7]at hf;obtain⟨e,e1,e2⟩:=Gm hf;rw[e1,o9,dA (wz.1 (fE e2))];rfl
  .have:=TG hf;rw[s3]at this;exact this
  .have:=TG hf;rw[s4]at this;exact this
  .exact zero 9 C9 hm rfl
  .exact zero 35 C9 hm rfl
  .exact mem 36 rfl hf rfl
  .exact mem 37 rfl hf rfl
  .exact mem 38 rfl hf rfl
  .exact mem 39 rfl hf rfl
 .rcases ar1 h with rfl|rfl|rfl|rfl|rfl|rfl
  .exact zero 10 C9 hm rfl
  .exact zero 25 C9 hm rfl
  .exact zero 31 C9 hm rfl
  .exact zero 32 C9 hm rfl
  .have:=TG hf;rw[s2]at this;exact this
  .have hr:l7 (U7 0 m) (some (U7 (iE m 8) 5)) (some false)=some true:=hr;obtain⟨r1,r2⟩:=n_ hr;have hf:some (J4 (dh .i64 m 8) (x9 (ug l s).2.1))=some true:=hf;have hf:=wz.1 (fE hf);rw[s2]at hf;show(l7 (J4 m 0) (some 6) (l7 (U7 (x9 (nmS l s).2.1) (dh .i64 m 8)) (some 6) (l7 (J4 5 (iE m 8)) (some 3) (some 0))):c5A)=some 0;rw[Y0 (iM.1 r1),o6,dA hf,o6,Y0 (iM.1 r2)];rfl
 .rcases ar2 h with rfl|rfl|rfl|rfl|rfl|rfl|rfl|rfl|rfl|rfl|rfl|rfl|rfl|rfl|rfl|rfl|rfl|rfl
  .exact zero 11 C9 hm rfl
  .exact zero 12 C9 hm rfl
  .exact zero 13 C9 hm rfl
  .exact rou 14 rfl hr rfl
  .exact rou 15 rfl hr rfl
  .exact rou 16 rfl hr rfl
  all_goals exact zero _ C9 hm rfl
 .obtain rfl:=ar3 h;exact zero 26 C9 hm rfl
theorem OQ{ops:List (Int×Int)}{i:Nat}{t:Int×Int}(hN:fP n.2)(hv:∀t∈ops,VT t)(hl:x9 ops=arF n.1)(h:Ed (ug l s) n ops i= .inr t):flS n (nmS l s)=0:=by
 obtain⟨r,h1,h2,h3⟩:=ZN (ug l s) n hN ops hv hl;unfold Ed at h;split at h
 .rename_i h0;exact b9E (by rw[←hl];unfold x9;omega) hN (a7F h0 ⟨r,h1⟩)
 .cases h
theorem Iz{l:O6}{s:H6} :∀(T:XT) (o:Nat) (t:Int×Int),T.wf->(∀n∈T.post,fP n.2)->lu (ug l s) T o= .inr t->VT t/\∀n∈T.post,flS n (nmS l s)=0
 | .l0 n,o,t,hw,hI,h=>by
  have h:Ed (ug l s) n [] o= .inr t:=h;have hi:=hI n (by simp[XT.post]);refine⟨BH hi x8 (by rw[show arF n.1=0 from hw];rfl) h,λm hm=>?_⟩;obtain rfl:m=n:=by simpa[XT.post]using hm
  exact OQ hi x8 (by rw[show arF m.1=0 from hw];rfl) h
 | .l1 n a,o,t,hw,hI,h=>by
  unfold lu at h;cases ha:lu (ug l s) a o with
  |inl x=>rw[ha]at h;cases h|inr ta=>
   rw[ha]at h;obtain⟨va,fa⟩:=Iz a o ta hw.2 (λm hm=>hI m (by simp[XT.post,hm])) ha;have hi:=hI n (by simp[XT.post]);have hl:x9 [ta]=arF n.1:=by rw[hw.1];rfl
   have hv:∀t∈[ta],VT t:=by simp[va]
   refine⟨BH hi hv hl h,λm hm=>?_⟩;rcases F9.1 (show m∈a.post++[n]from hm)with hm|hm
   .exact fa m hm
   .obtain rfl:m=n:=by simpa using hm
    exact OQ hi hv hl h
 | .l2 n a b,o,t,hw,hI,h=>by
  unfold lu at h;cases ha:lu (ug l s) a o with
  |inl x=>rw[ha]at h;cases h|inr ta=>
   rw[ha]at h;simp only at h;cases hb:lu (ug l s) b (o+a.size)with
   |inl x=>rw[hb]at h;cases h|inr tb=>
    rw[hb]at h;obtain⟨va,fa⟩:=Iz a o ta hw.2.1 (λm hm=>hI m (by simp[XT.post,hm])) ha;obtain⟨vb,fb⟩:=Iz b _ tb hw.2.2 (λm hm=>hI m (by simp[XT.post,hm])) hb;have hi:=hI n (by simp[XT.post]);have hl:x9 [ta,tb]=arF n.1:=by rw[hw.1];rfl
    have hv:∀t∈[ta,tb],VT t:=by simp[va,vb]
    refine⟨BH hi hv hl h,λm hm=>?_⟩;rcases F9.1 (show m∈a.post++b.post++[n]from hm)with hm|hm
    .rcases F9.1 hm with hm|hm
     .exact fa m hm
     .exact fb m hm
    .obtain rfl:m=n:=by simpa using hm
     exact OQ hi hv hl h
 | .l3 n a b c,o,t,hw,hI,h=>by
  unfold lu at h;cases ha:lu (ug l s) a o with
  |inl x=>rw[ha]at h;cases h|inr ta=>
   rw[ha]at h;simp only at h;cases hb:lu (ug l s) b (o+a.size)with
   |inl x=>rw[hb]at h;cases h|inr tb=>
    rw[hb]at h;simp only at h;cases hc:lu (ug l s) c (o+a.size+b.size)with
    |inl x=>rw[hc]at h;cases h|inr tc=>
     rw[hc]at h;obtain⟨va,fa⟩:=Iz a o ta hw.2.1 (λm hm=>hI m (by simp[XT.post,hm])) ha;obtain⟨vb,fb⟩:=Iz b _ tb hw.2.2.1 (λm hm=>hI m (by simp[XT.post,hm])) hb;obtain⟨vc,fc⟩:=Iz c _ tc hw.2.2.2 (λm hm=>hI m (by simp[XT.post,hm])) hc;have hi:=hI n (by simp[XT.post]);have hl:x9 [ta,tb,tc]=arF n.1:=by rw[hw.1];rfl
     have hv:∀t∈[ta,tb,tc],VT t:=by simp[va,vb,vc]
     refine⟨BH hi hv hl h,λm hm=>?_⟩;rcases F9.1 (show m∈a.post++b.post++c.post++[n]from hm)with hm|hm
     .rcases F9.1 hm with hm|hm
      .rcases F9.1 hm with hm|hm
       .exact fa m hm
       .exact fb m hm
      .exact fc m hm
     .obtain rfl:m=n:=by simpa using hm
      exact OQ hi hv hl h
theorem Ri{e:List (Int×Int)}{t:Int×Int}(hI:∀n∈e,fP n.2)(h:Cj e (ug l s) t=0):∃T,mJ e= .inr T/\e=T.post/\T.wf/\(∀n∈T.post,flS n (nmS l s)=0):=by
 unfold Cj yA at h;cases hs:mJ e with
 |inl x=>rw[hs]at h;have hx:=zk hs;simp only at h;rw[J8 hx,o6]at h;exact absurd h hx|inr T=>
  rw[hs]at h;obtain⟨hp,-⟩:=qi hs;have hw:=Gx hs;have hI' :∀n∈T.post,fP n.2:=hp▸hI;simp only at h;cases ht:lu (ug l s) T 0 with
  |inl x=>rw[ht]at h;have hx:=Be T 0 ht;simp only at h;rw[J8 hx,o6]at h;exact absurd h hx|inr r=>exact⟨T,rfl,hp,hw,(Iz T 0 r hw hI' ht).2⟩
def Ag(sub:c5v):c5v->c5v->Prop
 |[],r=>True|c::a,r=>sub.isPrefixOf (c::(a++r))=false/\Ag sub a r
theorem a0I(sub:c5v):∀(a b r:c5v),Ag sub (a++b) r↔Ag sub a (b++r)/\Ag sub b r
 |[],b,r=>by simp[Ag]|c::a,b,r=>by rw[G9];show(sub.isPrefixOf (c::((a++b)++r))=false/\Ag sub (a++b) r)↔(sub.isPrefixOf (c::(a++(b++r)))=false/\Ag sub a (b++r))/\Ag sub b r;rw[a0I sub a b r,E8];exact and_assoc.symm
theorem a5a{sub:c5v}(h0:sub≠[]):∀{a x:c5v},Ag sub a (sub++x)->Lib.index (a++(sub++x)) sub=(a.length:Int)
 |[],x,h=>by
  cases sub with
  |nil=>exact absurd rfl h0|cons c t=>show Lib.index (c::(t++x)) (c::t)=0;unfold Lib.index;rw[if_pos (by rw[ja];exact⟨x,rfl⟩)]
 |c::a,x,h=>by
  have ih:=a5a h0 h.2;rw[G9];unfold Lib.index;rw[h.1,ih];have:(((a.length:Nat):Int)==-1)=false:=by rw[beq_eq_false_iff_ne];omega
  rw[this];simp
theorem a5b{sub:c5v}(h0:sub≠[]):∀{a:c5v},Ag sub a []->Lib.index a sub=-1
 |[],h=>by
  cases sub with
  |nil=>exact absurd rfl h0|cons c t=>rfl
 |c::a,h=>by have ih:=a5b h0 h.2;have h1:=h.1;rw[E9]at h1;unfold Lib.index;rw[h1,ih];rfl
theorem Zg{sub a x:c5v}(h0:sub≠[])(h:Ag sub a (sub++x))(hl:(a++(sub++x)).length<=1000000000):Bg (a++(sub++x)) sub=some (a,x,true):=by unfold Bg Lib.cut;rw[if_pos l9,a5a h0 h,if_pos l9,I9,bJ];rw[show a.length+sub.length=(a++sub).length by simp,←E8,Y6]
theorem a8v{sub a:c5v}(h0:sub≠[])(h:Ag sub a [])(hl:a.length<=1000000000):Bg a sub=some (a,[],false):=by unfold Bg Lib.cut;rw[if_pos l9,a5b h0 h,if_neg l9]
theorem Va{c:UInt8} :∀{a r:c5v},(∀x∈a,x≠c)->Ag [c] a r
 |[],r,h=>trivial
 |x::a,r,h=>by refine⟨?_,Va λy hy=>h y (by simp[hy])⟩;have:=h x x8;simp only[List.isPrefixOf,Bool.and_true];simpa[beq_eq_false_iff_ne]using λe=>this e.symm
def nM:List c5v->G5
 |[]=>([],false)|w::ws=>(w++spW ws,true)
structure WdB (w:c5v):Prop where
 ne:w≠[]
 nb:∀x∈w,x≠32
variable {w:c5v}
theorem Ua(h:WdB w){R:c5v}(hl:(w++32::R).length<=1000000000):H5 (w++32::R,true)=some (w,true,(R,true)):=by unfold H5;have:=Zg (sub:=[32]) (a:=w) (x:=R) x8 (Va h.nb) hl;simp only[F5,o6];rw[show w++32::R=w++([32]++R)from rfl,this,o9,pM.2 h.ne];rfl
theorem a7W(h:WdB w)(hl:w.length<=1000000000):H5 (w,true)=some (w,true,([],false)):=by unfold H5;simp only[F5,o6];rw[a8v x8 (Va h.nb) hl,o9,pM.2 h.ne];rfl
variable {ws:List c5v}
theorem SL(h:WdB w)(hl:(w++spW ws).length<=1000000000):H5 (nM (w::ws))=some (w,true,nM ws):=by
 cases ws with
 |nil=>show H5 (w++spW [],true)=_;rw[show w++spW []=w by simp[spW]]at hl ⊢;exact a7W h hl|cons v vs=>show H5 (w++spW (v::vs),true)=_;rw[vF]at hl ⊢;exact Ua h (R:=v++spW vs) hl
theorem Kz(h:gq w=true):WdB w:=⟨λe=>(by rw[e]at h;cases h),a3b h⟩
def LnW(ws:List c5v):Prop:=(∀w∈ws,WdB w)/\(spW ws).length<=1000000
theorem zN(h:LnW (w::ws)):LnW ws:=by refine⟨λv hv=>h.1 v (by simp[hv]),?_⟩;have:=h.2;rw[vF]at this;simp only[A7,A8]at this;omega
theorem yB(h:LnW (w::ws)):H5 (nM (w::ws))=some (w,true,nM ws):=by refine SL (h.1 w x8) ?_;have:=h.2;rw[vF]at this;simp only[A7,A8]at this ⊢;omega
theorem a8t(w:c5v)(ws:List c5v):(nM (w::ws)).2=true:=rfl
theorem KO:iq (nM [])=some (0,nM []):=rfl
end
section
theorem Nk{w v:c5v}(h:gq w=true)(hv:v∈LH):seq w v=false:=by
 cases w with
 |nil=>cases h|cons c r=>rw[AL]at h;simp only[D5,fC]at h;have:=bM.1 h.2 v hv;simpa using this
theorem Fp{α:Type}{S:List α}{s:α}(hl:S.length<=1000000):L6 .i64 (x9 (S++[s])) 1=(S.length:Int)/\dV (L6 .i64 (x9 (S++[s])) 1)=S.length/\inb (L6 .i64 (x9 (S++[s])) 1) (x9 (S++[s]))=true/\
  jg (S++[s]) S.length=some s/\(∀x,mQ (S++[s]) S.length x=S++[x])/\P8 (S++[s]) (L6 .i64 (x9 (S++[s])) 1)=some s:=by
 have e:L6 .i64 (x9 (S++[s])) 1=(S.length:Int):=by rw[bI (by unfold fP x9;simp;omega)];unfold x9;simp
 have g:(S++[s])[S.length]? =some s:=by rw[F7 (E5 _),aT];rfl
 refine⟨e,by rw[e];unfold dV;rw[I9],by rw[e];unfold inb x9;simp<;>omega,g,λx=>?_,by rw[e,O5];exact g⟩;unfold mQ;rw[List.set_append_right _ _ (E5 _),aT];rfl
theorem AU(n:Nat):Ht n n=true:=by unfold Ht;exact Nat.beq_refl n
abbrev rdS(E:List U2)(T:List aP)(S:List H6)(k:Int)(N:D9)(b:Bool):I7:=((E,T,S),k,N,b)
def nmZ:D9:=([],[],[],[],[])
variable {n:c5v}{t:Int×Int}{s:H6}
section
variable {E:List U2} {T:List aP} {S:List H6} {k:Int} {N:D9} {b:Bool}
theorem b3t{ms:List c5v}(h:LnW (n::ms))(h0:ms≠[])(hm:ms.length<=1000)(hE:E.length<=1000):kT (rdS E T S k N b) (nM (n::ms))=some (0,rdS (E++[(n,ms)]) T S k N b,nM []):=by
 unfold kT;rw[yB h,o9];have h2:(nM ms).2=true:=by
  cases ms with
  |nil=>exact absurd rfl h0|cons a l=>rfl
 simp only[F5,o6,h2,o9,ae];have key:=DY (f:=λ(x:G5×U2)=>
       l7 x.1.2
        (o5 (H5 x.1) λ(x_2:c5v×Bool×G5)=>
         l7 (I5 x_2.2.1) (some (Out.rt ((2,rdS E T S k N b,x_2.2.2):Int×I7×G5)))
          (o5 (iy x.2.2 [x_2.1]) λ(x_3:List c5v)=>some (Out.nx (x_2.2.2,x.2.1,x_3))))
        (some (Out.ex x))) (s:=(nM ms,n,[]))
  (λx=>∃d r,ms=d++r/\x=(nM r,n,d)) (λx=>x=(nM [],n,ms)) (λ_=>False) (λx=>ms.length -x.2.2.length) ⟨[],ms,rfl,rfl⟩ H7 ?_
 .rcases key with⟨x,e,hx⟩|⟨r,-,hr⟩
  .refine V6 e ?_;rw[o9,ae,hx];simp only;rw[uM H7,o9]
  .exact hr.elim
 .rintro x ⟨d,r,e,rfl⟩;cases r with
  |nil=>refine .inr (.inl ⟨_,rfl,?_⟩);rw[e,E9]|cons w r=>
   refine .inl ⟨(nM r,n,d++[w]),?_,⟨d++[w],r,by rw[e];simp,rfl⟩,by rw[e];simp;omega⟩;have hd:d.length<=1000:=by rw[e]at hm;simp at hm;omega
   have hw:LnW (w::r):=by refine⟨λv hv=>h.1 v (by rw[e];simp at hv ⊢;rcases hv with hv|hv<;>simp[hv]),?_⟩;have:=h.2;rw[vF,e,a6b]at this;simp only[A7,A8]at this;omega
   simp only[a8t,o7];rw[yB hw,o9];simp only[F5,o6];rw[uM H7,o9]
structure EnU (E:List U2):Prop where
 id:∀e∈E,gq e.1=true
 un:∀(j:Nat) e,E[j]? =some e->∀x∈E.take j,x.1≠e.1
 le:E.length<=1000
abbrev enR(E:List U2):(List U2×Unit×Unit)×Unit×(Unit×Unit×Unit×Unit×Unit)×Unit:=((E,PUnit.unit,PUnit.unit),PUnit.unit,(PUnit.unit,PUnit.unit,PUnit.unit,PUnit.unit,PUnit.unit),PUnit.unit)
theorem b1T(hU:EnU E)(h:vty t E=true):WdB (tyS t E):=by
 rcases Dq h with h1|h1|h1|h1|h1|h1
 .unfold tyS;rw[h1.1];exact(⟨C9,C9⟩:WdB [98,111,111,108])
 .unfold tyS;rw[h1.1];exact(⟨C9,C9⟩:WdB [105,110,116])
 .unfold tyS;rw[h1.1];exact(⟨C9,C9⟩:WdB [109,111,110,101,121])
 .unfold tyS;rw[h1.1];exact(⟨C9,C9⟩:WdB [114,97,116,101])
 .unfold tyS;rw[h1.1];exact(⟨C9,C9⟩:WdB [100,97,116,101])
 .obtain⟨e,he,hm⟩:=KW h h1;have:tyS t E=e.1:=by unfold tyS;rw[h1,he];rfl
  rw[this];exact Kz (hU.id e hm)
theorem TR{ws:List c5v}(hU:EnU E)(h:vty t E=true)(hw:LnW (tyS t E::ws)):gI (enR E) (nM (tyS t E::ws))=some (t,0,nM ws):=by
 unfold gI;rw[yB hw,o9];simp only[F5,o6];have pr:t=(t.1,t.2):=rfl;rcases Dq h with h1|h1|h1|h1|h1|h1
 .rw[pr,h1.1,h1.2];rfl
 .rw[pr,h1.1,h1.2];rfl
 .rw[pr,h1.1,h1.2];rfl
 .rw[pr,h1.1,h1.2];rfl
 .rw[pr,h1.1,h1.2];rfl
 .obtain⟨e,he,hm⟩:=KW h h1;have e1:tyS t E=e.1:=by unfold tyS;rw[h1,he];rfl
  have hi:=hU.id e hm;rw[e1];rw[Nk hi (by decide+kernel:([98,111,111,108]:c5v)∈LH),Nk hi (by decide+kernel:([105,110,116]:c5v)∈LH),Nk hi (by decide+kernel:([109,111,110,101,121]:c5v)∈LH),Nk hi (by decide+kernel:([114,97,116,101]:c5v)∈LH),Nk hi (by decide+kernel:([100,97,116,101]:c5v)∈LH)];simp only[o6];obtain⟨c1,c2,c3⟩:=BZ he;have:=OB E (λq=>seq q.1 e.1) (λi=>(((0:Int),(0:Int)),(i:Int))) (λi=>(((6:Int),(i:Int)),(0:Int),nM ws)) (ε:=L9) (by have:=hU.le;omega) (f:=λ(x_1:L9×Int)=>
          l7 (J4 x_1.2 (x9 E))
           (o5 (P8 E x_1.2) λ(x_2:U2)=>
            l7 (seq x_2.1 e.1) (some (Out.rt ((6,x_1.2),0,nM ws)))
             (some (Out.nx (x_1.1,I8 IntKind.i64 x_1.2 1))))
           (some (Out.ex x_1.1))) (λi a ha=>by
     have:=(aJ.1 ha).1;have:=hU.le;simp only[U0 ha,o7,O5,ha,o9];rw[bY l9];cases seq a.1 e.1<;>rfl) t.2.toNat e c1 (gm.2 rfl) (λx hx=>pM.2 (hU.un _ _ c1 x hx))
  refine V6 this ?_;rw[o9,lU,c2,pr,h1]
theorem b0i{t u:Int×Int}(hU:EnU E)(ht:vty t E=true)(hu:vty u E=true)(h:LnW [n,tyS t E,tyS u E])(hT:T.length<=1000):kz (rdS E T S k N b) (nM [n,tyS t E,tyS u E])=some (0,rdS E (T++[(n,t,u,[])]) S k N b,nM []):=by unfold kz;rw[yB h,o9];simp only[F5,o6];rw[TR hU ht (zN h),o9];simp only[O0 (rfl:(0:Int)=0),F5,o6];rw[TR hU hu (zN (zN h)),o9];simp only[O0 (rfl:(0:Int)=0),F5,o6];rw[uM H7,o9,KO,o9]
theorem b0h(h:LnW [n])(hS:S.length<=1000):kw (rdS E T S k N b) (nM [n])=some (0,rdS E T (S++[(n,-1,[],[],[])]) k nmZ false,nM []):=by unfold kw;rw[yB h,o9];simp only[F5,o6];rw[uM H7,o9,KO,o9];rfl
theorem a3A{s q:H6}{p:Nat}(hS:S.length<=1000)(hp:S[p]? =some q)(hq:∀x∈S.take p,x.1≠q.1)(h:LnW [q.1]):jf (rdS E T (S++[s]) k N b) (nM [q.1])=some (0,rdS E T (S++[(s.1,(p:Int),s.2.2)]) k N b,nM []):=by
 obtain⟨e1,e2,e3,e4,e5,e6⟩:=Fp (S:=S) (s:=s) l9;have hpl:=(aJ.1 hp).1;unfold jf;rw[yB h,o9];simp only[F5,o6,e3,o7];have:=OB S (λx=>seq x.1 q.1) (λi=>(i:Int)) (λi=>((0:Int),rdS E T (S++[(s.1,(i:Int),s.2.2)]) k N b,nM [])) (ε:=PUnit) l9 (f:=λ(x_1:Int)=>
      l7 (J4 x_1 (L6 IntKind.i64 (x9 (S++[s])) 1))
       (l7 (inb x_1 (x9 (S++[s])))
        (o5 (jg (S++[s]) (dV x_1)) λ(x_2:H6)=>
         l7 (seq x_2.1 q.1)
          (o5 (jg (S++[s]) (dV (L6 IntKind.i64 (x9 (S++[s])) 1))) λ(x_3:H6)=>
           o5 (iq (nM [])) λ(x:Int×G5)=>
            some
             (Out.rt
              (x.1,
               ((E,T,
                 mQ (S++[s]) (dV (L6 IntKind.i64 (x9 (S++[s])) 1)) (x_3.1,x_1,x_3.2.2)),
                k,N,b),
               x.2)))
          (some (Out.nx (I8 IntKind.i64 x_1 1))))
        none)
       (some (Out.ex PUnit.unit))) (λi a ha=>by
     have hi:=(aJ.1 ha).1;have hin:inb ((i:Nat):Int) (x9 (S++[s]))=true:=by unfold inb x9;simp<;>omega
     have hg:jg (S++[s]) (dV ((i:Nat):Int))=some a:=by unfold jg dV;rw[I9,Z7 hi];exact ha
     simp only[e1,dE (show((i:Nat):Int)<(S.length:Int) by omega),o7,hin,hg,o9];rw[←e1,e2,e4,o9,KO,o9,e5,bY l9];cases seq a.1 q.1<;>rfl) p q hp (gm.2 rfl) (λx hx=>pM.2 (hq x hx))
 refine V6 this ?_;rw[o9,lU]
theorem b0f{f:dO}(hU:EnU E)(hS:S.length<=1000)(ht:vty f.2 E=true)(h:LnW [f.1,tyS f.2 E])(hl:s.2.2.1.length<=1000):
  jZ (rdS E T (S++[s]) k N b) (nM [f.1,tyS f.2 E]) PUnit.unit=some (0,rdS E T (S++[(s.1,s.2.1,s.2.2.1++[f],s.2.2.2)]) k N b,nM []):=by
 obtain⟨e1,e2,e3,e4,e5,e6⟩:=Fp (S:=S) (s:=s) l9;unfold jZ;rw[e3,o7,yB h,o9];simp only[F5,o6];rw[TR hU ht (zN h),o9];simp only[O0 (rfl:(0:Int)=0),F5,o6,e2,e4,o9];rw[uM H7,o9,AU,o7,KO,o9];simp only[e5]
theorem b6W{f:dO}(hU:EnU E)(hS:S.length<=1000)(ht:vty f.2 E=true)(h:LnW [f.1,tyS f.2 E])(hl:s.2.2.2.1.length<=1000):
  iP (rdS E T (S++[s]) k N b) (nM [f.1,tyS f.2 E]) PUnit.unit=some (0,rdS E T (S++[(s.1,s.2.1,s.2.2.1,s.2.2.2.1++[f],s.2.2.2.2)]) k N b,nM []):=by
 obtain⟨e1,e2,e3,e4,e5,e6⟩:=Fp (S:=S) (s:=s) l9;unfold iP;rw[e3,o7,yB h,o9];simp only[F5,o6];rw[TR hU ht (zN h),o9];simp only[O0 (rfl:(0:Int)=0),F5,o6,e2,e4,o9];rw[uM H7,o9,AU,o7,KO,o9];simp only[e5]
end
end
section
theorem a1c{v:Nat}(h:1<=v)(hv:v<=100000000000000000):(l7 true
         (l7 (D8 (v:Int) 0)
          (l7 (I5 false) (some (0,2))
           (l7 false (some (0,3)) (l7 true (some (L6 IntKind.i64 0 (v:Int),0)) (some ((v:Int),0)))))
          (l7 false (some (0,3)) (l7 true (some (L6 IntKind.i64 0 (v:Int),0)) (some ((v:Int),0)))))
         (l7 false (some (0,3)) (l7 true (some (L6 IntKind.i64 0 (v:Int),0)) (some ((v:Int),0)))):Option (Int×Int))=some (-(v:Int),0):=by
 rw[J8 l9,bI lm,Int.zero_sub];rfl
theorem b3k{d:c5v}(hd:Dg d)(h1:d≠[])(hz:NoZ d)(hp:1<=nS 0 d)(hv:nS 0 d<=100000000000000000)(hl:d.length<=1000):kD (45::d) 0=some (-(nS 0 d:Int),0):=by
 have hne:1<=d.length:=by cases d with|nil=>exact absurd rfl h1|cons c t=>simp
 unfold kD;rw[show(45::d:c5v)=[45]++d from rfl,a8u [45] d H7,o9];simp only[Y0 (show(0:Int)<=0 by omega),o6,o9];rw[show x9 d=(d.length:Int)from rfl,Y0 l9,o6];have hz2:=ND (r:=[]) hz h1 (Sum.inr (0,2):PUnit⊕(Int×Int)) (Sum.inl PUnit.unit);rw[E9]at hz2;refine V6 hz2 ?_;rw[o9,ae];have lp:X5 (npF (d.length:Int)) (0,false,d,0)=some (.inl ((nS 0 d:Int),false)):=by unfold X5;rw[show au=(au -1 -d.length)+1+d.length by unfold au;omega];have:=AV (s:=d) (p:=d.length) d [] [] 0 (au -1 -d.length+1) x8 hd (.inr x8) hv;rw[show(([]:c5v).length:Int)=0 from rfl,show((0:Nat):Int)=0 from rfl]at this;rw[this];have:=ZO (s:=d) (p:=(d.length:Int)) (v:=(nS 0 d:Int)) (au -1 -d.length);rw[show(([]:c5v).length+d.length)=d.length by simp];exact this
 refine V6 lp ?_;rw[o9,ae];exact a1c hp hv
theorem b3l{d f:c5v}(hd:Dg d)(hf:Dg f)(h1:d≠[])(hz:NoZ d)(hk:1<=f.length)(hp1:1<=nS 0 (d++f))(hv:nS 0 (d++f)<=100000000000000000)(hl:d.length+f.length<=1000):kD (45::(d++46::f)) (f.length:Int)=some (-(nS 0 (d++f):Int),0):=by
 have hne:1<=d.length:=by cases d with|nil=>exact absurd rfl h1|cons c t=>simp
 unfold kD;rw[show(45::(d++46::f):c5v)=[45]++(d++46::f)from rfl,a8u [45] (d++46::f) H7,o9];have hp:(l7 (J4 0 (f.length:Int)) (some (L6 IntKind.i64 (x9 (d++46::f)) (I8 IntKind.i64 (f.length:Int) 1))) (some (x9 (d++46::f))))=some (d.length:Int):=by rw[dE l9,o7,cZ lm,bI (by unfold fP x9;simp;omega)];congr 1;unfold x9;simp<;>omega
 refine V6 hp ?_;rw[o9,Y0 l9,o6];refine V6 (ND hz h1 (Sum.inr (0,2):PUnit⊕(Int×Int)) (Sum.inl PUnit.unit)) ?_;rw[o9,ae];have hv1:nS 0 d<=nS 0 (d++f):=by rw[BQ];exact PU _ _
 have lp:X5 (npF (d.length:Int)) (0,false,d++46::f,0)=some (.inl ((nS 0 (d++f):Int),false)):=by
  unfold X5;rw[show au=(au -2 -d.length -f.length)+1+f.length+1+d.length by unfold au;omega];have a1:=AV (s:=d++46::f) (p:=d.length) d [] (46::f) 0 (au -2 -d.length -f.length+1+f.length+1) x8 hd (.inr x8) l9;rw[show(([]:c5v).length:Int)=0 from rfl,show((0:Nat):Int)=0 from rfl,show(([]:c5v).length+d.length)=d.length by simp]at a1;rw[a1,bU];have h46:(d++46::f)[d.length]? =some 46:=by rw[F7 (E5 _),aT];rfl
  obtain⟨r1,r2⟩:=Dn h46 C9;have st:npF (d.length:Int) ((nS 0 d:Int),false,d++46::f,(d.length:Int))=some (.nx ((nS 0 d:Int),false,d++46::f,((d.length+1:Nat):Int))):=by unfold npF;simp only[U0 h46,o7,r1,r2,O0 (rfl:(d.length:Int)=(d.length:Int))];rfl
  rw[st];have a2:=AV (s:=d++46::f) (p:=d.length) f (d++[46]) [] (nS 0 d) (au -2 -d.length -f.length+1) x8 hf (.inl x8) (by rw[←BQ];exact hv);rw[←BQ]at a2;simp only[A7,lH]at a2;simp only;rw[a2];have:=ZO (s:=d++46::f) (p:=(d.length:Int)) (v:=(nS 0 (d++f):Int)) (au -2 -d.length -f.length);rw[show(d++46::f).length=d.length+1+f.length by simp;omega]at this;exact this
 refine V6 lp ?_;rw[o9,ae];exact a1c hp1 hv
theorem Zj(u:Nat)(hu:u<18446744073709551616):Lib.decDigits u≠[]/\NoZ (Lib.decDigits u)/\(Lib.decDigits u).length<=20:=by
 have hlen:=pV hu;refine⟨by intro e;rw[e]at hlen;simp at hlen,?_,l9⟩;intro h1 c t e;refine Zi u c t e ?_;rcases jP u 10 with h|h
 .rw[Lib.decDigits,dif_pos h]at h1;simp at h1
 .exact h
theorem b5b{n:Int}(h:-100000000000000000<=n/\n<=100000000000000000):nC (Lib.itoa n)=some (n,0):=by
 unfold nC Lib.itoa;split
 .rename_i h0;obtain⟨h1,h2,h3⟩:=Zj n.natAbs l9;rw[b3k (Aw _) h1 h2 (by rw[BR];omega) (by rw[BR];omega) l9,o9,BR,show -((n.natAbs:Nat):Int)=n by omega]
 .rename_i h0;obtain⟨h1,h2,h3⟩:=Zj n.toNat l9;rw[a9J (Aw _) h1 h2 (by rw[BR];omega) l9,o9,BR,show((n.toNat:Nat):Int)=n by omega]
theorem b5a{n:Int}{k:Nat}(hk:1<=k/\k<=9)(h:-100000000000000000<=n/\n<=100000000000000000):dP (oU n k) (k:Int)=some (n,0):=by
 obtain⟨d,f,e,hd,hf,hne,hz,hfl,hv,hdl⟩:=pY (u:=n.natAbs) (k:=k) l9 hk;have hc:iJ (k:Int)=some (k:Int):=by unfold iJ Fh IR;congr 1;omega
 unfold dP oU;rw[hc,o9];split
 .rename_i h0;have:=b3l hd hf hne hz l9 l9 l9 l9;rw[hfl,hv]at this;rw[e,this,o9,show -((n.natAbs:Nat):Int)=n by omega]
 .rename_i h0;have:=a3s hd hf hne hz l9 l9 l9;rw[hfl,hv]at this;rw[e,this,o9,show((n.natAbs:Nat):Int)=n by omega]
end
section
structure EnW (E:List U2):Prop extends EnU E where
 mid:∀e∈E,∀m∈e.2,gq m=true
 mun:∀e∈E,∀(j:Nat) v,e.2[j]? =some v->∀x∈e.2.take j,x≠v
 mle:∀e∈E,e.2.length<=1000
def vaT(n:Int)(t:Int×Int)(E:List U2):c5v:=
 l7 (D8 t.1 1) (l7 (D8 n 0) [102,97,108,115,101] [116,114,117,101]) (l7 (D8 t.1 2) (Lib.itoa n) (l7 (D8 t.1 3) (oU n 2) (l7 (D8 t.1 4) (oU n 4++[37]) (l7 (D8 t.1 5) (aY n) (gtN ((P8 E t.2).getD ([],[])).2 n)))))
theorem vW{n:Int}{b:Int×Int}(h:inB n b=true):b.1<=n/\n<=b.2:=by
 unfold inB at h;cases g:U7 b.1 n<;>rw[g]at h
 .cases h
 .exact⟨iM.1 g,iM.1 h⟩
theorem LV{k:Int}(E:List U2)(hk:k=1\/k=2\/k=3\/k=4\/k=5):bnd (k,0) E=l7 (D8 k 1) (0,1) (l7 (D8 k 2) (-1000000000000,1000000000000) (l7 (D8 k 3) (-1000000000000000,1000000000000000) (l7 (D8 k 4) (-1000000000,1000000000) (0,109572)))):=by rcases hk with rfl|rfl|rfl|rfl|rfl<;>rfl
theorem b4C{e:U2}{E:List U2}{i:Int}(h:vty (6,i) E=true)(he:P8 E i=some e):bnd (6,i) E=(0,L6 .i64 (x9 e.2) 1):=by
 have h1:=NJ (6,i) E;have:di (6,i) E=some (0,L6 .i64 (x9 e.2) 1):=by unfold di;rw[nR,h,o9];simp (disch:=decide) only[J8,F5,o6];rw[he];rfl
 rw[this]at h1;exact(fE h1).symm
section
variable {E:List U2} {t:Int×Int} {n:Int}
theorem PT(hv:vty t E=true)(hn:inB n (bnd t E)=true){P:Int×Int->Prop}(h1:0<=n->n<=1->P (1,0))(h2:-1000000000000<=n->n<=1000000000000->P (2,0))(h3:-1000000000000000<=n->n<=1000000000000000->P (3,0))
  (h4:-1000000000<=n->n<=1000000000->P (4,0)) (h5:0<=n->n<=109572->P (5,0)) (h6:∀e i,P8 E i=some e->e∈E->0<=n->n<=L6 .i64 (x9 e.2) 1->vty (6,i) E=true->P (6,i)):P t:=by
 obtain⟨k,i⟩:=t;rcases Dq hv with h|h|h|h|h|h
 .obtain⟨rfl,rfl⟩:k=1/\i=0:=h;rw[LV E x8]at hn;exact h1 (vW hn).1 (vW hn).2
 .obtain⟨rfl,rfl⟩:k=2/\i=0:=h;rw[LV E x8]at hn;exact h2 (vW hn).1 (vW hn).2
 .obtain⟨rfl,rfl⟩:k=3/\i=0:=h;rw[LV E x8]at hn;exact h3 (vW hn).1 (vW hn).2
 .obtain⟨rfl,rfl⟩:k=4/\i=0:=h;rw[LV E x8]at hn;exact h4 (vW hn).1 (vW hn).2
 .obtain⟨rfl,rfl⟩:k=5/\i=0:=h;rw[LV E x8]at hn;exact h5 (vW hn).1 (vW hn).2
 .obtain rfl:k=6:=h;obtain⟨e,he,hm⟩:=KW hv rfl;rw[b4C hv he]at hn;exact h6 e i he hm (vW hn).1 (vW hn).2 hv
theorem a4x(hW:EnW E)(hv:vty t E=true)(hn:inB n (bnd t E)=true)(hI:fP n):vaS n t E=vaT n t E:=by
 have key:fK (t.1,t.2,n) E=some (vaT n t E,0):=by
  have hw:iw n (t.1,t.2) E=some true:=by unfold iw;rw[CY,o9];obtain⟨b1,b2⟩:=vW hn;rw[Y7 b1,Y7 b2];rfl
  have f2:=jh hI;have f3:aV n 2=some (oU n 2):=fG (k:=2) hI l9;have f4:aV n 4=some (oU n 4):=fG (k:=4) hI l9;have l4:=Dh (k:=4) hI l9;have st:∀t:Int×Int,vty t E=true->iw n t E=some true->fK (t.1,t.2,n) E=(l7 (D8 t.1 1) (l7 (D8 n 0) (some ([102,97,108,115,101],0)) (some ([116,114,117,101],0)))
     (l7 (D8 t.1 2) (some (Lib.itoa n,0)) (l7 (D8 t.1 3) (some (oU n 2,0)) (l7 (D8 t.1 4) (some (oU n 4++[37],0)) (l7 (D8 t.1 5) (some (aY n,0))
      (o5 (P8 E t.2) λ(x:U2)=>o5 (P8 x.2 n) λ(x:c5v)=>some (x,0))))))):=by
   intro t hv hw;unfold fK
   simp only[rU,hv,hw,o9,F5,o6,f2,f3,f4,qx];rw[N9 H7,o9]
  refine PT (P:=λt=>vty t E=true->iw n t E=some true->fK (t.1,t.2,n) E=some (vaT n t E,0)) hv hn ?_ ?_ ?_ ?_ ?_ ?_ hv hw
  .intro g1 g2 hv hw;rw[st _ hv hw];unfold vaT;simp only[O0 (rfl:(1:Int)=1),o7];cases D8 n 0<;>rfl
  .intro g1 g2 hv hw;rw[st _ hv hw];rfl
  .intro g1 g2 hv hw;rw[st _ hv hw];rfl
  .intro g1 g2 hv hw;rw[st _ hv hw];rfl
  .intro g1 g2 hv hw;rw[st _ hv hw];rfl
  .intro e i he hm g1 g2 hv0 hv hw;have hml:=hW.mle e hm;have g2' :n<x9 e.2:=by rw[bI (by unfold fP x9;omega)]at g2;omega
   obtain⟨x,hx,-⟩:=tH g1 g2';rw[st _ hv hw];unfold vaT gtN;simp (disch:=decide) only[J8,o6];rw[he,o9,X8,hx];rfl
 unfold vaS;rw[key];rfl
theorem UJ{d:c5v}(h:Dg d):∀x∈d,x≠32:=λx hx e=>by have:=Ji (h x hx);rw[e]at this;exact absurd this C9
theorem ZM{a b:c5v}(ha:∀x∈a,x≠32)(hb:∀x∈b,x≠32):∀x∈a++b,x≠32:=λx hx=>(F9.1 hx).elim (ha x) (hb x)
theorem KZ{c:UInt8}{b:c5v}(hc:c≠32)(hb:∀x∈b,x≠32):∀x∈c::b,x≠32:=λx hx=>(D7.1 hx).elim (λe=>e▸hc) (hb x)
theorem M_{n:Int}(h:fP n):WdB (Lib.itoa n)/\∀c∈Lib.itoa n,prB c=true:=by
 unfold fP at h;unfold Lib.itoa;split
 .exact⟨⟨x8,KZ C9 (UJ (Aw _))⟩,xq C9 λc hc=>yF (Aw _ c hc)⟩
 .exact⟨⟨(Zj n.toNat l9).1,UJ (Aw _)⟩,λc hc=>yF (Aw _ c hc)⟩
theorem a2h{n:Int}{k:Nat}(h:fP n)(hk:1<=k/\k<=9):WdB (oU n k)/\∀c∈oU n k,prB c=true:=by
 unfold fP at h;obtain⟨d,f,e,hd,hf,hne,hz,hfl,hv,hdl⟩:=pY (u:=n.natAbs) (k:=k) l9 hk;have h1:∀x∈d++46::f,x≠32:=ZM (UJ hd) (KZ C9 (UJ hf));have h2:∀c∈d++46::f,prB c=true:=uA (λc hc=>yF (hd c hc)) (xq C9 λc hc=>yF (hf c hc));unfold oU;rw[e];split
 .exact⟨⟨x8,KZ C9 h1⟩,xq C9 h2⟩
 .exact⟨⟨x8,h1⟩,h2⟩
theorem Lu{d:Int}(h0:0<=d)(h:d<=109572):WdB (aY d)/\∀c∈aY d,prB c=true:=by obtain⟨A,B,C,e,a1,a2,a3,a4,a5,a6⟩:=KL h0 h;rw[e];exact⟨⟨x8,ZM (UJ a4) (KZ C9 (ZM (UJ a5) (KZ C9 (UJ a6))))⟩,uA (λc hc=>yF (a4 c hc)) (xq C9 (uA (λc hc=>yF (a5 c hc)) (xq C9 λc hc=>yF (a6 c hc))))⟩
theorem a2i(hW:EnW E)(hv:vty t E=true)(hn:inB n (bnd t E)=true)(hI:fP n):WdB (vaT n t E)/\∀c∈vaT n t E,prB c=true:=by
 refine PT (P:=λt=>WdB (vaT n t E)/\∀c∈vaT n t E,prB c=true) hv hn ?_ ?_ ?_ ?_ ?_ ?_
 .intro g1 g2;unfold vaT;simp only[O0 (rfl:(1:Int)=1),o7];cases D8 n 0
  .exact⟨(⟨C9,C9⟩:WdB [116,114,117,101]),(by decide:∀c∈([116,114,117,101]:c5v),prB c=true)⟩
  .exact⟨(⟨C9,C9⟩:WdB [102,97,108,115,101]),(by decide:∀c∈([102,97,108,115,101]:c5v),prB c=true)⟩
 .intro g1 g2;exact M_ hI
 .intro g1 g2;exact a2h (k:=2) hI l9
 .intro g1 g2;obtain⟨⟨a1,a2⟩,a3⟩:=a2h (n:=n) (k:=4) hI l9;exact⟨(⟨x8,ZM a2 (KZ C9 (λx hx=>by cases hx))⟩:WdB (oU n 4++[37])),uA a3 (xq C9 (λc hc=>by cases hc))⟩
 .intro g1 g2;exact Lu g1 g2
 .intro e i he hm g1 g2 hv0;have hml:=hW.mle e hm;have g2' :n<x9 e.2:=by rw[bI (by unfold fP x9;omega)]at g2;omega
  obtain⟨x,hx,hxm⟩:=tH g1 g2';have e1:vaT n (6,i) E=x:=by unfold vaT gtN;simp (disch:=decide) only[J8,o6];rw[he,X8,hx];rfl
  rw[e1];have:=hW.mid e hm x hxm;exact⟨Kz this,IG this⟩
theorem a6i(hW:EnW E)(hv:vty t E=true)(hn:inB n (bnd t E)=true)(hI:fP n):BU (vaT n t E) t E=some ((t.1,t.2,n),0):=by
 have hw:iw n t E=some true:=by unfold iw;rw[CY,o9];obtain⟨b1,b2⟩:=vW hn;rw[Y7 b1,Y7 b2];rfl
 have key:iR (vaT n t E) t E=some (n,0):=by
  refine PT (P:=λt=>iR (vaT n t E) t E=some (n,0)) hv hn ?_ ?_ ?_ ?_ ?_ ?_
  .intro g1 g2;have:n=0\/n=1:=l9;rcases this with rfl|rfl<;>rfl
  .intro g1 g2;unfold iR;rw[show vaT n (2,0) E=Lib.itoa n from rfl,b5b l9];rfl
  .intro g1 g2;unfold iR;rw[show vaT n (3,0) E=oU n 2 from rfl,show dP (oU n 2) 2=some (n,0)from b5a (k:=2) l9 l9];rfl
  .intro g1 g2;have l4:=Dh (n:=n) (k:=4) hI l9;have hc:wI (oU n 4++[37]) [37]=some (oU n 4,true):=by
    have e1:L6 .i64 (x9 (oU n 4++[37])) (x9 ([37]:c5v))=((oU n 4).length:Int):=by rw[bI (by unfold fP x9;simp;omega)];unfold x9;simp
    unfold wI tu tC;rw[Y7 (by unfold x9;simp<;>omega),o7,e1,qm l9 (by simp<;>omega),o9,I9,Y6,show seq [37] [37]=true from rfl,o9,F5,o6,zO l9 (by simp<;>omega),o9,I9,bJ];rfl
   unfold iR;rw[show vaT n (4,0) E=oU n 4++[37]from rfl,hc];simp (disch:=decide) only[J8,O0,o6,o7,o9,F5];rw[show dP (oU n 4) 4=some (n,0)from b5a (k:=4) l9 l9];rfl
  .intro g1 g2;unfold iR;rw[show vaT n (5,0) E=aY n from rfl,xu g1 g2];rfl
  .intro e i he hm g1 g2 hv0;have hml:=hW.mle e hm;have g2' :n<x9 e.2:=by rw[bI (by unfold fP x9;omega)]at g2;omega
   obtain⟨x,hx,hxm⟩:=tH g1 g2';have e1:vaT n (6,i) E=x:=by unfold vaT gtN;simp (disch:=decide) only[J8,o6];rw[he,X8,hx];rfl
   rw[e1];unfold iR;simp (disch:=decide) only[J8,o6];rw[he,o9];obtain⟨c1,c2,c3⟩:=BZ hx;have:=OB e.2 (λv=>seq v x) (λi=>(i:Int)) (λi=>((i:Int),(0:Int))) (ε:=PUnit) l9 (f:=λ(x_1:Int)=>
         l7 (J4 x_1 (x9 e.2))
          (o5 (P8 e.2 x_1) λ(v:c5v)=>
           l7 (seq v x) (some (Out.rt (x_1,0))) (some (Out.nx (I8 IntKind.i64 x_1 1))))
          (some (Out.ex PUnit.unit))) (λi a ha=>by
     have:=(aJ.1 ha).1;simp only[U0 ha,o7,O5,ha,o9];rw[bY l9];cases seq a x<;>rfl) n.toNat x c1 (gm.2 rfl) (λv hx=>pM.2 (hW.mun e hm _ _ c1 v hx))
   refine V6 this ?_;rw[o9,lU,c2]
 unfold BU;rw[rU,hv,o9,F5,o6,key,o9];simp only[O0 (rfl:(0:Int)=0),F5,o6];rw[hw,o9];rfl
end
end
section
theorem VI{w:c5v}(c:UInt8)(h:c∈w)(hc:c≠101/\c≠110/\c≠100):seq w [101,110,100]=false:=by
 refine pM.2 λe=>?_;rw[e]at h;simp only[D7,J5,or_false]at h;rcases h with h|h|h
 .exact hc.1 h
 .exact hc.2.1 h
 .exact hc.2.2 h
theorem b6n{d:c5v}(h:Dg d)(h0:d≠[]):∃c,c∈d/\c≠101/\c≠110/\c≠100:=by
 cases d with
 |nil=>exact absurd rfl h0|cons c t=>have:=Ji (h c x8);refine⟨c,x8,?_,?_,?_⟩<;>(rintro rfl;exact absurd this C9)
variable {d:Int}
theorem Zh(h0:0<=d)(h:d<=109572):seq (aY d) [101,110,100]=false:=by obtain⟨A,B,C,e,a1,a2,a3,a4,a5,a6⟩:=KL h0 h;rw[e];exact VI 45 x8 C9
theorem b2M{n:Int}(h:fP n):seq (Lib.itoa n) [101,110,100]=false:=by
 unfold fP at h;unfold Lib.itoa;split
 .exact VI 45 x8 C9
 .obtain⟨c,h1,h2⟩:=b6n (Aw n.toNat) (Zj n.toNat l9).1;exact VI c h1 h2
theorem a0F{n:Int}{k:Nat}(h:fP n)(hk:1<=k/\k<=9):(46:UInt8)∈oU n k:=by unfold fP at h;obtain⟨d,f,e,-⟩:=pY (u:=n.natAbs) (k:=k) l9 hk;unfold oU;rw[e];split<;>simp
variable {ws:List c5v}{lo:Int}{hi:Int}
section
variable {E:List U2} {t:Int×Int} {n:Int}
theorem c4N(hW:EnW E)(hv:vty t E=true)(hn:inB n (bnd t E)=true)(hI:fP n):seq (vaT n t E) [101,110,100]=false:=by
 refine PT (P:=λt=>seq (vaT n t E) [101,110,100]=false) hv hn ?_ ?_ ?_ ?_ ?_ ?_
 .intro g1 g2;have:n=0\/n=1:=l9;rcases this with rfl|rfl<;>rfl
 .intro g1 g2;exact b2M hI
 .intro g1 g2;exact VI 46 (a0F (k:=2) hI l9) C9
 .intro g1 g2;exact VI 46 (U8 [37] (a0F (n:=n) (k:=4) hI l9)) C9
 .intro g1 g2;exact Zh g1 g2
 .intro e i he hm g1 g2 hv0;have hml:=hW.mle e hm;have g2' :n<x9 e.2:=by rw[bI (by unfold fP x9;omega)]at g2;omega
  obtain⟨x,hx,hxm⟩:=tH g1 g2';have e1:vaT n (6,i) E=x:=by unfold vaT gtN;simp (disch:=decide) only[J8,o6];rw[he,X8,hx];rfl
  rw[e1];exact Nk (hW.mid e hm x hxm) (by decide+kernel)
theorem b3s(h0:0<=d)(h:d<=109572)(hw:LnW (aY d::ws)):bF (nM (aY d::ws)) false=some (d,0,nM ws):=by unfold bF;rw[yB hw,o9];simp only[F5,o6];rw[xu h0 h];rfl
theorem b6X(h0:0<=d)(h:d<=109573)(hw:LnW (enS d::ws)):bF (nM (enS d::ws)) true=some (d,0,nM ws):=by
 unfold bF;rw[yB hw,o9];simp only[F5,o6,o7];unfold enS;by_cases hd:d=109573
 .subst hd;rfl
 .rw[J8 hd,o6,Zh h0 l9,o6,xu h0 l9];rfl
theorem b0g(hW:EnW E)(hv:vty t E=true)(hn:inB n (bnd t E)=true)(hI:fP n)(hw:LnW (vaT n t E::ws)):dB (enR E) (nM (vaT n t E::ws)) t false=some (n,0,nM ws):=by unfold dB;rw[yB hw,o9];simp only[F5,o6];rw[a6i hW hv hn hI];rfl
def hiT(n:Int)(t:Int×Int)(E:List U2):c5v:=l7 (U7 n (bnd t E).2) (vaT n t E) [101,110,100]
theorem b2l(hW:EnW E)(hv:vty t E=true):-1000000000000000<=(bnd t E).1/\(bnd t E).2<=1000000000000000/\-1<=(bnd t E).2:=by
 obtain⟨k,i⟩:=t;rcases Dq hv with h|h|h|h|h|h
 .obtain⟨rfl,rfl⟩:k=1/\i=0:=h;rw[LV E x8];decide
 .obtain⟨rfl,rfl⟩:k=2/\i=0:=h;rw[LV E x8];decide
 .obtain⟨rfl,rfl⟩:k=3/\i=0:=h;rw[LV E x8];decide
 .obtain⟨rfl,rfl⟩:k=4/\i=0:=h;rw[LV E x8];decide
 .obtain⟨rfl,rfl⟩:k=5/\i=0:=h;rw[LV E x8];decide
 .obtain rfl:k=6:=h;obtain⟨e,he,hm⟩:=KW hv rfl;have hml:=hW.mle e hm;rw[b4C hv he,bI (by unfold fP x9;omega)];unfold x9;refine⟨x8,?_,?_⟩<;>simp only<;>omega
structure HiOk (E:List U2) (t:Int×Int) (lo hi:Int):Prop where
 l:inB lo (bnd t E)=true
 h:hi=(bnd t E).2+1\/inB hi (bnd t E)=true
 il:fP lo
 ih:fP hi
theorem b9H(hW:EnW E)(hv:vty t E=true)(h1:lo<hi)(h2:inB lo (bnd t E)=true)(h3:inB (L6 .i64 hi 1) (bnd t E)=true)(i1:fP lo)(i2:fP hi):HiOk E t lo hi:=by
 refine⟨h2,?_,i1,i2⟩;obtain⟨b1,b2⟩:=vW h2;have e:L6 .i64 hi 1=hi -1:=bI (by unfold fP at*;omega);rw[e]at h3;obtain⟨c1,c2⟩:=vW h3;by_cases g:hi<=(bnd t E).2
 .right;unfold inB;rw[Y7 l9,Y7 g];rfl
 .left;omega
theorem c2f(hW:EnW E)(hv:vty t E=true)(h:HiOk E t lo hi)(hw:LnW (hiT hi t E::ws)):dB (enR E) (nM (hiT hi t E::ws)) t true=some (hi,0,nM ws):=by
 have hb:=b2l hW hv;unfold dB;rw[yB hw,o9];simp only[F5,o6,o7];rcases h.h with e|e
 .have:hiT hi t E=[101,110,100]:=by unfold hiT;rw[dA l9];rfl
  rw[this,show seq [101,110,100] [101,110,100]=true from rfl,o7,CY,o9,cZ lm,e]
 .have:hiT hi t E=vaT hi t E:=by unfold hiT;rw[Y7 (vW e).2];rfl
  rw[this,c4N hW hv e h.ih,o6,a6i hW hv e h.ih];rfl
theorem b5W(hW:EnW E)(hv:vty t E=true)(h:HiOk E t lo hi):WdB (hiT hi t E)/\∀c∈hiT hi t E,prB c=true:=by
 rcases h.h with e|e
 .have:hiT hi t E=[101,110,100]:=by unfold hiT;rw[dA l9];rfl
  rw[this];exact⟨⟨C9,C9⟩,C9⟩
 .have:hiT hi t E=vaT hi t E:=by unfold hiT;rw[Y7 (vW e).2];rfl
  rw[this];exact a2i hW hv e h.ih
theorem L_(h0:0<=d)(h:d<=109573):WdB (enS d)/\∀c∈enS d,prB c=true:=by
 unfold enS;by_cases hd:d=109573
 .subst hd;exact⟨(⟨C9,C9⟩:WdB [101,110,100]),(by decide:∀c∈([101,110,100]:c5v),prB c=true)⟩
 .rw[J8 hd,o6];exact Lu h0 l9
structure RwT (E:List U2) (t:aP) (r:zq):Prop where
 d0:0<=r.1.1
 d1:r.1.1<=109572
 d2:r.1.2<=109573
 d3:0<=r.1.2
 hi:HiOk E t.2.1 r.2.1 r.2.2.1
 v:inB r.2.2.2 (bnd t.2.2.1 E)=true
 iv:fP r.2.2.2
theorem QQ{t:aP}{r:zq}(hW:EnW E)(hk:vty t.2.1 E=true)(hv:vty t.2.2.1 E=true)(h:RwT E t r):Ei t r E=[aY r.1.1,enS r.1.2,vaT r.2.1 t.2.1 E,hiT r.2.2.1 t.2.1 E,vaT r.2.2.2 t.2.2.1 E]:=by
 have e1:hiS t r E=hiT r.2.2.1 t.2.1 E:=by
  unfold hiS hiT;cases g:U7 r.2.2.1 (bnd t.2.1 E).2
  .rfl
  .rcases h.hi.h with e|e
   .have:=iM.1 g;omega
   .exact a4x hW hk e h.hi.ih
 unfold Ei;rw[e1,a4x hW hk h.hi.l h.hi.il,a4x hW hv h.v h.iv]
theorem b6Y{T:List aP}{S:List H6}{k:Int}{N:D9}{b:Bool}{t:aP}{r:zq}(hW:EnW E)(hT:T.length<=1000)(hk:vty t.2.1 E=true)(hv:vty t.2.2.1 E=true)(h:RwT E t r)(hl:t.2.2.2.length<=1000)(hw:LnW (Ei t r E)):
  lK (rdS E (T++[t]) S k N b) (nM (Ei t r E))=some (0,rdS E (T++[(t.1,t.2.1,t.2.2.1,t.2.2.2++[r])]) S k N b,nM []):=by
 obtain⟨e1,e2,e3,e4,e5,e6⟩:=Fp (S:=T) (s:=t) l9;rw[QQ hW hk hv h]at hw ⊢;have w1:=zN hw;have w2:=zN w1;have w3:=zN w2;have w4:=zN w3;unfold lK;rw[e3,o7,b3s h.d0 h.d1 hw,o9];simp only[O0 (rfl:(0:Int)=0),F5,o6];rw[b6X h.d3 h.d2 w1,o9];simp only[O0 (rfl:(0:Int)=0),F5,o6,e2,e4,o9];rw[b0g hW hk h.hi.l h.hi.il w2,o9];simp only[O0 (rfl:(0:Int)=0),F5,o6,e4,o9];rw[c2f hW hk h.hi w3,o9];simp only[O0 (rfl:(0:Int)=0),F5,o6,e4,o9];rw[b0g hW hv h.v h.iv w4,o9];simp only[O0 (rfl:(0:Int)=0),F5,o6,e4,o9];rw[uM H7,o9,AU,o7,KO,o9];simp only[e5]
end
end
section
def PtT(w:c5v):Prop:=(∀c∈w,c≠32/\c≠34)/\w≠[105,115]
def PtI(L:List It):Prop:=∀k,some k∈L->PtT k.2.1
theorem nG{A B:List It}(ha:PtI A)(hb:PtI B):PtI (A++B):=λk hk=>(F9.1 hk).elim (ha k) (hb k)
variable {B:List It}
theorem aj{k:V5}(ha:PtT k.2.1)(hb:PtI B):PtI (some k::B):=λj hj=>by
 rcases D7.1 hj with e|hj
 .cases e;exact ha
 .exact hb j hj
theorem rM(hb:PtI B):PtI (none::B):=λj hj=>by
 rcases D7.1 hj with e|hj
 .cases e
 .exact hb j hj
theorem kE:PtI []:=λj hj=>by cases hj
theorem b5c{w:c5v}(h:gq w=true):PtT w:=by
 refine⟨λc hc=>?_,pM.1 (Nk h (by decide+kernel))⟩;cases w with
 |nil=>cases h|cons d r=>rw[AL]at h;simp only[D5]at h;have:=ax.1 h.1.2 c hc;constructor<;>(rintro rfl;revert this;decide)
theorem ZW{d:c5v}(h:∀c∈d,wO c=true\/c=46\/c=37\/c=45):PtT d:=by
 refine⟨λc hc=>?_,?_⟩
 .rcases h c hc with h|rfl|rfl|rfl
  .have:=Ji h;constructor<;>(rintro rfl;exact absurd this C9)
  .decide
  .decide
  .decide
 .rintro rfl;rcases h 105 x8 with h|h|h|h<;>exact absurd h C9
theorem tY{c:UInt8}(h:c≠32/\c≠34):PtT [c]:=⟨λx hx=>by rw[V7.1 hx];exact h,x8⟩
theorem c0c{b:Bool}{x y:Option c5v}(hx:∃s,x=some s/\PtT s)(hy:∃s,y=some s/\PtT s):∃s,l7 b x y=some s/\PtT s:=by cases b<;>assumption
instance (w:c5v):Decidable (PtT w):=inferInstanceAs (Decidable (_/\_))
theorem Lj(k:Int):PtT (dC k):=by
 have:∃s,yJ k=some s/\PtT s:=by
  unfold yJ
  repeat (refine c0c ⟨_,rfl,C9⟩ ?_)
  exact⟨_,rfl,C9⟩
 obtain⟨s,h,h2⟩:=this;unfold dC;rw[h];exact h2
theorem a5B(k:Int):PtT (jT k):=by
 unfold jT dL;simp only[sU];repeat' split
 all_goals (simp only[X8,Option.getD_none];decide)
theorem b6U(k:Int):PtT (jB k).1:=by
 unfold jB lN;simp only[sU];repeat' split
 all_goals (simp only[X8,Option.getD_none];decide)
theorem a9Q{k:Int}{u:Nat}(hu:u<18446744073709551616):PtT (IV k u):=by
 have hd:∀c∈Lib.decDigits u,wO c=true\/c=46\/c=37\/c=45:=λc hc=> .inl (Aw u c hc);have hf:∀j:Nat,1<=j/\j<=9->∀c∈uH u j,wO c=true\/c=46\/c=37\/c=45:=by
  intro j hj c hc;obtain⟨d,f,e,hd,hf,-⟩:=pY (u:=u) (k:=j) hu hj;rw[e]at hc;rcases F9.1 hc with hc|hc
  .exact .inl (hd c hc)
  .rcases D7.1 hc with rfl|hc
   .exact .inr (.inl rfl)
   .exact .inl (hf c hc)
 unfold IV;cases D8 k 2
 .rw[o6];cases D8 k 3
  .rw[o6];refine ZW λc hc=>?_;rcases F9.1 hc with hc|hc
   .exact hf 4 l9 c hc
   .exact .inr (.inr (.inl (V7.1 hc)))
  .exact ZW (hf 2 l9)
 .exact ZW hd
theorem b3p{d:Int}(h0:0<=d)(h:d<=109572):PtT (aY d):=by
 obtain⟨A,B,C,e,a1,a2,a3,a4,a5,a6⟩:=KL h0 h;rw[e];refine ZW λc hc=>?_;simp only[F9,D7]at hc;rcases hc with hc|rfl|hc|rfl|hc
 .exact .inl (a4 c hc)
 .simp
 .exact .inl (a5 c hc)
 .simp
 .exact .inl (a6 c hc)
theorem NI{l:List c5v}{i:Int}(h:∀s∈l,gq s=true):PtT (gtN l i):=by
 unfold gtN;cases hl:P8 l i with
 |none=>exact(by decide:PtT [])|some s=>exact b5c (h s (wE hl))
theorem b6S{k m:Int}(hk:k=1\/k=2\/k=3\/k=4\/k=5)(hm:fP m)(hd:k=5->0<=m/\m<=109572):PtI (OJ k m):=by
 unfold OJ;have hu:m.natAbs<18446744073709551616:=by unfold fP at hm;omega
 cases g1:D8 k 1
 case true=>
  refine aj ?_ kE;cases D8 m 0
  .exact(by decide:PtT [116,114,117,101])
  .exact(by decide:PtT [102,97,108,115,101])
 simp only[o6];cases g5:D8 k 5
 case true=>have:=hd (eF.1 g5);exact aj (b3p this.1 this.2) kE
 simp only[o6];cases J4 m 0
 .exact aj (a9Q hu) kE
 .exact aj (tY C9) (aj (a9Q hu) kE)
theorem a5C{L:List It}(h:PtI L)(c d:Int):PtI (wiI L c d):=by
 unfold wiI;cases J4 c d
 .exact h
 .exact nG (nG (aj (tY C9) kE) h) (aj (tY C9) kE)
variable {n:Int×Int}
section
variable {N:D9} (hN:NmI N)
include hN
theorem b3q(ha:arF n.1=0)(hm:fP n.2)(h:flS n N=0):PtI (Gg n N):=by
 obtain⟨k,m⟩:=n;unfold Gg;cases g:U7 k 5
 case true=>
  have h5:=iM.1 g;have hk:k=1\/k=2\/k=3\/k=4\/k=5:=by rcases ar0 ha with h|h|h|h|h|h|h|h|h|h|h|h|h|h<;>simp only at h<;>omega
  refine b6S hk hm λe=>?_;subst e;exact DX (N:=N) l9 rfl h
 simp only[o6];cases D8 k 6
 case true=>
  refine aj ?_ (aj (tY C9) (aj ?_ kE))
  .show PtT ((P8 N.1 (dh .i64 m 16)).getD ([],[])).1;cases hl:P8 N.1 (dh .i64 m 16)with
   |none=>exact(by decide:PtT [])|some e=>exact b5c (hN.e e (wE hl)).1
  .show PtT (gtN ((P8 N.1 (dh .i64 m 16)).getD ([],[])).2 (iE m 16));cases hl:P8 N.1 (dh .i64 m 16)with
   |none=>exact NI (λs hs=>by cases hs)|some e=>exact NI (hN.e e (wE hl)).2
 simp only[o6];cases D8 k 7
 case true=>exact aj (NI hN.i) kE
 simp only[o6];cases D8 k 8
 case true=>exact aj (NI hN.d) kE
 simp only[o6];cases D8 k 9
 case true=>exact aj (by decide:PtT [116,111,100,97,121]) kE
 simp only[o6];cases D8 k 35
 case true=>exact aj (by decide:PtT [99,111,117,110,116]) (aj (tY C9) (aj (tY C9) kE))
 exact aj (Lj k) (aj (tY C9) (aj (NI hN.m) (aj (tY C9) kE)))
theorem b6T{num:Bool}{L:List It}{c:Int}(h:PtI L):PtI (a7k n N num L c):=by
 unfold a7k;cases D8 n.1 33
 case true=>exact nG (nG (aj (Lj _) (aj (tY C9) (aj (NI hN.t) (aj (tY C9) (rM kE))))) h) (aj (tY C9) kE)
 simp only[o6];cases D8 n.1 34
 case true=>exact nG (nG (aj (Lj _) (aj (tY C9) (aj (NI hN.t) (aj (tY C9) (rM kE))))) h) (aj (tY C9) (rM (aj (a5B _) (aj (tY C9) kE))))
 simp only[o6];cases D8 n.1 25
 case true=>exact nG (aj (by decide:PtT [110,111,116]) (rM kE)) (a5C h _ _)
 simp only[o6];cases D8 n.1 10
 case true=>
  refine nG (aj (tY C9) kE) ?_;cases num
  .exact a5C h _ _
  .exact nG (nG (aj (tY C9) kE) h) (aj (tY C9) kE)
 exact nG (nG (aj (Lj _) (aj (tY C9) kE)) h) (aj (tY C9) kE)
omit hN in
theorem b6V{A B:List It}{c d:Int}(h:PtI A)(g:PtI B):PtI (Ku n A c B d):=by
 unfold Ku;cases SS n.1
 case true=>exact nG (nG (nG (nG (aj (Lj _) (aj (tY C9) kE)) h) (aj (tY C9) (rM kE))) g) (aj (tY C9) kE)
 simp only[o6];cases Xt n.1
 case true=>exact nG (nG (nG (nG (aj (Lj _) (aj (tY C9) kE)) h) (aj (tY C9) (rM kE))) g) (aj (tY C9) (rM (aj (a5B _) (aj (tY C9) kE))))
 exact nG (nG (a5C h _ _) (rM (aj (b6U _) (rM kE)))) (a5C g _ _)
theorem Ia:∀(t:XT),t.wf->(∀n∈t.post,fP n.2)->(∀n∈t.post,flS n N=0)->PtI (itT N t)
 | .l0 n,hw,hI,hz=>b3q hN hw (hI n (by simp[XT.post])) (hz n (by simp[XT.post]))| .l1 n a,hw,hI,hz=>b6T hN (Ia a hw.2 (λm hm=>hI m (by simp[XT.post,hm])) (λm hm=>hz m (by simp[XT.post,hm])))| .l2 n a b,hw,hI,hz=>b6V (Ia a hw.2.1 (λm hm=>hI m (by simp[XT.post,hm])) (λm hm=>hz m (by simp[XT.post,hm]))) (Ia b hw.2.2 (λm hm=>hI m (by simp[XT.post,hm])) (λm hm=>hz m (by simp[XT.post,hm])))| .l3 n a b c,hw,hI,hz=>by have ha:=Ia a hw.2.1 (λm hm=>hI m (by simp[XT.post,hm])) (λm hm=>hz m (by simp[XT.post,hm]));have hb:=Ia b hw.2.2.1 (λm hm=>hI m (by simp[XT.post,hm])) (λm hm=>hz m (by simp[XT.post,hm]));have hc:=Ia c hw.2.2.2 (λm hm=>hI m (by simp[XT.post,hm])) (λm hm=>hz m (by simp[XT.post,hm]));exact nG (nG (nG (nG (nG (aj (by decide:PtT [105,102]) (rM kE)) ha) (rM (aj (by decide:PtT [116,104,101,110]) (rM kE)))) hb) (rM (aj (by decide:PtT [101,108,115,101]) (rM kE)))) hc
end
theorem a4Z{x:UInt8}{sub:c5v} :∀{a r:c5v},(∀c∈a,c≠x)->Ag (x::sub) a r
 |[],r,h=>trivial|c::a,r,h=>by
  refine⟨?_,a4Z λy hy=>h y (by simp[hy])⟩;have:=h c x8;simp only[List.isPrefixOf];have:(x==c)=false:=by simpa[beq_eq_false_iff_ne]using λe=>this e.symm
  rw[this];rfl
def sIs:c5v:=[32,105,115,32]
theorem b9b{k:V5}{X:c5v}(hk:TokOk k)(hp:PtT k.2.1)(hs:a0H k\/HdS X):([105,115,32]:c5v).isPrefixOf (k.2.1++X)=false:=by
 cases hq:([105,115,32]:c5v).isPrefixOf (k.2.1++X)with
 |false=>rfl|true=>
  exfalso;obtain⟨r,hr⟩:=ja.1 hq;obtain⟨c,t,e,-⟩:=hk.ne;rw[e]at hr;simp only[G9,G8,H8]at hr;obtain⟨rfl,hr⟩:=hr;have hX:HdS X:=by
   rcases hs with⟨c,hc,e2⟩|h
   .rw[e2]at e;simp only[H8]at e;rcases hc with rfl|rfl|rfl|rfl|rfl|rfl|rfl<;>exact absurd e.1 C9
   .exact h
  cases t with
  |nil=>have:=hX 115 _ hr.symm;exact absurd this C9|cons d t=>
   simp only[G9,H8]at hr;obtain⟨rfl,hr⟩:=hr;cases t with
   |nil=>exact hp.2 e|cons b t=>simp only[G9,H8]at hr;obtain⟨rfl,hr⟩:=hr;exact(hp.1 32 (by rw[e];simp)).1 rfl
theorem Zu:∀(L:List It) (x:c5v),WSR L (sIs++x)->PtI L->Ag sIs (bH L) (sIs++x)
 |[],x,h,hp=>trivial|none::L,x,h,hp=>by
  refine⟨?_,Zu L x h.2 (λk hk=>hp k (by simp[hk]))⟩;show(([32,105,115,32]:c5v)).isPrefixOf (32::(bH L++(sIs++x)))=false;show(([105,115,32]:c5v)).isPrefixOf (bH L++(sIs++x))=false;cases L with
  |nil=>rfl|cons k L=>
   cases k with
   |none=>rfl|some k=>show(([105,115,32]:c5v)).isPrefixOf ((k.2.1++bH L)++(sIs++x))=false;rw[E8];exact b9b h.2.1 (hp k x8) h.2.2.1
 |some k::L,x,h,hp=>by show Ag sIs (k.2.1++bH L) (sIs++x);rw[a0I];exact⟨a4Z λc hc=>((hp k x8).1 c hc).1,Zu L x h.2.2 (λk hk=>hp k (by simp[hk]))⟩
theorem Zr:∀(L:List It),PtI L->∀c∈bH L,c≠34
 |[],hp=>λc hc=>by cases hc
 |none::L,hp=>λc hc=>by
  rcases D7.1 hc with rfl|hc
  .decide
  .exact Zr L (λk hk=>hp k (by simp[hk])) c hc
 |some k::L,hp=>λc hc=>by
  rcases F9.1 hc with hc|hc
  .exact((hp k x8).1 c hc).2
  .exact Zr L (λk hk=>hp k (by simp[hk])) c hc
def r_:c5v:=[32,115,114,99,32,34]
theorem Vb:∀(a r:c5v),(∀c∈a,c≠34)->(r=[]\/∃x,r=r_++x)->Ag r_ a r
 |[],r,h,hr=>trivial|c::a,r,h,hr=>by
  refine⟨?_,Vb a r (λy hy=>h y (by simp[hy])) hr⟩;cases hq:r_.isPrefixOf (c::(a++r))with
  |false=>rfl|true=>
   exfalso;obtain⟨z,hz⟩:=ja.1 hq;have h5:((c::a)++r)[5]? =some 34:=by rw[G9,←hz];rfl
   by_cases hl:5<(c::a).length
   .rw[Z7 hl]at h5;exact h 34 (rD h5) rfl
   .rw[F7 l9]at h5;rcases hr with rfl|⟨x,rfl⟩
    .simp at h5
    .have hj:5 -(c::a).length=0\/5 -(c::a).length=1\/5 -(c::a).length=2\/5 -(c::a).length=3\/5 -(c::a).length=4:=by simp only[A8]at hl ⊢;omega
     rcases hj with e|e|e|e|e<;>rw[e,Z7 C9]at h5<;>exact absurd h5 C9
structure ExT (t:c5v) (e:List (Int×Int)) (N:D9):Prop where
 p:t.length<=65536->sZ t N=some (e,0,0)
 n:t≠[]
 pr:∀c∈t,prB c=true
 is:∀x,Ag sIs t (sIs++x)
 q:∀c∈t,c≠34
theorem KR{l:O6}{s:H6}{e:List (Int×Int)}{t:Int×Int}(hN:NmOk (nmS l s))(hD:NmD (nmS l s))(hI:∀n∈e,fP n.2)(h:Cj e (ug l s) t=0):ExT (BC e (nmS l s)).1 e (nmS l s):=by
 obtain⟨T,hs,hp,hw,hz⟩:=Ri hI h;have hI' :∀n∈T.post,fP n.2:=hp▸hI;have hff:ffS (nmS l s) e=0:=by
  rw[hp];have:∀L:List (Int×Int),(∀n∈L,flS n (nmS l s)=0)->ffS (nmS l s) L=0:=by
   intro L;induction L with
   |nil=>intro _;rfl
   |cons n L ih=>intro hL;show l7 (D8 (flS n (nmS l s)) 0) (ffS (nmS l s) L) (flS n (nmS l s))=0;rw[O0 (hL n x8),o7];exact ih λm hm=>hL m (by simp[hm])
  exact this _ hz
 have hf:BC e (nmS l s)=((txT (nmS l s) T).1,0):=by unfold BC;rw[hs];simp only;rw[O0 hff];rfl
 have hfl:=CP T hw hI' hz;have hws:=OE hD.id T hw hI' hz;have hpt:=Ia hD.id T hw hI' hz;have hpr:=b6r hN hD hI (by rw[hf]);rw[hf]at hpr;rw[hf];refine⟨λhl=>a9K hN hD hI (by rw[hf]) hl,hpr.1,hpr.2,λx=>?_,?_⟩
 .simp only;rw[←hfl];exact Zu _ x (hws.ws _ (qN C9 _)) hpt
 .simp only;rw[←hfl];exact Zr _ hpt
end
section
def DD:List c5v->c5v->G5
 |[],T=>(T,true)|w::ws,T=>(w++(spW ws++32::T),true)
structure LnT (ps:List c5v) (T:c5v):Prop where
 w:∀w∈ps,WdB w
 l:(spW ps).length+T.length<=1000000
variable {w:c5v}
theorem gJ{ps:List c5v}{T:c5v}(h:LnT (w::ps) T):LnT ps T:=by refine⟨λv hv=>h.w v (by simp[hv]),?_⟩;have:=h.l;rw[vF]at this;simp only[A7,A8]at this;omega
theorem pO{ps:List c5v}{T:c5v}(h:LnT (w::ps) T):H5 (DD (w::ps) T)=some (w,true,DD ps T):=by
 have hl:=h.l;rw[vF]at hl;simp only[A7,A8]at hl;cases ps with
 |nil=>exact Ua (h.w w x8) (R:=T) H7|cons v vs=>rw[vF]at hl;simp only[A7,A8]at hl;have:=Ua (h.w w x8) (R:=v++(spW vs++32::T)) H7;show H5 (w++(spW (v::vs)++32::T),true)=some (w,true,(v++(spW vs++32::T),true));rw[vF,E8];exact this
abbrev scR(S:List H6):(Unit×Unit×List H6)×Unit×(Unit×Unit×Unit×Unit×Unit)×Unit:=((PUnit.unit,PUnit.unit,S),PUnit.unit,(PUnit.unit,PUnit.unit,PUnit.unit,PUnit.unit,PUnit.unit),PUnit.unit)
variable {d:Int}
section
variable {S:List H6} {s:H6} {ps:List c5v} {T:c5v}
theorem Gs(h:LnT (w::ps) T):jX (DD (w::ps) T) w=some (0,DD ps T):=by unfold jX;rw[pO h,o9];simp only[F5,o6];rw[show seq w w=true from gm.2 rfl];rfl
theorem Pm(h0:0<=d)(h1:d<=109572)(h:LnT (aY d::ps) T):bF (DD (aY d::ps) T) false=some (d,0,DD ps T):=by unfold bF;rw[pO h,o9];simp only[F5,o6];rw[xu h0 h1];rfl
theorem TQ(h0:0<=d)(h1:d<=109573)(h:LnT (enS d::ps) T):bF (DD (enS d::ps) T) true=some (d,0,DD ps T):=by
 unfold bF;rw[pO h,o9];simp only[F5,o6,o7];unfold enS;by_cases hd:d=109573
 .subst hd;rfl
 .rw[J8 hd,o6,Zh h0 l9,o6,xu h0 l9];rfl
theorem a5D{p:Int}(h0:1<=p)(h9:p<=9)(h:LnT (Lib.itoa p::ps) T):rJ (DD (Lib.itoa p::ps) T)=some (p,0,DD ps T):=by unfold rJ;rw[pO h,o9];simp only[F5,o6];rw[b5b l9,o9];simp only[O0 (rfl:(0:Int)=0),F5,o6];rw[dA l9,o6]
theorem b0e{f:dO}(hS:S.length<=1000)(hl:s.2.2.2.1.length<=1000)(hd:P8 s.2.2.2.1 d=some f)(hu:∀x∈s.2.2.2.1.take d.toNat,x.1≠f.1)(h:LnT (f.1::ps) T):pI (scR (S++[s])) (DD (f.1::ps) T)=some (d,0,DD ps T):=by
 obtain⟨e1,e2,e3,e4,e5,e6⟩:=Fp (S:=S) (s:=s) l9;obtain⟨c1,c2,c3⟩:=BZ hd;unfold pI;rw[pO h,o9];simp only[F5,o6];rw[e6,o9];have:=OB s.2.2.2.1 (λx=>seq x.1 f.1) (λi=>(i:Int)) (λi=>((i:Int),(0:Int),DD ps T)) (ε:=PUnit) l9 (f:=λ(x_2:Int)=>
      l7 (J4 x_2 (x9 s.2.2.2.1))
       (o5 (P8 s.2.2.2.1 x_2) λ(x_3:dO)=>
        l7 (seq x_3.1 f.1) (some (Out.rt (x_2,0,DD ps T))) (some (Out.nx (I8 IntKind.i64 x_2 1))))
       (some (Out.ex PUnit.unit))) (λi a ha=>by
     have:=(aJ.1 ha).1;simp only[U0 ha,o7,O5,ha,o9];rw[bY l9];cases seq a.1 f.1<;>rfl) d.toNat f c1 (gm.2 rfl) (λx hx=>pM.2 (hu x hx))
 refine V6 this ?_;rw[o9,lU,c2]
theorem Yv{p:Nat}{q:U3}(hS:S.length<=1000)(hl:s.2.2.2.2.length<=1000)(hp:s.2.2.2.2[p]? =some q)(hu:∀x∈s.2.2.2.2.take p,x.1≠q.1)(h:LnT (q.1::ps) T):mG (scR (S++[s])) (DD (q.1::ps) T)=some ((p:Int),0,DD ps T):=by
 obtain⟨e1,e2,e3,e4,e5,e6⟩:=Fp (S:=S) (s:=s) l9;unfold mG;rw[pO h,o9];simp only[F5,o6];rw[e6,o9];have:=OB s.2.2.2.2 (λx=>seq x.1 q.1) (λi=>(i:Int)) (λi=>((i:Int),(0:Int),DD ps T)) (ε:=PUnit) l9 (f:=λ(x_2:Int)=>
      l7 (J4 x_2 (x9 s.2.2.2.2))
       (o5 (P8 s.2.2.2.2 x_2) λ(x_3:U3)=>
        l7 (seq x_3.1 q.1) (some (Out.rt (x_2,0,DD ps T))) (some (Out.nx (I8 IntKind.i64 x_2 1))))
       (some (Out.ex PUnit.unit))) (λi a ha=>by
     have:=(aJ.1 ha).1;simp only[U0 ha,o7,O5,ha,o9];rw[bY l9];cases seq a.1 q.1<;>rfl) p q hp (gm.2 rfl) (λx hx=>pM.2 (hu x hx))
 refine V6 this ?_;rw[o9,lU]
def b5X(s:H6)(r:U3)(ov:List c5v):Prop:=(ov=[]/\r.2.2.1=-1)\/∃(p:Nat) (q:U3),ov=[[111,118,101,114],q.1]/\r.2.2.1=(p:Int)/\s.2.2.2.2[p]? =some q/\∀x∈s.2.2.2.2.take p,x.1≠q.1
def b5Z(r:U3)(pr:List c5v):Prop:=(pr=[]/\r.2.2.2.1=0)\/(pr=[[112,114,105,111],Lib.itoa r.2.2.2.1]/\1<=r.2.2.2.1/\r.2.2.2.1<=9)
theorem b3u{r:U3}{f:dO}{ov pr:List c5v}{key:c5v}(hS:S.length<=1000)(h1:s.2.2.2.1.length<=1000)(h2:s.2.2.2.2.length<=1000)
  (hd:P8 s.2.2.2.1 r.2.1=some f) (hu:∀x∈s.2.2.2.1.take r.2.1.toNat,x.1≠f.1) (hov:b5X s r ov) (hpr:b5Z r pr) (d0:0<=r.2.2.2.2.1.1) (d1:r.2.2.2.2.1.1<=109572) (d2:0<=r.2.2.2.2.1.2) (d3:r.2.2.2.2.1.2<=109573)
  (h:LnT ([r.1,[111,102],f.1]++(ov++(pr++[[102,114,111,109],aY r.2.2.2.2.1.1,[116,111],enS r.2.2.2.2.1.2,key]))) T):
  kY (scR (S++[s])) (DD ([r.1,[111,102],f.1]++(ov++(pr++[[102,114,111,109],aY r.2.2.2.2.1.1,[116,111],enS r.2.2.2.2.1.2,key]))) T) ([],0,-1,0,(0,0),[],[],[])=some (key,0,(T,true),r.1,r.2.1,r.2.2.1,r.2.2.2.1,r.2.2.2.2.1,[],[],[]):=by
 have q1:seq [112,114,105,111] [111,118,101,114]=false:=rfl;have q2:seq [102,114,111,109] [111,118,101,114]=false:=rfl;have q3:seq [111,118,101,114] [111,118,101,114]=true:=rfl;have q4:seq [112,114,105,111] [112,114,105,111]=true:=rfl;have q5:seq [102,114,111,109] [112,114,105,111]=false:=rfl;have q6:seq [102,114,111,109] [102,114,111,109]=true:=rfl;have z:=O0 (rfl:(0:Int)=0);simp only[G9,G8]at h ⊢;have t1:=gJ h;have t2:=gJ t1;have t3:=gJ t2;unfold kY;rw[pO h,o9];simp only[F5,o6];rw[Gs t1,o9];simp only[z,F5,o6];rw[b0e hS h1 hd hu t2,o9];simp only[z,F5,o6];rcases hov with⟨rfl,ho⟩|⟨p,q,rfl,ho,hq,hqu⟩
 .rcases hpr with⟨rfl,hp⟩|⟨rfl,hp1,hp9⟩
  .simp only[G9,G8]at t3 ⊢;rw[pO t3,o9];simp only[q2,o6];rw[o9,ae];simp only[q5,q6,F5,o6];have t4:=gJ t3;have t5:=gJ t4;have t6:=gJ t5;have t7:=gJ t6;rw[Pm d0 d1 t4,o9];simp only[z,F5,o6];rw[Gs t5,o9];simp only[z,F5,o6];rw[TQ d2 d3 t6,o9];simp only[z,F5,o6];rw[pO t7,o9];rw[ho,hp];rfl
  .simp only[G9,G8]at t3 ⊢;rw[pO t3,o9];simp only[q1,o6];rw[o9,ae];have t4:=gJ t3;simp only[q4,o7];rw[a5D hp1 hp9 t4,o9];simp only[z,F5,o6];have t5:=gJ t4;rw[pO t5,o9];simp only[q6,F5,o6];have t6:=gJ t5;have t7:=gJ t6;have t8:=gJ t7;have t9:=gJ t8;rw[Pm d0 d1 t6,o9];simp only[z,F5,o6];rw[Gs t7,o9];simp only[z,F5,o6];rw[TQ d2 d3 t8,o9];simp only[z,F5,o6];rw[pO t9,o9];rw[ho];rfl
 .rcases hpr with⟨rfl,hp⟩|⟨rfl,hp1,hp9⟩
  .simp only[G9,G8]at t3 ⊢;rw[pO t3,o9];have t4:=gJ t3;have t5:=gJ t4;simp only[q3,o7];rw[Yv hS h2 hq hqu t4,o9];simp only[z,F5,o6];rw[pO t5,o9,o9,ae];simp only[q5,q6,F5,o6];have t6:=gJ t5;have t7:=gJ t6;have t8:=gJ t7;have t9:=gJ t8;rw[Pm d0 d1 t6,o9];simp only[z,F5,o6];rw[Gs t7,o9];simp only[z,F5,o6];rw[TQ d2 d3 t8,o9];simp only[z,F5,o6];rw[pO t9,o9];rw[ho,hp];rfl
  .simp only[G9,G8]at t3 ⊢;rw[pO t3,o9];have t4:=gJ t3;have t5:=gJ t4;simp only[q3,o7];rw[Yv hS h2 hq hqu t4,o9];simp only[z,F5,o6];rw[pO t5,o9,o9,ae];have t6:=gJ t5;simp only[q4,o7];rw[a5D hp1 hp9 t6,o9];simp only[z,F5,o6];have t7:=gJ t6;rw[pO t7,o9];simp only[q6,F5,o6];have t8:=gJ t7;have t9:=gJ t8;have t10:=gJ t9;have t11:=gJ t10;rw[Pm d0 d1 t8,o9];simp only[z,F5,o6];rw[Gs t9,o9];simp only[z,F5,o6];rw[TQ d2 d3 t10,o9];simp only[z,F5,o6];rw[pO t11,o9];rw[ho];rfl
end
end
section
def soT(s:c5v):c5v:=l7 (seq s []) [] (r_++(s++[34]))
theorem b8U{s:c5v}(h:QY s=true):∀c∈s,c≠34:=by unfold QY at h;simp only[D5]at h;intro c hc e;have:=ax.1 h.2 c hc;rw[e]at this;exact absurd this C9
theorem a8O{G W:c5v}{e:List (Int×Int)}{N:D9}(hx:ExT G e N)(hl:(G++(sIs++W)).length<=65536):
  ku ((PUnit.unit,PUnit.unit,PUnit.unit),PUnit.unit,N,PUnit.unit) (G++(sIs++W),true)=some (e,0,(W,true)):=by
 unfold ku;have hc:=Zg (sub:=sIs) (a:=G) (x:=W) C9 (hx.is W) l9;unfold sIs at hc hl ⊢;simp only[F5,o6];rw[hc,o9];simp only[F5,o6];rw[hx.p (by simp at hl;omega),o9]
def ZE(r:U3):c5v:=l7 (J4 0 (x9 r.2.2.2.2.2.1)) [119,104,101,110] [105,115]
def PG(r:U3)(N:D9):c5v:=l7 (J4 0 (x9 r.2.2.2.2.2.1)) ((BC r.2.2.2.2.2.1 N).1++(sIs++((BC r.2.2.2.2.2.2.1 N).1++soT r.2.2.2.2.2.2.2))) ((BC r.2.2.2.2.2.2.1 N).1++soT r.2.2.2.2.2.2.2)
section
variable {E:List U2} {T:List aP} {S:List H6} {s:H6} {k:Int} {N N0:D9} {b:Bool}
theorem b3v{r:U3}{f:dO}{ov pr:List c5v}(hS:S.length<=1000)(h1:s.2.2.2.1.length<=1000)(h2:s.2.2.2.2.length<=1000)
  (hd:P8 s.2.2.2.1 r.2.1=some f) (hu:∀x∈s.2.2.2.1.take r.2.1.toNat,x.1≠f.1) (hov:b5X s r ov) (hpr:b5Z r pr) (d0:0<=r.2.2.2.2.1.1) (d1:r.2.2.2.2.1.1<=109572) (d2:0<=r.2.2.2.2.1.2) (d3:r.2.2.2.2.1.2<=109573)
  (hn:b=true->N=N0) (hn2:b=false->jm (E,T,S++[s]) (L6 .i64 (x9 (S++[s])) 1)=some N0)
  (hg:r.2.2.2.2.2.1≠[]->ExT (BC r.2.2.2.2.2.1 N0).1 r.2.2.2.2.2.1 N0) (hv:ExT (BC r.2.2.2.2.2.2.1 N0).1 r.2.2.2.2.2.2.1 N0) (hs:QY r.2.2.2.2.2.2.2=true) (hl:(PG r N0).length<=65536)
  (h:LnT ([r.1,[111,102],f.1]++(ov++(pr++[[102,114,111,109],aY r.2.2.2.2.1.1,[116,111],enS r.2.2.2.2.1.2,ZE r]))) (PG r N0)):
  iY (rdS E T (S++[s]) k N b) (DD ([r.1,[111,102],f.1]++(ov++(pr++[[102,114,111,109],aY r.2.2.2.2.1.1,[116,111],enS r.2.2.2.2.1.2,ZE r]))) (PG r N0))
   =some (0,rdS E T (S++[(s.1,s.2.1,s.2.2.1,s.2.2.2.1,s.2.2.2.2++[r])]) k N0 true,((BC r.2.2.2.2.2.2.1 N0).1++soT r.2.2.2.2.2.2.2,true)):=by
 obtain⟨e1,e2,e3,e4,e5,e6⟩:=Fp (S:=S) (s:=s) l9;have z:=O0 (rfl:(0:Int)=0);unfold iY;rw[b3u hS h1 h2 hd hu hov hpr d0 d1 d2 d3 h,o9];simp only[z,F5,o6];have hnm:(l7 (I5 b)
    (o5 (jm (E,T,S++[s]) (L6 IntKind.i64 (x9 (S++[s])) 1)) λ(x:D9)=>
     some (((E,T,S++[s]),k,x,true):I7))
    (some ((E,T,S++[s]),k,N,b)))=some ((E,T,S++[s]),k,N0,true):=by
  cases b
  .rw[af,o7,hn2 rfl];rfl
  .rw[hn rfl];rfl
 refine V6 hnm ?_;rw[o9];simp only;have hgd:(l7 (seq (ZE r) [119,104,101,110])
     (o5
      (ku ((PUnit.unit,PUnit.unit,PUnit.unit),PUnit.unit,N0,PUnit.unit) (PG r N0,true))
      λ(x_2:List L9×Int×G5)=>
      l7 (I5 (D8 x_2.2.1 0)) (some (Sum.inr (x_2.2.1,(((E,T,S++[s]),k,N0,true):I7),x_2.2.2)))
       (some
        (Sum.inl
         (x_2.2.2,r.1,r.2.1,r.2.2.1,r.2.2.2.1,r.2.2.2.2.1,x_2.1,([]:List L9),([]:c5v)))))
     (l7 (I5 (seq (ZE r) [105,115])) (some (Sum.inr (2,((E,T,S++[s]),k,N0,true),(PG r N0,true)))) (some (Sum.inl ((PG r N0,true),r.1,r.2.1,r.2.2.1,r.2.2.2.1,r.2.2.2.2.1,[],[],[])))))
    =some ((Sum.inl (((BC r.2.2.2.2.2.2.1 N0).1++soT r.2.2.2.2.2.2.2,true),r.1,r.2.1,r.2.2.1,r.2.2.2.1,r.2.2.2.2.1,r.2.2.2.2.2.1,[],[])):(G5×U3)⊕(Int×I7×G5)):=by
  unfold ZE PG at*;cases gg:J4 0 (x9 r.2.2.2.2.2.1)
  .have he:r.2.2.2.2.2.1=[]:=by
    rw[mf]at gg;have:r.2.2.2.2.2.1.length=0:=by unfold x9 at gg;omega
    exact aZ.1 this
   rw[he];rfl
  .have he:r.2.2.2.2.2.1≠[]:=λe=>by rw[e]at gg;exact absurd gg C9
   rw[gg,o7]at hl;simp only[o7,show seq [119,104,101,110] [119,104,101,110]=true from rfl];rw[a8O (hg he) hl,o9];simp only[z,F5,o6]
 refine V6 hgd ?_;rw[o9,ae];have hlv:((BC r.2.2.2.2.2.2.1 N0).1++soT r.2.2.2.2.2.2.2).length<=65536:=by
  unfold PG at hl;cases gg:J4 0 (x9 r.2.2.2.2.2.1)<;>rw[gg]at hl
  .exact hl
  .rw[o7]at hl;rw[A7,A7]at hl;omega
 simp only[F5,o6];have hlr:iy s.2.2.2.2 [r]=some (s.2.2.2.2++[r]):=uM H7;unfold soT at hlv ⊢;cases gs:seq r.2.2.2.2.2.2.2 []
 .rw[gs,o6]at hlv;have hne:=pM.1 gs;rw[o6];have hl34:(r.2.2.2.2.2.2.2++[34]).length<=65536:=by simp only[A7]at hlv ⊢;omega
  have h1s:1<=r.2.2.2.2.2.2.2.length:=by
   cases hq:r.2.2.2.2.2.2.2 with
   |nil=>exact absurd hq hne|cons c t=>simp
  rw[show([32,115,114,99,32,34]:c5v)=r_ from rfl,Zg (sub:=r_) C9 (Vb _ _ hv.q (.inr ⟨_,rfl⟩)) (V9 hlv C9),o9];simp only;rw[hv.p (by simp only[A7]at hlv ⊢;omega),o9];simp only[z,F5,o6,o7];have e7:L6 .i64 (x9 (r.2.2.2.2.2.2.2++[34])) 1=(r.2.2.2.2.2.2.2.length:Int):=by rw[bI (by unfold fP x9;simp at hl34 ⊢;omega)];unfold x9;simp
  have hix:rQ (r.2.2.2.2.2.2.2++[34]) 34=some (r.2.2.2.2.2.2.2.length:Int):=by unfold rQ Bh;rw[show(Int.toNat 34).toUInt8=(34:UInt8)from rfl,a5h _ [] 34 (b8U hs),o9]
  rw[hix,o9,e7,O0 rfl,F5,o6,Y0 (by unfold x9;simp;omega),o6,zO l9 (by simp<;>omega),o9,I9,bJ,e3,o7];simp only[e2,e4,o9];rw[show((r.1,r.2.1,r.2.2.1,r.2.2.2.1,r.2.2.2.2.1,r.2.2.2.2.2.1,r.2.2.2.2.2.2.1,r.2.2.2.2.2.2.2):U3)=r from rfl,hlr,o9,AU,o7];simp only[e5]
 .rw[gs,o7,E9]at hlv;have he:=gm.1 gs;rw[o7,E9];rw[show([32,115,114,99,32,34]:c5v)=r_ from rfl,a8v (sub:=r_) C9 (Vb _ _ hv.q (.inl rfl)) (V9 hlv C9),o9];simp only;rw[hv.p hlv,o9];simp only[z,F5,o6];rw[e3,o7];simp only[e2,e4,o9];rw[show((r.1,r.2.1,r.2.2.1,r.2.2.2.1,r.2.2.2.2.1,r.2.2.2.2.2.1,r.2.2.2.2.2.2.1,[]):U3)=r from(by rw[←he]),hlr,o9,AU,o7];simp only[e5]
end
end
section
def lnW(f:c5v)(ws:List c5v):c5v:=f++spW ws
theorem Nr{f:c5v}{ws:List c5v}(hf:f.length<=100)(h:(spW ws).length<=1000000):(f++spW ws).length<=1000000000:=by rw[A7];omega
variable {w:c5v}{n:c5v}{s:H6}{R':I7}
section
variable {E:List U2} {T:List aP} {S:List H6} {k:Int} {N:D9} {b:Bool}
theorem yO(h:w.all (λc=>I5 (decide (c=32)))=true)(h0:w≠[]):WdB w:=⟨h0,λx hx e=>by have:=ax.1 h x hx;rw[e]at this;exact absurd this C9⟩
theorem a7A{ms:List c5v}(h:LnW (n::ms))(h0:ms≠[])(hm:ms.length<=1000)(hE:E.length<=1000):H9 (rdS E T S 0 N b) (lnW ML (n::ms))=some (0,rdS (E++[(n,ms)]) T S 0 N b):=by
 have hw:H5 (lnW ML (n::ms),true)=some (ML,true,nM (n::ms)):=SL (w:=ML) (ws:=n::ms) (by exact yO C9 C9) (Nr C9 h.2);have e:H9 (rdS E T S 0 N b) (lnW ML (n::ms))=o5 (kT (rdS E T S 0 N b) (nM (n::ms))) λ(x:Int×I7×G5)=>some (x.1,x.2.1):=by unfold H9;rw[hw];rfl
 rw[e,b3t h h0 hm hE];rfl
theorem a3E{t u:Int×Int}(hk:k=0\/k=1)(hU:EnU E)(ht:vty t E=true)(hu:vty u E=true)(h:LnW [n,tyS t E,tyS u E])(hT:T.length<=1000):H9 (rdS E T S k N b) (lnW Fz [n,tyS t E,tyS u E])=some (0,rdS E (T++[(n,t,u,[])]) S 1 N b):=by
 have hw:H5 (lnW Fz [n,tyS t E,tyS u E],true)=some (Fz,true,nM [n,tyS t E,tyS u E]):=SL (w:=Fz) (yO C9 C9) (Nr C9 h.2);have e:H9 (rdS E T S k N b) (lnW Fz [n,tyS t E,tyS u E])=o5 (kz (rdS E T S 1 N b) (nM [n,tyS t E,tyS u E])) λ(x:Int×I7×G5)=>some (x.1,x.2.1):=by unfold H9;rw[hw];rcases hk with rfl|rfl<;>rfl
 rw[e,b0i hU ht hu h hT];rfl
theorem b0l{t:aP}{r:zq}(hW:EnW E)(hT:T.length<=1000)(hk:vty t.2.1 E=true)(hv:vty t.2.2.1 E=true)(h:RwT E t r)(hl:t.2.2.2.length<=1000)(hw:LnW (Ei t r E)):
  H9 (rdS E (T++[t]) S 1 N b) (lnW PW (Ei t r E))=some (0,rdS E (T++[(t.1,t.2.1,t.2.2.1,t.2.2.2++[r])]) S 1 N b):=by
 have hq:H5 (lnW PW (Ei t r E),true)=some (PW,true,nM (Ei t r E)):=SL (w:=PW) (yO C9 C9) (Nr C9 hw.2);have e:H9 (rdS E (T++[t]) S 1 N b) (lnW PW (Ei t r E))=o5 (lK (rdS E (T++[t]) S 1 N b) (nM (Ei t r E))) λ(x:Int×I7×G5)=>some (x.1,x.2.1):=by unfold H9;rw[hq];rfl
 rw[e,b6Y hW hT hk hv h hl hw];rfl
theorem a3D(h:LnW [n])(hS:S.length<=1000):H9 (rdS E T S k N b) (lnW Ep [n])=some (0,rdS E T (S++[(n,-1,[],[],[])]) 2 nmZ false):=by
 have hw:H5 (lnW Ep [n],true)=some (Ep,true,nM [n]):=SL (w:=Ep) (yO C9 C9) (Nr C9 h.2);have e:H9 (rdS E T S k N b) (lnW Ep [n])=o5 (kw (rdS E T S 2 N b) (nM [n])) λ(x:Int×I7×G5)=>some (x.1,x.2.1):=by unfold H9;rw[hw];rfl
 rw[e,b0h h hS];rfl
theorem a_{s q:H6}{p:Nat}(hS:S.length<=1000)(hp:S[p]? =some q)(hq:∀x∈S.take p,x.1≠q.1)(h:LnW [q.1]):H9 (rdS E T (S++[s]) 2 N b) (lnW vH [q.1])=some (0,rdS E T (S++[(s.1,(p:Int),s.2.2)]) 3 N b):=by
 have hw:H5 (lnW vH [q.1],true)=some (vH,true,nM [q.1]):=SL (w:=vH) (yO C9 C9) (Nr C9 h.2);have e:H9 (rdS E T (S++[s]) 2 N b) (lnW vH [q.1])=o5 (jf (rdS E T (S++[s]) 3 N b) (nM [q.1])) λ(x:Int×I7×G5)=>some (x.1,x.2.1):=by unfold H9;rw[hw];rfl
 rw[e,a3A hS hp hq h];rfl
theorem a3C{f:dO}(hk:k=2\/k=3\/k=4)(hU:EnU E)(hS:S.length<=1000)(ht:vty f.2 E=true)(h:LnW [f.1,tyS f.2 E])(hl:s.2.2.1.length<=1000):
  H9 (rdS E T (S++[s]) k N b) (lnW vY [f.1,tyS f.2 E])=some (0,rdS E T (S++[(s.1,s.2.1,s.2.2.1++[f],s.2.2.2)]) 4 N b):=by
 obtain⟨e1,e2,e3,e4,e5,e6⟩:=Fp (S:=S) (s:=s) l9;have hw:H5 (lnW vY [f.1,tyS f.2 E],true)=some (vY,true,nM [f.1,tyS f.2 E]):=SL (w:=vY) (yO C9 C9) (Nr C9 h.2);have e:H9 (rdS E T (S++[s]) k N b) (lnW vY [f.1,tyS f.2 E])=o5 (jZ (rdS E T (S++[s]) 4 N b) (nM [f.1,tyS f.2 E]) PUnit.unit) λ(x:Int×I7×G5)=>some (x.1,x.2.1):=by unfold H9;rw[hw];simp only[o9,e3,AU,o7];rcases hk with rfl|rfl|rfl<;>rfl
 rw[e,b0f hU hS ht h hl];rfl
theorem b0k{f:dO}(hk:k=2\/k=3\/k=4\/k=5)(hU:EnU E)(hS:S.length<=1000)(ht:vty f.2 E=true)(h:LnW [f.1,tyS f.2 E])(hl:s.2.2.2.1.length<=1000):
  H9 (rdS E T (S++[s]) k N b) (lnW IW [f.1,tyS f.2 E])=some (0,rdS E T (S++[(s.1,s.2.1,s.2.2.1,s.2.2.2.1++[f],s.2.2.2.2)]) 5 N b):=by
 obtain⟨e1,e2,e3,e4,e5,e6⟩:=Fp (S:=S) (s:=s) l9;have hw:H5 (lnW IW [f.1,tyS f.2 E],true)=some (IW,true,nM [f.1,tyS f.2 E]):=SL (w:=IW) (yO C9 C9) (Nr C9 h.2);have e:H9 (rdS E T (S++[s]) k N b) (lnW IW [f.1,tyS f.2 E])=o5 (iP (rdS E T (S++[s]) 5 N b) (nM [f.1,tyS f.2 E]) PUnit.unit) λ(x:Int×I7×G5)=>some (x.1,x.2.1):=by unfold H9;rw[hw];simp only[o9,e3,AU,o7];rcases hk with rfl|rfl|rfl|rfl<;>rfl
 rw[e,b6W hU hS ht h hl];rfl
theorem a7B{ps:List c5v}{W:c5v}{c:G5}(hk:k=2\/k=3\/k=4\/k=5\/k=6)(h:LnT ps W)(hps:ps≠[])(hr:iY (rdS E T S 6 N b) (DD ps W)=some (0,R',c)):
  H9 (rdS E T S k N b) (Am++(spW ps++32::W))=some (0,R'):=by
 have hw:H5 (Am++(spW ps++32::W),true)=some (Am,true,DD ps W):=by
  cases ps with
  |nil=>exact absurd rfl hps|cons v vs=>have hl:=h.l;rw[vF]at hl ⊢;simp only[A7,A8]at hl;have:=Ua (w:=Am) (yO C9 C9) (R:=v++(spW vs++32::W)) (by simp[Am];omega);show H5 (Am++((32::v++spW vs)++32::W),true)=some (Am,true,(v++(spW vs++32::W),true));rw[show(32::v++spW vs)++32::W=32::(v++(spW vs++32::W)) by simp];exact this
 have e:H9 (rdS E T S k N b) (Am++(spW ps++32::W))=o5 (iY (rdS E T S 6 N b) (DD ps W)) λ(x:Int×I7×G5)=>some (x.1,x.2.1):=by unfold H9;rw[hw];rcases hk with rfl|rfl|rfl|rfl|rfl<;>rfl
 rw[e,hr];rfl
end
def BK:I7->List c5v->Option I7
 |R,[]=>some R
 |R,w::ls=>match H9 R w with
  |some (c,R')=>if c=0 then BK R' ls else none|none=>none
theorem ER:∀(a b:List c5v) (R R' :I7),BK R a=some R' ->BK R (a++b)=BK R' b
 |[],b,R,R',h=>by cases h;rfl|w::a,b,R,R',h=>by
  rw[G9];unfold BK at h
  conv=>lhs;unfold BK
  cases hr:H9 R w with
  |none=>rw[hr]at h;cases h|some p=>
   rw[hr]at h;obtain⟨c,R1⟩:=p;simp only at h ⊢;by_cases hc:c=0
   .rw[if_pos hc]at h;rw[if_pos hc];exact ER a b R1 R' h
   .rw[if_neg hc]at h;cases h
theorem b3J{R R' :I7}(h:H9 R w=some (0,R')):BK R [w]=some R' :=by unfold BK;rw[h];rfl
theorem Em{R R' :I7}{ls:List c5v}(h:H9 R w=some (0,R')):BK R (w::ls)=BK R' ls:=by
 conv=>lhs;unfold BK
 rw[h];rfl
def ltF(ls:List c5v)(x_1:O6×I7×Int):Option (Out (O6×I7×Int) (O6×I7) (O6×L9)):=
     l7 (J4 x_1.2.2 (x9 ls))
      (o5 (P8 ls x_1.2.2) λ(x_2:c5v)=>
       o5 (jg ls (dV x_1.2.2)) λ(x:c5v)=>
        o5 (H9 x_1.2.1 x) λ(x:Int×I7)=>
         l7 (I5 (D8 x.1 0)) (some (Out.rt (([],[],[]),x_1.2.2,x.1)))
          (some (Out.nx (x_1.1,x.2,I8 IntKind.i64 x_1.2.2 1))))
      (some (Out.ex (x_1.1,x_1.2.1)))
theorem a9e{ls:List c5v}(hl:ls.length<=1000000)(L0:O6):∀(r:List c5v) (i:Nat) (R R' :I7) (m:Nat),ls.drop i=r->BK R r=some R' ->fQ (ltF ls) (m+1+r.length) (L0,R,(i:Int))=some (.inl (L0,R'))
 |[],i,R,R',m,h,hr=>by cases hr;have:ls.length<=i:=List.drop_eq_nil_iff.1 h;show fQ (ltF ls) (m+1) (L0,R,(i:Int))=some (.inl (L0,R));rw[bU];unfold ltF;simp only[Y0 (show x9 ls<=(i:Int) by unfold x9;omega),o6]|w::r,i,R,R',m,h,hr=>by
  obtain⟨g1,g2⟩:=a0v h;have hlt:=(aJ.1 g1).1;unfold BK at hr;cases hq:H9 R w with
  |none=>rw[hq]at hr;cases hr|some p=>
   rw[hq]at hr;obtain⟨c,R1⟩:=p;simp only at hr;by_cases hc:c=0
   .rw[if_pos hc]at hr;subst hc;have st:ltF ls (L0,R,(i:Int))=some (.nx (L0,R1,((i+1:Nat):Int))):=by
     unfold ltF;simp only[U0 g1,o7,O5,g1,o9,jg,dV,I9,hq,O0 (rfl:(0:Int)=0),F5,o6];rw[bY l9]
    rw[A8,show m+1+(r.length+1)=(m+1+r.length)+1 by omega,bU,st];exact a9e hl L0 r (i+1) R1 R' m g2 hr
   .rw[if_neg hc]at hr;cases hr
theorem a7u{s:c5v}{ls:List c5v}{l:O6}{k:Int}{N:D9}{b:Bool}(hs:ji s=some (ls,0))(hl:ls.length<=1000000)(hr:BK (rdS [] [] [] 0 nmZ false) ls=some (l,k,N,b)):
  vK s=o5 (uN l) λ(x_1:nZ)=>l7 (I5 (D8 x_1.1 0)) (some (([],[],[]),x9 ls,x_1.1)) (some (l,0,0)):=by
 unfold vK;rw[hs,o9];simp only[O0 (rfl:(0:Int)=0),F5,o6];have:X5 (ltF ls) (([],[],[]),(([],[],[]),0,([],[],[],[],[]),false),0)=some (.inl (([],[],[]),(l,k,N,b))):=by unfold X5;rw[show au=(au -1 -ls.length)+1+ls.length by unfold au;omega];exact a9e hl _ ls 0 _ _ _ rfl hr
 refine V6 this ?_;rw[o9,ae]
end
section
theorem Yg{ws:List c5v}{B:Nat}(h:∀w∈ws,w.length<=B)(hn:ws.length*(B+1)<=1000000):(spW ws).length<=1000000:=V9 (PO h) hn
def b2y(e:U2):c5v:=lnW ML (e.1::e.2)
def b3E(E:List U2)(t:aP)(r:zq):c5v:=lnW PW (Ei t r E)
def YI(E:List U2)(t:aP):List c5v:=lnW Fz [t.1,tyS t.2.1 E,tyS t.2.2.1 E]::t.2.2.2.map (b3E E t)
section
variable {l:O6} (h:FmL l)
include h
theorem UY:EnW l.1:=by
 refine { id:=?_,un:=?_,le:=?_,mid:=?_,mun:=?_,mle:=?_ }
 .intro e he;obtain⟨j,hj⟩:=mi he;exact(WR h.v hj).1
 .intro j e he;exact(WR h.v he).2.1
 .have:=h.n.ne;omega
 .intro e he m hm;obtain⟨j,hj⟩:=mi he;obtain⟨i,hi⟩:=mi hm;exact((WR h.v hj).2.2.2 i m hi).1
 .intro e he i v hi;obtain⟨j,hj⟩:=mi he;exact((WR h.v hj).2.2.2 i v hi).2
 .intro e he;have:=(h.n.e e he).1;omega
theorem Qu:EnU l.1:=(UY h).toEnU
theorem b6o{e:U2}(he:e∈l.1):LnW (e.1::e.2)/\e.2≠[]/\e.2.length<=1000:=by
 obtain⟨j,hj⟩:=mi he;have hv:=WR h.v hj;have hV:=(a7T h.v).2 j e hj;obtain⟨a1,a2,a3⟩:=Zm h he;refine⟨⟨λw hw=>?_,Yg a1 (by have:=F8 81 a2;omega)⟩,hV.ne,by have:=hV.le;omega⟩;rcases D7.1 hw with rfl|hw
 .exact Kz hv.1
 .obtain⟨i,hi⟩:=mi hw;exact Kz (hv.2.2.2 i w hi).1
theorem c4J{n:c5v}(hn:gq n=true)(hnl:n.length<=80){t u:Int×Int}(ht:vty t l.1=true)(hu:vty u l.1=true):LnW [n,tyS t l.1,tyS u l.1]:=by
 have hU:=Qu h;refine⟨λw hw=>?_,Yg (B:=80) (λw hw=>?_) x8⟩
 .simp only[D7,J5,or_false]at hw;rcases hw with rfl|rfl|rfl
  .exact Kz hn
  .exact b1T hU ht
  .exact b1T hU hu
 .simp only[D7,J5,or_false]at hw;rcases hw with rfl|rfl|rfl
  .exact hnl
  .exact XW h
  .exact XW h
theorem b4K{n:c5v}(hn:gq n=true)(hnl:n.length<=80){t:Int×Int}(ht:vty t l.1=true):LnW [n,tyS t l.1]:=by
 have hU:=Qu h;refine⟨λw hw=>?_,Yg (B:=80) (λw hw=>?_) x8⟩
 .simp only[D7,J5,or_false]at hw;rcases hw with rfl|rfl
  .exact Kz hn
  .exact b1T hU ht
 .simp only[D7,J5,or_false]at hw;rcases hw with rfl|rfl
  .exact hnl
  .exact XW h
theorem b7d{t:aP}(ht:t∈l.2.1){r:zq}(hr:r∈t.2.2.2):RwT l.1 t r:=by
 obtain⟨j,hj⟩:=mi ht;have hV:=(Bf h.v).2 j t hj;have hR:=hV.rows r hr;obtain⟨i1,i2,i3⟩:=TW h ht hr;have hd:=hR.dv;unfold EZ at hd;cases g1:U7 0 r.1.1<;>rw[g1]at hd
 .cases hd
 cases g2:U7 r.1.1 r.1.2<;>rw[g2]at hd
 .cases hd
 have g3:=iM.1 hd;have g1:=iM.1 g1;have g2:=iM.1 g2;have hn:=hR.dn;refine⟨g1,?_,g3,Int.le_trans g1 g2,b9H (UY h) hV.vk hR.lh hR.lo hR.hi i1 i2,hR.n,i3⟩;have:r.1.1<r.1.2:=by
  rcases Int.lt_or_le r.1.1 r.1.2 with h|h
  .exact h
  .exact absurd (Int.le_antisymm g2 h) hn
 exact Int.le_of_lt_add_one (Int.lt_of_lt_of_le this g3)
theorem b7a{t:aP}(ht:t∈l.2.1){r:zq}(hr:r∈t.2.2.2):LnW (Ei t r l.1):=by
 obtain⟨j,hj⟩:=mi ht;have hV:=(Bf h.v).2 j t hj;obtain⟨i1,i2,i3⟩:=TW h ht hr;have hW:=UY h;have hR:=b7d h ht hr;refine⟨λw hw=>?_,Yg (Wp (t:=t) (Zt h) i1 i2 i3) (by simp[Ei])⟩;rw[QQ hW hV.vk hV.vv hR]at hw;simp only[D7,J5,or_false]at hw;rcases hw with rfl|rfl|rfl|rfl|rfl
 .exact(Lu hR.d0 hR.d1).1
 .exact(L_ hR.d3 hR.d2).1
 .exact(a2i hW hV.vk hR.hi.l hR.hi.il).1
 .exact(b5W hW hV.vk hR.hi).1
 .exact(a2i hW hV.vv hR.v hR.iv).1
theorem YB{T:List aP}{S:List H6}{N:D9}{b:Bool} :∀(es E:List U2),(∀e∈es,e∈l.1)->E.length+es.length<=1000->BK (rdS E T S 0 N b) (es.map b2y)=some (rdS (E++es) T S 0 N b)
 |[],E,_,_=>by rw[E9];rfl|e::es,E,he,hl=>by obtain⟨a1,a2,a3⟩:=b6o h (he e x8);simp only[A8]at hl;rw[aB,b2y,Em (a7A a1 a2 a3 l9),YB es (E++[(e.1,e.2)]) (λx hx=>he x (by simp[hx])) H7];simp
theorem a1I{t:aP}(ht:t∈l.2.1){T:List aP}{S:List H6}{N:D9}{b:Bool}(hT:T.length<=1000):∀(rs d:List zq),(∀r∈rs,r∈t.2.2.2)->d.length+rs.length<=1000->BK (rdS l.1 (T++[(t.1,t.2.1,t.2.2.1,d)]) S 1 N b) (rs.map (b3E l.1 t))=some (rdS l.1 (T++[(t.1,t.2.1,t.2.2.1,d++rs)]) S 1 N b)
 |[],d,_,_=>by rw[E9];rfl|r::rs,d,hr,hl=>by obtain⟨j,hj⟩:=mi ht;have hV:=(Bf h.v).2 j t hj;simp only[A8]at hl;have hq:=b7d h ht (hr r x8);have:H9 (rdS l.1 (T++[(t.1,t.2.1,t.2.2.1,d)]) S 1 N b) (lnW PW (Ei t r l.1))=some (0,rdS l.1 (T++[(t.1,t.2.1,t.2.2.1,d++[r])]) S 1 N b):=b0l (S:=S) (N:=N) (b:=b) (T:=T) (t:=(t.1,t.2.1,t.2.2.1,d)) (r:=r) (UY h) hT hV.vk hV.vv ⟨hq.d0,hq.d1,hq.d2,hq.d3,hq.hi,hq.v,hq.iv⟩ (by simp only;omega) (b7a h ht (hr r x8));rw[aB,b3E,Em this,a1I ht hT rs (d++[r]) (λx hx=>hr x (by simp[hx])) H7];simp
theorem Wv{S:List H6}{N:D9}{b:Bool} :∀(ts T:List aP) (k:Int),(∀t∈ts,t∈l.2.1)->T.length+ts.length<=1000->(k=0\/k=1)->∃k',(k≠0\/ts≠[]->k' ≠0)/\BK (rdS l.1 T S k N b) (ts.flatMap (YI l.1))=some (rdS l.1 (T++ts) S k' N b)
 |[],T,k,_,_,hk=>⟨k,λh=>h.elim id λh=>absurd rfl h,by rw[E9];rfl⟩|t::ts,T,k,ht,hl,hk=>by
  simp only[A8]at hl;obtain⟨j,hj⟩:=mi (ht t x8);have hV:=(Bf h.v).2 j t hj;have h1:=a3E (S:=S) (N:=N) (b:=b) hk (Qu h) hV.vk hV.vv (c4J h hV.id (h.n.t t (ht t x8)) hV.vk hV.vv) (T:=T) l9;have h2:=a1I h (ht t x8) (T:=T) (S:=S) (N:=N) (b:=b) l9 t.2.2.2 [] (λr hr=>hr) (by have:=hV.le;simp;omega);obtain⟨k',h0,h3⟩:=Wv ts (T++[t]) 1 (λx hx=>ht x (by simp[hx])) H7 (.inr rfl);refine⟨k',λ_=>h0 (.inl C9),?_⟩;rw[dH];have h4:BK (rdS l.1 T S k N b) (YI l.1 t)=some (rdS l.1 (T++[t]) S 1 N b):=by unfold YI;rw[Em h1,h2];rfl
  rw[ER _ _ _ _ h4,h3];simp
end
end
section
def NP(l:O6)(s:H6)(r:U3):c5v:=lnW Am (ruW s r (nmS l s))
def Vy(l:O6)(s:H6):List c5v:=l7 (U7 0 s.2.1) [lnW vH [meN l s]] []
def a0E(w:c5v)(l:O6)(f:dO):c5v:=lnW w [f.1,tyS f.2 l.1]
def SA(l:O6)(s:H6):List c5v:=lnW Ep [s.1]::(Vy l s++(s.2.2.1.map (a0E vY l)++(s.2.2.2.1.map (a0E IW l)++s.2.2.2.2.map (NP l s))))
theorem b4k:spW []=[]:=rfl
def ruP(s:H6)(r:U3):List c5v:=[r.1,[111,102],dnS s r]++(ovS s r++(prS r++[[102,114,111,109],aY r.2.2.2.2.1.1,[116,111],enS r.2.2.2.2.1.2,ZE r]))
theorem a1F(s:H6)(r:U3)(N:D9):spW (ruW s r N)=spW (ruP s r)++32::PG r N:=by unfold ruW ruP daS guS isS soS ZE PG soT sIs r_;generalize ovS s r=ov;generalize prS r=pr;cases J4 0 (x9 r.2.2.2.2.2.1)<;>cases seq r.2.2.2.2.2.2.2 []<;>simp only[o7,o6,a6b,vF,b4k,E9,G9,G8,E8]
theorem UR{r:U3}{sg:O8}{t:Int×Int}(h:Jn r sg t=0):(r.2.2.2.2.2.1≠[]->Cj r.2.2.2.2.2.1 sg (1,0)=0)/\Cj r.2.2.2.2.2.2.1 sg t=0:=by
 unfold Jn at h;cases g:J4 0 (x9 r.2.2.2.2.2.1)<;>rw[g]at h
 .refine⟨λhne=>?_,h⟩;rw[mf]at g;have:r.2.2.2.2.2.1.length=0:=by unfold x9 at g;omega
  exact absurd (aZ.1 this) hne
 .rw[o7]at h;cases g2:D8 (Cj r.2.2.2.2.2.1 sg (1,0)) 0<;>rw[g2]at h
  .exact absurd h (vV.1 g2)
  .exact⟨λ_=>eF.1 g2,h⟩
theorem UM{a b:Int}(h:EZ (a,b)=true)(hn:a≠b):0<=a/\a<=109572/\0<=b/\b<=109573:=by
 unfold EZ at h;cases g1:U7 0 a<;>simp only[g1]at h
 .cases h
 cases g2:U7 a b<;>simp only[g2]at h
 .cases h
 have g3:=iM.1 h;have g1:=iM.1 g1;have g2:=iM.1 g2;omega
section
variable {l:O6} (h:FmL l) {i:Nat} {s:H6} (hs:l.2.2[i]? =some s)
include h hs
theorem a3t{d:List U3}(hd:∀r∈d,r∈s.2.2.2.2)(hdl:d.length<=s.2.2.2.2.length):jm (l.1,l.2.1,l.2.2.take i++[(s.1,s.2.1,s.2.2.1,s.2.2.2.1,d)]) (L6 .i64 (x9 (l.2.2.take i++[(s.1,s.2.1,s.2.2.1,s.2.2.2.1,d)])) 1)=some (nmS l s):=by
 have hi:=(aJ.1 hs).1;have h4:=(oJ h.v).1;have hm:=rD hs;obtain⟨n1,n2,n3,n4,n5,n6⟩:=h.n.s s hm;have hV:=(oJ h.v).2 i s hs;obtain⟨e1,e2,e3,e4,e5,e6⟩:=Fp (S:=l.2.2.take i) (s:=((s.1,s.2.1,s.2.2.1,s.2.2.2.1,d):H6)) (by rw[fV];omega);have hN:NmL (l.1,l.2.1,l.2.2.take i++[(s.1,s.2.1,s.2.2.1,s.2.2.2.1,d)]):=by
  refine⟨h.n.ne,h.n.nt,h.n.e,h.n.t,λq hq=>?_⟩;rcases F9.1 hq with hq|hq
  .exact h.n.s q (jE hq)
  .rw[V7.1 hq];exact⟨n1,n2,V9 hdl n3,n4,n5,λr hr=>n6 r (hd r hr)⟩
 rw[a1b hN (k:=L6 .i64 (x9 (l.2.2.take i++[(s.1,s.2.1,s.2.2.1,s.2.2.2.1,d)])) 1) e6];congr 1;unfold nmS;have:∀q:Option H6,P8 l.2.2 s.2.1=q->U7 0 s.2.1=true->P8 (l.2.2.take i++[(s.1,s.2.1,s.2.2.1,s.2.2.2.1,d)]) s.2.1=q:=by
  intro q hq g;rcases hV.mb with e|⟨p,q',e,hp,hq'⟩
  .rw[e]at g;exact absurd g C9
  .rw[e,O5]at hq ⊢;rw[Z7 (by rw[fV];omega),jM hp];exact hq
 cases g:U7 0 s.2.1
 .rfl
 .rw[this _ rfl g]
theorem a8A:∀(j:Nat) f,s.2.2.2.1[j]? =some f->gq f.1=true/\∀x∈s.2.2.2.1.take j,x.1≠f.1:=λj f hf=>by have:=(TZ h.v hs).2 j f hf;exact⟨this.1,this.2.2⟩
theorem a7H{T:List aP}{d:List U3}{r:U3}{rs:List U3}{k:Int}{N:D9}{b:Bool}(hd:s.2.2.2.2=d++r::rs)(hk:k=2\/k=3\/k=4\/k=5\/k=6)(hb:b=true->N=nmS l s)(hT:T=l.2.1)(hl:(NP l s r).length<=65536):
  H9 (rdS l.1 T (l.2.2.take i++[(s.1,s.2.1,s.2.2.1,s.2.2.2.1,d)]) k N b) (NP l s r)=some (0,rdS l.1 T (l.2.2.take i++[(s.1,s.2.1,s.2.2.1,s.2.2.2.1,d++[r])]) 6 (nmS l s) true):=by
 subst hT;have hi:=(aJ.1 hs).1;have h4:=(oJ h.v).1;have hm:=rD hs;obtain⟨n1,n2,n3,n4,n5,n6⟩:=h.n.s s hm;have hV:=(oJ h.v).2 i s hs;have hr:s.2.2.2.2[d.length]? =some r:=by rw[hd,F7 (E5 _),aT];rfl
 have hrm:r∈s.2.2.2.2:=rD hr;have hR:=hV.rules d.length r hr;obtain⟨hL,hNm,-,-⟩:=p_ h hm hrm;have hD:=a9r h.v h.n hm;obtain⟨f,hf,hx⟩:=hR.df;obtain⟨x1,x2⟩:=UR hx;obtain⟨c1,c2,c3⟩:=BZ hf;obtain⟨u1,u2⟩:=a8A h hs _ _ c1;have hdn:dnS s r=f.1:=by unfold dnS;rw[hf];rfl
 obtain⟨d0,d1,d2,d3⟩:=UM (a:=r.2.2.2.2.1.1) (b:=r.2.2.2.2.1.2) hR.dv hR.dn;have hdl:d.length<=s.2.2.2.2.length:=by rw[hd];simp
 have hdm:∀q∈d,q∈s.2.2.2.2:=λq hq=>by rw[hd];exact U8 _ hq
 have hov:b5X (s.1,s.2.1,s.2.2.1,s.2.2.2.1,d) r (ovS s r):=by
  rcases hR.pa with e|⟨p,q,e,hp,hq⟩
  .left;refine⟨?_,e⟩;unfold ovS;rw[e];rfl
  .right;have hdq:d[p]? =some q:=by rw[hd,Z7 hp]at hq;exact hq
   refine⟨p,q,?_,e,hdq,λx hx=>?_⟩
   .unfold ovS;rw[e,Y7 l9,O5,hq];rfl
   .refine(b1V h.v hs hq).2 x ?_;rw[hd,ik l9];exact hx
 have hpr:b5Z r (prS r):=by
  unfold prS;by_cases e:r.2.2.2.1=0
  .left;rw[e];exact⟨rfl,rfl⟩
  .right;have a0:=hR.p0;have a9:=hR.p9;have a1:0<r.2.2.2.1:=by
    rcases Int.lt_or_le 0 r.2.2.2.1 with h|h
    .exact h
    .exact absurd (Int.le_antisymm h a0) e
   exact⟨by rw[dE a1];rfl,a1,a9⟩
 have hsp:NP l s r=Am++(spW (ruP s r)++32::PG r (nmS l s)):=by unfold NP lnW;rw[a1F]
 rw[hsp]at hl ⊢;simp only[A7,A8]at hl;have hLT:LnT (ruP s r) (PG r (nmS l s)):=by
  refine⟨λw hw=>?_,l9⟩;unfold ruP at hw;rw[hdn]at hw;simp only[F9,D7,J5,or_false]at hw;rcases hw with(rfl|rfl|rfl)|hw|hw|(rfl|rfl|rfl|rfl|rfl)
  .exact Kz hR.id
  .exact yO C9 C9
  .exact Kz u1
  .rcases hov with⟨e,-⟩|⟨p,q,e,-,hq,-⟩
   .rw[e]at hw;cases hw
   .rw[e]at hw;simp only[D7,J5,or_false]at hw;rcases hw with rfl|rfl
    .exact yO C9 C9
    .obtain⟨j,hj⟩:=mi (hdm q (rD hq));exact Kz (b1V h.v hs hj).1
  .rcases hpr with⟨e,-⟩|⟨e,-⟩
   .rw[e]at hw;cases hw
   .rw[e]at hw;simp only[D7,J5,or_false]at hw;rcases hw with rfl|rfl
    .exact yO C9 C9
    .exact(M_ (Zw hR.p0 hR.p9)).1
  .exact yO C9 C9
  .exact(Lu d0 d1).1
  .exact yO C9 C9
  .exact(L_ d2 d3).1
  .unfold ZE;cases J4 0 (x9 r.2.2.2.2.2.1)
   .exact yO C9 C9
   .exact yO C9 C9
 refine a7B (c:=((BC r.2.2.2.2.2.2.1 (nmS l s)).1++soT r.2.2.2.2.2.2.2,true)) hk hLT (by unfold ruP;simp) ?_;unfold ruP at hLT ⊢;rw[hdn]at hLT ⊢;exact b3v (S:=l.2.2.take i) (s:=(s.1,s.2.1,s.2.2.1,s.2.2.2.1,d)) (by rw[fV];omega) (by simp only;omega) (by simp only;omega) hf u2 hov hpr d0 d1 d2 d3 hb (λ_=>a3t h hs hdm hdl)
  (λhne=>KR hNm hD hL.g (x1 hne)) (KR hNm hD hL.v x2) hR.src l9 hLT
theorem YC{T:List aP}(hT:T=l.2.1)(hl:∀r∈s.2.2.2.2,(NP l s r).length<=65536):∀(rs d:List U3) (k:Int) (N:D9) (b:Bool),s.2.2.2.2=d++rs->(k=2\/k=3\/k=4\/k=5\/k=6)->(b=true->N=nmS l s)->
  ∃k' N' b',k' ≠0/\BK (rdS l.1 T (l.2.2.take i++[(s.1,s.2.1,s.2.2.1,s.2.2.2.1,d)]) k N b) (rs.map (NP l s))=some (rdS l.1 T (l.2.2.take i++[(s.1,s.2.1,s.2.2.1,s.2.2.2.1,d++rs)]) k' N' b')
 |[],d,k,N,b,hd,hk,hb=>⟨k,N,b,l9,by rw[E9];rfl⟩|r::rs,d,k,N,b,hd,hk,hb=>by have h1:=a7H h hs hd hk hb hT (hl r (by rw[hd];simp));obtain⟨k',N',b',h0,h2⟩:=YC hT hl rs (d++[r]) 6 (nmS l s) true (by rw[hd];simp) x8 (λ_=>rfl);refine⟨k',N',b',h0,?_⟩;rw[aB,Em h1,h2];simp
omit hs in
theorem a5M{T:List aP}{S:List H6}{n:c5v}{mb:Int}{N:D9}{b:Bool}(hS:S.length<=1000):∀(fs d:List dO) (k:Int),(∀f∈fs,gq f.1=true/\f.1.length<=80/\vty f.2 l.1=true)->d.length+fs.length<=1000->(k=2\/k=3\/k=4)->
  ∃k',(k' =2\/k' =3\/k' =4)/\BK (rdS l.1 T (S++[(n,mb,d,[],[])]) k N b) (fs.map (a0E vY l))=some (rdS l.1 T (S++[(n,mb,d++fs,[],[])]) k' N b)
 |[],d,k,_,_,hk=>⟨k,hk,by rw[E9];rfl⟩|f::fs,d,k,hf,hl,hk=>by obtain⟨a1,a2,a3⟩:=hf f x8;simp only[A8]at hl;have h1:H9 (rdS l.1 T (S++[(n,mb,d,[],[])]) k N b) (a0E vY l f)=some (0,rdS l.1 T (S++[(n,mb,d++[f],[],[])]) 4 N b):=a3C (s:=(n,mb,d,[],[])) hk (Qu h) hS a3 (b4K h a1 a2 a3) (by simp only;omega);obtain⟨k',hk',h2⟩:=a5M hS fs (d++[f]) 4 (λx hx=>hf x (by simp[hx])) H7 x8;refine⟨k',hk',?_⟩;rw[aB,Em h1,h2];simp
omit hs in
theorem a1G{T:List aP}{S:List H6}{n:c5v}{mb:Int}{ins:List dO}{N:D9}{b:Bool}(hS:S.length<=1000):∀(fs d:List dO) (k:Int),(∀f∈fs,gq f.1=true/\f.1.length<=80/\vty f.2 l.1=true)->d.length+fs.length<=1000->(k=2\/k=3\/k=4\/k=5)->
  ∃k',(k' =2\/k' =3\/k' =4\/k' =5)/\BK (rdS l.1 T (S++[(n,mb,ins,d,[])]) k N b) (fs.map (a0E IW l))=some (rdS l.1 T (S++[(n,mb,ins,d++fs,[])]) k' N b)
 |[],d,k,_,_,hk=>⟨k,hk,by rw[E9];rfl⟩|f::fs,d,k,hf,hl,hk=>by obtain⟨a1,a2,a3⟩:=hf f x8;simp only[A8]at hl;have h1:H9 (rdS l.1 T (S++[(n,mb,ins,d,[])]) k N b) (a0E IW l f)=some (0,rdS l.1 T (S++[(n,mb,ins,d++[f],[])]) 5 N b):=b0k (s:=(n,mb,ins,d,[])) hk (Qu h) hS a3 (b4K h a1 a2 a3) (by simp only;omega);obtain⟨k',hk',h2⟩:=a1G hS fs (d++[f]) 5 (λx hx=>hf x (by simp[hx])) H7 x8;refine⟨k',hk',?_⟩;rw[aB,Em h1,h2];simp
end
end
section
theorem a5O{l:O6}(h:(gQ l).1=0){p:Nat}{q:H6}(hq:l.2.2[p]? =some q):gq q.1=true/\∀x∈l.2.2.take p,x.1≠q.1:=by have hV:=(oJ h).2 p q hq;refine⟨hV.id,λx hx e=>?_⟩;have:=hV.tk;unfold zl at this;simp only[Z9]at this;exact absurd (gm.2 e) (by simpa using bM.1 this.2 x hx)
section
variable {l:O6} (h:FmL l)
include h
theorem a7I{i:Nat}{s:H6}(hs:l.2.2[i]? =some s)(hl:∀r∈s.2.2.2.2,(NP l s r).length<=65536)(k:Int)(N:D9)(b:Bool):
  ∃k' N' b',k' ≠0/\BK (rdS l.1 l.2.1 (l.2.2.take i) k N b) (SA l s)=some (rdS l.1 l.2.1 (l.2.2.take (i+1)) k' N' b'):=by
 have hi:=(aJ.1 hs).1;have h4:=(oJ h.v).1;have hm:=rD hs;obtain⟨n1,n2,n3,n4,n5,n6⟩:=h.n.s s hm;have hV:=(oJ h.v).2 i s hs;have hSl:(l.2.2.take i).length<=1000:=by rw[fV];omega
 have hid:=(a5O h.v hs).1;have w1:LnW [s.1]:=⟨λw hw=>by rw[V7.1 hw];exact Kz hid,Yg (B:=80) (t_ h hm).1 x8⟩;have r1:=a3D (E:=l.1) (T:=l.2.1) (k:=k) (N:=N) (b:=b) w1 hSl;have r2:∃k',(k' =2\/k' =3\/k' =4)/\BK (rdS l.1 l.2.1 (l.2.2.take i++[(s.1,-1,[],[],[])]) 2 nmZ false) (Vy l s)=some (rdS l.1 l.2.1 (l.2.2.take i++[(s.1,s.2.1,[],[],[])]) k' nmZ false):=by
  unfold Vy;rcases hV.mb with e|⟨p,q,e,hp,hq⟩
  .refine⟨2,x8,?_⟩;rw[e];rfl
  .refine⟨3,x8,?_⟩;obtain⟨u1,u2⟩:=a5O h.v hq;have hq2:(l.2.2.take i)[p]? =some q:=by rw[jM hp];exact hq
   have em:meN l s=q.1:=by unfold meN;rw[e,O5,hq];rfl
   have w2:LnW [q.1]:=⟨λw hw=>by rw[V7.1 hw];exact Kz u1,Yg (B:=80) (λw hw=>by rw[V7.1 hw];exact u_ h (rD hq)) x8⟩;have:=a_ (E:=l.1) (T:=l.2.1) (N:=nmZ) (b:=false) (s:=((s.1,-1,[],[],[]):H6)) hSl hq2 (λx hx=>u2 x (by rw[List.take_take,Nat.min_eq_left l9]at hx;exact hx)) w2;rw[e,Y7 l9,o7,em];exact b3J this
 obtain⟨k2,hk2,r2⟩:=r2;have fI:∀f∈s.2.2.1,gq f.1=true/\f.1.length<=80/\vty f.2 l.1=true:=λf hf=>by obtain⟨j,hj⟩:=mi hf;exact⟨(hV.ins j f hj).id,n4 f hf,(hV.ins j f hj).ty⟩
 have fD:∀f∈s.2.2.2.1,gq f.1=true/\f.1.length<=80/\vty f.2 l.1=true:=λf hf=>by obtain⟨j,hj⟩:=mi hf;exact⟨(hV.defs j f hj).id,n5 f hf,(hV.defs j f hj).ty⟩
 obtain⟨k3,hk3,r3⟩:=a5M h (T:=l.2.1) (S:=l.2.2.take i) (n:=s.1) (mb:=s.2.1) (N:=nmZ) (b:=false) hSl s.2.2.1 [] k2 fI H7 hk2;obtain⟨k4,hk4,r4⟩:=a1G h (T:=l.2.1) (S:=l.2.2.take i) (n:=s.1) (mb:=s.2.1) (ins:=s.2.2.1) (N:=nmZ) (b:=false) hSl s.2.2.2.1 [] k3 fD H7 (by rcases hk3 with h|h|h<;>simp[h]);obtain⟨k5,N5,b5,h5,r5⟩:=YC h hs (T:=l.2.1) rfl hl s.2.2.2.2 [] k4 nmZ false rfl (by rcases hk4 with h|h|h|h<;>simp[h]) (λe=>by cases e);refine⟨k5,N5,b5,h5,?_⟩;unfold SA;rw[G8]at r3 r4 r5;rw[Em r1,ER _ _ _ _ r2,ER _ _ _ _ r3,ER _ _ _ _ r4,r5,aO hi,(aJ.1 hs).2]
theorem Wu(hl:∀s∈l.2.2,∀r∈s.2.2.2.2,(NP l s r).length<=65536):∀(ss:List H6) (i:Nat) (k:Int) (N:D9) (b:Bool),l.2.2.drop i=ss->
  ∃k' N' b',(k≠0\/ss≠[]->k' ≠0)/\BK (rdS l.1 l.2.1 (l.2.2.take i) k N b) (ss.flatMap (SA l))=some (rdS l.1 l.2.1 l.2.2 k' N' b')
 |[],i,k,N,b,hd=>⟨k,N,b,λh=>h.elim id λh=>absurd rfl h,by rw[aH (List.drop_eq_nil_iff.1 hd)];rfl⟩|s::ss,i,k,N,b,hd=>by obtain⟨g1,g2⟩:=a0v hd;obtain⟨k1,N1,b1,h1,r1⟩:=a7I h g1 (hl s (rD g1)) k N b;obtain⟨k2,N2,b2,h2,r2⟩:=Wu hl ss (i+1) k1 N1 b1 g2;exact⟨k2,N2,b2,λ_=>h2 (.inl h1),by rw[dH,ER _ _ _ _ r1,r2]⟩
omit h in
def liL(l:O6):List c5v:=l.1.map b2y++(l.2.1.flatMap (YI l.1)++l.2.2.flatMap (SA l))
theorem b3I(hl:∀s∈l.2.2,∀r∈s.2.2.2.2,(NP l s r).length<=65536):∃k N b,(l.2.1≠[]\/l.2.2≠[]->k≠0)/\BK (rdS [] [] [] 0 nmZ false) (liL l)=some (l,k,N,b):=by have r1:=YB h (T:=[]) (S:=[]) (N:=nmZ) (b:=false) l.1 [] (λe he=>he) (by have:=h.n.ne;simp;omega);obtain⟨k2,h2,r2⟩:=Wv h (S:=[]) (N:=nmZ) (b:=false) l.2.1 [] 0 (λt ht=>ht) (by have:=h.n.nt;simp;omega) (.inl rfl);obtain⟨k3,N3,b3,h3,r3⟩:=Wu h hl l.2.2 0 k2 nmZ false rfl;refine⟨k3,N3,b3,λhq=>h3 (hq.elim (λhq=> .inl (h2 (.inr hq))) .inr),?_⟩;unfold liL;rw[G8]at r1 r2;rw[ER _ _ _ _ r1,ER _ _ _ _ r2];exact r3
end
theorem Qy(w:c5v):jc [w]=w++[10]:=rfl
theorem Dj{α:Type}(g:α->c5v)(f:α->c5v)(h:∀a,f a=g a++[10]):∀L:List α,jc (L.map g)=L.flatMap f
 |[]=>rfl|a::L=>by rw[aB,dH,h,←Dj g f h L];simp[jc]
theorem Np{α:Type}(g:α->List c5v)(f:α->c5v)(h:∀a,f a=jc (g a)):∀L:List α,jc (L.flatMap g)=L.flatMap f
 |[]=>rfl|a::L=>by rw[dH,dH,ou,h,Np g f h L]
theorem Kv(l:O6):txL l=jc (liL l):=by
 unfold txL liL;rw[ou,ou,Dj b2y enT (λe=>rfl),Np (YI l.1) (tbT l) (λt=>?_),Np (SA l) (scT l) (λs=>?_),E8]
 .unfold scT SA;rw[show ∀(a:c5v) (b:List c5v),a::b=[a]++b from λa b=>rfl,ou,ou,ou,ou,Dj (a0E vY l) (fdT vY l) (λr=>rfl),Dj (a0E IW l) (fdT IW l) (λr=>rfl),Dj (NP l s) (ruT l s) (λr=>rfl)];have:jc (Vy l s)=meT l s:=by
   unfold Vy meT;cases U7 0 s.2.1<;>rfl
  rw[this,Qy,show lnW Ep [s.1]++[10]=scH s from rfl];simp only[E8]
 .unfold tbT YI;rw[show ∀(a:c5v) (b:List c5v),a::b=[a]++b from λa b=>rfl,ou,Dj (b3E l.1 t) (roT l t) (λr=>rfl)];rfl
theorem b1B{ws:List c5v}(h:∀w∈ws,∀c∈w,prB c=true):∀c∈spW ws,prB c=true:=by
 intro c hc;unfold spW at hc;obtain⟨w,hw,hc⟩:=jW.1 hc;rcases D7.1 hc with rfl|hc
 .decide
 .exact h w hw c hc
theorem Vu{f:c5v}{ws:List c5v}(hf:∀c∈f,prB c=true)(h:∀w∈ws,∀c∈w,prB c=true):∀c∈lnW f ws,prB c=true:=uA hf (b1B h)
theorem a6h{E:List U2}{t:Int×Int}(hU:EnU E)(h:vty t E=true):∀c∈tyS t E,prB c=true:=by
 rcases Dq h with h1|h1|h1|h1|h1|h1
 .unfold tyS;rw[h1.1];exact(by decide:∀c∈([98,111,111,108]:c5v),prB c=true)
 .unfold tyS;rw[h1.1];exact(by decide:∀c∈([105,110,116]:c5v),prB c=true)
 .unfold tyS;rw[h1.1];exact(by decide:∀c∈([109,111,110,101,121]:c5v),prB c=true)
 .unfold tyS;rw[h1.1];exact(by decide:∀c∈([114,97,116,101]:c5v),prB c=true)
 .unfold tyS;rw[h1.1];exact(by decide:∀c∈([100,97,116,101]:c5v),prB c=true)
 .obtain⟨e,he,hm⟩:=KW h h1;have:tyS t E=e.1:=by unfold tyS;rw[h1,he];rfl
  rw[this];exact IG (hU.id e hm)
end
section
theorem uI(w:c5v)(h:w.all prB=true):∀c∈w,prB c=true:=λc hc=>ax.1 h c hc
theorem b8V{s:c5v}(h:QY s=true):∀c∈s,prB c=true:=by unfold QY at h;simp only[D5]at h;intro c hc;have:=ax.1 h.2 c hc;unfold Xx at this;unfold prB;simp only[D5]at this ⊢;exact this.1
section
variable {l:O6} (h:FmL l)
include h
theorem b7c{i:Nat}{s:H6}(hs:l.2.2[i]? =some s){r:U3}(hr:r∈s.2.2.2.2):(r.2.2.2.2.2.1≠[]->ExT (BC r.2.2.2.2.2.1 (nmS l s)).1 r.2.2.2.2.2.1 (nmS l s))/\ExT (BC r.2.2.2.2.2.2.1 (nmS l s)).1 r.2.2.2.2.2.2.1 (nmS l s)/\r.2.2.2.2.2.1.length<=48/\r.2.2.2.2.2.2.1.length<=48:=by
 have hm:=rD hs;obtain⟨j,hj⟩:=mi hr;have hR:=((oJ h.v).2 i s hs).rules j r hj;obtain⟨hL,hNm,-,-⟩:=p_ h hm hr;have hD:=a9r h.v h.n hm;obtain⟨f,hf,hx⟩:=hR.df;obtain⟨x1,x2⟩:=UR hx;refine⟨λhne=>KR hNm hD hL.g (x1 hne),KR hNm hD hL.v x2,?_,?_⟩
 .by_cases e:r.2.2.2.2.2.1=[]
  .rw[e];simp
  .obtain⟨T,hs,-⟩:=Ri hL.g (x1 e);exact(qi hs).2
 .obtain⟨T,hs,-⟩:=Ri hL.v x2;exact(qi hs).2
theorem b3H{i:Nat}{s:H6}(hs:l.2.2[i]? =some s){r:U3}(hr:r∈s.2.2.2.2):∀c∈NP l s r,prB c=true:=by
 have hm:=rD hs;obtain⟨j,hj⟩:=mi hr;have hV:=(oJ h.v).2 i s hs;have hR:=hV.rules j r hj;obtain⟨f,hf,hx⟩:=hR.df;obtain⟨c1,c2,c3⟩:=BZ hf;obtain⟨u1,u2⟩:=a8A h hs _ _ c1;have hdn:dnS s r=f.1:=by unfold dnS;rw[hf];rfl
 obtain⟨d0,d1,d2,d3⟩:=UM (a:=r.2.2.2.2.1.1) (b:=r.2.2.2.2.1.2) hR.dv hR.dn;obtain⟨x1,x2,-,-⟩:=b7c h hs hr;have hso:∀c∈soT r.2.2.2.2.2.2.2,prB c=true:=by
  unfold soT;cases seq r.2.2.2.2.2.2.2 []
  .exact uA (uI _ C9) (uA (b8V hR.src) (uI _ C9))
  .exact λc hc=>by cases hc
 have hsp:NP l s r=Am++(spW (ruP s r)++32::PG r (nmS l s)):=by unfold NP lnW;rw[a1F]
 rw[hsp];refine uA (uI _ C9) (uA (b1B λw hw=>?_) (xq C9 ?_))
 .unfold ruP at hw;rw[hdn]at hw;simp only[F9,D7,J5,or_false]at hw;rcases hw with(rfl|rfl|rfl)|hw|hw|(rfl|rfl|rfl|rfl|rfl)
  .exact IG hR.id
  .exact uI _ C9
  .exact IG u1
  .unfold ovS at hw;rcases hR.pa with e|⟨p,q,e,hp,hq⟩
   .rw[e]at hw;cases hw
   .rw[e,Y7 l9,O5,hq]at hw;simp only[o7,ah,X8,D7,J5,or_false]at hw;rcases hw with rfl|rfl
    .exact uI _ C9
    .exact IG (b1V h.v hs hq).1
  .unfold prS at hw;cases g:J4 0 r.2.2.2.1<;>rw[g]at hw
   .cases hw
   .simp only[o7,D7,J5,or_false]at hw;rcases hw with rfl|rfl
    .exact uI _ C9
    .exact(M_ (Zw hR.p0 hR.p9)).2
  .exact uI _ C9
  .exact(Lu d0 d1).2
  .exact uI _ C9
  .exact(L_ d2 d3).2
  .unfold ZE;cases J4 0 (x9 r.2.2.2.2.2.1)
   .exact uI _ C9
   .exact uI _ C9
 .unfold PG;cases g:J4 0 (x9 r.2.2.2.2.2.1)
  .exact uA x2.pr hso
  .have he:r.2.2.2.2.2.1≠[]:=λe=>by rw[e]at g;exact absurd g C9
   exact uA (x1 he).pr (uA (uI _ C9) (uA x2.pr hso))
theorem a0S:∀w∈liL l,∀c∈w,prB c=true:=by
 have hU:=Qu h;have hW:=UY h;intro w hw;unfold liL at hw;rcases F9.1 hw with hw|hw
 .obtain⟨e,he,rfl⟩:=P9.1 hw;refine Vu (uI _ C9) λv hv=>?_;rcases D7.1 hv with rfl|hv
  .exact IG (hU.id e he)
  .exact IG (hW.mid e he v hv)
 rcases F9.1 hw with hw|hw
 .obtain⟨t,ht,hw⟩:=jW.1 hw;obtain⟨j,hj⟩:=mi ht;have hV:=(Bf h.v).2 j t hj;rcases D7.1 hw with rfl|hw
  .refine Vu (uI _ C9) λv hv=>?_;simp only[D7,J5,or_false]at hv;rcases hv with rfl|rfl|rfl
   .exact IG hV.id
   .exact a6h hU hV.vk
   .exact a6h hU hV.vv
  .obtain⟨r,hr,rfl⟩:=P9.1 hw;have hR:=b7d h ht hr;refine Vu (uI _ C9) λv hv=>?_;rw[QQ hW hV.vk hV.vv hR]at hv;simp only[D7,J5,or_false]at hv;rcases hv with rfl|rfl|rfl|rfl|rfl
   .exact(Lu hR.d0 hR.d1).2
   .exact(L_ hR.d3 hR.d2).2
   .exact(a2i hW hV.vk hR.hi.l hR.hi.il).2
   .exact(b5W hW hV.vk hR.hi).2
   .exact(a2i hW hV.vv hR.v hR.iv).2
 .obtain⟨s,hs,hw⟩:=jW.1 hw;obtain⟨i,hi⟩:=mi hs;have hV:=(oJ h.v).2 i s hi;rcases D7.1 hw with rfl|hw
  .refine Vu (uI _ C9) λv hv=>?_;rw[V7.1 hv];exact IG (a5O h.v hi).1
  rcases F9.1 hw with hw|hw
  .unfold Vy at hw;rcases hV.mb with e|⟨p,q,e,hp,hq⟩
   .rw[e]at hw;cases hw
   .have em:meN l s=q.1:=by unfold meN;rw[e,O5,hq];rfl
    rw[e,Y7 l9,o7]at hw;rw[V7.1 hw];refine Vu (uI _ C9) λv hv=>?_;rw[V7.1 hv,em];exact IG (a5O h.v hq).1
  rcases F9.1 hw with hw|hw
  .obtain⟨f,hf,rfl⟩:=P9.1 hw;obtain⟨j,hj⟩:=mi hf;refine Vu (uI _ C9) λv hv=>?_;simp only[D7,J5,or_false]at hv;rcases hv with rfl|rfl
   .exact IG (hV.ins j f hj).id
   .exact a6h hU (hV.ins j f hj).ty
  rcases F9.1 hw with hw|hw
  .obtain⟨f,hf,rfl⟩:=P9.1 hw;obtain⟨j,hj⟩:=mi hf;refine Vu (uI _ C9) λv hv=>?_;simp only[D7,J5,or_false]at hv;rcases hv with rfl|rfl
   .exact IG (hV.defs j f hj).id
   .exact a6h hU (hV.defs j f hj).ty
  .obtain⟨r,hr,rfl⟩:=P9.1 hw;exact b3H h hi hr
theorem a5m:∀(L:List c5v) (w:c5v),w∈L->w.length<=(jc L).length
 |[],w,hw=>by cases hw|v::L,w,hw=>by
  simp only[jc,A7,A8];rcases D7.1 hw with rfl|hw
  .omega
  .have:=a5m L w hw;omega
theorem Vo:∀(L:List c5v),L.length<=(jc L).length
 |[]=>by simp|v::L=>by simp only[jc,A7,A8];have:=Vo L;omega
theorem b2Q(hl:(txL l).length<=65536):∃k N b,(l.2.1≠[]\/l.2.2≠[]->k≠0)/\BK (rdS [] [] [] 0 nmZ false) (liL l)=some (l,k,N,b):=by rw[Kv]at hl;refine b3I h λs hs r hr=>V9 (a5m h (liL l) (NP l s r) ?_) hl;unfold liL SA;simp only[F9,jW,D7,P9];exact .inr (.inr ⟨s,hs,.inr (.inr (.inr (.inr ⟨r,hr,rfl⟩)))⟩)
theorem a6U(hS:SmL l)(hl:(txL l).length<=65536):vK (txL l)=some (l,0,0):=by
 obtain⟨k,N,b,-,hr⟩:=b2Q h hl;have hls:=Kv l;have hcnt:=Vo h (liL l);rw[←hls]at hcnt;have hsp:ji (txL l)=some (liL l,0):=by rw[hls]at hl ⊢;exact a1X hl (a0S h)
 rw[a7u hsp l9 hr,SK hS,o9,c5r h.v];rfl
end
end
section
variable {α:Type}{β:Type}
def FH(eq:α->α->Bool)(l:List (α×β))(f:α->Option β):Prop:=∀k,OL eq l k=(f k).isSome/\∀z,Xl eq l k z=(f k).getD z
theorem Yk(eq:α->α->Bool):FH eq ([]:List (α×β)) (λ_=>none):=λ_=>⟨rfl,λ_=>rfl⟩
theorem Yn{α β:Type}{eq:α->α->Bool}(hE:∀a b,eq a b=true↔a=b)(k:α)(x:β)(k' :α):∀(l:List (α×β)),JH eq (Md eq l k x) k' =(l7 (eq k' k) true (JH eq l k'))/\∀z,JG eq (Md eq l k x) k' z=l7 (eq k' k) x (JG eq l k' z)
 |[]=>by unfold Md;simp only[JH,JG];cases eq k' k<;>exact⟨rfl,λ_=>rfl⟩|p::r=>by
  have ih:=Yn hE k x k' r;unfold Md;cases hp:eq k p.1
  .simp only[cond_false,JH,JG];cases hq:eq k' p.1
   .simp only[cond_false];exact ih
   .simp only[cond_true];cases hk:eq k' k
    .exact⟨rfl,λ_=>rfl⟩
    .exfalso;have h1:=(hE _ _).1 hq;have h2:=(hE _ _).1 hk;rw[←h2,h1]at hp;rw[(hE p.1 p.1).2 rfl]at hp;cases hp
  .have hp' :=(hE _ _).1 hp;subst hp';simp only[cond_true,JH,JG];cases eq k' p.1<;>exact⟨rfl,λ_=>rfl⟩
variable {eq:α->α->Bool}{f:α->Option β}
theorem Yl(hE:∀a b,eq a b=true↔a=b){l:List (α×β)}(h:FH eq l f)(k:α)(x:β):
  FH eq (VG eq l k x) (λk' =>l7 (eq k' k) (some x) (f k')):=λk' =>by
 obtain⟨h1,h2⟩:=Yn hE k x k' l;obtain⟨g1,g2⟩:=h k';refine⟨?_,λz=>?_⟩
 .show JH eq (Md eq l k x) k' =_;rw[h1,show JH eq l k' =_ from g1];show _=(l7 (eq k' k) (some x) (f k')).isSome;cases eq k' k<;>rfl
 .show JG eq (Md eq l k x) k' z=_;rw[h2 z,show JG eq l k' z=_ from g2 z];show _=(l7 (eq k' k) (some x) (f k')).getD z;cases eq k' k<;>rfl
theorem FH.has{l:List (α×β)}(h:FH eq l f)(k:α):OL eq l k=(f k).isSome:=(h k).1
theorem FH.get{l:List (α×β)}(h:FH eq l f)(k:α)(z:β):Xl eq l k z=(f k).getD z:=(h k).2 z
theorem FH.congr{l:List (α×β)}{f g:α->Option β}(h:FH eq l f)(e:∀k,f k=g k):FH eq l g:=λk=>by rw[←e k];exact h k
abbrev noS:H6:=([],0,[],[],[])
def vT{α:Type}(p:α->Bool):List α->Nat->Option (α×Int)
 |[],_=>none|a::r,i=>l7 (p a) (some (a,(i:Int))) (vT p r (i+1))
theorem Jq{α:Type}(p:α->Bool)(a:α):∀(l:List α) (i:Nat),vT p (l++[a]) i=(match vT p l i with|some x=>some x|none=>l7 (p a) (some (a,((i+l.length:Nat):Int))) none)
 |[],i=>by simp only[G8,vT,F6,jO]|b::r,i=>by
  simp only[G9,vT];cases p b
  .simp only[o6];rw[Jq p a r (i+1),A8,show i+1+r.length=i+(r.length+1) by omega]
  .rfl
def NQ(s:H6)(n:c5v):Option (U3×Int):=vT (λr=>seq n r.1) s.2.2.2.2 0
def Bv(l:O6)(n:c5v):Option (H6×Int):=vT (λs=>seq n s.1) l.2.2 0
def cpS(l:O6)(sn rn:c5v):H6×Int×Bool:=match Bv l sn with
 |none=>(noS,0,false)
 |some x=>match NQ x.1 rn with
  |none=>(noS,0,false)|some y=>(x.1,y.2,true)
def a8a(l:O6)(X:List (c5v×iH)):Prop:=
 ∃f:c5v->Option iH,FH (λ(a b:c5v)=>seq a b) X f/\∀n,match f n with
  |none=>Bv l n=none|some x=>∃i,Bv l n=some (x.1,i)/\FH (λ(a b:c5v)=>seq a b) x.2 (λrn=>(NQ x.1 rn).map (·.2))
variable {i:Nat}
theorem b2a{l:List α}{x:α×Nat}(h:l.zipIdx[i]? =some x):l[i]? =some x.1/\x.2=i:=by
 rw[List.getElem?_zipIdx]at h;cases hl:l[i]? with
 |none=>rw[hl]at h;cases h|some a=>rw[hl]at h;simp only[ah,G6]at h;subst h;exact⟨rfl,x8⟩
def a6Q(X:List (c5v×Int))(x:U3×Nat):List (c5v×Int):=l7 (OL (λ(a b:c5v)=>seq a b) X x.1.1) X (VG (λ(a b:c5v)=>seq a b) X x.1.1 (x.2:Int))
theorem Yc(rs:List U3):∀(i:Nat),i<=rs.length->FH (λ(a b:c5v)=>seq a b) ((rs.zipIdx.take i).foldl a6Q []) (λrn=>(vT (λr:U3=>seq rn r.1) (rs.take i) 0).map (·.2))
 |0,_=>by simpa[vT]using Yk _|i+1,h=>by
  have ih:=Yc rs i l9;have hl:i<rs.length:=l9;have e1:rs.zipIdx.take (i+1)=rs.zipIdx.take i++[(rs[i],i)]:=by rw[pG];congr 1;rw[List.getElem?_zipIdx,qC hl];simp
  have e2:rs.take (i+1)=rs.take i++[rs[i]]:=by rw[pG,qC hl];rfl
  rw[e1,uJ,e2];simp only[aF,List.foldl_nil,Jq,bC,fV,Nat.min_eq_left (Nat.le_of_lt hl)];generalize (rs.zipIdx.take i).foldl a6Q []=X at*;unfold a6Q;simp only[ih.has];cases hf:vT (λr:U3=>seq rs[i].1 r.1) (rs.take i) 0 with
  |some x=>
   simp only[ah,Option.isSome_some,o7];refine ih.congr λk=>?_;cases hk:vT (λr:U3=>seq k r.1) (rs.take i) 0 with
   |some y=>rfl|none=>
    cases hq:seq k rs[i].1
    .rfl
    .have:=gm.1 hq;subst this;rw[hk]at hf;cases hf
  |none=>
   simp only[Option.map_none,Option.isSome_none,o6];refine(Yl (λa b=>gm) ih _ _).congr λk=>?_;cases hq:seq k rs[i].1
   .simp only[o6];cases vT (λr:U3=>seq k r.1) (rs.take i) 0<;>rfl
   .have:=gm.1 hq;subst this;rw[hf];rfl
def Yb(X:List (c5v×iH))(s:H6):List (c5v×iH):=
 l7 (OL (λ(a b:c5v)=>seq a b) X s.1) X (VG (λ(a b:c5v)=>seq a b) X s.1 (s,s.2.2.2.2.zipIdx.foldl a6Q []))
theorem Yd(l:O6):∀(i:Nat),i<=l.2.2.length->a8a (l.1,l.2.1,l.2.2.take i) ((l.2.2.take i).foldl Yb [])
 |0,_=>⟨λ_=>none,Yk _,λn=>rfl⟩|i+1,h=>by
  obtain⟨f,h1,h2⟩:=Yd l i l9;have hl:i<l.2.2.length:=l9;have e2:l.2.2.take (i+1)=l.2.2.take i++[l.2.2[i]]:=by rw[pG,qC hl];rfl
  rw[e2,uJ];simp only[aF,List.foldl_nil];have hA:∀n,Bv (l.1,l.2.1,l.2.2.take i++[l.2.2[i]]) n=(match Bv (l.1,l.2.1,l.2.2.take i) n with|some x=>some x|none=>l7 (seq n l.2.2[i].1) (some (l.2.2[i],(i:Int))) none):=λn=>by unfold Bv;simp only[Jq,bC,fV,Nat.min_eq_left (Nat.le_of_lt hl)];cases vT (λs:H6=>seq n s.1) (l.2.2.take i) 0<;>rfl
  generalize (l.2.2.take i).foldl Yb []=X at*;unfold Yb;simp only[h1.has];cases hf:f l.2.2[i].1 with
  |some x=>
   simp only[Option.isSome_some,o7];refine⟨f,h1,λn=>?_⟩;have h3:=h2 n;rw[hA n];cases hn:f n with
   |some y=>rw[hn]at h3;obtain⟨j,h4,h5⟩:=h3;rw[h4];exact⟨j,rfl,h5⟩
   |none=>
    rw[hn]at h3;simp only at h3 ⊢;rw[h3];cases hq:seq n l.2.2[i].1
    .rfl
    .have:=gm.1 hq;subst this;rw[hn]at hf;cases hf
  |none=>
   simp only[Option.isSome_none,o6];refine⟨_,Yl (λa b=>gm) h1 _ _,λn=>?_⟩;have h3:=h2 n;rw[hA n];cases hq:seq n l.2.2[i].1
   .simp only[o6];cases hn:f n with
    |some y=>rw[hn]at h3;obtain⟨j,h4,h5⟩:=h3;rw[h4];exact⟨j,rfl,h5⟩
    |none=>rw[hn]at h3;simp only at h3 ⊢;rw[h3]
   .have:=gm.1 hq;subst this;rw[hf]at h3;simp only at h3;rw[h3];simp only[o7];refine⟨_,rfl,?_⟩;have:=Yc l.2.2[i].2.2.2.2 l.2.2[i].2.2.2.2.length (E5 _);rw[show l.2.2[i].2.2.2.2.zipIdx.take l.2.2[i].2.2.2.2.length=l.2.2[i].2.2.2.2.zipIdx from aH x8,iL]at this;exact this
variable {l:O6}
theorem RJ(hL:SmL l):∃X,tN l=some X/\a8a l X:=by
 have hf:=hL.few.2.2;refine⟨l.2.2.foldl Yb [],?_,?_⟩
 .unfold tN;refine kL l.2.2 Yb (λb i=>(b,i)) (λb=>b) (λ_ _=>True) [] l9 trivial (λi s b hs hi _=>⟨?_,trivial⟩) (λb _=>?_) (λ_=>rfl)
  .have hS:=hL.sc s (rD hs);simp only[U0 hs,o7,O5,hs,o9];unfold Yb;cases OL (λ(a b:c5v)=>seq a b) b s.1
   .simp only[o6];refine kL s.2.2.2.2.zipIdx a6Q (λb i=>(b,i)) (λb=>b) (λ_ _=>True) [] (by have:=hS.nr;simp;omega) trivial (λj x c hx hj _=>⟨?_,trivial⟩) (λc _=>?_) (λ_=>?_)
    .obtain⟨hr,hj2⟩:=b2a hx;simp only[U0 hr,o7,O5,hr,o9];unfold a6Q;rw[hj2];cases OL (λ(a b:c5v)=>seq a b) c x.1.1<;>simp only[F5,af,o7,o6,bY (show j<=9000000000000000000 by omega)]
    .simp only[List.length_zipIdx,Y1];rfl
    .simp only[bY (show i<=9000000000000000000 by omega)]
   .simp only[o7,bY (show i<=9000000000000000000 by omega)]
  .simp only[Y1];rfl
 .have:=Yd l l.2.2.length (E5 _);rwa[iL]at this
theorem Je{X:List (c5v×iH)}(h:a8a l X)(sn rn:c5v):jF X sn rn=some (cpS l sn rn):=by
 obtain⟨f,h1,h2⟩:=h;unfold jF cpS;rw[h1.has,h1.get];have h3:=h2 sn;cases hf:f sn with
 |none=>rw[hf]at h3;simp only at h3;rw[h3];rfl|some x=>rw[hf]at h3;obtain⟨i,h4,h5⟩:=h3;rw[h4];simp only[Option.isSome_some,F5,o6,X8,h5.has,h5.get];cases NQ x.1 rn<;>rfl
noncomputable def eqB {α:Type} (a b:α):Bool:=@decide (a=b) (Classical.propDecidable _)
variable {a:α}{b:α}
theorem Ou :eqB a b=true↔a=b:=by unfold eqB;exact @decide_eq_true_iff _ (Classical.propDecidable _)
theorem UO(h:a=b):eqB a b=true:=Ou.2 h
theorem Ro(h:a≠b):eqB a b=false:=by
 cases he:eqB a b
 .rfl
 .exact absurd (Ou.1 he) h
theorem a0y{c d:β}(h:a=b↔c=d):eqB a b=eqB c d:=by rw[Bool.eq_iff_iff,Ou,Ou];exact h
theorem b2z(a b:List α):eqB (a.map λx=>x) (b.map λx=>x)=eqB a b:=x8
theorem b2b{α β:Type} :∀{a:List α} {b:List β} {i:Nat} {p:α×β},(a.zip b)[i]? =some p->a[i]? =some p.1/\b[i]? =some p.2
 |[],_,i,p,h=>by simp at h|_::_,[],i,p,h=>by simp at h|x::a,y::b,0,p,h=>by simp only[iV,aA,G6]at h;subst h;exact⟨rfl,rfl⟩|x::a,y::b,i+1,p,h=>by simp only[iV,kJ]at h ⊢;exact b2b h
noncomputable def eqG {α β:Type} (g:α->β) (_:Unit) (p:α×α):Unit⊕Bool:=l7 (eqB (g p.1) (g p.2)) (.inl ()) (.inr false)
theorem a4Y{α β:Type}(g:α->β):∀{a b:List α},a.length=b.length->ww (eqG g) (a.zip b) ()=l7 (eqB (a.map g) (b.map g)) (.inl ()) (.inr false)
 |[],[],_=>by rw[UO rfl];rfl|[],_::_,h=>by cases h|_::_,[],h=>by cases h|x::a,y::b,h=>by
  have ih:=a4Y g (a:=a) (b:=b) (by simpa using h);simp only[iV,aB];unfold ww;by_cases e:g x=g y
  .rw[show eqG g () (x,y)= .inl ()from by unfold eqG;rw[UO e];rfl];rw[a0y (show(g x::a.map g=g y::b.map g)↔a.map g=b.map g by rw[e];simp)];exact ih
  .rw[show eqG g () (x,y)= .inr false from by unfold eqG;rw[Ro e];rfl];rw[Ro (λh=>e (Y8 h).1)];rfl
theorem b6p(g:α->β)(q:α->α->Bool)(hq:∀x y,q x y=true↔g x=g y){a b:List α}(hl:a.length<=1000000){f:Int->Option (Out Int PUnit Bool)}
  (hin:∀(i:Nat) x y,a[i]? =some x->b[i]? =some y->f (i:Int)=l7 (I5 (q x y)) (some (.rt false)) (some (.nx (I8 .i64 (i:Int) 1)))) (hend:f (a.length:Int)=some (.ex PUnit.unit)):
  (l7 (I5 (D8 (x9 a) (x9 b))) (some false) (o5 (X5 f 0) λo=>dU o (λ_=>some true) λr=>some r))=some (eqB (a.map g) (b.map g)):=by
 by_cases hab:a.length=b.length
 .rw[show D8 (x9 a) (x9 b)=true from O0 (by simp[x9,hab]),F5,o6];have hz:(a.zip b).length=a.length:=by simp[hab]
  refine Nw (a.zip b) (eqG g) (λ_ i=>i) (λ_=>PUnit.unit) (λ_ _=>True) () l9 trivial (λi p _ hp hi _=>⟨?_,λ_ _=>trivial⟩) (λ_ _=>?_) (λ_=>?_)
  .obtain⟨h1,h2⟩:=b2b hp;rw[hin i _ _ h1 h2];unfold eqG;cases hqp:q p.1 p.2
   .have:¬g p.1=g p.2:=λe=>by rw[(hq _ _).2 e]at hqp;cases hqp
    rw[Ro this];rfl
   .have:=(hq _ _).1 hqp;rw[UO this,F5,o6,bY (show i<=9000000000000000000 by omega)];rfl
  .rw[hz];exact hend
  .rw[a4Y g hab];cases eqB (a.map g) (b.map g)<;>rfl
 .rw[show D8 (x9 a) (x9 b)=false from J8 (by simp only[x9];omega),af,o7];rw[Ro (λe=>hab (by simpa using congrArg List.length e))]
theorem a0k{a b:Bool} :qM a b=true↔a=true/\b=true:=by simp[qM]
theorem XP{a:List a0c}(b:List a0c)(h:a.length<=1000000):gK a b=some (eqB a b):=by
 unfold gK;rw[←b2z];refine b6p (λx=>x) (λ(x y:a0c)=>qM (D8 x.1 y.1) (D8 x.2 y.2))
  (λx y=>by simp only[a0k,eF,Prod.ext_iff]) h (λi x y hx hy=>?_) ?_
 .simp only[U0 hx,o7,O5,hx,hy,o9]
 .simp only[Y1];rfl
def b6m(s:H6)(d:Int):c5v:=match P8 s.2.2.2.1 d with|some f=>f.1|none=>[]
def b9P(s:H6)(d:Int):c5v:=match P8 s.2.2.2.2 d with|some f=>f.1|none=>[]
def prD(s:H6)(r:U3):oQ:=(b6m s r.2.1,b9P s r.2.2.1,r.2.2.2.1,r.2.2.2.2.1,r.2.2.2.2.2.2.2)
theorem a8Y{l:List α}{d:Int}(h0:U7 0 d=true)(h1:J4 d (x9 l)=true):∃x,P8 l d=some x:=by
 rw[iM]at h0;rw[wz]at h1;simp only[x9]at h1;refine⟨l[d.toNat]'l9,?_⟩;unfold P8
 rw[if_pos h0,qC]
theorem IJ(s:H6)(r:U3):nV s r=some (prD s r):=by
 unfold nV;have h1:(l7 (U7 0 r.2.1) (l7 (J4 r.2.1 (x9 s.2.2.2.1)) (o5 (P8 s.2.2.2.1 r.2.1) λ(x:dO)=>some ((x.1,[],r.2.2.2.1,r.2.2.2.2.1,r.2.2.2.2.2.2.2):oQ))
   (some ([],[],r.2.2.2.1,r.2.2.2.2.1,r.2.2.2.2.2.2.2))) (some ([],[],r.2.2.2.1,r.2.2.2.2.1,r.2.2.2.2.2.2.2)))=some ((b6m s r.2.1,[],r.2.2.2.1,r.2.2.2.2.1,r.2.2.2.2.2.2.2):oQ):=by
  unfold b6m;cases h0:U7 0 r.2.1
  .rw[FZ (.inl h0)];rfl
  cases h1:J4 r.2.1 (x9 s.2.2.2.1)
  .rw[FZ (.inr h1)];rfl
  obtain⟨x,hx⟩:=a8Y h0 h1;rw[hx];rfl
 rw[h1,o9];unfold prD b9P;cases h0:U7 0 r.2.2.1
 .rw[FZ (.inl h0)];rfl
 cases h1:J4 r.2.2.1 (x9 s.2.2.2.2)
 .rw[FZ (.inr h1)];rfl
 obtain⟨x,hx⟩:=a8Y h0 h1;rw[hx];rfl
abbrev trS(s:H6)(p:U3):oQ×List a0c×List a0c:=(prD s p,p.2.2.2.2.2.1,p.2.2.2.2.2.2.1)
noncomputable def srS (s:H6) (p:U3) (t:H6) (q:U3):Bool:=eqB (trS s p) (trS t q)
theorem b1D(s:H6)(p:U3):srS s p s p=true:=UO rfl
theorem a1K{s t:H6}{i j:Int}{p q:U3}(hp:P8 s.2.2.2.2 i=some p)(hq:P8 t.2.2.2.2 j=some q)(h1:p.2.2.2.2.2.1.length<=1000000)(h2:p.2.2.2.2.2.2.1.length<=1000000):
  xA s i t j=some (srS s p t q):=by
 unfold xA;rw[hp,o9,hq,o9,IJ,o9,IJ,o9,XP q.2.2.2.2.2.1 h1,o9,XP q.2.2.2.2.2.2.1 h2,o9];unfold srS trS;generalize prD s p=x;generalize prD t q=y;have hb:qM (seq x.1 y.1) (qM (seq x.2.1 y.2.1) (qM (D8 x.2.2.1 y.2.2.1) (qM (D8 x.2.2.2.1.1 y.2.2.2.1.1) (qM (D8 x.2.2.2.1.2 y.2.2.2.1.2) (seq x.2.2.2.2 y.2.2.2.2)))))=eqB x y:=by rw[Bool.eq_iff_iff];simp only[a0k,eF,gm,Ou,Prod.ext_iff,and_assoc]
 rw[hb];have key:(x,p.2.2.2.2.2.1,p.2.2.2.2.2.2.1)=(y,q.2.2.2.2.2.1,q.2.2.2.2.2.2.1)↔(x=y/\p.2.2.2.2.2.1=q.2.2.2.2.2.1/\p.2.2.2.2.2.2.1=q.2.2.2.2.2.2.1):=by simp only[mZ]
 by_cases e:x=y
 case neg=>rw[Ro e,o6,Ro (λh=>e (key.1 h).1)]
 by_cases e2:p.2.2.2.2.2.1=q.2.2.2.2.2.1
 case neg=>rw[UO e,o7,Ro e2,o6,Ro (λh=>e2 (key.1 h).2.1)]
 rw[UO e,o7,UO e2,o7];congr 1;exact a0y ⟨λh=>key.2 ⟨e,e2,h⟩,λh=>(key.1 h).2.2⟩
theorem Na{α:Type}{p:α->Bool} :∀{l:List α} {k:Nat} {a:α} {i:Int},vT p l k=some (a,i)->∃j:Nat,l[j]? =some a/\i=((k+j:Nat):Int)/\p a=true/\∀j' b,j' <j->l[j']? =some b->p b=false
 |[],_,_,_,h=>by cases h|b::r,k,a,i,h=>by
  unfold vT at h;cases hp:p b<;>rw[hp]at h
  .simp only[o6]at h;obtain⟨j,h1,h2,h3,h4⟩:=Na h;refine⟨j+1,by simpa using h1,by rw[h2];congr 1;omega,h3,λj' c hj hc=>?_⟩;cases j' with
   |zero=>simp at hc;subst hc;exact hp|succ j' =>exact h4 j' c l9 (by simpa using hc)
  .simp only[o7,G6,mZ]at h;obtain⟨rfl,rfl⟩:=h;exact⟨0,rfl,rfl,hp,λj' c hj=>by omega⟩
variable {s:H6}{r:U3}
theorem a3M{n:c5v}{i:Int}(h:NQ s n=some (r,i)):P8 s.2.2.2.2 i=some r/\r.1=n/\r∈s.2.2.2.2:=by obtain⟨j,h1,h2,h3,_⟩:=Na h;refine⟨by rw[h2,bC,O5];exact h1,(gm.1 h3).symm,rD h1⟩
theorem a1M{n:c5v}{i:Int}(h:Bv l n=some (s,i)):s.1=n/\s∈l.2.2:=by obtain⟨j,h1,h2,h3,_⟩:=Na h;exact⟨(gm.1 h3).symm,rD h1⟩
def cpR(l:O6)(sn rn:c5v):Option (H6×U3):=match Bv l sn with
 |none=>none
 |some x=>(NQ x.1 rn).map λy=>(x.1,y.1)
theorem XM(l:O6)(sn rn:c5v):(cpR l sn rn=none/\(cpS l sn rn).2.2=false)\/∃t q j,cpR l sn rn=some (t,q)/\cpS l sn rn=(t,j,true)/\P8 t.2.2.2.2 j=some q/\t∈l.2.2/\t.1=sn/\q∈t.2.2.2.2/\q.1=rn:=by
 unfold cpR cpS;cases hs:Bv l sn with
 |none=>exact .inl ⟨rfl,rfl⟩|some x=>
  obtain⟨t,i⟩:=x;obtain⟨h1,h2⟩:=a1M hs;simp only;cases hr:NQ t rn with
  |none=>exact .inl ⟨rfl,rfl⟩|some y=>obtain⟨q,j⟩:=y;obtain⟨h3,h4,h5⟩:=a3M hr;exact .inr ⟨t,q,j,rfl,rfl,h3,h2,h1,h5,h4⟩
noncomputable def PE (b:O6) (s:H6) (r:U3):List xm:=match cpR b s.1 r.1 with
 |none=>[(s.1,r.1,1)]|some x=>l7 (srS s r x.1 x.2) [] [(s.1,r.1,3)]
def Uj(a:O6)(s:H6)(r:U3):List xm:=match cpR a s.1 r.1 with
 |none=>[(s.1,r.1,2)]|some _=>[]
noncomputable def b2q (a b:O6):List xm:=(a.2.2.flatMap λs=>s.2.2.2.2.flatMap (PE b s))++b.2.2.flatMap λs=>s.2.2.2.2.flatMap (Uj a s)
theorem FW{α β:Type}(g:α->List β):∀(l:List α) (b:List β),l.foldl (λacc x=>acc++g x) b=b++l.flatMap g
 |[],b=>by simp|a::l,b=>by rw[aF,FW g l,dH,E8]
theorem Wn(b:O6)(s:H6)(r:U3):(PE b s r).length<=1:=by
 unfold PE;split
 .exact E5 _
 .cases srS s r _ _<;>simp[l7]
theorem a0d(b:O6)(s:H6)(r:U3):(Uj b s r).length<=1:=by unfold Uj;split<;>simp
theorem Jt{α β:Type}(g:α->List β)(m:Nat):∀{l:List α},(∀a∈l,(g a).length<=m)->(l.flatMap g).length<=m*l.length
 |[],_=>by simp
 |a::l,h=>by have h1:=Jt g m (l:=l) λx hx=>h x (by simp[hx]);have h2:=h a x8;rw[dH,A7,A8,Nat.mul_add];omega
theorem a8X{xs ys:List α}(h:xs.length+ys.length<=1073741824):iy xs ys=some (xs++ys):=by unfold iy;rw[if_pos h]
theorem SV{a b:O6}(hA:SmL a)(hB:SmL b):je a b=some (b2q a b):=by
 obtain⟨XA,hXA,iA⟩:=RJ hA;obtain⟨XB,hXB,iB⟩:=RJ hB;have fA:=hA.fs;have fB:=hB.fs;unfold je b2q;rw[hXA,o9,hXB,o9];have e0:=FW (λs:H6=>s.2.2.2.2.flatMap (PE b s)) a.2.2 [];rw[G8]at e0;have hlen:(a.2.2.flatMap λs=>s.2.2.2.2.flatMap (PE b s)).length<=96*a.2.2.length:=Jt _ 96 λs hs=>by have:=Jt (PE b s) 1 (l:=s.2.2.2.2) (λr _=>Wn b s r);have h2:=(hA.sc s hs).nr;omega
 refine kL a.2.2 (λ(acc:List xm) s=>acc++s.2.2.2.2.flatMap (PE b s)) (λb i=>(b,i)) (λb=>b) (λi acc=>acc.length<=96*i) [] l9 x8 (λi s acc hs hi hI=>?_) (λacc hI=>?_) (λ_=>?_)
 .have hS:=hA.sc s (rD hs);have hlt:=(aJ.1 hs).1;have hn:=hS.nr;have hl1:=Jt (PE b s) 1 (l:=s.2.2.2.2) (λr _=>Wn b s r);refine⟨?_,by rw[A7];omega⟩;simp only[U0 hs,o7,O5,hs,o9];have e1:=FW (PE b s) s.2.2.2.2 acc;refine kL s.2.2.2.2 (λ(acc:List xm) r=>acc++PE b s r) (λb i=>(b,i)) (λb=>b) (λj c=>c.length<=96*i+j) acc l9 l9 (λj r c hr hj hJ=>?_) (λc hJ=>?_) (λ_=>?_)
  .have hjl:=(aJ.1 hr).1;obtain⟨_,g1,g2⟩:=hS.ro r (rD hr);have hrl:=Wn b s r;refine⟨?_,by rw[A7];omega⟩;simp only[U0 hr,o7,O5,hr,o9,Je iB];have e2:=bY (show j<=9000000000000000000 by omega);rcases XM b s.1 r.1 with⟨q1,q2⟩|⟨t,q,k,q1,q2,q3,q4,q5,q6,q7⟩
   .rw[q2];unfold PE;rw[q1];simp only[af,o7];rw[a8X H7,o9,e2]
   .rw[q2];have hsr:=a1K (s:=s) (t:=t) (i:=(j:Int)) (j:=k) (p:=r) (q:=q) (by rw[O5];exact hr) q3 l9 l9;simp only[F5,o6,hsr,o9];unfold PE;rw[q1];simp only;cases srS s r t q
    .simp only[af,o7,o6];rw[a8X H7,o9,e2]
    .simp only[F5,o7,o6,E9,e2]
  .simp only[Y1];rfl
  .rw[e1];simp only[bY (show i<=9000000000000000000 by omega)]
 .simp only[Y1];rfl
 rw[e0];generalize (a.2.2.flatMap λs=>s.2.2.2.2.flatMap (PE b s))=base at*;have e3:=FW (λs:H6=>s.2.2.2.2.flatMap (Uj a s)) b.2.2 base;refine kL b.2.2 (λ(acc:List xm) s=>acc++s.2.2.2.2.flatMap (Uj a s)) (λb i=>(b,i)) (λb=>b) (λi acc=>acc.length<=96000+96*i) base l9 l9 (λi s acc hs hi hI=>?_) (λacc hI=>?_) (λ_=>by rw[e3])
 .have hS:=hB.sc s (rD hs);have hlt:=(aJ.1 hs).1;have hn:=hS.nr;have hl1:=Jt (Uj a s) 1 (l:=s.2.2.2.2) (λr _=>a0d a s r);refine⟨?_,by rw[A7];omega⟩;simp only[U0 hs,o7,O5,hs,o9];have e1:=FW (Uj a s) s.2.2.2.2 acc;refine kL s.2.2.2.2 (λ(acc:List xm) r=>acc++Uj a s r) (λb i=>(b,i)) (λb=>b) (λj c=>c.length<=96000+96*i+j) acc l9 l9 (λj r c hr hj hJ=>?_) (λc hJ=>?_) (λ_=>?_)
  .have hjl:=(aJ.1 hr).1;have hrl:=a0d a s r;refine⟨?_,by rw[A7];omega⟩;simp only[U0 hr,o7,O5,hr,o9,Je iA];have e2:=bY (show j<=9000000000000000000 by omega);rcases XM a s.1 r.1 with⟨q1,q2⟩|⟨t,q,k,q1,q2,q3,q4,q5,q6,q7⟩
   .rw[q2];unfold Uj;rw[q1];simp only[af,o7];rw[a8X H7,o9,e2]
   .rw[q2];unfold Uj;rw[q1];simp only[F5,o6,E9,e2]
  .simp only[Y1];rfl
  .rw[e1];simp only[bY (show i<=9000000000000000000 by omega)]
 .simp only[Y1];rfl
theorem J_(h:(gQ l).1=0)(hs:l.2.2[i]? =some s):∀t∈l.2.2.take i,t.1≠s.1:=by
 have he:=WT h hs;unfold En at he;cases g1:gq s.1<;>rw[g1]at he
 .exact absurd (show(2:Int)=0 from he) C9
 simp only[o7]at he;cases g2:zl l 3 i s.1<;>rw[g2]at he
 case true=>exact absurd (show(7:Int)=0 from he) C9
 unfold zl at g2;simp only[Z9,bM]at g2;intro t ht e;exact g2.2 t ht (gm.2 e)
theorem I_(h:(gQ l).1=0)(hs:s∈l.2.2){k:Nat}(hr:s.2.2.2.2[k]? =some r):∀q∈s.2.2.2.2.take k,q.1≠r.1:=by
 obtain⟨i,hi,e⟩:=mF.1 hs;have he:=NZ h (i:=i) (s:=s) (by rw[qC hi,e]) hr;unfold EP at he;cases g1:gq r.1<;>rw[g1]at he
 .exact absurd (show(2:Int)=0 from he) C9
 simp only[o7]at he;cases g2:(s.2.2.2.2.take k).any λx=>seq x.1 r.1<;>rw[g2]at he
 case true=>exact absurd (show(7:Int)=0 from he) C9
 rw[bM]at g2;intro q hq e;exact g2 q hq (gm.2 e)
theorem UW{α:Type}{p:α->Bool} :∀{l:List α} {j:Nat} {a:α} (k:Nat),l[j]? =some a->p a=true->(∀b∈l.take j,p b=false)->vT p l k=some (a,((k+j:Nat):Int))
 |[],j,a,k,h,_,_=>by simp at h|b::r,0,a,k,h,hp,_=>by simp only[aA,G6]at h;subst h;unfold vT;rw[hp];rfl
 |b::r,j+1,a,k,h,hp,hb=>by have h1:=hb b x8;have:=UW (p:=p) (l:=r) (j:=j) (a:=a) (k+1) (by simpa using h) hp λc hc=>hb c (by simp[hc]);unfold vT;rw[h1,o6,this,show k+1+j=k+(j+1) by omega]
theorem a1N(h:(gQ l).1=0)(hs:s∈l.2.2):∃i,Bv l s.1=some (s,i):=by
 obtain⟨i,hi,e⟩:=mF.1 hs;have hi' :l.2.2[i]? =some s:=by rw[qC hi,e]
 exact⟨_,UW 0 hi' (gm.2 rfl) λb hb=>pM.2 λe=>J_ h hi' b hb e.symm⟩
theorem a3N(h:(gQ l).1=0)(hs:s∈l.2.2)(hr:r∈s.2.2.2.2):∃i,NQ s r.1=some (r,i):=by
 obtain⟨i,hi,e⟩:=mF.1 hr;have hi' :s.2.2.2.2[i]? =some r:=by rw[qC hi,e]
 exact⟨_,UW 0 hi' (gm.2 rfl) λb hb=>pM.2 λe=>I_ h hs hi' b hb e.symm⟩
theorem a4O(h:(gQ l).1=0)(hs:s∈l.2.2)(hr:r∈s.2.2.2.2):cpR l s.1 r.1=some (s,r):=by obtain⟨i,h1⟩:=a1N h hs;obtain⟨j,h2⟩:=a3N h hs hr;unfold cpR;rw[h1];simp only;rw[h2];rfl
theorem a6A(h:(gQ l).1=0):b2q l l=[]:=by
 unfold b2q;rw[List.append_eq_nil_iff];constructor
 .rw[kH];intro s hs;rw[kH];intro r hr;unfold PE;rw[a4O h hs hr];simp only[b1D,o7]
 .rw[kH];intro s hs;rw[kH];intro r hr;unfold Uj;rw[a4O h hs hr]
abbrev Ifv:Type:=Option (Nat×(c5v⊕(IntKind×Int)))
abbrev Mac:Type:=(O6×O6×Bool×Int×xK)×c5v
theorem a9n{a b:Ty}{x:(Ty.prod a b).den×c5v}{y:c5v}(h:x.2.length+y.length<=1073741824):
  mW (.prod a b) x y=some ((y.length:Int),(),(x.1,x.2++y)):=by
 unfold mW;exact if_pos h
theorem b6x{a b:Ty}{x:(Ty.prod a b).den×c5v}(h:x.2.length+1<=1073741824):yQ (.prod a b) x 10=some ((),(x.1,x.2++[10])):=by have e:Nat.ble ((mbT (.prod a b) x).length+1) 1073741824=true:=lJ h;unfold yQ;rw[e];rfl
theorem b6A{a b:Ty}{x:(Ty.prod a b).den×c5v}(h:x.2.length<=1073741824):um (.prod a b) x=some (x.2,x):=by unfold um;exact if_pos h
theorem a3y{x:Mac}{w:c5v}(h:x.2.length+w.length+1<=1073741824):X6 x [some (9,.inl w)]=some (x.1,x.2++w++[10]):=by
 unfold X6;refine kL ([some (9,.inl w)]:List Ifv) (λ(b:Mac) _=>(b.1,b.2++w)) (λb i=>(b,i)) (λb=>b) (λi b=>(i=0->b=x)/\(i=1->b=(x.1,x.2++w))) x x8 ⟨λ_=>rfl,λe=>by omega⟩ (λi a b ha hi hb=>?_) (λb hb=>?_) λhb=>?_
 .have h0:i=0:=by have:=(aJ.1 ha).1;simpa using this
  subst h0;obtain rfl:=hb.1 rfl;simp only[aA,G6]at ha;subst ha;refine⟨?_,λe=>by omega,λ_=>rfl⟩;have e1:ifS 9 (some (9,.inl w):Ifv)=some (true,w):=rfl;simp only[U0 (show([some (9,.inl w)]:List Ifv)[0]? =some _ from rfl),o7,O5,aA,o9];rw[show J4 0 ((0:Nat):Int)=false from rfl,o6,e1,o9,o7,a9n (show b.2.length+w.length<=1073741824 by omega),o9];rfl
 .simp only[Y1,o6]
 .rw[hb.2 rfl];rw[b6x (by simp only[A7];omega)];rfl
theorem b2I(w:c5v):P6 (33::w) [33]=some true:=by unfold P6 iD Lib.hasPrefix;simp[List.isPrefixOf]
theorem c5b{c:UInt8}(h:c≠33)(w:c5v):P6 (c::w) [33]=some false:=by unfold P6 iD Lib.hasPrefix;simp[List.isPrefixOf];exact λe=>h e.symm
theorem a6X{σ ε:Type}{f:σ->Option (σ⊕ε)}{s:σ}{e:ε}(h:f s=some (.inr e)):fF f s=some e:=by show wW f (18446744073709551615+1) s=some e;unfold wW;rw[h]
theorem b6i{x:c5v}(h:x.length+1<=1073741824):FC x 10=some ((),x++[10]):=by have e:Nat.ble (x.length+1) 1073741824=true:=lJ h;unfold FC;rw[e];rfl
def b4X(w:c5v):Prop:=∃c r,w=c::r/\c≠33
theorem JA{f:c5v}(ws:List c5v)(h:(f.headD 33==33)=false):b4X (lnW f ws):=by
 cases f with
 |nil=>simp at h|cons c f=>exact⟨c,f++spW ws,rfl,by simpa using h⟩
theorem a9a(l:O6):∀w∈liL l,b4X w:=by
 intro w hw;unfold liL at hw;simp only[F9,P9,jW]at hw;rcases hw with⟨e,-,rfl⟩|⟨t,-,hw⟩|⟨s,-,hw⟩
 .exact JA _ C9
 .rcases D7.1 hw with rfl|hw
  .exact JA _ C9
  .obtain⟨r,-,rfl⟩:=P9.1 hw;exact JA _ C9
 .unfold SA Vy at hw;simp only[D7,F9,P9]at hw;rcases hw with rfl|hw|⟨f,-,rfl⟩|⟨f,-,rfl⟩|⟨r,-,rfl⟩
  .exact JA _ C9
  .cases g:U7 0 s.2.1<;>rw[g]at hw
   .cases hw
   .rw[V7.1 hw];exact JA _ C9
  .exact JA _ C9
  .exact JA _ C9
  .exact JA _ C9
def z0L:O6:=([],[],[])
def zC:xK:=(0,[],[])
def Qc:c5v:=[33,108,97,119]
def yD:c5v:=[33,112,114,105,110,116]
def Ol:c5v:=[33,111,108,100]
def Ai:c5v:=[33,100,105,102,102]
theorem b2C:tV Qc=some [Qc]:=by decide+kernel
theorem a6J:tV yD=some [yD]:=by decide+kernel
theorem b2D:tV Ol=some [Ol]:=by decide+kernel
theorem a8L:tV Ai=some [Ai]:=by decide+kernel
theorem TB(m:Mac)(w s:c5v):pK m [w] s=bf m w s:=by unfold pK;rw[show D8 (x9 [w]) 1=true from rfl,o7,show P8 [w] 0=some w from rfl,o9];cases bf m w s<;>rfl
variable {m:Mac}
theorem b2r{s:c5v}(hp:vK s=some (l,0,0))(h:m.2.length<=1000000):bf m Qc s=some ((l,m.1.2.1,false,0,zC),m.2++[108,97,119,10]):=by unfold bf uT;rw[show seq Qc [33,108,97,119]=true from rfl,o7,hp,o9];simp only[O0 (rfl:(0:Int)=0),F5,o6];rw[a3y (by simp only[A8,F6];omega)];simp only[o9,E8];rfl
theorem b2s{s:c5v}(h:m.2.length<=1000000):bf m Ol s=some ((m.1.1,m.1.1,m.1.2.2),m.2++[111,108,100,10]):=by unfold bf;rw[show seq Ol [33,108,97,119]=false from rfl,o6,show seq Ol [33,111,108,100]=true from rfl,o7];rw[a3y (by simp only[A8,F6];omega)];simp only[o9,E8];rfl
theorem a6B{s a:c5v}{e:nZ}(hf:qH m.1.1=some (a,e))(he:e.1=0)(h:m.2.length<=1000000)(ha:a.length<=1000000):bf m yD s=some (m.1,m.2++a):=by unfold bf;rw[show seq yD [33,108,97,119]=false from rfl,o6,show seq yD [33,111,108,100]=false from rfl,o6,show seq yD [33,112,114,105,110,116]=true from rfl,o7,hf,o9];simp only[O0 he,F5,o6];rw[a9n l9];rfl
theorem a8r{s:c5v}(hc:je m.1.2.1 m.1.1=some [])(h:m.2.length<=1000000):bf m Ai s=some (m.1,m.2++[110,111,110,101,10]):=by
 unfold bf xP;rw[show seq Ai [33,108,97,119]=false from rfl,o6,show seq Ai [33,111,108,100]=false from rfl,o6,show seq Ai [33,112,114,105,110,116]=false from rfl,o6,
  show seq Ai [33,114,117,110]=false from rfl,o6,show seq Ai [33,99,111,109,112,105,108,101,100]=false from rfl,o6,show seq Ai [33,116,97,98,108,101,115]=false from rfl,o6,show seq Ai [33,100,105,102,102]=true from rfl,o7,hc,o9]
 rw[show D8 (x9 ([]:List xm)) 0=true from rfl,o7];rw[a3y (by simp only[A8,F6];omega),o9];rw[a6X (show _=some (Sum.inr _)from rfl)];simp only[o9,E8];rfl
def a4N:c5v:=[33,108,97,119,10,33,112,114,105,110,116,10,33,111,108,100,10,33,100,105,102,102,10]
def stG(l:O6)(b:Mac×c5v)(a:c5v):Mac×c5v:=
 l7 (Lib.hasPrefix a [33])
  (l7 (seq a Qc) (((l,b.1.1.2.1,false,0,zC),b.1.2++[108,97,119,10]),[])
   (l7 (seq a yD) ((b.1.1,b.1.2++txL l),[]) (l7 (seq a Ol) (((b.1.1.1,b.1.1.1,b.1.1.2.2),b.1.2++[111,108,100,10]),[]) ((b.1.1,b.1.2++[110,111,110,101,10]),[]))))
  (b.1,b.2++a++[10])
def stM(l:O6):Nat->Mac
 |0=>((z0L,z0L,false,0,zC),[])|1=>((l,z0L,false,0,zC),[108,97,119,10])|2=>((l,z0L,false,0,zC),[108,97,119,10]++txL l)|3=>((l,l,false,0,zC),[108,97,119,10]++txL l++[111,108,100,10])|_=>((l,l,false,0,zC),[108,97,119,10]++txL l++[111,108,100,10]++[110,111,110,101,10])
theorem a7P{l:List α}(h:l[i]? =some a):l.take (i+1)=l.take i++[a]:=by rw[pG,h];rfl
theorem a3f(L:List c5v)(i:Nat):(jc (L.take i)).length<=(jc L).length:=by
 conv=>rhs;rw[←gB i L,ou,A7]
 omega
theorem a3P(hS:SmL l)(h:FmL l)(hl:(txL l).length<=65336)(hF:qH l=some (txL l,0,0,0,0))(hC:je l l=some []):
  yM (txL l++a4N)=some (([108,97,119,10]++txL l++[111,108,100,10])++[110,111,110,101,10]):=by
 have hj:(jc (liL l)).length<=65336:=by rw[←Kv];exact hl
 have hcnt:=Vo h (liL l);have hsp:ji (txL l++a4N)=some (liL l++[Qc,yD,Ol,Ai],0):=by
  rw[Kv,show a4N=jc [Qc,yD,Ol,Ai]from rfl,←ou];refine a1X (by rw[ou,A7];simp only[jc,Qc,yD,Ol,Ai,A7,A8,F6];omega) λw hw=>?_;rcases F9.1 hw with hw|hw
  .exact a0S h w hw
  .simp only[D7,J5,or_false]at hw;rcases hw with rfl|rfl|rfl|rfl<;>exact uI _ C9
 have hP:=a6U h hS l9;unfold yM;rw[hsp,o9];simp only[O0 (rfl:(0:Int)=0),F5,o6];refine kL (liL l++[Qc,yD,Ol,Ai]) (stG l) (λb i=>(b.1,b.2,i)) (λb=>b.1) (λi b=>(i<=(liL l).length->b=(stM l 0,jc ((liL l).take i)))/\((liL l).length<i->b=(stM l (i -(liL l).length),[]))) (stM l 0,[])
  (by rw[A7];simp only[A8,F6];omega) ⟨λ_=>rfl,λe=>by omega⟩ (λi a b ha hi hb=>?_) (λb hb=>?_) λhb=>?_
 .simp only[U0 ha,o7,O5,ha,o9,show jg (liL l++[Qc,yD,Ol,Ai]) (dV (i:Int))=(liL l++[Qc,yD,Ol,Ai])[i]? from rfl];rcases jP i (liL l).length with hi1|hi1
  .obtain rfl:=hb.1 (Nat.le_of_lt hi1);rw[Z7 hi1]at ha;obtain⟨c,r,rfl,hc⟩:=a9a l a (rD ha);have e0:=c5b hc r;have hG:stG l (stM l 0,jc ((liL l).take i)) (c::r)=(stM l 0,jc ((liL l).take i)++(c::r)++[10]):=by
    unfold stG;rw[show Lib.hasPrefix (c::r) [33]=false by simp[Lib.hasPrefix,List.isPrefixOf];exact λe=>hc e.symm,o6]
   have e1:=a7P ha;have e2:=a3f (liL l) (i+1);rw[e1,ou,Qy,A7,A7]at e2;simp only[A8,F6]at e2;rw[hG,e0,o9,o6,GK (by simp only[A8];omega),o9,b6i (by simp only[A7,A8];omega),o9,bY l9];refine⟨rfl,λ_=>?_,λe=>by omega⟩;rw[e1,ou,Qy,E8]
  .obtain⟨k,rfl⟩:∃k,i=(liL l).length+k:=⟨i -(liL l).length,l9⟩;rw[F7 hi1,show(liL l).length+k -(liL l).length=k by omega]at ha;have hk:k=0\/k=1\/k=2\/k=3:=by have:=(aJ.1 ha).1;simp only[A8,F6]at this;omega
   have hI:∀{z:Mac×c5v},z=(stM l (k+1),[])->(((liL l).length+k+1<=(liL l).length->z=(stM l 0,jc ((liL l).take ((liL l).length+k+1))))/\((liL l).length<(liL l).length+k+1->z=(stM l ((liL l).length+k+1 -(liL l).length),[]))):=λ{z} e=>
    ⟨λe=>by omega,λ_=>by rw[e,show(liL l).length+k+1 -(liL l).length=k+1 by omega]⟩
   rw[bY l9];rcases hk with rfl|rfl|rfl|rfl
   .obtain rfl:=hb.1 l9;simp only[aA,G6]at ha;subst ha;refine⟨?_,hI rfl⟩;rw[show P6 Qc [33]=some true from b2I _,o9,o7,jO,iL,←Kv,Uw (show(txL l).length<=1000000000 by omega),o9];unfold yC;rw[o9,b2C,o9,TB,b2r hP (by show([]:c5v).length<=_;simp)];rfl
   all_goals
    obtain rfl:=hb.2 l9;simp only[kJ,aA,G6]at ha;subst ha;refine⟨?_,hI (by rw[Nat.add_sub_cancel_left];rfl)⟩
   .rw[show(liL l).length+1 -(liL l).length=1 by omega,show P6 yD [33]=some true from b2I _,o9,o7,Uw x8,o9];unfold yC;rw[o9,a6J,o9,TB,a6B (m:=stM l 1) hF rfl (by show([108,97,119,10]:c5v).length<=_;simp) l9];rfl
   .rw[show(liL l).length+2 -(liL l).length=2 by omega,show P6 Ol [33]=some true from b2I _,o9,o7,Uw x8,o9];unfold yC;rw[o9,b2D,o9,TB,b2s (m:=stM l 2) (by show([108,97,119,10]++txL l:c5v).length<=_;simp;omega)];rfl
   .rw[show(liL l).length+3 -(liL l).length=3 by omega,show P6 Ai [33]=some true from b2I _,o9,o7,Uw x8,o9];unfold yC;rw[o9,a8L,o9,TB,a8r (m:=stM l 3) hC (by show([108,97,119,10]++txL l++[111,108,100,10]:c5v).length<=_;simp;omega)];rfl
 .simp only[Y1,o6]
 .rw[hb.2 (by rw[A7];simp),show(liL l++[Qc,yD,Ol,Ai]).length -(liL l).length=4 by simp];rw[b6A (by show(([108,97,119,10]++txL l++[111,108,100,10]++[110,111,110,101,10]:c5v)).length<=_;simp;omega)];rfl
theorem a2s:yT=some true:=by decide+kernel
theorem Tq(hw:WfL l):zH l=some true:=by
 unfold zH;rw[a1P,o9];simp only[a2s,o9];cases h1:smL l
 case false=>rfl
 obtain⟨hS,-⟩:=b7w h1 hw;simp only[F5,o6];have hf:=a6M hS (b4L h1 hw);rw[hf,o9];unfold foS at hf ⊢;cases hv:D8 (gQ l).1 0
 .simp only[o6,hv];rfl
 rw[hv]at hf;simp only[o7]at hf ⊢;have h:=b4L h1 hw (eF.1 hv);cases hl:J4 65536 (x9 (txL l))
 case true=>rfl
 rw[hl]at hf;simp only[o6]at hf ⊢;rw[show D8 0 0=true from rfl,F5,o6];cases hl2:J4 65336 (x9 (txL l))
 case true=>rfl
 have hl2:(txL l).length<=65336:=by have:=mf.1 hl2;unfold x9 at this;omega
 simp only[o6];have hC:je l l=some []:=by rw[SV hS hS,a6A (eF.1 hv)]
 rw[show ak (txL l) [33,108,97,119,10,33,112,114,105,110,116,10,33,111,108,100,10,33,100,105,102,102,10]=some (txL l++a4N)from N9 H7,o9,a3P hS h hl2 hf hC,o9];rw[N9 H7,o9,N9 H7,o9,gm.2 x8];rfl
end
end Go.GP
namespace Go.GP
open Gt
theorem QG:∀x,a2j Gt.ps3 x->(Gt.s3.fn x:c5z)=some true:=λx h=>Tq (l:=x) (c4O h)
end Go.GP
