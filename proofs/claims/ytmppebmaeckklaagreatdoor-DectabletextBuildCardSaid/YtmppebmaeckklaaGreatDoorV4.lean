import Derived.Test.YtmppebmaeckklaaGreatDoorV3
import Derived.Test.YtmppebmaeckklaaGreatDoorV2
import Derived.Lib.ItoaLen
set_option linter.all false
namespace Go.GP
variable {a:Int}{b:Int}{n:Int}
section
variable {α β σ ε ρ:Type}
@[simp] theorem o9 (x:α) (f:α->Option β):o5 (some x) f=f x:=rfl
@[simp] theorem b6x (f:α->Option β):o5 none f=none:=rfl
theorem Wx{o:Option α}{x:α}(h:o=some x)(f:α->Option β):o5 o f=f x:=by rw[h];rfl
theorem X5{o o' :Option α}(h:o=o'){K:α->Option β}{r:Option β}(h2:o5 o' K=r):o5 o K=r:=by rw[h];exact h2
theorem bb(a b:Bool):l9 a (some b) (some false)=some (a&&b):=by cases a<;>rfl
theorem oU(o:Option α):o5 o (λx=>some x)=o:=by cases o<;>rfl
@[simp] theorem o7 (x y:α):l9 true x y=x:=rfl
@[simp] theorem o6 (x y:α):l9 false x y=y:=rfl
theorem wF(b:Bool)(x y:α):l9 b x y=if b=true then x else y:=by cases b<;>rfl
theorem oC{b:Bool}(h:b=true)(x y:α):l9 b x y=x:=by rw[h];rfl
theorem pq{b:Bool}(h:b=false)(x y:α):l9 b x y=y:=by rw[h];rfl
@[simp] theorem Y4 (s:σ) (f:σ->α) (g:ε->α):dw (.inl s) f g=f s:=rfl
@[simp] theorem nU (s:ε) (f:σ->α) (g:ε->α):dw (.inr s) f g=g s:=rfl
@[simp] theorem G8:J8 true=false:=rfl
@[simp] theorem Y2:J8 false=true:=rfl
theorem aA(h:a<b):I7 a b=true:=by simp[I7,h]
theorem U5(h:b<=a):I7 a b=false:=by simp[I7];omega
theorem ay(h:a<=b):X6 a b=true:=by simp[X6,h]
theorem bW(h:b<a):X6 a b=false:=by simp[X6];omega
theorem O8(h:a=b):D6 a b=true:=by simp[D6,h]
theorem O6(h:a≠b):D6 a b=false:=by simp[D6,h]
theorem vK :I7 a b=true↔a<b:=by simp[I7]
theorem qB :X6 a b=true↔a<=b:=by simp[X6]
theorem bM :D6 a b=true↔a=b:=by simp[D6]
theorem rP :I7 a b=false↔b<=a:=by simp[I7]
theorem QQ :X6 a b=false↔b<a:=by simp[X6]
theorem zZ :D6 a b=false↔a≠b:=by simp[D6]
theorem yD{a b:c5y} :seq a b=true↔a=b:=by simp[seq]
theorem wo{a b:c5y} :seq a b=false↔a≠b:=by simp[seq]
theorem pg(h:0<=a):a.tdiv b=a / b:=Int.tdiv_eq_ediv_of_nonneg h
theorem Ce(h:0<=a):jB a b=a % b:=Int.tmod_eq_emod_of_nonneg h
def kQ(n:Int):Prop:=-9223372036854775808<=n/\n<=9223372036854775807
theorem bI{p:Int}(h:kQ p:=by unfold kQ;omega):kQ p:=h
def U64(n:Int):Prop:=0<=n/\n<=18446744073709551615
theorem uQ(h:kQ n):IntKind.wrap .i64 n=n:=by unfold kQ at h;unfold IntKind.wrap;simp[IntKind.signed,IntKind.bits];omega
theorem LD(h:U64 n):IntKind.wrap .u64 n=n:=by unfold U64 at h;unfold IntKind.wrap;simp[IntKind.signed,IntKind.bits];omega
theorem eG(h:kQ (a+b)):G6 .i64 a b=a+b:=uQ h
theorem fC(h:kQ (a -b)):Y5 .i64 a b=a -b:=uQ h
theorem Kz(h:kQ (a*b)):Pn .i64 a b=a*b:=uQ h
theorem Po(h:kQ (a.tdiv b)):eP .i64 a b=a.tdiv b:=uQ h
theorem a1h(h:U64 (a+b)):G6 .u64 a b=a+b:=LD h
theorem a9l(h:U64 (a.tdiv b)):eP .u64 a b=a.tdiv b:=LD h
theorem XA(h:(Lit.int .i64 n).wf=true):kQ n:=by simp[Lit.wf,IntKind.min,IntKind.max,IntKind.signed,IntKind.bits]at h;unfold kQ;omega
theorem a1q(l:List α):0<=x8 l:=by simp[x8]
theorem U4(l:List α)(i:Nat):U0 l (i:Int)=l[i]?:=by simp[U0]
theorem fF{l:List α}{i:Int}{x:α}(h:U0 l i=some x):0<=i/\i<x8 l/\x∈l/\l[i.toNat]? =some x:=by
 unfold U0 at h;split at h
 .rename_i h0;obtain⟨h1,h2⟩:=X9.1 h;refine⟨h0,by simp[x8];omega,?_,h⟩;rw[←h2];exact Y0 h1
 .cases h
theorem vP{l:List α}{i:Int}(h0:0<=i)(h:i<x8 l):∃x,U0 l i=some x/\x∈l:=by
 unfold x8 at h;refine⟨l[i.toNat]'l7,?_,Y0 _⟩;unfold U0
 rw[if_pos h0,jk]
theorem yC(l:c5y)(i:Nat):sat l (i:Int)=(l[i]?).map λc=>(c.toNat:Int):=by simp[sat]
theorem P6{a b:c5y}(h:a.length+b.length<=4611686018427387904):aO a b=some (a++b):=by simp[aO,h]
theorem xu{a b:List α}(h:a.length+b.length<=1073741824):eY a b=some (a++b):=by simp[eY,h]
theorem Ug{l:List α}{lo hi:Int}(h0:0<=lo)(h1:lo<=hi)(h2:hi<=l.length):gJ l lo hi=some ((l.take hi.toNat).drop lo.toNat):=by simp[gJ,h0,h1,h2]
theorem BQ{l:List α}{hi:Int}(h1:0<=hi)(h2:hi<=l.length):gJ l 0 hi=some (l.take hi.toNat):=by rw[Ug l7 h1 h2];simp
theorem qQ{l:List α}{lo:Int}(h1:0<=lo)(h2:lo<=l.length):gJ l lo (x8 l)=some (l.drop lo.toNat):=by rw[Ug h1 (by simp[x8];omega) (by simp[x8])];simp[x8]
end
section
variable {σ ε ρ:Type}
theorem SB{f:σ->Option (σ⊕ε)}(Inv:σ->Prop)(Q:ε->Prop)(meas:σ->Nat)
  (h:∀s,Inv s->(∃s',f s=some (.inl s')/\Inv s' /\meas s' <meas s)\/(∃e,f s=some (.inr e)/\Q e)):
  ∀n s,Inv s->meas s<n->∃e,xg f n s=some e/\Q e
 |0,_,_,h=>by omega|n+1,s,hi,hm=>by
  unfold xg;rcases h s hi with⟨s',e,hi',hm'⟩|⟨x,e,hx⟩
  .rw[e];exact SB Inv Q meas h n s' hi' l7
  .rw[e];exact⟨x,rfl,hx⟩
theorem mV{f:σ->Option (σ⊕ε)}{s:σ}(Inv:σ->Prop)(Q:ε->Prop)(meas:σ->Nat)(hi:Inv s)(hm:meas s<18446744073709551616)
  (h:∀s,Inv s->(∃s',f s=some (.inl s')/\Inv s' /\meas s' <meas s)\/(∃e,f s=some (.inr e)/\Q e)):∃e,aS f s=some e/\Q e:=
 SB Inv Q meas h _ s hi hm
theorem VV{f:σ->Option (Out σ ε ρ)}(Inv:σ->Prop)(Q:ε->Prop)(Qr:ρ->Prop)(meas:σ->Nat)
  (h:∀s,Inv s->(∃s',f s=some (.nx s')/\Inv s' /\meas s' <meas s)\/(∃e,f s=some (.ex e)/\Q e)\/(∃r,f s=some (.rt r)/\Qr r)):
  ∀n s,Inv s->meas s<n->(∃e,fD f n s=some (.inl e)/\Q e)\/(∃r,fD f n s=some (.inr r)/\Qr r)
 |0,_,_,h=>by omega|n+1,s,hi,hm=>by
  unfold fD;rcases h s hi with⟨s',e,hi',hm'⟩|⟨x,e,hx⟩|⟨x,e,hx⟩
  .rw[e];exact VV Inv Q Qr meas h n s' hi' l7
  .rw[e];exact .inl ⟨x,rfl,hx⟩
  .rw[e];exact .inr ⟨x,rfl,hx⟩
theorem Bl{f:σ->Option (Out σ ε ρ)}{s:σ}(Inv:σ->Prop)(Q:ε->Prop)(Qr:ρ->Prop)(meas:σ->Nat)(hi:Inv s)(hm:meas s<18446744073709551616)
  (h:∀s,Inv s->(∃s',f s=some (.nx s')/\Inv s' /\meas s' <meas s)\/(∃e,f s=some (.ex e)/\Q e)\/(∃r,f s=some (.rt r)/\Qr r)):
  (∃e,Y9 f s=some (.inl e)/\Q e)\/(∃r,Y9 f s=some (.inr r)/\Qr r):=
 VV Inv Q Qr meas h _ s hi hm
end
section
variable {α β ε ρ:Type}
open Classical in
theorem QT(l:List α)(p:Nat->α->Bool)(r:ρ)(e:ε)(f:Int->Option (Out Int ε ρ))(hl:l.length<18446744073709551616)
  (hin:∀(i:Nat) (a:α),l[i]? =some a->f (i:Int)=if p i a=true then some (.nx ((i+1:Nat):Int))else some (.rt r))
  (hend:f (l.length:Int)=some (.ex e)):
  Y9 f 0=if(∀i a,l[i]? =some a->p i a=true)then some (.inl e)else some (.inr r):=by
 have key:∀(n i:Nat),i<=l.length->l.length -i<n->(∀j a,j<i->l[j]? =some a->p j a=true)->fD f n (i:Int)=if(∀i a,l[i]? =some a->p i a=true)then some (.inl e)else some (.inr r):=by
  intro n;induction n with
  |zero=>intro i _ h;omega|succ n ih=>
   intro i hi hn hp;unfold fD;by_cases h:i<l.length
   .have e' :=jk h;rw[hin i _ e'];by_cases hpi:p i l[i]=true
    .rw[if_pos hpi];exact ih (i+1) l7 l7 λj a hj ha=>by
      by_cases hji:j=i
      .subst hji;rw[e']at ha;cases ha;exact hpi
      .exact hp j a l7 ha
    .rw[if_neg hpi,if_neg];intro hall;exact hpi (hall i _ e')
   .have:i=l.length:=l7;subst this;rw[hend,if_pos];intro j a ha;exact hp j a (X9.1 ha).1 ha
 exact key _ 0 (gV _) hl λj a hj=>by omega
end
end Go.GP
namespace Go.GP
section
variable {α β α' β' σ τ ε ε' ρ ρ' :Type}
theorem KD{p:Nat->Option ρ}(n:Nat)(hn:n<18446744073709551616)(e:ε){f:Int->Option (Out Int ε ρ)}
  (h1:∀i,i<n->f (i:Int)=some (match p i with|some r=> .rt r|none=> .nx ((i+1:Nat):Int))) (h2:f (n:Int)=some (.ex e)):
  Y9 f 0=some (match(List.range n).findSome? p with|some r=> .inr r|none=> .inl e):=by
 have key:∀m i,i+m=n->∀k,m<k->fD f k (i:Int)=some (match(List.range' i m).findSome? p with|some r=> .inr r|none=> .inl e):=by
  intro m;induction m with
  |zero=>intro i hi k hk;obtain⟨k,rfl⟩:∃k',k=k' +1:=⟨k -1,l7⟩;have:i=n:=l7;subst this;unfold fD;rw[h2];rfl
  |succ m ih=>
   intro i hi k hk;obtain⟨k,rfl⟩:∃k',k=k' +1:=⟨k -1,l7⟩;unfold fD;rw[h1 i l7,fV,List.findSome?_cons];cases hp:p i with
   |some r=>rfl|none=>exact ih (i+1) l7 k l7
 have:=key n 0 l7 aT hn;rw[kC];exact this
end
end Go.GP
namespace Go.GP
open Gt
set_option maxRecDepth 100000
variable {i:Nat}
theorem gu(h:i<=9000000000000000000):G6 .i64 (i:Int) 1=((i+1:Nat):Int):=by rw[eG bI];omega
def IC(c:UInt8):Bool:=decide (97<=c.toNat)&&decide (c.toNat<=122)
def yR(c:UInt8):Bool:=IC c || (decide (48<=c.toNat)&&decide (c.toNat<=57)) || decide (c.toNat=95)
def Qc:List c5y:=Ez.getD []
def nJ(s:c5y):Bool:=match s with|[]=>false|c::r=>decide (s.length<=16)&&IC c&&s.all yR&&!(Qc.any λw=>seq s w)
theorem GH(c:UInt8)(r:c5y):nJ (c::r)=(decide ((c::r).length<=16)&&IC c&&(c::r).all yR&&!(Qc.any λw=>seq (c::r) w)):=rfl
theorem GR(c:UInt8):mD (c.toNat:Int)=some (IC c):=by
 unfold mD IC;cases h:decide (97<=c.toNat)<;>simp only[decide_eq_true_eq,decide_eq_false_iff_not]at h
 .rw[bW l7];rfl
 .rw[ay l7];simp only[o7,vO,X6];congr 1;by_cases h2:c.toNat<=122<;>simp[h2]<;>omega
def yI(c:UInt8):Bool:=decide (48<=c.toNat)&&decide (c.toNat<=57)
theorem JZ(c:UInt8):jm (c.toNat:Int)=some (yI c):=by
 unfold jm yI;cases h:decide (48<=c.toNat)<;>simp only[decide_eq_true_eq,decide_eq_false_iff_not]at h
 .rw[bW l7];rfl
 .rw[ay l7];simp only[o7,vO,X6];congr 1;by_cases h2:c.toNat<=57<;>simp[h2]<;>omega
theorem b4D(c:UInt8):D6 (c.toNat:Int) 95=decide (c.toNat=95):=by unfold D6;by_cases h:c.toNat=95<;>simp[h]<;>omega
variable {s:c5y}
theorem XR(h:s.length<=4611686018427387904):∃k,nY s=some k/\(k=x8 s↔s.all yR=true):=by
 unfold nY;have:=mV (f:=λ(x:Int)=>l9 (I7 x (x8 s)) (o5 (sat s x) λx_1=>o5 (mD x_1) λx_2=>l9 x_2 (some (Sum.inl (G6 IntKind.i64 x 1)))
   (o5 (sat s x) λx_3=>o5 (jm x_3) λx_4=>l9 x_4 (some (Sum.inl (G6 IntKind.i64 x 1))) (o5 (sat s x) λx_5=>l9 (D6 x_5 95) (some (Sum.inl (G6 IntKind.i64 x 1))) (some (Sum.inr x))))) (some (Sum.inr x)))
  (s:=0) (λx=>∃i:Nat,x=i/\i<=s.length/\(s.take i).all yR=true) (λk=>k=x8 s↔s.all yR=true) (λx=>s.length -x.toNat) ⟨0,rfl,l7,rfl⟩ F8 ?_
 .obtain⟨k,h1,h2⟩:=this;refine⟨k,?_,h2⟩;rw[oU];exact h1
 .rintro x ⟨i,rfl,hi,hall⟩;by_cases hl:i<s.length
  .have e:=jk hl;simp only[aA (show(i:Int)<x8 s by simp[x8];omega),o7,yC,e,aY,o9,GR,JZ,b4D];have hst:(s.take (i+1)).all yR=((s.take i).all yR&&yR s[i]):=by rw[bH hl,List.all_append];simp
   have hw:yR s[i]=(IC s[i] || yI s[i] || decide (s[i].toNat=95)):=rfl;cases hwb:yR s[i]with
   |true=>left;refine⟨((i+1:Nat):Int),?_,⟨i+1,rfl,hl,by rw[hst,hall,hwb];rfl⟩,by simp;omega⟩;rw[gu l7];rw[hw]at hwb;cases h1:IC s[i]<;>cases h2:yI s[i]<;>cases h3:decide (s[i].toNat=95)<;>rw[h1,h2,h3]at hwb<;>first|rfl|cases hwb
   |false=>
    right;refine⟨(i:Int),?_,?_⟩
    .rw[hw]at hwb;cases h1:IC s[i]<;>cases h2:yI s[i]<;>cases h3:decide (s[i].toNat=95)<;>rw[h1,h2,h3]at hwb<;>first|rfl|cases hwb
    .constructor
     .intro h;simp[x8]at h;omega
     .intro h;have:=dV.1 h s[i] (Y0 hl);rw[hwb]at this;cases this
  .right;have:i=s.length:=l7;subst this;rw[aG]at hall;exact⟨_,by rw[U5 (by simp[x8])];rfl,by simp[x8,hall]⟩
theorem a7Y{a:c5y}{w:c5y}{r:c5C}{x:Bool}(h:r=some x):l9 (seq a w) (some (seq a w)) r=some (seq a w || x):=by rw[h];cases seq a w<;>rfl
theorem a2c(s:c5y):Ag s=some (Qc.any λw=>seq s w):=by
 unfold Ag;refine X5 (o' :=some (Qc.any λw=>seq s w)) ?_ (by cases Qc.any λw=>seq s w<;>rfl);have hr:Qc=(Ez).getD []:=rfl;rw[show(Qc.any λw=>seq s w)=List.foldr (λw b=>seq s w || b) false Qc from by induction Qc with|nil=>rfl|cons w l ih=>simp[List.any_cons,ih]];unfold Qc Ez;simp only[dW,List.foldr]
 repeat (refine a7Y ?_)
 simp
theorem Gj(h:s.length<=4611686018427387904):dB s=some (nJ s):=by
 unfold dB;cases s with
 |nil=>rfl|cons c r=>
  have h1:seq (c::r) []=false:=by simp[seq]
  obtain⟨k,h2,h3⟩:=XR h;rw[h1];simp only[Y2,o7];rw[show sat (c::r) 0=some (c.toNat:Int)from rfl,o9,GR,o9,h2,o9,a2c,o9];have h4:D6 k (x8 (c::r))=(c::r).all yR:=by rw[lS,bM];exact h3
  have h5:X6 (x8 (c::r)) 16=decide ((c::r).length<=16):=by simp only[X6,x8];congr 1;simp;omega
  rw[h4,h5,GH];cases IC c<;>cases (c::r).all yR<;>cases decide ((c::r).length<=16)<;>rfl
theorem rX(h:s.length<=1000000):dB s=some (nJ s):=Gj l7
theorem wC(t:Int×Int)(en:List gm):dH t en=bF t en:=by
 unfold dH bF;by_cases h1:t.1=1
 .simp[D6,h1,X6]
 by_cases h2:t.1=2
 .simp[D6,h2,X6]
 by_cases h3:t.1=3
 .simp[D6,h3,X6]
 by_cases h4:t.1=4
 .simp[D6,h4,X6]
 by_cases h5:t.1=5
 .simp[D6,h5,X6]
 by_cases h6:t.1=6
 .simp[D6,h6,X6]
 .simp only[D6,h1,h2,h3,h4,h5,h6,decide_false,o6,o9];by_cases h7:1<=t.1
  .rw[oC (ay h7),pq (bW l7)]
  .rw[pq (bW l7)]
theorem LQ(t:Int×Int)(en:List gm):ng t en=fZ t en:=by unfold ng fZ;rw[wC]
def vty(t:Int×Int)(en:List gm):Bool:=l9 (D6 t.1 6) (l9 (X6 0 t.2) (I7 t.2 (x8 en)) false) (l9 (X6 1 t.1) (l9 (X6 t.1 5) (D6 t.2 0) false) false)
theorem qN(t:Int×Int)(en:List gm):bF t en=some (vty t en):=by unfold bF vty;cases D6 t.1 6<;>cases X6 0 t.2<;>cases X6 1 t.1<;>cases X6 t.1 5<;>rfl
theorem yG(t:Int×Int)(en:List gm):dH t en=some (vty t en):=(wC t en).trans (qN t en)
theorem F_(t:Int×Int)(en:List gm):∃b:Int×Int,fZ t en=some b:=by
 unfold fZ;rw[qN,o9];cases hv:vty t en
 .exact⟨_,rfl⟩
 simp only[G8,o6];cases h1:D6 t.1 1<;>simp only[o7,o6]
 .cases h2:D6 t.1 2<;>simp only[o7,o6]
  .cases h3:D6 t.1 3<;>simp only[o7,o6]
   .cases h4:D6 t.1 4<;>simp only[o7,o6]
    .cases h5:D6 t.1 5<;>simp only[o7,o6]
     .have h6:D6 t.1 6=true/\X6 0 t.2=true/\I7 t.2 (x8 en)=true:=by
       unfold vty at hv;rw[zZ]at h1 h2 h3 h4 h5;cases h6:D6 t.1 6<;>rw[h6]at hv
       .rw[zZ]at h6;cases h7:X6 1 t.1<;>rw[h7]at hv
        .cases hv
        cases h8:X6 t.1 5<;>rw[h8]at hv
        .cases hv
        rw[qB]at h7 h8;omega
       .cases h7:X6 0 t.2<;>rw[h7]at hv
        .cases hv
        .exact⟨rfl,rfl,hv⟩
      obtain⟨x,hx,_⟩:=vP (qB.1 h6.2.1) (vK.1 h6.2.2);rw[hx];exact⟨_,rfl⟩
     .exact⟨_,rfl⟩
    .exact⟨_,rfl⟩
   .exact⟨_,rfl⟩
  .exact⟨_,rfl⟩
 .exact⟨_,rfl⟩
def bnd(t:Int×Int)(en:List gm):Int×Int:=(fZ t en).getD (0,0)
theorem WL(t:Int×Int)(en:List gm):fZ t en=some (bnd t en):=by obtain⟨b,h⟩:=F_ t en;unfold bnd;rw[h];rfl
theorem Yp(t:Int×Int)(en:List gm):ng t en=some (bnd t en):=(LQ t en).trans (WL t en)
def inB(n:Int)(b:Int×Int):Bool:=l9 (X6 b.1 n) (X6 n b.2) false
def Kq(r:Int×Int):Bool:=l9 (X6 0 r.1) (l9 (X6 r.1 r.2) (X6 r.2 109573) false) false
theorem LX(r:Int×Int):rZ r=some (Kq r):=by unfold rZ Kq;cases X6 0 r.1<;>cases X6 r.1 r.2<;>rfl
def a5D(a b:Int×Int):(Int×Int)×Bool:=l9 (Kq a) (l9 (Kq b) (l9 (X6 (EJ a.2 b.2) (CW a.1 b.1)) ((0,0),false) ((CW a.1 b.1,EJ a.2 b.2),true)) ((0,0),false)) ((0,0),false)
theorem b3T(a b:Int×Int):ui a b=some (a5D a b):=by
 unfold ui xq a5D;rw[LX,o9,LX,o9];cases Kq a
 .rfl
 simp only[o7];cases h1:I7 a.1 a.2
 .rw[rP]at h1;rw[ay (show EJ a.2 b.2<=CW a.1 b.1 by unfold EJ CW;omega)];cases Kq b<;>rfl
 simp only[o9,G8,o6];cases Kq b
 .rfl
 simp only[o7];cases h2:I7 b.1 b.2
 .rw[rP]at h2;rw[ay (show EJ a.2 b.2<=CW a.1 b.1 by unfold EJ CW;omega)];rfl
 .cases X6 (EJ a.2 b.2) (CW a.1 b.1)<;>rfl
def EM(a b:TA):Bool:=l9 (a5D a.1 b.1).2 (I7 (CW a.2.1 b.2.1) (EJ a.2.2.1 b.2.2.1)) false
theorem a0P(a b:TA):AL a b=some (EM a b):=by unfold AL EM;rw[b3T,o9];cases (a5D a.1 b.1).2<;>rfl
theorem a9b{l:List TA}(r:TA)(h:l.length<=1000000):∃k:Int,ul l r=some (k,l.any λy=>EM y r):=by
 unfold ul;have key:=Bl (f:=λ(x:Int)=>l9 (I7 x (x8 l)) (o5 (U0 l x) λx_1=>o5 (uN x_1 r) λx_2=>l9 x_2 (some (Out.rt (x,true))) (some (Out.nx (G6 IntKind.i64 x 1)))) (some (Out.ex PUnit.unit)))
   (s:=0) (λx=>∃i:Nat,x=i/\i<=l.length/\(l.take i).any (λy=>EM y r)=false) (λ_=>(l.any λy=>EM y r)=false) (λk=>k.2=true/\(l.any λy=>EM y r)=true) (λx=>l.length -x.toNat) ⟨0,rfl,l7,rfl⟩ F8 ?_
 .rcases key with⟨e,h1,h2⟩|⟨k,h1,h2,h3⟩
  .exact⟨0,by rw[h1,h2];rfl⟩
  .refine⟨k.1,?_⟩;rw[h1,h3,←h2];rfl
 .rintro x ⟨i,rfl,hi,hall⟩;by_cases hl:i<l.length
  .have e:=jk hl;have hst:(l.take (i+1)).any (λy=>EM y r)=((l.take i).any (λy=>EM y r) || EM l[i] r):=by rw[bH hl,Cf];simp
   have hv:uN l[i] r=some (EM l[i] r):=by unfold uN;rw[a0P];rfl
   simp only[aA (show(i:Int)<x8 l by simp[x8];omega),o7,U4,e,o9,hv];cases hc:EM l[i] r with
   |true=>exact .inr (.inr ⟨_,rfl,rfl,rJ.2 ⟨l[i],Y0 hl,hc⟩⟩)|false=>exact .inl ⟨((i+1:Nat):Int),by rw[gu l7];rfl,⟨i+1,rfl,hl,by rw[hst,hall,hc];rfl⟩,by simp;omega⟩
  .have:i=l.length:=l7;subst this;rw[aG]at hall;exact .inr (.inl ⟨_,by rw[U5 (by simp[x8])];rfl,hall⟩)
def a5c(x:TA)(bl br:Int×Int):Bool:=
 l9 (Kq x.1) (l9 (D6 x.1.1 x.1.2) true (l9 (X6 x.2.2.1 x.2.1) true (l9 (inB x.2.1 bl) (l9 (inB (Y5 .i64 x.2.2.1 1) bl) (J8 (inB x.2.2.2 br)) true) true))) true
def a4r(t:pR)(en:List gm)(i:Nat):Option (Int×Int):=match t.2.2.2[i]? with
 |some x=>l9 (a5c x (bnd t.2.1 en) (bnd t.2.2.1 en)) (some ((i:Int),3)) (l9 ((t.2.2.2.take i).any λy=>EM y x) (some ((i:Int),11)) none)|none=>none
def TT(t:pR)(en:List gm):Int×Int:=
 l9 (I7 64 (x8 t.2.2.2)) (64,4) (l9 (vty t.2.1 en) (l9 (vty t.2.2.1 en) (match(List.range t.2.2.2.length).findSome? (a4r t en)with|some r=>r|none=>(0,0)) (-1,8)) (-1,8))
theorem EW(a b:Int):I7 a b= !X6 b a:=by simp only[I7,X6];rw[←decide_not];congr 1;simp
variable {α:Type}
theorem zC{l:List α}(h:i<=l.length):gJ l 0 (i:Int)=some (l.take i):=by rw[BQ l7 l7];simp
theorem b1U(t:pR)(en:List gm):AC t en=some (TT t en):=by
 unfold AC TT;rw[yG,o9,yG,o9];cases h64:I7 64 (x8 t.2.2.2)
 case true=>rfl
 simp only[o6];cases vty t.2.1 en
 .rfl
 cases vty t.2.2.1 en
 .rfl
 simp only[G8,o6,o9,Y4,o7,Yp];have hlen:t.2.2.2.length<=64:=by rw[rP]at h64;simp only[x8]at h64;omega
 refine X5 (KD (p:=a4r t en) t.2.2.2.length l7 PUnit.unit (λi hi=>?_) ?_) ?_
 rotate_left 2
 .cases (List.range t.2.2.2.length).findSome? (a4r t en)<;>rfl
 .have e:=jk hi;simp only[aA (show(i:Int)<x8 t.2.2.2 by simp only[x8];omega),o7,U4,e,o9,a4r,LX,zC (show i<=t.2.2.2.length by omega)];obtain⟨k,hk⟩:=a9b (l:=t.2.2.2.take i) t.2.2.2[i] F8;rw[hk,gu l7];unfold a5c inB;simp only[EW];generalize bnd t.2.1 en=bl;generalize bnd t.2.2.1 en=br;cases Kq t.2.2.2[i].1
  .rfl
  cases D6 t.2.2.2[i].1.1 t.2.2.2[i].1.2
  case true=>rfl
  cases X6 t.2.2.2[i].2.2.1 t.2.2.2[i].2.1
  case true=>rfl
  cases X6 bl.1 t.2.2.2[i].2.1
  .rfl
  cases X6 t.2.2.2[i].2.1 bl.2
  .rfl
  cases X6 bl.1 (Y5 IntKind.i64 t.2.2.2[i].2.2.1 1)
  .rfl
  cases X6 (Y5 IntKind.i64 t.2.2.2[i].2.2.1 1) bl.2
  .rfl
  cases X6 br.1 t.2.2.2[i].2.2.2
  .rfl
  cases X6 t.2.2.2[i].2.2.2 br.2
  .rfl
  cases (t.2.2.2.take i).any λy=>EM y t.2.2.2[i]<;>rfl
 .rw[U5 (by simp[x8])];rfl
section
variable {α ε ρ:Type}
theorem TW(l:List α)(p:α->Bool)(r:ρ)(e:ε){f:Int->Option (Out Int ε ρ)}(hl:l.length<=1000000)
  (hin:∀(i:Nat) (a:α),l[i]? =some a->f (i:Int)=some (bif p a then .rt r else .nx (G6 .i64 (i:Int) 1))) (hend:f (l.length:Int)=some (.ex e)):
  Y9 f 0=some (bif l.any p then .inr r else .inl e):=by
 rw[QT l (λi a=> !p a) r e f l7 (λi a ha=>?_) hend]
 .have hb:(∀(j:Nat) (a:α),l[j]? =some a->(!p a)=true)↔l.any p=false:=by
   rw[iq];constructor
   .intro h x hx;obtain⟨j,hj,rfl⟩:=Y8 hx;have:=h j _ (jk hj);simpa using this
   .intro h j a hj;have:=h a (vM hj);simpa using this
  by_cases hv:l.any p=false
  .rw[if_pos (hb.2 hv),hv];rfl
  .rw[if_neg (λh=>hv (hb.1 h))];simp only[IA]at hv;rw[hv];rfl
 .have hi:=(X9.1 ha).1;rw[hin i a ha,gu l7];cases p a<;>rfl
theorem Bg(l:List α)(p:α->Bool){f:Int->Option (Out Int PUnit Int)}(hl:l.length<=1000000)
  (hin:∀(i:Nat) (a:α),l[i]? =some a->f (i:Int)=some (bif p a then .rt (i:Int)else .nx (G6 .i64 (i:Int) 1))) (hend:f (l.length:Int)=some (.ex PUnit.unit)):
  o5 (o5 (Y9 f 0) λo=>dw o (λ_=>some (-1)) λr=>some r) (λx=>some (X6 0 x))=some (l.any p):=by
 have key:=Bl (f:=f) (s:=0) (λx=>∃i:Nat,x=i/\i<=l.length/\(l.take i).any p=false) (λ_=>l.any p=false) (λk=>0<=k/\l.any p=true) (λx=>l.length -x.toNat) ⟨0,rfl,l7,rfl⟩ F8 ?_
 .rcases key with⟨e,h1,h2⟩|⟨k,h1,h2,h3⟩
  .rw[h1,h2];rfl
  .rw[h1,h3,o9,nU,o9,ay h2]
 .rintro x ⟨i,rfl,hi,hall⟩;by_cases h:i<l.length
  .have e:=jk h;have hst:(l.take (i+1)).any p=((l.take i).any p || p l[i]):=by rw[bH h,Cf];simp
   rw[hin i _ e];cases hc:p l[i]with
   |true=>exact .inr (.inr ⟨_,rfl,l7,rJ.2 ⟨l[i],Y0 h,hc⟩⟩)|false=>exact .inl ⟨((i+1:Nat):Int),by rw[gu l7];rfl,⟨i+1,rfl,h,by rw[hst,hall,hc];rfl⟩,by simp;omega⟩
  .have:i=l.length:=l7;subst this;rw[aG]at hall;exact .inr (.inl ⟨_,hend,hall⟩)
theorem Z8{l:List α}{a:α}(h:l[i]? =some a):I7 (i:Int) (x8 l)=true:=aA (by have:=(X9.1 h).1;simp only[x8];omega)
theorem aP(l:List α):I7 (l.length:Int) (x8 l)=false:=U5 (by simp[x8])
end
theorem NW{l:List gm}(n:c5y)(h:l.length<=1000000):zB l n=some (l.any λx=>seq x.1 n):=by unfold zB kw lK;rw[oU];refine Bg l (λx=>seq x.1 n) h (λi a ha=>?_) (by rw[aP];rfl);rw[Z8 ha,o7,U4,ha,o9];unfold Gg;rw[o9];cases seq a.1 n<;>rfl
theorem Su{l:List pR}(n:c5y)(h:l.length<=1000000):Ae l n=some (l.any λx=>seq x.1 n):=by unfold Ae jF kN;rw[oU];refine Bg l (λx=>seq x.1 n) h (λi a ha=>?_) (by rw[aP];rfl);rw[Z8 ha,o7,U4,ha,o9];unfold Eg;rw[o9];cases seq a.1 n<;>rfl
theorem a1f{l:List N8}(s:N8)(h:l.length<=1000000):gK l s=some (l.any λx=>seq x.1 s.1):=by unfold gK kM;refine Bg l (λx=>seq x.1 s.1) h (λi a ha=>?_) (by rw[aP];rfl);rw[Z8 ha,o7,U4,ha,o9];unfold Bi;rw[o9];cases seq a.1 s.1<;>rfl
theorem a3y{l:List iV}(s:iV)(h:l.length<=1000000):iH l s=some (l.any λx=>seq x.1 s.1):=by unfold iH lL;refine Bg l (λx=>seq x.1 s.1) h (λi a ha=>?_) (by rw[aP];rfl);rw[Z8 ha,o7,U4,ha,o9];unfold CX;rw[o9];cases seq a.1 s.1<;>rfl
theorem Sr{l:List mF}(s:mF)(h:l.length<=1000000):dF l s=some (l.any λx=>seq x.1 s.1):=by unfold dF kL;refine Bg l (λx=>seq x.1 s.1) h (λi a ha=>?_) (by rw[aP];rfl);rw[Z8 ha,o7,U4,ha,o9];unfold Bh;rw[o9];cases seq a.1 s.1<;>rfl
theorem a7m{l:List c5y}(s:c5y)(h:l.length<=1000000):kT l s=some (l.any λx=>seq s x):=by unfold kT dR;refine Bg l (λx=>seq s x) h (λi a ha=>?_) (by rw[aP];rfl);rw[Z8 ha,o7,U4,ha,o9];cases seq s a<;>rfl
theorem a7l{l:c5z}(s:Int)(h:l.length<=1000000):pM l s=some (l.any λx=>D6 s x):=by unfold pM xW;refine Bg l (λx=>D6 s x) h (λi a ha=>?_) (by rw[aP];rfl);rw[Z8 ha,o7,U4,ha,o9];cases D6 s a<;>rfl
theorem a5Q(i k:Nat):I7 (i:Int) (k:Int)=decide (i<k):=by unfold I7;by_cases h:i<k<;>simp[h]<;>omega
def Lm(l:gz)(kind:Nat)(k:Nat)(n:c5y):Bool:=
 match kind with
 |1=>(l.1.take k).any λx=>seq x.1 n|2=>(l.1.any λx=>seq x.1 n) || ((l.2.1.take k).any λx=>seq x.1 n)|_=>(l.1.any λx=>seq x.1 n) || (l.2.1.any λx=>seq x.1 n) || ((l.2.2.take k).any λx=>seq x.1 n)
def Few(l:gz):Prop:=l.1.length<=100000/\l.2.1.length<=100000/\l.2.2.length<=100000
def a1u(ms:List c5y)(i:Nat):Option (Int×Int):=match ms[i]? with
 |some m=>l9 (nJ m) (l9 ((ms.take i).any λx=>seq m x) (some (7,((100+i:Nat):Int))) none) (some (2,((100+i:Nat):Int)))|none=>none
def a0W(l:gz)(i:Nat)(e:gm):Int×Int:=
 l9 (nJ e.1) (l9 (Lm l 1 i e.1) (7,0) (l9 (D6 (x8 e.2) 0) (5,0) (l9 (I7 16 (x8 e.2)) (4,116) (match(List.range e.2.length).findSome? (a1u e.2)with|some r=>r|none=>(0,0))))) (2,0)
theorem b2Q(h:i<=1000000):G6 .i64 100 (i:Int)=((100+i:Nat):Int):=by rw[eG bI];omega
variable {l:gz}
theorem ZI(h:Few l)(hi:i<=l.1.length)(e:gm)(h1:e.1.length<=1000000)(h2:∀m∈e.2,m.length<=1000000):
  BO l (i:Int) e=some (a0W l i e):=by
 unfold BO a0W Lm;rw[rX h1,o9,zC hi,o9,NW _ (by have:=h.1;simp;omega),o9];cases nJ e.1
 .rfl
 simp only[G8,o6,o7];cases (l.1.take i).any λx=>seq x.1 e.1
 case true=>rfl
 cases D6 (x8 e.2) 0
 case true=>rfl
 cases h16:I7 16 (x8 e.2)
 case true=>rfl
 simp only[o6];have hlen:e.2.length<=16:=by rw[rP]at h16;simp only[x8]at h16;omega
 refine X5 (KD (p:=a1u e.2) e.2.length l7 PUnit.unit (λj hj=>?_) ?_) ?_
 rotate_left 2
 .cases (List.range e.2.length).findSome? (a1u e.2)<;>rfl
 .have e' :=jk hj;rw[Z8 e',o7,U4,e',o9,rX (h2 _ (Y0 hj)),o9,zC l7,o9,a7m _ F8,o9,b2Q l7,gu l7];simp only[a1u,e'];cases nJ e.2[j]
  .rfl
  cases (e.2.take j).any λx=>seq e.2[j] x<;>rfl
 .rw[aP];rfl
variable {β:Type}
theorem a9h{p:Nat->Option β}{n j:Nat}{c:β}(h0:(List.range j).findSome? p=none)(h1:p j=some c)(hj:j<n):(List.range n).findSome? p=some c:=by
 induction n with
 |zero=>omega|succ n ih=>
  rw[iw,xN];by_cases h:j<n
  .rw[ih h];rfl
  .have:j=n:=l7;subst this;rw[h0];simp[h1]
theorem b2P{p:Nat->Option β}{j:Nat}(h0:(List.range j).findSome? p=none)(h1:p j=none):(List.range (j+1)).findSome? p=none:=by rw[iw,xN,h0];simp[h1]
variable {ρ:Type}
def iM(n:Nat)(p:Nat->Option ρ):Option ρ:=(List.range n).findSome? p
theorem Kw{σ ε ρ:Type}{p:Nat->Option ρ}(n:Nat)(hn:n<=1000000)(a:σ)(e:ε){f:σ×Int->Option (Out (σ×Int) ε ρ)}
  (h1:∀i,i<n->f (a,(i:Int))=some (match p i with|some r=> .rt r|none=> .nx (a,G6 .i64 (i:Int) 1))) (h2:f (a,(n:Int))=some (.ex e)):
  Y9 f (a,0)=some (match iM n p with|some r=> .inr r|none=> .inl e):=by
 have key:=Bl (f:=f) (s:=(a,0)) (λx=>∃i:Nat,x=(a,(i:Int))/\i<=n/\iM i p=none) (λx=>x=e/\iM n p=none) (λr=>iM n p=some r) (λx=>n -x.2.toNat) ⟨0,rfl,l7,rfl⟩ F8 ?_
 .rcases key with⟨x,k1,rfl,k2⟩|⟨r,k1,k2⟩
  .rw[k1,k2]
  .rw[k1,k2]
 .rintro x ⟨i,rfl,hi,hnone⟩;by_cases h:i<n
  .rw[h1 i h];cases hp:p i with
   |some r=>exact .inr (.inr ⟨_,rfl,a9h hnone hp h⟩)|none=>exact .inl ⟨(a,((i+1:Nat):Int)),by rw[gu l7],⟨i+1,rfl,h,b2P hnone hp⟩,by simp;omega⟩
  .have:i=n:=l7;subst this;exact .inr (.inl ⟨_,h2,rfl,hnone⟩)
def QL(kind i:Int)(r:Int×Int):Option (Int×Int×Int×Int):=l9 (D6 r.1 0) none (some (r.1,kind,i,r.2))
def Vz(l:gz)(i:Nat):Option (Int×Int×Int×Int):=match l.1[i]? with|some e=>QL 1 i (a0W l i e)|none=>none
def FW(l:gz):Int×Int×Int×Int:=l9 (I7 8 (x8 l.1)) (4,1,8,0) (match iM l.1.length (Vz l)with|some r=>r|none=>(0,0,0,0))
def Zw(l:gz):Prop:=∀e∈l.1,e.1.length<=1000000/\∀m∈e.2,m.length<=1000000
theorem XI(h:Few l)(hE:Zw l):Ac l=some (FW l):=by
 unfold Ac FW;cases I7 8 (x8 l.1)
 case true=>rfl
 simp only[o6];refine X5 (Kw (p:=Vz l) l.1.length (by have:=h.1;omega) _ (0,0,0,0) (λi hi=>?_) ?_) ?_
 rotate_left 2
 .cases iM l.1.length (Vz l)<;>rfl
 .have e:=jk hi;have hm:=hE _ (Y0 hi);simp only[Z8 e,o7,U4,e,o9,ZI h (show i<=l.1.length by omega) _ hm.1 hm.2,Vz,QL];cases D6 (a0W l i l.1[i]).1 0<;>rfl
 .rw[aP];rfl
variable {n:Nat}{p:Nat->Option ρ}
theorem qx{r:ρ}(h:iM n p=some r):∃i,i<n/\p i=some r:=by unfold iM at h;obtain⟨i,hi,hp⟩:=List.exists_of_findSome?_eq_some h;exact⟨i,aV.1 hi,hp⟩
theorem vJ(h:iM n p=none):∀i,i<n->p i=none:=by unfold iM at h;intro i hi;exact List.findSome?_eq_none_iff.1 h i (aV.2 hi)
theorem b1T(t:pR)(en:List gm):(TT t en).1=-1\/0<=(TT t en).1:=by
 unfold TT;cases I7 64 (x8 t.2.2.2)
 case true=>right;simp only[o7];decide
 cases vty t.2.1 en
 .left;rfl
 cases vty t.2.2.1 en
 .left;rfl
 right;simp only[o7,o6];cases hf:(List.range t.2.2.2.length).findSome? (a4r t en)with
 |none=>exact lT _|some r=>
  obtain⟨i,hi,hp⟩:=qx (p:=a4r t en) hf;unfold a4r at hp;split at hp
  .rename_i x hx;cases hw:a5c x (bnd t.2.1 en) (bnd t.2.2.1 en)<;>rw[hw]at hp
   .cases ha:(t.2.2.2.take i).any λy=>EM y x<;>rw[ha]at hp
    .cases hp
    .cases hp;show(0:Int)<=(i:Int);omega
   .cases hp;show(0:Int)<=(i:Int);omega
  .cases hp
def a4P(l:gz)(i:Nat)(t:pR):Int×Int:=
 l9 (nJ t.1) (l9 (Lm l 2 i t.1) (7,0) (l9 (D6 (TT t l.1).2 0) (0,0) ((TT t l.1).2,l9 (X6 0 (TT t l.1).1) (G6 .i64 100 (TT t l.1).1) 0))) (2,0)
def OE(l:gz)(i:Nat):Option (Int×Int×Int×Int):=match l.2.1[i]? with|some t=>QL 2 i (a4P l i t)|none=>none
def Dq(l:gz):Int×Int×Int×Int:=l9 (I7 8 (x8 l.2.1)) (4,2,8,0) (match iM l.2.1.length (OE l)with|some r=>r|none=>(0,0,0,0))
def UJ(l:gz):Prop:=∀t∈l.2.1,t.1.length<=1000000
theorem Vj(h:Few l)(hT:UJ l):yX l=some (Dq l):=by
 unfold yX Dq;cases I7 8 (x8 l.2.1)
 case true=>rfl
 simp only[o6];refine X5 (Kw (p:=OE l) l.2.1.length (by have:=h.2.1;omega) _ (0,0,0,0) (λi hi=>?_) ?_) ?_
 rotate_left 2
 .cases iM l.2.1.length (OE l)<;>rfl
 .have e:=jk hi;have hm:=hT _ (Y0 hi);simp only[Z8 e,o7,U4,e,o9,b1U,rX hm,NW _ (show l.1.length<=1000000 by have:=h.1;omega),zC (show i<=l.2.1.length by omega),
   Su _ (show(l.2.1.take i).length<=1000000 by have:=h.2.1;simp;omega),OE,a4P,Lm]
  cases nJ l.2.1[i].1
  .rfl
  cases l.1.any λx=>seq x.1 l.2.1[i].1
  case true=>rfl
  cases (l.2.1.take i).any λx=>seq x.1 l.2.1[i].1
  case true=>rfl
  simp only[G8,o6,o7,o9,Bool.or_false];cases hz:D6 (TT l.2.1[i] l.1).2 0
  case true=>rfl
  simp only[Y2,o7,o6,QL,hz];rcases b1T l.2.1[i] l.1 with hr|hr
  .rw[O8 hr,bW (show(TT l.2.1[i] l.1).1<0 by omega)];simp only[G8,o6,o9,hz,Y2,o7]
  .rw[O6 (show(TT l.2.1[i] l.1).1≠-1 by omega),ay hr];simp only[Y2,o7,o9,hz]
 .rw[aP];rfl
variable {ε:Type}
theorem d_(l:List α)(g:α->β)(hl:l.length<=1000000){f:List β×Int->Option ((List β×Int)⊕ε)}{F:List β->ε}
  (hin:∀(i:Nat) (a:α) (acc:List β),l[i]? =some a->acc.length=i->f (acc,(i:Int))=some (.inl (acc++[g a],G6 .i64 (i:Int) 1))) (hend:∀acc,f (acc,(l.length:Int))=some (.inr (F acc))):
  aS f ([],0)=some (F (l.map g)):=by
 obtain⟨e,h1,h2⟩:=mV (f:=f) (s:=([],0)) (λx=>∃i:Nat,x=((l.take i).map g,(i:Int))/\i<=l.length) (λe=>e=F (l.map g)) (λx=>l.length -x.2.toNat) ⟨0,rfl,l7⟩ F8 (by
  rintro x ⟨i,rfl,hi⟩;by_cases h:i<l.length
  .have e:=jk h;refine .inl ⟨((l.take (i+1)).map g,((i+1:Nat):Int)),?_,⟨i+1,rfl,h⟩,by simp;omega⟩;rw[hin i _ _ e F8,gu l7,bH h,bC];rfl
  .have:i=l.length:=l7;subst this;refine .inr ⟨_,hend _,?_⟩;rw[aG])
 rw[h1,h2]
theorem FX{l:List mF}(h:l.length<=1000000):uF l=some (l.map (·.2)):=by
 unfold uF;rw[oU];refine d_ (F:=id) l (λx=>x.2) h (λi a acc ha hacc=>?_) (λacc=>?_)
 .have hi:=(X9.1 ha).1;simp only[Z8 ha,o7,U4,ha,o9];rw[xu (by simp[hacc];omega)];rfl
 .simp only[aP];rfl
def a0y(l:gz):Prop:=∀s∈l.2.2,s.1.length<=1000000/\s.2.2.1.length<=100000/\s.2.2.2.1.length<=100000/\s.2.2.2.2.length<=100000
def wu(l:gz)(s:N8):List gm×List pR×List (Int×Int)×List (Int×Int)×List (Int×Int)×Bool:=
 match(if 0<=s.2.1 then l.2.2[s.2.1.toNat]? else none)with
 |some k=>(l.1,l.2.1,s.2.2.1.map (·.2),s.2.2.2.1.map (·.2),k.2.2.2.1.map (·.2),true)|none=>(l.1,l.2.1,s.2.2.1.map (·.2),s.2.2.2.1.map (·.2),[],false)
theorem Ov(h:a0y l){s:N8}(hs:l.2.2[i]? =some s):uk l (i:Int)=some (wu l s):=by
 have hm:=h s (vM hs);unfold uk wu;rw[U4,hs,o9,FX l7,o9,FX l7,o9];by_cases h0:0<=s.2.1
 .rw[ay h0,if_pos h0,o7];by_cases h1:s.2.1<x8 l.2.2
  .obtain⟨k,hk,hkm⟩:=vP h0 h1;have hk' :l.2.2[s.2.1.toNat]? =some k:=(fF hk).2.2.2;rw[aA h1,o7,hk,o9,FX (by have:=h k hkm;omega),o9,hk']
  .have h1' :x8 l.2.2<=s.2.1:=wJ.1 h1;rw[U5 h1',o6,U8 (by simp only[x8]at h1';exact Int.le_toNat h0 |>.2 h1')]
 .have h0' :s.2.1<(0:Int):=sF.1 h0;rw[bW h0',if_neg h0];rfl
abbrev SI(l:c5z):Prop:=l.Pairwise (·< ·)
theorem a4B:∀{a b:c5z},SI a->SI b->(∀x,x∈a↔x∈b)->a=b
 |[],[],_,_,_=>rfl|[],y::b,_,_,h=>absurd ((h y).2 A7) A7|x::a,[],_,_,h=>absurd ((h x).1 A7) A7|x::a,y::b,ha,hb,h=>by
  have ha' :=Y3.1 ha;have hb' :=Y3.1 hb;have hxy:x=y:=by
   rcases D5.1 ((h x).1 A7)with h1|h1
   .exact h1
   .rcases D5.1 ((h y).2 A7)with h2|h2
    .exact h2.symm
    .have:=hb'.1 _ h1;have:=ha'.1 _ h2;omega
  subst hxy;congr 1;refine a4B ha'.2 hb'.2 λz=>⟨λhz=>?_,λhz=>?_⟩
  .rcases D5.1 ((h z).1 (by simp[hz]))with h1|h1
   .have:=ha'.1 _ hz;omega
   .exact h1
  .rcases D5.1 ((h z).2 (by simp[hz]))with h1|h1
   .have:=hb'.1 _ hz;omega
   .exact h1
def ins(n:Int):c5z->c5z
 |[]=>[n]|a::l=>if n<=a then(if n<a then n::a::l else a::l)else a::ins n l
theorem p_(n x:Int):∀l,x∈ins n l↔x=n\/x∈l
 |[]=>by simp[ins]|a::l=>by
  unfold ins;by_cases h:n<=a
  .rw[if_pos h];by_cases h2:n<a
   .rw[if_pos h2];simp
   .rw[if_neg h2];have:n=a:=l7;subst this;simp
  .rw[if_neg h,D5,p_ n x l,D5];constructor
   .rintro(h|h|h)<;>simp[h]
   .rintro(h|h|h)<;>simp[h]
theorem b1e(n:Int):∀{l},SI l->SI (ins n l)
 |[],_=>List.pairwise_singleton _ _|a::l,h=>by
  have h' :=Y3.1 h;unfold ins;by_cases h1:n<=a
  .rw[if_pos h1];by_cases h2:n<a
   .rw[if_pos h2];refine Y3.2 ⟨λx hx=>?_,h⟩;rcases D5.1 hx with rfl|hx
    .exact h2
    .have:=h'.1 x hx;omega
   .rw[if_neg h2];exact h
  .rw[if_neg h1];refine Y3.2 ⟨λx hx=>?_,b1e n h'.2⟩;rcases(p_ n x l).1 hx with rfl|hx
   .omega
   .exact h'.1 x hx
def VN(ns:c5z)(l:c5z):c5z:=ns.foldl (λacc n=>ins n acc) l
theorem Wi(x:Int):∀ns l,x∈VN ns l↔x∈ns\/x∈l
 |[],l=>by simp[VN]|n::ns,l=>by
  show x∈VN ns (ins n l)↔_;rw[Wi x ns,p_,D5];constructor
  .rintro(h|h|h)<;>simp[h]
  .rintro((h|h)|h)<;>simp[h]
theorem X_:∀ns {l},SI l->SI (VN ns l)
 |[],_,h=>h|n::ns,_,h=>X_ ns (b1e n h)
def OA(l:c5z):c5z:=VN l []
theorem a1v(x:Int)(l:c5z):x∈OA l↔x∈l:=by unfold OA;rw[Wi];simp
theorem a6w(l:c5z):SI (OA l):=X_ l List.Pairwise.nil
theorem VS(n:Int):∀l,(ins n l).length<=l.length+1
 |[]=>by simp[ins]|a::l=>by
  unfold ins;by_cases h1:n<=a
  .rw[if_pos h1];by_cases h2:n<a
   .rw[if_pos h2];simp
   .rw[if_neg h2];simp
  .rw[if_neg h1];have:=VS n l;simp only[D7];omega
theorem SA:∀ns l,(VN ns l).length<=l.length+ns.length
 |[],l=>by simp[VN]|n::ns,l=>by have h1:=SA ns (ins n l);have h2:=VS n l;show(VN ns (ins n l)).length<=_;simp only[D7];omega
theorem a1o(l:c5z):(OA l).length<=l.length:=by have:=SA l [];unfold OA;simpa using this
theorem a4C{l:c5z}(n:Nat)(h:SI l)(h2:∀x∈l,0<=x/\x<n):l.length<=n:=by
 have key:∀(l:c5z) (lo:Int),SI l->(∀x∈l,lo<=x/\x<n)->lo<=n->(l.length:Int)<=n -lo:=by
  intro l;induction l with
  |nil=>intro lo _ _ hlo;simp;omega|cons a l ih=>intro lo hs hb hlo;have h' :=Y3.1 hs;have ha:=hb a A7;have:=ih (a+1) h'.2 (λx hx=>⟨by have:=h'.1 x hx;omega,(hb x (by simp[hx])).2⟩) l7;simp only[D7];omega
 have:=key l 0 h (λx hx=>h2 x hx) l7;omega
theorem Vp(x:Int):∀(l:c5z) (p:Int),(p::l).Pairwise (·<=·)->SI (p::ddp p l)/\(x∈p::ddp p l↔x∈p::l)
 |[],p,_=>⟨List.pairwise_singleton _ _,Iff.rfl⟩|a::l,p,h=>by
  have h1:=Y3.1 h;obtain⟨i1,i2⟩:=Vp x l a h1.2;have h2:=Y3.1 h1.2;have hpa:=h1.1 a A7;unfold ddp;cases hq:D6 a p
  .rw[zZ]at hq;simp only[cond_false];refine⟨Y3.2 ⟨λy hy=>?_,i1⟩,?_⟩
   .rcases D5.1 hy with rfl|hy
    .omega
    .have:=(Y3.1 i1).1 y hy;omega
   .rw[D5,i2,D5 (a:=x) (b:=p)]
  .rw[bM]at hq;subst hq;simp only[cond_true];refine⟨i1,?_⟩;rw[i2];simp
theorem a8T(l:c5z):dd (KA l)=OA l:=by
 have hs:=Iz l;have hp:=Iy l;refine a4B ?_ (a6w l) λx=>?_
 .cases he:KA l with
  |nil=>exact List.Pairwise.nil|cons a r=>rw[he]at hs;exact(Vp a r a hs).1
 .rw[a1v,←hp.mem_iff];cases he:KA l with
  |nil=>exact Iff.rfl|cons a r=>rw[he]at hs;exact(Vp x r a hs).2
theorem a7n(l:c5z):(KA l).length=l.length:=(Iy l).length_eq
theorem b4d{l:c5z}(h:l.length<=1000000):o5 (DL l) (λx=>sK x)=some (OA l):=by unfold DL sK;rw[show Nat.blt l.length 4611686018427387904=true from by simp[Nat.blt];omega];simp only[cond_true,o9];rw[show Nat.blt (KA l).length 4611686018427387904=true from by rw[a7n];simp[Nat.blt];omega];rw[cond_true,a8T]
def hg(l:c5z)(i:Nat):Int:=l.getD i 0
theorem a2A{l:List α}{a:α}(h:(l.take n)[i]? =some a):i<n/\l[i]? =some a:=by
 rw[Z9]at h;split at h
 .exact⟨by assumption,h⟩
 .cases h
def Kv(en:List gm)(f:mF)(a b:List mF):Int:=
 l9 (nJ f.1) (l9 (a.any λx=>seq x.1 f.1) 7 (l9 (b.any λx=>seq x.1 f.1) 7 (l9 (vty f.2 en) 0 8))) 2
theorem Nl{f:mF}{a b:List mF}(h:f.1.length<=1000000)(ha:a.length<=1000000)(hb:b.length<=1000000):xP l f a b=some (Kv l.1 f a b):=by
 unfold xP Kv;rw[rX h,o9,Sr _ ha,o9,Sr _ hb,o9,yG,o9];cases nJ f.1
 .rfl
 cases a.any λx=>seq x.1 f.1
 case true=>rfl
 cases b.any λx=>seq x.1 f.1
 case true=>rfl
 cases vty f.2 l.1<;>rfl
def TE(c e:Int):Option (Int×Int):=l9 (D6 c 0) none (some (c,e))
def inP(l:gz)(s:N8)(i:Nat):Option (Int×Int):=match s.2.2.1[i]? with|some f=>TE (Kv l.1 f (s.2.2.1.take i) []) (100+i:Nat)|none=>none
def a7e(l:gz)(s:N8)(i:Nat):Option (Int×Int):=match s.2.2.2.1[i]? with|some f=>TE (Kv l.1 f s.2.2.1 (s.2.2.2.1.take i)) (200+i:Nat)|none=>none
def a0t(s:N8):Prop:=(∀f∈s.2.2.1,f.1.length<=1000000)/\(∀f∈s.2.2.2.1,f.1.length<=1000000)
theorem a5K{c i:Nat}(hc:c<=1000)(h:i<=1000000):G6 .i64 (c:Int) (i:Int)=((c+i:Nat):Int):=by rw[eG bI];omega
def Iq(l:gz)(s:N8):Option (Int×Int):=match iM s.2.2.1.length (inP l s)with|some r=>some r|none=>iM s.2.2.2.1.length (a7e l s)
def arF(op:Int):Int:=(qL op).getD 0
variable {op:Int}
theorem WB(h:1<=op/\op<=39):∃k:Fin 40,op=(k.val:Int):=⟨⟨op.toNat,l7⟩,by simp;omega⟩
theorem b9e:∀k:Fin 40,1<=k.val->(mG (k.val:Int)=qL (k.val:Int))/\(qL (k.val:Int)=some 0\/qL (k.val:Int)=some 1\/qL (k.val:Int)=some 2\/qL (k.val:Int)=some 3):=by decide+kernel
theorem h_(h:¬(1<=op/\op<=39))(k:Int)(h1:1<=k)(h2:k<=39):D6 op k=false:=O6 l7
theorem E_(h:¬(1<=op/\op<=39)):qL op=some (-1):=by
 unfold qL;by_cases h1:1<=op
 .rw[ay h1,o7,bW (show(9:Int)<op by omega),o6,bW (show(39:Int)<op by omega),bW (show(30:Int)<op by omega)];simp[h_ h];cases X6 35 op<;>cases X6 11 op<;>rfl
 .rw[bW (show op<1 by omega),o6,bW (show op<35 by omega),bW (show op<11 by omega)];simp[h_ h]
theorem b5T(h:¬(1<=op/\op<=39)):mG op=some (-1):=by unfold mG;simp[h_ h]
theorem OU(op:Int):mG op=some (arF op)/\qL op=some (arF op)/\(arF op=-1\/arF op=0\/arF op=1\/arF op=2\/arF op=3):=by
 unfold arF;by_cases h:1<=op/\op<=39
 .obtain⟨k,rfl⟩:=WB h;obtain⟨h1,h2⟩:=b9e k l7;rcases h2 with h2|h2|h2|h2<;>rw[h1,h2]<;>simp
 .rw[b5T h,E_ h];simp
theorem a8B(op:Int):mG op=some (arF op):=(OU op).1
inductive XT where
 |l0 (n:Int×Int)|l1 (n:Int×Int) (a:XT)|l2 (n:Int×Int) (a b:XT)|l3 (n:Int×Int) (a b c:XT)
def XT.size:XT->Nat
 | .l0 _=>1| .l1 _ a=>a.size+1| .l2 _ a b=>a.size+b.size+1| .l3 _ a b c=>a.size+b.size+c.size+1
def XT.post:XT->List (Int×Int)
 | .l0 n=>[n]| .l1 n a=>a.post++[n]| .l2 n a b=>a.post++b.post++[n]| .l3 n a b c=>a.post++b.post++c.post++[n]
def XT.sts(o:Nat):XT->c5z
 | .l0 _=>[(o:Int)]| .l1 _ a=>a.sts o++[(o:Int)]| .l2 _ a b=>a.sts o++b.sts (o+a.size)++[(o:Int)]| .l3 _ a b c=>a.sts o++b.sts (o+a.size)++c.sts (o+a.size+b.size)++[(o:Int)]
theorem XT.size_pos(t:XT):0<t.size:=by cases t<;>simp[XT.size]
theorem XT.post_len(t:XT):t.post.length=t.size:=by
 induction t with
 |l0 n=>rfl|l1 n a ha=>simp[XT.post,XT.size,ha]|l2 n a b ha hb=>simp[XT.post,XT.size,ha,hb];try omega
 |l3 n a b c ha hb hc=>simp[XT.post,XT.size,ha,hb,hc];try omega
theorem XT.sts_len(t:XT):∀o,(t.sts o).length=t.size:=by
 induction t with
 |l0 n=>intro o;rfl|l1 n a ha=>intro o;simp[XT.sts,XT.size,ha]|l2 n a b ha hb=>intro o;simp[XT.sts,XT.size,ha,hb];try omega
 |l3 n a b c ha hb hc=>intro o;simp[XT.sts,XT.size,ha,hb,hc];try omega
def mf:List XT->Nat
 |[]=>0|t::r=>mf r+t.size
def Jy:List XT->List (Int×Int)
 |[]=>[]|t::r=>Jy r++t.post
def stR:List XT->c5z
 |[]=>[]|t::r=>stR r++t.sts (mf r)
def uS:List XT->c5z
 |[]=>[]|t::r=>uS r++[(mf r:Int)]
theorem uH:∀ts,(uS ts).length=ts.length
 |[]=>rfl|t::r=>by simp[uS,uH r]
theorem Qn:∀ts,(stR ts).length=mf ts
 |[]=>rfl|t::r=>by simp[stR,mf,Qn r,XT.sts_len]
theorem MM:∀ts,(Jy ts).length=mf ts
 |[]=>rfl|t::r=>by simp[Jy,mf,MM r,XT.post_len]
def push(n:Int×Int)(ts:List XT):Int⊕List XT:=
 if arF n.1=0 then .inr (.l0 n::ts)
 else if arF n.1=1 then(match ts with|a::r=> .inr (.l1 n a::r)|_=> .inl 5)
 else if arF n.1=2 then(match ts with|b::a::r=> .inr (.l2 n a b::r)|_=> .inl 5)
 else if arF n.1=3 then(match ts with|c::b::a::r=> .inr (.l3 n a b c::r)|_=> .inl 5)
 else .inl 2
def yJ:Nat->List (Int×Int)->List XT->(Int×Int)⊕List XT
 |_,[],ts=> .inr ts
 |i,n::es,ts=>match push n ts with
  | .inl c=> .inl ((i:Int),c)| .inr ts' =>if 12<ts'.length then .inl ((i:Int),16)else yJ (i+1) es ts'
def nP(e:List (Int×Int)):(Int×Int)⊕XT:=
 if 48<e.length then .inl (0,4)else if e.length=0 then .inl (0,5)else
  match yJ 0 e []with
  | .inl x=> .inl x| .inr [t]=> .inr t| .inr _=> .inl ((e.length:Int),4)
theorem Za{n:Int×Int}{ts ts' :List XT}(h:push n ts= .inr ts'):Jy ts' =Jy ts++[n]/\ts' ≠[]:=by
 unfold push at h;split at h
 .cases h;exact⟨rfl,A7⟩
 split at h
 .split at h
  .cases h;exact⟨by simp[Jy,XT.post],A7⟩
  .cases h
 split at h
 .split at h
  .cases h;exact⟨by simp[Jy,XT.post],A7⟩
  .cases h
 split at h
 .split at h
  .cases h;exact⟨by simp[Jy,XT.post],A7⟩
  .cases h
 .cases h
theorem MN{n:Int×Int}{ts ts' :List XT}(h:push n ts= .inr ts'):mf ts' =mf ts+1:=by rw[←MM,←MM,(Za h).1];simp
theorem IL:∀(es:List (Int×Int)) (i:Nat) (ts ts' :List XT),yJ i es ts= .inr ts' ->Jy ts' =Jy ts++es/\(ts≠[]\/es≠[]->ts' ≠[])
 |[],i,ts,ts',h=>by cases h;exact⟨A7,A7⟩|n::es,i,ts,ts',h=>by
  unfold yJ at h;cases hp:push n ts with
  |inl c=>rw[hp]at h;cases h|inr t2=>
   rw[hp]at h;simp only at h;split at h
   .cases h
   .obtain⟨h1,h2⟩:=IL es (i+1) t2 ts' h;obtain⟨h3,h4⟩:=Za hp;exact⟨by rw[h1,h3];simp,λ_=>h2 (.inl h4)⟩
theorem uZ{e:List (Int×Int)}{t:XT}(h:nP e= .inr t):e=t.post/\e.length<=48:=by
 unfold nP at h;split at h
 .cases h
 split at h
 .cases h
 split at h
 .cases h
 .rename_i t' hp;cases h;have:=(IL e 0 [] [t] hp).1;exact⟨by simpa[Jy]using this.symm,l7⟩
 .cases h
theorem a2v{σ ε ρ:Type}(e:List (Int×Int))(he:e.length<=48)(g:List XT->σ)(fin:List XT->ε)(rt:Int×Int->ρ){f:σ->Option (Out σ ε ρ)}
  (hs:∀(i:Nat) (n:Int×Int) (ts:List XT),e[i]? =some n->i=mf ts->ts.length<=12->f (g ts)=some (match push n ts with
   | .inl c=> .rt (rt ((i:Int),c))
   | .inr ts' =>if 12<ts'.length then .rt (rt ((i:Int),16))else .nx (g ts')))
  (hend:∀ts,mf ts=e.length->f (g ts)=some (.ex (fin ts))):
  Y9 f (g [])=some (match yJ 0 e []with| .inl x=> .inr (rt x)| .inr ts=> .inl (fin ts)):=by
 have key:∀(es:List (Int×Int)) (i:Nat) (ts:List XT) (k:Nat),e.drop i=es->i=mf ts->ts.length<=12->i<=e.length->es.length<k->
   fD f k (g ts)=some (match yJ i es ts with| .inl x=> .inr (rt x)| .inr ts=> .inl (fin ts)):=by
  intro es;induction es with
  |nil=>
   intro i ts k hd hi hl hle hk;obtain⟨k,rfl⟩:∃k',k=k' +1:=⟨k -1,l7⟩;have:i=e.length:=by have:=congrArg List.length hd;simp at this;omega
   unfold fD;rw[hend ts l7];rfl
  |cons n es ih=>
   intro i ts k hd hi hl hle hk;obtain⟨k,rfl⟩:∃k',k=k' +1:=⟨k -1,l7⟩;have hn:e[i]? =some n:=by
    have:(e.drop i)[0]? =some n:=by rw[hd];rfl
    simpa using this
   have hlt:=(X9.1 hn).1;unfold fD;rw[hs i n ts hn hi hl];unfold yJ;cases hp:push n ts with
   |inl c=>rfl|inr ts' =>
    simp only;by_cases h12:12<ts'.length
    .rw[if_pos h12,if_pos h12]
    .rw[if_neg h12,if_neg h12];exact ih (i+1) ts' k (by rw[←Z4,hd];rfl) (by rw[MN hp,hi]) l7 l7 (by simp at hk;omega)
 exact key e 0 [] aT rfl rfl A7 l7 (by unfold aT;omega)
theorem a1D:∀(p r:List XT),∃X,uS (p++r)=uS r++X/\X.length=p.length/\(p≠[]->X.head?=some (mf r:Int))
 |[],r=>⟨[],A7,rfl,λh=>absurd rfl h⟩|a::p,r=>by
  obtain⟨X,h1,h2,h3⟩:=a1D p r;refine⟨X++[(mf (p++r):Int)],?_,by simp[h2],λ_=>?_⟩
  .show uS (p++r)++[(mf (p++r):Int)]=_;rw[h1,F5]
  .cases p with
   |nil=>simp at h2;subst h2;rfl|cons b p=>rw[List.head?_append,h3 A7];rfl
theorem a3X(p r:List XT)(k:Int)(hk:k=(p.length:Int))(h:p.length+r.length<=100)(hp:p≠[]):
  Y5 .i64 (x8 (uS (p++r))) k=(r.length:Int)/\U0 (uS (p++r)) (r.length:Int)=some (mf r:Int)/\dm (uS (p++r)) (aJ (r.length:Int))=some (mf r:Int)
  /\mY 0 (r.length:Int) (x8 (uS (p++r)))=true/\lq (uS (p++r)) (aJ 0) (aJ (r.length:Int))=uS r:=by
 obtain⟨X,h1,h2,h3⟩:=a1D p r;have hl:(uS (p++r)).length=r.length+p.length:=by rw[uH];simp;omega
 have hg:(uS (p++r))[r.length]? =some (mf r:Int):=by rw[h1,F6 (by rw[uH];omega),uH,aH,←List.head?_eq_getElem?];exact h3 hp
 refine⟨?_,?_,?_,?_,?_⟩
 .simp only[x8,hl];rw[fC bI];omega
 .rw[U4];exact hg
 .exact hg
 .simp only[mY,x8,hl,decide_eq_true_eq];omega
 .show((uS (p++r)).take r.length).drop 0=_;rw[h1,dG,aC (by rw[uH];omega),ax (by rw[uH];omega)]
theorem a5P(ts:List XT):I7 12 (x8 (uS ts))=decide (12<ts.length):=by rw[show x8 (uS ts)=((ts.length:Nat):Int) by simp[x8,uH]];exact a5Q 12 ts.length
theorem qm{l:List α}(x:α)(h:l.length<=1000000):eY l [x]=some (l++[x]):=xu F8
theorem VJ(ts:List XT)(k:Nat):I7 (x8 (uS ts)) (k:Int)=decide (ts.length<k):=by rw[show x8 (uS ts)=((ts.length:Nat):Int) by simp[x8,uH]];exact a5Q _ _
def BU(e:List (Int×Int)):c5z×Int×Int:=match nP e with| .inl x=>([],x)| .inr t=>(t.sts 0,0,0)
theorem a7K{e:List (Int×Int)}(h0:e.length≠0){K:c5z×Int×Int->c5z×Int×Int}(h48:¬48<e.length)
  {r:c5z×Int×Int} (h:∀ts,yJ 0 e []= .inr ts->r=l9 (I7 1 (x8 (uS ts))) ([],x8 e,4) (stR ts,0,0)) (hi:∀x,yJ 0 e []= .inl x->r=([],x)):r=BU e:=by
 unfold BU nP;rw[if_neg h48,if_neg h0];cases hp:yJ 0 e []with
 |inl x=>exact hi x hp|inr ts=>
  rw[h ts hp];have:=(IL e 0 [] ts hp).2 (.inr (by intro he;subst he;exact h0 rfl));match ts,this with
  |[t],_=>simp[uS,x8,I7,stR,mf]|a::b::ts,_=>rw[aA (by simp[x8,uH];omega)];rfl
def pd(l:c5z)(k:Nat):c5z:=l++List.replicate k 0
theorem a3T(l:c5z)(m:Nat):U0 (pd l (m+1)) (l.length:Int)=some 0:=by rw[U4];unfold pd;rw[F6 l7,aH];rfl
theorem a6i(l:c5z)(m:Nat):dm (pd l (m+1)) (aJ (l.length:Int))=some 0:=by have:=a3T l m;rw[U4]at this;exact this
theorem b0c(l:c5z)(m:Nat)(v:Int):dD (pd l (m+1)) (aJ (l.length:Int)) v=pd (l++[v]) m:=by show(l++List.replicate (m+1) 0).set l.length v=_;rw[rq _ _ l7,aH,kZ];simp[pd]
theorem PM(l:c5z)(m:Nat)(v w:Int):dD (pd (l++[v]) m) (aJ (l.length:Int)) w=pd (l++[w]) m:=by show(l++[v]++List.replicate m 0).set l.length w=_;rw[F5,rq _ _ l7,aH];simp[pd]
theorem MK(l:c5z)(m:Nat)(v:Int):U0 (pd (l++[v]) m) (l.length:Int)=some v:=by rw[U4];unfold pd;rw[F5,F6 l7,aH];rfl
theorem KN(l:c5z)(m:Nat)(v:Int):dm (pd (l++[v]) m) (aJ (l.length:Int))=some v:=by have:=MK l m v;rw[U4]at this;exact this
theorem Ji(e:List (Int×Int)):xJ e=some (BU e):=by
 unfold xJ;by_cases h48:48<e.length
 .rw[aA (by simp[x8];omega),o7];unfold BU nP;rw[if_pos h48]
 by_cases h0:e.length=0
 .rw[U5 (by simp[x8];omega),o6,O8 (by simp[x8,h0]),o7];unfold BU nP;rw[if_neg h48,if_pos h0]
 rw[U5 (by simp[x8];omega),o6,O6 (by simp[x8];intro h;exact h0 (by simp[h])),o6];rw[show yu (x8 e) (0:Int)=some (pd (stR []) (e.length -mf [])) by simp[yu,x8,pd,stR,mf];omega,o9];refine X5 (a2v e l7 (λts=>(pd (stR ts) (e.length -mf ts),uS ts,(mf ts:Int))) (λts=>(pd (stR ts) (e.length -mf ts),uS ts)) (λx=>(([]:c5z),x)) (λi n ts hn hi hl=>?_) (λts hsz=>?_)) ?_
 rotate_left 2
 .rw[←a7K h0 h48 (K:=id) (r:=match yJ 0 e []with| .inl x=>([],x)| .inr ts=>l9 (I7 1 (x8 (uS ts))) ([],x8 e,4) (stR ts,0,0)) (λts h=>by rw[h]) (λx h=>by rw[h])];cases hp:yJ 0 e []with
  |inl x=>rfl|inr ts=>
   have:=(IL e 0 [] ts hp).1;have hz:e.length -mf ts=0:=by have:=congrArg List.length this;rw[MM]at this;simp[Jy]at this;omega
   simp only[o9,Y4,hz,pd,List.replicate_zero,D8];cases I7 1 (x8 (uS ts))<;>rfl
 .subst hi;have hlt:=(X9.1 hn).1;have hst:=Qn ts;have hof:=uH ts;obtain⟨m,hm⟩:∃m,e.length -mf ts=m+1:=⟨e.length -mf ts -1,l7⟩;simp only[Z8 hn,o7,U4 e,hn,o9,a8B,hm];rw[←hst];simp only[a3T,a6i,o9,b0c,MK,KN,PM];rw[hst];rcases(OU n.1).2.2 with h|h|h|h|h
  .rw[show push n ts= .inl 2 by simp[push,h],h];rfl
  .have e0:Y5 .i64 (x8 (uS ts)) 0=((uS ts).length:Int):=by rw[fC (by unfold kQ x8;omega)];simp[x8]
   rw[show push n ts= .inr (.l0 n::ts) by simp[push,h],h,U5 l7,o6,U5 (a1q _),o6,o6,e0,show mY 0 ((uS ts).length:Int) (x8 (uS ts))=true by simp[mY,x8],o7,
    show lq (uS ts) (aJ 0) (aJ ((uS ts).length:Int))=uS ts by simp[lq,aJ],qm _ l7,o9,gu l7]
   rw[show uS ts++[(mf ts:Int)]=uS (.l0 n::ts)from rfl,a5P];by_cases hc:12<(XT.l0 n::ts).length
   .simp only[hc,decide_true,if_true,o7]
   .simp only[hc,decide_false,if_false,o6,mf,XT.size,stR,XT.sts,show e.length -(mf ts+1)=m by omega]
  .match ts with
   |[]=>rw[show push n []= .inl 5 by simp[push,h],h];rfl|a::r=>
    obtain⟨p1,p2,p3,p4,p5⟩:=a3X [a] r 1 rfl (by simp at hl ⊢;omega) A7;simp only[P8,H9]at p1 p2 p3 p4 p5;have:=Qn (a::r);have:=uH r;simp only[D7]at hl;rw[show push n (a::r)= .inr (.l1 n a::r) by simp[push,h],h,U5 l7,o6,show(1:Int)=((1:Nat):Int)from rfl,VJ,show decide ((a::r).length<1)=false by simp];simp only[Int.natCast_one]at p1 ⊢;rw[o6,aA l7,o7,p1,p2,o9,p3,o9,p4,o7,p5];rw[←hst]
    try simp only[PM,MK,KN,o9]
    rw[hst,qm _ l7,o9,gu l7];rw[show uS r++[(mf r:Int)]=uS (.l1 n a::r)from rfl,a5P];have hz:=MN (show push n (a::r)= .inr (.l1 n a::r) by simp[push,h]);by_cases hc:12<(XT.l1 n a::r).length
    .simp only[hc,decide_true,if_true,o7]
    .simp only[hc,decide_false,if_false,o6,hz,show e.length -(mf (a::r)+1)=m by omega,stR,XT.sts,F5]
  .match ts with
   |[]=>rw[show push n []= .inl 5 by simp[push,h],h];rfl|[a]=>rw[show push n [a]= .inl 5 by simp[push,h],h];rfl|b::a::r=>
    obtain⟨p1,p2,p3,p4,p5⟩:=a3X [b,a] r 2 rfl (by simp at hl ⊢;omega) A7;simp only[P8,H9]at p1 p2 p3 p4 p5;have:=Qn (b::a::r);have:=uH r;simp only[D7]at hl;rw[show push n (b::a::r)= .inr (.l2 n a b::r) by simp[push,h],h,U5 l7,o6,show(2:Int)=((2:Nat):Int)from rfl,VJ,show decide ((b::a::r).length<2)=false by simp];rw[o6,aA l7,o7,show((2:Nat):Int)=2 from rfl,p1,p2,o9,p3,o9,p4,o7,p5];rw[←hst]
    try simp only[PM,MK,KN,o9]
    rw[hst,qm _ l7,o9,gu l7];rw[show uS r++[(mf r:Int)]=uS (.l2 n a b::r)from rfl,a5P];have hz:=MN (show push n (b::a::r)= .inr (.l2 n a b::r) by simp[push,h]);by_cases hc:12<(XT.l2 n a b::r).length
    .simp only[hc,decide_true,if_true,o7]
    .rw[hz,show e.length -(mf (b::a::r)+1)=m by omega,show stR (.l2 n a b::r)=stR (b::a::r)++[(mf r:Int)] by simp only[stR,XT.sts,F5,mf]];simp only[hc,decide_false,if_false,o6]
  .match ts with
   |[]=>rw[show push n []= .inl 5 by simp[push,h],h];rfl|[a]=>rw[show push n [a]= .inl 5 by simp[push,h],h];rfl|[b,a]=>rw[show push n [b,a]= .inl 5 by simp[push,h],h];rfl|c::b::a::r=>
    obtain⟨p1,p2,p3,p4,p5⟩:=a3X [c,b,a] r 3 rfl (by simp at hl ⊢;omega) A7;simp only[P8,H9]at p1 p2 p3 p4 p5;have:=Qn (c::b::a::r);have:=uH r;simp only[D7]at hl;rw[show push n (c::b::a::r)= .inr (.l3 n a b c::r) by simp[push,h],h,U5 l7,o6,show(3:Int)=((3:Nat):Int)from rfl,VJ,show decide ((c::b::a::r).length<3)=false by simp];rw[o6,aA l7,o7,show((3:Nat):Int)=3 from rfl,p1,p2,o9,p3,o9,p4,o7,p5];rw[←hst]
    try simp only[PM,MK,KN,o9]
    rw[hst,qm _ l7,o9,gu l7];rw[show uS r++[(mf r:Int)]=uS (.l3 n a b c::r)from rfl,a5P];have hz:=MN (show push n (c::b::a::r)= .inr (.l3 n a b c::r) by simp[push,h]);by_cases hc:12<(XT.l3 n a b c::r).length
    .simp only[hc,decide_true,if_true,o7]
    .rw[hz,show e.length -(mf (c::b::a::r)+1)=m by omega,show stR (.l3 n a b c::r)=stR (c::b::a::r)++[(mf r:Int)] by simp only[stR,XT.sts,F5,mf]];simp only[hc,decide_false,if_false,o6]
 .simp only[hsz,aP];rfl
end Go.GP
namespace Go.GP
open Gt
set_option maxRecDepth 100000
def VT(t:Int×Int):Prop:=t=(1,0)\/t=(2,0)\/t=(3,0)\/t=(4,0)\/t=(5,0)\/∃e,t=(6,e)
theorem Lt{t:Int×Int}{en:List gm}(h:vty t en=true):VT t:=by
 obtain⟨k,e⟩:=t;unfold vty at h;simp only at h;cases h6:D6 k 6
 .rw[h6,o6]at h;cases h1:X6 1 k<;>rw[h1]at h
  .cases h
  cases h5:X6 k 5<;>rw[h5]at h
  .cases h
  simp only[o7,bM]at h;rw[qB]at h1 h5;subst h;have:k=1\/k=2\/k=3\/k=4\/k=5:=l7;rcases this with rfl|rfl|rfl|rfl|rfl<;>simp[VT]
 .rw[bM]at h6;subst h6;exact .inr (.inr (.inr (.inr (.inr ⟨e,rfl⟩))))
def EN(n:Int×Int)(ops:List (Int×Int))(sg:V8):Option ((Int×Int)×Int):=
 l9 (J8 (D6 n.2 0)) (o5 (dY n.1) λu=>l9 (J8 u) (some ((0,0),2)) (cZ n ops sg)) (cZ n ops sg)
def vk(n:Int×Int)(ops:List (Int×Int))(sg:V8):Prop:=∃r:(Int×Int)×Int,yx n ops sg=some r/\EN n ops sg=some r/\(r.2=0->VT r.1)
variable {k:Int}
theorem VT.lit(h:1<=k/\k<=5):VT (k,0):=by have:k=1\/k=2\/k=3\/k=4\/k=5:=l7;rcases this with rfl|rfl|rfl|rfl|rfl<;>simp[VT]
theorem Ub(a b:Int):X6 a b= !I7 b a:=by simp only[I7,X6];rw[←decide_not];congr 1;simp
theorem Fp{α β:Type}(o:Option β)(f:α->Option β):o5 (o5 o λx=>some (Sum.inr x)) (λq=>dw q f λr=>some r)=o:=by cases o<;>rfl
theorem VT.enum(e:Int):VT (6,e):=.inr (.inr (.inr (.inr (.inr ⟨e,rfl⟩))))
theorem sV{R E:Option ((Int×Int)×Int)}{c:Int}(hc:c≠0)(h1:R=some ((0,0),c))(h2:E=some ((0,0),c)):∃r:(Int×Int)×Int,R=some r/\E=some r/\(r.2=0->VT r.1):=⟨_,h1,h2,λh=>absurd h hc⟩
theorem nok{R E:Option ((Int×Int)×Int)}{t:Int×Int}(hv:VT t)(h1:R=some (t,0))(h2:E=some (t,0)):∃r:(Int×Int)×Int,R=some r/\E=some r/\(r.2=0->VT r.1):=⟨_,h1,h2,λ_=>hv⟩
def RR(a0:Int×Int)(a1:List (Int×Int))(a2:V8):Option ((Int×Int)×Int):=
 o5 (mW a0 a2) λ(x:Bool)=>l9 (J8 x) (some ((0,0),3)) (o5 (qM a0 a2) λ(x:Bool)=>l9 (J8 x) (some ((0,0),6))
  (l9 (D6 (x8 a1) 0) (o5 (qf a0 a2) λ(x:F9×Bool)=>l9 (J8 x.2) (some ((0,0),8)) (some (x.1,0)))
  (l9 (D6 (x8 a1) 1) (o5 (U0 a1 0) λ(x:F9)=>o5 (yz a0 x a2) λ(x:F9×Bool)=>l9 (J8 x.2) (some ((0,0),8)) (some (x.1,0)))
  (l9 (D6 (x8 a1) 2) (o5 (U0 a1 0) λ(x:F9)=>o5 (U0 a1 1) λ(x_1:F9)=>o5 (Aq a0.1 x x_1) λ(x:F9×Bool)=>l9 (J8 x.2) (some ((0,0),8)) (some (x.1,0)))
  (o5 (U0 a1 1) λ(x:F9)=>o5 (U0 a1 0) λ(x_1:F9)=>l9 (D6 x_1.1 1) (o5 (U0 a1 1) λ(x_2:F9)=>o5 (U0 a1 2) λ(x_3:F9)=>
   l9 (J8 (jy (D6 x_2.1 x_3.1) (D6 x_2.2 x_3.2))) (some ((0,0),8)) (some (x,0))) (l9 (J8 false) (some ((0,0),8)) (some (x,0))))))))
theorem b8S(n:Int×Int)(ops:List (Int×Int))(sg:V8):yx n ops sg=l9 (J8 (D6 n.2 0)) (o5 (gI n.1) λx=>l9 x (RR n ops sg) (some ((0,0),2))) (RR n ops sg):=by
 unfold yx;cases D6 n.2 0
 .simp only[Y2,o7];cases gI n.1 with
  |none=>rfl|some b=>cases b<;>rfl
 .rfl
theorem KI{op N:Int}{ops:List (Int×Int)}{sg:V8}(h1:dY op=some true)(h2:gI op=some true)
  (h:∃r:(Int×Int)×Int,RR (op,N) ops sg=some r/\cZ (op,N) ops sg=some r/\(r.2=0->VT r.1)):vk (op,N) ops sg:=by
 unfold vk;rw[b8S];unfold EN;dsimp only;rw[h1,h2];cases D6 N 0<;>exact h
theorem QV{op N:Int}{ops:List (Int×Int)}{sg:V8}(h1:dY op=some false)(h2:gI op=some false)
  (h:∃r:(Int×Int)×Int,RR (op,0) ops sg=some r/\cZ (op,0) ops sg=some r/\(r.2=0->VT r.1)):vk (op,N) ops sg:=by
 unfold vk;rw[b8S];unfold EN;dsimp only;rw[h1,h2];cases hz:D6 N 0
 .exact sV (c:=2) E9 rfl rfl
 .rw[bM]at hz;subst hz;exact h
section
variable (N:Int) (sg:V8)
theorem a9J(hk:k=1\/k=2\/k=3\/k=4\/k=5):vk (k,N) [] sg:=by
 have hv:vty (k,0) sg.1=true:=by rcases hk with rfl|rfl|rfl|rfl|rfl<;>rfl
 have hm:dY k=some true/\gI k=some true:=by rcases hk with rfl|rfl|rfl|rfl|rfl<;>exact⟨rfl,rfl⟩
 refine KI hm.1 hm.2 ?_;have key:cZ (k,N) [] sg=lN N k sg:=by rcases hk with rfl|rfl|rfl|rfl|rfl<;>exact Fp _ _
 have key2:RR (k,N) [] sg=o5 (o5 (fZ (k,0) sg.1) λ(x:F9)=>l9 (X6 x.1 N) (some (X6 N x.2)) (some false)) λ(x:Bool)=>l9 (J8 x) (some ((0,0),3)) (some ((k,0),0)):=by rcases hk with rfl|rfl|rfl|rfl|rfl<;>rfl
 rw[key,key2];unfold lN;rw[Yp,WL,o9,o9,EW,EW];cases X6 (bnd (k,0) sg.1).1 N
 .exact sV (c:=3) E9 rfl rfl
 cases X6 N (bnd (k,0) sg.1).2
 .exact sV (c:=3) E9 rfl rfl
 .exact nok (Lt hv) rfl rfl
theorem a7z(hN:kQ N):vk (6,N) [] sg:=by
 have hq:0<=N->eP .i64 N 16=N / 16:=λh=>by rw[Po (by rw[pg h];unfold kQ at*;omega),pg h]
 refine KI rfl rfl ?_;have hf:qM (6,N) sg=l9 (I7 (eP .i64 N 16) (x8 sg.1)) (o5 (U0 sg.1 (eP .i64 N 16)) λ(x:gm)=>some (I7 (jB N 16) (x8 x.2))) (some false):=rfl;have hl:qf (6,N) sg=some ((6,eP .i64 N 16),vty (6,eP .i64 N 16) sg.1):=by unfold qf;simp only[qN];rfl
 rw[show cZ (6,N) [] sg=BN N sg from Fp _ _];unfold RR BN;rw[hf,show mW (6,N) sg=some (X6 0 N)from rfl,hl];by_cases h0:0<=N
 .rw[U5 h0,ay h0,hq h0];by_cases h1:N / 16<x8 sg.1
  .obtain⟨x,hx,_⟩:=vP (show 0<=N / 16 by omega) h1;rw[aA h1,bW h1,hx,show vty (6,N / 16) sg.1=true by unfold vty;simp only[ay (show 0<=N / 16 by omega),aA h1];rfl];simp only[o9,EW];cases X6 (x8 x.2) (jB N 16)
   .exact nok (VT.enum (N / 16)) rfl rfl
   .exact sV (c:=6) E9 rfl rfl
  .have h1' :x8 sg.1<=N / 16:=l7;rw[U5 h1',ay h1'];exact sV (c:=6) E9 rfl rfl
 .rw[aA (show N<0 by omega),bW (show N<0 by omega)];exact sV (c:=3) E9 rfl rfl
theorem rD(ts:List (Int×Int))(en:V8):(∃x,U0 ts N=some x/\X6 0 N=true/\I7 N (x8 ts)=true/\lw N ts en=some (l9 (vty x en.1) (x,0) ((0,0),8)))\/((X6 0 N=false\/X6 0 N=true/\I7 N (x8 ts)=false)/\lw N ts en=some ((0,0),6)):=by
 unfold lw;rw[EW N 0,Ub (x8 ts) N];cases h0:X6 0 N
 .exact .inr ⟨.inl A7,rfl⟩
 cases h1:I7 N (x8 ts)
 .exact .inr ⟨.inr A7,rfl⟩
 rw[qB]at h0;rw[vK]at h1;obtain⟨x,hx,_⟩:=vP h0 h1;rw[hx];simp only[qZ,Bool.not_false,o6,o7,o9,yG];exact .inl ⟨x,rfl,A7,A7,by cases vty x en.1<;>rfl⟩
theorem b3c:vk (7,N) [] sg:=by
 refine KI rfl rfl ?_;rw[show cZ (7,N) [] sg=lw N sg.2.2.1 sg from Fp _ _];have hf:qM (7,N) sg=l9 (X6 0 N) (some (I7 N (x8 sg.2.2.1))) (some false):=rfl;unfold RR;rw[hf,show mW (7,N) sg=some true from rfl];rcases rD N sg.2.2.1 sg with⟨x,h1,h2,h3,h4⟩|⟨h1|⟨h1,h2⟩,h4⟩
 .have hl:qf (7,N) sg=some (x,vty x sg.1):=by
   unfold qf;dsimp only;rw[h1];simp only[qN];rfl
  rw[h2,h3,h4,hl];cases hv:vty x sg.1
  .exact sV (c:=8) E9 rfl rfl
  .exact nok (Lt hv) rfl rfl
 .rw[h1,h4];exact sV (c:=6) E9 rfl rfl
 .rw[h1,h2,h4];exact sV (c:=6) E9 rfl rfl
theorem a9I:vk (8,N) [] sg:=by
 refine KI rfl rfl ?_;rw[show cZ (8,N) [] sg=lw N sg.2.2.2.1 sg from Fp _ _];have hf:qM (8,N) sg=l9 (X6 0 N) (some (I7 N (x8 sg.2.2.2.1))) (some false):=rfl;unfold RR;rw[hf,show mW (8,N) sg=some true from rfl];rcases rD N sg.2.2.2.1 sg with⟨x,h1,h2,h3,h4⟩|⟨h1|⟨h1,h2⟩,h4⟩
 .have hl:qf (8,N) sg=some (x,vty x sg.1):=by
   unfold qf;dsimp only;rw[h1];simp only[qN];rfl
  rw[h2,h3,h4,hl];cases hv:vty x sg.1
  .exact sV (c:=8) E9 rfl rfl
  .exact nok (Lt hv) rfl rfl
 .rw[h1,h4];exact sV (c:=6) E9 rfl rfl
 .rw[h1,h2,h4];exact sV (c:=6) E9 rfl rfl
theorem a7y:vk (9,N) [] sg:=QV rfl rfl (nok (VT.lit (k:=5) l7) rfl rfl)
theorem a3K:vk (35,N) [] sg:=by
 refine QV rfl rfl ?_;rw[show cZ (35,0) [] sg=su (35,0) sg from Fp _ _];unfold RR su;simp only[mW,qM,qf,qN,o9];cases sg.2.2.2.2.2
 .exact sV (c:=6) E9 rfl rfl
 .exact nok (VT.lit (k:=2) l7) rfl rfl
theorem a9K(hk:k=36\/k=37\/k=38\/k=39):vk (k,N) [] sg:=by
 have hm:dY k=some true/\gI k=some true/\D6 k 35=false:=by rcases hk with rfl|rfl|rfl|rfl<;>exact⟨rfl,rfl,rfl⟩
 refine KI hm.1 hm.2.1 ?_;rw[show cZ (k,N) [] sg=su (k,N) sg by rcases hk with rfl|rfl|rfl|rfl<;>exact Fp _ _];have hr:RR (k,N) [] sg=o5 (l9 sg.2.2.2.2.2 (l9 (X6 0 N) (some (I7 N (x8 sg.2.2.2.2.1))) (some false)) (some false)) λ(x:Bool)=>l9 (J8 x) (some ((0,0),6))
   (o5 (qf (k,N) sg) λ(x:F9×Bool)=>l9 (J8 x.2) (some ((0,0),8)) (some (x.1,0))):=by rcases hk with rfl|rfl|rfl|rfl<;>rfl
 rw[hr];unfold su;rw[hm.2.2,o6];cases sg.2.2.2.2.2
 .exact sV (c:=6) E9 rfl rfl
 simp only[o7,G8,o6];rcases rD N sg.2.2.2.2.1 sg with⟨x,h1,h2,h3,h4⟩|⟨h1|⟨h1,h2⟩,h4⟩
 .rw[h2,h3,h4];have hl:qf (k,N) sg=o5 (some (l9 (D6 k 36) (l9 (vty x sg.1) (l9 (D6 x.1 2) true (D6 x.1 3)) false) (l9 (D6 k 39) (l9 (vty x sg.1) (l9 (D6 x.1 2) true (l9 (D6 x.1 3) true (l9 (D6 x.1 4) true (D6 x.1 5)))) false) (l9 (vty x sg.1) (D6 x.1 1) false)))) λb=>some (x,b):=by
   unfold qf;simp only[qN,wW,Ar];rcases hk with rfl|rfl|rfl|rfl<;>(rw[h1];simp only[D6,Int.reduceEq,decide_true,decide_false,o7,o6,o9];cases vty x sg.1<;>cases decide (x.1=2)<;>cases decide (x.1=3)<;>cases decide (x.1=4)<;>rfl)
  rw[hl];simp only[o9,oD];cases hv:vty x sg.1
  .rcases hk with rfl|rfl|rfl|rfl<;>exact sV (c:=8) E9 rfl rfl
  .have hx:=Lt hv;rcases hk with rfl|rfl|rfl|rfl<;>rcases hx with rfl|rfl|rfl|rfl|rfl|⟨e,rfl⟩ <;>
    first
    |exact nok (Lt hv) rfl rfl
    |exact sV (c:=8) E9 rfl rfl
 .rw[h1,h4];exact sV (c:=6) E9 rfl rfl
 .rw[h1,h2,h4];exact sV (c:=6) E9 rfl rfl
end
end Go.GP
namespace Go.GP
open Gt
set_option maxRecDepth 100000
variable {a:Int×Int}{k:Int}{b:Int×Int}
section
variable (N:Int) (sg:V8)
theorem b3d(hk:k=10\/k=25\/k=31\/k=32)(ha:VT a):vk (k,N) [a] sg:=by
 have hm:dY k=some false/\gI k=some false:=by rcases hk with rfl|rfl|rfl|rfl<;>exact⟨rfl,rfl⟩
 refine QV hm.1 hm.2 ?_;rcases hk with rfl|rfl|rfl|rfl<;>rcases ha with rfl|rfl|rfl|rfl|rfl|⟨e,rfl⟩ <;>
  first
  |exact nok (VT.lit (k:=1) l7) rfl rfl
  |exact nok (VT.lit (k:=2) l7) rfl rfl
  |exact nok (VT.lit (k:=3) l7) rfl rfl
  |exact nok (VT.lit (k:=4) l7) rfl rfl
  |exact sV (c:=8) E9 rfl rfl
theorem a9H(hk:k=13\/k=23\/k=24\/k=27\/k=28\/k=29\/k=30)(ha:VT a)(hb:VT b):vk (k,N) [a,b] sg:=by
 have hm:dY k=some false/\gI k=some false:=by rcases hk with rfl|rfl|rfl|rfl|rfl|rfl|rfl<;>exact⟨rfl,rfl⟩
 refine QV hm.1 hm.2 ?_;rcases hk with rfl|rfl|rfl|rfl|rfl|rfl|rfl<;>rcases ha with rfl|rfl|rfl|rfl|rfl|⟨e,rfl⟩<;>rcases hb with rfl|rfl|rfl|rfl|rfl|⟨f,rfl⟩ <;>
  first
  |exact sV (c:=8) E9 rfl rfl
  |exact nok (VT.lit (k:=1) l7) rfl rfl
  |exact nok (VT.lit (k:=2) l7) rfl rfl
  |exact nok (VT.lit (k:=3) l7) rfl rfl
  |exact nok (VT.lit (k:=4) l7) rfl rfl
  |exact nok (VT.lit (k:=5) l7) rfl rfl
theorem a7A(hk:k=14\/k=15\/k=16)(ha:VT a)(hb:VT b):vk (k,N) [a,b] sg:=by
 have hm:dY k=some true/\gI k=some true:=by rcases hk with rfl|rfl|rfl<;>exact⟨rfl,rfl⟩
 refine KI hm.1 hm.2 ?_;have hr:RR (k,N) [a,b] sg=o5 (l9 (X6 0 N) (some (X6 N 5)) (some false)) λx=>l9 (J8 x) (some ((0,0),3)) (o5 (Aq k a b) λx=>l9 (J8 x.2) (some ((0,0),8)) (some (x.1,0))):=by rcases hk with rfl|rfl|rfl<;>rfl
 have he:cZ (k,N) [a,b] sg=o5 (l9 (X6 0 N) (some (X6 N 5)) (some false)) λx=>l9 (J8 x) (some ((0,0),3)) (o5 (pW k [a,b]) λx=>l9 (J8 x.2) (some ((0,0),8)) (some (x.1,0))):=by
  rcases hk with rfl|rfl|rfl <;>
   (show o5 (o5 (oL N) λx=>l9 (J8 x) (some (Sum.inr (((0:Int),(0:Int)),(3:Int)))) (some (.inl ((0:Int),(0:Int))))) _=_
    unfold oL;cases X6 0 N<;>cases X6 N 5<;>rfl)
 rw[hr,he];cases X6 0 N
 .exact sV (c:=3) E9 rfl rfl
 cases X6 N 5
 .exact sV (c:=3) E9 rfl rfl
 rcases hk with rfl|rfl|rfl<;>rcases ha with rfl|rfl|rfl|rfl|rfl|⟨e,rfl⟩<;>rcases hb with rfl|rfl|rfl|rfl|rfl|⟨f,rfl⟩ <;>
  first
  |exact sV (c:=8) E9 rfl rfl
  |exact nok (VT.lit (k:=2) l7) rfl rfl
  |exact nok (VT.lit (k:=3) l7) rfl rfl
  |exact nok (VT.lit (k:=4) l7) rfl rfl
theorem a7B(hk:k=11\/k=12\/k=17\/k=18\/k=19\/k=20\/k=21\/k=22)(ha:VT a):vk (k,N) [a,b] sg:=by
 have hm:dY k=some false/\gI k=some false:=by rcases hk with rfl|rfl|rfl|rfl|rfl|rfl|rfl|rfl<;>exact⟨rfl,rfl⟩
 refine QV hm.1 hm.2 ?_;have hr:RR (k,0) [a,b] sg=o5 (Aq k a b) λx=>l9 (J8 x.2) (some ((0,0),8)) (some (x.1,0)):=by rcases hk with rfl|rfl|rfl|rfl|rfl|rfl|rfl|rfl<;>rfl
 have he:cZ (k,0) [a,b] sg=o5 (pW k [a,b]) λx=>l9 (J8 x.2) (some ((0,0),8)) (some (x.1,0)):=by rcases hk with rfl|rfl|rfl|rfl|rfl|rfl|rfl|rfl<;>rfl
 rw[hr,he];unfold Aq pW;simp only[show U0 [a,b] 0=some a from rfl,show U0 [a,b] 1=some b from rfl,o9,Ar,wW,kK,oD];cases h1:D6 a.1 b.1
 .rcases hk with rfl|rfl|rfl|rfl|rfl|rfl|rfl|rfl<;>exact sV (c:=8) E9 rfl rfl
 cases h2:D6 a.2 b.2
 .rcases hk with rfl|rfl|rfl|rfl|rfl|rfl|rfl|rfl<;>exact sV (c:=8) E9 rfl rfl
 have ha' :=ha;rcases hk with rfl|rfl|rfl|rfl|rfl|rfl|rfl|rfl<;>rcases ha with rfl|rfl|rfl|rfl|rfl|⟨e,rfl⟩ <;>
  first
  |exact nok ha' rfl rfl
  |exact nok (VT.lit (k:=1) l7) rfl rfl
  |exact sV (c:=8) E9 rfl rfl
theorem b3b{a b c:Int×Int}(ha:VT a)(hb:VT b):vk (26,N) [a,b,c] sg:=by
 refine QV rfl rfl ?_;have hr:RR (26,0) [a,b,c] sg=l9 (D6 a.1 1) (l9 (J8 (jy (D6 b.1 c.1) (D6 b.2 c.2))) (some ((0,0),8)) (some (b,0))) (some ((0,0),8)):=rfl;have he:cZ (26,0) [a,b,c] sg=o5 (pW 26 [a,b,c]) λx=>l9 (J8 x.2) (some ((0,0),8)) (some (x.1,0)):=rfl;have he2:pW 26 [a,b,c]=o5 (l9 (D6 a.1 1) (some (Sum.inr (b,jy (D6 b.1 c.1) (D6 b.2 c.2)))) (some (Sum.inr (b,false)))) λ(o:F9⊕F9×Bool)=>dw o (λ(x:F9)=>some ((0,0),false)) λ(r:F9×Bool)=>some r:=rfl;rw[hr,he,he2];cases D6 a.1 1
 .exact sV (c:=8) E9 rfl rfl
 cases D6 b.1 c.1
 .exact sV (c:=8) E9 rfl rfl
 cases D6 b.2 c.2
 .exact sV (c:=8) E9 rfl rfl
 .exact nok hb rfl rfl
theorem a1B(ha:VT a):vk (33,N) [a] sg:=by
 refine KI rfl rfl ?_;have he:cZ (33,N) [a] sg=uy (33,N) a sg:=Fp _ _;have hr:RR (33,N) [a] sg=o5 (l9 (X6 0 N) (some (I7 N (x8 sg.2.1))) (some false)) λx=>l9 (J8 x) (some ((0,0),6)) (o5 (yz (33,N) a sg) λx=>l9 (J8 x.2) (some ((0,0),8)) (some (x.1,0))):=rfl;have hs:yz (33,N) a sg=o5 (U0 sg.2.1 N) λ(x:pR)=>o5 (bF x.2.1 sg.1) λ(x_1:Bool)=>l9 x_1 (o5 (bF x.2.2.1 sg.1) λ(x_2:Bool)=>l9 x_2 (some (x.2.2.1,jy (D6 a.1 x.2.1.1) (D6 a.2 x.2.1.2))) (some (x.2.2.1,false))) (some (x.2.2.1,false)):=rfl;rw[he,hr,hs];unfold uy;simp only[D6,Int.reduceEq,decide_false,o6,o9,Y4,EW N 0,Ub (x8 sg.2.1) N];cases h0:X6 0 N
 .exact sV (c:=6) E9 rfl rfl
 cases h1:I7 N (x8 sg.2.1)
 .exact sV (c:=6) E9 rfl rfl
 rw[qB]at h0;rw[vK]at h1;obtain⟨x,hx,_⟩:=vP h0 h1;simp only[o9,Y4,qZ,o6,hx,yG,qN,Y2,o7];cases vty x.2.1 sg.1
 .exact sV (c:=8) E9 rfl rfl
 cases hv:vty x.2.2.1 sg.1
 .exact sV (c:=8) E9 rfl rfl
 simp only[G8,o6,o7,o9];cases jy (decide (a.1=x.2.1.1)) (decide (a.2=x.2.1.2))
 .exact sV (c:=8) E9 rfl rfl
 .exact nok (Lt hv) rfl rfl
theorem XV(hN:kQ N)(ha:VT a):vk (34,N) [a] sg:=by
 refine KI rfl rfl ?_;have he:cZ (34,N) [a] sg=uy (34,N) a sg:=Fp _ _;have hr:RR (34,N) [a] sg=o5 (l9 (X6 0 N) (some (X6 (jB N 8) 5)) (some false)) λx=>l9 (J8 x) (some ((0,0),3)) (l9 (J8 (I7 (eP .i64 N 8) (x8 sg.2.1))) (some ((0,0),6)) (o5 (yz (34,N) a sg) λx=>l9 (J8 x.2) (some ((0,0),8)) (some (x.1,0)))):=rfl;have hs:yz (34,N) a sg=o5 (U0 sg.2.1 (eP .i64 N 8)) λ(x:pR)=>l9 (D6 a.1 3) (l9 (jy (D6 x.2.1.1 3) (D6 x.2.1.2 0)) (some (a,jy (D6 x.2.2.1.1 4) (D6 x.2.2.1.2 0))) (some (a,false))) (some (a,false)):=rfl;rw[he,hr,hs];unfold uy oL;by_cases h0:0<=N
 case neg=>rw[bW (show N<0 by omega),aA (show N<0 by omega)];exact sV (c:=3) E9 rfl rfl
 have hq:eP .i64 N 8=N / 8:=by rw[Po (by rw[pg h0];unfold kQ at*;omega),pg h0]
 rw[ay h0,U5 h0,hq,Ce h0];simp only[D6,Int.reduceEq,decide_true,o7,o6,ay (show 0<=N % 8 by omega),o9];cases X6 (N % 8) 5
 .exact sV (c:=3) E9 rfl rfl
 simp only[G8,o6,o9,Y4,U5 (show 0<=N / 8 by omega),Ub];cases h1:I7 (N / 8) (x8 sg.2.1)
 .exact sV (c:=6) E9 rfl rfl
 rw[vK]at h1;obtain⟨x,hx,_⟩:=vP (show 0<=N / 8 by omega) h1;simp only[hx,qZ,o6,o9,Y4,yG,G8];obtain⟨nm,⟨k1,k2⟩,⟨v1,v2⟩,rows⟩:=x;dsimp only;by_cases hK:k1=3/\k2=0
 .obtain⟨rfl,rfl⟩:=hK;by_cases hV:v1=4/\v2=0
  .obtain⟨rfl,rfl⟩:=hV;rcases ha with rfl|rfl|rfl|rfl|rfl|⟨e,rfl⟩ <;>
    first
    |exact nok (VT.lit (k:=3) l7) rfl rfl
    |exact sV (c:=8) E9 rfl rfl
  .have hE:vty (v1,v2) sg.1=true->v1≠4:=λhv h=>by
    subst h;rcases Lt hv with h|h|h|h|h|⟨e,h⟩<;>cases h;exact hV ⟨rfl,rfl⟩
   have hR:jy (decide (v1=4)) (decide (v2=0))=false:=by
    by_cases h1:v1=4
    .have:v2≠0:=λh2=>hV ⟨h1,h2⟩;simp[jy,h1,this]
    .simp[jy,h1]
   rw[hR];cases hv:vty (v1,v2) sg.1
   .rcases ha with rfl|rfl|rfl|rfl|rfl|⟨e,rfl⟩<;>exact sV (c:=8) E9 rfl rfl
   .have h4:=hE hv;rw[show decide (v1=4)=false by simp[h4]];rcases ha with rfl|rfl|rfl|rfl|rfl|⟨e,rfl⟩<;>exact sV (c:=8) E9 rfl rfl
 .have hR:jy (decide (k1=3)) (decide (k2=0))=false:=by
   by_cases h1:k1=3
   .have:k2≠0:=λh2=>hK ⟨h1,h2⟩;simp[jy,h1,this]
   .simp[jy,h1]
  rw[hR];cases hv:vty (k1,k2) sg.1
  .rcases ha with rfl|rfl|rfl|rfl|rfl|⟨e,rfl⟩<;>exact sV (c:=8) E9 rfl rfl
  cases hw:vty (v1,v2) sg.1
  .rcases ha with rfl|rfl|rfl|rfl|rfl|⟨e,rfl⟩<;>exact sV (c:=8) E9 rfl rfl
  have h3:k1≠3:=λh=>by subst h;rcases Lt hv with h|h|h|h|h|⟨e,h⟩<;>cases h;exact hK ⟨rfl,rfl⟩
  simp only[show decide (k1=3)=false by simp[h3],G8,o6,o7,o9];cases jy (decide (a.1=k1)) (decide (a.2=k2))
  .cases decide (a.1=3)<;>exact sV (c:=8) E9 rfl rfl
  .cases decide (a.1=3)<;>exact sV (c:=8) E9 rfl rfl
theorem v_(n:Int×Int)(hN:kQ n.2)(ops:List (Int×Int))(hv:∀t∈ops,VT t)(hl:x8 ops=arF n.1):vk n ops sg:=by
 obtain⟨op,N⟩:=n;dsimp only at hN hl;have hr:1<=op/\op<=39:=by
  by_cases h:1<=op/\op<=39
  .exact h
  .have:arF op=-1:=by unfold arF;rw[E_ h];rfl
   rw[this]at hl;simp[x8]at hl
 have hc:op=1\/op=2\/op=3\/op=4\/op=5\/op=6\/op=7\/op=8\/op=9\/op=10\/op=11\/op=12\/op=13\/op=14\/op=15\/op=16\/op=17\/op=18\/op=19\/op=20\/op=21\/op=22\/op=23\/op=24\/op=25\/op=26\/op=27\/op=28\/op=29\/op=30\/op=31\/op=32\/op=33\/op=34\/op=35\/op=36\/op=37\/op=38\/op=39:=l7;have L0:arF op=0->ops=[]:=λh=>by rw[h]at hl;simp only[x8]at hl;exact af.1 l7
 have L1:arF op=1->∃a,ops=[a]/\VT a:=λh=>by
  rw[h]at hl;simp only[x8]at hl;match ops,hl,hv with
  |[a],_,hv=>exact⟨a,rfl,hv a A7⟩|[],hl,_=>simp at hl|a::b::r,hl,_=>simp at hl;omega
 have L2:arF op=2->∃a b,ops=[a,b]/\VT a/\VT b:=λh=>by
  rw[h]at hl;simp only[x8]at hl;match ops,hl,hv with
  |[a,b],_,hv=>exact⟨a,b,rfl,hv a A7,hv b A7⟩|[],hl,_=>simp at hl|[a],hl,_=>simp at hl|a::b::c::r,hl,_=>simp at hl;omega
 have L3:arF op=3->∃a b c,ops=[a,b,c]/\VT a/\VT b:=λh=>by
  rw[h]at hl;simp only[x8]at hl;match ops,hl,hv with
  |[a,b,c],_,hv=>exact⟨a,b,c,rfl,hv a A7,hv b A7⟩|[],hl,_=>simp at hl|[a],hl,_=>simp at hl|[a,b],hl,_=>simp at hl|a::b::c::d::r,hl,_=>simp at hl;omega
 rcases hc with rfl|rfl|rfl|rfl|rfl|rfl|rfl|rfl|rfl|rfl|rfl|rfl|rfl|rfl|rfl|rfl|rfl|rfl|rfl|rfl|rfl|rfl|rfl|rfl|rfl|rfl|rfl|rfl|rfl|rfl|rfl|rfl|rfl|rfl|rfl|rfl|rfl|rfl|rfl <;>
  first
  |(rw[L0 rfl];first|exact a9J N sg l7|exact a7z N sg hN|exact b3c N sg|exact a9I N sg|exact a7y N sg|exact a3K N sg|exact a9K N sg l7)
  |(obtain⟨a,rfl,ha⟩:=L1 rfl;first|exact b3d N sg l7 ha|exact a1B N sg ha|exact XV N sg hN ha)
  |(obtain⟨a,b,rfl,ha,hb⟩:=L2 rfl;first|exact a9H N sg l7 ha hb|exact a7A N sg l7 ha hb|exact a7B N sg l7 ha)
  |(obtain⟨a,b,c,rfl,ha,hb⟩:=L3 rfl;exact b3b N sg ha hb)
end
end Go.GP
namespace Go.GP
open Gt
set_option maxRecDepth 100000
def XT.wf:XT->Prop
 | .l0 n=>arF n.1=0| .l1 n a=>arF n.1=1/\a.wf| .l2 n a b=>arF n.1=2/\a.wf/\b.wf| .l3 n a b c=>arF n.1=3/\a.wf/\b.wf/\c.wf
theorem b3z{n:Int×Int}{ts ts' :List XT}(h:push n ts= .inr ts')(hw:∀t∈ts,t.wf):∀t∈ts',t.wf:=by
 unfold push at h;split at h
 .cases h;intro t ht;rcases D5.1 ht with rfl|ht
  .assumption
  .exact hw t ht
 split at h
 .split at h
  .cases h;intro t ht;rcases D5.1 ht with rfl|ht
   .exact⟨by assumption,hw _ A7⟩
   .exact hw t (by simp[ht])
  .cases h
 split at h
 .split at h
  .cases h;intro t ht;rcases D5.1 ht with rfl|ht
   .exact⟨by assumption,hw _ A7,hw _ A7⟩
   .exact hw t (by simp[ht])
  .cases h
 split at h
 .split at h
  .cases h;intro t ht;rcases D5.1 ht with rfl|ht
   .exact⟨by assumption,hw _ A7,hw _ A7,hw _ A7⟩
   .exact hw t (by simp[ht])
  .cases h
 .cases h
theorem a1J:∀(es:List (Int×Int)) (i:Nat) (ts ts' :List XT),yJ i es ts= .inr ts' ->(∀t∈ts,t.wf)->∀t∈ts',t.wf
 |[],i,ts,ts',h,hw=>by cases h;exact hw|n::es,i,ts,ts',h,hw=>by
  unfold yJ at h;cases hp:push n ts with
  |inl c=>rw[hp]at h;cases h|inr t2=>
   rw[hp]at h;simp only at h;split at h
   .cases h
   .exact a1J es (i+1) t2 ts' h (b3z hp hw)
variable {e:List (Int×Int)}
theorem Hu{t:XT}(h:nP e= .inr t):t.wf:=by
 unfold nP at h;split at h
 .cases h
 split at h
 .cases h
 split at h
 .cases h
 .rename_i t' hp;cases h;exact a1J e 0 [] [t] hp A7 t A7
 .cases h
def S_(n:Int×Int)(ops:List (Int×Int))(sg:V8):(Int×Int)×Int:=(yx n ops sg).getD ((0,0),0)
def Et(sg:V8)(n:Int×Int)(ops:List (Int×Int))(i:Nat):(Int×Int)⊕(Int×Int):=if(S_ n ops sg).2=0 then .inr (S_ n ops sg).1 else .inl ((i:Int),(S_ n ops sg).2)
def mg(sg:V8):XT->Nat->(Int×Int)⊕(Int×Int)
 | .l0 n,o=>Et sg n [] o
 | .l1 n a,o=>match mg sg a o with
  | .inl x=> .inl x| .inr ta=>Et sg n [ta] (o+a.size)
 | .l2 n a b,o=>match mg sg a o with
  | .inl x=> .inl x
  | .inr ta=>match mg sg b (o+a.size)with
   | .inl x=> .inl x| .inr tb=>Et sg n [ta,tb] (o+a.size+b.size)
 | .l3 n a b c,o=>match mg sg a o with
  | .inl x=> .inl x
  | .inr ta=>match mg sg b (o+a.size)with
   | .inl x=> .inl x
   | .inr tb=>match mg sg c (o+a.size+b.size)with
    | .inl x=> .inl x| .inr tc=>Et sg n [ta,tb,tc] (o+a.size+b.size+c.size)
variable {i:Nat}{t:Int×Int}
theorem Cm{sg:V8}{n:Int×Int}{ops:List (Int×Int)}(hN:kQ n.2)(hv:∀t∈ops,VT t)(hl:x8 ops=arF n.1)(h:Et sg n ops i= .inr t):VT t:=by
 obtain⟨r,h1,h2,h3⟩:=v_ sg n hN ops hv hl;unfold Et at h;split at h
 .rename_i h0;cases h;have e:S_ n ops sg=r:=by unfold S_;rw[h1];rfl
  rw[e]at h0 ⊢;exact h3 h0
 .cases h
section
variable (e:List (Int×Int)) (sg:V8) (z:Int×Int)
def b4s(f:(Int×Int)×List (Int×Int)×Int->Option (Out ((Int×Int)×List (Int×Int)×Int) ((Int×Int)×List (Int×Int)) ((Int×Int)×Int×Int))):Prop:=
 ∀(i:Nat) (n:Int×Int) (s ops:List (Int×Int)),e[i]? =some n->i<=100->x8 ops=arF n.1->(∀t∈ops,VT t)->s.length+ops.length<=100->
  f (z,s++ops,(i:Int))=some (match Et sg n ops i with| .inl x=> .rt ((0,0),x)| .inr t=> .nx (z,s++[t],((i+1:Nat):Int)))
theorem a8m{f:(Int×Int)×List (Int×Int)×Int->Option (Out ((Int×Int)×List (Int×Int)×Int) ((Int×Int)×List (Int×Int)) ((Int×Int)×Int×Int))}
  (he:e.length<=48) (hI:∀n∈e,kQ n.2) (hs:b4s e sg z f):∀(t:XT),t.wf->∀(pre suf s:List (Int×Int)) (k:Nat),e=pre++t.post++suf->s.length<=pre.length->
  fD f (k+t.size) (z,s,(pre.length:Int))=(match mg sg t pre.length with| .inl x=>some (.inr ((0,0),x))| .inr r=>fD f k (z,s++[r],((pre.length+t.size:Nat):Int)))/\∀r,mg sg t pre.length= .inr r->VT r:=by
 intro t;have step:∀(i k:Nat) (n:Int×Int) (s ops:List (Int×Int)),e[i]? =some n->x8 ops=arF n.1->(∀t∈ops,VT t)->s.length+ops.length<=100->
   fD f (k+1) (z,s++ops,(i:Int))=(match Et sg n ops i with| .inl x=>some (.inr ((0,0),x))| .inr r=>fD f k (z,s++[r],((i+1:Nat):Int))):=by
  intro i k n s ops h1 h2 h3 h4;rw[fD,hs i n s ops h1 (by have:=(X9.1 h1).1;omega) h2 h3 h4];cases Et sg n ops i<;>rfl
 have getn:∀(pre suf:List (Int×Int)) (n:Int×Int),e=pre++[n]++suf->e[pre.length]? =some n:=by intro pre suf n h;rw[h,F5,F6 l7,aH];rfl
 have mem:∀(i:Nat) (n:Int×Int),e[i]? =some n->kQ n.2:=λi n h=>hI n (vM h);induction t with
 |l0 n=>
  intro hw pre suf s k hd hl;have hn:=getn pre suf n hd;have hlen:pre.length<e.length:=(X9.1 hn).1;have hz:x8 ([]:List (Int×Int))=arF n.1:=by rw[show arF n.1=0 from hw];rfl
  have h:=step pre.length k n s [] hn hz A7 F8;rw[D8]at h;exact⟨h,λr hr=>Cm (mem _ n hn) A7 hz hr⟩
 |l1 n a iha=>
  intro hw pre suf s k hd hl;simp only[XT.post,F5]at hd;have hpa:(pre++a.post).length=pre.length+a.size:=by simp[XT.post_len]
  have hn:=getn (pre++a.post) suf n (by simpa using hd);rw[hpa]at hn;have hlen:=(X9.1 hn).1;obtain⟨i1,i2⟩:=iha hw.2 pre ([n]++suf) s (k+1) (by simpa using hd) hl;simp only[XT.size,mg];rw[show k+(a.size+1)=(k+1)+a.size by omega,i1];cases ht:mg sg a pre.length with
  |inl x=>exact⟨rfl,λr hr=>by cases hr⟩|inr ta=>
   have hz:x8 [ta]=arF n.1:=by rw[show arF n.1=1 from hw.1];rfl
   have hv:∀t∈[ta],VT t:=by simpa using i2 ta ht
   exact⟨step _ k n s [ta] hn hz hv F8,λr hr=>Cm (mem _ n hn) hv hz hr⟩
 |l2 n a b iha ihb=>
  intro hw pre suf s k hd hl;simp only[XT.post,F5]at hd;have hpa:(pre++a.post).length=pre.length+a.size:=by simp[XT.post_len]
  have hpb:(pre++a.post++b.post).length=pre.length+a.size+b.size:=by simp[XT.post_len];omega
  have hn:=getn (pre++a.post++b.post) suf n (by simpa using hd);rw[hpb]at hn;have hlen:=(X9.1 hn).1;obtain⟨i1,i2⟩:=iha hw.2.1 pre (b.post++[n]++suf) s (k+1+b.size) (by simpa using hd) hl;simp only[XT.size,mg];rw[show k+(a.size+b.size+1)=(k+1+b.size)+a.size by omega,i1];cases ht:mg sg a pre.length with
  |inl x=>exact⟨rfl,λr hr=>by cases hr⟩|inr ta=>
   have hsa:=a.size_pos;obtain⟨j1,j2⟩:=ihb hw.2.2 (pre++a.post) ([n]++suf) (s++[ta]) (k+1) (by simpa using hd) (by simp[XT.post_len];omega);rw[hpa]at j1 j2;simp only;rw[j1];cases hu:mg sg b (pre.length+a.size)with
   |inl x=>exact⟨rfl,λr hr=>by cases hr⟩|inr tb=>
    have hz:x8 [ta,tb]=arF n.1:=by rw[show arF n.1=2 from hw.1];rfl
    have hv:∀t∈[ta,tb],VT t:=by simpa using ⟨i2 ta ht,j2 tb hu⟩
    have:=step _ k n s [ta,tb] hn hz hv F8;simp only[F5,P8,H9];rw[show pre.length+(a.size+b.size+1)=pre.length+a.size+b.size+1 by omega];exact⟨this,λr hr=>Cm (mem _ n hn) hv hz hr⟩
 |l3 n a b c iha ihb ihc=>
  intro hw pre suf s k hd hl;simp only[XT.post,F5]at hd;have hpa:(pre++a.post).length=pre.length+a.size:=by simp[XT.post_len]
  have hpb:(pre++a.post++b.post).length=pre.length+a.size+b.size:=by simp[XT.post_len];omega
  have hpc:(pre++a.post++b.post++c.post).length=pre.length+a.size+b.size+c.size:=by simp[XT.post_len];omega
  have hn:=getn (pre++a.post++b.post++c.post) suf n (by simpa using hd);rw[hpc]at hn;have hlen:=(X9.1 hn).1;obtain⟨i1,i2⟩:=iha hw.2.1 pre (b.post++(c.post++([n]++suf))) s (k+1+c.size+b.size) (by simpa using hd) hl;simp only[XT.size,mg];rw[show k+(a.size+b.size+c.size+1)=(k+1+c.size+b.size)+a.size by omega,i1];have hsa:=a.size_pos;have hsb:=b.size_pos;cases ht:mg sg a pre.length with
  |inl x=>exact⟨rfl,λr hr=>by cases hr⟩|inr ta=>
   obtain⟨j1,j2⟩:=ihb hw.2.2.1 (pre++a.post) (c.post++([n]++suf)) (s++[ta]) (k+1+c.size) (by simpa using hd) (by simp[XT.post_len];omega);rw[hpa]at j1 j2;simp only;rw[j1];cases hu:mg sg b (pre.length+a.size)with
   |inl x=>exact⟨rfl,λr hr=>by cases hr⟩|inr tb=>
    obtain⟨q1,q2⟩:=ihc hw.2.2.2 (pre++a.post++b.post) ([n]++suf) (s++[ta]++[tb]) (k+1) (by simpa using hd) (by simp[XT.post_len];omega);rw[hpb]at q1 q2;simp only;rw[q1];cases hc:mg sg c (pre.length+a.size+b.size)with
    |inl x=>exact⟨rfl,λr hr=>by cases hr⟩|inr tc=>
     have hz:x8 [ta,tb,tc]=arF n.1:=by rw[show arF n.1=3 from hw.1];rfl
     have hv:∀t∈[ta,tb,tc],VT t:=by simpa using ⟨i2 ta ht,j2 tb hu,q2 tc hc⟩
     have:=step _ k n s [ta,tb,tc] hn hz hv F8;simp only[F5,P8,H9];rw[show pre.length+(a.size+b.size+c.size+1)=pre.length+a.size+b.size+c.size+1 by omega];exact⟨this,λr hr=>Cm (mem _ n hn) hv hz hr⟩
end
def zf(e:List (Int×Int))(sg:V8):(Int×Int)×Int×Int:=match nP e with
 | .inl x=>((0,0),x)
 | .inr t=>match mg sg t 0 with
  | .inl x=>((0,0),x)| .inr r=>(r,0,0)
variable {α:Type}
theorem a4Y(s ops:List α)(k:Int)(hk:x8 ops=k)(h:s.length+ops.length<=100):
  Y5 .i64 (x8 (s++ops)) k=(s.length:Int)/\mY (s.length:Int) (x8 (s++ops)) (x8 (s++ops))=true/\lq (s++ops) (aJ (s.length:Int)) (aJ (x8 (s++ops)))=ops
  /\mY 0 (s.length:Int) (x8 (s++ops))=true/\lq (s++ops) (aJ 0) (aJ (s.length:Int))=s:=by
 subst hk;refine⟨?_,?_,?_,?_,?_⟩
 .rw[fC (by unfold kQ;simp[x8];omega)];simp[x8]
 .simp[mY,x8];omega
 .show((s++ops).take (((s++ops).length:Nat):Int).toNat).drop s.length=ops;rw[H6,aG,aB]
 .simp[mY,x8];omega
 .simp[lq,aJ]
theorem a4X{sg:V8}{f:(Int×Int)×List (Int×Int)×Int->Option (Out ((Int×Int)×List (Int×Int)×Int) ((Int×Int)×List (Int×Int)) ((Int×Int)×Int×Int))}
  (hI:∀n∈e,kQ n.2) (hs:b4s e sg (0,0) f) (hend:∀s,f ((0,0),s,(e.length:Int))=some (.ex ((0,0),s))) (hcode:∀x,nP e= .inl x->x.2≠0):
  l9 (J8 (D6 (BU e).2.2 0)) (some ((((0:Int),(0:Int)),(BU e).2):(Int×Int)×Int×Int)) (o5 (Y9 f (((0:Int),(0:Int)),([]:List (Int×Int)),(0:Int))) λ(o:(Int×Int)×List (Int×Int)⊕(Int×Int)×Int×Int)=>
   dw o (λ(y:(Int×Int)×List (Int×Int))=>o5 (U0 y.2 0) λ(x:Int×Int)=>o5 (dm y.2 (aJ 0)) λ(x:Int×Int)=>some (x,0,0)) λ(r:(Int×Int)×Int×Int)=>some r)=some (zf e sg):=by
 unfold BU zf;cases h:nP e with
 |inl x=>simp only[O6 (hcode x h),Y2,o7]|inr t=>
  obtain⟨hp,h48⟩:=uZ h;have hw:=Hu h;obtain⟨l1,_⟩:=a8m e sg (0,0) h48 hI hs t hw [] [] [] (aT -t.size) (by simpa using hp) A7;have hsz:e.length=t.size:=by rw[hp,XT.post_len]
  have hlo:Y9 f (((0:Int),(0:Int)),([]:List (Int×Int)),(0:Int))=fD f (aT -t.size+t.size) ((0,0),[],(([]:List (Int×Int)).length:Int)):=by unfold Y9;rw[Nat.sub_add_cancel (by unfold aT;omega)];rfl
  simp only[O8 (rfl:(0:Int)=0),G8,o6];rw[hlo,l1];simp only[I5,fG];cases mg sg t 0 with
  |inl x=>rfl|inr r=>obtain⟨k,hk⟩:∃k,aT -t.size=k+1:=⟨aT -t.size -1,by unfold aT;omega⟩;simp only[H9];rw[hk,fD,←hsz,hend];rfl
theorem zH{x:Int×Int}(h:nP e= .inl x):x.2≠0:=by
 have key:∀(es:List (Int×Int)) (i:Nat) (ts:List XT) (x:Int×Int),yJ i es ts= .inl x->x.2≠0:=by
  intro es;induction es with
  |nil=>intro i ts x h;cases h|cons n es ih=>
   intro i ts x h;unfold yJ at h;cases hp:push n ts with
   |inl c=>
    rw[hp]at h;cases h;show c≠0;unfold push at hp
    (repeat' split at hp)<;>first|(cases hp;done)|(cases hp;decide)
   |inr t2=>
    rw[hp]at h;simp only at h;split at h
    .cases h;show(16:Int)≠0;decide
    .exact ih _ _ _ h
 unfold nP at h;split at h
 .cases h;show(4:Int)≠0;decide
 split at h
 .cases h;show(5:Int)≠0;decide
 split at h
 .rename_i y hp;cases h;exact key _ _ _ _ hp
 .cases h
 .cases h;show(4:Int)≠0;decide
theorem a8l(sg:V8)(hI:∀n∈e,kQ n.2):ES e sg=some (zf e sg):=by
 unfold ES;rw[Ji,o9];refine a4X hI (λi n s ops hn hi2 hl hv hlen=>?_) (λs=>?_) (λx h=>zH h)
 .obtain⟨r,h1,h2,h3⟩:=v_ sg n (hI n (vM hn)) ops hv hl;obtain⟨v1,v2,v3,v4,v5⟩:=a4Y s ops _ hl hlen;have e' :S_ n ops sg=r:=by unfold S_;rw[h1];rfl
  have hi:=(X9.1 hn).1;simp only[Z8 hn,o7,U4,hn,o9,a8B,v1,v2,v3,v4,v5];unfold Et;rw[e'];unfold EN at h2;have fin:cZ n ops sg=some r->(o5 (cZ n ops sg) λ(x_3:F9×Int)=>l9 (J8 (D6 x_3.2 0)) (some (Out.rt ((((0:Int),(0:Int)),((i:Int),x_3.2)):(Int×Int)×Int×Int)))
    (o5 (eY s [x_3.1]) λ(x_4:List F9)=>some (Out.nx (((0:Int),(0:Int)),x_4,G6 .i64 (i:Int) 1))))=
    some (match if r.2=0 then(.inr r.1:(Int×Int)⊕(Int×Int))else .inl ((i:Int),r.2)with| .inl x=>Out.rt ((0,0),x)| .inr t=>(Out.nx ((0,0),s++[t],((i+1:Nat):Int)):Out ((Int×Int)×List (Int×Int)×Int) ((Int×Int)×List (Int×Int)) ((Int×Int)×Int×Int))):=by
   intro hr;rw[hr,o9];by_cases h0:r.2=0
   .rw[if_pos h0,O8 h0];simp only[G8,o6];rw[qm _ l7,o9,gu l7]
   .rw[if_neg h0,O6 h0];rfl
  cases hz:D6 n.2 0
  .rw[hz]at h2;simp only[Y2,o7]at h2 ⊢;cases hu:dY n.1 with
   |none=>rw[hu]at h2;cases h2|some u=>
    rw[hu]at h2;simp only[o9]at h2 ⊢;cases u
    .simp only[Y2,o7]at h2 ⊢;cases h2;rfl
    .exact fin h2
  .rw[hz]at h2;exact fin h2
 .rw[aP];rfl
section
variable {α β σ ε ρ:Type}
theorem IB(l:List α)(G:β->α->β)(mk:β->Int->σ)(fin:β->ε)(Inv:Nat->β->Prop){f:σ->Option (σ⊕ε)}{b:β}(hl:l.length<=1000000)(h0:Inv 0 b)
  (hin:∀(i:Nat) (a:α) (b:β),l[i]? =some a->i<=1000000->Inv i b->f (mk b (i:Int))=some (.inl (mk (G b a) ((i+1:Nat):Int)))/\Inv (i+1) (G b a))
  (hend:∀b,Inv l.length b->f (mk b (l.length:Int))=some (.inr (fin b))):
  aS f (mk b 0)=some (fin (l.foldl G b))/\Inv l.length (l.foldl G b):=by
 have key:∀(n i:Nat) (b:β),i<=l.length->l.length -i<n->Inv i b->xg f n (mk b (i:Int))=some (fin ((l.drop i).foldl G b))/\Inv l.length ((l.drop i).foldl G b):=by
  intro n;induction n with
  |zero=>intro i b _ h _;omega|succ n ih=>
   intro i b hi hn hI;unfold xg;by_cases h:i<l.length
   .have e:=jk h;obtain⟨h1,h2⟩:=hin i _ b e l7 hI;rw[h1,V9 h];exact ih (i+1) _ l7 l7 h2
   .have:i=l.length:=l7;subst this;rw[hend b hI,AU];exact⟨rfl,hI⟩
 have:=key aT 0 b l7 (by unfold aT;omega) h0;exact this
theorem En{γ:Type}(l:List α)(G:β->α->β)(mk:β->Int->σ)(fin:β->ε)(Inv:Nat->β->Prop)(b:β){f:σ->Option (σ⊕ε)}{K:ε->Option γ}{r:Option γ}(hl:l.length<=1000000)(h0:Inv 0 b)
  (hin:∀(i:Nat) (a:α) (b:β),l[i]? =some a->i<=1000000->Inv i b->f (mk b (i:Int))=some (.inl (mk (G b a) ((i+1:Nat):Int)))/\Inv (i+1) (G b a))
  (hend:∀b,Inv l.length b->f (mk b (l.length:Int))=some (.inr (fin b))) (hk:Inv l.length (l.foldl G b)->K (fin (l.foldl G b))=r):o5 (aS f (mk b 0)) K=r:=by
 obtain⟨h1,h2⟩:=IB l G mk fin Inv hl h0 hin hend;rw[h1];exact hk h2
def ja(G:β->α->β⊕ρ):List α->β->β⊕ρ
 |[],b=> .inl b
 |a::l,b=>match G b a with| .inl b' =>ja G l b'| .inr r=> .inr r
theorem Oc(l:List α)(G:β->α->β⊕ρ)(mk:β->Int->σ)(fin:β->ε)(Inv:Nat->β->Prop){f:σ->Option (Out σ ε ρ)}{b:β}(hl:l.length<=1000000)(h0:Inv 0 b)
  (hin:∀(i:Nat) (a:α) (b:β),l[i]? =some a->i<=1000000->Inv i b->f (mk b (i:Int))=some (match G b a with| .inl b' => .nx (mk b' ((i+1:Nat):Int))| .inr r=> .rt r)/\∀b',G b a= .inl b' ->Inv (i+1) b')
  (hend:∀b,Inv l.length b->f (mk b (l.length:Int))=some (.ex (fin b))):
  Y9 f (mk b 0)=some (match ja G l b with| .inl b' => .inl (fin b')| .inr r=> .inr r)/\∀b',ja G l b= .inl b' ->Inv l.length b' :=by
 have key:∀(n i:Nat) (b:β),i<=l.length->l.length -i<n->Inv i b->fD f n (mk b (i:Int))=some (match ja G (l.drop i) b with| .inl b' => .inl (fin b')| .inr r=> .inr r)/\∀b',ja G (l.drop i) b= .inl b' ->Inv l.length b' :=by
  intro n;induction n with
  |zero=>intro i b _ h _;omega|succ n ih=>
   intro i b hi hn hI;unfold fD;by_cases h:i<l.length
   .have e:=jk h;obtain⟨h1,h2⟩:=hin i _ b e l7 hI;rw[h1,V9 h];unfold ja;cases hg:G b l[i]with
    |inr r=>exact⟨rfl,λb' hb=>by cases hb⟩|inl b' =>exact ih (i+1) _ l7 l7 (h2 b' hg)
   .have:i=l.length:=l7;subst this;rw[hend b hI,AU];exact⟨rfl,λb' hb=>by cases hb;exact hI⟩
 have:=key aT 0 b l7 (by unfold aT;omega) h0;exact this
theorem VW{γ:Type}(l:List α)(G:β->α->β⊕ρ)(mk:β->Int->σ)(fin:β->ε)(Inv:Nat->β->Prop)(b:β){f:σ->Option (Out σ ε ρ)}{K:ε⊕ρ->Option γ}{r:Option γ}(hl:l.length<=1000000)(h0:Inv 0 b)
  (hin:∀(i:Nat) (a:α) (b:β),l[i]? =some a->i<=1000000->Inv i b->f (mk b (i:Int))=some (match G b a with| .inl b' => .nx (mk b' ((i+1:Nat):Int))| .inr r=> .rt r)/\∀b',G b a= .inl b' ->Inv (i+1) b')
  (hend:∀b,Inv l.length b->f (mk b (l.length:Int))=some (.ex (fin b)))
  (hk:(∀b',ja G l b= .inl b' ->Inv l.length b')->K (match ja G l b with| .inl b' => .inl (fin b')| .inr r=> .inr r)=r):o5 (Y9 f (mk b 0)) K=r:=by
 obtain⟨h1,h2⟩:=Oc l G mk fin Inv hl h0 hin hend;rw[h1];exact hk h2
end
def a0c(c:UInt8):Bool:=decide (32<=c.toNat)&&decide (c.toNat<=126)&&decide (c.toNat≠34)
def a8f(s:c5y):Bool:=decide (s.length<=64)&&s.all a0c
theorem a5O(c:UInt8):∀s:c5y,decide (0<=Lib.indexByte s c)=s.any λx=>decide (x.toNat=c.toNat)
 |[]=>by simp[Lib.indexByte]|b::l=>by
  have ih:=a5O c l;have hge:=Lib.indexByte_ge l c;rw[List.any_cons,←ih];have e:Lib.indexByte (b::l) c=if b=c then 0 else if Lib.indexByte l c=-1 then -1 else Lib.indexByte l c+1:=by rw[Lib.indexByte];simp
  rw[e];by_cases h:b=c
  .subst h;simp
  .have h2:b.toNat≠c.toNat:=λhh=>h (UInt8.toNat_inj.1 hh);rw[if_neg h,show decide (b.toNat=c.toNat)=false by simp[h2],Oa];by_cases h3:Lib.indexByte l c=-1
   .rw[h3];rfl
   .rw[if_neg h3];simp;omega
theorem b1Q(c:UInt8):a0c c=(!I7 (c.toNat:Int) 32&&!I7 126 (c.toNat:Int)&&!D6 (c.toNat:Int) 34):=by unfold a0c I7 D6;rw[lS];simp;omega
theorem a5j(s:c5y)(p:UInt8->Bool):(∀(i:Nat) (a:UInt8),s[i]? =some a->p a=true)↔s.all p=true:=by rw[dV];exact⟨λh x hx=>by obtain⟨i,hi,rfl⟩:=Y8 hx;exact h i _ (jk hi),λh i a hi=>h a (vM hi)⟩
theorem Xx{s:c5y}(h:s.length<=1000000):yY s=some (a8f s):=by
 unfold yY;have h5:I7 64 (x8 s)= !decide (s.length<=64):=by simp only[I7,x8];rw[←decide_not];congr 1;simp;omega
 rw[h5,show tC s [34]=some (s.any λx=>decide (x.toNat=(34:UInt8).toNat))from congrArg some (a5O 34 s)];unfold a8f;cases decide (s.length<=64)
 .rfl
 simp only[qZ,o6,o9,vO];cases h34:s.any λx=>decide (x.toNat=(34:UInt8).toNat)
 case true=>
  obtain⟨x,hx,hx2⟩:=rJ.1 h34;simp only[decide_eq_true_eq]at hx2;have:s.all a0c=false:=by rw[List.all_eq_false];refine⟨x,hx,?_⟩;unfold a0c;rw[hx2];decide
  rw[this];rfl
 simp only[o6];refine X5 (QT s (λi a=>a0c a) false PUnit.unit _ l7 (λi x hx=>?_) ?_) ?_
 rotate_left 2
 .by_cases hw:s.all a0c=true
  .rw[if_pos ((a5j s a0c).2 hw),hw];rfl
  .rw[if_neg (λh=>hw ((a5j s a0c).1 h))];simp only[JJ]at hw;rw[hw];rfl
 .have hi:=(X9.1 hx).1;have hne:D6 (x.toNat:Int) 34=false:=by
   have:=(iq.1 h34) x (vM hx);simp only[decide_eq_true_eq]at this;exact O6 (by have h:(34:UInt8).toNat=34:=rfl;omega)
  simp only[Z8 hx,o7,yC,hx,aY,o9];rw[gu l7,b1Q,hne];cases I7 (x.toNat:Int) 32<;>cases I7 126 (x.toNat:Int)<;>rfl
 .rw[aP];rfl
def EI(e:List (Int×Int))(sg:V8)(t:Int×Int):Int:=l9 (D6 (zf e sg).2.2 0) (l9 (jy (D6 (zf e sg).1.1 t.1) (D6 (zf e sg).1.2 t.2)) 0 8) (zf e sg).2.2
theorem OW(sg:V8)(t:Int×Int)(hI:∀n∈e,kQ n.2):wV e sg t=some (EI e sg t):=by
 unfold wV EI;rw[a8l sg hI,o9];cases D6 (zf e sg).2.2 0
 .rfl
 simp only[G8,o6,o7];cases jy (D6 (zf e sg).1.1 t.1) (D6 (zf e sg).1.2 t.2)<;>rfl
def a2M(r:iV):Prop:=r.1.length<=4611686018427387904/\r.2.2.2.2.2.2.2.length<=1000000/\(∀n∈r.2.2.2.2.2.1,kQ n.2)/\(∀n∈r.2.2.2.2.2.2.1,kQ n.2)
def JU(rs:List iV)(d:Int):Nat:=rs.countP λo=>D6 o.2.1 d
def Ku(r:iV)(sg:V8)(t:Int×Int):Int:=
 l9 (I7 0 (x8 r.2.2.2.2.2.1)) (l9 (D6 (EI r.2.2.2.2.2.1 sg (1,0)) 0) (EI r.2.2.2.2.2.2.1 sg t) (EI r.2.2.2.2.2.1 sg (1,0))) (EI r.2.2.2.2.2.2.1 sg t)
def Hl(s:N8)(sg:V8)(k:Nat)(r:iV):Int:=
 l9 (nJ r.1) (l9 ((s.2.2.2.2.take k).any λx=>seq x.1 r.1) 7 (match U0 s.2.2.2.1 r.2.1 with
  |none=>6|some d=>l9 (l9 (D6 r.2.2.1 (-1)) false (l9 (I7 r.2.2.1 0) true (l9 (X6 k r.2.2.1) true (match U0 s.2.2.2.2 r.2.2.1 with|some q=>J8 (D6 q.2.1 r.2.1)|none=>true)))) 9
   (l9 (I7 r.2.2.2.1 0) 3 (l9 (I7 9 r.2.2.2.1) 3 (l9 (Kq r.2.2.2.2.1) (l9 (D6 r.2.2.2.2.1.1 r.2.2.2.2.1.2) 3
    (l9 (X6 8 (JU (s.2.2.2.2.take k) r.2.1)) 4 (l9 (a8f r.2.2.2.2.2.2.2) (Ku r sg d.2) 2))) 3))))) 2
theorem a1n{l:List α}{i:Int}(h:X6 0 i=false\/I7 i (x8 l)=false):U0 l i=none:=by
 unfold U0
 split
 .rename_i h0;rcases h with h|h
  .rw[QQ]at h;omega
  .rw[rP]at h;simp only[x8]at h;exact U8 l7
 .rfl
variable {s:N8}{r:iV}{k:Nat}
theorem ZJ(sg:V8)(hr:s.2.2.2.2[k]? =some r)(hl:s.2.2.2.2.length<=100000)(h:a2M r):BP s (k:Int) sg=some (Hl s sg k r):=by
 have hk:=(X9.1 hr).1;have hcnt:JU (s.2.2.2.2.take k) r.2.1<=100000:=by have:=List.countP_le_length (l:=s.2.2.2.2.take k) (p:=λ(o:iV)=>D6 o.2.1 r.2.1);unfold JU;simp at this;omega
 unfold BP;rw[U4,hr,o9,zC l7,o9];refine X5 (IB (s.2.2.2.2.take k) (λ(c:Nat) (o:iV)=>l9 (D6 o.2.1 r.2.1) (c+1) c) (λc i=>((c:Int),i)) (λc=>(c:Int)) (λi c=>c<=i) (b:=0) F8 l7 (λi a c ha hi hc=>?_) (λc hc=>?_)).1 ?_
 rotate_left 2
 .have hf:∀(l:List iV) (c:Nat),l.foldl (λ(c:Nat) (o:iV)=>l9 (D6 o.2.1 r.2.1) (c+1) c) c=c+JU l r.2.1:=by
   intro l;induction l with
   |nil=>intro c;rfl|cons a l ih=>intro c;rw[bY,ih];unfold JU;rw[List.countP_cons];cases D6 a.2.1 r.2.1<;>simp<;>omega
  rw[hf,fG,o9,Gj h.1,o9,o9,a3y _ F8,o9];unfold Hl;cases nJ r.1
  .rfl
  simp only[G8,o6,o7,o9];cases (s.2.2.2.2.take k).any λx=>seq x.1 r.1
  case true=>rfl
  simp only[o6];rw[EW r.2.1 0,Ub (x8 s.2.2.2.1) r.2.1];cases h0:X6 0 r.2.1
  .rw[a1n (.inl h0)];rfl
  cases h1:I7 r.2.1 (x8 s.2.2.2.1)
  .rw[a1n (.inr h1)];rfl
  obtain⟨d,hd,_⟩:=vP (qB.1 h0) (vK.1 h1);rw[hd];simp only[qZ,o6,o9,Xx h.2.1];have hpar:(l9 (J8 (D6 r.2.2.1 (-1))) (l9 (I7 r.2.2.1 0) (some true) (l9 (X6 (k:Int) r.2.2.1) (some true) (o5 (U0 s.2.2.2.2 r.2.2.1) λ(x_6:iV)=>some (J8 (D6 x_6.2.1 r.2.1))))) (some false))=
    some (l9 (D6 r.2.2.1 (-1)) false (l9 (I7 r.2.2.1 0) true (l9 (X6 k r.2.2.1) true (match U0 s.2.2.2.2 r.2.2.1 with|some q=>J8 (D6 q.2.1 r.2.1)|none=>true)))):=by
   cases D6 r.2.2.1 (-1)
   case true=>rfl
   simp only[Y2,o7,o6];cases hp0:I7 r.2.2.1 0
   case true=>rfl
   cases hp1:X6 (k:Int) r.2.2.1
   case true=>rfl
   rw[rP]at hp0;rw[QQ]at hp1;obtain⟨q,hq,_⟩:=vP (l:=s.2.2.2.2) hp0 (by simp only[x8];omega);rw[hq];rfl
  rw[hpar,o9];cases (l9 (D6 r.2.2.1 (-1)) false (l9 (I7 r.2.2.1 0) true (l9 (X6 k r.2.2.1) true (match U0 s.2.2.2.2 r.2.2.1 with|some q=>J8 (D6 q.2.1 r.2.1)|none=>true))))
  case true=>rfl
  simp only[o6];cases I7 r.2.2.2.1 0
  case true=>rfl
  simp only[o6,o9];cases I7 9 r.2.2.2.1
  case true=>rfl
  simp only[o6];have hval:∀(A B:Option (iV⊕Int)),l9 (I7 r.2.2.2.2.1.1 0) A (l9 (X6 r.2.2.2.2.1.2 r.2.2.2.2.1.1) A (l9 (I7 109573 r.2.2.2.2.1.2) A B))=l9 (Kq r.2.2.2.2.1) (l9 (D6 r.2.2.2.2.1.1 r.2.2.2.2.1.2) A B) A:=by
   intro A B;unfold Kq;by_cases v0:r.2.2.2.2.1.1<(0:Int)
   .rw[aA v0,bW (show r.2.2.2.2.1.1<(0:Int)from v0)];rfl
   rw[U5 (wJ.1 v0),ay (wJ.1 v0)];by_cases v1:(r.2.2.2.2.1.2:Int)<=r.2.2.2.2.1.1
   .rw[ay v1];by_cases v2:(r.2.2.2.2.1.1:Int)<=r.2.2.2.2.1.2
    .rw[ay v2,O8 (Int.le_antisymm v2 v1)];cases X6 r.2.2.2.2.1.2 109573<;>rfl
    .rw[bW (sF.1 v2)];rfl
   .have v1' :=sF.1 v1;rw[bW v1',ay (Int.le_of_lt v1'),O6 (λhh=>by rw[hh]at v1';exact Int.lt_irrefl _ v1'),EW];cases X6 r.2.2.2.2.1.2 109573<;>rfl
  rw[hval];cases Kq r.2.2.2.2.1
  .rfl
  cases D6 r.2.2.2.2.1.1 r.2.2.2.2.1.2
  case true=>rfl
  simp only[o7,o6];cases X6 8 ((JU (s.2.2.2.2.take k) r.2.1:Nat):Int)
  case true=>rfl
  cases a8f r.2.2.2.2.2.2.2
  .rfl
  simp only[G8,o6,o7,o9,Y4,Ku,hd,OW sg _ h.2.2.1,OW sg _ h.2.2.2];cases I7 0 (x8 r.2.2.2.2.2.1)
  .rfl
  simp only[o7];cases D6 (EI r.2.2.2.2.2.1 sg (1,0)) 0<;>rfl
 .have hc' :c<=1000000:=l7;obtain⟨ha1,ha2⟩:=a2A ha;simp only[Z8 ha,o7,U4,ha,o9];rw[gu (show i<=9000000000000000000 by omega),gu (show c<=9000000000000000000 by omega)];cases D6 a.2.1 r.2.1
  .exact⟨rfl,by show c<=i+1;omega⟩
  .exact⟨rfl,by show c+1<=i+1;omega⟩
 .simp only[aP];rfl
structure SmS (s:N8):Prop where
 nm:s.1.length<=1000000
 ni:s.2.2.1.length<=14
 nd:s.2.2.2.1.length<=14
 nr:s.2.2.2.2.length<=96
 fo:a0t s
 ro:∀r∈s.2.2.2.2,a2M r/\r.2.2.2.2.2.1.length<=50/\r.2.2.2.2.2.2.1.length<=50
def isM(op:Int):Bool:=l9 (X6 36 op) (X6 op 39) false
theorem b6l(op:Int):isM op=l9 (D6 op 36) true (l9 (D6 op 37) true (l9 (D6 op 38) true (D6 op 39))):=by
 unfold isM;by_cases h1:36<=op
 .rw[ay h1,o7];by_cases h2:op<=39
  .rw[ay h2];have:op=36\/op=37\/op=38\/op=39:=l7;rcases this with rfl|rfl|rfl|rfl<;>rfl
  .rw[bW l7,O6 l7,O6 l7,O6 l7,O6 l7];rfl
 .rw[bW l7,O6 l7,O6 l7,O6 l7,O6 l7];rfl
def TP(p:Int->Bool)(e:List (Int×Int)):c5z:=(e.filter λn=>p n.1).map (·.2)
def KT(e:List (Int×Int)):c5z×c5z×c5z:=(OA (TP (λo=>D6 o 7) e),OA (TP (λo=>D6 o 8) e),OA (TP isM e))
def b3A(g:c5z->Int->c5z)(b:c5z×c5z×c5z)(n:Int×Int):c5z×c5z×c5z:=
 (l9 (D6 n.1 7) (g b.1 n.2) b.1,l9 (D6 n.1 8) (g b.2.1 n.2) b.2.1,l9 (isM n.1) (g b.2.2 n.2) b.2.2)
theorem Zd(g:c5z->Int->c5z):∀(e:List (Int×Int)) (b:c5z×c5z×c5z),e.foldl (b3A g) b=((TP (λo=>D6 o 7) e).foldl g b.1,(TP (λo=>D6 o 8) e).foldl g b.2.1,(TP isM e).foldl g b.2.2)
 |[],b=>rfl|n::e,b=>by
  have hn:∀p:Int->Bool,TP p (n::e)=l9 (p n.1) (n.2::TP p e) (TP p e):=λp=>by unfold TP;rw[iJ];cases p n.1<;>rfl
  rw[bY,Zd g e,hn,hn,hn];unfold b3A;simp only;cases D6 n.1 7<;>cases D6 n.1 8<;>cases isM n.1<;>rfl
theorem YE:∀(l b:c5z),l.foldl (λacc n=>acc++[n]) b=b++l
 |[],b=>by simp|a::l,b=>by rw[bY,YE l];simp
theorem Iw{a k:Int}(h:a=k)(m:Int)(hm:k≠m):D6 a m=false:=O6 l7
theorem ER{l:c5z}(hl:l.length<=1000000):wS l=some (OA l):=by unfold wS;have:=b4d (l:=l) hl;rw[show(λx=>o5 (sK x) λ(x:c5z)=>some x)=λx=>sK x from funext λx=>oU _];exact this
theorem NE(h:e.length<=1000000):wH e=some (KT e):=by
 unfold wH;refine En e (b3A (λacc n=>acc++[n])) (λb i=>(b.1,b.2.1,b.2.2,i)) (λb=>b) (λi b=>b.1.length<=i/\b.2.1.length<=i/\b.2.2.length<=i) (([],[],[]):c5z×c5z×c5z) h A7 (λi a b ha hi hI=>?_) (λb hI=>?_) (λh2=>?_)
 .obtain⟨b1,b2,b3⟩:=b;simp only at hI;simp only[Z8 ha,o7,U4,ha,o9,qm a.2 (show b1.length<=1000000 by omega),qm a.2 (show b2.length<=1000000 by omega),qm a.2 (show b3.length<=1000000 by omega),b3A,b6l];rw[gu l7];by_cases h7:a.1=7
  .rw[O8 h7,Iw h7 8 E9,Iw h7 36 E9,Iw h7 37 E9,Iw h7 38 E9,Iw h7 39 E9];exact⟨rfl,by simp<;>omega,by simp<;>omega,by simp<;>omega⟩
  rw[O6 h7];by_cases h8:a.1=8
  .rw[O8 h8,Iw h8 36 E9,Iw h8 37 E9,Iw h8 38 E9,Iw h8 39 E9];exact⟨rfl,by simp<;>omega,by simp<;>omega,by simp<;>omega⟩
  rw[O6 h8];cases D6 a.1 36<;>cases D6 a.1 37<;>cases D6 a.1 38<;>cases D6 a.1 39<;>exact⟨rfl,by simp<;>omega,by simp<;>omega,by simp<;>omega⟩
 .simp only[aP];rfl
 .rw[Zd]at h2 ⊢;simp only[YE,H9]at h2 ⊢;rw[ER l7,o9,ER l7,o9,ER l7];rfl
theorem a9M(p:Int->Bool)(e:List (Int×Int)):(TP p e).length<=e.length:=by unfold TP;rw[J6];exact dN _ _
theorem MO(e:List (Int×Int)):(KT e).2.1.length<=e.length:=X7 (a1o _) (a9M _ e)
def inD(n d:Int):Bool:=l9 (X6 0 d) (I7 d n) false
def KP(n:Int)(r:iV):c5z:=(KT r.2.2.2.2.2.1).2.1.filter (inD n)++(KT r.2.2.2.2.2.2.1).2.1.filter (inD n)
theorem VF(p:Int->Bool):∀(l b:c5z),l.foldl (λacc x=>l9 (p x) (acc++[x]) acc) b=b++l.filter p
 |[],b=>by simp|a::l,b=>by rw[bY,VF p l,iJ];cases p a<;>simp
theorem YC{f:c5z×Int->Option ((c5z×Int)⊕c5z)}(l b:c5z)(n:Int)(hl:l.length<=1000)(hb:b.length<=1000)
  (hin:∀(i:Nat) (a:Int) (acc:c5z),l[i]? =some a->i<=1000000->f (acc,(i:Int))=l9 (X6 0 a) (l9 (I7 a n) (o5 (eY acc [a]) λx=>some (.inl (x,G6 .i64 (i:Int) 1))) (some (.inl (acc,G6 .i64 (i:Int) 1)))) (some (.inl (acc,G6 .i64 (i:Int) 1))))
  (hend:∀acc,f (acc,(l.length:Int))=some (.inr acc)):aS f (b,0)=some (b++l.filter (inD n)):=by
 have key:=IB l (λ(acc:c5z) x=>l9 (inD n x) (acc++[x]) acc) (λb i=>(b,i)) (λb=>b) (λi acc=>acc.length<=1000+i) (f:=f) (b:=b) l7 l7 ?_ ?_
 .rw[key.1,VF]
 .intro i a acc ha hi hI;have:=(X9.1 ha).1;rw[hin i a acc ha hi,gu l7,qm _ l7];unfold inD;cases X6 0 a
  .exact⟨rfl,by show acc.length<=_;omega⟩
  cases I7 a n
  .exact⟨rfl,by show acc.length<=_;omega⟩
  .exact⟨rfl,by simp;omega⟩
 .intro acc hI;rw[hend]
theorem QF(n:Int)(h1:r.2.2.2.2.2.1.length<=50)(h2:r.2.2.2.2.2.2.1.length<=50):vG r n=some (KP n r):=by
 have g1:=MO r.2.2.2.2.2.1;have g2:=MO r.2.2.2.2.2.2.1;unfold vG KP;rw[NE l7,o9,NE l7,o9];refine X5 (YC (KT r.2.2.2.2.2.1).2.1 [] n l7 A7 (λi a acc ha hi=>?_) (λacc=>?_)) ?_
 rotate_left 2
 .rw[o9,oU,H9];have:=dN (inD n) (KT r.2.2.2.2.2.1).2.1;refine YC (KT r.2.2.2.2.2.2.1).2.1 _ n l7 l7 (λi a acc ha hi=>?_) (λacc=>?_)
  .simp only[Z8 ha,o7,U4,ha,o9];rw[show dm (KT r.2.2.2.2.2.2.1).2.1 (aJ (i:Int))=some a from ha,o9]
  .simp only[aP];rfl
 .simp only[Z8 ha,o7,U4,ha,o9];rw[show dm (KT r.2.2.2.2.2.1).2.1 (aJ (i:Int))=some a from ha,o9]
 .simp only[aP];rfl
def nD(s:N8):Int:=x8 s.2.2.2.1
def dl(n:Int)(rs:List iV)(d:Int):c5z:=rs.flatMap λr=>l9 (D6 r.2.1 d) (KP n r) []
def Dk(s:N8)(d:Int):c5z:=l9 (inD (nD s) d) (OA (dl (nD s) s.2.2.2.2 d)) []
theorem Zb(h:SmS s)(hr:r∈s.2.2.2.2)(n:Int):(KP n r).length<=100:=by obtain⟨_,h1,h2⟩:=h.ro r hr;have a1:=MO r.2.2.2.2.2.1;have a2:=MO r.2.2.2.2.2.2.1;have b1:=dN (inD n) (KT r.2.2.2.2.2.1).2.1;have b2:=dN (inD n) (KT r.2.2.2.2.2.2.1).2.1;unfold KP;rw[E8];omega
theorem a5z(n:Int)(rs:List iV)(r:iV)(d:Int):dl n (rs++[r]) d=dl n rs d++l9 (D6 r.2.1 d) (KP n r) []:=by unfold dl;rw[List.flatMap_append];simp
theorem b2G(n:Int)(rs:List iV)(r:iV)(d:Int):dl n (r::rs) d=l9 (D6 r.2.1 d) (KP n r) []++dl n rs d:=rfl
theorem a3k{s:N8}(h:SmS s)(n d:Int):∀(rs:List iV),(∀r∈rs,r∈s.2.2.2.2)->(dl n rs d).length<=100*rs.length
 |[],_=>by simp[dl]|r::rs,hm=>by
  have ih:=a3k h n d rs λr hr=>hm r (by simp[hr]);have h1:=Zb h (hm r A7) n;rw[b2G,E8,D7];cases D6 r.2.1 d
  .simp only[o6,I5];omega
  .simp only[o7];omega
variable {d:Int}{x:Int}
theorem b6o{n:Int}{rs:List iV} :x∈dl n rs d↔∃r∈rs,r.2.1=d/\x∈KP n r:=by
 unfold dl;rw[List.mem_flatMap];constructor
 .rintro⟨r,hr,hx⟩;cases hq:D6 r.2.1 d<;>rw[hq]at hx
  .simp at hx
  .exact⟨r,hr,bM.1 hq,hx⟩
 .rintro⟨r,hr,hq,hx⟩;exact⟨r,hr,by rw[O8 hq];exact hx⟩
theorem b0y{n:Int}(h:x∈KP n r):0<=x/\x<n:=by
 have key:inD n x=true:=by unfold KP at h;rcases E5.1 h with h|h<;>exact(bZ.1 h).2
 unfold inD at key;cases h0:X6 0 x<;>rw[h0]at key
 .cases key
 .exact⟨qB.1 h0,vK.1 key⟩
theorem QI(s:N8)(d:Int):SI (Dk s d):=by
 unfold Dk;cases inD (nD s) d
 .exact List.Pairwise.nil
 .exact a6w _
theorem QH(h:x∈Dk s d):0<=x/\x<nD s:=by
 unfold Dk at h;cases hq:inD (nD s) d<;>rw[hq]at h
 .simp at h
 .obtain⟨r,_,_,hx⟩:=b6o.1 ((a1v _ _).1 h);exact b0y hx
theorem a5U(m k:Nat)(f:Nat->α)(v:α):((List.range m).map f).set k v=(List.range m).map λd=>if d=k then v else f d:=by
 apply au;intro i;rw[J7,W9,W9,J6,V4];by_cases hi:i<m
 .rw[iD hi];by_cases h:k=i
  .subst h;simp[hi]
  .simp[h,Ne.symm h]
 .have:(List.range m)[i]? =none:=by simp;omega
  rw[this];by_cases h:k=i
  .subst h;simp[hi]
  .simp[h]
def UT(m:Nat)(rs:List iV):List c5z:=(List.range m).map λ(d:Nat)=>dl (m:Int) rs (d:Int)
theorem a0a{l:c5z}(hl:l.length<=1000000):Ea l=some (OA l):=ER hl
theorem Ui(m:Nat)(f:Nat->α)(h:k<m):((List.range m).map f)[k]? =some (f k):=by rw[W9,iD h];rfl
theorem ZE(h:SmS s):zU s=some ((List.range s.2.2.2.1.length).map λ(d:Nat)=>Dk s (d:Int)):=by
 have hnr:=h.nr;have hnd:=h.nd;unfold zU;generalize hm:s.2.2.2.1.length=m at*;have hn:nD s=(m:Int):=by unfold nD x8;rw[hm]
 rw[show x8 s.2.2.2.1=(m:Int)from hn,show yu (m:Int) ([]:c5z)=some (UT m []) by unfold yu UT dl;rw[if_pos l7];simp[List.map_const'],o9];refine En s.2.2.2.2 (λ(b:List c5z) r=>l9 (inD m r.2.1) (b.set r.2.1.toNat ((b.getD r.2.1.toNat [])++KP m r)) b) (λb i=>(b,i)) (λb=>b) (λi b=>b=UT m (s.2.2.2.2.take i)) (UT m []) l7 A7 (λi r b ha hi hI=>?_) (λb hI=>?_) (λh2=>?_)
 .have hlt:=(X9.1 ha).1;obtain⟨_,h1,h2⟩:=h.ro r (vM ha);have hst:s.2.2.2.2.take (i+1)=s.2.2.2.2.take i++[r]:=by
   rw[bH hlt,(X9.1 ha).2]
  have hlb:x8 b=(m:Int):=by rw[hI];simp[x8,UT]
  obtain⟨rd,hrd⟩:∃rd:Int,r.2.1=rd:=⟨r.2.1,rfl⟩;simp only[Z8 ha,o7,U4,ha,o9,hlb,hrd];rw[gu l7,hst];by_cases hd:0<=rd/\rd<(m:Int)
  .obtain⟨d0,d1⟩:=hd;have hk:rd.toNat<m:=l7;have hkk:((rd.toNat:Nat):Int)=rd:=l7;have hg:b[rd.toNat]? =some (dl m (s.2.2.2.2.take i) rd):=by rw[hI];unfold UT;rw[Ui m _ hk,hkk]
   have hll:=a3k h m rd (s.2.2.2.2.take i) λr hr=>rQ hr;have hrl:=Zb h (vM ha) m;have htl:(s.2.2.2.2.take i).length<=96:=by simp;omega
   rw[ay d0,aA d1,show inb rd (m:Int)=true by unfold inb;simp;omega,show dm b (aJ rd)=some (dl m (s.2.2.2.2.take i) rd)from hg,QF _ h1 h2];simp only[o7,o9];rw[xu l7,show XU (aJ rd) (aJ rd)=true by simp[XU]];simp only[o7,o9];have hin:inD m rd=true:=by unfold inD;rw[ay d0,aA d1];rfl
   rw[hin,show b.getD rd.toNat []=dl m (s.2.2.2.2.take i) rd by rw[NZ,hg];rfl];refine⟨rfl,?_⟩;show b.set rd.toNat _=_;rw[hI];unfold UT;rw[a5U];apply iE;intro d hdm;rw[a5z,hrd];by_cases hq:d=rd.toNat
   .subst hq;rw[if_pos rfl,hkk,O8 rfl];rfl
   .rw[if_neg hq,O6 l7];simp
  .have hin:inD m rd=false:=by
    unfold inD;by_cases d0:0<=rd
    .rw[ay d0,U5 l7];rfl
    .rw[bW l7];rfl
   rw[hin];refine⟨?_,?_⟩
   .unfold inD at hin;cases q0:X6 0 rd
    .rfl
    .rw[q0]at hin;simp only[o7]at hin ⊢;rw[hin];rfl
   .show b=_;rw[hI];unfold UT;apply iE;intro d hdm;have:=aV.1 hdm;rw[a5z,hrd,O6 l7];simp
 .simp only[aP];rfl
 .rw[aG]at h2;rw[h2];generalize hA:UT m s.2.2.2.2=A;have hAl:x8 A=(m:Int):=by rw[←hA];simp[x8,UT]
  refine En (List.range m) (λ(b:List c5z) d=>b.set d (OA (b.getD d []))) (λb i=>(b,i)) (λb=>b) (λi b=>b=(List.range m).map λ(d:Nat)=>if d<i then OA (dl m s.2.2.2.2 (d:Int))else dl m s.2.2.2.2 (d:Int)) A F8 (by rw[←hA];unfold UT;simp) (λi d b ha hi hI=>?_) (λb hI=>?_) (λh3=>?_)
  .have hlt:=(X9.1 ha).1;simp only[V4]at hlt;have hdi:d=i:=by rw[iD hlt]at ha;exact(aZ ha).symm
   subst hdi;have hlb:x8 b=(m:Int):=by rw[hI];simp[x8]
   have hg:b[d]? =some (dl m s.2.2.2.2 (d:Int)):=by rw[hI,Ui m _ hlt,if_neg l7]
   have hll:=a3k h m d s.2.2.2.2 λr hr=>hr;simp only[hAl,hlb];rw[aA (show(d:Int)<(m:Int) by omega),show inb (d:Int) (m:Int)=true by unfold inb;simp;omega,show dm b (aJ (d:Int))=some (dl m s.2.2.2.2 (d:Int))from hg];simp only[o7,o9];rw[a0a l7,show XU (aJ (d:Int)) (aJ (d:Int))=true by simp[XU],gu l7];simp only[o7,o9];rw[show b.getD d []=dl m s.2.2.2.2 (d:Int) by rw[NZ,hg];rfl];refine⟨rfl,?_⟩;rw[hI,a5U];apply iE;intro e he;by_cases hq:e=d
   .subst hq;rw[if_pos rfl,if_pos l7]
   .rw[if_neg hq];by_cases hq2:e<d
    .rw[if_pos hq2,if_pos l7]
    .rw[if_neg hq2,if_neg l7]
  .simp only[V4,hAl,U5 (show(m:Int)<=(m:Int) by omega)];rfl
  .rw[h3];apply congrArg some;apply iE;intro d hd;have:=aV.1 hd;simp only[V4];rw[if_pos this];unfold Dk;rw[hn,show inD (m:Int) (d:Int)=true by unfold inD;rw[ay l7,aA l7];rfl];rfl
def Rch(D:Int->c5z)(d:Int)(L:c5z):Prop:=SI L/\(∀x∈D d,x∈L)/\(∀x∈L,∀y∈D x,y∈L)/\∀C:Int->Prop,(∀x∈D d,C x)->(∀x,C x->∀y∈D x,C y)->∀x∈L,C x
theorem Rch.unique{D:Int->c5z}{L M:c5z}(h:Rch D d L)(k:Rch D d M):L=M:=
 a4B h.1 k.1 λx=>⟨λhx=>h.2.2.2 (λy=>y∈M) k.2.1 k.2.2.1 x hx,λhx=>k.2.2.2 (λy=>y∈L) h.2.1 h.2.2.1 x hx⟩
theorem a0e:∀{B A:c5z},SI A->SI B->(∀x∈A,x∈B)->A=B\/A.length<B.length
 |[],A,_,_,h=>by
  cases A with
  |nil=>exact .inl rfl|cons a A=>exact absurd (h a A7) A7
 |b::B,[],_,_,_=> .inr A7|b::B,a::A,hA,hB,h=>by
  have hA' :=Y3.1 hA;have hB' :=Y3.1 hB;rcases D5.1 (h a A7)with hab|hab
  .subst hab;rcases a0e (B:=B) (A:=A) hA'.2 hB'.2 (λx hx=>by
    rcases D5.1 (h x (by simp[hx]))with h1|h1
    .have:=hA'.1 x hx;omega
    .exact h1)with h1|h1
   .exact .inl (by rw[h1])
   .exact .inr (by simp only[D7];omega)
  .have hab2:=hB'.1 a hab;rcases a0e (B:=B) (A:=a::A) hA hB'.2 (λx hx=>by
    rcases D5.1 (h x hx)with h1|h1
    .rcases D5.1 hx with h2|h2
     .omega
     .have:=hA'.1 x h2;omega
    .exact h1)with h1|h1
   .exact .inr (by rw[h1];simp)
   .exact .inr (by simp only[D7]at*;omega)
def KH(D:Int->c5z)(L:c5z):c5z:=L.foldl (λacc x=>VN (D x) acc) L
theorem GY(D:Int->c5z)(x:Int):∀(l acc:c5z),x∈l.foldl (λacc x=>VN (D x) acc) acc↔x∈acc\/∃y∈l,x∈D y
 |[],acc=>by simp|a::l,acc=>by
  rw[bY,GY D x l,Wi];constructor
  .rintro((h|h)|⟨y,hy,h⟩)
   .exact .inr ⟨a,A7,h⟩
   .exact .inl h
   .exact .inr ⟨y,by simp[hy],h⟩
  .rintro(h|⟨y,hy,h⟩)
   .exact .inl (.inr h)
   .rcases D5.1 hy with rfl|hy
    .exact .inl (.inl h)
    .exact .inr ⟨y,hy,h⟩
theorem a6d(D:Int->c5z):∀(l:c5z) {acc:c5z},SI acc->SI (l.foldl (λacc x=>VN (D x) acc) acc)
 |[],_,h=>h|a::l,_,h=>by rw[bY];exact a6d D l (X_ _ h)
theorem Ws(D:Int->c5z){L:c5z}(h:SI L):SI (KH D L):=a6d D L h
def itS(D:Int->c5z)(d:Int):Nat->c5z
 |0=>D d|k+1=>KH D (itS D d k)
section
variable {D:Int->c5z} {n:Nat} (hsi:∀x,SI (D x)) (hin:∀x,∀y∈D x,0<=y/\y<(n:Int))
include hsi hin
theorem a1j(d:Int):∀k,SI (itS D d k)
 |0=>hsi d|k+1=>Ws D (a1j d k)
theorem a9n(d:Int):∀k,∀x∈itS D d k,0<=x/\x<(n:Int)
 |0,x,hx=>hin d x hx|k+1,x,hx=>by
  rcases(GY D x _ _).1 hx with h|⟨y,_,h⟩
  .exact a9n d k x h
  .exact hin y x h
theorem a5R(d:Int)(k:Nat):KH D (itS D d k)=itS D d k\/(itS D d k).length<(KH D (itS D d k)).length:=by
 rcases a0e (a1j hsi hin d k) (Ws D (a1j hsi hin d k)) (λx hx=>(GY D x _ _).2 (.inl hx))with h|h
 .exact .inl h.symm
 .exact .inr h
theorem YK(d:Int):∀k,KH D (itS D d k)=itS D d k\/k<(KH D (itS D d k)).length
 |0=>by
  rcases a5R hsi hin d 0 with h|h
  .exact .inl h
  .exact .inr l7
 |k+1=>by
  rcases YK d k with h|h
  .exact .inl (by show KH D (KH D (itS D d k))=KH D (itS D d k);rw[h,h])
  .rcases a5R hsi hin d (k+1)with h2|h2
   .exact .inl h2
   .exact .inr (by have:(itS D d (k+1)).length=(KH D (itS D d k)).length:=rfl;omega)
theorem b6m(d:Int):Rch D d (itS D d n):=by
 have hst:KH D (itS D d n)=itS D d n:=by
  rcases YK hsi hin d n with h|h
  .exact h
  .have:=a4C n (Ws D (a1j hsi hin d n)) (a9n hsi hin d (n+1));omega
 refine⟨a1j hsi hin d n,?_,?_,?_⟩
 .intro x hx;have:∀k,x∈itS D d k:=by
   intro k;induction k with
   |zero=>exact hx|succ k ih=>exact(GY D x _ _).2 (.inl ih)
  exact this n
 .intro x hx y hy;rw[←hst];exact(GY D y _ _).2 (.inr ⟨x,hx,hy⟩)
 .intro C h1 h2;have:∀k,∀x∈itS D d k,C x:=by
   intro k;induction k with
   |zero=>exact h1|succ k ih=>
    intro x hx;rcases(GY D x _ _).1 hx with h|⟨y,hy,h⟩
    .exact ih x h
    .exact h2 y (ih y hy) x h
  exact this n
end
def Xr(s:N8)(d:Int):c5z:=itS (Dk s) d s.2.2.2.1.length
theorem Zo(s:N8)(d:Int):Rch (Dk s) d (Xr s d):=
 b6m (n:=s.2.2.2.1.length) (QI s) (λx y hy=>QH hy) d
theorem b2g(h:x∈Xr s d):0<=x/\x<nD s:=a9n (n:=s.2.2.2.1.length) (QI s) (λx y hy=>QH hy) d _ x h
theorem a3C(h:SmS s){l:c5z}(hs:SI l)(hi:∀x∈l,0<=x/\x<nD s):l.length<=14:=X7 (a4C s.2.2.2.1.length hs hi) h.nd
def mk(S:List Bool)(x:Int):Bool:=if 0<=x then S.getD x.toNat false else false
def unm(S:List Bool):Nat:=S.count false
def rG(b:List Bool×c5z)(e:Int):List Bool×c5z:=l9 (mk b.1 e) b (b.1.set e.toNat true,b.2++[e])
variable {S:List Bool}
theorem a9A(h0:0<=x)(h1:x<x8 S):S[x.toNat]? =some (mk S x):=by
 unfold mk;rw[if_pos h0,NZ];have:x.toNat<S.length:=by simp only[x8]at h1;omega
 rw[jk this];rfl
theorem a9B{e:Int}(h0:0<=e)(h1:e<x8 S)(x:Int):mk (S.set e.toNat true) x=l9 (D6 x e) true (mk S x):=by
 unfold mk;have hl:e.toNat<S.length:=by simp only[x8]at h1;omega
 by_cases hx:0<=x
 .rw[if_pos hx,if_pos hx,NZ,NZ,J7];by_cases hq:x=e
  .subst hq;rw[if_pos rfl,if_pos hl,O8 rfl];rfl
  .rw[if_neg l7,O6 hq];rfl
 .rw[if_neg hx,if_neg hx,O6 l7];rfl
theorem b4k{e:Int}(h0:0<=e)(h1:e<x8 S)(hm:mk S e=false):unm (S.set e.toNat true)+1=unm S:=by
 have hl:e.toNat<S.length:=by simp only[x8]at h1;omega
 have hg:=a9A h0 h1;rw[hm,jk hl]at hg;have hg' :S[e.toNat]=false:=aZ hg;unfold unm;rw[List.count_set hl,hg'];have:0<S.count false:=List.count_pos_iff.2 (by rw[←hg'];exact Y0 hl);simp;omega
structure RInv (n:Nat) (S:List Bool) (Q:c5z) (l:c5z) (S' :List Bool) (Q' :c5z):Prop where
 len:S'.length=n
 seen:∀x:Int,0<=x->x<(n:Int)->(mk S' x=true↔mk S x=true\/x∈l)
 sum:Q'.length+unm S' =Q.length+unm S
 le:unm S' <=unm S
 old:∀x∈Q,x∈Q'
 new:∀x∈Q',x∈Q\/x∈l
 got:∀x,mk S' x=true->mk S x=true\/x∈Q'
theorem b0E{n:Nat} :∀(l:c5z) (S:List Bool) (Q:c5z),S.length=n->(∀x∈l,0<=x/\x<(n:Int))->RInv n S Q l (l.foldl rG (S,Q)).1 (l.foldl rG (S,Q)).2
 |[],S,Q,hl,_=>⟨hl,λx _ _=>by simp,rfl,A8 _,λx hx=>hx,λx hx=> .inl hx,λx hx=> .inl hx⟩|e::l,S,Q,hl,hi=>by
  have he:=hi e A7;have hel:e<x8 S:=by simp only[x8];omega
  rw[bY];cases hm:mk S e with
  |true=>
   rw[show rG (S,Q) e=(S,Q) by unfold rG;rw[hm];rfl];have ih:=b0E l S Q hl λx hx=>hi x (by simp[hx]);refine⟨ih.len,λx h0 h1=>?_,ih.sum,ih.le,ih.old,λx hx=>?_,ih.got⟩
   .rw[ih.seen x h0 h1,D5];constructor
    .rintro(h|h)
     .exact .inl h
     .exact .inr (.inr h)
    .rintro(h|h|h)
     .exact .inl h
     .subst h;exact .inl hm
     .exact .inr h
   .rcases ih.new x hx with h|h
    .exact .inl h
    .exact .inr (by simp[h])
  |false=>
   rw[show rG (S,Q) e=(S.set e.toNat true,Q++[e]) by unfold rG;rw[hm];rfl];have ih:=b0E l (S.set e.toNat true) (Q++[e]) (by simp[hl]) λx hx=>hi x (by simp[hx]);have hu:=b4k he.1 hel hm;refine⟨ih.len,λx h0 h1=>?_,?_,?_,λx hx=>ih.old x (by simp[hx]),λx hx=>?_,λx hx=>?_⟩
   .rw[ih.seen x h0 h1,a9B he.1 hel,D5];cases hq:D6 x e
    .rw[zZ]at hq;simp[hq]
    .rw[bM]at hq;simp[hq]
   .have:=ih.sum;simp only[E8,D7,I5]at this;omega
   .have:=ih.le;omega
   .rcases ih.new x hx with h|h
    .rcases E5.1 h with h|h
     .exact .inl h
     .exact .inr (by simp at h;simp[h])
    .exact .inr (by simp[h])
   .rcases ih.got x hx with h|h
    .rw[a9B he.1 hel]at h;cases hq:D6 x e
     .rw[hq]at h;exact .inl h
     .rw[bM]at hq;subst hq;exact .inr (ih.old _ A7)
    .exact .inr h
def SC(S:List Bool):c5z:=((List.range S.length).filter λi=>S.getD i false).map λ(i:Nat)=>(i:Int)
theorem MC(x:Int):x∈SC S↔mk S x=true:=by
 unfold SC mk;rw[I8];constructor
 .rintro⟨i,hi,rfl⟩;rw[if_pos l7];exact(bZ.1 hi).2
 .intro h;split at h
  .refine⟨x.toNat,bZ.2 ⟨aV.2 ?_,h⟩,l7⟩;rw[NZ]at h;cases hg:S[x.toNat]? with
   |none=>rw[hg]at h;cases h|some b=>exact(X9.1 hg).1
  .cases h
theorem a9x(S:List Bool):SI (SC S):=by unfold SC;refine List.Pairwise.map _ (R:=(·< ·)) (λa b h=>by omega) (List.Pairwise.filter _ List.pairwise_lt_range)
theorem a3F{f:c5z×Int->Option ((c5z×Int)⊕c5z)}(S:List Bool)(hS:S.length<=100)
  (hin:∀(i:Nat) (a:Bool) (acc:c5z),S[i]? =some a->i<=1000000->acc.length<=i->f (acc,(i:Int))=l9 a (o5 (eY acc [(i:Int)]) λx=>some (.inl (x,G6 .i64 (i:Int) 1))) (some (.inl (acc,G6 .i64 (i:Int) 1))))
  (hend:∀acc,f (acc,(S.length:Int))=some (.inr acc)):aS f ([],0)=some (SC S):=by
 have mk2:∀i,i<=S.length->((List.range i).filter λi=>S.getD i false).length<=i:=λi _=>by have:=dN (λi=>S.getD i false) (List.range i);simpa using this
 obtain⟨e,h1,h2⟩:=mV (f:=f) (s:=([],0)) (λx=>∃i:Nat,x=(((List.range i).filter λi=>S.getD i false).map λ(i:Nat)=>(i:Int),(i:Int))/\i<=S.length) (λe=>e=SC S) (λx=>S.length -x.2.toNat) ⟨0,rfl,l7⟩ F8 (by
  rintro x ⟨i,rfl,hi⟩;by_cases h:i<S.length
  .have e:=jk h;have hst:(List.range (i+1)).filter (λi=>S.getD i false)=(List.range i).filter (λi=>S.getD i false)++l9 S[i] [i] []:=by
    rw[iw,List.filter_append];congr 1;rw[iJ,NZ,e];cases S[i]<;>rfl
   have hl:=mk2 i hi;refine .inl ⟨(((List.range (i+1)).filter λi=>S.getD i false).map λ(i:Nat)=>(i:Int),((i+1:Nat):Int)),?_,⟨i+1,rfl,h⟩,by simp;omega⟩;rw[hin i _ _ e l7 (by simpa using hl),gu l7,hst,bC,qm _ (by rw[J6];omega)];cases S[i]
   .simp
   .rfl
  .have:i=S.length:=l7;subst this;exact .inr ⟨_,hend _,rfl⟩)
 rw[h1,h2]
theorem a4d{D:Int->c5z}{n:Nat}(hn:n<=14)(hsi:∀x,SI (D x))(hin:∀x,∀y∈D x,0<=y/\y<(n:Int))(h0:0<=d)(h1:d<(n:Int)):
  ∃L,Dj ((List.range n).map λ(x:Nat)=>D (x:Int)) d=some L/\Rch D d L:=by
 have hA:x8 ((List.range n).map λ(x:Nat)=>D (x:Int))=(n:Int):=by simp[x8]
 have hget:∀x:Int,0<=x->x<n->U0 ((List.range n).map λ(x:Nat)=>D (x:Int)) x=some (D x):=λx a b=>by
  have:x.toNat<n:=l7;unfold U0
  rw[if_pos a,Ui n _ this,N7 a]
 unfold Dj;generalize (List.range n).map (λ(x:Nat)=>D (x:Int))=A at*;rw[hA,show yu (n:Int) false=some (List.replicate n false) by unfold yu;rw[if_pos l7];simp,o9];have hD14:∀x,(D x).length<=14:=λx=>X7 (a4C n (hsi x) (hin x)) hn;have key:=mV (f:=λ(x:List Bool×c5z)=>l9 (I7 0 (x8 x.2)) (o5 (U0 x.2 0) λ(x_1:Int)=>o5 (dm x.2 (aJ 0)) λ(x_2:Int)=>l9 (mY 1 (x8 x.2) (x8 x.2)) (o5 (U0 A x_2) λ(x_3:c5z)=>
   o5 (aS (λ(x:List Bool×c5z×Int)=>l9 (I7 x.2.2 (x8 x_3)) (o5 (U0 x_3 x.2.2) λ(x_4:Int)=>o5 (U0 x.1 x_4) λ(x_5:Bool)=>o5 (dm x.1 (aJ x_4)) λ(x_6:Bool)=>
     l9 (J8 x_6) (o5 (U0 x.1 x_4) λ(x_7:Bool)=>o5 (dm x.1 (aJ x_4)) λ(x_8:Bool)=>o5 (eY x.2.1 [x_4]) λ(x_9:c5z)=>some (.inl (dD x.1 (aJ x_4) true,x_9,G6 .i64 x.2.2 1)))
      (some (.inl (x.1,x.2.1,G6 .i64 x.2.2 1)))) (some (.inr (x.1,x.2.1)))) (x.1,lq x.2 (aJ 1) (aJ (x8 x.2)),0)) λ(y:List Bool×c5z)=>some (.inl y)) none) (some (.inr x.1)))
  (s:=(List.replicate n false,[d]))
  (λx=>x.1.length=n/\(∀q∈x.2,0<=q/\q<(n:Int))/\x.2.length+unm x.1<=n+1/\(∀q∈x.2,q=d\/mk x.1 q=true)/\(∀v,v=d\/mk x.1 v=true->v∈x.2\/∀y∈D v,mk x.1 y=true)/\
   (∀C:Int->Prop,(∀x∈D d,C x)->(∀x,C x->∀y∈D x,C y)->∀v,mk x.1 v=true->C v)/\(∀v,mk x.1 v=true->0<=v/\v<(n:Int)))
  (λS=>S.length=n/\Rch D d (SC S)) (λx=>2*unm x.1+x.2.length) ?_ ?_ ?_
 .obtain⟨S,k1,k2,k3⟩:=key;refine⟨SC S,?_,k3⟩;refine(Wx k1 _).trans ?_;rw[oU];refine a3F S l7 (λi a acc ha hi hacc=>?_) (λacc=>?_)
  .simp only[Z8 ha,o7,U4,ha,o9];rw[show dm S (aJ (i:Int))=some a from ha,o9]
  .simp only[aP];rfl
 .have hnone:∀v,mk (List.replicate n false) v=false:=λv=>by
   unfold mk;split
   .rw[NZ,List.getElem?_replicate];split<;>rfl
   .rfl
  refine⟨A7,λq hq=>by simp at hq;omega,?_,λq hq=> .inl (by simpa using hq),λv hv=>?_,λC _ _ v hv=>(by rw[hnone]at hv;cases hv),λv hv=>(by rw[hnone]at hv;cases hv)⟩
  .simp[unm,List.count_replicate];omega
  .rcases hv with rfl|hv
   .exact .inl A7
   .rw[hnone]at hv;cases hv
 .simp[unm,List.count_replicate];omega
 .rintro⟨S,Q⟩ ⟨i1,i2,i3,i4,i5,i6,i7⟩;simp only at i1 i2 i3 i4 i5 i6 i7;cases Q with
  |nil=>
   right;refine⟨S,rfl,i1,a9x S,λx hx=>?_,λx hx y hy=>?_,λC c1 c2 x hx=>i6 C c1 c2 x ((MC x).1 hx)⟩
   .rcases i5 d (.inl rfl)with h|h
    .cases h
    .exact(MC x).2 (h x hx)
   .rcases i5 x (.inr ((MC x).1 hx))with h|h
    .cases h
    .exact(MC y).2 (h y hy)
  |cons q Q=>
   left;have hq:=i2 q A7;have hfold:=b0E (n:=n) (D q) S Q i1 (λx hx=>hin q x hx);refine⟨(D q).foldl rG (S,Q),?_,?_,?_⟩
   .simp only[aA (show(0:Int)<x8 (q::Q) by simp[x8]<;>omega),o7,show U0 (q::Q) 0=some q from rfl,show dm (q::Q) (aJ 0)=some q from rfl,o9,hget q hq.1 hq.2,
     show mY 1 (x8 (q::Q)) (x8 (q::Q))=true by simp[mY,x8]<;>omega,show lq (q::Q) (aJ 1) (aJ (x8 (q::Q)))=Q by simp[lq,aJ,x8]]
    refine En (D q) rG (λb i=>(b.1,b.2,i)) (λb=>b) (λi b=>b.1.length=n/\b.2.length<=100+i) (S,Q) (by have:=hD14 q;omega) ⟨i1,by simp at i3;show Q.length<=100+0;omega⟩ (λi e b he hi hI=>?_) (λb hI=>?_) (λh2=>rfl)
    .obtain⟨S1,Q1⟩:=b;simp only at hI;have hee:=hin q e (vM he);have hlt:=(X9.1 he).1;have hdl:=hD14 q;have hg:=a9A (S:=S1) hee.1 (by simp only[x8];omega);have hla:U0 S1 e=some (mk S1 e):=by unfold U0;rw[if_pos hee.1];exact hg
     have hlg:dm S1 (aJ e)=some (mk S1 e):=hg;simp only[Z8 he,o7,U4 (D q),he,o9,hla,hlg];rw[gu l7,qm _ l7];unfold rG;simp only;cases mk S1 e
     .exact⟨rfl,by simp[hI.1],by simp<;>omega⟩
     .exact⟨rfl,hI.1,by show Q1.length<=_;omega⟩
    .simp only[aP];rfl
   .obtain⟨j1,j2,j3,j4,j5,j6,j7⟩:=hfold;generalize (D q).foldl rG (S,Q)=b at*;obtain⟨S',Q'⟩:=b;simp only at j1 j2 j3 j4 j5 j6 j7 ⊢;have hrange:∀v,mk S' v=true->0<=v/\v<(n:Int):=λv hv=>by
     rcases j7 v hv with h|h
     .exact i7 v h
     .rcases j6 v h with h|h
      .exact i2 v (by simp[h])
      .exact hin q v h
    refine⟨j1,λx hx=>?_,?_,λx hx=>?_,λv hv=>?_,λC c1 c2 v hv=>?_,hrange⟩
    .rcases j6 x hx with h|h
     .exact i2 x (by simp[h])
     .exact hin q x h
    .simp only[D7]at i3;omega
    .rcases j6 x hx with h|h
     .rcases i4 x (by simp[h])with h2|h2
      .exact .inl h2
      .have hr:=i7 x h2;exact .inr ((j2 x hr.1 hr.2).2 (.inl h2))
     .have hr:=hin q x h;exact .inr ((j2 x hr.1 hr.2).2 (.inr h))
    .have up:∀y,mk S y=true->mk S' y=true:=λy hy=>by
      have hr:=i7 y hy;exact(j2 y hr.1 hr.2).2 (.inl hy)
     by_cases hvq:v=q
     .subst hvq;right;intro y hy;have hr:=hin v y hy;exact(j2 y hr.1 hr.2).2 (.inr hy)
     .by_cases hold:v=d\/mk S v=true
      .rcases i5 v hold with h|h
       .rcases D5.1 h with h|h
        .exact absurd h hvq
        .exact .inl (j5 v h)
       .exact .inr λy hy=>up y (h y hy)
      .rcases hv with h|h
       .exact absurd (.inl h) hold
       .rcases j7 v h with h2|h2
        .exact absurd (.inr h2) hold
        .exact .inl h2
    .by_cases hS:mk S v=true
     .exact i6 C c1 c2 v hS
     .have hr:=hrange v hv;rcases(j2 v hr.1 hr.2).1 hv with h|h
      .exact absurd h hS
      .rcases i4 q A7 with h2|h2
       .subst h2;exact c1 v h
       .exact c2 q (i6 C c1 c2 q h2) v h
   .have:=hfold.sum;have:=hfold.le;simp only[D7];omega
theorem Yc(h:SmS s)(h0:0<=d)(h1:d<nD s):yS s d=some (Xr s d):=by have hn:nD s=((s.2.2.2.1.length:Nat):Int):=rfl;unfold yS;change l9 (I7 d 0) _ (l9 (X6 (nD s) d) _ _)=_;rw[U5 h0,o6,bW h1,o6,ZE h,o9,oU];obtain⟨L,k1,k2⟩:=a4d (D:=Dk s) h.nd (QI s) (λx y hy=>QH hy) h0 (show d<((s.2.2.2.1.length:Nat):Int) by omega);rw[k1,Rch.unique k2 (Zo s d)]
structure SmL (l:gz):Prop where
 few:Few l
 en:Zw l
 tb:UJ l
 sc:∀s∈l.2.2,SmS s
 fs:l.2.2.length<=100
structure SwS (s:N8):Prop where
 nm:s.1.length<=1000000
 ni:s.2.2.1.length<=100000
 nd:s.2.2.2.1.length<=100000
 nr:s.2.2.2.2.length<=100000
 fo:a0t s
 ro:∀r∈s.2.2.2.2,a2M r
structure SwL (l:gz):Prop where
 few:Few l
 en:Zw l
 tb:UJ l
 sc:∀s∈l.2.2,SwS s
variable {l:gz}
theorem SwL.scopes(h:SwL l):a0y l:=λs hs=>by have hm:=h.sc s hs;exact⟨hm.nm,hm.ni,hm.nd,hm.nr⟩
theorem SmL.w(h:SmL l):SwL l:=⟨h.few,h.en,h.tb,λs hs=>by have hm:=h.sc s hs;exact⟨hm.nm,by have:=hm.ni;omega,by have:=hm.nd;omega,by have:=hm.nr;omega,hm.fo,λr hr=>(hm.ro r hr).1⟩⟩
theorem Gy{ε ρ:Type}{p:Nat->Option ρ}(n:Nat)(hn:n<=1000000)(e:ε){f:Int->Option (Out Int ε ρ)}
  (h1:∀i,i<n->f (i:Int)=some (match p i with|some r=> .rt r|none=> .nx (G6 .i64 (i:Int) 1))) (h2:f (n:Int)=some (.ex e)):
  Y9 f 0=some (match iM n p with|some r=> .inr r|none=> .inl e):=
 KD n l7 e (λi hi=>by rw[h1 i hi,gu l7]<;>cases p i<;>rfl) h2
def Qh(l:gz)(s:N8)(k:Nat):Option (Int×Int):=match s.2.2.2.2[k]? with|some r=>TE (Hl s (wu l s) k r) (300+k:Nat)|none=>none
def b2E(s:N8)(d:Nat):Option (Int×Int):=l9 ((Xr s d).any λx=>D6 (d:Int) x) (some (9,((200+d:Nat):Int))) none
def QU(l:gz)(i:Nat)(m:Int):Bool:=l9 (D6 m (-1)) false (l9 (I7 m 0) true (l9 (X6 (i:Int) m) true (match U0 l.2.2 m with|some q=>J8 (D6 q.2.1 (-1))|none=>true)))
def WF(l:gz)(s:N8):Int×Int:=match Iq l s with
 |some r=>r
 |none=>match iM s.2.2.2.2.length (Qh l s)with
  |some r=>r
  |none=>match iM s.2.2.2.1.length (b2E s)with
   |some r=>r|none=>(0,0)
def Jf(l:gz)(i:Nat)(s:N8):Int×Int:=
 l9 (nJ s.1) (l9 (Lm l 3 i s.1) (7,0) (l9 (QU l i s.2.1) (6,0) (l9 (I7 12 (x8 s.2.2.1)) (4,112) (l9 (I7 12 (x8 s.2.2.2.1)) (4,212) (WF l s))))) (2,0)
theorem Xz{sg:V8}(h:EI e sg t=0):e.length<=50:=by
 unfold EI zf at h;cases hs:nP e with
 |inl x=>
  rw[hs]at h;simp only at h;cases hc:D6 x.2 0<;>rw[hc]at h
  .exact absurd h (zZ.1 hc)
  .exact absurd (bM.1 hc) (zH hs)
 |inr x=>have:=(uZ hs).2;omega
theorem b2B{m:Nat} :∀(D:c5z),(∀x∈D,0<=x/\x<(m:Int))->(∀d:Int,D.countP (λo=>D6 o d)<=8)->D.length<=m*8:=by
 induction m with
 |zero=>
  intro D h _;cases D with
  |nil=>simp|cons a D=>have:=h a A7;omega
 |succ m ih=>
  intro D h h8;have h1:=ih (D.filter λo=>J8 (D6 o (m:Int))) (λx hx=>by
   obtain⟨hx,hn⟩:=bZ.1 hx;have:=h x hx;have hn:x≠(m:Int):=λe=>by rw[O8 e]at hn;cases hn
   omega) (λd=>by rw[List.countP_filter];refine X7 (List.countP_mono_left λx _ hx=>?_) (h8 d);simp only[x9]at hx;exact hx.1)
  have h2:=h8 (m:Int);have h3:∀D:c5z,D.length=D.countP (λo=>D6 o (m:Int))+(D.filter λo=>J8 (D6 o (m:Int))).length:=by
   intro D;induction D with
   |nil=>rfl|cons a D ih=>rw[List.countP_cons,iJ,D7,ih];cases D6 a (m:Int)<;>simp<;>omega
  have:=h3 D;omega
theorem Xa{sg:V8}(h:Hl s sg k r=0):(∃d,U0 s.2.2.2.1 r.2.1=some d/\Ku r sg d.2=0)/\JU (s.2.2.2.2.take k) r.2.1<8:=by
 unfold Hl at h;cases g1:nJ r.1<;>rw[g1]at h
 .exact absurd (show(2:Int)=0 from h) E9
 cases g2:(s.2.2.2.2.take k).any λx=>seq x.1 r.1<;>rw[g2]at h
 case true=>exact absurd (show(7:Int)=0 from h) E9
 simp only[o7,o6]at h;cases g3:U0 s.2.2.2.1 r.2.1 with
 |none=>rw[g3]at h;exact absurd (show(6:Int)=0 from h) E9|some d=>
  rw[g3]at h;simp only at h;generalize (l9 (D6 r.2.2.1 (-1)) false (l9 (I7 r.2.2.1 0) true (l9 (X6 (k:Int) r.2.2.1) true (match U0 s.2.2.2.2 r.2.2.1 with|some q=>J8 (D6 q.2.1 r.2.1)|none=>true))))=g4 at h;cases g4
  case true=>exact absurd (show(9:Int)=0 from h) E9
  cases g5:I7 r.2.2.2.1 0<;>rw[g5]at h
  case true=>exact absurd (show(3:Int)=0 from h) E9
  cases g6:I7 9 r.2.2.2.1<;>rw[g6]at h
  case true=>exact absurd (show(3:Int)=0 from h) E9
  cases g7:Kq r.2.2.2.2.1<;>rw[g7]at h
  .exact absurd (show(3:Int)=0 from h) E9
  cases g8:D6 r.2.2.2.2.1.1 r.2.2.2.2.1.2<;>rw[g8]at h
  case true=>exact absurd (show(3:Int)=0 from h) E9
  cases g9:X6 8 (JU (s.2.2.2.2.take k) r.2.1:Int)<;>rw[g9]at h
  case true=>exact absurd (show(4:Int)=0 from h) E9
  cases g10:a8f r.2.2.2.2.2.2.2<;>rw[g10]at h
  .exact absurd (show(2:Int)=0 from h) E9
  simp only[o7,o6]at h;have:=QQ.1 g9;exact⟨⟨d,rfl,h⟩,l7⟩
theorem a7i{sg:V8}(h:Ku r sg t=0):r.2.2.2.2.2.1.length<=50/\r.2.2.2.2.2.2.1.length<=50:=by
 unfold Ku at h;cases g:I7 0 (x8 r.2.2.2.2.2.1)<;>rw[g]at h
 .have:=rP.1 g;unfold x8 at this;exact⟨l7,Xz h⟩
 .rw[o7]at h;cases g2:D6 (EI r.2.2.2.2.2.1 sg (1,0)) 0<;>rw[g2]at h
  .exact absurd h (zZ.1 g2)
  .exact⟨Xz (bM.1 g2),Xz h⟩
theorem b1h(hw:SwS s)(h1:s.2.2.1.length<=12)(h2:s.2.2.2.1.length<=12)(h:iM s.2.2.2.2.length (Qh l s)=none):SmS s:=by
 have hz:∀(k:Nat) (r:iV),s.2.2.2.2[k]? =some r->Hl s (wu l s) k r=0:=λk r hr=>by
  have:=vJ h k (X9.1 hr).1;unfold Qh at this;rw[hr]at this;unfold TE at this;simp only at this;cases g:D6 (Hl s (wu l s) k r) 0<;>rw[g]at this
  .cases this
  .exact bM.1 g
 have hk:∀k,k<=s.2.2.2.2.length->∀d:Int,((s.2.2.2.2.take k).map λ(o:iV)=>o.2.1).countP (λo=>D6 o d)<=8:=by
  intro k;induction k with
  |zero=>intro _ d;simp|succ k ih=>
   intro hk d;have e:=jk (show k<s.2.2.2.2.length by omega);have h3:=(Xa (hz k _ e)).2;unfold JU at h3;have h4:=ih l7 d;rw[bH l7,bC,List.countP_append];rw[List.countP_map]at h4 ⊢;by_cases hd:(s.2.2.2.2[k]).2.1=d
   .have e5:List.countP ((λ(o:Int)=>D6 o d)∘λ(o:iV)=>o.2.1) (s.2.2.2.2.take k)=(s.2.2.2.2.take k).countP λ(o:iV)=>D6 o.2.1 (s.2.2.2.2[k]).2.1:=by rw[hd];rfl
    have e6:List.countP (λo=>D6 o d) [(s.2.2.2.2[k]).2.1]<=1:=List.countP_le_length;simp only[aU,jD];omega
   .have e6:List.countP (λo=>D6 o d) [(s.2.2.2.2[k]).2.1]=0:=by simp[O6 hd]
    simp only[aU,jD];omega
 have h8:=hk s.2.2.2.2.length (A8 _);rw[aG]at h8;have hc:=b2B (m:=12) (s.2.2.2.2.map λ(o:iV)=>o.2.1) (λx hx=>by obtain⟨r,hr,rfl⟩:=I8.1 hx;obtain⟨k,hk,e⟩:=Y8 hr;obtain⟨⟨d,hd,-⟩,-⟩:=Xa (hz k r (by rw[jk hk,e]));obtain⟨a,b,-⟩:=fF hd;unfold x8 at b;omega) h8
 rw[J6]at hc;refine⟨hw.nm,l7,l7,l7,hw.fo,λr hr=>⟨hw.ro r hr,?_⟩⟩;obtain⟨k,hk,e⟩:=Y8 hr;obtain⟨⟨d,-,hd⟩,-⟩:=Xa (hz k r (by rw[jk hk,e]));exact a7i hd
theorem XJ(hL:SwL l)(hs:l.2.2[i]? =some s):Ad l (i:Int)=some (Jf l i s):=by
 have hi:=(X9.1 hs).1;have hS:=hL.sc s (vM hs);have hf:=hL.few;have hf1:=hf.1;have hf2:=hf.2.1;have hf3:=hf.2.2;have n1:=hS.ni;have n2:=hS.nd;have n3:=hS.nr;unfold Ad Jf Lm;rw[U4,hs,o9,zC l7,o9,NW _ l7,o9,Su _ l7,o9,a1f _ F8,o9];have hb:(l9 (l.1.any λx=>seq x.1 s.1) (some (s,true)) (l9 (l.2.1.any λx=>seq x.1 s.1) (some (s,true)) (some (s,(l.2.2.take i).any λx=>seq x.1 s.1))))=
   some (s,(l.1.any λx=>seq x.1 s.1) || (l.2.1.any λx=>seq x.1 s.1) || (l.2.2.take i).any λx=>seq x.1 s.1):=by
  cases l.1.any λx=>seq x.1 s.1
  .cases l.2.1.any λx=>seq x.1 s.1<;>rfl
  .rfl
 rw[hb,o9];simp only;rw[rX hS.nm,o9];cases nJ s.1
 .rfl
 simp only[G8,o6,o7];cases (l.1.any λx=>seq x.1 s.1) || (l.2.1.any λx=>seq x.1 s.1) || (l.2.2.take i).any λx=>seq x.1 s.1
 case true=>rfl
 simp only[o6];have hm:(l9 (J8 (D6 s.2.1 (-1))) (l9 (I7 s.2.1 0) (some true) (l9 (X6 (i:Int) s.2.1) (some true) (o5 (U0 (l.2.2.take i) s.2.1) λ(x:N8)=>some (J8 (D6 x.2.1 (-1)))))) (some false))=some (QU l i s.2.1):=by
  unfold QU;cases D6 s.2.1 (-1)
  case true=>rfl
  simp only[Y2,o7,o6];cases h0:I7 s.2.1 0
  case true=>rfl
  cases h1:X6 (i:Int) s.2.1
  case true=>rfl
  rw[rP]at h0;rw[QQ]at h1;obtain⟨q,hq,_⟩:=vP (l:=l.2.2.take i) h0 (by simp only[x8,fU];omega);have hq2:U0 l.2.2 s.2.1=some q:=by have:=(fF hq).2.2.2;unfold U0;rw[if_pos h0];exact(a2A this).2
  rw[hq,hq2];rfl
 rw[hm,o9];cases QU l i s.2.1
 case true=>rfl
 simp only[o6];cases g12:I7 12 (x8 s.2.2.1)
 case true=>rfl
 cases g13:I7 12 (x8 s.2.2.2.1)
 case true=>rfl
 have m1:s.2.2.1.length<=12:=by have:=rP.1 g12;unfold x8 at this;omega
 have m2:s.2.2.2.1.length<=12:=by have:=rP.1 g13;unfold x8 at this;omega
 simp only[o6,o9,Y4];unfold WF Iq;refine X5 (Gy (p:=inP l s) s.2.2.1.length l7 PUnit.unit (λk hk=>?_) ?_) ?_
 rotate_left 2
 .cases iM s.2.2.1.length (inP l s)
  case some r=>rfl
  simp only[o9,Y4];refine X5 (Gy (p:=a7e l s) s.2.2.2.1.length l7 PUnit.unit (λk hk=>?_) ?_) ?_
  rotate_left 2
  .cases iM s.2.2.2.1.length (a7e l s)
   case some r=>rfl
   simp only[o9,Y4];rw[Ov hL.scopes hs,o9];refine X5 (Gy (p:=Qh l s) s.2.2.2.2.length l7 PUnit.unit (λk hk=>?_) ?_) ?_
   rotate_left 2
   .cases hfr:iM s.2.2.2.2.length (Qh l s)
    case some r=>rfl
    have hS:=b1h hS m1 m2 hfr;simp only[o9,Y4];refine X5 (Gy (p:=b2E s) s.2.2.2.1.length l7 PUnit.unit (λk hk=>?_) ?_) ?_
    rotate_left 2
    .cases iM s.2.2.2.1.length (b2E s)<;>rfl
    .have e:=jk hk;simp only[Z8 e,o7];rw[Yc hS l7 (by show(k:Int)<x8 s.2.2.2.1;simp only[x8];omega),o9,a7l _ (by
      have:=a3C hS (Zo s (k:Int)).1 (λx hx=>b2g hx);omega),o9,show(200:Int)=((200:Nat):Int)from rfl,a5K l7 l7]
     unfold b2E;cases (Xr s (k:Int)).any λx=>D6 (k:Int) x<;>rfl
    .rw[aP];rfl
   .have e:=jk hk;have hr:=hS.ro _ (Y0 hk);simp only[Z8 e,o7];rw[ZJ _ e l7 hr,o9,show(300:Int)=((300:Nat):Int)from rfl,a5K l7 l7];simp only[Qh,e,TE];cases D6 (Hl s (wu l s) k s.2.2.2.2[k]) 0<;>rfl
   .rw[aP];rfl
  .have e:=jk hk;have hm:=hS.fo.2 _ (Y0 hk);simp only[Z8 e,o7,U4,e,o9];rw[zC l7,o9,Nl hm l7 F8,o9,show(200:Int)=((200:Nat):Int)from rfl,a5K l7 l7];simp only[a7e,e,TE];cases D6 (Kv l.1 s.2.2.2.1[k] s.2.2.1 (s.2.2.2.1.take k)) 0<;>rfl
  .rw[aP];rfl
 .have e:=jk hk;have hm:=hS.fo.1 _ (Y0 hk);simp only[Z8 e,o7,U4,e,o9];rw[zC l7,o9,Nl hm F8 A7,o9,show(100:Int)=((100:Nat):Int)from rfl,a5K l7 l7];simp only[inP,e,TE];cases D6 (Kv l.1 s.2.2.1[k] (s.2.2.1.take k) []) 0<;>rfl
 .rw[aP];rfl
theorem QK{c e:Int}{r:Int×Int}(h:TE c e=some r):r.1≠0:=by
 unfold TE at h;cases hc:D6 c 0<;>rw[hc]at h
 .cases h;exact zZ.1 hc
 .cases h
theorem Si{r:Int×Int}(h:Iq l s=some r):r.1≠0:=by
 unfold Iq at h;split at h
 .rename_i q hq;cases h;obtain⟨k,_,hk⟩:=qx hq;unfold inP at hk;split at hk
  .exact QK hk
  .cases hk
 .obtain⟨k,_,hk⟩:=qx h;unfold a7e at hk;split at hk
  .exact QK hk
  .cases hk
def Je(l:gz)(i:Nat):Option (Int×Int×Int×Int):=match l.2.2[i]? with|some s=>QL 3 i (Jf l i s)|none=>none
def Qm(l:gz):Int×Int×Int×Int:=l9 (I7 4 (x8 l.2.2)) (4,3,4,0) (match iM l.2.2.length (Je l)with|some r=>r|none=>(0,0,0,0))
def qG(l:gz):Int×Int×Int×Int:=l9 (D6 (FW l).1 0) (l9 (D6 (Dq l).1 0) (Qm l) (Dq l)) (FW l)
theorem Vh(hL:SwL l):yV l=some (Qm l):=by
 have hf:=hL.few.2.2;unfold yV Qm;cases I7 4 (x8 l.2.2)
 case true=>rfl
 simp only[o6];refine X5 (Kw (p:=Je l) l.2.2.length l7 _ (0,0,0,0) (λi hi=>?_) ?_) ?_
 rotate_left 2
 .cases iM l.2.2.length (Je l)<;>rfl
 .have e:=jk hi;simp only[Z8 e,o7,XJ hL e,o9,Je,e,QL];cases D6 (Jf l i l.2.2[i]).1 0<;>rfl
 .rw[aP];rfl
theorem a0k(hL:SwL l):sU l=some (qG l):=by
 unfold sU qG;rw[XI hL.few hL.en,o9];cases D6 (FW l).1 0
 .rfl
 simp only[G8,o6,o7];rw[Vj hL.few hL.tb,o9];cases D6 (Dq l).1 0
 .rfl
 simp only[G8,o6,o7];rw[Vh hL];rfl
theorem Ls(hL:SmL l):sU l=some (qG l):=a0k hL.w
theorem YA{k i:Int}{c:Int×Int}{r:Int×Int×Int×Int}(h:QL k i c=some r):r.1≠0:=by
 unfold QL at h;cases hc:D6 c.1 0<;>rw[hc]at h
 .cases h;exact zZ.1 hc
 .cases h
def b6g(r:Int×Int)(t:Int):Bool:=l9 (Kq r) (l9 (X6 r.1 t) (I7 t r.2) false) false
theorem a0Q(r:Int×Int)(t:Int):vF r t=some (b6g r t):=by
 unfold vF b6g;rw[LX,o9];cases Kq r
 .rfl
 cases X6 r.1 t<;>rfl
section
variable (on:Nat->Bool) (par:Nat->Int)
def a5u(i:Nat):Nat:=((List.range i).filter on).length
def Ep(i:Nat):Int:=if on i=true then(a5u on i:Int)else if h:0<=par i/\par i<(i:Int)then Ep (par i).toNat else -1
termination_by i
decreasing_by omega
def anc(i:Nat):Int:=if 0<=par i/\par i<(i:Int)then Ep on par (par i).toNat else -1
theorem b3a(i:Nat):Ep on par i=if on i=true then(a5u on i:Int)else anc on par i:=by
 rw[Ep];unfold anc;by_cases h:on i=true
 .rw[if_pos h,if_pos h]
 .rw[if_neg h,if_neg h];by_cases h2:0<=par i/\par i<(i:Int)
  .rw[dif_pos h2,if_pos h2]
  .rw[dif_neg h2,if_neg h2]
def onL(n:Nat):c5B:=(List.range n).filter on
theorem WA(i:Nat):onL on (i+1)=onL on i++(bif on i then[i]else[]):=by unfold onL;rw[iw,List.filter_append];rw[show List.filter on [i]=bif on i then[i]else[] by rw[iJ];cases on i<;>rfl]
theorem Uk(i:Nat):(onL on i).length<=i:=by have:=dN on (List.range i);unfold onL;simpa using this
theorem a9N{n i:Nat}(h:i∈onL on n):i<n/\on i=true:=by unfold onL at h;obtain⟨h1,h2⟩:=bZ.1 h;exact⟨aV.1 h1,h2⟩
end
def castL(l:c5B):c5z:=l.map λ(i:Nat)=>(i:Int)
theorem a7V{rs:List iV}{on:Nat->Bool}{f:c5z×c5z×c5z×Int->Option ((c5z×c5z×c5z×Int)⊕(c5z×c5z))}(hl:rs.length<=1000)
  (hin:∀(i:Nat) (r:iV) (A B C:c5z),rs[i]? =some r->f (A,B,C,(i:Int))=o5 (l9 (X6 0 r.2.2.1) (l9 (I7 r.2.2.1 (i:Int)) (o5 (U0 C r.2.2.1) λ(x_2:Int)=>o5 (dm C (aJ r.2.2.1)) λ(x:Int)=>some x) (some (-1))) (some (-1))) λ(x_2:Int)=>
   o5 (U0 C (i:Int)) λ(x_3:Int)=>o5 (dm C (aJ (i:Int))) λ(x_4:Int)=>l9 (on i) (o5 (U0 (dD C (aJ (i:Int)) x_2) (i:Int)) λ(x_6:Int)=>o5 (dm (dD C (aJ (i:Int)) x_2) (aJ (i:Int))) λ(x_7:Int)=>o5 (eY A [(i:Int)]) λ(x_8:c5z)=>o5 (eY B [x_2]) λ(x_9:c5z)=>
     some (.inl (x_8,x_9,dD (dD C (aJ (i:Int)) x_2) (aJ (i:Int)) (x8 A),G6 .i64 (i:Int) 1))) (some (.inl (A,B,dD C (aJ (i:Int)) x_2,G6 .i64 (i:Int) 1))))
  (hend:∀(A B C:c5z),f (A,B,C,(rs.length:Int))=some (.inr (A,B))):
  aS f ([],[],List.replicate rs.length 0,0)=some (castL (onL on rs.length),(onL on rs.length).map (anc on λi=>match rs[i]? with|some r=>r.2.2.1|none=>-1)):=by
 obtain⟨par,hpar⟩:∃par:Nat->Int,par=λi=>match rs[i]? with|some r=>r.2.2.1|none=>-1:=⟨_,rfl⟩
 rw[←hpar];obtain⟨e,h1,h2⟩:=mV (f:=f) (s:=([],[],List.replicate rs.length 0,0)) (λx=>∃i:Nat,x=(castL (onL on i),(onL on i).map (anc on par),pd ((List.range i).map (Ep on par)) (rs.length -i),(i:Int))/\i<=rs.length)
  (λe=>e=(castL (onL on rs.length),(onL on rs.length).map (anc on par))) (λx=>rs.length -x.2.2.2.toNat) ⟨0,by simp[onL,castL,pd],l7⟩ F8 (by
  rintro x ⟨i,rfl,hi⟩;by_cases h:i<rs.length
  .left;have e:=jk h;have hp:par i=rs[i].2.2.1:=by rw[hpar];simp only[e]
   obtain⟨p,hpp⟩:∃p:Int,p=par i:=⟨_,rfl⟩;have hp' :rs[i].2.2.1=p:=by rw[hpp,hp]
   have hlen:((List.range i).map (Ep on par)).length=i:=A7;have hol:=Uk on i;obtain⟨m,hm⟩:∃m,rs.length -i=m+1:=⟨rs.length -i -1,l7⟩;have hanc:o5 (l9 (X6 0 p) (l9 (I7 p (i:Int)) (o5 (U0 (pd ((List.range i).map (Ep on par)) (m+1)) p) λ(x_2:Int)=>o5 (dm (pd ((List.range i).map (Ep on par)) (m+1)) (aJ p)) λ(x:Int)=>some x) (some (-1))) (some (-1))) (λx=>some x)=some (anc on par i):=by
    unfold anc;rw[←hpp];by_cases h0:0<=p
    .rw[ay h0];by_cases h1:p<(i:Int)
     .have hk:p.toNat<i:=l7;have hg:(pd ((List.range i).map (Ep on par)) (m+1))[p.toNat]? =some (Ep on par p.toNat):=by
       unfold pd;rw[O7 F8,Ui _ _ hk]
      rw[aA h1,if_pos ⟨h0,h1⟩];simp only[o7];rw[show U0 (pd ((List.range i).map (Ep on par)) (m+1)) p=some (Ep on par p.toNat) by unfold U0;rw[if_pos h0];exact hg,o9,show dm (pd ((List.range i).map (Ep on par)) (m+1)) (aJ p)=some (Ep on par p.toNat)from hg];rfl
     .rw[U5 l7,if_neg l7];rfl
    .rw[bW l7,if_neg l7];rfl
   rw[oU]at hanc;refine⟨(castL (onL on (i+1)),(onL on (i+1)).map (anc on par),pd ((List.range (i+1)).map (Ep on par)) (rs.length -(i+1)),((i+1:Nat):Int)),?_,⟨i+1,rfl,h⟩,by simp;omega⟩;rw[hin i _ _ _ _ e,hm,hp',hanc,o9,gu l7,show rs.length -(i+1)=m by omega,WA,iw,bC];have q1:=a3T ((List.range i).map (Ep on par)) m;have q2:=a6i ((List.range i).map (Ep on par)) m;have q3:=b0c ((List.range i).map (Ep on par)) m (anc on par i);have q4:=MK ((List.range i).map (Ep on par)) m (anc on par i);have q5:=KN ((List.range i).map (Ep on par)) m (anc on par i);have q6:=PM ((List.range i).map (Ep on par)) m (anc on par i) (x8 (castL (onL on i)));rw[hlen]at q1 q2 q3 q4 q5 q6;rw[q1,o9,q2,o9,q3];have hna:(List.map (Ep on par) (List.range i++[i]))=(List.range i).map (Ep on par)++[if on i=true then(a5u on i:Int)else anc on par i]:=by rw[bC,List.map_singleton,b3a]
   rw[hna];cases hon:on i
   .simp[castL]
   .simp only[o7,cond_true];rw[q4,o9,q5,o9,qm _ (by simp[castL];omega),o9,qm _ F8,o9,q6];simp[castL,x8,a5u,onL]
  .right;have:i=rs.length:=l7;subst this;exact⟨_,hend _ _ _,rfl⟩)
 rw[h1,h2]
def onR(s:N8)(d t:Int)(i:Nat):Bool:=match s.2.2.2.2[i]? with|some r=>l9 (D6 r.2.1 d) (b6g r.2.2.2.2.1 t) false|none=>false
def b9u(s:N8)(i:Nat):Int:=match s.2.2.2.2[i]? with|some r=>r.2.2.1|none=>-1
def lY(s:N8)(d t:Int):c5B:=onL (onR s d t) s.2.2.2.2.length
def b0g(s:N8)(i:Nat):Int:=match s.2.2.2.2[i]? with|some r=>r.2.2.2.1|none=>0
def Hw(s:N8)(d t:Int):c5z×c5z×c5z:=(castL (lY s d t),(lY s d t).map (anc (onR s d t) (b9u s)),(lY s d t).map (b0g s))
theorem b6A(h:s.2.2.2.2[i]? =some r)(d t:Int):vH r d t=some (onR s d t i):=by unfold vH onR;rw[h,a0Q];simp only;cases D6 r.2.1 d<;>rfl
theorem O_(h:s.2.2.2.2.length<=1000)(d t:Int):uj s.2.2.2.2 (d,t)=some (castL (lY s d t),(lY s d t).map (anc (onR s d t) (b9u s))):=by
 unfold uj;rw[show yu (x8 s.2.2.2.2) (0:Int)=some (List.replicate s.2.2.2.2.length 0) by unfold yu;rw[if_pos (by simp[x8];omega)];simp[x8],o9,oU];refine a7V h (λi r A B C hr=>?_) (λA B C=>?_)
 .simp only[Z8 hr,o7,U4,hr,o9];rw[b6A hr];rfl
 .simp only[aP];rfl
theorem Rw{d t:Int}(h:i∈lY s d t):i<s.2.2.2.2.length/\onR s d t i=true:=a9N _ h
theorem a8k(h:s.2.2.2.2.length<=1000)(d t:Int):uw s d t=some (Hw s d t):=by
 have hl:=Uk (onR s d t) s.2.2.2.2.length;unfold uw;rw[O_ h,o9];refine X5 (d_ (castL (lY s d t)) (λ(k:Int)=>b0g s k.toNat) (F:=id) (by unfold castL lY;simp;omega) (λi a acc ha hacc=>?_) (λacc=>?_)) ?_
 rotate_left 2
 .rw[o9];unfold Hw castL;rw[mM];rfl
 .simp only[Z8 ha,o7,U4 (castL (lY s d t)),ha,o9];rw[show dm (castL (lY s d t)) (aJ (i:Int))=some a from ha,o9];obtain⟨k,hk,rfl⟩:∃k,k∈lY s d t/\(k:Int)=a:=by
   have:=vM ha;unfold castL at this;exact I8.1 this
  have hlt:=Rw hk;have e:=jk hlt.1;have hil:=(X9.1 ha).1;simp only[castL,J6]at hil;rw[U4,e,o9,qm _ (by unfold lY at hil;omega),o9];simp only[b0g,H6,e]
 .simp only[aP];rfl
end Go.GP
namespace Go.GP
open Gt
set_option maxRecDepth 100000
def Xt(par prio:c5z)(i:Nat):c5E:=match par[i]?,prio[i]? with
 |some p,some q=>l9 (I7 p (-1)) (some 9) (l9 (X6 (i:Int) p) (some 9) (l9 (I7 q 0) (some 3) (l9 (I7 9 q) (some 3) none)))|_,_=>none
def Tv(par prio:c5z):Int:=l9 (J8 (D6 (x8 par) (x8 prio))) 2 (l9 (I7 8 (x8 par)) 4 (match iM par.length (Xt par prio)with|some r=>r|none=>0))
theorem b2h(par prio:c5z):xy par prio=some (Tv par prio):=by
 unfold xy Tv;cases h1:D6 (x8 par) (x8 prio)
 .rfl
 simp only[G8,o6];cases h2:I7 8 (x8 par)
 case true=>rfl
 simp only[o6];have hl:par.length=prio.length:=by rw[bM]at h1;simp only[x8]at h1;omega
 refine X5 (Gy (p:=Xt par prio) par.length (by rw[rP]at h2;simp only[x8]at h2;omega) PUnit.unit (λk hk=>?_) ?_) ?_
 rotate_left 2
 .cases iM par.length (Xt par prio)<;>rfl
 .have e:=jk hk;have e2:=jk (show k<prio.length by omega);simp only[Z8 e,o7,U4,e,e2,o9,Xt];cases I7 par[k] (-1)
  case true=>rfl
  cases X6 (k:Int) par[k]
  case true=>rfl
  cases I7 prio[k] 0
  case true=>rfl
  cases I7 9 prio[k]<;>rfl
 .rw[aP];rfl
theorem Hy{par prio:c5z}(h:Tv par prio=0):par.length=prio.length/\par.length<=8/\∀(i:Nat) (p:Int),par[i]? =some p->-1<=p/\p<(i:Int):=by
 unfold Tv at h;cases h1:D6 (x8 par) (x8 prio)<;>rw[h1]at h
 .cases h
 simp only[G8,o6]at h;cases h2:I7 8 (x8 par)<;>rw[h2]at h
 case true=>cases h
 simp only[o6]at h;have hl:par.length=prio.length:=by rw[bM]at h1;simp only[x8]at h1;omega
 refine⟨hl,by rw[rP]at h2;simp only[x8]at h2;omega,λi p hp=>?_⟩;have hi:=(X9.1 hp).1;cases hf:iM par.length (Xt par prio)with
 |some r=>
  rw[hf]at h;simp only at h;obtain⟨k,hk,hr⟩:=qx hf;unfold Xt at hr;split at hr
  .subst h;rename_i a b _ _;cases c1:I7 a (-1)<;>rw[c1]at hr<;>try (cases hr;done)
   cases c2:X6 (k:Int) a<;>rw[c2]at hr<;>try (cases hr;done)
   cases c3:I7 b 0<;>rw[c3]at hr<;>try (cases hr;done)
   cases c4:I7 9 b<;>rw[c4]at hr<;>cases hr
  .cases hr
 |none=>
  have:=vJ hf i hi;unfold Xt at this;rw[hp,jk (show i<prio.length by omega)]at this;simp only at this;cases c1:I7 p (-1)<;>rw[c1]at this
  case true=>cases this
  cases c2:X6 (i:Int) p<;>rw[c2]at this
  case true=>cases this
  rw[rP]at c1;rw[QQ]at c2;exact⟨c1,c2⟩
def a1m(par:c5z)(at' :Int)(i:Nat):Bool:=match par[i]? with|some p=>D6 p at'|none=>false
def Gf(par:c5z)(at' :Int):c5B:=onL (a1m par at') par.length
variable {par:c5z}
theorem a0M(h:par.length<=1000)(at' :Int):xx par at' =some (castL (Gf par at')):=by
 unfold xx;rw[oU];obtain⟨e,h1,h2⟩:=mV (f:=λ(x:c5z×Int)=>l9 (I7 x.2 (x8 par)) (o5 (U0 par x.2) λ(x_1:Int)=>l9 (D6 x_1 at') (o5 (eY x.1 [x.2]) λ(x_2:c5z)=>some (.inl (x_2,G6 .i64 x.2 1))) (some (.inl (x.1,G6 .i64 x.2 1)))) (some (.inr x.1)))
  (s:=([],0)) (λx=>∃i:Nat,x=(castL (onL (a1m par at') i),(i:Int))/\i<=par.length) (λe=>e=castL (Gf par at')) (λx=>par.length -x.2.toNat) ⟨0,rfl,l7⟩ F8 (by
  rintro x ⟨i,rfl,hi⟩;by_cases hlt:i<par.length
  .left;have e:=jk hlt;have hol:=Uk (a1m par at') i;refine⟨(castL (onL (a1m par at') (i+1)),((i+1:Nat):Int)),?_,⟨i+1,rfl,hlt⟩,by simp;omega⟩;simp only[Z8 e,o7,U4,e,o9];rw[gu l7,qm _ (by simp[castL];omega),WA];have hon:a1m par at' i=D6 par[i] at' :=by unfold a1m;rw[e]
   rw[hon];cases D6 par[i] at'<;>simp[castL]
  .right;have:i=par.length:=l7;subst this;exact⟨_,by rw[aP];rfl,rfl⟩)
 rw[h1,h2]
theorem b2T{at' :Int}{i:Nat}(h:i∈Gf par at'):i<par.length/\par[i]? =some at' :=by obtain⟨h1,h2⟩:=a9N _ h;refine⟨h1,?_⟩;unfold a1m at h2;rw[jk h1]at h2 ⊢;simp only[bM]at h2;rw[h2]
def bG(oc pr:Int->Int)(acc:c5z)(a:Int):c5z:=l9 (D6 (oc a) (-1)) acc (match acc with
 |[]=>[a]
 |b::r=>l9 (I7 (pr b) (pr a)) [a] (l9 (D6 (pr a) (pr b)) (b::r++[a]) (b::r)))
theorem a8F(oc pr:Int->Int){acc:c5z}{a x:Int}(h:x∈bG oc pr acc a):x∈acc\/x=a:=by
 unfold bG at h;cases h1:D6 (oc a) (-1)<;>rw[h1]at h
 case true=>exact .inl h
 simp only[o6]at h;cases acc with
 |nil=>exact .inr (by simpa using h)|cons b r=>
  simp only at h;cases h2:I7 (pr b) (pr a)<;>rw[h2]at h
  .simp only[o6]at h;cases h3:D6 (pr a) (pr b)<;>rw[h3]at h
   .exact .inl h
   .simp only[o7]at h;rcases E5.1 h with h|h
    .exact .inl h
    .exact .inr (by simpa using h)
  .exact .inr (by simpa using h)
theorem b5U(oc pr:Int->Int)(acc:c5z)(a:Int):(bG oc pr acc a).length<=acc.length+1:=by
 unfold bG;cases D6 (oc a) (-1)
 case true=>simp
 simp only[o6];cases acc with
 |nil=>simp|cons b r=>
  simp only;cases I7 (pr b) (pr a)
  .cases D6 (pr a) (pr b)<;>simp
  .simp
def OV(oc pr:Int->Int)(l:c5z):c5z:=l.foldl (bG oc pr) []
theorem a0H(oc pr:Int->Int):∀(l acc:c5z) (x:Int),x∈l.foldl (bG oc pr) acc->x∈acc\/x∈l
 |[],acc,x,h=> .inl h|a::l,acc,x,h=>by
  rcases a0H oc pr l _ x h with h|h
  .rcases a8F oc pr h with h|h
   .exact .inl h
   .exact .inr (by simp[h])
  .exact .inr (by simp[h])
variable {x:Int}
theorem Yn{oc pr:Int->Int}{l:c5z}(h:x∈OV oc pr l):x∈l:=by
 rcases a0H oc pr l [] x h with h|h
 .cases h
 .exact h
theorem UW{oc oc' pr:Int->Int} :∀(l acc:c5z),(∀x∈l,oc x=oc' x)->l.foldl (bG oc pr) acc=l.foldl (bG oc' pr) acc
 |[],acc,_=>rfl|a::l,acc,h=>by rw[bY,bY,UW l _ λx hx=>h x (by simp[hx])];congr 1;unfold bG;rw[h a A7]
def chF(oc pr:Int->Int)(l:c5z):Int:=match OV oc pr l with|[]=>-1|[b]=>oc b|_=>-2
theorem Yu{oc oc' pr:Int->Int}{l:c5z}(h:∀x∈l,oc x=oc' x):chF oc pr l=chF oc' pr l:=by
 have e:OV oc pr l=OV oc' pr l:=UW l [] h;unfold chF;rw[e];cases hb:OV oc' pr l with
 |nil=>rfl|cons b r=>
  cases r with
  |nil=>exact h b (Yn (oc:=oc') (pr:=pr) (by rw[hb];simp))|cons c r=>rfl
section
variable (par prio:c5z) (ap:List Bool)
def prF(i:Int):Int:=prio.getD i.toNat 0
def apF(i:Int):Bool:=ap.getD i.toNat false
def ocF:Nat->Int->Int
 |0,_=>-1|k+1,i=>l9 (D6 (chF (ocF k) (prF prio) (castL (Gf par i))) (-1)) (l9 (apF ap i) i (-1)) (chF (ocF k) (prF prio) (castL (Gf par i)))
variable (hv:Tv par prio=0)
include hv
theorem VP{i x:Int}(h:x∈castL (Gf par i)):i<x/\x<(par.length:Int)/\0<=x:=by unfold castL at h;obtain⟨k,hk,rfl⟩:=I8.1 h;obtain⟨h1,h2⟩:=b2T hk;have:=(Hy hv).2.2 k i h2;omega
theorem YU:∀(k k' :Nat) (i:Int),(par.length:Int) -i<=k->(par.length:Int) -i<=k' ->i<par.length->ocF par prio ap k i=ocF par prio ap k' i
 |0,_,i,h,_,h2=>by omega|_+1,0,i,_,h,h2=>by omega|k+1,k' +1,i,h,h',h2=>by
  unfold ocF;have:chF (ocF par prio ap k) (prF prio) (castL (Gf par i))=chF (ocF par prio ap k') (prF prio) (castL (Gf par i)):=
   Yu λx hx=>by have:=VP par prio hv hx;exact YU k k' x l7 l7 l7
  rw[this]
end
end Go.GP
namespace Go.GP
open Gt
set_option maxRecDepth 100000
variable {i:Int}
theorem C_{prio:c5z}(h0:0<=i)(h:i<x8 prio):U0 prio i=some (prF prio i):=by obtain⟨x,hx,_⟩:=vP h0 h;rw[hx];have:=(fF hx).2.2.2;unfold prF;rw[NZ,this];rfl
theorem a6W{f:c5z×Int->Option ((c5z×Int)⊕c5z)}(oc:Int->Int)(prio:c5z)(l:c5z)(hl:l.length<=1000)(hr:∀x∈l,0<=x/\x<x8 prio)
  (hin:∀(i:Nat) (a:Int) (acc:c5z),l[i]? =some a->acc.length<=1000->(∀x∈acc,0<=x/\x<x8 prio)->0<=a->a<x8 prio->f (acc,(i:Int))=some (.inl (bG oc (prF prio) acc a,G6 .i64 (i:Int) 1)))
  (hend:∀acc,f (acc,(l.length:Int))=some (.inr acc)):aS f ([],0)=some (OV oc (prF prio) l):=by
 refine(IB l (bG oc (prF prio)) (λb i=>(b,i)) (λb=>b) (λi acc=>acc.length<=i/\∀x∈acc,0<=x/\x<x8 prio) (b:=[]) l7 ⟨A7,A7⟩ (λi a acc ha hi hI=>?_) (λacc hI=>hend acc)).1;have hlt:=(X9.1 ha).1;have ham:=hr a (vM ha);rw[hin i a acc ha l7 hI.2 ham.1 ham.2,gu l7];refine⟨rfl,by have:=b5U oc (prF prio) acc a;omega,λx hx=>?_⟩;rcases a8F _ _ hx with h|h
 .exact hI.2 x h
 .rw[h];exact ham
section
variable (par prio:c5z) (ap:List Bool) (hv:Tv par prio=0) (hap:ap.length=par.length)
def OC(i:Int):Int:=ocF par prio ap (par.length+1) i
def chS(at' :Int):Int:=chF (OC par prio ap) (prF prio) (castL (Gf par at'))
include hv in
theorem b8R(h0:-1<=i)(h:i<par.length):OC par prio ap i=l9 (D6 (chS par prio ap i) (-1)) (l9 (apF ap i) i (-1)) (chS par prio ap i):=by
 unfold OC chS;rw[ocF];have:chF (ocF par prio ap par.length) (prF prio) (castL (Gf par i))=chF (OC par prio ap) (prF prio) (castL (Gf par i)):=
  Yu λx hx=>by have:=VP par prio hv hx;exact YU par prio ap hv _ _ x l7 l7 l7
 rw[this]
include hv in
theorem a9o(i:Int):(castL (Gf par i)).length<=8:=by have h1:=Uk (a1m par i) par.length;have h2:=(Hy hv).2.1;unfold castL Gf;rw[J6];omega
include hv in
theorem a7o{i x:Int}(h:x∈castL (Gf par i)):0<=x/\x<x8 prio:=by have:=VP par prio hv h;have h2:=(Hy hv).1;simp only[x8];omega
include hv in
theorem b1W(arr:c5z)(i:Int)(hA:∀x∈castL (Gf par i),U0 arr x=some (OC par prio ap x)):vY (par,prio,arr) i=some (OV (OC par prio ap) (prF prio) (castL (Gf par i))):=by
 unfold vY;rw[a0M (by have:=(Hy hv).2.1;simp only;omega),o9,oU];refine a6W (OC par prio ap) prio _ (by have:=a9o par prio hv i;omega) (λx hx=>a7o par prio hv hx) (λk a acc ha hl hacc h0 h1=>?_) (λacc=>?_)
 .simp only[Z8 ha,o7,U4 (castL (Gf par i)),ha,o9];rw[show dm (castL (Gf par i)) (aJ (k:Int))=some a from ha,o9,hA a (vM ha),o9];unfold bG;cases D6 (OC par prio ap a) (-1)
  case true=>rfl
  simp only[o6,C_ h0 h1,o9];cases acc with
  |nil=>simp only[U5 (show x8 ([]:c5z)<=0 by simp[x8]),o6,o9,O8 (show x8 ([]:c5z)=0 from rfl),o7,qm a (show([]:c5z).length<=1000000 by simp)];rfl|cons b r=>
   have hb:=hacc b A7;simp only[aA (show(0:Int)<x8 (b::r) by simp[x8]<;>omega),o7,show U0 (b::r) 0=some b from rfl,show dm (b::r) (aJ 0)=some b from rfl,o9,C_ hb.1 hb.2];cases I7 (prF prio b) (prF prio a)
   .simp only[o6,o9,O6 (show x8 (b::r)≠0 by simp[x8]<;>omega),show U0 (b::r) 0=some b from rfl,show dm (b::r) (aJ 0)=some b from rfl,C_ hb.1 hb.2];cases D6 (prF prio a) (prF prio b)
    .rfl
    .rw[o7,o7,qm _ l7];rfl
   .simp only[o7,show mY 0 0 (x8 (b::r))=true by simp[mY,x8]<;>omega,show lq (b::r) (aJ 0) (aJ 0)=[]from rfl,o9,O8 (show x8 ([]:c5z)=0 from rfl),qm a (show([]:c5z).length<=1000000 by simp)];rfl
 .simp only[aP];rfl
include hv in
theorem a6e(arr:c5z)(i:Int)(hA:∀x∈castL (Gf par i),U0 arr x=some (OC par prio ap x)):jo (par,prio,arr) i=some (chS par prio ap i):=by
 unfold jo chS chF;rw[b1W par prio ap hv arr i hA,o9];have hsub:∀x∈OV (OC par prio ap) (prF prio) (castL (Gf par i)),U0 arr x=some (OC par prio ap x):=λx hx=>hA x (Yn hx);generalize OV (OC par prio ap) (prF prio) (castL (Gf par i))=b at*;match b,hsub with
 |[],_=>rfl|[x],hsub=>simp only[O6 (show x8 [x]≠0 by simp[x8]),O8 (show x8 [x]=1 from rfl),o6,o7,show U0 [x] 0=some x from rfl,show dm [x] (aJ 0)=some x from rfl,o9,hsub x A7]|x::y::r,_=>rw[O6 (by simp[x8];omega),O6 (by simp[x8];omega)];rfl
include hv hap in
theorem a1H:∃arr,xA par prio ap=some arr/\∀x,0<=x->x<(par.length:Int)->U0 arr x=some (OC par prio ap x):=by
 have h8:=(Hy hv).2.1;unfold xA;rw[show yu (x8 par) (0:Int)=some (List.replicate par.length 0) by unfold yu;rw[if_pos (by simp[x8];omega)];simp[x8],o9];have key:=mV (f:=λ(x:qU×Int)=>l9 (X6 0 x.2) (o5 (jo x.1 x.2) λ(x_1:Int)=>o5 (U0 x.1.2.2 x.2) λ(x_2:Int)=>o5 (dm x.1.2.2 (aJ x.2)) λ(x_3:Int)=>
   o5 (U0 (dD x.1.2.2 (aJ x.2) x_1) x.2) λ(x_4:Int)=>o5 (dm (dD x.1.2.2 (aJ x.2) x_1) (aJ x.2)) λ(x_5:Int)=>l9 (D6 x_5 (-1)) (o5 (U0 ap x.2) λ(x_6:Bool)=>l9 x_6 (o5 (U0 (dD x.1.2.2 (aJ x.2) x_1) x.2) λ(x_7:Int)=>
    o5 (dm (dD x.1.2.2 (aJ x.2) x_1) (aJ x.2)) λ(x_8:Int)=>some (.inl ((x.1.1,x.1.2.1,dD (dD x.1.2.2 (aJ x.2) x_1) (aJ x.2) x.2),Y5 .i64 x.2 1))) (some (.inl ((x.1.1,x.1.2.1,dD x.1.2.2 (aJ x.2) x_1),Y5 .i64 x.2 1))))
     (some (.inl ((x.1.1,x.1.2.1,dD x.1.2.2 (aJ x.2) x_1),Y5 .i64 x.2 1)))) (some (.inr x.1)))
  (s:=((par,prio,List.replicate par.length 0),Y5 .i64 (x8 par) 1)) (λx=>∃(arr:c5z) (i:Int),x=((par,prio,arr),i)/\-1<=i/\i<par.length/\arr.length=par.length/\∀x,i<x->x<(par.length:Int)->U0 arr x=some (OC par prio ap x))
  (λy=>∃arr:c5z,y=(par,prio,arr)/\∀x,0<=x->x<(par.length:Int)->U0 arr x=some (OC par prio ap x)) (λx=>(x.2+1).toNat) ?_ ?_ ?_
 .obtain⟨y,k1,arr,rfl,k3⟩:=key;refine⟨arr,(Wx k1 _).trans rfl,k3⟩
 .exact⟨_,_,rfl,by rw[fC (by unfold kQ x8;omega)];simp[x8];omega,by rw[fC (by unfold kQ x8;omega)];simp only[x8];omega,A7,λx h1 h2=>by rw[fC (by unfold kQ x8;omega)]at h1;simp only[x8]at h1;omega⟩
 .rw[fC (by unfold kQ x8;omega)];simp[x8];omega
 .rintro x ⟨arr,i,rfl,h1,h2,hlen,hA⟩;by_cases h0:0<=i
  .left;obtain⟨k,rfl⟩:∃k:Nat,i=(k:Int):=⟨i.toNat,l7⟩;have hk:k<arr.length:=l7;have hka:k<ap.length:=l7;have e:=jk hk;have ea:=jk hka;have hch:=a6e par prio ap hv arr (k:Int) (λx hx=>by
    have:=VP par prio hv hx;exact hA x this.1 this.2.1)
   have hs:∀v:Int,U0 (dD arr (aJ (k:Int)) v) (k:Int)=some v:=λv=>by rw[U4];show(arr.set k v)[k]? =some v;rw[List.getElem?_set_self hk]
   have hs2:∀v:Int,dm (dD arr (aJ (k:Int)) v) (aJ (k:Int))=some v:=λv=>by have:=hs v;rw[U4]at this;exact this
   have hsub:Y5 .i64 (k:Int) 1=(k:Int) -1:=fC bI;have hoc:=b8R par prio ap hv (i:=(k:Int)) l7 l7;have hapk:apF ap (k:Int)=ap[k]:=by unfold apF;rw[H6,NZ,ea];rfl
   rw[hapk]at hoc;refine⟨((par,prio,arr.set k (OC par prio ap (k:Int))),(k:Int) -1),?_,⟨_,_,rfl,l7,l7,by simp[hlen],λx hx1 hx2=>?_⟩,by simp<;>omega⟩
   .simp only[ay h0,o7,hch,o9,U4 arr,e,show dm arr (aJ (k:Int))=some arr[k]from e,hs,hs2,U4 ap,ea,hsub];rw[hoc];cases hq:D6 (chS par prio ap (k:Int)) (-1)
    .simp only[o6];rfl
    .simp only[o7];cases ap[k]
     .rw[bM.1 hq];rfl
     .simp only[o7];show some (Sum.inl ((par,prio,(arr.set k _).set k _),_))=_;rw[List.set_set]
   .unfold U0
    rw[if_pos l7];by_cases hxk:x=(k:Int)
    .rw[hxk,H6,List.getElem?_set_self hk]
    .have:=hA x l7 hx2;unfold U0 at this;rw[if_pos l7]at this;rw[J7,if_neg l7];exact this
  .right;exact⟨(par,prio,arr),by rw[bW l7];rfl,arr,rfl,λx hx1 hx2=>hA x l7 hx2⟩
end
def V_(par prio:c5z)(ap:List Bool):Int:=l9 (D6 (Tv par prio) 0) (l9 (D6 (x8 ap) (x8 par)) (chS par prio ap (-1)) (-1)) (-1)
theorem a8b(par prio:c5z)(ap:List Bool):wP par prio ap=some (V_ par prio ap):=by
 unfold wP V_;rw[b2h,o9];cases hv:D6 (Tv par prio) 0
 .rfl
 simp only[G8,o6,o7];cases hl:D6 (x8 ap) (x8 par)
 .rfl
 simp only[G8,o6,o7];have hv' :=bM.1 hv;have hl' :ap.length=par.length:=by rw[bM]at hl;simp only[x8]at hl;omega
 obtain⟨arr,h1,h2⟩:=a1H par prio ap hv' hl';rw[h1,o9,oU];exact a6e par prio ap hv' arr (-1) λx hx=>by have:=VP par prio hv' hx;exact h2 x this.2.2 this.2.1
def hw(W:c5z)(d:Int):Int:=W.getD d.toNat 0
end Go.GP
namespace Gt
open Go Go.GP
def il(y:Int):Bool:=if y % 4=0 then(if y % 100≠0 then true else decide (y % 400=0))else false
def ys(y:Int):Int:=(y -1900)*365+((y -1) / 4 -(y -1) / 100+(y -1) / 400) -460
def diy(y:Int):Int:=if il y then 366 else 365
theorem FK(y:Int):ys (y+1)=ys y+diy y:=by unfold ys diy il;by_cases h4:y % 4=0<;>by_cases h100:y % 100=0<;>by_cases h400:y % 400=0<;>simp[h4,h100,h400]<;>omega
theorem b2X(a b:Int):a<b\/b<=a:=l7
theorem Vt(y:Int):365<=diy y/\diy y<=366:=by unfold diy;split<;>omega
theorem BX{y y' :Int}(h:y<=y'):ys y<=ys y' :=by
 obtain⟨n,rfl⟩:∃n:Nat,y' =y+n:=⟨(y' -y).toNat,l7⟩;clear h;induction n with
 |zero=>simp|succ n ih=>have:=FK (y+n);have:=Vt (y+n);have e:y+((n+1:Nat):Int)=y+n+1:=l7;rw[e];omega
variable {y:Int}
theorem MW(h:1900<=y):0<=ys y:=by
 have:=BX h;have e:ys 1900=0:=by decide+kernel
 omega
theorem a8q{y y' d:Int}(h1:ys y<=d)(h2:d<ys (y+1))(h3:ys y' <=d)(h4:d<ys (y' +1)):y=y' :=by
 rcases Int.lt_trichotomy y y' with h|h|h
 .have:=BX (y:=y+1) (y' :=y') l7;omega
 .exact h
 .have:=BX (y:=y' +1) (y' :=y) l7;omega
def dim(y m:Int):Int:=
 if m=2 then(if il y then 29 else 28)else if m=4\/m=6\/m=9\/m=11 then 30 else 31
theorem NR(y m:Int):28<=dim y m/\dim y m<=31:=by
 unfold dim;repeat' split
 all_goals omega
theorem JV(h:0<=y):EP y=some (il y):=by
 unfold EP il;simp only[Ce h];by_cases h4:y % 4=0
 .rw[oC (O8 h4),if_pos h4];by_cases h100:y % 100=0
  .simp[D6,h100]
  .simp[D6,h100]
 .rw[pq (O6 h4),if_neg h4]
theorem JB(h:0<=y):IV y=some (il y):=JV h
theorem Na(h:0<=y):qR y=some (diy y):=by unfold qR diy;rw[JB h,o9];cases il y<;>rfl
variable {m:Int}
theorem m12(h:1<=m/\m<=12):m=1\/m=2\/m=3\/m=4\/m=5\/m=6\/m=7\/m=8\/m=9\/m=10\/m=11\/m=12:=l7
theorem yH(h:0<=y)(hm:1<=m/\m<=12):lM y m=some (dim y m):=by
 unfold lM;rcases m12 hm with rfl|rfl|rfl|rfl|rfl|rfl|rfl|rfl|rfl|rfl|rfl|rfl
 all_goals first|rfl|(rw[JV h];unfold dim;cases il y<;>rfl)
theorem KQ(h:0<=y)(hm:1<=m/\m<=12):pK y m=some (dim y m):=by
 unfold pK;rcases m12 hm with rfl|rfl|rfl|rfl|rfl|rfl|rfl|rfl|rfl|rfl|rfl|rfl
 all_goals first|rfl|(rw[JB h];unfold dim;cases il y<;>rfl)
theorem EQ(h:0<=y)(h2:y<=1000000):xI y=some (y / 4 -y / 100+y / 400):=by unfold xI;simp only[eP,pg h];rw[uQ bI,uQ bI,uQ bI,fC bI,eG bI]
theorem zS(h:1<=y)(h2:y<=1000000):qV y=some (ys y):=by unfold qV;have e1:Y5 .i64 y 1900=y -1900:=fC bI;have e2:Pn .i64 (y -1900) 365=(y -1900)*365:=Kz bI;rw[fC (a:=y) (b:=1) bI,EQ l7 l7,o9,EQ l7 l7,o9,e1,e2,eG bI,fC bI];unfold ys;congr 1
def mo(y:Int):Nat->Int->Int×Int
 |0,d=>(d,13)|n+1,d=>if d<dim y (12 -n)then(d,12 -n)else mo y n (d -dim y (12 -n))
theorem r_(y:Int)(n:Nat)(d:Int):mo y (n+1) d=if d<dim y (12 -(n:Int))then(d,12 -(n:Int))else mo y n (d -dim y (12 -(n:Int))):=rfl
def rem(y:Int):Nat->Int
 |0=>0|n+1=>dim y (12 -n)+rem y n
theorem a1Y(y:Int):rem y 12=diy y:=by unfold diy;cases h:il y<;>simp[rem,dim,h]
theorem a5Z(y:Int):∀(n:Nat) (d:Int),n<=12->0<=d->d<rem y n->1<=(mo y n d).2/\(mo y n d).2<=12/\0<=(mo y n d).1/\(mo y n d).1<dim y (mo y n d).2
 |0,d,_,h0,h=>by simp[rem]at h;omega|n+1,d,hn,h0,h=>by
  unfold mo;by_cases hd:d<dim y (12 -n)
  .rw[if_pos hd];refine⟨?_,?_,h0,hd⟩<;>simp<;>omega
  .rw[if_neg hd];refine a5Z y n _ l7 l7 ?_;simp only[rem]at h;omega
def yOf(d:Int):Int:=((((List.range 300).find? (λ(k:Nat)=>decide (d<ys (1900+(k:Int)+1)))).getD 0:Nat):Int)+1900
variable {d:Int}
theorem LG(h0:0<=d)(h:d<=109572):1900<=yOf d/\yOf d<=2199/\ys (yOf d)<=d/\d<ys (yOf d+1):=by
 unfold yOf;cases hf:(List.range 300).find? (λ(k:Nat)=>decide (d<ys (1900+(k:Int)+1)))with
 |none=>
  have:=List.find?_eq_none.1 hf 299 A7;simp only[decide_eq_true_eq]at this;have e:ys (1900+(299:Nat)+1)=109573:=by decide+kernel
  omega
 |some k=>
  have h1:=List.find?_some hf;simp only[decide_eq_true_eq]at h1;have h2:=List.mem_of_find?_eq_some hf;simp only[aV]at h2;simp only[dW];refine⟨l7,l7,?_,?_⟩
  .cases k with
   |zero=>
    have e:ys 1900=0:=by decide+kernel
    simp[e,h0]
   |succ j=>have h3:=List.find?_range_eq_some.1 hf;have h4:=h3.2.2 j l7;simp only[Y1,decide_eq_false_iff_not,wJ]at h4;have e:(((j+1:Nat):Int)+1900)=1900+(j:Int)+1:=l7;rw[e];exact h4
  .have e:(k:Int)+1900+1=1900+k+1:=l7;rw[e];exact h1
def ymd(d:Int):Int×Int×Int:=let y:=yOf d;let r:=mo y 12 (d -ys y);(y,r.2,r.1+1)
theorem XL(h0:0<=d)(h:d<=109572):Ii d=some (ymd d):=by
 obtain⟨y1,y2,y3,y4⟩:=LG h0 h;have y0:=MW y1;unfold Ii DZ;rw[oC (ay h0),o9,ay h,G8,o6];have e0:G6 .i64 1900 (eP .i64 d 366)=1900+d / 366:=by
  have e:eP .i64 d 366=d / 366:=by rw[Po (by rw[pg h0];unfold kQ;omega),pg h0]
  rw[e,eG bI]
 rw[e0];obtain⟨y,hy,hq⟩:=mV (f:=λ(x:Int)=>o5 (qV (G6 IntKind.i64 x 1)) λ(x_1:Int)=>l9 (X6 x_1 d) (some (Sum.inl (G6 IntKind.i64 x 1))) (some (Sum.inr x))) (s:=1900+d / 366)
  (λy=>1900<=y/\y<=yOf d) (λy=>y=yOf d) (λy=>(2200 -y).toNat) (by
   refine⟨l7,?_⟩;have e:∀n:Nat,ys (1900+n)<=366*n:=by
    intro n;induction n with
    |zero=>decide+kernel|succ n ih=>have:=FK (1900+n);have:=Vt (1900+n);have e:(1900:Int)+((n+1:Nat):Int)=1900+n+1:=l7;rw[e];omega
   have e1:=e (d / 366).toNat
   have e2:((d / 366).toNat:Int)=d / 366:=l7;rw[e2]at e1;rcases b2X (yOf d) (1900+d / 366)with hlt|hge
   .have:=BX (y:=yOf d+1) (y' :=1900+d / 366) l7;omega
   .exact hge) l7 (by
   intro y ⟨hy1,hy2⟩
   try simp only
   rw[eG bI,zS l7 l7,o9];by_cases hle:ys (y+1)<=d
   .refine .inl ⟨y+1,by rw[oC (ay hle)],⟨l7,?_⟩,l7⟩;rcases b2X (yOf d) (y+1)with hlt|hge
    .have:=BX (y:=yOf d+1) (y' :=y+1) l7;omega
    .exact hge
   .refine .inr ⟨y,by rw[pq (bW l7)],?_⟩;rcases b2X y (yOf d)with hlt|hge
    .have:=BX (y:=y+1) (y' :=yOf d) l7;omega
    .omega)
 rw[hy,o9,hq,zS l7 l7,o9,fC bI];have hs:=FK (yOf d);have hr:=a1Y (yOf d);rcases Bl (f:=λ(x:Int×Int)=>l9 (I7 x.2 12) (o5 (lM (yOf d) (G6 IntKind.i64 x.2 1)) λ(x_1:Int)=>l9 (I7 x.1 x_1) (some (Out.rt (yOf d,G6 IntKind.i64 x.2 1,G6 IntKind.i64 x.1 1))) (some (Out.nx (Y5 IntKind.i64 x.1 x_1,G6 IntKind.i64 x.2 1)))) (some (Out.ex PUnit.unit))) (s:=(d -ys (yOf d),0))
  (λs=>∃n:Nat,n<=12/\s.2=12 -n/\mo (yOf d) n s.1=mo (yOf d) 12 (d -ys (yOf d))/\0<=s.1/\s.1<rem (yOf d) n/\s.1<=400) (λ_=>False) (λr=>r=ymd d) (λs=>(12 -s.2).toNat)
  ⟨12,l7,A7,rfl,l7,by rw[hr];show d -ys (yOf d)<_;omega,by have:=Vt (yOf d);show d -ys (yOf d)<=400;omega⟩ A7 (by
   rintro⟨r,i⟩ ⟨n,hn,hi,hm,hr0,hrn,hr4⟩;simp only at hi hm hr0 hrn hr4 ⊢;cases n with
   |zero=>simp[rem]at hrn;omega|succ n=>
    have ei:i+1=12 -n:=l7;rw[oC (aA l7),eG bI,ei,yH l7 l7,o9];have hb:=NR (yOf d) (12 -n);rw[r_ (yOf d) n r]at hm;by_cases hlt:r<dim (yOf d) (12 -n)
    .rw[if_pos hlt]at hm;refine .inr (.inr ⟨_,by rw[oC (aA hlt)],?_⟩);rw[eG bI];unfold ymd
     try simp only
     rw[←hm]
    .rw[if_neg hlt]at hm;refine .inl ⟨_,by rw[pq (U5 l7),fC bI],⟨n,l7,A7,hm,?_,?_,?_⟩,?_⟩
     .simp;omega
     .simp only[rem]at hrn ⊢;omega
     .simp;omega
     .simp;omega)with⟨_,_,hf⟩|⟨r,he,hr⟩
 .exact hf.elim
 .rw[he,o9,nU,hr]
theorem WP(h0:0<=d)(h:d<=109572):KR d=some (ymd d):=by
 obtain⟨y1,y2,y3,y4⟩:=LG h0 h;have y0:=MW y1;unfold KR Ff;rw[oC (ay h0),o9,ay h,G8,o6];obtain⟨⟨r,y⟩,hy,hq⟩:=mV (f:=λ(x:Int×Int)=>o5 (qR x.2) λ(x_1:Int)=>l9 (X6 x_1 x.1) (o5 (qR x.2) λ(x_2:Int)=>some (Sum.inl (Y5 IntKind.i64 x.1 x_2,G6 IntKind.i64 x.2 1))) (some (Sum.inr x))) (s:=(d,1900))
  (λs=>1900<=s.2/\s.2<=yOf d/\s.1=d -ys s.2) (λs=>s=(d -ys (yOf d),yOf d)) (λs=>(2200 -s.2).toNat)
  ⟨A7,by simpa using y1,by(have e:ys 1900=0:=by decide+kernel);simp[e]⟩ A7 (by
   rintro⟨r,y⟩ ⟨h1,h2,h3⟩;simp only at h1 h2 h3 ⊢;have hb:=Vt y;have hs:=FK y;have hm:=BX h2;have hpos:0<=ys y:=by
     have:=BX (y:=1900) (y' :=y) h1;have e:ys 1900=0:=by decide+kernel
     omega
   rw[Na l7,o9];by_cases hle:diy y<=r
   .refine .inl ⟨(r -diy y,y+1),?_,⟨by simp;omega,?_,?_⟩,?_⟩
    .rw[oC (ay hle),o9,fC bI,eG bI]
    .simp only;rcases b2X (yOf d) (y+1)with hlt|hge
     .have:=BX (y:=yOf d+1) (y' :=y+1) l7;omega
     .exact hge
    .simp only;omega
    .simp;omega
   .refine .inr ⟨_,by rw[pq (bW l7)],?_⟩;have e:y=yOf d:=a8q (d:=d) l7 l7 y3 y4;subst e;rw[h3])
 rw[hy,o9,hq]
 try simp only
 have hs:=FK (yOf d);have hr:=a1Y (yOf d);obtain⟨⟨r,m⟩,he,hq2⟩:=mV (f:=λ(x:Int×Int)=>o5 (pK (yOf d) x.2) λ(x_1:Int)=>l9 (X6 x_1 x.1) (o5 (pK (yOf d) x.2) λ(x_2:Int)=>some (Sum.inl (Y5 IntKind.i64 x.1 x_2,G6 IntKind.i64 x.2 1))) (some (Sum.inr x))) (s:=(d -ys (yOf d),1))
  (λs=>∃n:Nat,n<=12/\s.2=13 -n/\mo (yOf d) n s.1=mo (yOf d) 12 (d -ys (yOf d))/\0<=s.1/\s.1<rem (yOf d) n/\s.1<=400) (λs=>s=mo (yOf d) 12 (d -ys (yOf d))) (λs=>(13 -s.2).toNat)
  ⟨12,l7,A7,rfl,l7,by rw[hr];show d -ys (yOf d)<_;omega,by have:=Vt (yOf d);show d -ys (yOf d)<=400;omega⟩ A7 (by
   rintro⟨r,i⟩ ⟨n,hn,hi,hm,hr0,hrn,hr4⟩;simp only at hi hm hr0 hrn hr4 ⊢;cases n with
   |zero=>simp[rem]at hrn;omega|succ n=>
    have ei:i=12 -n:=l7;subst ei;rw[KQ l7 l7,o9];have hb:=NR (yOf d) (12 -n);rw[r_ (yOf d) n r]at hm;by_cases hlt:r<dim (yOf d) (12 -n)
    .rw[if_pos hlt]at hm;exact .inr ⟨_,by rw[pq (bW l7)],hm⟩
    .rw[if_neg hlt]at hm;refine .inl ⟨(r -dim (yOf d) (12 -n),12 -n+1),by rw[oC (ay l7),o9,fC bI,eG bI],⟨n,l7,by simp;omega,hm,?_,?_,?_⟩,?_⟩
     .simp;omega
     .simp only[rem]at hrn ⊢;omega
     .simp;omega
     .simp;omega)
 rw[he,o9,hq2];have hb:=a5Z (yOf d) 12 (d -ys (yOf d)) l7 l7 (by rw[hr];omega);have hb2:=NR (yOf d) (mo (yOf d) 12 (d -ys (yOf d))).2;rw[eG bI];rfl
theorem XC(h0:0<=d)(h:d<=109572):1900<=(ymd d).1/\(ymd d).1<=2199/\1<=(ymd d).2.1/\(ymd d).2.1<=12/\1<=(ymd d).2.2/\(ymd d).2.2<=31:=by
 obtain⟨y1,y2,y3,y4⟩:=LG h0 h;have y0:=MW y1;have hs:=FK (yOf d);have hb:=a5Z (yOf d) 12 (d -ys (yOf d)) l7 l7 (by rw[a1Y];omega);have hb2:=NR (yOf d) (mo (yOf d) 12 (d -ys (yOf d))).2;unfold ymd
 try simp only
 omega
end Gt
namespace Go.GP
open Gt
set_option maxRecDepth 100000
def II(y:Int):Nat->Int
 |0=>0|k+1=>II y k+dim y ((k:Int)+1)
def b9l(y m d:Int):Int:=ys y+II y (m -1).toNat+d -1
theorem t_(y:Int):∀k:Nat,k<=12->28*k<=II y k/\II y k<=31*k
 |0,_=>by simp[II]|k+1,h=>by have:=t_ y k l7;have:=NR y ((k:Int)+1);unfold II;omega
theorem c4z{y:Int}(h:1900<=y)(h2:y<=2200):0<=ys y/\ys y<=109573:=by
 have h1:=MW h;have h3:=BX h2;have:ys 2200=109573:=by decide
 omega
theorem a3u{y m d:Int}(hy:1900<=y/\y<=2199)(hm:1<=m/\m<=12)(h1:1<=d)(h2:d<=dim y m):zQ y m d=some (b9l y m d,0):=by
 have hyb:=c4z hy.1 l7;have hdb:=NR y m;unfold zQ;rw[U5 hy.1,o6,U5 hy.2,o6,U5 hm.1,o6,U5 hm.2,o6,U5 h1,o6,yH l7 hm,o9,U5 h2,o6,o9,Y4,zS l7 l7,o9];have hs:Y5 .i64 m 1=m -1:=fC bI;obtain⟨e,k1,k2⟩:=mV (f:=λ(x:Int×Int)=>l9 (I7 x.2 (Y5 .i64 m 1)) (o5 (lM y (G6 .i64 x.2 1)) λ(x_1:Int)=>some (.inl (G6 .i64 x.1 x_1,G6 .i64 x.2 1))) (some (.inr x.1)))
  (s:=(ys y,0)) (λx=>∃i:Nat,x=(ys y+II y i,(i:Int))/\(i:Int)<=m -1) (λe=>e=ys y+II y (m -1).toNat) (λx=>(m -1 -x.2).toNat) ⟨0,by simp[II],l7⟩ F8 (by
  rintro x ⟨i,rfl,hi⟩;simp only[hs];by_cases hlt:(i:Int)<m -1
  .have hb:=t_ y i l7;have hd:=NR y ((i:Int)+1);left;refine⟨(ys y+II y (i+1),((i+1:Nat):Int)),?_,⟨i+1,rfl,l7⟩,by simp;omega⟩;rw[aA hlt,o7,gu l7,show(((i+1:Nat):Int))=(i:Int)+1 by omega,yH l7 l7,o9,eG bI];simp only[II];rw[Int.add_assoc]
  .right;have:i=(m -1).toNat:=l7;subst this;exact⟨_,by rw[U5 l7];rfl,rfl⟩)
 refine(Wx k1 _).trans ?_;have hb:=t_ y (m -1).toNat l7;rw[k2,eG bI,fC bI];rfl
def q1(q:Int)(u:Bool):Int:=l9 u (q+1) q
def sg(q:Int)(neg:Bool):Int:=l9 neg (-q) q
def b4r(r:TA):Prop:=kQ r.2.1/\kQ r.2.2.1/\kQ r.2.2.2
def b5J(t:pR):Prop:=t.2.2.2.length<=200/\∀r∈t.2.2.2,b4r r
abbrev V3:Type:=Int×Int×Int
theorem QO{α β ρ:Type}(G:β->α->β⊕ρ)(P:ρ->Prop)(hG:∀b a r,G b a= .inr r->P r):∀(l:List α) (b:β) (r:ρ),ja G l b= .inr r->P r
 |[],b,r,h=>by cases h|a::l,b,r,h=>by
  unfold ja at h;cases hg:G b a with
  |inr r' =>rw[hg]at h;simp only at h;cases h;exact hG _ _ _ hg|inl b' =>rw[hg]at h;exact QO G P hG l b' r h
theorem b5R:∀i:Fin 40,(arF ((i.1:Nat):Int)=0->i.1∈[1,2,3,4,5,6,7,8,9,35,36,37,38,39])/\(arF ((i.1:Nat):Int)=1->i.1∈[10,25,31,32,33,34])/\(arF ((i.1:Nat):Int)=2->i.1∈[11,12,13,14,15,16,17,18,19,20,21,22,23,24,27,28,29,30])/\(arF ((i.1:Nat):Int)=3->i.1=26):=by decide+kernel
variable {k:Int}
theorem b9d(h:k<1\/39<k):arF k=-1:=by
 unfold arF qL;rw[O6 (show k≠10 by omega),O6 (show k≠25 by omega),O6 (show k≠31 by omega),O6 (show k≠32 by omega),O6 (show k≠33 by omega),O6 (show k≠34 by omega),O6 (show k≠26 by omega)];rcases h with h|h
 .rw[bW (show k<1 by omega),bW (show k<35 by omega),bW (show k<11 by omega)];rfl
 .rw[ay (show 1<=k by omega),bW (show 9<k by omega),ay (show 35<=k by omega),bW (show 39<k by omega),ay (show 11<=k by omega),bW (show 30<k by omega)];rfl
theorem c4E(h:arF k≠-1):∃i:Fin 40,k=((i.1:Nat):Int):=by
 by_cases g:1<=k/\k<=39
 .exact⟨⟨k.toNat,l7⟩,by simp;omega⟩
 .exact absurd (b9d l7) h
def XT.node:XT->Int×Int
 | .l0 n=>n| .l1 n _=>n| .l2 n _ _=>n| .l3 n _ _ _=>n
def rtI(t:XT)(o:Nat):Nat:=o+t.size -1
def At(e:List (Int×Int))(S:c5z)(t:XT)(o:Nat):Prop:=∃pre suf S1 S2,e=pre++t.post++suf/\S=S1++t.sts o++S2/\pre.length=o/\S1.length=o
variable {n:Nat}
theorem YN{σ ε:Type}{f:σ->Option (σ⊕ε)}{s s' :σ}(h:f s=some (.inl s')):xg f (n+1) s=xg f n s' :=by rw[xg,h]
theorem Me{σ ε:Type}{f:σ->Option (σ⊕ε)}{s:σ}{e:ε}(h:f s=some (.inr e)):xg f (n+1) s=some e:=by rw[xg,h]
abbrev VSt:Type:=V3×List V3×Int
structure VStep (ops:c5z) (ev:Int->Option (V3×Int)) (pad:List V3->List V3) (f:VSt->Option (Out VSt (V3×List V3) (V3×Int))):Prop where
 step:∀(l:List V3) (c:Int) (r:V3×Int),ops[l.length]? =some c->ev c=some r->f ((0,0,0),pad l,(l.length:Int))=some (l9 (D6 r.2 0) (.nx ((0,0,0),pad (l++[r.1]),((l.length+1:Nat):Int))) (.rt ((0,0,0),r.2)))
 stop:∀(l:List V3),l.length=ops.length->f ((0,0,0),pad l,(l.length:Int))=some (.ex ((0,0,0),l))
section
variable {ev:Int->Option (V3×Int)} {pad:List V3->List V3} {f:VSt->Option (Out VSt (V3×List V3) (V3×Int))}
theorem v0(h:VStep [] ev pad f):Y9 f ((0,0,0),pad [],0)=some (.inl ((0,0,0),[])):=by obtain⟨k,hk⟩:∃k,aT=k+1:=⟨aT -1,by unfold aT;omega⟩;unfold Y9;rw[hk,fD,show f ((0,0,0),pad [],0)=some (.ex ((0,0,0),[]))from h.stop [] rfl]
theorem v1{c:Int}{r:V3×Int}(h:VStep [c] ev pad f)(h1:ev c=some r):Y9 f ((0,0,0),pad [],0)=some (l9 (D6 r.2 0) (.inl ((0,0,0),[r.1])) (.inr ((0,0,0),r.2))):=by
 obtain⟨k,hk⟩:∃k,aT=k+1+1:=⟨aT -2,by unfold aT;omega⟩;unfold Y9;rw[hk,fD,show f ((0,0,0),pad [],0)=_ from h.step [] c r rfl h1];cases D6 r.2 0
 .rfl
 .simp only[o7];rw[fD,show f ((0,0,0),pad ([]++[r.1]),(([].length+1:Nat):Int))=_ from h.stop [r.1] rfl]
theorem v2{c d:Int}{r q:V3×Int}(h:VStep [c,d] ev pad f)(h1:ev c=some r)(h2:ev d=some q):Y9 f ((0,0,0),pad [],0)=some (l9 (D6 r.2 0) (l9 (D6 q.2 0) (.inl ((0,0,0),[r.1,q.1])) (.inr ((0,0,0),q.2))) (.inr ((0,0,0),r.2))):=by
 obtain⟨k,hk⟩:∃k,aT=k+1+1+1:=⟨aT -3,by unfold aT;omega⟩;unfold Y9;rw[hk,fD,show f ((0,0,0),pad [],0)=_ from h.step [] c r rfl h1];cases D6 r.2 0
 .rfl
 .simp only[o7];rw[fD,show f ((0,0,0),pad ([]++[r.1]),(([].length+1:Nat):Int))=_ from h.step [r.1] d q rfl h2];cases D6 q.2 0
  .rfl
  .simp only[o7];rw[fD,show f ((0,0,0),pad ([r.1]++[q.1]),(([r.1].length+1:Nat):Int))=_ from h.stop [r.1,q.1] rfl]
end
theorem b5S(h:arF k=3):k=26:=by obtain⟨i,rfl⟩:=c4E (by rw[h];decide);rw[(b5R i).2.2.2 h];rfl
theorem a8E{e:List (Int×Int)}{t:XT}(h:nP e= .inr t):At e (t.sts 0) t 0/\e.length<=48/\e.length=t.size/\Y5 .i64 (x8 e) 1=(rtI t 0:Int):=by
 obtain⟨hp,h48⟩:=uZ h;have hsz:e.length=t.size:=by rw[hp,XT.post_len]
 have hpos:=t.size_pos;refine⟨⟨[],[],[],[],by simp[←hp],A7,rfl,rfl⟩,h48,hsz,?_⟩;rw[fC (by unfold kQ x8;omega)];unfold x8 rtI;omega
variable {l:gz}{i:Nat}{s:N8}
theorem b2l(h:(qG l).1=0)(hs:l.2.2[i]? =some s):(Jf l i s).1=0:=by
 unfold qG at h;cases h1:D6 (FW l).1 0<;>rw[h1]at h
 .simp only[o6]at h;rw[O8 h]at h1;cases h1
 cases h2:D6 (Dq l).1 0<;>rw[h2]at h
 .simp only[o7,o6]at h;rw[O8 h]at h2;cases h2
 simp only[o7]at h;unfold Qm at h;cases h3:I7 4 (x8 l.2.2)<;>rw[h3]at h
 case true=>exact absurd (show(4:Int)=0 from h) E9
 simp only[o6]at h;have hi:=(X9.1 hs).1;cases hf:iM l.2.2.length (Je l)with
 |some r=>
  rw[hf]at h;simp only at h;obtain⟨j,hj,hp⟩:=qx hf;unfold Je at hp;cases hq:l.2.2[j]? with
  |none=>rw[hq]at hp;cases hp|some q=>
   rw[hq]at hp;simp only at hp;unfold QL at hp;exact absurd h (by cases he:D6 (Jf l j q).1 0<;>rw[he]at hp<;>cases hp;simp only;intro h4;rw[O8 h4]at he;cases he)
 |none=>
  have hn:=vJ hf i hi;unfold Je at hn;rw[hs]at hn;simp only at hn;unfold QL at hn;cases he:D6 (Jf l i s).1 0<;>rw[he]at hn
  .cases hn
  exact bM.1 he
theorem Zq(h:(qG l).1=0)(hs:l.2.2[i]? =some s):QU l i s.2.1=false/\(WF l s).1=0:=by
 have he:=b2l h hs;unfold Jf at he;cases g1:nJ s.1<;>rw[g1]at he
 .exact absurd (show(2:Int)=0 from he) E9
 cases g2:Lm l 3 i s.1<;>rw[g2]at he
 case true=>exact absurd (show(7:Int)=0 from he) E9
 cases g3:QU l i s.2.1<;>rw[g3]at he
 case true=>exact absurd (show(6:Int)=0 from he) E9
 cases g4:I7 12 (x8 s.2.2.1)<;>rw[g4]at he
 case true=>exact absurd (show(4:Int)=0 from he) E9
 cases g5:I7 12 (x8 s.2.2.2.1)<;>rw[g5]at he
 case true=>exact absurd (show(4:Int)=0 from he) E9
 exact⟨rfl,he⟩
theorem ik{α:Type}{l:List α}(h:I7 (n:Int) (x8 l)=false):l.length<=n:=by rw[rP]at h;unfold x8 at h;omega
def NC(r:iV):Bool:=l9 (I7 80 (x8 r.1)) true (l9 (I7 80 (x8 r.2.2.2.2.2.2.2)) true (l9 (I7 50 (x8 r.2.2.2.2.2.1)) true (I7 50 (x8 r.2.2.2.2.2.2.1))))
def smS(s:N8):Bool:=l9 (I7 80 (x8 s.1)) false (l9 (I7 14 (x8 s.2.2.1)) false (l9 (I7 14 (x8 s.2.2.2.1)) false (l9 (I7 60 (x8 s.2.2.2.2)) false
 (l9 (s.2.2.1.any λf=>I7 80 (x8 f.1)) false (l9 (s.2.2.2.1.any λf=>I7 80 (x8 f.1)) false (J8 (s.2.2.2.2.any NC)))))))
theorem VC{fs:List mF}(h:fs.length<=1000000):Y9 (λ(x:Int)=>l9 (I7 x (x8 fs)) (o5 (U0 fs x) λ(x_1:mF)=>l9 (I7 80 (x8 x_1.1)) (some (Out.rt false)) (some (Out.nx (G6 IntKind.i64 x 1)))) (some (Out.ex PUnit.unit))) 0=some (bif fs.any (λf=>I7 80 (x8 f.1))then .inr false else .inl PUnit.unit):=by
 refine TW fs (λf=>I7 80 (x8 f.1)) false PUnit.unit h (λi a ha=>?_) ?_
 .simp only[Z8 ha,o7,U4,ha,o9];cases I7 80 (x8 a.1)<;>rfl
 .rw[aP];rfl
theorem Yb(s:N8):yZ s=some (smS s):=by
 unfold yZ smS;cases h1:I7 80 (x8 s.1)
 case true=>rfl
 cases h2:I7 14 (x8 s.2.2.1)
 case true=>rfl
 cases h3:I7 14 (x8 s.2.2.2.1)
 case true=>rfl
 cases h4:I7 60 (x8 s.2.2.2.2)
 case true=>rfl
 have l2:=ik (n:=14) h2;have l3:=ik (n:=14) h3;have l4:=ik (n:=60) h4;simp only[o6,o9,Y4];rw[VC l7,VC l7,o9];cases s.2.2.1.any λf=>I7 80 (x8 f.1)
 case true=>rfl
 simp only[cond_false,Y4,o6,o9];cases s.2.2.2.1.any λf=>I7 80 (x8 f.1)
 case true=>rfl
 simp only[cond_false,Y4,o6];refine X5 (TW s.2.2.2.2 NC false PUnit.unit l7 (λi a ha=>?_) ?_) ?_
 rotate_left 2
 .cases s.2.2.2.2.any NC<;>rfl
 .simp only[Z8 ha,o7,U4,ha,o9];unfold NC;cases I7 80 (x8 a.1)<;>cases I7 80 (x8 a.2.2.2.2.2.2.2)<;>cases I7 50 (x8 a.2.2.2.2.2.1)<;>cases I7 50 (x8 a.2.2.2.2.2.2.1)<;>rfl
 .rw[aP];rfl
def ScI(s:N8):Prop:=∀r∈s.2.2.2.2,(∀n∈r.2.2.2.2.2.1,kQ n.2)/\∀n∈r.2.2.2.2.2.2.1,kQ n.2
theorem Gq{a b:Bool}(h:l9 a false b=true):a=false/\b=true:=by cases a<;>cases b<;>first|exact⟨rfl,rfl⟩|cases h
theorem Nb{α:Type}{l:List α}{p:α->Bool}(h:l.any p=false):∀a∈l,p a=false:=by
 intro a ha;rw[iq]at h;have:=h a ha;cases hp:p a
 .rfl
 .exact absurd hp this
theorem b7o(h:smS s=true)(hI:ScI s):SmS s:=by
 unfold smS at h;obtain⟨h1,h⟩:=Gq h;obtain⟨h2,h⟩:=Gq h;obtain⟨h3,h⟩:=Gq h;obtain⟨h4,h⟩:=Gq h;obtain⟨h5,h⟩:=Gq h;obtain⟨h6,h⟩:=Gq h;have h7:s.2.2.2.2.any NC=false:=by cases hq:s.2.2.2.2.any NC<;>rw[hq]at h<;>first|rfl|cases h
 refine⟨by have:=ik (n:=80) h1;omega,ik (n:=14) h2,ik (n:=14) h3,X7 (ik (n:=60) h4) l7,⟨λf hf=>?_,λf hf=>?_⟩,λr hr=>?_⟩
 .have:=ik (n:=80) (Nb h5 f hf);omega
 .have:=ik (n:=80) (Nb h6 f hf);omega
 .have hl:=Nb h7 r hr;unfold NC at hl;cases g1:I7 80 (x8 r.1)<;>rw[g1]at hl
  case true=>cases hl
  cases g2:I7 80 (x8 r.2.2.2.2.2.2.2)<;>rw[g2]at hl
  case true=>cases hl
  cases g3:I7 50 (x8 r.2.2.2.2.2.1)<;>rw[g3]at hl
  case true=>cases hl
  have k1:=ik (n:=80) g1;have k2:=ik (n:=80) g2;exact⟨⟨l7,l7,(hI r hr).1,(hI r hr).2⟩,ik (n:=50) g3,ik (n:=50) hl⟩
def YM(e:gm):Bool:=l9 (I7 80 (x8 e.1)) true (l9 (I7 20 (x8 e.2)) true (e.2.any λm=>I7 80 (x8 m)))
def tG(b:Int)(t:pR):Int⊕Bool:=l9 (I7 80 (x8 t.1)) (.inr false) (l9 (I7 150 (G6 .i64 b (x8 t.2.2.2))) (.inr false) (.inl (G6 .i64 b (x8 t.2.2.2))))
def sG(b:Int)(s:N8):Int⊕Bool:=l9 (I7 60 (G6 .i64 b (x8 s.2.2.2.2))) (.inr false) (l9 (smS s) (.inl (G6 .i64 b (x8 s.2.2.2.2))) (.inr false))
def smL(l:gz):Bool:=l9 (I7 9 (x8 l.1)) false (l9 (I7 9 (x8 l.2.1)) false (l9 (I7 5 (x8 l.2.2)) false (l9 (l.1.any YM) false
 (match ja tG l.2.1 0 with| .inr _=>false| .inl _=>match ja sG l.2.2 0 with| .inr _=>false| .inl _=>true))))
theorem b8E:∀(b:Int) (t:pR) (r:Bool),tG b t= .inr r->r=false:=by intro b t r h;unfold tG at h;cases g0:I7 80 (x8 t.1)<;>cases g:I7 150 (G6 .i64 b (x8 t.2.2.2))<;>simp only[g0,g,o7,o6]at h<;>cases h<;>rfl
theorem b7m:∀(b:Int) (s:N8) (r:Bool),sG b s= .inr r->r=false:=by intro b s r h;unfold sG at h;cases g:I7 60 (G6 .i64 b (x8 s.2.2.2.2))<;>cases g2:smS s<;>simp only[g,g2,o7,o6]at h<;>cases h<;>rfl
theorem a2n(l:gz):BR l=some (smL l):=by
 unfold BR smL;cases h1:I7 9 (x8 l.1)
 case true=>rfl
 cases h2:I7 9 (x8 l.2.1)
 case true=>rfl
 cases h3:I7 5 (x8 l.2.2)
 case true=>rfl
 have l1:=ik (n:=9) h1;have l2:=ik (n:=9) h2;have l3:=ik (n:=5) h3;simp only[o6,o9,Y4];refine X5 (TW l.1 YM false PUnit.unit l7 (λi a ha=>?_) ?_) ?_
 .simp only[Z8 ha,o7,U4,ha,o9];unfold YM;cases I7 80 (x8 a.1)
  case true=>rfl
  cases h5:I7 20 (x8 a.2)
  case true=>rfl
  have l5:=ik (n:=20) h5;simp only[o6];refine X5 (TW a.2 (λm=>I7 80 (x8 m)) false PUnit.unit l7 (λj m hm=>?_) ?_) ?_
  .simp only[Z8 hm,o7,U4,hm,o9];cases I7 80 (x8 m)<;>rfl
  .rw[aP];rfl
  .cases a.2.any λm=>I7 80 (x8 m)<;>rfl
 .rw[aP];rfl
 cases l.1.any YM
 case true=>rfl
 simp only[cond_false,Y4,o6];apply VW l.2.1 tG (λb i=>((b,i):Int×Int)) (λ_=>PUnit.unit) (λ_ _=>True) 0 l7 trivial
 .intro i t b hi hi' _;refine⟨?_,λ_ _=>trivial⟩;simp only[Z8 hi,o7,U4,hi,o9];unfold tG;rw[gu l7];cases I7 80 (x8 t.1)<;>cases I7 150 (G6 .i64 b (x8 t.2.2.2))<;>rfl
 .intro b _;rw[aP];rfl
 .intro _;cases ht:ja tG l.2.1 0 with
  |inr r=>rw[QO tG (λr=>r=false) b8E _ _ _ ht];rfl|inl b=>
   simp only[Y4];apply VW l.2.2 sG (λb i=>((b,i):Int×Int)) (λ_=>PUnit.unit) (λ_ _=>True) 0 l7 trivial
   .intro i s b hi hi' _;refine⟨?_,λ_ _=>trivial⟩;simp only[Z8 hi,o7,U4,hi,o9,Yb];unfold sG;rw[gu l7];cases I7 60 (G6 .i64 b (x8 s.2.2.2.2))<;>cases smS s<;>rfl
   .intro b _;rw[aP];rfl
   .intro _;cases hs:ja sG l.2.2 0 with
    |inr r=>rw[QO sG (λr=>r=false) b7m _ _ _ hs];rfl|inl b=>rfl
structure WfL (l:gz):Prop where
 rl:∀t∈l.2.1,t.2.2.2.length<=4611686018427387904
 ri:∀t∈l.2.1,∀r∈t.2.2.2,b4r r
 sl:∀s∈l.2.2,s.2.2.2.2.length<=4611686018427387904
 si:∀s∈l.2.2,ScI s
theorem a4O:∀(L:List pR) (b b' :Int),0<=b->b<=150->(∀t∈L,t.2.2.2.length<=4611686018427387904)->ja tG L b= .inl b' ->∀t∈L,t.1.length<=80/\t.2.2.2.length<=150
 |[],_,_,_,_,_,_=>by simp|t::L,b,b',h0,h1,hw,h=>by
  have hwt:=hw t A7;have ha:G6 .i64 b (x8 t.2.2.2)=b+x8 t.2.2.2:=eG (by unfold kQ x8;omega);unfold ja tG at h;rw[ha]at h;cases g0:I7 80 (x8 t.1)<;>rw[g0]at h
  case true=>cases h
  cases g1:I7 150 (b+x8 t.2.2.2)<;>rw[g1]at h
  case true=>cases h
  rw[rP]at g1;intro x hx;rcases D5.1 hx with rfl|hx
  .exact⟨ik (n:=80) g0,by unfold x8 at g1;omega⟩
  .exact a4O L (b+x8 t.2.2.2) b' (by unfold x8;omega) g1 (λq hq=>hw q (by simp[hq])) h x hx
theorem a4y:∀(L:List N8) (b b' :Int),0<=b->b<=60->(∀s∈L,s.2.2.2.2.length<=4611686018427387904)->ja sG L b= .inl b' ->∀s∈L,smS s=true
 |[],_,_,_,_,_,_=>by simp|s::L,b,b',h0,h1,hw,h=>by
  have hwt:=hw s A7;have ha:G6 .i64 b (x8 s.2.2.2.2)=b+x8 s.2.2.2.2:=eG (by unfold kQ x8;omega);unfold ja sG at h;rw[ha]at h;cases g1:I7 60 (b+x8 s.2.2.2.2)<;>rw[g1]at h
  case true=>cases h
  cases g2:smS s<;>rw[g2]at h
  case false=>cases h
  rw[rP]at g1;intro x hx;rcases D5.1 hx with rfl|hx
  .exact g2
  .exact a4y L (b+x8 s.2.2.2.2) b' (by unfold x8;omega) g1 (λq hq=>hw q (by simp[hq])) h x hx
theorem Xi(h:smL l=true)(hW:WfL l):SmL l/\∀t∈l.2.1,b5J t:=by
 unfold smL at h;obtain⟨h1,h⟩:=Gq h;obtain⟨h2,h⟩:=Gq h;obtain⟨h3,h⟩:=Gq h;obtain⟨h4,h⟩:=Gq h;have l1:=ik (n:=9) h1;have l2:=ik (n:=9) h2;have l3:=ik (n:=5) h3;cases ht:ja tG l.2.1 0 with
 |inr r=>rw[ht]at h;cases h|inl b=>
  rw[ht]at h;simp only at h;cases hs:ja sG l.2.2 0 with
  |inr r=>rw[hs]at h;cases h|inl b' =>
   have T:=a4O l.2.1 0 b l7 l7 hW.rl ht;have S:=a4y l.2.2 0 b' l7 l7 hW.sl hs;refine⟨⟨⟨l7,l7,l7⟩,λe he=>?_,λt ht=>by have:=(T t ht).1;omega,λs hs=>b7o (S s hs) (hW.si s hs),l7⟩,λt ht=>⟨by have:=(T t ht).2;omega,hW.ri t ht⟩⟩;have hl:=Nb h4 e he;unfold YM at hl;cases g1:I7 80 (x8 e.1)<;>rw[g1]at hl
   case true=>cases hl
   cases g2:I7 20 (x8 e.2)<;>rw[g2]at hl
   case true=>cases hl
   have k1:=ik (n:=80) g1;exact⟨l7,λm hm=>by have:=ik (n:=80) (Nb hl m hm);omega⟩
theorem a1S:reachBytes<=4611686018427387904:=by decide
theorem c4v(h:wf c5j l):WfL l:=by
 refine⟨λt ht=>?_,λt ht r hr=>?_,λs hs=>?_,λs hs r hr=>⟨λn hn=>?_,λn hn=>?_⟩⟩
 .have:=(h.2.1.2 t ht).2.2.2.1;exact X7 this a1S
 .have:=(h.2.1.2 t ht).2.2.2.2 r hr;exact⟨XA this.2.1,XA this.2.2.1,XA this.2.2.2⟩
 .have:=(h.2.2.2 s hs).2.2.2.2.1;exact X7 this a1S
 .have:=(h.2.2.2 s hs).2.2.2.2.2 r hr;exact XA (this.2.2.2.2.2.1.2 n hn).2
 .have:=(h.2.2.2 s hs).2.2.2.2.2 r hr;exact XA (this.2.2.2.2.2.2.1.2 n hn).2
theorem IJ{sg:V8}{n:Int×Int}{ops:List (Int×Int)}{x:Int×Int}(h:Et sg n ops i= .inl x):x.2≠0:=by
 unfold Et at h;split at h
 .cases h
 .rename_i h0;cases h;exact h0
theorem BJ{sg:V8} :∀(t:XT) (o:Nat) {x:Int×Int},mg sg t o= .inl x->x.2≠0
 | .l0 n,o,x,h=>IJ h| .l1 n a,o,x,h=>by
  unfold mg at h;cases ha:mg sg a o with
  |inl e=>rw[ha]at h;cases h;exact BJ a o ha|inr ta=>rw[ha]at h;exact IJ h
 | .l2 n a b,o,x,h=>by
  unfold mg at h;cases ha:mg sg a o with
  |inl e=>rw[ha]at h;cases h;exact BJ a o ha|inr ta=>
   rw[ha]at h;simp only at h;cases hb:mg sg b (o+a.size)with
   |inl e=>rw[hb]at h;cases h;exact BJ b _ hb|inr tb=>rw[hb]at h;exact IJ h
 | .l3 n a b c,o,x,h=>by
  unfold mg at h;cases ha:mg sg a o with
  |inl e=>rw[ha]at h;cases h;exact BJ a o ha|inr ta=>
   rw[ha]at h;simp only at h;cases hb:mg sg b (o+a.size)with
   |inl e=>rw[hb]at h;cases h;exact BJ b _ hb|inr tb=>
    rw[hb]at h;simp only at h;cases hc:mg sg c (o+a.size+b.size)with
    |inl e=>rw[hc]at h;cases h;exact BJ c _ hc|inr tc=>rw[hc]at h;exact IJ h
theorem OL(h:(qG l).1=0)(hs:l.2.2[i]? =some s){k:Nat}{r:iV}(hr:s.2.2.2.2[k]? =some r):Hl s (wu l s) k r=0:=by
 have hp:=(Zq h hs).2;unfold WF at hp;cases h1:Iq l s with
 |some q=>rw[h1]at hp;exact absurd hp (Si h1)|none=>
  rw[h1]at hp;simp only at hp;cases h2:iM s.2.2.2.2.length (Qh l s)with
  |some q=>
   rw[h2]at hp;obtain⟨j,hj,hq⟩:=qx h2;unfold Qh at hq;cases h3:s.2.2.2.2[j]? with
   |none=>rw[h3]at hq;cases hq|some q2=>rw[h3]at hq;exact absurd hp (QK hq)
  |none=>
   have hn:=vJ h2 k (X9.1 hr).1;unfold Qh at hn;rw[hr]at hn;simp only at hn;unfold TE at hn;cases he:D6 (Hl s (wu l s) k r) 0<;>rw[he]at hn
   .cases hn
   .exact bM.1 he
end Go.GP
namespace Gt
open Go Go.GP
variable {n:Int}
theorem b2R(h:kQ n):Gl n=some (Lib.itoa n):=by unfold Gl;rw[if_pos (show -9223372036854775808<=n/\n<=9223372036854775807 from h)]
theorem Zg{s:c5y}{c:Nat}(h:c<=1000000)(hs:s.length<=1000000):vg s (c:Int)=some (Lib.repeatL s c):=by
 unfold vg
 have:s.length*c<=1000000*1000000:=Nat.mul_le_mul hs h;rw[if_pos ⟨l7,l7,by rw[H6];omega⟩,H6]
theorem c1s(x:UInt8)(c:Nat):Lib.repeatL [x] c=List.replicate c x:=by have:=Lib.repeatL_replicate x 1 c;simpa using this
theorem a2G{d:Int}(h0:0<=d)(h:d<10):Qp (wrap .u8 (G6 .u64 48 d))=UInt8.ofNat (48+d.toNat):=by
 rw[a1h (by unfold U64;omega)];have e:wrap .u8 (48+d)=((48+d.toNat:Nat):Int):=by unfold wrap IntKind.wrap;simp[IntKind.signed,IntKind.bits];omega
 rw[e];unfold Qp;rw[H6]
theorem b4v(n:Int):JG [n]=[Qp n]:=rfl
theorem a0T:∀(k u:Nat),u<k->u<18446744073709551616->yw k (u:Int)=some (Lib.decDigits u)
 |0,u,h,_=>by omega|k+1,u,h,hu=>by
  show Am (yw k) (u:Int)=_;unfold Am;by_cases h10:u<10
  .try simp only[b4v]
   rw[oC (aA l7),a2G l7 l7,Lib.decDigits,dif_pos h10,H6]
  .have e1:(u:Int).tdiv 10=((u / 10:Nat):Int):=by rw[pg l7];omega
   have e2:jB (u:Int) 10=((u % 10:Nat):Int):=by rw[Ce l7];omega
   try simp only[b4v]
   rw[pq (U5 l7),a9l (by rw[e1];unfold U64;omega)];rw[e1,a0T k (u / 10) l7 l7,o9,e2,a2G l7 l7,P6,o9,H6]
   .congr 1
    conv=>rhs;rw[Lib.decDigits,dif_neg h10]
   .have:=Lib.nDigits_le20 (u / 10) l7;rw[Lib.decDigits_length];simp;omega
theorem Jz(h:U64 n):IR n=some (Lib.decDigits n.toNat):=by unfold U64 at h;have:=a0T aT n.toNat (by unfold aT;omega) l7;rw[N7 h.1]at this;exact this
theorem Pq(h:kQ n):(Lib.itoa n).length<=21:=Lib.itoa_length_le n h.1 h.2
variable {u:Nat}
theorem tK(h:u<18446744073709551616):1<=(Lib.decDigits u).length/\(Lib.decDigits u).length<=20:=by rw[Lib.decDigits_length];exact⟨Lib.nDigits_pos u,Lib.nDigits_le20 u h⟩
theorem vW(h:kQ n):sJ n=some (Lib.itoa n):=by
 unfold kQ at h;unfold sJ Lib.itoa;by_cases hn:n<0
 .rw[oC (aA hn),if_pos hn,eG bI,fC bI];rw[show wrap .u64 (0 -(n+1))=0 -(n+1)from LD (by unfold U64;omega),a1h (by unfold U64;omega),Jz (by unfold U64;omega),o9];have e:(0 -(n+1)+1).toNat=n.natAbs:=l7;rw[e,P6,o9]
  .rfl
  .have:=(tK (u:=n.natAbs) l7).2;simp;omega
 .rw[pq (U5 l7),if_neg hn,show wrap .u64 n=n from LD (by unfold U64;omega),Jz (by unfold U64;omega),o9]
theorem oQ(h:kQ n):pJ n=some (Lib.itoa n):=by unfold pJ;rw[b2R h];rfl
def wZ(u k:Nat):c5y:=
 let d:=List.replicate (k+1 -(Lib.decDigits u).length) 48++Lib.decDigits u
 d.take (d.length -k)++46::d.drop (d.length -k)
def Ky(n:Int)(k:Nat):c5y:=if n<0 then 45::wZ n.natAbs k else wZ n.natAbs k
variable {k:Nat}
theorem a3s(hu:u<18446744073709551616)(hk:k<=9):(wZ u k).length<=31:=by have:=tK hu;unfold wZ;simp;omega
theorem LY(h:kQ n)(hk:k<=9):(Ky n k).length<=32:=by unfold kQ at h;have:=a3s (u:=n.natAbs) (k:=k) l7 hk;unfold Ky;split<;>simp<;>omega
variable {d:c5y}
theorem a8S(h1:k<d.length)(h2:d.length<=100):
  gJ d 0 (Y5 .i64 (x8 d) (k:Int))=some (d.take (d.length -k))/\gJ d (Y5 .i64 (x8 d) (k:Int)) (x8 d)=some (d.drop (d.length -k)):=by
 have e:Y5 .i64 (x8 d) (k:Int)=((d.length -k:Nat):Int):=by rw[fC (by unfold kQ x8;omega)];unfold x8;omega
 rw[e];exact⟨by rw[BQ l7 l7];simp,by rw[qQ l7 l7];simp⟩
theorem a6H{d p:c5y}(h1:k<d.length)(h2:d.length<=100)(hp:p.length<=100):
  (o5 (gJ d 0 (Y5 .i64 (x8 d) (k:Int))) λx=>o5 (aO p x) λy=>o5 (aO y [46]) λz=>o5 (gJ d (Y5 .i64 (x8 d) (k:Int)) (x8 d)) λt=>o5 (aO z t) λx=>some x)
   =some (p++(d.take (d.length -k)++46::d.drop (d.length -k))):=by
 obtain⟨c1,c2⟩:=a8S h1 h2;rw[c1,o9,P6 F8,o9,P6 F8,o9,c2,o9,P6 F8,o9];simp
theorem ku(h:kQ n)(hk:1<=k/\k<=9):eH n (k:Int)=some (Ky n k):=by
 have hI:=h;unfold kQ at h;have ek:CW 0 (EJ (k:Int) 9)=(k:Int):=by unfold CW EJ;split<;>split<;>omega
 unfold eH nC;rw[o9,ek,oQ hI,o9,pq (O6 l7)];have hd:=tK (u:=n.natAbs) l7;have rest:∀(d p:c5y),1<=d.length->d.length<=20->p.length<=1->
   l9 (X6 (x8 d) (k:Int))
    (o5 (vg [48] (Y5 .i64 (G6 .i64 (k:Int) 1) (x8 d))) λx3=>o5 (aO x3 d) λx4=>o5 (gJ x4 0 (Y5 .i64 (x8 x4) (k:Int))) λx5=>o5 (aO p x5) λx6=>o5 (aO x6 [46]) λx7=>
     o5 (gJ x4 (Y5 .i64 (x8 x4) (k:Int)) (x8 x4)) λx=>o5 (aO x7 x) λx=>some x)
    (o5 (gJ d 0 (Y5 .i64 (x8 d) (k:Int))) λx=>o5 (aO p x) λy=>o5 (aO y [46]) λz=>o5 (gJ d (Y5 .i64 (x8 d) (k:Int)) (x8 d)) λt=>o5 (aO z t) λx=>some x)
   =some (p++(let e:=List.replicate (k+1 -d.length) 48++d;e.take (e.length -k)++46::e.drop (e.length -k))):=by
  intro d p h1 h2 h3;by_cases hle:d.length<=k
  .rw[oC (ay (by unfold x8;omega))];have e:Y5 .i64 (G6 .i64 (k:Int) 1) (x8 d)=((k+1 -d.length:Nat):Int):=by
    rw[eG bI,fC (by unfold kQ x8;omega)];unfold x8;omega
   rw[e,Zg l7 A7,c1s,o9,P6 F8,o9];exact a6H F8 F8 l7
  .rw[pq (bW (by unfold x8;omega)),a6H l7 l7 l7];have:k+1 -d.length=0:=l7;rw[this];simp
 unfold Lib.itoa Ky wZ;by_cases hn:n<0
 .rw[if_pos hn,if_pos hn,oC (aA hn)];have e:gJ (45::Lib.decDigits n.natAbs) 1 (x8 (45::Lib.decDigits n.natAbs))=some (Lib.decDigits n.natAbs):=by
   rw[qQ l7 F8];simp
  rw[e,o9];exact rest (Lib.decDigits n.natAbs) [45] hd.1 hd.2 A7
 .rw[if_neg hn,if_neg hn,pq (U5 l7)];have e:n.toNat=n.natAbs:=l7;rw[e];exact rest (Lib.decDigits n.natAbs) [] hd.1 hd.2 A7
theorem b2y :∀(h:d=Lib.decDigits u),∀c∈d,48<=c.toNat/\c.toNat<=57:=by intro h c hc;subst h;rw[Lib.decDigits_eq]at hc;obtain⟨t,_,rfl⟩:=I8.1 hc;unfold Lib.dg;have:u / 10^(Lib.nDigits u -1 -t) % 10<10:=Nat.mod_lt _ l7;generalize u / 10^(Lib.nDigits u -1 -t) % 10=r at this;simp;omega
theorem JX{c:UInt8}(hc:c∈Lib.decDigits u):48<=c.toNat/\c.toNat<=57:=b2y rfl c hc
theorem WN(h:∀c∈d,48<=c.toNat/\c.toNat<=57)(h1:1<=d.length):Ey d=some (d,false):=by
 unfold Ey;rw[oC (aA (by unfold x8;omega))];match d,h1 with
 |c::r,_=>have e:sat (c::r) 0=some (c.toNat:Int):=rfl;have:=h c A7;rw[e,o9,pq (O6 l7)]
theorem WO :Ey (45::d)=some (d,true):=by unfold Ey;rw[oC (aA (by unfold x8;simp))];have e:sat (45::d) 0=some (45:Int):=rfl;rw[e,o9,oC (O8 rfl),qQ l7 F8,o9];simp
theorem b3r(hk:k<=100)(hd:d.length<=100):
  aS (λ(x_3:c5y)=>l9 (X6 (x8 x_3) (k:Int)) (o5 (aO [48] x_3) λ(x:c5y)=>some (Sum.inl x)) (some (Sum.inr x_3))) d=some (List.replicate (k+1 -d.length) 48++d):=by
 obtain⟨e,h1,h2⟩:=mV (f:=λ(x_3:c5y)=>l9 (X6 (x8 x_3) (k:Int)) (o5 (aO [48] x_3) λ(x:c5y)=>some (Sum.inl x)) (some (Sum.inr x_3))) (s:=d)
  (λs=>s.length<=102/\List.replicate (k+1 -s.length) 48++s=List.replicate (k+1 -d.length) 48++d) (λe=>e=List.replicate (k+1 -d.length) 48++d) (λs=>k+1 -s.length) ⟨l7,rfl⟩ l7 (by
   intro s ⟨hs,he⟩;by_cases hle:s.length<=k
   .refine .inl ⟨48::s,?_,⟨by simp;omega,?_⟩,by simp;omega⟩
    .rw[oC (ay (by unfold x8;omega)),P6 F8];rfl
    .rw[←he];have e1:k+1 -s.length=(k+1 -(48::s).length)+1:=by simp;omega
     rw[e1,rU];simp
   .refine .inr ⟨s,?_,?_⟩
    .rw[pq (bW (by unfold x8;omega))]
    .rw[←he,show k+1 -s.length=0 by omega];simp)
 rw[h1,h2]
theorem sZ(h:kQ n)(hk:1<=k/\k<=9):kS n (k:Int)=some (Ky n k):=by
 have hI:=h;unfold kQ at h;have ek:EJ (CW (k:Int) 0) 9=(k:Int):=by unfold CW EJ;split<;>split<;>omega
 unfold kS Tc;have hd:=tK (u:=n.natAbs) l7;rw[o9,ek,pq (O6 l7),vW hI,o9];have rest:∀(d:c5y) (b:Bool),1<=d.length->d.length<=20->
   (o5 (aS (λ(x_3:c5y)=>l9 (X6 (x8 x_3) (k:Int)) (o5 (aO [48] x_3) λ(x:c5y)=>some (Sum.inl x)) (some (Sum.inr x_3))) (d,b).1) λ(y:c5y)=>
    o5 (gJ y 0 (Y5 .i64 (x8 y) (k:Int))) λ(x_3:c5y)=>o5 (aO x_3 [46]) λ(x_4:c5y)=>o5 (gJ y (Y5 .i64 (x8 y) (k:Int)) (x8 y)) λ(x:c5y)=>
     o5 (aO x_4 x) λ(x:c5y)=>l9 (d,b).2 (o5 (aO [45] x) λ(x:c5y)=>some x) (some x))
   =some ((if b then[45]else[])++(let e:=List.replicate (k+1 -d.length) 48++d;e.take (e.length -k)++46::e.drop (e.length -k))):=by
  intro d b h1 h2;rw[b3r (d:=d) l7 l7,o9];generalize he:List.replicate (k+1 -d.length) 48++d=e;have hl:k<e.length/\e.length<=40:=by subst he;simp;omega
  obtain⟨c1,c2⟩:=a8S hl.1 l7;rw[c1,o9,P6 F8,o9,c2,o9,P6 F8,o9];cases b
  .simp
  .show o5 (aO [45] _) _=_;rw[P6 F8,o9];simp
 unfold Lib.itoa Ky wZ;by_cases hn:n<0
 .rw[if_pos hn,if_pos hn,WO,o9];exact rest (Lib.decDigits n.natAbs) true hd.1 hd.2
 .rw[if_neg hn,if_neg hn];have e:n.toNat=n.natAbs:=l7;rw[e,WN (λc hc=>JX hc) hd.1,o9];exact rest (Lib.decDigits n.natAbs) false hd.1 hd.2
def Ha(n:Int)(w:Nat):c5y:=List.replicate (w -(Lib.itoa n).length) 48++Lib.itoa n
variable {w:Nat}
theorem Aj(h:kQ n)(hw:w<=4):(Ha n w).length<=25:=by have:=Pq h;unfold Ha;simp;omega
theorem JW(h:kQ n)(hw:w<=4):DY n (w:Int)=some (Ha n w):=by
 have hl:=Pq h;unfold DY;rw[oQ h,o9];have e:CW 0 (Y5 .i64 (w:Int) (x8 (Lib.itoa n)))=((w -(Lib.itoa n).length:Nat):Int):=by rw[fC (by unfold kQ x8;omega)];unfold CW x8;split<;>omega
 rw[e,Zg l7 A7,c1s,o9,P6 F8,o9];rfl
theorem IW(h:kQ n)(hw:w<=4):DD n (w:Int)=some (Ha n w):=by
 have hl:=Pq h;unfold DD;rw[vW h,o9];show _=some (List.replicate (w -(Lib.itoa n).length) 48++Lib.itoa n);generalize Lib.itoa n=d at hl ⊢;obtain⟨e,h1,h2⟩:=mV (f:=λ(x:c5y)=>l9 (I7 (x8 x) (w:Int)) (o5 (aO [48] x) λ(x:c5y)=>some (Sum.inl x)) (some (Sum.inr x))) (s:=d)
  (λs=>s.length<=30/\List.replicate (w -s.length) 48++s=List.replicate (w -d.length) 48++d) (λe=>e=List.replicate (w -d.length) 48++d) (λs=>w -s.length) ⟨l7,rfl⟩ l7 (by
   intro s ⟨hs,he⟩;by_cases hle:s.length<w
   .refine .inl ⟨48::s,?_,⟨by simp;omega,?_⟩,by simp;omega⟩
    .rw[oC (aA (by unfold x8;omega)),P6 F8];rfl
    .rw[←he];have e1:w -s.length=(w -(48::s).length)+1:=by simp;omega
     rw[e1,rU];simp
   .refine .inr ⟨s,?_,?_⟩
    .rw[pq (U5 (by unfold x8;omega))]
    .rw[←he,show w -s.length=0 by omega];simp)
 rw[h1,o9,h2]
def nR(d:Int):c5y:=if 0<=d/\d<=109572 then Ha (ymd d).1 4++45::Ha (ymd d).2.1 2++45::Ha (ymd d).2.2 2 else[]
theorem b4G{a b c:c5y}(ha:a.length<=100)(hb:b.length<=100)(hc:c.length<=100){A C B:Option c5y}(eb:B=some b)(ec:C=some c):
  (o5 (aO a [45]) λx2=>o5 B λx3=>o5 (aO x2 x3) λx4=>o5 (aO x4 [45]) λx5=>o5 C λx=>o5 (aO x5 x) λx=>some x)=some (a++45::b++45::c):=by
 rw[P6 F8,o9,eb,o9,P6 F8,o9,P6 F8,o9,ec,o9,P6 F8,o9];simp
theorem yl(h1:-1000000<=n)(h2:n<=1000000):kQ n:=by unfold kQ;omega
theorem DX(d:Int):EO d=some (nR d):=by
 unfold EO DZ nR;by_cases h0:0<=d
 .rw[oC (ay h0),o9];by_cases h:d<=109572
  .rw[ay h,G8,o6,XL h0 h,o9,if_pos ⟨h0,h⟩];have hb:=XC h0 h;have p1:=yl (n:=(ymd d).1) l7 l7;have p2:=yl (n:=(ymd d).2.1) l7 l7;have p3:=yl (n:=(ymd d).2.2) l7 l7;rw[show DY (ymd d).1 4=_ from JW (w:=4) p1 l7,o9];have l1:=Aj (w:=4) p1 l7;have l2:=Aj (w:=2) p2 l7;have l3:=Aj (w:=2) p3 l7;exact b4G (A:=none) l7 l7 l7 (JW (w:=2) p2 l7) (JW (w:=2) p3 l7)
  .rw[bW l7,Y2,o7,if_neg l7]
 .rw[pq (bW l7),o9,Y2,o7,if_neg l7]
theorem JA(d:Int):IU d=some (nR d):=by
 unfold IU Ff nR;by_cases h0:0<=d
 .rw[oC (ay h0),o9];by_cases h:d<=109572
  .rw[ay h,G8,o6,WP h0 h,o9,if_pos ⟨h0,h⟩];have hb:=XC h0 h;have p1:=yl (n:=(ymd d).1) l7 l7;have p2:=yl (n:=(ymd d).2.1) l7 l7;have p3:=yl (n:=(ymd d).2.2) l7 l7;rw[show DD (ymd d).1 4=_ from IW (w:=4) p1 l7,o9];have l1:=Aj (w:=4) p1 l7;have l2:=Aj (w:=2) p2 l7;have l3:=Aj (w:=2) p3 l7;exact b4G (A:=none) l7 l7 l7 (IW (w:=2) p2 l7) (IW (w:=2) p3 l7)
  .rw[bW l7,Y2,o7,if_neg l7]
 .rw[pq (bW l7),o9,Y2,o7,if_neg l7]
theorem ZR(d:Int):(nR d).length<=100:=by
 unfold nR;split
 .rename_i h;have hb:=XC h.1 h.2;have l1:=Aj (w:=4) (yl (n:=(ymd d).1) l7 l7) l7;have l2:=Aj (w:=2) (yl (n:=(ymd d).2.1) l7 l7) l7;have l3:=Aj (w:=2) (yl (n:=(ymd d).2.2) l7 l7) l7;simp;omega
 .simp
theorem wC(t:Int×Int)(en:List gm):dH t en=bF t en:=by
 unfold dH bF;by_cases h1:t.1=1
 .simp[D6,h1,X6]
 by_cases h2:t.1=2
 .simp[D6,h2,X6]
 by_cases h3:t.1=3
 .simp[D6,h3,X6]
 by_cases h4:t.1=4
 .simp[D6,h4,X6]
 by_cases h5:t.1=5
 .simp[D6,h5,X6]
 by_cases h6:t.1=6
 .simp[D6,h6,X6]
 .simp only[D6,h1,h2,h3,h4,h5,h6,decide_false,o6,o9];by_cases h7:1<=t.1
  .rw[oC (ay h7),pq (bW l7)]
  .rw[pq (bW l7)]
theorem LQ(t:Int×Int)(en:List gm):ng t en=fZ t en:=by unfold ng fZ;rw[wC]
theorem a8p(n:Int)(t:Int×Int)(en:List gm):tu n t en=PS n t en:=by unfold tu PS;rw[LQ]
theorem zg{v:FO}(en:List gm)(h:kQ v.2.2):ny v en=Ap v en:=by
 unfold ny Ap zn;rw[o9,wC];cases hv:bF (v.1,v.2.1) en with
 |none=>rfl|some b=>
  rw[o9,o9];cases b with
  |false=>rfl|true=>
   rw[G8,o6,o6];have e:Fg v en=tu v.2.2 (v.1,v.2.1) en:=by unfold Fg zn;rw[o9,hv,o9,o7,o9,oU,a8p]
   rw[e,oQ h,vW h,show eH v.2.2 2=_ from ku (k:=2) h l7,show kS v.2.2 2=_ from sZ (k:=2) h l7,
    show eH v.2.2 4=_ from ku (k:=4) h l7,show kS v.2.2 4=_ from sZ (k:=4) h l7,DX,JA]
theorem JD{B:Nat}(hB:100<=B)(hB2:B<=200000000000000){v:Int×Int×Int}{en:List gm}(h:kQ v.2.2)(hm:∀e∈en,e.2.length<=B/\∀m∈e.2,m.length<=B):∃t,ny v en=some t/\t.1.length<=B:=by
 unfold ny
 cases hv:dH (v.1,v.2.1) en with
 |none=>
  exfalso;rw[wC]at hv;unfold bF at hv;simp only[wF]at hv
  repeat' split at hv
  all_goals cases hv
 |some b=>
  rw[o9];cases b with
  |false=>exact⟨_,rfl,A7⟩|true=>
   rw[G8,o6];unfold tu ng;rw[hv];simp only[o9,G8,o6];have f1:=Pq h;have f2:=LY (k:=2) h l7;have f4:=LY (k:=4) h l7;have f5:=ZR v.2.2;rw[oQ h,show eH v.2.2 2=_ from ku (k:=2) h l7,show eH v.2.2 4=_ from ku (k:=4) h l7,DX];simp only[o9];rw[P6 (a:=Ky v.2.2 4) F8];simp only[o9];by_cases h1:v.1=1
   .simp only[O8 h1,o7,o9];simp only[bb,o9];simp only[wF];repeat' split
    all_goals exact⟨_,rfl,by first|omega|(simp<;>omega)⟩
   by_cases h2:v.1=2
   .simp only[O6 h1,O8 h2,o7,o6,o9];simp only[bb,o9];simp only[wF];repeat' split
    all_goals exact⟨_,rfl,by first|omega|(simp<;>omega)⟩
   by_cases h3:v.1=3
   .simp only[O6 h1,O6 h2,O8 h3,o7,o6,o9];simp only[bb,o9];simp only[wF];repeat' split
    all_goals exact⟨_,rfl,by first|omega|(simp<;>omega)⟩
   by_cases h4:v.1=4
   .simp only[O6 h1,O6 h2,O6 h3,O8 h4,o7,o6,o9];simp only[bb,o9];simp only[wF];repeat' split
    all_goals exact⟨_,rfl,by first|omega|(simp<;>omega)⟩
   by_cases h5:v.1=5
   .simp only[O6 h1,O6 h2,O6 h3,O6 h4,O8 h5,o7,o6,o9];simp only[bb,o9];simp only[wF];repeat' split
    all_goals exact⟨_,rfl,by first|omega|(simp<;>omega)⟩
   .simp only[O6 h1,O6 h2,O6 h3,O6 h4,O6 h5,o6];have hk:v.1=6/\0<=v.2.1/\v.2.1<x8 en:=by
     unfold dH at hv;simp only[O6 h1,O6 h2,O6 h3,O6 h4,O6 h5,o6,o9]at hv;simp only[wF,bM,qB]at hv;split at hv
     .split at hv
      .simp only[F7,vK]at hv;exact⟨by assumption,by assumption,hv⟩
      .cases hv
     .cases hv
    obtain⟨e,he,hmem⟩:=vP hk.2.1 hk.2.2;rw[he];simp only[o9];have hle:=(hm e hmem).1;have hll:x8 e.2=(e.2.length:Int):=rfl;rw[fC bI];by_cases hw0:0<=v.2.2
    .by_cases hw1:v.2.2<=x8 e.2 -1
     .rw[ay hw0,o7,ay hw1,o9,G8,o6];obtain⟨m,hm1,hm2⟩:=vP (l:=e.2) hw0 l7;rw[hm1];exact⟨_,rfl,(hm e hmem).2 m hm2⟩
     .rw[ay hw0,o7,bW (sF.1 hw1),o9,Y2,o7];exact⟨_,rfl,A7⟩
    .rw[bW (sF.1 hw0),o6];exact⟨_,rfl,A7⟩
end Gt
namespace Go.GP
open Gt
theorem a2Q:zA=some true:=by decide+kernel
theorem XN(l:List mF):uC l=oq l:=by unfold uC oq;rfl
theorem a2Z{α:Type}{l:List α}(h:l.length<=1000000):um l=some l:=by unfold um;rw[xu F8,H9]
theorem Xm{l:gz}(hc:xQ l.1=some l.1)(k:Int):sH l k=xw l k:=by unfold sH xw;simp only[hc,XN];rfl
end Go.GP
namespace Go.GP
open Gt
set_option maxRecDepth 100000
def gtN(l:List c5y)(i:Int):c5y:=(U0 l i).getD []
def eQ(k:Int):c5y:=(EC k).getD []
def lF(k:Int):c5y:=(gZ k).getD []
def kP(k:Int):c5y×Int:=(oH k).getD ([],0)
def Bq(k:Int):Bool:=l9 (D6 k 2) true (l9 (D6 k 3) true (D6 k 4))
variable {b:Bool}
theorem b5W{x y:Option c5y}(hx:∃s,x=some s/\s.length<=10)(hy:∃s,y=some s/\s.length<=10):∃s,l9 b x y=some s/\s.length<=10:=by cases b<;>assumption
theorem a6L(k:Int):∃s,EC k=some s/\s.length<=10:=by
 unfold EC
 repeat (refine b5W ⟨_,rfl,E9⟩ ?_)
 exact⟨_,rfl,E9⟩
theorem b8N(k:Int):EC k=some (eQ k):=by obtain⟨s,h,-⟩:=a6L k;unfold eQ;rw[h];rfl
theorem uU(k:Int):iW k=some (eQ k):=(show iW k=EC k from rfl).trans (b8N k)
theorem SE(k:Int):gZ k=some (lF k):=by
 unfold lF;have:∃s,gZ k=some s:=by
  unfold gZ;simp only[wF];repeat' split
  all_goals exact⟨_,rfl⟩
 obtain⟨s,h⟩:=this;rw[h];rfl
theorem b8D(k:Int):oH k=some (kP k):=by
 unfold kP;have:∃s,oH k=some s:=by
  unfold oH;simp only[wF];repeat' split
  all_goals exact⟨_,rfl⟩
 obtain⟨s,h⟩:=this;rw[h];rfl
theorem b3W(k:Int):jA k=some (kP k):=(show jA k=oH k from rfl).trans (b8D k)
theorem yf(k:Int):(eQ k).length<=10:=by obtain⟨s,h,h2⟩:=a6L k;unfold eQ;rw[h];exact h2
theorem Px(k:Int):(lF k).length<=10:=by
 unfold lF gZ;simp only[wF];repeat' split
 all_goals simp
theorem a6G(k:Int):(kP k).1.length<=10:=by
 unfold kP oH;simp only[wF];repeat' split
 all_goals simp
structure NmOk (N:D9):Prop where
 e:∀e∈N.1,e.1.length<=1000/\∀m∈e.2,m.length<=1000
 t:∀s∈N.2.1,s.length<=1000
 i:∀s∈N.2.2.1,s.length<=1000
 d:∀s∈N.2.2.2.1,s.length<=1000
 m:∀s∈N.2.2.2.2,s.length<=1000
abbrev Tx:Type:=c5y×Int
def wiS(p:Tx)(c:Int):c5y:=l9 (I7 p.2 c) ([40]++p.1++[41]) p.1
def wK(n:Int×Int)(N:D9):Tx:=
 l9 (X6 n.1 5) (((Ap (n.1,0,n.2) []).getD ([],0)).1,l9 (I7 n.2 0) 6 7)
 (l9 (D6 n.1 6) (((U0 N.1 (eP .i64 n.2 16)).getD ([],[])).1++[58]++gtN ((U0 N.1 (eP .i64 n.2 16)).getD ([],[])).2 (jB n.2 16),7)
 (l9 (D6 n.1 7) (gtN N.2.2.1 n.2,7)
 (l9 (D6 n.1 8) (gtN N.2.2.2.1 n.2,7)
 (l9 (D6 n.1 9) ([116,111,100,97,121],7)
 (l9 (D6 n.1 35) ([99,111,117,110,116,40,41],7) (eQ n.1++[40]++gtN N.2.2.2.2 n.2++[41],7))))))
def Oi(n:Int×Int)(N:D9)(num:Bool)(a:Tx):Tx:=
 l9 (D6 n.1 33) (eQ n.1++[40]++gtN N.2.1 n.2++[44,32]++a.1++[41],7)
 (l9 (D6 n.1 34) (eQ n.1++[40]++gtN N.2.1 (eP .i64 n.2 8)++[44,32]++a.1++[44,32]++lF (jB n.2 8)++[41],7)
 (l9 (D6 n.1 25) ([110,111,116,32]++wiS a 6,6)
 (l9 (D6 n.1 10) ([45]++l9 num ([40]++a.1++[41]) (wiS a 6),6) (eQ n.1++[40]++a.1++[41],7))))
def Va(k:Int):Bool:=l9 (D6 k 17) true (l9 (D6 k 18) true (l9 (D6 k 27) true (l9 (D6 k 28) true (l9 (D6 k 29) true (D6 k 30)))))
def U_(k:Int):Bool:=l9 (D6 k 14) true (l9 (D6 k 15) true (D6 k 16))
def Jm(n:Int×Int)(a b:Tx):Tx:=
 l9 (Va n.1) (eQ n.1++[40]++a.1++[44,32]++b.1++[41],7)
 (l9 (U_ n.1) (eQ n.1++[40]++a.1++[44,32]++b.1++[44,32]++lF n.2++[41],7)
 (wiS a (l9 (D6 (kP n.1).2 3) 4 (kP n.1).2)++[32]++(kP n.1).1++[32]++wiS b ((kP n.1).2+1),(kP n.1).2))
def ifX(a b c:Tx):Tx:=([105,102,32]++a.1++[32,116,104,101,110,32]++b.1++[32,101,108,115,101,32]++c.1,0)
def txT(N:D9):XT->Tx
 | .l0 n=>wK n N| .l1 n a=>Oi n N (Bq a.node.1) (txT N a)| .l2 n a b=>Jm n (txT N a) (txT N b)| .l3 n a b c=>ifX (txT N a) (txT N b) (txT N c)
def pcT(N:D9)(t:XT):I9:=((txT N t).1,(txT N t).2,Bq t.node.1)
def FN(n:Int×Int)(args:List I9)(N:D9)(p:Tx):Prop:=
 ∃c,Y6 n N=some c/\ae n args N=some (l9 (D6 c 0) ((p.1,p.2,Bq n.1),0) (([],0,false),c))
variable {α:Type}
theorem lx0(a:α)(l:List α):U0 (a::l) 0=some a:=rfl
theorem lx1(a b:α)(l:List α):U0 (a::b::l) 1=some b:=rfl
theorem lx2(a b c:α)(l:List α):U0 (a::b::c::l) 2=some c:=rfl
theorem Hz(p:I9)(c:Int)(h:p.1.length<=1000000000):gU p c=some (wiS (p.1,p.2.1) c):=by unfold gU wiS;rw[P6 F8,o9,P6 F8,o9];cases I7 p.2.1 c<;>rfl
theorem OO(p:Tx)(c:Int):(wiS p c).length<=p.1.length+2:=by unfold wiS;cases I7 p.2 c<;>simp
theorem arN(k:Int):1<=k/\k<=39\/arF k=-1:=by
 by_cases h:1<=k/\k<=39
 .exact .inl h
 .refine .inr ?_;unfold arF;rw[E_ h];rfl
variable {k:Int}
theorem ar0(h:arF k=0):k=1\/k=2\/k=3\/k=4\/k=5\/k=6\/k=7\/k=8\/k=9\/k=35\/k=36\/k=37\/k=38\/k=39:=by
 rcases arN k with h1|h1
 .obtain⟨j,rfl⟩:=WB h1;revert h;revert j;decide
 .omega
theorem ar1(h:arF k=1):k=10\/k=25\/k=31\/k=32\/k=33\/k=34:=by
 rcases arN k with h1|h1
 .obtain⟨j,rfl⟩:=WB h1;revert h;revert j;decide
 .omega
theorem ar2(h:arF k=2):k=11\/k=12\/k=13\/k=14\/k=15\/k=16\/k=17\/k=18\/k=19\/k=20\/k=21\/k=22\/k=23\/k=24\/k=27\/k=28\/k=29\/k=30:=by
 rcases arN k with h1|h1
 .obtain⟨j,rfl⟩:=WB h1;revert h;revert j;decide
 .omega
theorem ar3(h:arF k=3):k=26:=b5S h
variable {N:D9}{n:Int×Int}
theorem a6s{args:List I9}{p:Tx}(c:Int)(h1:Y6 n N=some c)(h2:ae n args N=some (l9 (D6 c 0) ((p.1,p.2,Bq n.1),0) (([],0,false),c))):FN n args N p:=⟨c,h1,h2⟩
variable {m:Int}
theorem b2V(hk:k=1\/k=2\/k=3\/k=4\/k=5)(hm:kQ m)(N:D9):∃c s,Y6 (k,m) N=some c/\ny (k,0,m) []=some (s,c):=by
 have b1:∀lo hi:Int,fZ (k,0) []=some (lo,hi)->bF (k,0) []=some true->∃c s,Y6 (k,m) N=some c/\ny (k,0,m) []=some (s,c):=by
  intro lo hi hb hv;have hf:Y6 (k,m) N=some (l9 (I7 m lo) 3 (l9 (I7 hi m) 3 0)):=by
   unfold Y6 wX;simp only[ay (show 1<=k by omega),ay (show k<=5 by omega),o7,o9,hb];cases I7 m lo
   .cases I7 hi m<;>rfl
   .rfl
  have hw:tu m (k,0) []=some (l9 (X6 lo m) (X6 m hi) false):=by unfold tu;rw[LQ,hb,o9];cases X6 lo m<;>rfl
  rw[hf];obtain⟨t,ht,-⟩:=JD (B:=100) l7 l7 (v:=(k,0,m)) (en:=[]) hm (λe h=>by cases h);unfold ny at ht ⊢;simp only[wC,hv,hw,o9,G8,o6]at ht ⊢;by_cases h1:lo<=m
  .by_cases h2:m<=hi
   .rw[ay h1,ay h2,o7,G8,o6]at ht ⊢;rw[U5 h1,U5 h2,o6,o6];refine⟨0,t.1,rfl,?_⟩;rw[ht];have e:t.2=0:=by
     rcases hk with rfl|rfl|rfl|rfl|rfl
     .simp (disch:=decide) only[O8,o7]at ht;revert ht;cases D6 m 1<;>cases D6 m 0<;>intro ht<;>cases ht<;>rfl
     .simp (disch:=decide) only[O8,O6,o7,o6,oQ hm,o9,F7]at ht;rw[←ht]
     .simp (disch:=decide) only[O8,O6,o7,o6]at ht;rw[show eH m 2=_ from ku (k:=2) hm l7]at ht;simp only[o9,F7]at ht;rw[←ht]
     .simp (disch:=decide) only[O8,O6,o7,o6]at ht;have f4:=LY (k:=4) hm l7;rw[show eH m 4=_ from ku (k:=4) hm l7,o9,P6 F8]at ht;simp only[o9,F7]at ht;rw[←ht]
     .simp (disch:=decide) only[O8,O6,o7,o6,DX,o9,F7]at ht;rw[←ht]
    rw[←e]
   .rw[ay h1,bW l7,o7,Y2,o7,U5 h1,aA l7,o6,o7];exact⟨3,[],rfl,rfl⟩
  .rw[bW l7,o6,Y2,o7,aA l7,o7];exact⟨3,[],rfl,rfl⟩
 rcases hk with rfl|rfl|rfl|rfl|rfl
 .exact b1 0 1 rfl rfl
 .exact b1 _ _ rfl rfl
 .exact b1 _ _ rfl rfl
 .exact b1 _ _ rfl rfl
 .exact b1 _ _ rfl rfl
theorem EE(hk:k=1\/k=2\/k=3\/k=4\/k=5)(hm:kQ m)(N:D9):FN (k,m) [] N (wK (k,m) N):=by
 obtain⟨c,s,h1,h2⟩:=b2V hk hm N;refine a6s c h1 ?_;have e:wK (k,m) N=(s,l9 (I7 m 0) 6 7):=by unfold wK;rw[ay (show k<=5 by omega),o7,←zg [] hm,h2];rfl
 have hc:c=0\/c=3:=by
  unfold Y6 wX at h1;have h:=h1;simp only[ay (show 1<=k by omega),ay (show k<=5 by omega),o7,o9]at h;cases hb:fZ (k,0) []with
  |none=>rw[hb]at h;cases h|some b=>rw[hb,o9]at h;cases hx:I7 m b.1<;>cases hy:I7 b.2 m<;>simp only[hx,hy,o7,o6,F7]at h<;>omega
 have hr:qw (k,m)=some (l9 (D6 c 0) ((s,l9 (l9 (Bq k) (I7 m 0) false) 6 7,Bq k),0) (([],0,false),c)):=by
  unfold qw Bq;simp only[h2,o9];rcases hc with rfl|rfl
  .simp only[O8 (rfl:(0:Int)=0),G8,o6,o7,bz,o9];cases I7 m 0<;>cases D6 k 2<;>cases D6 k 3<;>cases D6 k 4<;>rfl
  .rfl
 rw[e];unfold ae;rw[hr];have hneg:c=0->l9 (l9 (Bq k) (I7 m 0) false) (6:Int) 7=l9 (I7 m 0) 6 7:=by
  intro h0;subst h0;cases hg:I7 m 0
  .cases Bq k<;>rfl
  rcases hk with rfl|rfl|rfl|rfl|rfl
  .exfalso;unfold Y6 wX at h1;simp only[show fZ (1,0) []=some (0,1)from rfl,ay (show(1:Int)<=1 by omega),ay (show(1:Int)<=5 by omega),o7,o9,hg,F7]at h1;omega
  .rfl
  .rfl
  .rfl
  .exfalso;unfold Y6 wX at h1;simp only[show fZ (5,0) []=some (0,109572)from rfl,ay (show(1:Int)<=5 by omega),ay (show(5:Int)<=5 by omega),o7,o9,hg,F7]at h1;omega
 rcases hc with rfl|rfl
 .rw[hneg rfl];rcases hk with rfl|rfl|rfl|rfl|rfl<;>rfl
 .rcases hk with rfl|rfl|rfl|rfl|rfl<;>rfl
theorem Ob{l:List c5y}{i:Int}(h0:0<=i)(h:i<x8 l):U0 l i=some (gtN l i)/\gtN l i∈l:=by obtain⟨x,h1,h2⟩:=vP h0 h;unfold gtN;rw[h1];exact⟨rfl,h2⟩
theorem NV{l:List c5y}{B:Nat}(h:∀s∈l,s.length<=B)(i:Int):(gtN l i).length<=B:=by
 unfold gtN;cases hl:U0 l i with
 |none=>simp|some x=>exact h x (fF hl).2.2.1
theorem Tm(k m:Int)(args:List I9)(N:D9)(hk:k=6\/k=7\/k=8\/k=36\/k=37\/k=38\/k=39):ae (k,m) args N=gB (k,m) N:=by unfold ae;generalize hq:gB (k,m) N=q;rcases hk with rfl|rfl|rfl|rfl|rfl|rfl|rfl<;>simp (disch:=decide) only[O8,O6,o7,o6,o9,hq]<;>cases q<;>rfl
theorem zG(hk:k=7\/k=8\/k=36\/k=37\/k=38\/k=39)(hN:NmOk N):FN (k,m) [] N (wK (k,m) N):=by
 have key:∀(l:List c5y) (before after:c5y),(∀s∈l,s.length<=1000)->before.length<=100->after.length<=100->
   Y6 (k,m) N=l9 (I7 m 0) (some 6) (l9 (X6 (x8 l) m) (some 6) (some 0))->
   gB (k,m) N=l9 (I7 m 0) (some (([],0,false),6))
    (l9 (X6 (x8 l) m) (some (([],0,false),6))
     (o5 (U0 l m) λ(x_1:c5y)=>
      o5 (aO before x_1) λ(x_2:c5y)=>
       o5 (aO x_2 after) λ(x:c5y)=>some ((x,7,false),0)))->
   wK (k,m) N=(before++gtN l m++after,7)->FN (k,m) [] N (wK (k,m) N):=by
  intro l before after hl hb ha hf0 hr he;have hf:Y6 (k,m) N=some (l9 (I7 m 0) 6 (l9 (X6 (x8 l) m) 6 0)):=by rw[hf0];cases I7 m 0<;>cases X6 (x8 l) m<;>rfl
  refine a6s _ hf ?_;have hnum:Bq k=false:=by rcases hk with rfl|rfl|rfl|rfl|rfl|rfl<;>rfl
  rw[Tm _ _ _ _ l7,hr,he,hnum];by_cases h0:m<0
  .rw[aA h0];rfl
  by_cases h1:x8 l<=m
  .simp only[U5 (show 0<=m by omega),ay h1];rfl
  .have:=Ob (l:=l) (i:=m) l7 l7;have h2:=hl _ this.2;simp only[U5 (show 0<=m by omega),bW (show m<x8 l by omega),o6,this.1,o9];rw[P6 l7,o9,P6 F8,o9];rfl
 have mem:∀k:Int,(k=36\/k=37\/k=38\/k=39)->gB (k,m) N=l9 (I7 m 0) (some (([],0,false),6))
    (l9 (X6 (x8 N.2.2.2.2) m) (some (([],0,false),6))
     (o5 (U0 N.2.2.2.2 m) λ(x_1:c5y)=>
      o5 (aO (eQ k++[40]) x_1) λ(x_2:c5y)=>
       o5 (aO x_2 [41]) λ(x:c5y)=>some ((x,7,false),0))):=by
  intro k hk;have hw:=yf k;unfold gB bz;simp only[O6 (show k≠6 by omega),O6 (show k≠7 by omega),O6 (show k≠8 by omega),o6,uU,o9,P6 (a:=eQ k) (b:=[40]) F8,Y4]
 have lf:∀k:Int,(k=36\/k=37\/k=38\/k=39)->wK (k,m) N=(eQ k++[40]++gtN N.2.2.2.2 m++[41],7):=by intro k hk;unfold wK;simp only[bW (show 5<k by omega),O6 (show k≠6 by omega),O6 (show k≠7 by omega),O6 (show k≠8 by omega),O6 (show k≠9 by omega),O6 (show k≠35 by omega),o6]
 have wl:=λk=>yf k;rcases hk with rfl|rfl|rfl|rfl|rfl|rfl
 .refine key N.2.2.1 [] [] hN.i A7 A7 rfl ?_ ?_
  .unfold gB bz;simp (disch:=decide) only[O8,O6,o7,o6,o9,Y4]
  .unfold wK;simp (disch:=decide) only[O8,O6,bW,o7,o6];simp
 .refine key N.2.2.2.1 [] [] hN.d A7 A7 rfl ?_ ?_
  .unfold gB bz;simp (disch:=decide) only[O8,O6,o7,o6,o9,Y4]
  .unfold wK;simp (disch:=decide) only[O8,O6,bW,o7,o6];simp
 .exact key N.2.2.2.2 (eQ 36++[40]) [41] hN.m E9 E9 rfl (mem _ l7) (lf _ l7)
 .exact key N.2.2.2.2 (eQ 37++[40]) [41] hN.m E9 E9 rfl (mem _ l7) (lf _ l7)
 .exact key N.2.2.2.2 (eQ 38++[40]) [41] hN.m E9 E9 rfl (mem _ l7) (lf _ l7)
 .exact key N.2.2.2.2 (eQ 39++[40]) [41] hN.m E9 E9 rfl (mem _ l7) (lf _ l7)
theorem PR(h:kQ m)(d:Int)(hd:d=8\/d=16):eP .i64 m d=m.tdiv d:=by
 refine Po ?_;unfold kQ at h ⊢;rcases hd with rfl|rfl
 all_goals
  rcases Int.lt_or_le m 0 with h0|h0
  .have e:=Int.neg_tdiv (a:=-m) (b:=8);have e' :=Int.neg_tdiv (a:=-m) (b:=16);rw[Int.neg_neg]at e e';have q1:=pg (a:=-m) (b:=8) l7;have q2:=pg (a:=-m) (b:=16) l7;omega
  .have q1:=pg (a:=m) (b:=8) l7;have q2:=pg (a:=m) (b:=16) l7;omega
theorem a2a(hm:kQ m)(hN:NmOk N):FN (6,m) [] N (wK (6,m) N):=by
 have hf:Y6 (6,m) N=(l9 (I7 m 0) (some 6)
    (l9 (X6 (x8 N.1) (eP .i64 m 16)) (some 6)
     (o5 (U0 N.1 (eP .i64 m 16)) λ(x:gm)=>
      l9 (X6 (x8 x.2) (jB m 16)) (some 6) (some 0)))):=rfl
 have hr:gB (6,m) N=o5 (l9 (I7 m 0) (some (Sum.inr (([],0,false),6)))
   (l9 (X6 (x8 N.1) (eP IntKind.i64 m 16)) (some (Sum.inr (([],0,false),6)))
    (o5 (U0 N.1 (eP IntKind.i64 m 16)) λ(x:gm)=>
     o5 (aO x.1 [58]) λ(x_1:c5y)=>some (Sum.inl (([],0,false),x.2,jB m 16,x_1,[]))))) λ(o:I9×List c5y×Int×c5y×c5y⊕I9×Int)=>
 dw o
  (λ(x:I9×List c5y×Int×c5y×c5y)=>
   l9 (I7 x.2.2.1 0) (some (([],0,false),6))
    (l9 (X6 (x8 x.2.1) x.2.2.1) (some (([],0,false),6))
     (o5 (U0 x.2.1 x.2.2.1) λ(x_1:c5y)=>
      o5 (aO x.2.2.2.1 x_1) λ(x_2:c5y)=>
       o5 (aO x_2 x.2.2.2.2) λ(x:c5y)=>
        o5 (bz x) λ(x:I9)=>some (x,0))))
  λ(r:I9×Int)=>some r:=rfl
 have hl:wK (6,m) N=(((U0 N.1 (eP .i64 m 16)).getD ([],[])).1++[58]++gtN ((U0 N.1 (eP .i64 m 16)).getD ([],[])).2 (jB m 16),7):=rfl;unfold FN;rw[hf,Tm _ _ _ _ l7,hr,hl];by_cases h0:m<0
 .rw[aA h0];exact⟨6,rfl,rfl⟩
 rw[U5 l7,o6,o6];by_cases h1:x8 N.1<=eP .i64 m 16
 .rw[ay h1];exact⟨6,rfl,rfl⟩
 rw[bW l7,o6,o6];have hq:0<=eP .i64 m 16:=by rw[PR hm 16 (.inr rfl),pg l7];omega
 obtain⟨e,he,hmem⟩:=vP (l:=N.1) hq l7;have hb:=hN.e e hmem;have hr0:jB m 16=m % 16:=Ce l7;simp only[he,o9,dW,P6 (a:=e.1) (b:=[58]) F8,Y4];rw[U5 (show 0<=jB m 16 by omega),o6];by_cases h2:x8 e.2<=jB m 16
 .rw[ay h2];exact⟨6,rfl,rfl⟩
 rw[bW l7,o6,o6];have hg:=Ob (l:=e.2) (i:=jB m 16) l7 l7;have h3:=hb.2 _ hg.2;refine⟨0,rfl,?_⟩;rw[hg.1,o9,P6 F8,o9,P6 F8,o9];simp only[bz,o9,D8];rfl
theorem b0B :FN (9,0) [] N (wK (9,0) N):=⟨0,rfl,rfl⟩
theorem a7W :FN (35,0) [] N (wK (35,0) N):=⟨0,rfl,rfl⟩
theorem b3C(hN:NmOk N)(hm:kQ m)(ha:arF k=0)(hu:m=0\/dY k=some true):FN (k,m) [] N (wK (k,m) N):=by
 have hz:(k=9\/k=35)->m=0:=by
  intro h;rcases hu with h1|h1
  .exact h1
  .exfalso;rcases h with rfl|rfl<;>exact absurd h1 E9
 rcases ar0 ha with rfl|rfl|rfl|rfl|rfl|rfl|rfl|rfl|rfl|rfl|rfl|rfl|rfl|rfl
 .exact EE l7 hm N
 .exact EE l7 hm N
 .exact EE l7 hm N
 .exact EE l7 hm N
 .exact EE l7 hm N
 .exact a2a hm hN
 .exact zG l7 hN
 .exact zG l7 hN
 .rw[hz l7];exact b0B
 .rw[hz l7];exact a7W
 .exact zG l7 hN
 .exact zG l7 hN
 .exact zG l7 hN
 .exact zG l7 hN
theorem a4l(hm:kQ m)(hN:NmOk N)(a:I9)(h1:a.1.length<=1000000000):FN (33,m) [a] N (Oi (33,m) N b (a.1,a.2.1)):=by
 have hf:Y6 (33,m) N=l9 (I7 m 0) (some 6) (l9 (X6 (x8 N.2.1) m) (some 6) (some 0)):=rfl;have hr:ae (33,m) [a] N=iZ (33,m) a N:=by unfold ae;generalize hq:iZ (33,m) a N=q;simp (disch:=decide) only[O8,O6,o7,o6,o9,lx0,hq];cases q<;>rfl
 have hx:Oi (33,m) N b (a.1,a.2.1)=(eQ 33++[40]++gtN N.2.1 m++[44,32]++a.1++[41],7):=rfl;unfold FN;rw[hf,hr,hx];unfold iZ bz;simp (disch:=decide) only[O8,O6,o7,o6,o9,uU];by_cases h0:m<0
 .rw[aA h0];exact⟨6,rfl,rfl⟩
 rw[U5 l7,o6,o6];by_cases h2:x8 N.2.1<=m
 .rw[ay h2];exact⟨6,rfl,rfl⟩
 rw[bW l7,o6,o6];have hg:=Ob (l:=N.2.1) (i:=m) l7 l7;have h3:=hN.t _ hg.2;have hw:=yf 33;refine⟨0,rfl,?_⟩;rw[o9,Y4,P6 F8,o9,hg.1,o9,P6 F8,o9,P6 F8,o9,P6 F8,o9,P6 F8,o9];rfl
theorem a1w(h:0<=m):seq (lF m) []=I7 5 m:=by
 by_cases h5:m<=5
 .rw[U5 h5];obtain⟨k,rfl⟩:∃k:Fin 6,m=(k.val:Int):=⟨⟨m.toNat,l7⟩,by simp;omega⟩;revert k;decide
 .rw[aA l7];unfold lF gZ;simp only[O6 (show m≠0 by omega),O6 (show m≠1 by omega),O6 (show m≠2 by omega),O6 (show m≠3 by omega),O6 (show m≠4 by omega),O6 (show m≠5 by omega),o6];rfl
theorem a9C(h:m<0):seq (lF m) []=true:=by unfold lF gZ;simp only[O6 (show m≠0 by omega),O6 (show m≠1 by omega),O6 (show m≠2 by omega),O6 (show m≠3 by omega),O6 (show m≠4 by omega),O6 (show m≠5 by omega),o6];rfl
theorem a1Z(hm:kQ m)(hN:NmOk N)(a:I9)(h1:a.1.length<=1000000000):FN (34,m) [a] N (Oi (34,m) N b (a.1,a.2.1)):=by
 have hf:Y6 (34,m) N=l9 (I7 m 0) (some 6) (l9 (X6 (x8 N.2.1) (eP .i64 m 8)) (some 6) (l9 (I7 5 (jB m 8)) (some 3) (some 0))):=rfl;have hr:ae (34,m) [a] N=iZ (34,m) a N:=by unfold ae;generalize hq:iZ (34,m) a N=q;simp (disch:=decide) only[O8,O6,o7,o6,o9,lx0,hq];cases q<;>rfl
 have hx:Oi (34,m) N b (a.1,a.2.1)=(eQ 34++[40]++gtN N.2.1 (eP .i64 m 8)++[44,32]++a.1++[44,32]++lF (jB m 8)++[41],7):=rfl;unfold FN;rw[hf,hr,hx];unfold iZ bz;simp (disch:=decide) only[O8,O6,o7,o6,o9,uU,SE];by_cases h0:m<0
 .rw[aA h0,U5 (show m<=0 by omega)];simp only[o7,o6,o9,aA h0,nU];exact⟨6,rfl,rfl⟩
 have hq:eP .i64 m 8=m / 8:=by rw[PR hm 8 (.inl rfl),pg l7]
 have hi:(l9 (I7 0 m) (some (eP .i64 m 8)) (some m):c5E)=some (eP .i64 m 8):=by
  by_cases h:0<m
  .rw[aA h];rfl
  .rw[U5 l7,o6,show eP .i64 m 8=m by omega]
 rw[hi,o9,U5 (show 0<=m by omega),o6,U5 (show 0<=eP .i64 m 8 by omega),o6];by_cases h2:x8 N.2.1<=eP .i64 m 8
 .rw[ay h2];exact⟨6,rfl,rfl⟩
 rw[bW l7,o6,o6];have hg:=Ob (l:=N.2.1) (i:=eP .i64 m 8) l7 l7;have h3:=hN.t _ hg.2;have hw:=yf 34;have hm:=Px (jB m 8);have hr0:jB m 8=m % 8:=Ce l7;rw[o9,Y4,P6 F8,o9,hg.1,o9,P6 F8,o9,P6 F8,o9,P6 F8,o9,a1w (show 0<=jB m 8 by omega)];cases I7 5 (jB m 8)
 .refine⟨0,rfl,?_⟩;rw[o6,P6 F8,o9,P6 F8,o9,P6 F8,o9];simp[l9];rfl
 .exact⟨3,rfl,rfl⟩
theorem b3D(hN:NmOk N)(hm:kQ m)(ha:arF k=1)(hu:m=0\/dY k=some true)(a:I9)(h1:a.1.length<=1000000000):FN (k,m) [a] N (Oi (k,m) N a.2.2 (a.1,a.2.1)):=by
 have hz:(k=10\/k=25\/k=31\/k=32)->m=0:=by
  intro h;rcases hu with h1|h1
  .exact h1
  .exfalso;rcases h with rfl|rfl|rfl|rfl<;>exact absurd h1 E9
 have hw:=OO (a.1,a.2.1) 6;simp only at hw;rcases ar1 ha with rfl|rfl|rfl|rfl|rfl|rfl
 .rw[hz l7];refine⟨0,rfl,?_⟩;unfold ae Oi;simp (disch:=decide) only[O8,O6,o7,o6,o9,lx0,Hz a 6 h1];cases h:a.2.2
  .simp only[o6,o7];rw[P6 F8,o9,o9,nU];rfl
  .simp only[o7];rw[P6 F8,o9,P6 F8,o9,P6 F8,o9,o9,nU];rfl
 .rw[hz l7];refine⟨0,rfl,?_⟩;unfold ae Oi;simp (disch:=decide) only[O8,O6,o7,o6,o9,lx0,Hz a 6 h1];rw[P6 F8,o9,o9,nU];rfl
 .rw[hz l7];refine⟨0,rfl,?_⟩;have hl:=yf 31;unfold ae Oi bz;simp (disch:=decide) only[O8,O6,o7,o6,o9,lx0,uU];rw[P6 F8,o9,P6 F8,o9,P6 F8,o9,o9,nU];rfl
 .rw[hz l7];refine⟨0,rfl,?_⟩;have hl:=yf 32;unfold ae Oi bz;simp (disch:=decide) only[O8,O6,o7,o6,o9,lx0,uU];rw[P6 F8,o9,P6 F8,o9,P6 F8,o9,o9,nU];rfl
 .exact a4l hm hN a h1
 .exact a1Z hm hN a h1
theorem a4j(hk:k=17\/k=18\/k=27\/k=28\/k=29\/k=30)(a b:I9)(h1:a.1.length<=1000000000)(h2:b.1.length<=1000000000):FN (k,0) [a,b] N (Jm (k,0) (a.1,a.2.1) (b.1,b.2.1)):=by
 have hl:=yf k;rcases hk with rfl|rfl|rfl|rfl|rfl|rfl
 all_goals
  refine⟨0,rfl,?_⟩;unfold ae Jm bz Va;simp (disch:=decide) only[O8,O6,o7,o6,o9,lx0,lx1,uU];rw[P6 F8,o9,P6 F8,o9,P6 F8,o9,P6 F8,o9,P6 F8,o9,o9,nU];rfl
theorem a4k(hk:k=14\/k=15\/k=16)(a b:I9)(h1:a.1.length<=1000000000)(h2:b.1.length<=1000000000):FN (k,m) [a,b] N (Jm (k,m) (a.1,a.2.1) (b.1,b.2.1)):=by
 have hl:=yf k;have hm:=Px m;have hf:Y6 (k,m) N=some (l9 (seq (lF m) []) 3 0):=by
  have:Y6 (k,m) N=l9 (I7 m 0) (some 3) (l9 (I7 5 m) (some 3) (some 0)):=by rcases hk with rfl|rfl|rfl<;>rfl
  rw[this];by_cases h0:m<0
  .rw[aA h0,a9C h0];rfl
  .rw[U5 l7,a1w l7];cases I7 5 m<;>rfl
 refine a6s _ hf ?_;rcases hk with rfl|rfl|rfl
 all_goals
  unfold ae Jm bz Va U_;simp (disch:=decide) only[O8,O6,o7,o6,o9,lx0,lx1,uU,SE];cases seq (lF m) []
  .rw[o6,P6 F8,o9,P6 F8,o9,P6 F8,o9,P6 F8,o9,P6 F8,o9,P6 F8,o9,P6 F8,o9,o9,nU];rfl
  .rfl
theorem a4i(hk:k=11\/k=12\/k=13\/k=19\/k=20\/k=21\/k=22\/k=23\/k=24)(a b:I9)(h1:a.1.length<=100000000)(h2:b.1.length<=100000000):FN (k,0) [a,b] N (Jm (k,0) (a.1,a.2.1) (b.1,b.2.1)):=by
 have hl:=a6G k;have hc:1<=(kP k).2/\(kP k).2<=5:=by rcases hk with rfl|rfl|rfl|rfl|rfl|rfl|rfl|rfl|rfl<;>decide
 have w1:=OO (a.1,a.2.1) 4;have w2:=OO (a.1,a.2.1) (kP k).2;have w3:=OO (b.1,b.2.1) ((kP k).2+1);simp only at w1 w2 w3;have hx:ae (k,0) [a,b] N=o5 (jA k) λ(x:c5y×Int)=>
    l9 (D6 x.2 3)
     (o5 (gU a 4) λ(x_2:c5y)=>
       o5 (aO x_2 [32]) λ(x_3:c5y)=>
        o5 (aO x_3 x.1) λ(x_4:c5y)=>
         o5 (aO x_4 [32]) λ(x_5:c5y)=>
           o5 (gU b (G6 IntKind.i64 x.2 1)) λ(x_7:c5y)=>
            o5 (aO x_5 x_7) λ(x_8:c5y)=>some ((x_8,x.2,false),0))
     (o5 (gU a x.2) λ(x_2:c5y)=>
       o5 (aO x_2 [32]) λ(x_3:c5y)=>
        o5 (aO x_3 x.1) λ(x_4:c5y)=>
         o5 (aO x_4 [32]) λ(x_5:c5y)=>
           o5 (gU b (G6 IntKind.i64 x.2 1)) λ(x_7:c5y)=>
            o5 (aO x_5 x_7) λ(x_8:c5y)=>some ((x_8,x.2,false),0)):=by
  rcases hk with rfl|rfl|rfl|rfl|rfl|rfl|rfl|rfl|rfl<;>rfl
 have hf:Y6 (k,0) N=some 0:=by rcases hk with rfl|rfl|rfl|rfl|rfl|rfl|rfl|rfl|rfl<;>rfl
 have hn:Bq k=false:=by rcases hk with rfl|rfl|rfl|rfl|rfl|rfl|rfl|rfl|rfl<;>rfl
 have hb:Va k=false/\U_ k=false:=by rcases hk with rfl|rfl|rfl|rfl|rfl|rfl|rfl|rfl|rfl<;>exact⟨rfl,rfl⟩
 refine a6s _ hf ?_;rw[hx,b3W,o9];unfold Jm;simp only[hb.1,hb.2,hn,o6,eG (show kQ ((kP k).2+1) by unfold kQ;omega)];rw[Hz a 4 l7,Hz a _ l7,Hz b _ l7];simp only[o9];cases D6 (kP k).2 3
 .simp only[o6];rw[P6 F8,o9,P6 F8,o9,P6 F8,o9,P6 F8,o9];rfl
 .simp only[o7];rw[P6 F8,o9,P6 F8,o9,P6 F8,o9,P6 F8,o9];rfl
theorem b3E(ha:arF k=2)(hu:m=0\/dY k=some true)(a b:I9)(h1:a.1.length<=100000000)(h2:b.1.length<=100000000):FN (k,m) [a,b] N (Jm (k,m) (a.1,a.2.1) (b.1,b.2.1)):=by
 have hz:¬(k=14\/k=15\/k=16)->m=0:=by
  intro h;rcases hu with h1|h1
  .exact h1
  .exfalso;rcases ar2 ha with rfl|rfl|rfl|rfl|rfl|rfl|rfl|rfl|rfl|rfl|rfl|rfl|rfl|rfl|rfl|rfl|rfl|rfl<;>first|omega|exact absurd h1 E9
 by_cases h:k=14\/k=15\/k=16
 .exact a4k h a b l7 l7
 rw[hz h];by_cases h' :k=17\/k=18\/k=27\/k=28\/k=29\/k=30
 .exact a4j h' a b l7 l7
 .exact a4i (by have:=ar2 ha;omega) a b h1 h2
theorem b3F(hu:m=0\/dY 26=some true)(a b c:I9)(h1:a.1.length<=100000000)(h2:b.1.length<=100000000)(h3:c.1.length<=100000000):FN (26,m) [a,b,c] N (ifX (a.1,a.2.1) (b.1,b.2.1) (c.1,c.2.1)):=by
 have hz:m=0:=by
  rcases hu with h1|h1
  .exact h1
  .exact absurd h1 E9
 rw[hz];refine⟨0,rfl,?_⟩;unfold ae ifX;simp (disch:=decide) only[O8,O6,o7,o6,o9,lx0,lx1,lx2];rw[P6 F8,o9,P6 F8,o9,P6 F8,o9,P6 F8,o9,P6 F8,o9,o9,nU];rfl
def flS(n:Int×Int)(N:D9):Int:=(Y6 n N).getD 0
theorem a_{c:Int}(h:Y6 n N=some c):flS n N=c:=by unfold flS;rw[h];rfl
theorem b4l(h:0<=arF k):dY k=some true\/dY k=some false:=by
 rcases arN k with h1|h1
 .obtain⟨j,rfl⟩:=WB h1;revert h;revert j;decide
 .omega
theorem b4J(ha:0<=arF k)(hm:m≠0)(hu:dY k=some false):Y6 (k,m) N=some 2:=by
 have h3:arF k=0\/arF k=1\/arF k=2\/arF k=3:=by have:=(OU k).2.2;omega
 have key:Y6 (k,m) N=l9 (J8 (D6 m 0)) (some 2) (some 0)->Y6 (k,m) N=some 2:=by intro h;rw[h,O6 hm];rfl
 rcases h3 with h|h|h|h
 .rcases ar0 h with rfl|rfl|rfl|rfl|rfl|rfl|rfl|rfl|rfl|rfl|rfl|rfl|rfl|rfl<;>first|exact absurd hu E9|exact key rfl
 .rcases ar1 h with rfl|rfl|rfl|rfl|rfl|rfl<;>first|exact absurd hu E9|exact key rfl
 .rcases ar2 h with rfl|rfl|rfl|rfl|rfl|rfl|rfl|rfl|rfl|rfl|rfl|rfl|rfl|rfl|rfl|rfl|rfl|rfl<;>first|exact absurd hu E9|exact key rfl
 .have:=ar3 h;subst this;exact key rfl
def fmF(a0:List (Int×Int))(a1:D9)(x:List I9×Int):Option (Out (List I9×Int) (List I9) (c5y×Int)):=
     l9 (I7 x.2 (x8 a0))
      (o5 (U0 a0 x.2) λ(x_1:Int×Int)=>
       l9 (J8 (D6 x_1.2 0))
        (o5 (dY x_1.1) λ(x_2:Bool)=>
         l9 (J8 x_2) (some (Out.rt ([],2)))
          (o5 (mG x_1.1) λ(x_3:Int)=>
           l9 (mY (Y5 IntKind.i64 (x8 x.1) x_3) (x8 x.1) (x8 x.1))
            (o5
             (ae x_1 (lq x.1 (aJ (Y5 IntKind.i64 (x8 x.1) x_3)) (aJ (x8 x.1))) a1)
             λ(x_4:I9×Int)=>
             l9 (J8 (D6 x_4.2 0)) (some (Out.rt ([],x_4.2)))
              (l9 (mY 0 (Y5 IntKind.i64 (x8 x.1) x_3) (x8 x.1))
               (o5 (eY (lq x.1 (aJ 0) (aJ (Y5 IntKind.i64 (x8 x.1) x_3))) [x_4.1])
                λ(x_5:List I9)=>some (Out.nx (x_5,G6 IntKind.i64 x.2 1)))
               none))
            none))
        (o5 (mG x_1.1) λ(x_2:Int)=>
         l9 (mY (Y5 IntKind.i64 (x8 x.1) x_2) (x8 x.1) (x8 x.1))
          (o5 (ae x_1 (lq x.1 (aJ (Y5 IntKind.i64 (x8 x.1) x_2)) (aJ (x8 x.1))) a1)
           λ(x_3:I9×Int)=>
           l9 (J8 (D6 x_3.2 0)) (some (Out.rt ([],x_3.2)))
            (l9 (mY 0 (Y5 IntKind.i64 (x8 x.1) x_2) (x8 x.1))
             (o5 (eY (lq x.1 (aJ 0) (aJ (Y5 IntKind.i64 (x8 x.1) x_2))) [x_3.1])
              λ(x_4:List I9)=>some (Out.nx (x_4,G6 IntKind.i64 x.2 1)))
             none))
          none))
      (some (Out.ex x.1))
def fmG(N:D9)(n:Int×Int)(p:List I9)(x:Tx)(i:Nat):Option (Out (List I9×Int) (List I9) (c5y×Int)):=
 some (l9 (D6 (flS n N) 0) (.nx (p++[(x.1,x.2,Bq n.1)],((i+1:Nat):Int))) (.rt ([],flS n N)))
variable {e:List (Int×Int)}
theorem b2L{i:Nat}{p args:List I9}{x:Tx}(hn:e[i]? =some n)(hi:i<=1000)(hp:p.length<=1000)(hl:args.length<=3)(ha:arF n.1=(args.length:Int))
  (hr:(n.2=0\/dY n.1=some true)->FN n args N x):fmF e N (p++args,(i:Int))=fmG N n p x i:=by
 have hx:Y5 .i64 (x8 (p++args)) (arF n.1)=(p.length:Int):=by rw[fC (by unfold kQ x8;simp;omega),ha];unfold x8;simp
 have r1:mY (p.length:Int) (x8 (p++args)) (x8 (p++args))=true:=by unfold mY x8;simp<;>omega
 have r2:mY 0 (p.length:Int) (x8 (p++args))=true:=by unfold mY x8;simp<;>omega
 have v1:lq (p++args) (aJ (p.length:Int)) (aJ (x8 (p++args)))=args:=by unfold lq aJ x8;rw[H6,H6,ax (A8 _),aB]
 have v2:lq (p++args) (aJ 0) (aJ (p.length:Int))=p:=by unfold lq aJ;rw[H6,gG];rfl
 have main:(n.2=0\/dY n.1=some true)->(o5 (mG n.1) λ(x_2:Int)=>
         l9 (mY (Y5 IntKind.i64 (x8 (p++args)) x_2) (x8 (p++args)) (x8 (p++args)))
          (o5 (ae n (lq (p++args) (aJ (Y5 IntKind.i64 (x8 (p++args)) x_2)) (aJ (x8 (p++args)))) N)
           λ(x_3:I9×Int)=>
           l9 (J8 (D6 x_3.2 0)) (some (Out.rt ([],x_3.2)))
            (l9 (mY 0 (Y5 IntKind.i64 (x8 (p++args)) x_2) (x8 (p++args)))
             (o5 (eY (lq (p++args) (aJ 0) (aJ (Y5 IntKind.i64 (x8 (p++args)) x_2))) [x_3.1])
              λ(x_4:List I9)=>some (Out.nx (x_4,G6 IntKind.i64 (i:Int) 1)))
             none))
          none)=fmG N n p x i:=by
  intro hu;obtain⟨c,h1,h2⟩:=hr hu;rw[a8B,o9,hx,r1,o7,v1,h2,o9,r2,v2];unfold fmG;rw[a_ h1];cases hc:D6 c 0
  .rw[o6];simp only[hc,Y2,o7];rfl
  .rw[o7];simp only[O8 (rfl:(0:Int)=0),G8,o6,o7];rw[qm _ l7,o9,gu l7]
 unfold fmF;simp only[Z8 hn,o7,U4,hn,o9];by_cases h0:n.2=0
 .rw[O8 h0,G8,o6];exact main (.inl h0)
 .rw[O6 h0,Y2,o7];rcases b4l (k:=n.1) l7 with hu|hu
  .rw[hu,o9,G8,o6];exact main (.inr hu)
  .rw[hu,o9,Y2,o7];unfold fmG;rw[a_ (b4J (k:=n.1) (m:=n.2) l7 h0 hu)];rfl
def ffS(N:D9):List (Int×Int)->Int
 |[]=>0|n::l=>l9 (D6 (flS n N) 0) (ffS N l) (flS n N)
theorem NT(N:D9):∀a b,ffS N (a++b)=l9 (D6 (ffS N a) 0) (ffS N b) (ffS N a)
 |[],b=>by rw[show ffS N []=0 from rfl,O8 rfl];rfl|n::a,b=>by
  show l9 (D6 (flS n N) 0) (ffS N (a++b)) (flS n N)=l9 (D6 (l9 (D6 (flS n N) 0) (ffS N a) (flS n N)) 0) (ffS N b) (l9 (D6 (flS n N) 0) (ffS N a) (flS n N));rw[NT N a b];cases h:D6 (flS n N) 0
  .simp only[o6,h]
  .simp only[o7]
theorem a9r(hN:NmOk N)(hI:kQ n.2):(wK n N).1.length<=3000:=by
 unfold wK;have hw:=yf n.1;have g1:=NV hN.i n.2;have g2:=NV hN.d n.2;have g3:=NV hN.m n.2;have hv:((Ap (n.1,0,n.2) []).getD ([],0)).1.length<=100:=by obtain⟨t,ht,hl⟩:=JD (B:=100) l7 l7 (v:=(n.1,0,n.2)) (en:=[]) hI (λe h=>by cases h);rw[←zg [] hI,ht];exact hl
 have he:((U0 N.1 (eP .i64 n.2 16)).getD ([],[])).1.length<=1000/\(gtN ((U0 N.1 (eP .i64 n.2 16)).getD ([],[])).2 (jB n.2 16)).length<=1000:=by
  cases hx:U0 N.1 (eP .i64 n.2 16)with
  |none=>exact⟨A7,NV (B:=1000) (λs h=>by cases h) _⟩|some e=>have:=hN.e e (fF hx).2.2.1;exact⟨this.1,NV this.2 _⟩
 cases X6 n.1 5
 case true=>simp only[o7];omega
 cases D6 n.1 6
 case true=>simp only[o7,o6];simp;omega
 cases D6 n.1 7
 case true=>simp only[o7,o6];omega
 cases D6 n.1 8
 case true=>simp only[o7,o6];omega
 cases D6 n.1 9
 case true=>simp[l9]
 cases D6 n.1 35
 case true=>simp[l9]
 .simp only[o6];simp;omega
theorem b3h(hN:NmOk N)(b:Bool)(a:Tx):(Oi n N b a).1.length<=a.1.length+3000:=by
 unfold Oi;have hw:=yf n.1;have hm:=Px (jB n.2 8);have g1:=NV hN.t n.2;have g2:=NV hN.t (eP .i64 n.2 8);have w:=OO a 6;cases D6 n.1 33
 case true=>simp only[o7];simp;omega
 cases D6 n.1 34
 case true=>simp only[o7,o6];simp;omega
 cases D6 n.1 25
 case true=>simp only[o7,o6];simp;omega
 cases D6 n.1 10
 case true=>simp only[o7,o6];cases b<;>simp<;>omega
 .simp only[o6];simp;omega
theorem b4j(a b:Tx):(Jm n a b).1.length<=a.1.length+b.1.length+3000:=by
 unfold Jm;have hw:=yf n.1;have hm:=Px n.2;have hs:=a6G n.1;have w1:=OO a (l9 (D6 (kP n.1).2 3) 4 (kP n.1).2);have w2:=OO b ((kP n.1).2+1);cases Va n.1
 case true=>simp only[o7];simp;omega
 cases U_ n.1
 case true=>simp only[o7,o6];simp;omega
 .simp only[o6];simp;omega
theorem BI{N:D9}(hN:NmOk N):∀(t:XT),(∀n∈t.post,kQ n.2)->(txT N t).1.length<=3000*t.size
 | .l0 n,h=>a9r hN (h n (by simp[XT.post]))| .l1 n a,h=>by have h1:=BI hN a (λm hm=>h m (by simp[XT.post,hm]));have h2:=b3h (n:=n) hN (Bq a.node.1) (txT N a);simp only[txT,XT.size];omega| .l2 n a b,h=>by have h1:=BI hN a (λm hm=>h m (by simp[XT.post,hm]));have h2:=BI hN b (λm hm=>h m (by simp[XT.post,hm]));have h3:=b4j (n:=n) (txT N a) (txT N b);simp only[txT,XT.size];omega| .l3 n a b c,h=>by have h1:=BI hN a (λm hm=>h m (by simp[XT.post,hm]));have h2:=BI hN b (λm hm=>h m (by simp[XT.post,hm]));have h3:=BI hN c (λm hm=>h m (by simp[XT.post,hm]));simp only[txT,XT.size,ifX];simp;omega
theorem dC{σ ε ρ:Type}(f:σ->Option (Out σ ε ρ))(n:Nat)(s:σ):fD f (n+1) s=match f s with|some (.nx s')=>fD f n s'|some (.ex e)=>some (.inl e)|some (.rt r)=>some (.inr r)|none=>none:=by rw[fD]<;>rfl
theorem b2M(he:e.length<=48)(hN:NmOk N)(hI:∀n∈e,kQ n.2):∀(t:XT) (pre suf:List (Int×Int)) (p:List I9) (m:Nat),e=pre++t.post++suf->t.wf->p.length+t.size<=60->
  fD (fmF e N) (m+t.size) (p,(pre.length:Int))=l9 (D6 (ffS N t.post) 0) (fD (fmF e N) m (p++[pcT N t],((pre.length+t.size:Nat):Int))) (some (.inr ([],ffS N t.post))):=by
 have stepN:∀(n:Int×Int) (pre suf:List (Int×Int)) (p args:List I9) (x:Tx) (m:Nat),e=pre++[n]++suf->p.length<=60->args.length<=3->arF n.1=(args.length:Int)->((n.2=0\/dY n.1=some true)->FN n args N x)->
   fD (fmF e N) (m+1) (p++args,(pre.length:Int))=l9 (D6 (flS n N) 0) (fD (fmF e N) m (p++[(x.1,x.2,Bq n.1)],((pre.length+1:Nat):Int))) (some (.inr ([],flS n N))):=by
  intro n pre suf p args x m h1 h2 h3 h4 h5;have hn:e[pre.length]? =some n:=by rw[h1,F5,F6 (A8 _),aH];rfl
  have hlt:=(X9.1 hn).1;rw[dC,b2L hn l7 l7 h3 h4 h5];unfold fmG;cases D6 (flS n N) 0<;>rfl
 intro t;induction t with
 |l0 n=>
  intro pre suf p m h hw hs;have hI1:=hI n (by rw[h];simp[XT.post]);have:=stepN n pre suf p [] (wK n N) m h l7 A7 hw (λhu=>b3C hN hI1 hw hu);rw[D8]at this;rw[show(XT.l0 n).size=1 from rfl,this];unfold XT.post ffS ffS;cases hf:D6 (flS n N) 0
  .simp only[o6,hf]
  .simp only[o7,O8 (rfl:(0:Int)=0)];rfl
 |l1 n a iha=>
  intro pre suf p m h hw hs;simp only[XT.post,XT.size]at h hs ⊢;have hI1:=hI n (by rw[h];simp);have hIa:∀n∈a.post,kQ n.2:=λq hq=>hI q (by rw[h];simp[hq]);have hl:=BI hN a hIa;rw[show m+(a.size+1)=(m+1)+a.size by omega,iha pre ([n]++suf) p (m+1) (by rw[h];simp) hw.2 l7,NT];cases hf:D6 (ffS N a.post) 0
  .simp only[o6,hf]
  have:=stepN n (pre++a.post) suf p [pcT N a] (Oi n N (Bq a.node.1) (txT N a)) m (by rw[h];simp) l7 A7 hw.1 (λhu=>b3D hN hI1 hw.1 hu (pcT N a) (by simp only[pcT];omega));rw[show(pre++a.post).length=pre.length+a.size by simp[XT.post_len]]at this;simp only[o7];rw[this];unfold ffS ffS;cases hg:D6 (flS n N) 0
  .simp only[o6,hg]
  .simp only[o7,O8 (rfl:(0:Int)=0)];rfl
 |l2 n a b iha ihb=>
  intro pre suf p m h hw hs;simp only[XT.post,XT.size]at h hs ⊢;have hI1:=hI n (by rw[h];simp);have hIa:∀n∈a.post,kQ n.2:=λq hq=>hI q (by rw[h];simp[hq]);have hIb:∀n∈b.post,kQ n.2:=λq hq=>hI q (by rw[h];simp[hq]);have hla:=BI hN a hIa;have hlb:=BI hN b hIb;have s1:=a.size_pos;have s2:=b.size_pos;rw[show m+(a.size+b.size+1)=(m+1+b.size)+a.size by omega,iha pre (b.post++[n]++suf) p (m+1+b.size) (by rw[h];simp) hw.2.1 l7,NT,NT];cases hf:D6 (ffS N a.post) 0
  .simp only[o6,hf]
  have i2:=ihb (pre++a.post) ([n]++suf) (p++[pcT N a]) (m+1) (by rw[h];simp) hw.2.2 F8;rw[show(pre++a.post).length=pre.length+a.size by simp[XT.post_len]]at i2;simp only[o7];rw[i2];cases hf2:D6 (ffS N b.post) 0
  .simp only[o6,hf2]
  have:=stepN n (pre++a.post++b.post) suf p [pcT N a,pcT N b] (Jm n (txT N a) (txT N b)) m (by rw[h];simp) l7 A7 hw.1 (λhu=>b3E hw.1 hu (pcT N a) (pcT N b) (by simp only[pcT];omega) (by simp only[pcT];omega));rw[show(pre++a.post++b.post).length=pre.length+a.size+b.size by simp[XT.post_len];omega,show pre.length+a.size+b.size+1=pre.length+(a.size+b.size+1) by omega]at this;simp only[o7];rw[show p++[pcT N a]++[pcT N b]=p++[pcT N a,pcT N b] by simp,this];unfold ffS ffS;cases hg:D6 (flS n N) 0
  .simp only[o6,hg]
  .simp only[o7,O8 (rfl:(0:Int)=0)];rfl
 |l3 n a b c iha ihb ihc=>
  intro pre suf p m h hw hs;simp only[XT.post,XT.size]at h hs ⊢;have hI1:=hI n (by rw[h];simp);have hIa:∀n∈a.post,kQ n.2:=λq hq=>hI q (by rw[h];simp[hq]);have hIb:∀n∈b.post,kQ n.2:=λq hq=>hI q (by rw[h];simp[hq]);have hIc:∀n∈c.post,kQ n.2:=λq hq=>hI q (by rw[h];simp[hq]);have hla:=BI hN a hIa;have hlb:=BI hN b hIb;have hlc:=BI hN c hIc;have s1:=a.size_pos;have s2:=b.size_pos;have s3:=c.size_pos;have h26:=ar3 hw.1;rw[show m+(a.size+b.size+c.size+1)=(m+1+c.size+b.size)+a.size by omega,iha pre (b.post++c.post++[n]++suf) p (m+1+c.size+b.size) (by rw[h];simp) hw.2.1 l7,NT,NT,NT];cases hf:D6 (ffS N a.post) 0
  .simp only[o6,hf]
  have i2:=ihb (pre++a.post) (c.post++[n]++suf) (p++[pcT N a]) (m+1+c.size) (by rw[h];simp) hw.2.2.1 F8;rw[show(pre++a.post).length=pre.length+a.size by simp[XT.post_len]]at i2;simp only[o7];rw[i2];cases hf2:D6 (ffS N b.post) 0
  .simp only[o6,hf2]
  have i3:=ihc (pre++a.post++b.post) ([n]++suf) (p++[pcT N a]++[pcT N b]) (m+1) (by rw[h];simp) hw.2.2.2 F8;rw[show(pre++a.post++b.post).length=pre.length+a.size+b.size by simp[XT.post_len];omega]at i3;simp only[o7];rw[i3];cases hf3:D6 (ffS N c.post) 0
  .simp only[o6,hf3]
  have:=stepN n (pre++a.post++b.post++c.post) suf p [pcT N a,pcT N b,pcT N c] (ifX (txT N a) (txT N b) (txT N c)) m (by rw[h];simp) l7 A7 hw.1 (λhu=>by obtain⟨k,v⟩:=n;simp only at h26 hu;subst h26;exact b3F hu (pcT N a) (pcT N b) (pcT N c) (by simp only[pcT];omega) (by simp only[pcT];omega) (by simp only[pcT];omega))
  rw[show(pre++a.post++b.post++c.post).length=pre.length+a.size+b.size+c.size by simp[XT.post_len];omega,show pre.length+a.size+b.size+c.size+1=pre.length+(a.size+b.size+c.size+1) by omega]at this;simp only[o7];rw[show p++[pcT N a]++[pcT N b]++[pcT N c]=p++[pcT N a,pcT N b,pcT N c] by simp,this];unfold ffS ffS;cases hg:D6 (flS n N) 0
  .simp only[o6,hg]
  .simp only[o7,O8 (rfl:(0:Int)=0)];rfl
def zM(e:List (Int×Int))(N:D9):c5y×Int:=match nP e with
 | .inl x=>([],x.2)| .inr t=>l9 (D6 (ffS N e) 0) ((txT N t).1,0) ([],ffS N e)
theorem a9e(hN:NmOk N)(hI:∀n∈e,kQ n.2):pX e N=some (zM e N):=by
 unfold pX Cb zM;rw[Ji];unfold BU;cases h:nP e with
 |inl x=>simp only[o9,O6 (zH h)];rfl|inr t=>
  obtain⟨h1,h2,h3,h4⟩:=a8E h;obtain⟨hp,-⟩:=uZ h;simp only[o9,O8 (rfl:(0:Int)=0),G8,o6];have hl:Y9 (fmF e N) ([],0)=some (l9 (D6 (ffS N e) 0) (.inl [pcT N t]) (.inr ([],ffS N e))):=by
   unfold Y9;rw[show aT=(aT -t.size)+t.size by unfold aT;omega];have:=b2M h2 hN hI t [] [] [] (aT -t.size) (by simp[←hp]) (Hu h) F8;rw[show(([]:List (Int×Int)).length:Int)=0 from rfl]at this;rw[this,←hp];cases D6 (ffS N e) 0
   .rfl
   .simp only[o7];rw[show aT -t.size=(aT -t.size -1)+1 by unfold aT;omega];rw[dC];unfold fmF;simp only[I5,fG];rw[←h3,show I7 ((e.length:Nat):Int) (x8 e)=false from aP e];rfl
  refine X5 hl ?_;rw[o9];cases D6 (ffS N e) 0<;>rfl
theorem ET{l:List c5y}(hf:Y6 n N=l9 (I7 n.2 0) (some 6) (l9 (X6 (x8 l) n.2) (some 6) (some 0)))(h:flS n N=0):U0 l n.2=some (gtN l n.2):=by
 unfold flS at h;rw[hf]at h;by_cases h0:n.2<0
 .rw[aA h0]at h;cases h
 by_cases h1:x8 l<=n.2
 .rw[U5 l7,ay h1]at h;cases h
 exact(Ob l7 l7).1
theorem a5F(hm:kQ m)(h:flS (34,m) N=0):U0 N.2.1 (eP .i64 m 8)=some (gtN N.2.1 (eP .i64 m 8))/\0<=jB m 8/\jB m 8<=5:=by
 have hf:Y6 (34,m) N=l9 (I7 m 0) (some 6) (l9 (X6 (x8 N.2.1) (eP .i64 m 8)) (some 6) (l9 (I7 5 (jB m 8)) (some 3) (some 0))):=rfl;unfold flS at h;rw[hf]at h;by_cases h0:m<0
 .rw[aA h0]at h;cases h
 by_cases h1:x8 N.2.1<=eP .i64 m 8
 .rw[U5 l7,ay h1]at h;cases h
 by_cases h2:5<jB m 8
 .rw[U5 l7,bW l7,aA h2]at h;cases h
 have hq:eP .i64 m 8=m / 8:=by rw[PR hm 8 (.inl rfl),pg l7]
 have hr0:jB m 8=m % 8:=Ce l7;exact⟨(Ob l7 l7).1,l7,l7⟩
theorem a9c(hk:k=14\/k=15\/k=16)(h:flS (k,m) N=0):0<=m/\m<=5:=by
 have hf:Y6 (k,m) N=l9 (I7 m 0) (some 3) (l9 (I7 5 m) (some 3) (some 0)):=by rcases hk with rfl|rfl|rfl<;>rfl
 unfold flS at h;rw[hf]at h;by_cases h0:m<0
 .rw[aA h0]at h;cases h
 by_cases h2:5<m
 .rw[U5 l7,aA h2]at h;cases h
 omega
theorem ZZ{N:D9} :∀{l:List (Int×Int)},ffS N l=0->∀n∈l,flS n N=0
 |[],_,n,h=>by cases h|a::l,h,n,hn=>by
  unfold ffS at h;cases hf:D6 (flS a N) 0
  .rw[hf]at h;rw[o6]at h;exact absurd h (zZ.1 hf)
  .rw[hf]at h;rw[o7]at h;rcases D5.1 hn with rfl|hn
   .exact bM.1 hf
   .exact ZZ h n hn
theorem b2N(hN:NmOk N)(hI:∀n∈e,kQ n.2):(zM e N).1.length<=150000:=by
 unfold zM;cases h:nP e with
 |inl x=>simp|inr t=>
  obtain⟨hp,h48⟩:=uZ h;have:=BI hN t (by rw[←hp];exact hI);rw[←t.post_len,←hp]at this;simp only;cases D6 (ffS N e) 0
  .simp[l9]
  .simp only[o7];omega
def clB(n:Int):Int:=l9 (I7 n 0) 0 (l9 (I7 8 n) 8 n)
theorem QA(n:Int):0<=clB n/\clB n<=8:=by
 unfold clB;by_cases h:n<0
 .rw[aA h];simp[l9]
 by_cases h2:8<n
 .rw[U5 l7,aA h2];simp[l9]
 .rw[U5 l7,U5 l7];exact⟨by simp[l9];omega,by simp[l9];omega⟩
theorem Vk{n:Int}(h:0<=n/\n<=8):clB n=n:=by unfold clB;rw[U5 l7,U5 l7];rfl
theorem OX(n:Int):kU n=some (clB n):=by
 unfold kU clB EJ CW;simp only[wF,vK]
 repeat' split
 all_goals first|rfl|omega|(congr 1;omega)
theorem b1f:∀k:Fin 9,AQ .i64 1 (k.val:Int)=some (2^k.val)/\a4e (k.val:Int)=some (2^k.val):=by decide+kernel
def tvS(p:Int×Int)(n:Int):Bool:=l9 (X6 0 p.1) (l9 (I7 p.1 (2^(clB n).toNat)) (l9 (X6 0 p.2) (D6 (ak .i64 p.2 p.1) p.2) false) false) false
theorem c4r(p:Int×Int)(n:Int):BV p n=some (tvS p n):=by
 unfold BV tvS;rw[OX,o9];obtain⟨k,hk⟩:∃k:Fin 9,clB n=(k.val:Int):=⟨⟨(clB n).toNat,by have:=QA n;omega⟩,by have:=QA n;simp;omega⟩;rw[hk,(b1f k).1,o9,H6];cases X6 0 p.1
 .rfl
 cases I7 p.1 (2^k.val)
 .rfl
 cases X6 0 p.2<;>rfl
theorem a0J:∀v:Fin 256,∀i:Fin 8,D6 (ak .i64 (jh .i64 (v.val:Int) (i.val:Int)) 1) 0=D6 (ak .i64 (v.val:Int) (2^i.val)) 0/\D6 (ak .i64 (jh .i64 (v.val:Int) (i.val:Int)) 1) 1=J8 (D6 (ak .i64 (v.val:Int) (2^i.val)) 0):=by decide+kernel
theorem a5l:∀a:Fin 256,∀b:Nat,b<9223372036854775808->(BitVec.ofInt 64 (b:Int)&&& BitVec.ofInt 64 (a.val:Int)).toNat<=a.val:=by
 intro a b hb;rw[BitVec.toNat_and];have h:(BitVec.ofInt 64 ((a.val:Nat):Int)).toNat=a.val:=by rw[pF];have:=a.isLt;omega
 rw[h];exact Nat.and_le_right
variable {p:Int×Int}
theorem Lp{n:Int}(hI:kQ p.2)(h:tvS p n=true):(0<=p.1/\p.1<2^(clB n).toNat/\p.1<=255)/\0<=p.2/\p.2<=p.1:=by
 unfold tvS at h;cases h1:X6 0 p.1<;>rw[h1]at h
 .cases h
 cases h2:I7 p.1 (2^(clB n).toNat)<;>rw[h2]at h
 .cases h
 cases h3:X6 0 p.2<;>rw[h3]at h
 .cases h
 rw[o7,o7,o7]at h;have h1:=qB.1 h1;have h2:=vK.1 h2;have h3:=qB.1 h3;have h4:=bM.1 h;have h255:p.1<=255:=by
  obtain⟨k,hk⟩:∃k:Fin 9,(clB n).toNat=k.val:=⟨⟨(clB n).toNat,by have:=QA n;omega⟩,rfl⟩;rw[hk]at h2;have:∀k:Fin 9,(2:Int)^k.val<=256:=by decide
  have:=this k;omega
 refine⟨⟨h1,h2,h255⟩,h3,?_⟩;unfold kQ at hI;have:=a5l ⟨p.1.toNat,l7⟩ p.2.toNat l7;rw[N7 h3]at this;simp only at this;rw[N7 h1]at this;have e:ak .i64 p.2 p.1=((BitVec.ofInt 64 p.2&&& BitVec.ofInt 64 p.1).toNat:Int):=by unfold ak;refine uQ ?_;show kQ ((BitVec.ofInt 64 p.2&&& BitVec.ofInt 64 p.1).toNat:Int);unfold kQ;omega
 rw[e]at h4;omega
def UX(p:Int×Int)(i:Nat):Int:=l9 (D6 (ak .i64 p.1 (2^i)) 0) 45 (l9 (D6 (ak .i64 p.2 (2^i)) 0) 48 49)
def Gs(p:Int×Int):Nat->c5z
 |0=>[]|k+1=>UX p k::Gs p k
theorem LM(p:Int×Int):∀k,(Gs p k).length=k
 |0=>rfl|k+1=>by unfold Gs;simp[LM p k]
def Oj(p:Int×Int)(n:Int):c5y:=JG (Gs p (clB n).toNat)
theorem b2u(h1:0<=p.1/\p.1<=255)(h2:0<=p.2/\p.2<=255){i:Nat}(hi:i<8)(acc:c5z)(hacc:acc.length<=100):
  (o5 (EX IntKind.i64 p.1 (i:Int)) λ(x_1:Int)=>
      l9 (D6 (ak IntKind.i64 x_1 1) 0)
       (o5 (eY acc [45]) λ(x_2:c5z)=>some (Sum.inl (x_2,Y5 IntKind.i64 (i:Int) 1)))
       (o5 (EX IntKind.i64 p.2 (i:Int)) λ(x_2:Int)=>
        l9 (D6 (ak IntKind.i64 x_2 1) 1)
         (o5 (eY acc [49]) λ(x_3:c5z)=>some (Sum.inl (x_3,Y5 IntKind.i64 (i:Int) 1)))
         (o5 (eY acc [48]) λ(x_3:c5z)=>some (Sum.inl (x_3,Y5 IntKind.i64 (i:Int) 1)))))=(some (.inl (acc++[UX p i],(i:Int) -1)):Option ((c5z×Int)⊕c5z)):=by
 have a1:=a0J ⟨p.1.toNat,l7⟩ ⟨i,hi⟩;have a2:=a0J ⟨p.2.toNat,l7⟩ ⟨i,hi⟩;simp only[N7 h1.1,N7 h2.1]at a1 a2;have so:∀v:Int,EX .i64 v (i:Int)=some (jh .i64 v (i:Int)):=by intro v;unfold EX;rw[if_neg l7]
 rw[so,so,o9,o9,a1.1,a2.2,fC (show kQ ((i:Int) -1) by unfold kQ;omega)];rw[qm _ l7,qm _ l7,qm _ l7,o9,o9,o9];unfold UX;cases D6 (ak .i64 p.1 (2^i)) 0<;>cases D6 (ak .i64 p.2 (2^i)) 0<;>rfl
theorem b6I{n:Int}(hI:kQ p.2)(h:tvS p n=true):xX p n=some (Oj p n):=by
 obtain⟨⟨b1,-,b2⟩,b3,b4⟩:=Lp hI h;obtain⟨k,hk⟩:∃k:Nat,clB n=(k:Int):=⟨(clB n).toNat,by have:=QA n;omega⟩;have hk8:k<=8:=by have:=QA n;omega
 unfold xX Oj;rw[OX,o9,hk,H6,fC bI];have key:∀(k m:Nat) (acc:c5z),k<=8->acc.length+k<=50->xg (λ(x:c5z×Int)=>
    l9 (X6 0 x.2)
     (o5 (EX IntKind.i64 p.1 x.2) λ(x_1:Int)=>
      l9 (D6 (ak IntKind.i64 x_1 1) 0)
       (o5 (eY x.1 [45]) λ(x_2:c5z)=>some (Sum.inl (x_2,Y5 IntKind.i64 x.2 1)))
       (o5 (EX IntKind.i64 p.2 x.2) λ(x_2:Int)=>
        l9 (D6 (ak IntKind.i64 x_2 1) 1)
         (o5 (eY x.1 [49]) λ(x_3:c5z)=>some (Sum.inl (x_3,Y5 IntKind.i64 x.2 1)))
         (o5 (eY x.1 [48]) λ(x_3:c5z)=>some (Sum.inl (x_3,Y5 IntKind.i64 x.2 1)))))
     (some (Sum.inr x.1))) (m+k+1) (acc,(k:Int) -1)=some (acc++Gs p k):=by
  intro k;induction k with
  |zero=>intro m acc _ _;refine(Me (e:=acc) ?_).trans (by rw[show Gs p 0=[]from rfl,D8]);rfl|succ k ih=>
   intro m acc hk ha;rw[show m+(k+1)+1=(m+k+1)+1 by omega,show(((k+1:Nat):Int) -1)=(k:Int) by omega];rw[YN (s' :=(acc++[UX p k],(k:Int) -1)) (by simp only[ay (show(0:Int)<=(k:Int) by omega),o7];exact b2u ⟨b1,b2⟩ ⟨b3,l7⟩ l7 acc l7)]
   rw[ih m _ l7 (by simp;have:=ha;omega)];rw[show Gs p (k+1)=UX p k::Gs p k from rfl];simp
 have:=key k (aT -k -1) [] hk8 F8;rw[show aT -k -1+k+1=aT by unfold aT;omega]at this;refine X5 this ?_;rfl
theorem b3t(p:Int×Int)(n:Int):(Oj p n).length<=8:=by have:=QA n;unfold Oj JG;rw[J6,LM];omega
theorem a8P{a:List gm}(h:a.length<=1000000)(h2:∀e∈a,e.2.length<=1000000):xQ a=some a:=by
 unfold xQ;refine X5 (d_ a (λe=>e) h (F:=λx=>x) (λi e acc he hi=>?_) (λacc=>?_)) ?_
 rotate_left 2
 .rw[o9,List.map_id']
 .have hlt:=(X9.1 he).1;simp only[Z8 he,o7,U4,he,o9,a2Z (h2 e (vM he))];rw[qm _ l7];rfl
 .simp only[aP a,o6]
theorem a3t{l:List mF}(h:l.length<=1000000):oq l=some (l.map (·.1)):=by
 unfold oq;refine X5 (d_ l (λ(f:mF)=>f.1) h (F:=λx=>x) (λi e acc he hi=>?_) (λacc=>?_)) ?_
 rotate_left 2
 .rfl
 .have hlt:=(X9.1 he).1;simp only[Z8 he,o7,U4,he,o9];rw[qm _ l7];rfl
 .simp only[aP l,o6]
def nmS(l:gz)(s:N8):D9:=(l.1,l.2.1.map (·.1),s.2.2.1.map (·.1),s.2.2.2.1.map (·.1),l9 (X6 0 s.2.1) (match U0 l.2.2 s.2.1 with|some q=>q.2.2.2.1.map (·.1)|none=>[]) [])
structure NmL (l:gz):Prop where
 ne:l.1.length<=9
 nt:l.2.1.length<=9
 e:∀e∈l.1,e.2.length<=20/\e.1.length<=80/\∀m∈e.2,m.length<=80
 t:∀t∈l.2.1,t.1.length<=80
 s:∀s∈l.2.2,s.2.2.1.length<=14/\s.2.2.2.1.length<=14/\s.2.2.2.2.length<=96/\(∀f∈s.2.2.1,f.1.length<=80)/\(∀f∈s.2.2.2.1,f.1.length<=80)/\∀r∈s.2.2.2.2,r.1.length<=80
variable {l:gz}
theorem a3J(h:smL l=true)(hW:WfL l):NmL l:=by
 unfold smL at h;obtain⟨h1,h⟩:=Gq h;obtain⟨h2,h⟩:=Gq h;obtain⟨h3,h⟩:=Gq h;obtain⟨h4,h⟩:=Gq h;cases ht:ja tG l.2.1 0 with
 |inr r=>rw[ht]at h;cases h|inl b=>
  rw[ht]at h;simp only at h;cases hs:ja sG l.2.2 0 with
  |inr r=>rw[hs]at h;cases h|inl b' =>
   have T:=a4O l.2.1 0 b l7 l7 hW.rl ht;have S:=a4y l.2.2 0 b' l7 l7 hW.sl hs;refine⟨ik (n:=9) h1,ik (n:=9) h2,λe he=>?_,λt ht=>(T t ht).1,λs hs=>?_⟩
   .have hl:=Nb h4 e he;unfold YM at hl;cases g1:I7 80 (x8 e.1)<;>rw[g1]at hl
    case true=>cases hl
    cases g2:I7 20 (x8 e.2)<;>rw[g2]at hl
    case true=>cases hl
    refine⟨ik (n:=20) g2,ik (n:=80) g1,λm hm=>?_⟩;have:=Nb (p:=λm=>I7 80 (x8 m)) hl m hm;exact ik (n:=80) this
   .have h:=S s hs;unfold smS at h;obtain⟨a1,h⟩:=Gq h;obtain⟨a2,h⟩:=Gq h;obtain⟨a3,h⟩:=Gq h;obtain⟨a4,h⟩:=Gq h;obtain⟨a5,h⟩:=Gq h;obtain⟨a6,h⟩:=Gq h;have a7:s.2.2.2.2.any NC=false:=by revert h;cases s.2.2.2.2.any NC<;>intro h<;>first|rfl|cases h
    refine⟨ik (n:=14) a2,ik (n:=14) a3,X7 (ik (n:=60) a4) l7,λf hf=>ik (n:=80) (Nb a5 f hf),λf hf=>ik (n:=80) (Nb a6 f hf),λr hr=>?_⟩;have hl:=Nb a7 r hr;unfold NC at hl;cases g1:I7 80 (x8 r.1)<;>rw[g1]at hl
    case true=>cases hl
    exact ik (n:=80) g1
variable {s:N8}
theorem b6w(h:NmL l)(hs:s∈l.2.2):NmOk (nmS l s):=by
 obtain⟨s1,s2,s3,s4,s5,s6⟩:=h.s s hs;refine⟨λe he=>?_,λx hx=>?_,λx hx=>?_,λx hx=>?_,λx hx=>?_⟩
 .have:=h.e e he;exact⟨l7,λm hm=>by have:=this.2.2 m hm;omega⟩
 .obtain⟨t,ht,rfl⟩:=I8.1 hx;have:=h.t t ht;omega
 .obtain⟨f,hf,rfl⟩:=I8.1 hx;have:=s4 f hf;omega
 .obtain⟨f,hf,rfl⟩:=I8.1 hx;have:=s5 f hf;omega
 .unfold nmS at hx;simp only at hx;cases g:X6 0 s.2.1<;>rw[g]at hx
  .cases hx
  .simp only[o7]at hx;split at hx
   .rename_i q hq;obtain⟨f,hf,rfl⟩:=I8.1 hx;have:=(h.s q (fF hq).2.2.1).2.2.2.2.1 f hf;omega
   .cases hx
theorem a7S(h:NmL l)(hs:U0 l.2.2 k=some s):xw l k=some (nmS l s):=by
 obtain⟨k0,k1,hm,-⟩:=fF hs;obtain⟨s1,s2,-⟩:=h.s s hm;have nt:=h.nt;unfold xw;rw[U5 k0,bW k1,o6,o6,o9,Y4,hs,o9,a3t l7,o9,a3t l7,o9];refine En l.2.1 (λ(b:D9) (t:pR)=>((b.1,b.2.1++[t.1],b.2.2):D9)) (λb i=>(b,i)) (λb=>b) (λi b=>b.2.1.length=i) (l.1,[],s.2.2.1.map (·.1),s.2.2.2.1.map (·.1),[]) l7 rfl (λi t b hx hi hI=>?_) (λb _=>?_) (λ_=>?_)
 .have hlt:=(X9.1 hx).1;simp only[Z8 hx,o7,U4,hx,o9];rw[qm _ l7,o9,gu l7];exact⟨rfl,by simp;omega⟩
 .simp only[aP l.2.1,o6]
 .have e:∀(L:List pR) (b:D9),L.foldl (λ(b:D9) (t:pR)=>((b.1,b.2.1++[t.1],b.2.2):D9)) b=(b.1,b.2.1++L.map (·.1),b.2.2):=by
   intro L;induction L with
   |nil=>intro b;simp|cons t L ih=>intro b;rw[bY,ih];simp
  rw[e];unfold nmS;cases g:X6 0 s.2.1
  .simp[l9]
  .by_cases g2:s.2.1<x8 l.2.2
   .obtain⟨q,hq,hmq⟩:=vP (qB.1 g) g2;have:=(h.s q hmq).2.1;rw[aA g2,hq];simp only[o7,o9];rw[a3t l7,o9];simp
   .rw[U5 (wJ.1 g2)];have:U0 l.2.2 s.2.1=none:=by
     cases hq:U0 l.2.2 s.2.1 with
     |none=>rfl|some q=>exact absurd (fF hq).2.1 g2
    rw[this];simp[l9]
theorem a1y(h:NmL l)(hs:U0 l.2.2 k=some s):sH l k=some (nmS l s):=by rw[Xm (a8P (by have:=h.ne;omega) (λe he=>by have:=(h.e e he).1;omega)) k];exact a7S h hs
def SzT(t:G9):Prop:=t.2.1.length<=10/\t.2.2.1.length<=20/\t.2.2.2.length<=10000
abbrev Yf:Type:=c5y×Int
def ruB(s:N8)(r:Int):Bool:=l9 (X6 0 r) (I7 r (x8 s.2.2.2.2)) false
def ruN(s:N8)(r:Int):c5y:=((U0 s.2.2.2.2 r).map (·.1)).getD []
theorem Zh{r:Int}(h:ruB s r=true):I7 r 0=false/\X6 (x8 s.2.2.2.2) r=false/\X6 0 r=true/\I7 r (x8 s.2.2.2.2)=true/\∃q,U0 s.2.2.2.2 r=some q/\q.1=ruN s r/\q∈s.2.2.2.2:=by
 unfold ruB at h;cases h1:X6 0 r<;>rw[h1]at h
 .cases h
 rw[o7]at h;have a:=qB.1 h1;have b:=vK.1 h;obtain⟨q,hq,hm⟩:=vP a b;exact⟨U5 a,bW b,rfl,h,q,hq,by unfold ruN;rw[hq];rfl,hm⟩
theorem c1A{r:Int}(h:ruB s r=false):I7 r 0=true\/(I7 r 0=false/\X6 (x8 s.2.2.2.2) r=true):=by
 unfold ruB at h;by_cases h1:0<=r
 .rw[ay h1,o7]at h;exact .inr ⟨U5 h1,ay (rP.1 h)⟩
 .exact .inl (aA l7)
def a2I(s:N8)(r:Int)(t:c5y):c5y:=[119,104,101,110,32]++ruN s r++[32]++t++[10]
abbrev FmF:Type:=List (Int×Int)->D9->c5y×Int
def FV(F:FmF)(s:N8)(N:D9)(t:c5y)(x:List (Int×Int)×Int):c5y⊕Yf:=
 l9 (ruB s x.2) (l9 (D6 (F x.1 N).2 0) (.inl (t++a2I s x.2 (F x.1 N).1)) (.inr ([],(F x.1 N).2))) (.inr ([],6))
def CE(p:Int×Int)(n:Int):c5y:=l9 (I7 0 n) (Oj p n) [46]
def QY(s:N8)(o:Int):c5y:=l9 (D6 o (-1)) [110,111,110,101] (l9 (D6 o (-2)) [99,111,110,102,108,105,99,116] ([114,117,108,101,32]++ruN s o))
def XZ(s:N8)(r:L8)(n:Int):c5y:=[114,111,119,32]++CE r.1 n++[32]++QY s r.2++[10]
def WC(s:N8)(o:Int):Bool:=l9 (D6 o (-1)) true (l9 (D6 o (-2)) true (ruB s o))
def Ja(s:N8)(n:Int)(r:L8):Int:=l9 (tvS r.1 n) (l9 (WC s r.2) 0 6) 3
def Qd(s:N8)(n:Int)(t:c5y)(r:L8):c5y⊕Yf:=l9 (D6 (Ja s n r) 0) (.inl (t++XZ s r n)) (.inr ([],Ja s n r))
def a4s(s:N8)(n:Int)(t:c5y)(r:L8):c5y⊕Yf:=l9 (D6 (Ja s n r) 0) (.inl (l9 (X6 (x8 t) 65536) (t++XZ s r n) t)) (.inr ([],Ja s n r))
theorem Us(h:∀r∈s.2.2.2.2,r.1.length<=80)(o:Int):(ruN s o).length<=80:=by
 unfold ruN;cases hq:U0 s.2.2.2.2 o with
 |none=>simp|some q=>exact h q (fF hq).2.2.1
theorem a9X(h:∀r∈s.2.2.2.2,r.1.length<=80)(o:Int):(QY s o).length<=90:=by have:=Us h o;unfold QY;cases D6 o (-1)<;>cases D6 o (-2)<;>simp[l9]<;>omega
theorem QZ(p:Int×Int)(n:Int):(CE p n).length<=8:=by
 have:=b3t p n;unfold CE;cases I7 0 n
 .simp[l9]
 .exact this
theorem a2e(h:∀r∈s.2.2.2.2,r.1.length<=80)(r:L8)(n:Int):1<=(XZ s r n).length/\(XZ s r n).length<=110:=by have h1:=a9X h r.2;have h2:=QZ r.1 n;unfold XZ;simp;omega
theorem a4q(h:∀r∈s.2.2.2.2,r.1.length<=80){r:L8}(hI:kQ r.1.2)(n:Int):oJ s r n=some (l9 (D6 (Ja s n r) 0) (XZ s r n,0) ([],Ja s n r)):=by
 have hl:=QZ r.1 n;have ho:=Us h r.2;unfold oJ Ja;rw[c4r,o9];cases ht:tvS r.1 n
 .rfl
 have hp:(l9 (I7 0 n) (o5 (xX r.1 n) λ(x:c5y)=>some x) (some [46]))=some (CE r.1 n):=by
  unfold CE;cases I7 0 n
  .rfl
  .rw[b6I hI ht];rfl
 simp only[G8,o6,o7];rw[hp,o9];unfold WC XZ QY;cases h1:D6 r.2 (-1)
 case true=>simp only[o7,O8 (rfl:(0:Int)=0)];rw[P6 F8,o9,P6 F8,o9];simp
 cases h2:D6 r.2 (-2)
 case true=>simp only[o7,o6,O8 (rfl:(0:Int)=0)];rw[P6 F8,o9,P6 F8,o9];simp
 simp only[o6];cases h3:ruB s r.2
 .unfold ruB at h3;cases h4:X6 0 r.2
  .rfl
  .rw[h4,o7]at h3;rw[h3];rfl
 .obtain⟨a1,a2,a3,a4,q,a5,a6,a7⟩:=Zh h3;rw[a3,a4,a5];simp only[o7,O8 (rfl:(0:Int)=0),o9];rw[P6 F8,o9,P6 F8,o9,a6,P6 F8,o9,P6 F8,o9];simp
theorem a2g{s:N8}(h:∀r∈s.2.2.2.2,r.1.length<=80)(n:Int):∀(L:List L8) (a b:c5y),a=b\/(65536<x8 a/\65536<x8 b)->
  (∃c,ja (a4s s n) L a= .inr c/\ja (Qd s n) L b= .inr c)\/∃x y,ja (a4s s n) L a= .inl x/\ja (Qd s n) L b= .inl y/\(x=y\/(65536<x8 x/\65536<x8 y))
 |[],a,b,hr=> .inr ⟨a,b,rfl,rfl,hr⟩|r::L,a,b,hr=>by
  unfold ja a4s Qd;cases D6 (Ja s n r) 0
  .exact .inl ⟨_,rfl,rfl⟩
  simp only[o7];refine a2g h n L _ _ ?_;have hl:=a2e h r n;rcases hr with rfl|⟨h1,h2⟩
  .by_cases g:x8 a<=65536
   .rw[ay g,o7];exact .inl rfl
   .rw[bW l7,o6];refine .inr ⟨l7,?_⟩;unfold x8 at g ⊢;simp;omega
  .rw[bW h1,o6];refine .inr ⟨h1,?_⟩;unfold x8 at h2 ⊢;simp;omega
end Go.GP
namespace Go.GP
open Gt
set_option maxRecDepth 100000
def dfS(F:FmF)(l:gz)(k:Int)(t:G9):Yf:=
 l9 (D6 (qG l).1 0) (match U0 l.2.2 k with
  |none=>([],6)
  |some s=>match U0 s.2.2.2.1 t.1 with
   |none=>([],6)
   |some d=>l9 (I7 8 (x8 t.2.1)) ([],4) (l9 (D6 (x8 t.2.2.1) (x8 t.2.1)) (match ja (FV F s (nmS l s)) (t.2.1.zip t.2.2.1) ([100,101,99,105,115,105,111,110,32]++d.1++[10])with
    | .inr r=>r
    | .inl b=>match ja (Qd s (x8 t.2.1)) t.2.2.2 b with
     | .inr r=>r
     | .inl y=>l9 (I7 65536 (x8 y)) ([],4) (y,0)) ([],2))) ([],1)
theorem a9q{α:Type}{l:List α}{k:Int}(h:I7 k 0=true\/I7 k 0=false/\X6 (x8 l) k=true):U0 l k=none:=by
 cases hq:U0 l k with
 |none=>rfl|some q=>
  obtain⟨a,b,-,-⟩:=fF hq;rcases h with h|⟨-,h⟩
  .have:=vK.1 h;omega
  .have:=qB.1 h;omega
structure WfT (t:G9):Prop where
 n:∀e∈t.2.1,∀n∈e,kQ n.2
 r:∀r∈t.2.2.2,kQ r.1.2
def b8P(F:FmF)(N:D9)(t:G9):Prop:=∀e∈t.2.1,pX e N=some (F e N)/\(F e N).1.length<=150000
theorem LJ{α β:Type}{a:List α}{b:List β}{i:Nat}{x:α×β}(h:(a.zip b)[i]? =some x):a[i]? =some x.1/\b[i]? =some x.2:=by rw[List.getElem?_zip_eq_some]at h;exact h
theorem a0N{F:FmF}{s:N8}{N:D9}(hs:∀r∈s.2.2.2.2,r.1.length<=80){t t' :c5y}{x:List (Int×Int)×Int}(h1:(F x.1 N).1.length<=150000)(h:FV F s N t x= .inl t'):t'.length<=t.length+151000:=by
 unfold FV at h;have h2:=Us hs x.2;cases g1:ruB s x.2<;>rw[g1]at h
 .cases h
 cases g2:D6 (F x.1 N).2 0<;>rw[g2]at h
 .cases h
 simp only[o7]at h;cases h;unfold a2I;simp;omega
section
variable {F:FmF} {l:gz} {k:Int} {t:G9} {s:N8} (hL:NmL l) (hs:U0 l.2.2 k=some s) (hT:SzT t) (hF:b8P F (nmS l s) t) (hW:∀r∈t.2.2.2,kQ r.1.2) (hlen:t.2.2.1.length=t.2.1.length)
include hL hs hT hF hW hlen
theorem a7P(b:c5y)(hb:b.length<=1000):Y9
                  (λ(x_7:c5y×Int)=>
                   l9 (I7 x_7.2 (x8 t.2.1))
                    (o5 (U0 t.2.1 x_7.2) λ(x_8:List F9)=>
                     o5 (U0 t.2.2.1 x_7.2) λ(x_9:Int)=>
                      l9 (I7 x_9 0) (some (Out.rt (([]:c5y),(6:Int))))
                       (l9 (X6 (x8 s.2.2.2.2) x_9) (some (Out.rt ([],6)))
                        (o5 (pX x_8 (nmS l s)) λ(x_10:c5y×Int)=>
                         l9 (J8 (D6 x_10.2 0)) (some (Out.rt ([],x_10.2)))
                          (o5 (U0 s.2.2.2.2 x_9) λ(x:iV)=>
                           o5 (aO [119,104,101,110,32] x.1) λ(x:c5y)=>
                            o5 (aO x [32]) λ(x:c5y)=>
                             o5 (aO x x_10.1) λ(x:c5y)=>
                              o5 (aO x [10]) λ(x:c5y)=>
                               o5 (nV x_7.1 x)
                                λ(x:Int×PUnit×c5y)=>
                                some (Out.nx (x.2.2,G6 IntKind.i64 x_7.2 1))))))
                    (some (Out.ex x_7.1)))
                  (b,0)=some (ja (FV F s (nmS l s)) (t.2.1.zip t.2.2.1) b):=by
 obtain⟨a1,a2,a3⟩:=hT;obtain⟨-,-,hm,-⟩:=fF hs;have hr:=(hL.s s hm).2.2.2.2.2;have hz:(t.2.1.zip t.2.2.1).length=t.2.1.length:=by rw[xO];omega
 refine Eq.trans (Oc (t.2.1.zip t.2.2.1) (FV F s (nmS l s)) (λb i=>(b,i)) (λb=>b) (λi b=>b.length<=1000+i*151000) l7 l7 (λi x b hx hi hI=>?_) (λb hI=>?_)).1 ?_
 .obtain⟨h1,h2⟩:=LJ hx;have hlt:=(X9.1 h1).1;obtain⟨hf1,hfl⟩:=hF x.1 (vM h1);refine⟨?_,λb' hb' =>by have:=a0N hr hfl hb';omega⟩;simp only[Z8 h1,o7,U4,h1,h2,o9,hf1];unfold FV;cases g1:ruB s x.2
  .rcases c1A g1 with g|⟨g,g'⟩
   .rw[g];rfl
   .rw[g,g'];rfl
  .obtain⟨b1,b2,b3,b4,q,b5,b6,b7⟩:=Zh g1;have hq:=Us hr x.2;simp only[b1,b2,b5,b6,o6,o7,o9];cases D6 (F x.1 (nmS l s)).2 0
   .rfl
   .simp only[G8,o6,o7];rw[P6 F8,o9,P6 F8,o9,P6 F8,o9,P6 F8,o9];unfold nV;rw[if_pos F8,o9,gu l7];rfl
 .simp only;rw[hz,aP];rfl
 .cases ja (FV F s (nmS l s)) (t.2.1.zip t.2.2.1) b<;>rfl
theorem a8Q{b b' :c5y}(hb:b.length<=1000)(h:ja (FV F s (nmS l s)) (t.2.1.zip t.2.2.1) b= .inl b'):b'.length<=2000000:=by
 obtain⟨a1,a2,a3⟩:=hT;obtain⟨-,-,hm,-⟩:=fF hs;have hr:=(hL.s s hm).2.2.2.2.2;have key:∀(L:List (List (Int×Int)×Int)) (b:c5y),(∀x∈L,(F x.1 (nmS l s)).1.length<=150000)->ja (FV F s (nmS l s)) L b= .inl b' ->b'.length<=b.length+L.length*151000:=by
  intro L;induction L with
  |nil=>intro b _ h;cases h;simp|cons x L ih=>
   intro b hx h;unfold ja at h;cases hg:FV F s (nmS l s) b x with
   |inr r=>rw[hg]at h;cases h|inl c=>rw[hg]at h;have h1:=a0N hr (hx x A7) hg;have h2:=ih c (λy hy=>hx y (by simp[hy])) h;rw[D7,L6];omega
 have:=key _ b (λx hx=>by obtain⟨i,hi,rfl⟩:=Y8 hx;exact(hF _ (vM (LJ (jk hi)).1)).2) h
 have hz:(t.2.1.zip t.2.2.1).length<=10:=by rw[xO];omega
 have:(t.2.1.zip t.2.2.1).length*151000<=10*151000:=J4 _ hz;omega
theorem a7Q(b:c5y)(hb:b.length<=2000000):Y9
                     (λ(x_7:c5y×Int)=>
                      l9 (I7 x_7.2 (x8 t.2.2.2))
                       (o5 (U0 t.2.2.2 x_7.2) λ(x_8:L8)=>
                        o5 (oJ s x_8 (x8 t.2.1))
                         λ(x:c5y×Int)=>
                         l9 (J8 (D6 x.2 0)) (some (Out.rt (([]:c5y),x.2)))
                          (o5 (DJ x_7.1) λ(x_9:Int×c5y)=>
                           l9 (X6 x_9.1 65536)
                            (o5 (nV x_9.2 x.1)
                             λ(x:Int×PUnit×c5y)=>
                             some (Out.nx (x.2.2,G6 IntKind.i64 x_7.2 1)))
                            (some (Out.nx (x_9.2,G6 IntKind.i64 x_7.2 1)))))
                       (some (Out.ex x_7.1)))
                     (b,0)=some (ja (a4s s (x8 t.2.1)) t.2.2.2 b):=by
 obtain⟨a1,a2,a3⟩:=hT;obtain⟨-,-,hm,-⟩:=fF hs;have hr:=(hL.s s hm).2.2.2.2.2;refine Eq.trans (Oc t.2.2.2 (a4s s (x8 t.2.1)) (λb i=>(b,i)) (λb=>b) (λi b=>b.length<=2000000+i*200) l7 l7 (λi x b hx hi hI=>?_) (λb hI=>?_)).1 ?_
 .have hlt:=(X9.1 hx).1;have hrl:=a2e hr x (x8 t.2.1);simp only[Z8 hx,o7,U4,hx,o9,a4q hr (hW x (vM hx)) (x8 t.2.1)];unfold a4s;cases hc:D6 (Ja s (x8 t.2.1) x) 0
  .simp only[o6,hc,Y2,o7];exact⟨trivial,λb' h=>by cases h⟩
  .simp only[o7,O8 (rfl:(0:Int)=0),G8,o6];unfold DJ;simp only[o9];rw[show((b.length:Nat):Int)=x8 b from rfl];cases X6 (x8 b) 65536
   .simp only[o6];rw[gu l7];exact⟨rfl,λb' h=>by cases h;omega⟩
   .simp only[o7];unfold nV;rw[if_pos l7,o9,gu l7];exact⟨rfl,λb' h=>by cases h;simp;omega⟩
 .simp only[aP,o6]
 .cases ja (a4s s (x8 t.2.1)) t.2.2.2 b<;>rfl
end
end Go.GP
namespace Go.GP
open Gt
set_option maxRecDepth 100000
theorem Mc{α:Type}(l:List α)(k:Int):(I7 k 0=true\/I7 k 0=false/\X6 (x8 l) k=true)\/(I7 k 0=false/\X6 (x8 l) k=false/\∃x,U0 l k=some x/\x∈l):=by
 by_cases h0:k<0
 .exact .inl (.inl (aA h0))
 by_cases h1:x8 l<=k
 .exact .inl (.inr ⟨U5 l7,ay h1⟩)
 .exact .inr ⟨U5 l7,bW l7,vP l7 l7⟩
theorem b8M{l:gz}(h:(qG l).1=0):qG l=(0,0,0,0):=by
 unfold qG at h ⊢;cases h1:D6 (FW l).1 0<;>rw[h1]at h
 .simp only[o6]at h;rw[O8 h]at h1;cases h1
 cases h2:D6 (Dq l).1 0<;>rw[h2]at h
 .simp only[o7,o6]at h;rw[O8 h]at h2;cases h2
 simp only[o7]at h ⊢;unfold Qm at h ⊢;cases h3:I7 4 (x8 l.2.2)<;>rw[h3]at h
 case true=>exact absurd (show(4:Int)=0 from h) E9
 simp only[o6]at h ⊢;cases hf:iM l.2.2.length (Je l)with
 |none=>rfl|some r=>
  rw[hf]at h;simp only at h;obtain⟨j,hj,hp⟩:=qx hf;unfold Je at hp;cases hq:l.2.2[j]? with
  |none=>rw[hq]at hp;cases hp|some q=>
   rw[hq]at hp;simp only at hp;unfold QL at hp;exact absurd h (by cases he:D6 (Jf l j q).1 0<;>rw[he]at hp<;>cases hp;simp only;intro h4;rw[O8 h4]at he;cases he)
theorem a8V{F:FmF}{l:gz}{k:Int}{t:G9}(hS:SmL l)(hL:NmL l)(hT:SzT t)(hF:∀s,U0 l.2.2 k=some s->b8P F (nmS l s) t)(hW:∀r∈t.2.2.2,kQ r.1.2):kF l k t=some (dfS F l k t):=by
 obtain⟨a1,a2,a3⟩:=id hT;unfold kF dfS;rw[Ls hS,o9];cases hv:D6 (qG l).1 0
 case false=>rfl
 rw[b8M (bM.1 hv)];simp only[O8 (rfl:(0:Int)=0),jy,G8,o6,o7];rcases Mc l.2.2 k with h|⟨h1,h2,s,hs,hm⟩
 .rw[a9q h];rcases h with h|⟨h,h'⟩
  .rw[h];rfl
  .rw[h,h'];rfl
 obtain⟨s1,s2,s3,s4,s5,s6⟩:=hL.s s hm;rw[h1,h2,hs];simp only[o6,o9,Y4];rcases Mc s.2.2.2.1 t.1 with h|⟨g1,g2,d,hd,hdm⟩
 .rw[a9q h];rcases h with h|⟨h,h'⟩
  .rw[h];rfl
  .rw[h,h'];rfl
 have hdl:=s5 d hdm;rw[g1,g2,hd];simp only[o6,o9,Y4];cases h8:I7 8 (x8 t.2.1)
 case true=>rfl
 simp only[o6];cases hq:D6 (x8 t.2.2.1) (x8 t.2.1)
 case false=>rfl
 have hlen:t.2.2.1.length=t.2.1.length:=by have:=bM.1 hq;unfold x8 at this;omega
 simp only[G8,o6,o7];rw[P6 F8,o9,P6 F8,o9];have e0:nV [] ([100,101,99,105,115,105,111,110,32]++d.1++[10])=some (x8 ([100,101,99,105,115,105,111,110,32]++d.1++[10]),(),[100,101,99,105,115,105,111,110,32]++d.1++[10]):=by unfold nV;rw[if_pos F8];rfl
 rw[e0,o9,a1y hL hs,o9];have hb0:([100,101,99,105,115,105,111,110,32]++d.1++[10]:c5y).length<=1000:=by simp;omega
 refine X5 (a7P hL hs hT (hF s hs) hW hlen _ hb0) ?_;rw[o9];cases hc:ja (FV F s (nmS l s)) (t.2.1.zip t.2.2.1) ([100,101,99,105,115,105,111,110,32]++d.1++[10])with
 |inr r=>rfl|inl b=>
  have hb:=a8Q hL hs hT (hF s hs) hW hlen hb0 hc;simp only[Y4];refine X5 (a7Q hL hs hT (hF s hs) hW hlen b hb) ?_;rw[o9];rcases a2g s6 (x8 t.2.1) t.2.2.2 b b (.inl rfl)with⟨c,e1,e2⟩|⟨x,y,e1,e2,hr⟩
  .rw[e1,e2];rfl
  .rw[e1,e2];simp only[Y4];unfold DJ;simp only[o9];rcases hr with rfl|⟨r1,r2⟩
   .rw[show((x.length:Nat):Int)=x8 x from rfl];by_cases g:65536<x8 x
    .rw[aA g];rfl
    .rw[U5 l7];simp only[o6];unfold zq;rw[if_pos (by unfold x8 at g;omega)];rfl
   .rw[show((x.length:Nat):Int)=x8 x from rfl,aA r1,aA r2];rfl
variable {s:c5y}
theorem VX(P:UInt8->Bool){f:Int->Option (Int⊕Int)}(hl:s.length<=1000000)
  (h1:∀(i:Nat) (c:UInt8),s[i]? =some c->f (i:Int)=some (l9 (P c) (.inl ((i+1:Nat):Int)) (.inr (i:Int)))) (h2:∀i:Nat,s.length<=i->f (i:Int)=some (.inr (i:Int))) (a:Nat):
  aS f (a:Int)=some (((a+((s.drop a).takeWhile P).length:Nat)):Int):=by
 have key:∀(n a k:Nat),s.length -a<=n->n<k->xg f k (a:Int)=some (((a+((s.drop a).takeWhile P).length:Nat)):Int):=by
  intro n;induction n with
  |zero=>intro a k h hk;obtain⟨k,rfl⟩:∃m,k=m+1:=⟨k -1,l7⟩;rw[Me (h2 a l7),aQ l7];rfl
  |succ n ih=>
   intro a k h hk;obtain⟨k,rfl⟩:∃m,k=m+1:=⟨k -1,l7⟩;by_cases hlt:a<s.length
   .have hc:=jk hlt;have:=h1 a _ hc;rw[V9 hlt];cases hp:P s[a]
    .rw[hp,o6]at this;rw[Me this,List.takeWhile_cons_of_neg (by rw[hp];simp)];rfl
    .rw[hp,o7]at this;rw[YN this,ih (a+1) k l7 l7,List.takeWhile_cons_of_pos hp];congr 2;simp only[D7];omega
   .rw[Me (h2 a l7),aQ l7];rfl
 exact key (s.length -a) a aT l7 (by unfold aT;omega)
theorem a3G(h:s.length<=1000000):nY s=some ((s.takeWhile yR).length:Int):=by
 unfold nY;have:=VX yR h (f:=λ(x:Int)=>l9 (I7 x (x8 s)) (o5 (sat s x) λx_1=>o5 (mD x_1) λx_2=>l9 x_2 (some (Sum.inl (G6 IntKind.i64 x 1)))
   (o5 (sat s x) λx_3=>o5 (jm x_3) λx_4=>l9 x_4 (some (Sum.inl (G6 IntKind.i64 x 1))) (o5 (sat s x) λx_5=>l9 (D6 x_5 95) (some (Sum.inl (G6 IntKind.i64 x 1))) (some (Sum.inr x))))) (some (Sum.inr x)))
  (λi c hc=>by have hlt:=(X9.1 hc).1;simp only[Z8 hc,o7,yC,hc,aY,o9,GR,JZ,b4D];rw[gu l7];have hw:yR c=(IC c || yI c || decide (c.toNat=95)):=rfl;rw[hw];cases IC c<;>cases yI c<;>cases decide (c.toNat=95)<;>rfl)
  (λi hi=>by rw[U5 (by unfold x8;omega)];rfl) 0
 rw[oU];rw[show((0:Nat):Int)=0 from rfl]at this;rw[this];simp
theorem qJ(h:s.length<=1000000)(a:Nat)(ha:a<=1000000):lh s (a:Int)=some (((s.drop a).takeWhile yI).length:Int):=by
 unfold lh;have:=VX yI h (f:=λ(x:Int)=>
   l9 (I7 x (x8 s))
    (o5 (sat s x) λ(x_1:Int)=>
     o5 (jm x_1) λ(x_2:Bool)=>
      l9 x_2 (some (Sum.inl (G6 IntKind.i64 x 1))) (some (Sum.inr x)))
    (some (Sum.inr x)))
  (λi c hc=>by have hlt:=(X9.1 hc).1;simp only[Z8 hc,o7,yC,hc,aY,o9,JZ];rw[gu l7];cases yI c<;>rfl)
  (λi hi=>by rw[U5 (by unfold x8;omega)];rfl) a
 refine X5 this ?_;have hl:((s.drop a).takeWhile yI).length<=1000000:=by have:=(List.takeWhile_sublist yI (l:=s.drop a)).length_le;simp at this;omega
 rw[o9,fC bI];congr 1;omega
def HdN(P:UInt8->Bool)(r:c5y):Prop:=∀c t,r=c::t->P c=false
variable {r:c5y}{w:c5y}
theorem Jl{P:UInt8->Bool}(hw:∀c∈w,P c=true)(hr:HdN P r):(w++r).takeWhile P=w:=by
 induction w with
 |nil=>
  cases r with
  |nil=>rfl|cons c t=>rw[H9,List.takeWhile_cons_of_neg (by rw[hr c t rfl];simp)]
 |cons c w ih=>rw[P8,List.takeWhile_cons_of_pos (hw c A7),ih (λd hd=>hw d (by simp[hd]))]
def Qz(c:UInt8):Bool:=decide (c=32) || decide (c=9) || decide (c=35)
theorem OJ(c:UInt8)(k:Nat)(hk:k<256):D6 (c.toNat:Int) (k:Int)=decide (c=UInt8.ofNat k):=by
 unfold D6;rw[decide_eq_decide];constructor
 .intro h;apply UInt8.toNat_inj.1;rw[UInt8.toNat_ofNat'];omega
 .intro h;have:=congrArg UInt8.toNat h;rw[UInt8.toNat_ofNat']at this;omega
variable {i:Nat}
theorem Zk(hl:s.length<=1000000)(h:HdN Qz (s.drop i))(hi:i<=s.length):∀k,fD (λ(x:Int×Bool)=>
   l9 (I7 x.1 (x8 s))
    (o5 (sat s x.1) λ(x_1:Int)=>
     l9 x.2 (l9 (D6 x_1 10) (some (Out.rt x.1)) (some (Out.nx (G6 IntKind.i64 x.1 1,x.2))))
      (l9 (D6 x_1 35) (some (Out.nx (G6 IntKind.i64 x.1 1,true)))
       (l9 (J8 (D6 x_1 32))
        (l9 (J8 (D6 x_1 9)) (some (Out.rt x.1)) (some (Out.nx (G6 IntKind.i64 x.1 1,x.2))))
        (some (Out.nx (G6 IntKind.i64 x.1 1,x.2))))))
    (some (Out.ex x.1))) (k+1) ((i:Int),false)=some (.inl (i:Int))\/fD (λ(x:Int×Bool)=>
   l9 (I7 x.1 (x8 s))
    (o5 (sat s x.1) λ(x_1:Int)=>
     l9 x.2 (l9 (D6 x_1 10) (some (Out.rt x.1)) (some (Out.nx (G6 IntKind.i64 x.1 1,x.2))))
      (l9 (D6 x_1 35) (some (Out.nx (G6 IntKind.i64 x.1 1,true)))
       (l9 (J8 (D6 x_1 32))
        (l9 (J8 (D6 x_1 9)) (some (Out.rt x.1)) (some (Out.nx (G6 IntKind.i64 x.1 1,x.2))))
        (some (Out.nx (G6 IntKind.i64 x.1 1,x.2))))))
    (some (Out.ex x.1))) (k+1) ((i:Int),false)=(some (.inr (i:Int)):Option (Int⊕Int)):=by
 intro k;rw[dC];by_cases hlt:i<s.length
 .right;have hc:=jk hlt;have hb:=h s[i] (s.drop (i+1)) (V9 hlt);unfold Qz at hb;simp only[di,decide_eq_false_iff_not]at hb;simp only[Z8 hc,o7,yC,hc,aY,o9,o6];rw[show D6 ((s[i].toNat:Nat):Int) 35=false from(OJ _ 35 l7).trans (decide_eq_false hb.2),show D6 ((s[i].toNat:Nat):Int) 32=false from(OJ _ 32 l7).trans (decide_eq_false hb.1.1),show D6 ((s[i].toNat:Nat):Int) 9=false from(OJ _ 9 l7).trans (decide_eq_false hb.1.2)];rfl
 .left;rw[U5 (by unfold x8;simp only;omega)];rfl
theorem Xg(hl:s.length<=1000000)(h:HdN Qz (s.drop i))(hi:i<=s.length):tZ s (i:Int)=some (i:Int):=by unfold tZ Y9;rw[show aT=(aT -1)+1 by unfold aT;omega];rcases Zk hl h hi (aT -1)with h|h<;>refine X5 h ?_<;>rfl
theorem b1g(hl:s.length<=1000000)(h0:s[i]? =some 32)(h:HdN Qz (s.drop (i+1))):tZ s (i:Int)=some ((i+1:Nat):Int):=by
 have hlt:=(X9.1 h0).1;unfold tZ Y9;rw[show aT=(aT -2)+1+1 by unfold aT;omega];rcases Zk hl h l7 (aT -2)with h|h
 all_goals
  rw[dC];simp only[Z8 h0,o7,yC,h0,aY,o9,o6,show D6 (((32:UInt8).toNat:Nat):Int) 35=false from rfl,show D6 (((32:UInt8).toNat:Nat):Int) 32=true from rfl,G8];rw[gu l7];refine X5 h ?_;rfl
abbrev Z7:Type:=Int×c5y×Int
def vz(k:Z7)(w r:c5y):Prop:=tY (w++r)=some ((k.1,k.2.1,k.2.2,0),((w.length:Nat):Int),0)
variable {c:UInt8}
theorem a9w(h:IC c=true):97<=c.toNat/\c.toNat<=122:=by unfold IC at h;simp at h;omega
theorem Vs(h:yI c=true):48<=c.toNat/\c.toNat<=57:=by unfold yI at h;simp at h;omega
theorem a8a(h0:∃c t,w=c::t/\IC c=true)(hw:∀c∈w,yR c=true)(h16:w.length<=16)(hr:HdN yR r)(hl:(w++r).length<=1000000):vz (1,w,0) w r:=by obtain⟨c,t,rfl,hc⟩:=h0;have hb:=a9w hc;unfold vz tY;rw[show sat (c::t++r) 0=some (c.toNat:Int)from rfl,o9,O6 l7,o6,GR,hc,o9,o7];unfold Ei;rw[a3G hl,o9,Jl hw hr,U5 l7,o6,BQ l7 F8,o9,o9];rw[H6,gG]
theorem a2m(hc:c=40\/c=41\/c=44\/c=58\/c=43\/c=45\/c=42)(r:c5y):vz (7,[c],0) [c] r:=by
 unfold vz;have hs:gJ ([c]++r) 0 1=some [c]:=by rw[BQ l7 F8];rfl
 rcases hc with rfl|rfl|rfl|rfl|rfl|rfl|rfl
 all_goals
  unfold tY;generalize hx:gJ _ 0 1=q at hs;subst hs;rfl
theorem Xd(hc:c=60\/c=61\/c=33)(r:c5y)(hl:r.length<=1000000):vz (7,[c,61],0) [c,61] r:=by
 unfold vz;have h1:gJ ([c,61]++r) 1 (x8 ([c,61]++r))=some (61::r):=by rw[qQ l7 F8];rfl
 have h2:gJ ([c,61]++r) 0 2=some [c,61]:=by rw[BQ l7 F8];rfl
 have h3:bT (61::r) [61]=some true:=by unfold bT jV Lib.hasPrefix;simp[List.isPrefixOf]
 rcases hc with rfl|rfl|rfl
 all_goals
  unfold tY;rw[h1,h2];simp only[o9,h3];rfl
theorem b3S(r:c5y)(hl:r.length<=1000000)(hr:HdN (λc=>decide (c=61)) r):vz (7,[60],0) [60] r:=by
 unfold vz;have h1:gJ ([60]++r) 1 (x8 ([60]++r))=some r:=by rw[qQ l7 F8];rfl
 have h2:gJ ([60]++r) 0 1=some [60]:=by rw[BQ l7 F8];rfl
 have h3:bT r [61]=some false:=by
  unfold bT jV Lib.hasPrefix;cases r with
  |nil=>rfl
  |cons c t=>have:=hr c t rfl;simp only[decide_eq_false_iff_not]at this;simp[List.isPrefixOf];exact λh=>this h.symm
 unfold tY;rw[h1,h2];simp only[o9,h3];rfl
def wz(v:Nat)(l:c5y):Nat:=l.foldl (λa c=>10*a+(c.toNat -48)) v
theorem Uw:∀(l:c5y) (v:Nat),v<=wz v l
 |[],v=>A8 _|c::l,v=>by have:=Uw l (10*v+(c.toNat -48));unfold wz at this ⊢;rw[bY];omega
theorem Lr(a b:c5y)(v:Nat):wz v (a++b)=wz (wz v a) b:=by unfold wz;rw[List.foldl_append]
theorem Xw(u:Nat):wz 0 (Lib.decDigits u)=u:=by
 induction u using Nat.strongRecOn with
 |_ u ih=>
  rw[Lib.decDigits];by_cases h:u<10
  .rw[dif_pos h];show 10*0+((UInt8.ofNat (48+u)).toNat -48)=u;simp;omega
  .rw[dif_neg h,Lr,ih (u / 10) l7];unfold wz;simp;omega
theorem a5w(u:Nat):∀c r,Lib.decDigits u=c::r->10<=u->c≠48:=by
 induction u using Nat.strongRecOn with
 |_ u ih=>
  intro c r e h;rw[Lib.decDigits,dif_neg l7]at e;by_cases h2:u / 10<10
  .rw[Lib.decDigits,dif_pos h2]at e;simp only[P8,H9,G5]at e;rw[←e.1];intro e3;have:=congrArg UInt8.toNat e3;simp at this;omega
  .cases hd:Lib.decDigits (u / 10)with
   |nil=>have:=(Lib.decDigits_length (u / 10)).symm.trans (congrArg List.length hd);have:=Lib.nDigits_pos (u / 10);simp_all|cons c' r' =>rw[hd]at e;simp only[P8,G5]at e;rw[←e.1];exact ih (u / 10) l7 c' r' hd l7
def Dg(l:c5y):Prop:=∀c∈l,yI c=true
theorem Vr(u:Nat):Dg (Lib.decDigits u):=λc hc=>by have:=JX hc;unfold yI;simp;omega
theorem Hm(h:s[i]? =some c)(hc:c.toNat<128):uY s (i:Int)=(c.toNat:Int)/\yO s (i:Int)=((i+1:Nat):Int):=by
 have hlt:=(X9.1 h).1;have hg:(ByteArray.mk s.toArray).get! i=c:=by
  unfold ByteArray.get!;have:(s.toArray)[i]! =c:=by simp[h]
  exact this
 have hd:Utf8.decode ⟨s.toArray⟩ i=(c.toNat,1):=by unfold Utf8.decode;simp only[aX,hg];rw[if_pos l7]
 unfold uY yO;rw[H6,hd];refine⟨rfl,A7⟩
def npF(p:Int)(x:Int×Bool×c5y×Int):Option (Out (Int×Bool×c5y×Int) (Int×Bool) (Int×Int)):=
        l9 (I7 x.2.2.2 (x8 x.2.2.1))
         (l9 (D6 x.2.2.2 p)
          (l9 (J8 (D6 (uY x.2.2.1 x.2.2.2) 46)) (some (Out.rt (0,2)))
           (some (Out.nx (x.1,x.2.1,x.2.2.1,yO x.2.2.1 x.2.2.2))))
          (o5 (wM (uY x.2.2.1 x.2.2.2)) λ(x_3:Bool)=>
           l9 (J8 x_3) (some (Out.rt (0,2)))
            (l9 x.2.1 (some (Out.nx (x.1,true,x.2.2.1,yO x.2.2.1 x.2.2.2)))
             (l9 (I7 461168601842738790 x.1)
              (some (Out.nx (x.1,true,x.2.2.1,yO x.2.2.1 x.2.2.2)))
              (some
               (Out.nx
                (G6 IntKind.i64 (Pn IntKind.i64 x.1 10)
                  (wrap IntKind.i64 (Y5 IntKind.i32 (uY x.2.2.1 x.2.2.2) 48)),
                 I7 4611686018427387904
                  (G6 IntKind.i64 (Pn IntKind.i64 x.1 10)
                   (wrap IntKind.i64 (Y5 IntKind.i32 (uY x.2.2.1 x.2.2.2) 48))),
                 x.2.2.1,yO x.2.2.1 x.2.2.2)))))))
         (some (Out.ex (x.1,x.2.1)))
theorem MH{s:c5y}{p:Nat} :∀(g pre suf:c5y) (v m:Nat),s=pre++g++suf->Dg g->(p<pre.length\/pre.length+g.length<=p)->wz v g<=100000000000000000->
  fD (npF (p:Int)) (m+g.length) ((v:Int),false,s,(pre.length:Int))=fD (npF (p:Int)) m ((wz v g:Int),false,s,((pre.length+g.length:Nat):Int))
 |[],pre,suf,v,m,h,hg,hp,hv=>rfl|c::g,pre,suf,v,m,h,hg,hp,hv=>by
  have hc:s[pre.length]? =some c:=by rw[h,F5,F6 (A8 _),aH];rfl
  have hd:=hg c A7;have hb:=Vs hd;obtain⟨r1,r2⟩:=Hm hc l7;have hv1:=Uw g (10*v+(c.toNat -48));rw[show wz v (c::g)=wz (10*v+(c.toNat -48)) g from rfl]at hv;have hw:wrap .i64 (Y5 .i32 (c.toNat:Int) 48)=((c.toNat -48:Nat):Int):=by
   have h1:Y5 .i32 (c.toNat:Int) 48=((c.toNat -48:Nat):Int):=by unfold Y5 IntKind.wrap;simp[IntKind.signed,IntKind.bits];omega
   rw[h1];exact uQ bI
  have hnd:wM (c.toNat:Int)=some true:=by unfold wM;rw[ay l7,ay l7];rfl
  have st:npF (p:Int) ((v:Int),false,s,(pre.length:Int))=some (.nx (((10*v+(c.toNat -48):Nat):Int),false,s,((pre.length+1:Nat):Int))):=by unfold npF;simp only[Z8 hc,o7,r1,r2,hnd,o9,G8,o6,hw];rw[O6 (by simp at hp;omega),o6,U5 l7,o6,Kz bI,eG bI,U5 l7];congr 3;omega
  rw[D7,show m+(g.length+1)=(m+g.length)+1 by omega,dC,st];have:=MH (s:=s) (p:=p) g (pre++[c]) suf (10*v+(c.toNat -48)) m (by rw[h];simp) (λd hd=>hg d (by simp[hd])) (by simp at hp ⊢;omega) hv;rw[show(pre++[c]).length=pre.length+1 by simp]at this;rw[show pre.length+(g.length+1)=pre.length+1+g.length by omega];exact this
theorem b4x{b:UInt8}(h:HdN (λc=>decide (c=b)) w):fH w [b]=some (w,false):=by
 unfold fH lQ jV Lib.hasPrefix;cases w with
 |nil=>rfl|cons c t=>
  have:=h c t rfl;simp only[decide_eq_false_iff_not]at this;have e:[b].isPrefixOf (c::t)=false:=by simp[List.isPrefixOf];exact λh=>this h.symm
  rw[e];rfl
variable {d:c5y}
theorem b4A{b:UInt8}(hd:Dg d)(h:d≠[])(hb:yI b=false):HdN (λc=>decide (c=b)) (d++r):=by
 cases d with
 |nil=>exact absurd rfl h|cons c t=>intro x y e;simp only[P8,G5]at e;have:=hd c A7;rw[decide_eq_false_iff_not];intro hx;rw[←hx,←e.1,this]at hb;cases hb
def NoZ(d:c5y):Prop:=1<d.length->∀c t,d=c::t->c≠48
theorem Wv{α:Type}(hz:NoZ d)(h:d≠[])(a b:α):(l9 (I7 1 (d.length:Int)) (o5 (sat (d++r) 0) λ(x:Int)=>l9 (D6 x 48) (some a) (some b)) (some b))=some b:=by
 by_cases h1:1<d.length
 .cases d with
  |nil=>exact absurd rfl h|cons c t=>have:=hz h1 c t rfl;rw[aA l7,o7,show sat (c::t++r) 0=some (c.toNat:Int)from rfl,o9];rw[show D6 (c.toNat:Int) 48=false from(OJ c 48 l7).trans (decide_eq_false this)];rfl
 .rw[U5 l7];rfl
theorem a9L{p:Int}{v:Int}(m:Nat):fD (npF p) (m+1) (v,false,s,(s.length:Int))=some (.inl (v,false)):=by rw[dC];unfold npF;simp only[aP s,o6]
theorem b6H(hd:Dg d)(h1:d≠[])(hz:NoZ d)(hv:wz 0 d<=100000000000000000)(hl:d.length<=1000):uf d 0=some ((wz 0 d:Int),0):=by
 have hne:1<=d.length:=by cases d with|nil=>exact absurd rfl h1|cons c t=>simp
 have hc:=b4A (r:=[]) hd h1 (show yI 45=false by decide);rw[D8]at hc;unfold uf;rw[b4x hc,o9];simp only[U5 (show(0:Int)<=0 by omega),o6,o9];rw[show x8 d=(d.length:Int)from rfl,U5 l7,o6];have hz2:=Wv (r:=[]) hz h1 (Sum.inr (0,2):PUnit⊕(Int×Int)) (Sum.inl PUnit.unit);rw[D8]at hz2;refine X5 hz2 ?_;rw[o9,Y4];have lp:Y9 (npF (d.length:Int)) (0,false,d,0)=some (.inl ((wz 0 d:Int),false)):=by unfold Y9;rw[show aT=(aT -1 -d.length)+1+d.length by unfold aT;omega];have:=MH (s:=d) (p:=d.length) d [] [] 0 (aT -1 -d.length+1) A7 hd (.inr A7) hv;rw[show(([]:c5y).length:Int)=0 from rfl,show((0:Nat):Int)=0 from rfl]at this;rw[this];have:=a9L (s:=d) (p:=(d.length:Int)) (v:=(wz 0 d:Int)) (aT -1 -d.length);rw[show(([]:c5y).length+d.length)=d.length by simp];exact this
 refine X5 lp ?_;rfl
theorem a9Z{d f:c5y}(hd:Dg d)(hf:Dg f)(h1:d≠[])(hz:NoZ d)(hk:1<=f.length)(hv:wz 0 (d++f)<=100000000000000000)(hl:d.length+f.length<=1000):uf (d++46::f) (f.length:Int)=some ((wz 0 (d++f):Int),0):=by
 have hne:1<=d.length:=by cases d with|nil=>exact absurd rfl h1|cons c t=>simp
 have hc:=b4A (r:=46::f) hd h1 (show yI 45=false by decide);unfold uf;rw[b4x hc,o9];have hp:(l9 (I7 0 (f.length:Int)) (some (Y5 IntKind.i64 (x8 (d++46::f)) (G6 IntKind.i64 (f.length:Int) 1))) (some (x8 (d++46::f))))=some (d.length:Int):=by rw[aA l7,o7,eG bI,fC (by unfold kQ x8;simp;omega)];congr 1;unfold x8;simp<;>omega
 refine X5 hp ?_;rw[o9,U5 l7,o6];refine X5 (Wv hz h1 (Sum.inr (0,2):PUnit⊕(Int×Int)) (Sum.inl PUnit.unit)) ?_;rw[o9,Y4];have hv1:wz 0 d<=wz 0 (d++f):=by rw[Lr];exact Uw _ _
 have lp:Y9 (npF (d.length:Int)) (0,false,d++46::f,0)=some (.inl ((wz 0 (d++f):Int),false)):=by
  unfold Y9;rw[show aT=(aT -2 -d.length -f.length)+1+f.length+1+d.length by unfold aT;omega];have a1:=MH (s:=d++46::f) (p:=d.length) d [] (46::f) 0 (aT -2 -d.length -f.length+1+f.length+1) A7 hd (.inr A7) l7;rw[show(([]:c5y).length:Int)=0 from rfl,show((0:Nat):Int)=0 from rfl,show(([]:c5y).length+d.length)=d.length by simp]at a1;rw[a1,dC];have h46:(d++46::f)[d.length]? =some 46:=by rw[F6 (A8 _),aH];rfl
  obtain⟨r1,r2⟩:=Hm h46 E9;have st:npF (d.length:Int) ((wz 0 d:Int),false,d++46::f,(d.length:Int))=some (.nx ((wz 0 d:Int),false,d++46::f,((d.length+1:Nat):Int))):=by unfold npF;simp only[Z8 h46,o7,r1,r2,O8 (rfl:(d.length:Int)=(d.length:Int))];rfl
  rw[st];have a2:=MH (s:=d++46::f) (p:=d.length) f (d++[46]) [] (wz 0 d) (aT -2 -d.length -f.length+1) A7 hf (.inl A7) (by rw[←Lr];exact hv);rw[←Lr]at a2;simp only[E8,jQ]at a2;simp only;rw[a2];have:=a9L (s:=d++46::f) (p:=(d.length:Int)) (v:=(wz 0 (d++f):Int)) (aT -2 -d.length -f.length);rw[show(d++46::f).length=d.length+1+f.length by simp;omega]at this;exact this
 refine X5 lp ?_;rfl
def Vy(c:UInt8):Bool:=IC c || (decide (65<=c.toNat)&&decide (c.toNat<=90)) || yI c || decide (c=95) || decide (c=46)
theorem Wu(hd:Dg d)(hr:HdN yI r)(hr2:HdN (λc=>decide (c=45)) r)(hl:(d++r).length<=1000000):qP (d++r)=some false:=by
 unfold qP;have e0:=qJ hl 0 l7;rw[dG,Jl hd hr]at e0;rw[show((0:Nat):Int)=0 from rfl]at e0;rw[e0,o9];by_cases h4:d.length=4
 .rw[O8 l7,o7];have e5:=qJ hl 5 l7;have e8:=qJ hl 8 l7;rw[show((5:Nat):Int)=5 from rfl]at e5;rw[show((8:Nat):Int)=8 from rfl]at e8;rw[e5,o9];cases D6 ((((d++r).drop 5).takeWhile yI).length:Int) 2
  .rfl
  rw[o7,e8,o9];by_cases h8:2<=(((d++r).drop 8).takeWhile yI).length
  .rw[ay l7,o7];have hlen:=(List.takeWhile_sublist yI (l:=(d++r).drop 8)).length_le;rw[iK,E8]at hlen;cases r with
   |nil=>simp only[I5]at hlen;omega|cons c t=>
    have h4b:sat (d++c::t) 4=some (c.toNat:Int):=by rw[show(4:Int)=((4:Nat):Int)from rfl,yC,F6 l7,h4];rfl
    have:=hr2 c t rfl;rw[h4b,o9,show D6 (c.toNat:Int) 45=false from(OJ c 45 l7).trans this];rfl
  .rw[bW l7];rfl
 .rw[O6 l7];rfl
theorem Uj{k n:Int}(hr:HdN Vy r)(hl:(w++r).length<=1000000)(hn:jZ k w=some (n,0)):
  (o5
    (l9 (I7 (w.length:Int) (x8 (w++r)))
     (o5 (sat (w++r) (w.length:Int)) λ(x_1:Int)=>
      o5 (mD x_1) λ(x_2:Bool)=>
       l9 x_2 (some (Sum.inr ((0,[],0,0),0,2)))
        (l9 (X6 65 x_1)
         (l9 (X6 x_1 90) (some (Sum.inr ((0,[],0,0),0,2)))
          (o5 (jm x_1) λ(x_3:Bool)=>
           l9 x_3 (some (Sum.inr ((0,[],0,0),0,2)))
            (l9 (D6 x_1 95) (some (Sum.inr ((0,[],0,0),0,2)))
             (l9 (D6 x_1 46) (some (Sum.inr ((0,[],0,0),0,2))) (some (Sum.inl (0,[],0,0)))))))
         (o5 (jm x_1) λ(x_3:Bool)=>
          l9 x_3 (some (Sum.inr ((0,[],0,0),0,2)))
           (l9 (D6 x_1 95) (some (Sum.inr ((0,[],0,0),0,2)))
            (l9 (D6 x_1 46) (some (Sum.inr ((0,[],0,0),0,2))) (some (Sum.inl (0,[],0,0))))))))
     (some (Sum.inl (0,[],0,0))))
    λ(o:dA⊕dA×F9)=>
    dw o
     (λ(x_1:dA)=>
      o5 (gJ (w++r) 0 (w.length:Int)) λ(x_2:c5y)=>
       o5 (jZ k x_2) λ(x_3:F9)=>
        l9 (J8 (D6 x_3.2 0)) (some ((0,[],0,0),0,3))
         (o5 (gJ (w++r) 0 (w.length:Int)) λ(x_4:c5y)=>some ((k,x_4,x_3.1,0),(w.length:Int),0)))
     λ(r:dA×F9)=>some r)=some ((k,w,n,0),(w.length:Int),0):=by
 have hs:gJ (w++r) 0 (w.length:Int)=some w:=by rw[BQ l7 F8,H6,gG]
 have fin:(λ(o:dA⊕dA×F9)=>
    dw o
     (λ(x_1:dA)=>
      o5 (gJ (w++r) 0 (w.length:Int)) λ(x_2:c5y)=>
       o5 (jZ k x_2) λ(x_3:F9)=>
        l9 (J8 (D6 x_3.2 0)) (some ((0,[],0,0),0,3))
         (o5 (gJ (w++r) 0 (w.length:Int)) λ(x_4:c5y)=>some ((k,x_4,x_3.1,0),(w.length:Int),0)))
     λ(r:dA×F9)=>some r) (Sum.inl (0,[],0,0))=(some ((k,w,n,0),(w.length:Int),0):Option (dA×F9)):=by
  simp only[Y4];rw[hs,o9,hn,o9];rfl
 cases r with
 |nil=>rw[D8]at fin ⊢;rw[show x8 w=(w.length:Int)from rfl,U5 l7,o6,o9];exact fin|cons c t=>
  have hb:sat (w++c::t) (w.length:Int)=some (c.toNat:Int):=by rw[yC,F6 (A8 _),aH];rfl
  have he:=hr c t rfl;unfold Vy at he;simp only[di]at he;obtain⟨⟨⟨⟨e1,e2⟩,e3⟩,e4⟩,e5⟩:=he;rw[show I7 (w.length:Int) (x8 (w++c::t))=true from aA (by unfold x8;simp;omega),o7,hb,o9,GR,e1,o9,o6,JZ,e3];rw[show D6 (c.toNat:Int) 95=false from(OJ c 95 l7).trans e4,show D6 (c.toNat:Int) 46=false from(OJ c 46 l7).trans e5];simp only[o9,o6];by_cases h65:65<=c.toNat
  .have:¬c.toNat<=90:=by
    intro h;rw[Bool.and_eq_false_iff]at e2;simp at e2;omega
   rw[ay l7,o7,bW l7,o6];simp only[o9];exact fin
  .rw[bW l7,o6];simp only[o9];exact fin
end Go.GP
