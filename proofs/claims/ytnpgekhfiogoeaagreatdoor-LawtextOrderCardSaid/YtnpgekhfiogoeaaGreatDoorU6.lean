import Derived.Test.YtnpgekhfiogoeaaGreatDoorU5
import Derived.Test.YtnpgekhfiogoeaaGreatDoorU2
import Derived.Test.YtnpgekhfiogoeaaGreatDoorU3
import Derived.Lib.ItoaLen
set_option linter.all false
namespace Go.GP
variable {a:Int}{b:Int}{n:Int}
section
variable {α β σ ε ρ:Type}
@[simp] theorem o9 (x:α) (f:α->Option β):l9 (some x) f=f x:=rfl
@[simp] theorem b3R (f:α->Option β):l9 none f=none:=rfl
theorem a0d{o:Option α}{x:α}(h:o=some x)(f:α->Option β):l9 o f=f x:=by rw[h];rfl
theorem X3{o o' :Option α}(h:o=o'){K:α->Option β}{r:Option β}(h2:l9 o' K=r):l9 o K=r:=by rw[h];exact h2
theorem bb(a b:Bool):l7 a (some b) (some false)=some (a&&b):=by cases a<;>rfl
theorem vG(o:Option α):l9 o (λx=>some x)=o:=by cases o<;>rfl
@[simp] theorem o7 (x y:α):l7 true x y=x:=rfl
@[simp] theorem o6 (x y:α):l7 false x y=y:=rfl
theorem tC(b:Bool)(x y:α):l7 b x y=if b=true then x else y:=by cases b<;>rfl
theorem oD{b:Bool}(h:b=true)(x y:α):l7 b x y=x:=by rw[h];rfl
theorem pg{b:Bool}(h:b=false)(x y:α):l7 b x y=y:=by rw[h];rfl
@[simp] theorem Y2 (s:σ) (f:σ->α) (g:ε->α):aF (.inl s) f g=f s:=rfl
@[simp] theorem kD (s:ε) (f:σ->α) (g:ε->α):aF (.inr s) f g=g s:=rfl
@[simp] theorem E8:I4 true=false:=rfl
@[simp] theorem Z5:I4 false=true:=rfl
theorem dY(h:a<b):I9 a b=true:=by simp[I9,h]
theorem Y5(h:b<=a):I9 a b=false:=by simp[I9];omega
theorem Z4(h:a<=b):U2 a b=true:=by simp[U2,h]
theorem dF(h:b<a):U2 a b=false:=by simp[U2];omega
theorem O7(h:a=b):D8 a b=true:=by simp[D8,h]
theorem O5(h:a≠b):D8 a b=false:=by simp[D8,h]
theorem xA :I9 a b=true↔a<b:=by simp[I9]
theorem jF :U2 a b=true↔a<=b:=by simp[U2]
theorem iK :D8 a b=true↔a=b:=by simp[D8]
theorem oO :I9 a b=false↔b<=a:=by simp[I9]
theorem Qs :U2 a b=false↔b<a:=by simp[U2]
theorem wQ :D8 a b=false↔a≠b:=by simp[D8]
theorem pI{a b:List UInt8} :seq a b=true↔a=b:=by simp[seq]
theorem qX{a b:List UInt8} :seq a b=false↔a≠b:=by simp[seq]
theorem oV(h:0<=a):a.tdiv b=a / b:=Int.tdiv_eq_ediv_of_nonneg h
theorem Bh(h:0<=a):jc a b=a % b:=Int.tmod_eq_emod_of_nonneg h
def jh(n:Int):Prop:=-9223372036854775808<=n/\n<=9223372036854775807
theorem bg{p:Int}(h:jh p:=by unfold jh;omega):jh p:=h
def U64(n:Int):Prop:=0<=n/\n<=18446744073709551615
theorem zS(h:jh n):IntKind.wrap .i64 n=n:=by unfold jh at h;unfold IntKind.wrap;simp[IntKind.signed,IntKind.bits];omega
theorem PV(h:U64 n):IntKind.wrap .u64 n=n:=by unfold U64 at h;unfold IntKind.wrap;simp[IntKind.signed,IntKind.bits];omega
theorem dw(h:jh (a+b)):H8 .i64 a b=a+b:=zS h
theorem cu(h:jh (a -b)):N8 .i64 a b=a -b:=zS h
theorem Jm(h:jh (a*b)):Qu .i64 a b=a*b:=zS h
theorem Ot(h:jh (a.tdiv b)):dA .i64 a b=a.tdiv b:=zS h
theorem H_(h:U64 (a+b)):H8 .u64 a b=a+b:=PV h
theorem a7d(h:U64 (a.tdiv b)):dA .u64 a b=a.tdiv b:=PV h
theorem WF(h:(Lit.int .i64 n).wf=true):jh n:=by simp[Lit.wf,IntKind.min,IntKind.max,IntKind.signed,IntKind.bits]at h;unfold jh;omega
theorem Q_(l:List α):0<=x8 l:=by simp[x8]
theorem P5(l:List α)(i:Nat):O0 l (i:Int)=l[i]?:=by simp[O0]
theorem pF{l:List α}{i:Int}{x:α}(h:O0 l i=some x):0<=i/\i<x8 l/\x∈l/\l[i.toNat]? =some x:=by
 unfold O0 at h;split at h
 .rename_i h0;obtain⟨h1,h2⟩:=ai.1 h;refine⟨h0,by simp[x8];omega,?_,h⟩;rw[←h2];exact af h1
 .cases h
theorem tY{l:List α}{i:Int}(h0:0<=i)(h:i<x8 l):∃x,O0 l i=some x/\x∈l:=by
 unfold x8 at h;refine⟨l[i.toNat]'o5,?_,af _⟩;unfold O0
 rw[if_pos h0,sF]
theorem xK(l:List UInt8)(i:Nat):sat l (i:Int)=(l[i]?).map λc=>(c.toNat:Int):=by simp[sat]
theorem O8{a b:List UInt8}(h:a.length+b.length<=4611686018427387904):U4 a b=some (a++b):=by simp[U4,h]
theorem uN{a b:List α}(h:a.length+b.length<=1073741824):dE a b=some (a++b):=by simp[dE,h]
theorem Tz{l:List α}{lo hi:Int}(h0:0<=lo)(h1:lo<=hi)(h2:hi<=l.length):fP l lo hi=some ((l.take hi.toNat).drop lo.toNat):=by simp[fP,h0,h1,h2]
theorem zC{l:List α}{hi:Int}(h1:0<=hi)(h2:hi<=l.length):fP l 0 hi=some (l.take hi.toNat):=by rw[Tz o5 h1 h2];simp
theorem qF{l:List α}{lo:Int}(h1:0<=lo)(h2:lo<=l.length):fP l lo (x8 l)=some (l.drop lo.toNat):=by rw[Tz h1 (by simp[x8];omega) (by simp[x8])];simp[x8]
end
section
variable {σ ε ρ:Type}
theorem Ry{f:σ->Option (σ⊕ε)}(Inv:σ->Prop)(Q:ε->Prop)(meas:σ->Nat)
  (h:∀s,Inv s->(∃s',f s=some (.inl s')/\Inv s' /\meas s' <meas s)\/(∃e,f s=some (.inr e)/\Q e)):
  ∀n s,Inv s->meas s<n->∃e,yK f n s=some e/\Q e
 |0,_,_,h=>by omega|n+1,s,hi,hm=>by
  unfold yK;rcases h s hi with⟨s',e,hi',hm'⟩|⟨x,e,hx⟩
  .rw[e];exact Ry Inv Q meas h n s' hi' o5
  .rw[e];exact⟨x,rfl,hx⟩
theorem sO{f:σ->Option (σ⊕ε)}{s:σ}(Inv:σ->Prop)(Q:ε->Prop)(meas:σ->Nat)(hi:Inv s)(hm:meas s<18446744073709551616)
  (h:∀s,Inv s->(∃s',f s=some (.inl s')/\Inv s' /\meas s' <meas s)\/(∃e,f s=some (.inr e)/\Q e)):∃e,dC f s=some e/\Q e:=
 Ry Inv Q meas h _ s hi hm
theorem Ve{f:σ->Option (Out σ ε ρ)}(Inv:σ->Prop)(Q:ε->Prop)(Qr:ρ->Prop)(meas:σ->Nat)
  (h:∀s,Inv s->(∃s',f s=some (.nx s')/\Inv s' /\meas s' <meas s)\/(∃e,f s=some (.ex e)/\Q e)\/(∃r,f s=some (.rt r)/\Qr r)):
  ∀n s,Inv s->meas s<n->(∃e,gK f n s=some (.inl e)/\Q e)\/(∃r,gK f n s=some (.inr r)/\Qr r)
 |0,_,_,h=>by omega|n+1,s,hi,hm=>by
  unfold gK;rcases h s hi with⟨s',e,hi',hm'⟩|⟨x,e,hx⟩|⟨x,e,hx⟩
  .rw[e];exact Ve Inv Q Qr meas h n s' hi' o5
  .rw[e];exact .inl ⟨x,rfl,hx⟩
  .rw[e];exact .inr ⟨x,rfl,hx⟩
theorem DJ{f:σ->Option (Out σ ε ρ)}{s:σ}(Inv:σ->Prop)(Q:ε->Prop)(Qr:ρ->Prop)(meas:σ->Nat)(hi:Inv s)(hm:meas s<18446744073709551616)
  (h:∀s,Inv s->(∃s',f s=some (.nx s')/\Inv s' /\meas s' <meas s)\/(∃e,f s=some (.ex e)/\Q e)\/(∃r,f s=some (.rt r)/\Qr r)):
  (∃e,P7 f s=some (.inl e)/\Q e)\/(∃r,P7 f s=some (.inr r)/\Qr r):=
 Ve Inv Q Qr meas h _ s hi hm
end
section
variable {α β ε ρ:Type}
open Classical in
theorem XD(l:List α)(p:Nat->α->Bool)(r:ρ)(e:ε)(f:Int->Option (Out Int ε ρ))(hl:l.length<18446744073709551616)
  (hin:∀(i:Nat) (a:α),l[i]? =some a->f (i:Int)=if p i a=true then some (.nx ((i+1:Nat):Int))else some (.rt r))
  (hend:f (l.length:Int)=some (.ex e)):
  P7 f 0=if(∀i a,l[i]? =some a->p i a=true)then some (.inl e)else some (.inr r):=by
 have key:∀(n i:Nat),i<=l.length->l.length -i<n->(∀j a,j<i->l[j]? =some a->p j a=true)->gK f n (i:Int)=if(∀i a,l[i]? =some a->p i a=true)then some (.inl e)else some (.inr r):=by
  intro n;induction n with
  |zero=>intro i _ h;omega|succ n ih=>
   intro i hi hn hp;unfold gK;by_cases h:i<l.length
   .have e' :=sF h;rw[hin i _ e'];by_cases hpi:p i l[i]=true
    .rw[if_pos hpi];exact ih (i+1) o5 o5 λj a hj ha=>by
      by_cases hji:j=i
      .subst hji;rw[e']at ha;cases ha;exact hpi
      .exact hp j a o5 ha
    .rw[if_neg hpi,if_neg];intro hall;exact hpi (hall i _ e')
   .have:i=l.length:=o5;subst this;rw[hend,if_pos];intro j a ha;exact hp j a (ai.1 ha).1 ha
 exact key _ 0 (iG _) hl λj a hj=>by omega
end
end Go.GP
namespace Go.GP
section
variable {α β α' β' σ τ ε ε' ρ ρ' :Type}
theorem Jq{p:Nat->Option ρ}(n:Nat)(hn:n<18446744073709551616)(e:ε){f:Int->Option (Out Int ε ρ)}
  (h1:∀i,i<n->f (i:Int)=some (match p i with|some r=> .rt r|none=> .nx ((i+1:Nat):Int))) (h2:f (n:Int)=some (.ex e)):
  P7 f 0=some (match(List.range n).findSome? p with|some r=> .inr r|none=> .inl e):=by
 have key:∀m i,i+m=n->∀k,m<k->gK f k (i:Int)=some (match(List.range' i m).findSome? p with|some r=> .inr r|none=> .inl e):=by
  intro m;induction m with
  |zero=>intro i hi k hk;obtain⟨k,rfl⟩:∃k',k=k' +1:=⟨k -1,o5⟩;have:i=n:=o5;subst this;unfold gK;rw[h2];rfl
  |succ m ih=>
   intro i hi k hk;obtain⟨k,rfl⟩:∃k',k=k' +1:=⟨k -1,o5⟩;unfold gK;rw[h1 i o5,nT,List.findSome?_cons];cases hp:p i with
   |some r=>rfl|none=>exact ih (i+1) o5 k o5
 have:=key n 0 o5 aG hn;rw[List.range_eq_range'];exact this
end
end Go.GP
namespace Go.GP
open Gt
set_option maxRecDepth 100000
variable {i:Nat}
theorem eP(h:i<=9000000000000000000):H8 .i64 (i:Int) 1=((i+1:Nat):Int):=by rw[dw bg];omega
def GX(c:UInt8):Bool:=decide (97<=c.toNat)&&decide (c.toNat<=122)
def yg(c:UInt8):Bool:=GX c || (decide (48<=c.toNat)&&decide (c.toNat<=57)) || decide (c.toNat=95)
def FZ:List (List UInt8):=wX.getD []
def iU(s:List UInt8):Bool:=match s with|[]=>false|c::r=>decide (s.length<=16)&&GX c&&s.all yg&&!(FZ.any λw=>seq s w)
theorem Aj(c:UInt8)(r:List UInt8):iU (c::r)=(decide ((c::r).length<=16)&&GX c&&(c::r).all yg&&!(FZ.any λw=>seq (c::r) w)):=rfl
theorem FI(c:UInt8):mi (c.toNat:Int)=some (GX c):=by
 unfold mi GX;cases h:decide (97<=c.toNat)<;>simp only[decide_eq_true_eq,decide_eq_false_iff_not]at h
 .rw[dF o5];rfl
 .rw[Z4 o5];simp only[o7,uM,U2];congr 1;by_cases h2:c.toNat<=122<;>simp[h2]<;>omega
def wF(c:UInt8):Bool:=decide (48<=c.toNat)&&decide (c.toNat<=57)
theorem Jf(c:UInt8):je (c.toNat:Int)=some (wF c):=by
 unfold je wF;cases h:decide (48<=c.toNat)<;>simp only[decide_eq_true_eq,decide_eq_false_iff_not]at h
 .rw[dF o5];rfl
 .rw[Z4 o5];simp only[o7,uM,U2];congr 1;by_cases h2:c.toNat<=57<;>simp[h2]<;>omega
theorem b2I(c:UInt8):D8 (c.toNat:Int) 95=decide (c.toNat=95):=by unfold D8;by_cases h:c.toNat=95<;>simp[h]<;>omega
theorem WV{s:List UInt8}(h:s.length<=1000000):∃k,nV s=some k/\(k=x8 s↔s.all yg=true):=by
 unfold nV;have:=sO (f:=λ(x:Int)=>l7 (I9 x (x8 s)) (l9 (sat s x) λx_1=>l9 (mi x_1) λx_2=>l7 x_2 (some (Sum.inl (H8 IntKind.i64 x 1)))
   (l9 (sat s x) λx_3=>l9 (je x_3) λx_4=>l7 x_4 (some (Sum.inl (H8 IntKind.i64 x 1))) (l9 (sat s x) λx_5=>l7 (D8 x_5 95) (some (Sum.inl (H8 IntKind.i64 x 1))) (some (Sum.inr x))))) (some (Sum.inr x)))
  (s:=0) (λx=>∃i:Nat,x=i/\i<=s.length/\(s.take i).all yg=true) (λk=>k=x8 s↔s.all yg=true) (λx=>s.length -x.toNat) ⟨0,rfl,o5,rfl⟩ G8 ?_
 .obtain⟨k,h1,h2⟩:=this;refine⟨k,?_,h2⟩;rw[vG];exact h1
 .rintro x ⟨i,rfl,hi,hall⟩;by_cases hl:i<s.length
  .have e:=sF hl;simp only[dY (show(i:Int)<x8 s by simp[x8];omega),o7,xK,e,aA,o9,FI,Jf,b2I];have hst:(s.take (i+1)).all yg=((s.take i).all yg&&yg s[i]):=by rw[X8 hl,List.all_append];simp
   have hw:yg s[i]=(GX s[i] || wF s[i] || decide (s[i].toNat=95)):=rfl;cases hwb:yg s[i]with
   |true=>left;refine⟨((i+1:Nat):Int),?_,⟨i+1,rfl,hl,by rw[hst,hall,hwb];rfl⟩,by simp;omega⟩;rw[eP o5];rw[hw]at hwb;cases h1:GX s[i]<;>cases h2:wF s[i]<;>cases h3:decide (s[i].toNat=95)<;>rw[h1,h2,h3]at hwb<;>first|rfl|cases hwb
   |false=>
    right;refine⟨(i:Int),?_,?_⟩
    .rw[hw]at hwb;cases h1:GX s[i]<;>cases h2:wF s[i]<;>cases h3:decide (s[i].toNat=95)<;>rw[h1,h2,h3]at hwb<;>first|rfl|cases hwb
    .constructor
     .intro h;simp[x8]at h;omega
     .intro h;have:=ae.1 h s[i] (af hl);rw[hwb]at this;cases this
  .right;have:i=s.length:=o5;subst this;rw[iq]at hall;exact⟨_,by rw[Y5 (by simp[x8])];rfl,by simp[x8,hall]⟩
theorem a5U{a:List UInt8}{w:List UInt8}{r:Option Bool}{x:Bool}(h:r=some x):l7 (seq a w) (some (seq a w)) r=some (seq a w || x):=by rw[h];cases seq a w<;>rfl
theorem a0w(s:List UInt8):zy s=some (FZ.any λw=>seq s w):=by
 unfold zy;refine X3 (o' :=some (FZ.any λw=>seq s w)) ?_ (by cases FZ.any λw=>seq s w<;>rfl);have hr:FZ=(wX).getD []:=rfl;rw[show(FZ.any λw=>seq s w)=List.foldr (λw b=>seq s w || b) false FZ from by induction FZ with|nil=>rfl|cons w l ih=>simp[List.any_cons,ih]];unfold FZ wX;simp only[V5,List.foldr]
 repeat (refine a5U ?_)
 simp
theorem pR{s:List UInt8}(h:s.length<=1000000):dN s=some (iU s):=by
 unfold dN;cases s with
 |nil=>rfl|cons c r=>
  have h1:seq (c::r) []=false:=by simp[seq]
  obtain⟨k,h2,h3⟩:=WV h;rw[h1];simp only[Z5,o7];rw[show sat (c::r) 0=some (c.toNat:Int)from rfl,o9,FI,o9,h2,o9,a0w,o9];have h4:D8 k (x8 (c::r))=(c::r).all yg:=by rw[lS,iK];exact h3
  have h5:U2 (x8 (c::r)) 16=decide ((c::r).length<=16):=by simp only[U2,x8];congr 1;simp;omega
  rw[h4,h5,Aj];cases GX c<;>cases (c::r).all yg<;>cases decide ((c::r).length<=16)<;>rfl
theorem uU(t:Int×Int)(en:List U6):bF t en=Y1 t en:=by
 unfold bF Y1;by_cases h1:t.1=1
 .simp[D8,h1,U2]
 by_cases h2:t.1=2
 .simp[D8,h2,U2]
 by_cases h3:t.1=3
 .simp[D8,h3,U2]
 by_cases h4:t.1=4
 .simp[D8,h4,U2]
 by_cases h5:t.1=5
 .simp[D8,h5,U2]
 by_cases h6:t.1=6
 .simp[D8,h6,U2]
 .simp only[D8,h1,h2,h3,h4,h5,h6,decide_false,o6,o9];by_cases h7:1<=t.1
  .rw[oD (Z4 h7),pg (dF o5)]
  .rw[pg (dF o5)]
theorem Kz(t:Int×Int)(en:List U6):kz t en=bM t en:=by unfold kz bM;rw[uU]
def vty(t:Int×Int)(en:List U6):Bool:=l7 (D8 t.1 6) (l7 (U2 0 t.2) (I9 t.2 (x8 en)) false) (l7 (U2 1 t.1) (l7 (U2 t.1 5) (D8 t.2 0) false) false)
theorem oJ(t:Int×Int)(en:List U6):Y1 t en=some (vty t en):=by unfold Y1 vty;cases D8 t.1 6<;>cases U2 0 t.2<;>cases U2 1 t.1<;>cases U2 t.1 5<;>rfl
theorem rZ(t:Int×Int)(en:List U6):bF t en=some (vty t en):=(uU t en).trans (oJ t en)
theorem Zl(t:Int×Int)(en:List U6):∃b:Int×Int,bM t en=some b:=by
 unfold bM;rw[oJ,o9];cases hv:vty t en
 .exact⟨_,rfl⟩
 simp only[E8,o6];cases h1:D8 t.1 1<;>simp only[o7,o6]
 .cases h2:D8 t.1 2<;>simp only[o7,o6]
  .cases h3:D8 t.1 3<;>simp only[o7,o6]
   .cases h4:D8 t.1 4<;>simp only[o7,o6]
    .cases h5:D8 t.1 5<;>simp only[o7,o6]
     .have h6:D8 t.1 6=true/\U2 0 t.2=true/\I9 t.2 (x8 en)=true:=by
       unfold vty at hv;rw[wQ]at h1 h2 h3 h4 h5;cases h6:D8 t.1 6<;>rw[h6]at hv
       .rw[wQ]at h6;cases h7:U2 1 t.1<;>rw[h7]at hv
        .cases hv
        cases h8:U2 t.1 5<;>rw[h8]at hv
        .cases hv
        rw[jF]at h7 h8;omega
       .cases h7:U2 0 t.2<;>rw[h7]at hv
        .cases hv
        .exact⟨rfl,rfl,hv⟩
      obtain⟨x,hx,_⟩:=tY (jF.1 h6.2.1) (xA.1 h6.2.2);rw[hx];exact⟨_,rfl⟩
     .exact⟨_,rfl⟩
    .exact⟨_,rfl⟩
   .exact⟨_,rfl⟩
  .exact⟨_,rfl⟩
 .exact⟨_,rfl⟩
def bnd(t:Int×Int)(en:List U6):Int×Int:=(bM t en).getD (0,0)
theorem NE(t:Int×Int)(en:List U6):bM t en=some (bnd t en):=by obtain⟨b,h⟩:=Zl t en;unfold bnd;rw[h];rfl
theorem CX(t:Int×Int)(en:List U6):kz t en=some (bnd t en):=(Kz t en).trans (NE t en)
def inB(n:Int)(b:Int×Int):Bool:=l7 (U2 b.1 n) (U2 n b.2) false
def Fh(r:Int×Int):Bool:=l7 (U2 0 r.1) (l7 (U2 r.1 r.2) (U2 r.2 109573) false) false
theorem Qj(r:Int×Int):uY r=some (Fh r):=by unfold uY Fh;cases U2 0 r.1<;>cases U2 r.1 r.2<;>rfl
def a3x(a b:Int×Int):(Int×Int)×Bool:=l7 (Fh a) (l7 (Fh b) (l7 (U2 (Ah a.2 b.2) (Ag a.1 b.1)) ((0,0),false) ((Ag a.1 b.1,Ah a.2 b.2),true)) ((0,0),false)) ((0,0),false)
theorem b2b(a b:Int×Int):sW a b=some (a3x a b):=by
 unfold sW wo a3x;rw[Qj,o9,Qj,o9];cases Fh a
 .rfl
 simp only[o7];cases h1:I9 a.1 a.2
 .rw[oO]at h1;rw[Z4 (show Ah a.2 b.2<=Ag a.1 b.1 by unfold Ah Ag;omega)];cases Fh b<;>rfl
 simp only[o9,E8,o6];cases Fh b
 .rfl
 simp only[o7];cases h2:I9 b.1 b.2
 .rw[oO]at h2;rw[Z4 (show Ah a.2 b.2<=Ag a.1 b.1 by unfold Ah Ag;omega)];rfl
 .cases U2 (Ah a.2 b.2) (Ag a.1 b.1)<;>rfl
def Du(a b:vU):Bool:=l7 (a3x a.1 b.1).2 (I9 (Ag a.2.1 b.2.1) (Ah a.2.2.1 b.2.2.1)) false
theorem r_(a b:vU):zO a b=some (Du a b):=by unfold zO Du;rw[b2b,o9];cases (a3x a.1 b.1).2<;>rfl
theorem a6X{l:List vU}(r:vU)(h:l.length<=1000000):∃k:Int,tq l r=some (k,l.any λy=>Du y r):=by
 unfold tq;have key:=DJ (f:=λ(x:Int)=>l7 (I9 x (x8 l)) (l9 (O0 l x) λx_1=>l9 (uq x_1 r) λx_2=>l7 x_2 (some (Out.rt (x,true))) (some (Out.nx (H8 IntKind.i64 x 1)))) (some (Out.ex PUnit.unit)))
   (s:=0) (λx=>∃i:Nat,x=i/\i<=l.length/\(l.take i).any (λy=>Du y r)=false) (λ_=>(l.any λy=>Du y r)=false) (λk=>k.2=true/\(l.any λy=>Du y r)=true) (λx=>l.length -x.toNat) ⟨0,rfl,o5,rfl⟩ G8 ?_
 .rcases key with⟨e,h1,h2⟩|⟨k,h1,h2,h3⟩
  .exact⟨0,by rw[h1,h2];rfl⟩
  .refine⟨k.1,?_⟩;rw[h1,h3,←h2];rfl
 .rintro x ⟨i,rfl,hi,hall⟩;by_cases hl:i<l.length
  .have e:=sF hl;have hst:(l.take (i+1)).any (λy=>Du y r)=((l.take i).any (λy=>Du y r) || Du l[i] r):=by rw[X8 hl,Bi];simp
   have hv:uq l[i] r=some (Du l[i] r):=by unfold uq;rw[r_];rfl
   simp only[dY (show(i:Int)<x8 l by simp[x8];omega),o7,P5,e,o9,hv];cases hc:Du l[i] r with
   |true=>exact .inr (.inr ⟨_,rfl,rfl,vW.2 ⟨l[i],af hl,hc⟩⟩)|false=>exact .inl ⟨((i+1:Nat):Int),by rw[eP o5];rfl,⟨i+1,rfl,hl,by rw[hst,hall,hc];rfl⟩,by simp;omega⟩
  .have:i=l.length:=o5;subst this;rw[iq]at hall;exact .inr (.inl ⟨_,by rw[Y5 (by simp[x8])];rfl,hall⟩)
def NV(x:vU)(bl br:Int×Int):Bool:=
 l7 (Fh x.1) (l7 (D8 x.1.1 x.1.2) true (l7 (U2 x.2.2.1 x.2.1) true (l7 (inB x.2.1 bl) (l7 (inB (N8 .i64 x.2.2.1 1) bl) (I4 (inB x.2.2.2 br)) true) true))) true
def VO(t:ax)(en:List U6)(i:Nat):Option (Int×Int):=match t.2.2.2[i]? with
 |some x=>l7 (NV x (bnd t.2.1 en) (bnd t.2.2.1 en)) (some ((i:Int),3)) (l7 ((t.2.2.2.take i).any λy=>Du y x) (some ((i:Int),11)) none)|none=>none
def NR(t:ax)(en:List U6):Int×Int:=
 l7 (I9 64 (x8 t.2.2.2)) (64,4) (l7 (vty t.2.1 en) (l7 (vty t.2.2.1 en) (match(List.range t.2.2.2.length).findSome? (VO t en)with|some r=>r|none=>(0,0)) (-1,8)) (-1,8))
theorem Eu(a b:Int):I9 a b= !U2 b a:=by simp only[I9,U2];rw[←decide_not];congr 1;simp
variable {α:Type}
theorem yR{l:List α}(h:i<=l.length):fP l 0 (i:Int)=some (l.take i):=by rw[zC o5 o5];simp
theorem b0c(t:ax)(en:List U6):zN t en=some (NR t en):=by
 unfold zN NR;rw[rZ,o9,rZ,o9];cases h64:I9 64 (x8 t.2.2.2)
 case true=>rfl
 simp only[o6];cases vty t.2.1 en
 .rfl
 cases vty t.2.2.1 en
 .rfl
 simp only[E8,o6,o9,Y2,o7,CX];have hlen:t.2.2.2.length<=64:=by rw[oO]at h64;simp only[x8]at h64;omega
 refine X3 (Jq (p:=VO t en) t.2.2.2.length o5 PUnit.unit (λi hi=>?_) ?_) ?_
 rotate_left 2
 .cases (List.range t.2.2.2.length).findSome? (VO t en)<;>rfl
 .have e:=sF hi;simp only[dY (show(i:Int)<x8 t.2.2.2 by simp only[x8];omega),o7,P5,e,o9,VO,Qj,yR (show i<=t.2.2.2.length by omega)];obtain⟨k,hk⟩:=a6X (l:=t.2.2.2.take i) t.2.2.2[i] G8;rw[hk,eP o5];unfold NV inB;simp only[Eu];generalize bnd t.2.1 en=bl;generalize bnd t.2.2.1 en=br;cases Fh t.2.2.2[i].1
  .rfl
  cases D8 t.2.2.2[i].1.1 t.2.2.2[i].1.2
  case true=>rfl
  cases U2 t.2.2.2[i].2.2.1 t.2.2.2[i].2.1
  case true=>rfl
  cases U2 bl.1 t.2.2.2[i].2.1
  .rfl
  cases U2 t.2.2.2[i].2.1 bl.2
  .rfl
  cases U2 bl.1 (N8 IntKind.i64 t.2.2.2[i].2.2.1 1)
  .rfl
  cases U2 (N8 IntKind.i64 t.2.2.2[i].2.2.1 1) bl.2
  .rfl
  cases U2 br.1 t.2.2.2[i].2.2.2
  .rfl
  cases U2 t.2.2.2[i].2.2.2 br.2
  .rfl
  cases (t.2.2.2.take i).any λy=>Du y t.2.2.2[i]<;>rfl
 .rw[Y5 (by simp[x8])];rfl
section
variable {α ε ρ:Type}
theorem Tf(l:List α)(p:α->Bool)(r:ρ)(e:ε){f:Int->Option (Out Int ε ρ)}(hl:l.length<=1000000)
  (hin:∀(i:Nat) (a:α),l[i]? =some a->f (i:Int)=some (bif p a then .rt r else .nx (H8 .i64 (i:Int) 1))) (hend:f (l.length:Int)=some (.ex e)):
  P7 f 0=some (bif l.any p then .inr r else .inl e):=by
 rw[XD l (λi a=> !p a) r e f o5 (λi a ha=>?_) hend]
 .have hb:(∀(j:Nat) (a:α),l[j]? =some a->(!p a)=true)↔l.any p=false:=by
   rw[dh];constructor
   .intro h x hx;obtain⟨j,hj,rfl⟩:=eQ hx;have:=h j _ (sF hj);simpa using this
   .intro h j a hj;have:=h a (sV hj);simpa using this
  by_cases hv:l.any p=false
  .rw[if_pos (hb.2 hv),hv];rfl
  .rw[if_neg (λh=>hv (hb.1 h))];simp only[GM]at hv;rw[hv];rfl
 .have hi:=(ai.1 ha).1;rw[hin i a ha,eP o5];cases p a<;>rfl
theorem Ai(l:List α)(p:α->Bool){f:Int->Option (Out Int PUnit Int)}(hl:l.length<=1000000)
  (hin:∀(i:Nat) (a:α),l[i]? =some a->f (i:Int)=some (bif p a then .rt (i:Int)else .nx (H8 .i64 (i:Int) 1))) (hend:f (l.length:Int)=some (.ex PUnit.unit)):
  l9 (l9 (P7 f 0) λo=>aF o (λ_=>some (-1)) λr=>some r) (λx=>some (U2 0 x))=some (l.any p):=by
 have key:=DJ (f:=f) (s:=0) (λx=>∃i:Nat,x=i/\i<=l.length/\(l.take i).any p=false) (λ_=>l.any p=false) (λk=>0<=k/\l.any p=true) (λx=>l.length -x.toNat) ⟨0,rfl,o5,rfl⟩ G8 ?_
 .rcases key with⟨e,h1,h2⟩|⟨k,h1,h2,h3⟩
  .rw[h1,h2];rfl
  .rw[h1,h3,o9,kD,o9,Z4 h2]
 .rintro x ⟨i,rfl,hi,hall⟩;by_cases h:i<l.length
  .have e:=sF h;have hst:(l.take (i+1)).any p=((l.take i).any p || p l[i]):=by rw[X8 h,Bi];simp
   rw[hin i _ e];cases hc:p l[i]with
   |true=>exact .inr (.inr ⟨_,rfl,o5,vW.2 ⟨l[i],af h,hc⟩⟩)|false=>exact .inl ⟨((i+1:Nat):Int),by rw[eP o5];rfl,⟨i+1,rfl,h,by rw[hst,hall,hc];rfl⟩,by simp;omega⟩
  .have:i=l.length:=o5;subst this;rw[iq]at hall;exact .inr (.inl ⟨_,hend,hall⟩)
theorem U5{l:List α}{a:α}(h:l[i]? =some a):I9 (i:Int) (x8 l)=true:=dY (by have:=(ai.1 h).1;simp only[x8];omega)
theorem Y6(l:List α):I9 (l.length:Int) (x8 l)=false:=Y5 (by simp[x8])
end
theorem Na{l:List U6}(n:List UInt8)(h:l.length<=1000000):yQ l n=some (l.any λx=>seq x.1 n):=by unfold yQ ku lL;rw[vG];refine Ai l (λx=>seq x.1 n) h (λi a ha=>?_) (by rw[Y6];rfl);rw[U5 ha,o7,P5,ha,o9];unfold EU;rw[o9];cases seq a.1 n<;>rfl
theorem Rw{l:List ax}(n:List UInt8)(h:l.length<=1000000):zu l n=some (l.any λx=>seq x.1 n):=by unfold zu jy kJ;rw[vG];refine Ai l (λx=>seq x.1 n) h (λi a ha=>?_) (by rw[Y6];rfl);rw[U5 ha,o7,P5,ha,o9];unfold DD;rw[o9];cases seq a.1 n<;>rfl
theorem G_{l:List J8}(s:J8)(h:l.length<=1000000):gp l s=some (l.any λx=>seq x.1 s.1):=by unfold gp kH;refine Ai l (λx=>seq x.1 s.1) h (λi a ha=>?_) (by rw[Y6];rfl);rw[U5 ha,o7,P5,ha,o9];unfold Am;rw[o9];cases seq a.1 s.1<;>rfl
theorem a1L{l:List aH}(s:aH)(h:l.length<=1000000):ig l s=some (l.any λx=>seq x.1 s.1):=by unfold ig lM;refine Ai l (λx=>seq x.1 s.1) h (λi a ha=>?_) (by rw[Y6];rfl);rw[U5 ha,o7,P5,ha,o9];unfold BO;rw[o9];cases seq a.1 s.1<;>rfl
theorem Ru{l:List dL}(s:dL)(h:l.length<=1000000):cO l s=some (l.any λx=>seq x.1 s.1):=by unfold cO kG;refine Ai l (λx=>seq x.1 s.1) h (λi a ha=>?_) (by rw[Y6];rfl);rw[U5 ha,o7,P5,ha,o9];unfold Ak;rw[o9];cases seq a.1 s.1<;>rfl
theorem a5i{l:List (List UInt8)}(s:List UInt8)(h:l.length<=1000000):kS l s=some (l.any λx=>seq s x):=by unfold kS dD;refine Ai l (λx=>seq s x) h (λi a ha=>?_) (by rw[Y6];rfl);rw[U5 ha,o7,P5,ha,o9];cases seq s a<;>rfl
theorem a5h{l:List Int}(s:Int)(h:l.length<=1000000):pJ l s=some (l.any λx=>D8 s x):=by unfold pJ xm;refine Ai l (λx=>D8 s x) h (λi a ha=>?_) (by rw[Y6];rfl);rw[U5 ha,o7,P5,ha,o9];cases D8 s a<;>rfl
theorem a3O(i k:Nat):I9 (i:Int) (k:Int)=decide (i<k):=by unfold I9;by_cases h:i<k<;>simp[h]<;>omega
def zX(l:Z7)(kind:Nat)(k:Nat)(n:List UInt8):Bool:=
 match kind with
 |1=>(l.1.take k).any λx=>seq x.1 n|2=>(l.1.any λx=>seq x.1 n) || ((l.2.1.take k).any λx=>seq x.1 n)|_=>(l.1.any λx=>seq x.1 n) || (l.2.1.any λx=>seq x.1 n) || ((l.2.2.take k).any λx=>seq x.1 n)
def Few(l:Z7):Prop:=l.1.length<=1000/\l.2.1.length<=1000/\l.2.2.length<=1000
def SN(ms:List (List UInt8))(i:Nat):Option (Int×Int):=match ms[i]? with
 |some m=>l7 (iU m) (l7 ((ms.take i).any λx=>seq m x) (some (7,((100+i:Nat):Int))) none) (some (2,((100+i:Nat):Int)))|none=>none
def Xm(l:Z7)(i:Nat)(e:U6):Int×Int:=
 l7 (iU e.1) (l7 (zX l 1 i e.1) (7,0) (l7 (D8 (x8 e.2) 0) (5,0) (l7 (I9 16 (x8 e.2)) (4,116) (match(List.range e.2.length).findSome? (SN e.2)with|some r=>r|none=>(0,0))))) (2,0)
theorem b0K(h:i<=1000000):H8 .i64 100 (i:Int)=((100+i:Nat):Int):=by rw[dw bg];omega
variable {l:Z7}
theorem Yu(h:Few l)(hi:i<=l.1.length)(e:U6)(h1:e.1.length<=1000000)(h2:∀m∈e.2,m.length<=1000000):
  AY l (i:Int) e=some (Xm l i e):=by
 unfold AY Xm zX;rw[pR h1,o9,yR hi,o9,Na _ (by have:=h.1;simp;omega),o9];cases iU e.1
 .rfl
 simp only[E8,o6,o7];cases (l.1.take i).any λx=>seq x.1 e.1
 case true=>rfl
 cases D8 (x8 e.2) 0
 case true=>rfl
 cases h16:I9 16 (x8 e.2)
 case true=>rfl
 simp only[o6];have hlen:e.2.length<=16:=by rw[oO]at h16;simp only[x8]at h16;omega
 refine X3 (Jq (p:=SN e.2) e.2.length o5 PUnit.unit (λj hj=>?_) ?_) ?_
 rotate_left 2
 .cases (List.range e.2.length).findSome? (SN e.2)<;>rfl
 .have e' :=sF hj;rw[U5 e',o7,P5,e',o9,pR (h2 _ (af hj)),o9,yR o5,o9,a5i _ G8,o9,b0K o5,eP o5];simp only[SN,e'];cases iU e.2[j]
  .rfl
  cases (e.2.take j).any λx=>seq e.2[j] x<;>rfl
 .rw[Y6];rfl
variable {β:Type}
theorem a6Z{p:Nat->Option β}{n j:Nat}{c:β}(h0:(List.range j).findSome? p=none)(h1:p j=some c)(hj:j<n):(List.range n).findSome? p=some c:=by
 induction n with
 |zero=>omega|succ n ih=>
  rw[jM,wR];by_cases h:j<n
  .rw[ih h];rfl
  .have:j=n:=o5;subst this;rw[h0];simp[h1]
theorem b0J{p:Nat->Option β}{j:Nat}(h0:(List.range j).findSome? p=none)(h1:p j=none):(List.range (j+1)).findSome? p=none:=by rw[jM,wR,h0];simp[h1]
variable {ρ:Type}
def dV(n:Nat)(p:Nat->Option ρ):Option ρ:=(List.range n).findSome? p
theorem Jj{σ ε ρ:Type}{p:Nat->Option ρ}(n:Nat)(hn:n<=1000000)(a:σ)(e:ε){f:σ×Int->Option (Out (σ×Int) ε ρ)}
  (h1:∀i,i<n->f (a,(i:Int))=some (match p i with|some r=> .rt r|none=> .nx (a,H8 .i64 (i:Int) 1))) (h2:f (a,(n:Int))=some (.ex e)):
  P7 f (a,0)=some (match dV n p with|some r=> .inr r|none=> .inl e):=by
 have key:=DJ (f:=f) (s:=(a,0)) (λx=>∃i:Nat,x=(a,(i:Int))/\i<=n/\dV i p=none) (λx=>x=e/\dV n p=none) (λr=>dV n p=some r) (λx=>n -x.2.toNat) ⟨0,rfl,o5,rfl⟩ G8 ?_
 .rcases key with⟨x,k1,rfl,k2⟩|⟨r,k1,k2⟩
  .rw[k1,k2]
  .rw[k1,k2]
 .rintro x ⟨i,rfl,hi,hnone⟩;by_cases h:i<n
  .rw[h1 i h];cases hp:p i with
   |some r=>exact .inr (.inr ⟨_,rfl,a6Z hnone hp h⟩)|none=>exact .inl ⟨(a,((i+1:Nat):Int)),by rw[eP o5],⟨i+1,rfl,h,b0J hnone hp⟩,by simp;omega⟩
  .have:i=n:=o5;subst this;exact .inr (.inl ⟨_,h2,rfl,hnone⟩)
def MS(kind i:Int)(r:Int×Int):Option (Int×Int×Int×Int):=l7 (D8 r.1 0) none (some (r.1,kind,i,r.2))
def Oh(l:Z7)(i:Nat):Option (Int×Int×Int×Int):=match l.1[i]? with|some e=>MS 1 i (Xm l i e)|none=>none
def Ae(l:Z7):Int×Int×Int×Int:=l7 (I9 8 (x8 l.1)) (4,1,8,0) (match dV l.1.length (Oh l)with|some r=>r|none=>(0,0,0,0))
def a3i(l:Z7):Prop:=∀e∈l.1,e.1.length<=1000000/\∀m∈e.2,m.length<=1000000
theorem WM(h:Few l)(hE:a3i l):zq l=some (Ae l):=by
 unfold zq Ae;cases I9 8 (x8 l.1)
 case true=>rfl
 simp only[o6];refine X3 (Jj (p:=Oh l) l.1.length (by have:=h.1;omega) _ (0,0,0,0) (λi hi=>?_) ?_) ?_
 rotate_left 2
 .cases dV l.1.length (Oh l)<;>rfl
 .have e:=sF hi;have hm:=hE _ (af hi);simp only[U5 e,o7,P5,e,o9,Yu h (show i<=l.1.length by omega) _ hm.1 hm.2,Oh,MS];cases D8 (Xm l i l.1[i]).1 0<;>rfl
 .rw[Y6];rfl
variable {n:Nat}
theorem mG{p:Nat->Option ρ}{r:ρ}(h:dV n p=some r):∃i,i<n/\p i=some r:=by unfold dV at h;obtain⟨i,hi,hp⟩:=List.exists_of_findSome?_eq_some h;exact⟨i,fU.1 hi,hp⟩
theorem b0b(t:ax)(en:List U6):(NR t en).1=-1\/0<=(NR t en).1:=by
 unfold NR;cases I9 64 (x8 t.2.2.2)
 case true=>right;simp only[o7];decide
 cases vty t.2.1 en
 .left;rfl
 cases vty t.2.2.1 en
 .left;rfl
 right;simp only[o7,o6];cases hf:(List.range t.2.2.2.length).findSome? (VO t en)with
 |none=>exact xB _|some r=>
  obtain⟨i,hi,hp⟩:=mG (p:=VO t en) hf;unfold VO at hp;split at hp
  .rename_i x hx;cases hw:NV x (bnd t.2.1 en) (bnd t.2.2.1 en)<;>rw[hw]at hp
   .cases ha:(t.2.2.2.take i).any λy=>Du y x<;>rw[ha]at hp
    .cases hp
    .cases hp;show(0:Int)<=(i:Int);omega
   .cases hp;show(0:Int)<=(i:Int);omega
  .cases hp
def ZN(l:Z7)(i:Nat)(t:ax):Int×Int:=
 l7 (iU t.1) (l7 (zX l 2 i t.1) (7,0) (l7 (D8 (NR t l.1).2 0) (0,0) ((NR t l.1).2,l7 (U2 0 (NR t l.1).1) (H8 .i64 100 (NR t l.1).1) 0))) (2,0)
def Ie(l:Z7)(i:Nat):Option (Int×Int×Int×Int):=match l.2.1[i]? with|some t=>MS 2 i (ZN l i t)|none=>none
def yD(l:Z7):Int×Int×Int×Int:=l7 (I9 8 (x8 l.2.1)) (4,2,8,0) (match dV l.2.1.length (Ie l)with|some r=>r|none=>(0,0,0,0))
def f_(l:Z7):Prop:=∀t∈l.2.1,t.1.length<=1000000
theorem Uo(h:Few l)(hT:f_ l):yw l=some (yD l):=by
 unfold yw yD;cases I9 8 (x8 l.2.1)
 case true=>rfl
 simp only[o6];refine X3 (Jj (p:=Ie l) l.2.1.length (by have:=h.2.1;omega) _ (0,0,0,0) (λi hi=>?_) ?_) ?_
 rotate_left 2
 .cases dV l.2.1.length (Ie l)<;>rfl
 .have e:=sF hi;have hm:=hT _ (af hi);simp only[U5 e,o7,P5,e,o9,b0c,pR hm,Na _ (show l.1.length<=1000000 by have:=h.1;omega),yR (show i<=l.2.1.length by omega),
   Rw _ (show(l.2.1.take i).length<=1000000 by have:=h.2.1;simp;omega),Ie,ZN,zX]
  cases iU l.2.1[i].1
  .rfl
  cases l.1.any λx=>seq x.1 l.2.1[i].1
  case true=>rfl
  cases (l.2.1.take i).any λx=>seq x.1 l.2.1[i].1
  case true=>rfl
  simp only[E8,o6,o7,o9,Bool.or_false];cases hz:D8 (NR l.2.1[i] l.1).2 0
  case true=>rfl
  simp only[Z5,o7,o6,MS,hz];rcases b0b l.2.1[i] l.1 with hr|hr
  .rw[O7 hr,dF (show(NR l.2.1[i] l.1).1<0 by omega)];simp only[E8,o6,o9,hz,Z5,o7]
  .rw[O5 (show(NR l.2.1[i] l.1).1≠-1 by omega),Z4 hr];simp only[Z5,o7,o9,hz]
 .rw[Y6];rfl
variable {ε:Type}
theorem a1J(l:List α)(g:α->β)(hl:l.length<=1000000){f:List β×Int->Option ((List β×Int)⊕ε)}{F:List β->ε}
  (hin:∀(i:Nat) (a:α) (acc:List β),l[i]? =some a->acc.length=i->f (acc,(i:Int))=some (.inl (acc++[g a],H8 .i64 (i:Int) 1))) (hend:∀acc,f (acc,(l.length:Int))=some (.inr (F acc))):
  dC f ([],0)=some (F (l.map g)):=by
 obtain⟨e,h1,h2⟩:=sO (f:=f) (s:=([],0)) (λx=>∃i:Nat,x=((l.take i).map g,(i:Int))/\i<=l.length) (λe=>e=F (l.map g)) (λx=>l.length -x.2.toNat) ⟨0,rfl,o5⟩ G8 (by
  rintro x ⟨i,rfl,hi⟩;by_cases h:i<l.length
  .have e:=sF h;refine .inl ⟨((l.take (i+1)).map g,((i+1:Nat):Int)),?_,⟨i+1,rfl,h⟩,by simp;omega⟩;rw[hin i _ _ e G8,eP o5,X8 h,jK];rfl
  .have:i=l.length:=o5;subst this;refine .inr ⟨_,hend _,?_⟩;rw[iq])
 rw[h1,h2]
theorem ES{l:List dL}(h:l.length<=1000000):uf l=some (l.map (·.2)):=by
 unfold uf;rw[vG];refine a1J (F:=id) l (λx=>x.2) h (λi a acc ha hacc=>?_) (λacc=>?_)
 .have hi:=(ai.1 ha).1;simp only[U5 ha,o7,P5,ha,o9];rw[uN (by simp[hacc];omega)];rfl
 .simp only[Y6];rfl
def d_(l:Z7):Prop:=∀s∈l.2.2,s.1.length<=1000000/\s.2.2.1.length<=1000/\s.2.2.2.1.length<=1000/\s.2.2.2.2.length<=1000
def uT(l:Z7)(s:J8):List U6×List ax×List (Int×Int)×List (Int×Int)×List (Int×Int)×Bool:=
 match(if 0<=s.2.1 then l.2.2[s.2.1.toNat]? else none)with
 |some k=>(l.1,l.2.1,s.2.2.1.map (·.2),s.2.2.2.1.map (·.2),k.2.2.2.1.map (·.2),true)|none=>(l.1,l.2.1,s.2.2.1.map (·.2),s.2.2.2.1.map (·.2),[],false)
theorem NL(h:d_ l){s:J8}(hs:l.2.2[i]? =some s):sZ l (i:Int)=some (uT l s):=by
 have hm:=h s (sV hs);unfold sZ uT;rw[P5,hs,o9,ES o5,o9,ES o5,o9];by_cases h0:0<=s.2.1
 .rw[Z4 h0,if_pos h0,o7];by_cases h1:s.2.1<x8 l.2.2
  .obtain⟨k,hk,hkm⟩:=tY h0 h1;have hk' :l.2.2[s.2.1.toNat]? =some k:=(pF hk).2.2.2;rw[dY h1,o7,hk,o9,ES (by have:=h k hkm;omega),o9,hk']
  .have h1' :x8 l.2.2<=s.2.1:=vg.1 h1;rw[Y5 h1',o6,fC (by simp only[x8]at h1';exact Int.le_toNat h0 |>.2 h1')]
 .have h0' :s.2.1<(0:Int):=qZ.1 h0;rw[dF h0',if_neg h0];rfl
abbrev SI(l:List Int):Prop:=l.Pairwise (·< ·)
theorem a2H:∀{a b:List Int},SI a->SI b->(∀x,x∈a↔x∈b)->a=b
 |[],[],_,_,_=>rfl|[],y::b,_,_,h=>absurd ((h y).2 A7) A7|x::a,[],_,_,h=>absurd ((h x).1 A7) A7|x::a,y::b,ha,hb,h=>by
  have ha' :=V8.1 ha;have hb' :=V8.1 hb;have hxy:x=y:=by
   rcases x9.1 ((h x).1 A7)with h1|h1
   .exact h1
   .rcases x9.1 ((h y).2 A7)with h2|h2
    .exact h2.symm
    .have:=hb'.1 _ h1;have:=ha'.1 _ h2;omega
  subst hxy;congr 1;refine a2H ha'.2 hb'.2 λz=>⟨λhz=>?_,λhz=>?_⟩
  .rcases x9.1 ((h z).1 (by simp[hz]))with h1|h1
   .have:=ha'.1 _ hz;omega
   .exact h1
  .rcases x9.1 ((h z).2 (by simp[hz]))with h1|h1
   .have:=hb'.1 _ hz;omega
   .exact h1
def ins(n:Int):List Int->List Int
 |[]=>[n]|a::l=>if n<=a then(if n<a then n::a::l else a::l)else a::ins n l
theorem YW(n x:Int):∀l,x∈ins n l↔x=n\/x∈l
 |[]=>by simp[ins]|a::l=>by
  unfold ins;by_cases h:n<=a
  .rw[if_pos h];by_cases h2:n<a
   .rw[if_pos h2];simp
   .rw[if_neg h2];have:n=a:=o5;subst this;simp
  .rw[if_neg h,x9,YW n x l,x9];constructor
   .rintro(h|h|h)<;>simp[h]
   .rintro(h|h|h)<;>simp[h]
theorem a9e(n:Int):∀{l},SI l->SI (ins n l)
 |[],_=>List.pairwise_singleton _ _|a::l,h=>by
  have h' :=V8.1 h;unfold ins;by_cases h1:n<=a
  .rw[if_pos h1];by_cases h2:n<a
   .rw[if_pos h2];refine V8.2 ⟨λx hx=>?_,h⟩;rcases x9.1 hx with rfl|hx
    .exact h2
    .have:=h'.1 x hx;omega
   .rw[if_neg h2];exact h
  .rw[if_neg h1];refine V8.2 ⟨λx hx=>?_,a9e n h'.2⟩;rcases(YW n x l).1 hx with rfl|hx
   .omega
   .exact h'.1 x hx
def UW(ns:List Int)(l:List Int):List Int:=ns.foldl (λacc n=>ins n acc) l
theorem Vj(x:Int):∀ns l,x∈UW ns l↔x∈ns\/x∈l
 |[],l=>by simp[UW]|n::ns,l=>by
  show x∈UW ns (ins n l)↔_;rw[Vj x ns,YW,x9];constructor
  .rintro(h|h|h)<;>simp[h]
  .rintro((h|h)|h)<;>simp[h]
theorem ZC:∀ns {l},SI l->SI (UW ns l)
 |[],_,h=>h|n::ns,_,h=>ZC ns (a9e n h)
def NP(l:List Int):List Int:=UW l []
theorem V_(x:Int)(l:List Int):x∈NP l↔x∈l:=by unfold NP;rw[Vj];simp
theorem a4y(l:List Int):SI (NP l):=ZC l List.Pairwise.nil
theorem UZ(n:Int):∀l,(ins n l).length<=l.length+1
 |[]=>by simp[ins]|a::l=>by
  unfold ins;by_cases h1:n<=a
  .rw[if_pos h1];by_cases h2:n<a
   .rw[if_pos h2];simp
   .rw[if_neg h2];simp
  .rw[if_neg h1];have:=UZ n l;simp only[A8];omega
theorem Rx:∀ns l,(UW ns l).length<=l.length+ns.length
 |[],l=>by simp[UW]|n::ns,l=>by have h1:=Rx ns (ins n l);have h2:=UZ n l;show(UW ns (ins n l)).length<=_;simp only[A8];omega
theorem O_(l:List Int):(NP l).length<=l.length:=by have:=Rx l [];unfold NP;simpa using this
theorem a2I{l:List Int}(n:Nat)(h:SI l)(h2:∀x∈l,0<=x/\x<n):l.length<=n:=by
 have key:∀(l:List Int) (lo:Int),SI l->(∀x∈l,lo<=x/\x<n)->lo<=n->(l.length:Int)<=n -lo:=by
  intro l;induction l with
  |nil=>intro lo _ _ hlo;simp;omega|cons a l ih=>intro lo hs hb hlo;have h' :=V8.1 hs;have ha:=hb a A7;have:=ih (a+1) h'.2 (λx hx=>⟨by have:=h'.1 x hx;omega,(hb x (by simp[hx])).2⟩) o5;simp only[A8];omega
 have:=key l 0 h (λx hx=>h2 x hx) o5;omega
theorem Ut(x:Int):∀(l:List Int) (p:Int),(p::l).Pairwise (·<=·)->SI (p::ddp p l)/\(x∈p::ddp p l↔x∈p::l)
 |[],p,_=>⟨List.pairwise_singleton _ _,Iff.rfl⟩|a::l,p,h=>by
  have h1:=V8.1 h;obtain⟨i1,i2⟩:=Ut x l a h1.2;have h2:=V8.1 h1.2;have hpa:=h1.1 a A7;unfold ddp;cases hq:D8 a p
  .rw[wQ]at hq;simp only[cond_false];refine⟨V8.2 ⟨λy hy=>?_,i1⟩,?_⟩
   .rcases x9.1 hy with rfl|hy
    .omega
    .have:=(V8.1 i1).1 y hy;omega
   .rw[x9,i2,x9 (a:=x) (b:=p)]
  .rw[iK]at hq;subst hq;simp only[cond_true];refine⟨i1,?_⟩;rw[i2];simp
theorem a6J(l:List Int):dd (Jn l)=NP l:=by
 have hs:=GL l;have hp:=GK l;refine a2H ?_ (a4y l) λx=>?_
 .cases he:Jn l with
  |nil=>exact List.Pairwise.nil|cons a r=>rw[he]at hs;exact(Ut a r a hs).1
 .rw[V_,←hp.mem_iff];cases he:Jn l with
  |nil=>exact Iff.rfl|cons a r=>rw[he]at hs;exact(Ut x r a hs).2
theorem a5l(l:List Int):(Jn l).length=l.length:=(GK l).length_eq
theorem b2h{l:List Int}(h:l.length<=1000000):l9 (Dn l) (λx=>ru x)=some (NP l):=by unfold Dn ru;rw[show Nat.blt l.length 4611686018427387904=true from by simp[Nat.blt];omega];simp only[cond_true,o9];rw[show Nat.blt (Jn l).length 4611686018427387904=true from by rw[a5l];simp[Nat.blt];omega];rw[cond_true,a6J]
def hg(l:List Int)(i:Nat):Int:=l.getD i 0
theorem a0U{l:List α}{a:α}(h:(l.take n)[i]? =some a):i<n/\l[i]? =some a:=by
 rw[V7]at h;split at h
 .exact⟨by assumption,h⟩
 .cases h
def ER(en:List U6)(f:dL)(a b:List dL):Int:=
 l7 (iU f.1) (l7 (a.any λx=>seq x.1 f.1) 7 (l7 (b.any λx=>seq x.1 f.1) 7 (l7 (vty f.2 en) 0 8))) 2
theorem LM{f:dL}{a b:List dL}(h:f.1.length<=1000000)(ha:a.length<=1000000)(hb:b.length<=1000000):wU l f a b=some (ER l.1 f a b):=by
 unfold wU ER;rw[pR h,o9,Ru _ ha,o9,Ru _ hb,o9,rZ,o9];cases iU f.1
 .rfl
 cases a.any λx=>seq x.1 f.1
 case true=>rfl
 cases b.any λx=>seq x.1 f.1
 case true=>rfl
 cases vty f.2 l.1<;>rfl
def UC(c e:Int):Option (Int×Int):=l7 (D8 c 0) none (some (c,e))
def inP(l:Z7)(s:J8)(i:Nat):Option (Int×Int):=match s.2.2.1[i]? with|some f=>UC (ER l.1 f (s.2.2.1.take i) []) (100+i:Nat)|none=>none
def t_(l:Z7)(s:J8)(i:Nat):Option (Int×Int):=match s.2.2.2.1[i]? with|some f=>UC (ER l.1 f s.2.2.1 (s.2.2.2.1.take i)) (200+i:Nat)|none=>none
def a6n(s:J8):Prop:=(∀f∈s.2.2.1,f.1.length<=1000000)/\(∀f∈s.2.2.2.1,f.1.length<=1000000)
theorem a3I{c i:Nat}(hc:c<=1000)(h:i<=1000000):H8 .i64 (c:Int) (i:Int)=((c+i:Nat):Int):=by rw[dw bg];omega
def zl(l:Z7)(s:J8):Option (Int×Int):=match dV s.2.2.1.length (inP l s)with|some r=>some r|none=>dV s.2.2.2.1.length (t_ l s)
def arF(op:Int):Int:=(kQ op).getD 0
variable {op:Int}
theorem Vx(h:1<=op/\op<=39):∃k:Fin 40,op=(k.val:Int):=⟨⟨op.toNat,o5⟩,by simp;omega⟩
theorem b6K:∀k:Fin 40,1<=k.val->(mF (k.val:Int)=kQ (k.val:Int))/\(kQ (k.val:Int)=some 0\/kQ (k.val:Int)=some 1\/kQ (k.val:Int)=some 2\/kQ (k.val:Int)=some 3):=by decide+kernel
theorem YR(h:¬(1<=op/\op<=39))(k:Int)(h1:1<=k)(h2:k<=39):D8 op k=false:=O5 o5
theorem Zk(h:¬(1<=op/\op<=39)):kQ op=some (-1):=by
 unfold kQ;by_cases h1:1<=op
 .rw[Z4 h1,o7,dF (show(9:Int)<op by omega),o6,dF (show(39:Int)<op by omega),dF (show(30:Int)<op by omega)];simp[YR h];cases U2 35 op<;>cases U2 11 op<;>rfl
 .rw[dF (show op<1 by omega),o6,dF (show op<35 by omega),dF (show op<11 by omega)];simp[YR h]
theorem b3A(h:¬(1<=op/\op<=39)):mF op=some (-1):=by unfold mF;simp[YR h]
theorem Oa(op:Int):mF op=some (arF op)/\kQ op=some (arF op)/\(arF op=-1\/arF op=0\/arF op=1\/arF op=2\/arF op=3):=by
 unfold arF;by_cases h:1<=op/\op<=39
 .obtain⟨k,rfl⟩:=Vx h;obtain⟨h1,h2⟩:=b6K k o5;rcases h2 with h2|h2|h2|h2<;>rw[h1,h2]<;>simp
 .rw[b3A h,Zk h];simp
theorem a6w(op:Int):mF op=some (arF op):=(Oa op).1
inductive XT where
 |l0 (n:Int×Int)|l1 (n:Int×Int) (a:XT)|l2 (n:Int×Int) (a b:XT)|l3 (n:Int×Int) (a b c:XT)
def XT.size:XT->Nat
 | .l0 _=>1| .l1 _ a=>a.size+1| .l2 _ a b=>a.size+b.size+1| .l3 _ a b c=>a.size+b.size+c.size+1
def XT.post:XT->List (Int×Int)
 | .l0 n=>[n]| .l1 n a=>a.post++[n]| .l2 n a b=>a.post++b.post++[n]| .l3 n a b c=>a.post++b.post++c.post++[n]
def XT.sts(o:Nat):XT->List Int
 | .l0 _=>[(o:Int)]| .l1 _ a=>a.sts o++[(o:Int)]| .l2 _ a b=>a.sts o++b.sts (o+a.size)++[(o:Int)]| .l3 _ a b c=>a.sts o++b.sts (o+a.size)++c.sts (o+a.size+b.size)++[(o:Int)]
theorem XT.size_pos(t:XT):0<t.size:=by cases t<;>simp[XT.size]
theorem XT.post_len(t:XT):t.post.length=t.size:=by
 induction t with
 |l0 n=>rfl|l1 n a ha=>simp[XT.post,XT.size,ha]|l2 n a b ha hb=>simp[XT.post,XT.size,ha,hb];try omega
 |l3 n a b c ha hb hc=>simp[XT.post,XT.size,ha,hb,hc];try omega
theorem XT.sts_len(t:XT):∀o,(t.sts o).length=t.size:=by
 induction t with
 |l0 n=>intro o;rfl|l1 n a ha=>intro o;simp[XT.sts,XT.size,ha]|l2 n a b ha hb=>intro o;simp[XT.sts,XT.size,ha,hb];try omega
 |l3 n a b c ha hb hc=>intro o;simp[XT.sts,XT.size,ha,hb,hc];try omega
def lZ:List XT->Nat
 |[]=>0|t::r=>lZ r+t.size
def Ir:List XT->List (Int×Int)
 |[]=>[]|t::r=>Ir r++t.post
def stR:List XT->List Int
 |[]=>[]|t::r=>stR r++t.sts (lZ r)
def ut:List XT->List Int
 |[]=>[]|t::r=>ut r++[(lZ r:Int)]
theorem ui:∀ts,(ut ts).length=ts.length
 |[]=>rfl|t::r=>by simp[ut,ui r]
theorem PP:∀ts,(stR ts).length=lZ ts
 |[]=>rfl|t::r=>by simp[stR,lZ,PP r,XT.sts_len]
theorem KT:∀ts,(Ir ts).length=lZ ts
 |[]=>rfl|t::r=>by simp[Ir,lZ,KT r,XT.post_len]
def push(n:Int×Int)(ts:List XT):Int⊕List XT:=
 if arF n.1=0 then .inr (.l0 n::ts)
 else if arF n.1=1 then(match ts with|a::r=> .inr (.l1 n a::r)|_=> .inl 5)
 else if arF n.1=2 then(match ts with|b::a::r=> .inr (.l2 n a b::r)|_=> .inl 5)
 else if arF n.1=3 then(match ts with|c::b::a::r=> .inr (.l3 n a b c::r)|_=> .inl 5)
 else .inl 2
def xQ:Nat->List (Int×Int)->List XT->(Int×Int)⊕List XT
 |_,[],ts=> .inr ts
 |i,n::es,ts=>match push n ts with
  | .inl c=> .inl ((i:Int),c)| .inr ts' =>if 12<ts'.length then .inl ((i:Int),16)else xQ (i+1) es ts'
def oK(e:List (Int×Int)):(Int×Int)⊕XT:=
 if 48<e.length then .inl (0,4)else if e.length=0 then .inl (0,5)else
  match xQ 0 e []with
  | .inl x=> .inl x| .inr [t]=> .inr t| .inr _=> .inl ((e.length:Int),4)
theorem XO{n:Int×Int}{ts ts' :List XT}(h:push n ts= .inr ts'):Ir ts' =Ir ts++[n]/\ts' ≠[]:=by
 unfold push at h;split at h
 .cases h;exact⟨rfl,A7⟩
 split at h
 .split at h
  .cases h;exact⟨by simp[Ir,XT.post],A7⟩
  .cases h
 split at h
 .split at h
  .cases h;exact⟨by simp[Ir,XT.post],A7⟩
  .cases h
 split at h
 .split at h
  .cases h;exact⟨by simp[Ir,XT.post],A7⟩
  .cases h
 .cases h
theorem KX{n:Int×Int}{ts ts' :List XT}(h:push n ts= .inr ts'):lZ ts' =lZ ts+1:=by rw[←KT,←KT,(XO h).1];simp
theorem He:∀(es:List (Int×Int)) (i:Nat) (ts ts' :List XT),xQ i es ts= .inr ts' ->Ir ts' =Ir ts++es/\(ts≠[]\/es≠[]->ts' ≠[])
 |[],i,ts,ts',h=>by cases h;exact⟨A7,A7⟩|n::es,i,ts,ts',h=>by
  unfold xQ at h;cases hp:push n ts with
  |inl c=>rw[hp]at h;cases h|inr t2=>
   rw[hp]at h;simp only at h;split at h
   .cases h
   .obtain⟨h1,h2⟩:=He es (i+1) t2 ts' h;obtain⟨h3,h4⟩:=XO hp;exact⟨by rw[h1,h3];simp,λ_=>h2 (.inl h4)⟩
theorem rY{e:List (Int×Int)}{t:XT}(h:oK e= .inr t):e=t.post/\e.length<=48:=by
 unfold oK at h;split at h
 .cases h
 split at h
 .cases h
 split at h
 .cases h
 .rename_i t' hp;cases h;have:=(He e 0 [] [t] hp).1;exact⟨by simpa[Ir]using this.symm,o5⟩
 .cases h
theorem a0Q{σ ε ρ:Type}(e:List (Int×Int))(he:e.length<=48)(g:List XT->σ)(fin:List XT->ε)(rt:Int×Int->ρ){f:σ->Option (Out σ ε ρ)}
  (hs:∀(i:Nat) (n:Int×Int) (ts:List XT),e[i]? =some n->i=lZ ts->ts.length<=12->f (g ts)=some (match push n ts with
   | .inl c=> .rt (rt ((i:Int),c))
   | .inr ts' =>if 12<ts'.length then .rt (rt ((i:Int),16))else .nx (g ts')))
  (hend:∀ts,lZ ts=e.length->f (g ts)=some (.ex (fin ts))):
  P7 f (g [])=some (match xQ 0 e []with| .inl x=> .inr (rt x)| .inr ts=> .inl (fin ts)):=by
 have key:∀(es:List (Int×Int)) (i:Nat) (ts:List XT) (k:Nat),e.drop i=es->i=lZ ts->ts.length<=12->i<=e.length->es.length<k->
   gK f k (g ts)=some (match xQ i es ts with| .inl x=> .inr (rt x)| .inr ts=> .inl (fin ts)):=by
  intro es;induction es with
  |nil=>
   intro i ts k hd hi hl hle hk;obtain⟨k,rfl⟩:∃k',k=k' +1:=⟨k -1,o5⟩;have:i=e.length:=by have:=congrArg List.length hd;simp at this;omega
   unfold gK;rw[hend ts o5];rfl
  |cons n es ih=>
   intro i ts k hd hi hl hle hk;obtain⟨k,rfl⟩:∃k',k=k' +1:=⟨k -1,o5⟩;have hn:e[i]? =some n:=by
    have:(e.drop i)[0]? =some n:=by rw[hd];rfl
    simpa using this
   have hlt:=(ai.1 hn).1;unfold gK;rw[hs i n ts hn hi hl];unfold xQ;cases hp:push n ts with
   |inl c=>rfl|inr ts' =>
    simp only;by_cases h12:12<ts'.length
    .rw[if_pos h12,if_pos h12]
    .rw[if_neg h12,if_neg h12];exact ih (i+1) ts' k (by rw[←V6,hd];rfl) (by rw[KX hp,hi]) o5 o5 (by simp at hk;omega)
 exact key e 0 [] aG rfl rfl A7 o5 (by unfold aG;omega)
theorem a0e:∀(p r:List XT),∃X,ut (p++r)=ut r++X/\X.length=p.length/\(p≠[]->X.head?=some (lZ r:Int))
 |[],r=>⟨[],A7,rfl,λh=>absurd rfl h⟩|a::p,r=>by
  obtain⟨X,h1,h2,h3⟩:=a0e p r;refine⟨X++[(lZ (p++r):Int)],?_,by simp[h2],λ_=>?_⟩
  .show ut (p++r)++[(lZ (p++r):Int)]=_;rw[h1,E9]
  .cases p with
   |nil=>simp at h2;subst h2;rfl|cons b p=>rw[List.head?_append,h3 A7];rfl
theorem a2i(p r:List XT)(k:Int)(hk:k=(p.length:Int))(h:p.length+r.length<=100)(hp:p≠[]):
  N8 .i64 (x8 (ut (p++r))) k=(r.length:Int)/\O0 (ut (p++r)) (r.length:Int)=some (lZ r:Int)/\fO (ut (p++r)) (bY (r.length:Int))=some (lZ r:Int)
  /\ny 0 (r.length:Int) (x8 (ut (p++r)))=true/\kN (ut (p++r)) (bY 0) (bY (r.length:Int))=ut r:=by
 obtain⟨X,h1,h2,h3⟩:=a0e p r;have hl:(ut (p++r)).length=r.length+p.length:=by rw[ui];simp;omega
 have hg:(ut (p++r))[r.length]? =some (lZ r:Int):=by rw[h1,F5 (by rw[ui];omega),ui,Y9,←List.head?_eq_getElem?];exact h3 hp
 refine⟨?_,?_,?_,?_,?_⟩
 .simp only[x8,hl];rw[cu bg];omega
 .rw[P5];exact hg
 .exact hg
 .simp only[ny,x8,hl,decide_eq_true_eq];omega
 .show((ut (p++r)).take r.length).drop 0=_;rw[h1,bi,X5 (by rw[ui];omega),P9 (by rw[ui];omega)]
theorem a3N(ts:List XT):I9 12 (x8 (ut ts))=decide (12<ts.length):=by rw[show x8 (ut ts)=((ts.length:Nat):Int) by simp[x8,ui]];exact a3O 12 ts.length
theorem zW{l:List α}(x:α)(h:l.length<=1000000):dE l [x]=some (l++[x]):=uN G8
theorem UT(ts:List XT)(k:Nat):I9 (x8 (ut ts)) (k:Int)=decide (ts.length<k):=by rw[show x8 (ut ts)=((ts.length:Nat):Int) by simp[x8,ui]];exact a3O _ _
def Ba(e:List (Int×Int)):List Int×Int×Int:=match oK e with| .inl x=>([],x)| .inr t=>(t.sts 0,0,0)
theorem a5L{e:List (Int×Int)}(h0:e.length≠0){K:List Int×Int×Int->List Int×Int×Int}(h48:¬48<e.length)
  {r:List Int×Int×Int} (h:∀ts,xQ 0 e []= .inr ts->r=l7 (I9 1 (x8 (ut ts))) ([],x8 e,4) (stR ts,0,0)) (hi:∀x,xQ 0 e []= .inl x->r=([],x)):r=Ba e:=by
 unfold Ba oK;rw[if_neg h48,if_neg h0];cases hp:xQ 0 e []with
 |inl x=>exact hi x hp|inr ts=>
  rw[h ts hp];have:=(He e 0 [] ts hp).2 (.inr (by intro he;subst he;exact h0 rfl));match ts,this with
  |[t],_=>simp[ut,x8,I9,stR,lZ]|a::b::ts,_=>rw[dY (by simp[x8,ui];omega)];rfl
def pd(l:List Int)(k:Nat):List Int:=l++List.replicate k 0
theorem a7P(l:List Int)(m:Nat):O0 (pd l (m+1)) (l.length:Int)=some 0:=by rw[P5];unfold pd;rw[F5 o5,Y9];rfl
theorem b1p(l:List Int)(m:Nat):fO (pd l (m+1)) (bY (l.length:Int))=some 0:=by have:=a7P l m;rw[P5]at this;exact this
theorem b3X(l:List Int)(m:Nat)(v:Int):ug (pd l (m+1)) (bY (l.length:Int)) v=pd (l++[v]) m:=by show(l++List.replicate (m+1) 0).set l.length v=_;rw[mP _ _ o5,Y9,kY];simp[pd]
theorem TC(l:List Int)(m:Nat)(v w:Int):ug (pd (l++[v]) m) (bY (l.length:Int)) w=pd (l++[w]) m:=by show(l++[v]++List.replicate m 0).set l.length w=_;rw[E9,mP _ _ o5,Y9];simp[pd]
theorem OT(l:List Int)(m:Nat)(v:Int):O0 (pd (l++[v]) m) (l.length:Int)=some v:=by rw[P5];unfold pd;rw[E9,F5 o5,Y9];rfl
theorem OU(l:List Int)(m:Nat)(v:Int):fO (pd (l++[v]) m) (bY (l.length:Int))=some v:=by have:=OT l m v;rw[P5]at this;exact this
theorem Ic(e:List (Int×Int)):wM e=some (Ba e):=by
 unfold wM;by_cases h48:48<e.length
 .rw[dY (by simp[x8];omega),o7];unfold Ba oK;rw[if_pos h48]
 by_cases h0:e.length=0
 .rw[Y5 (by simp[x8];omega),o6,O7 (by simp[x8,h0]),o7];unfold Ba oK;rw[if_neg h48,if_pos h0]
 rw[Y5 (by simp[x8];omega),o6,O5 (by simp[x8];intro h;exact h0 (by simp[h])),o6];rw[show Lt (x8 e) (0:Int)=some (pd (stR []) (e.length -lZ [])) by simp[Lt,x8,pd,stR,lZ];omega,o9];refine X3 (a0Q e o5 (λts=>(pd (stR ts) (e.length -lZ ts),ut ts,(lZ ts:Int))) (λts=>(pd (stR ts) (e.length -lZ ts),ut ts)) (λx=>(([]:List Int),x)) (λi n ts hn hi hl=>?_) (λts hsz=>?_)) ?_
 rotate_left 2
 .rw[←a5L h0 h48 (K:=id) (r:=match xQ 0 e []with| .inl x=>([],x)| .inr ts=>l7 (I9 1 (x8 (ut ts))) ([],x8 e,4) (stR ts,0,0)) (λts h=>by rw[h]) (λx h=>by rw[h])];cases hp:xQ 0 e []with
  |inl x=>rfl|inr ts=>
   have:=(He e 0 [] ts hp).1;have hz:e.length -lZ ts=0:=by have:=congrArg List.length this;rw[KT]at this;simp[Ir]at this;omega
   simp only[o9,Y2,hz,pd,List.replicate_zero,E5];cases I9 1 (x8 (ut ts))<;>rfl
 .subst hi;have hlt:=(ai.1 hn).1;have hst:=PP ts;have hof:=ui ts;obtain⟨m,hm⟩:∃m,e.length -lZ ts=m+1:=⟨e.length -lZ ts -1,o5⟩;simp only[U5 hn,o7,P5 e,hn,o9,a6w,hm];rw[←hst];simp only[a7P,b1p,o9,b3X,OT,OU,TC];rw[hst];rcases(Oa n.1).2.2 with h|h|h|h|h
  .rw[show push n ts= .inl 2 by simp[push,h],h];rfl
  .have e0:N8 .i64 (x8 (ut ts)) 0=((ut ts).length:Int):=by rw[cu (by unfold jh x8;omega)];simp[x8]
   rw[show push n ts= .inr (.l0 n::ts) by simp[push,h],h,Y5 o5,o6,Y5 (Q_ _),o6,o6,e0,show ny 0 ((ut ts).length:Int) (x8 (ut ts))=true by simp[ny,x8],o7,
    show kN (ut ts) (bY 0) (bY ((ut ts).length:Int))=ut ts by simp[kN,bY],zW _ o5,o9,eP o5]
   rw[show ut ts++[(lZ ts:Int)]=ut (.l0 n::ts)from rfl,a3N];by_cases hc:12<(XT.l0 n::ts).length
   .simp only[hc,decide_true,if_true,o7]
   .simp only[hc,decide_false,if_false,o6,lZ,XT.size,stR,XT.sts,show e.length -(lZ ts+1)=m by omega]
  .match ts with
   |[]=>rw[show push n []= .inl 5 by simp[push,h],h];rfl|a::r=>
    obtain⟨p1,p2,p3,p4,p5⟩:=a2i [a] r 1 rfl (by simp at hl ⊢;omega) A7;simp only[H7,G7]at p1 p2 p3 p4 p5;have:=PP (a::r);have:=ui r;simp only[A8]at hl;rw[show push n (a::r)= .inr (.l1 n a::r) by simp[push,h],h,Y5 o5,o6,show(1:Int)=((1:Nat):Int)from rfl,UT,show decide ((a::r).length<1)=false by simp];simp only[Int.natCast_one]at p1 ⊢;rw[o6,dY o5,o7,p1,p2,o9,p3,o9,p4,o7,p5];rw[←hst]
    try simp only[TC,OT,OU,o9]
    rw[hst,zW _ o5,o9,eP o5];rw[show ut r++[(lZ r:Int)]=ut (.l1 n a::r)from rfl,a3N];have hz:=KX (show push n (a::r)= .inr (.l1 n a::r) by simp[push,h]);by_cases hc:12<(XT.l1 n a::r).length
    .simp only[hc,decide_true,if_true,o7]
    .simp only[hc,decide_false,if_false,o6,hz,show e.length -(lZ (a::r)+1)=m by omega,stR,XT.sts,E9]
  .match ts with
   |[]=>rw[show push n []= .inl 5 by simp[push,h],h];rfl|[a]=>rw[show push n [a]= .inl 5 by simp[push,h],h];rfl|b::a::r=>
    obtain⟨p1,p2,p3,p4,p5⟩:=a2i [b,a] r 2 rfl (by simp at hl ⊢;omega) A7;simp only[H7,G7]at p1 p2 p3 p4 p5;have:=PP (b::a::r);have:=ui r;simp only[A8]at hl;rw[show push n (b::a::r)= .inr (.l2 n a b::r) by simp[push,h],h,Y5 o5,o6,show(2:Int)=((2:Nat):Int)from rfl,UT,show decide ((b::a::r).length<2)=false by simp];rw[o6,dY o5,o7,show((2:Nat):Int)=2 from rfl,p1,p2,o9,p3,o9,p4,o7,p5];rw[←hst]
    try simp only[TC,OT,OU,o9]
    rw[hst,zW _ o5,o9,eP o5];rw[show ut r++[(lZ r:Int)]=ut (.l2 n a b::r)from rfl,a3N];have hz:=KX (show push n (b::a::r)= .inr (.l2 n a b::r) by simp[push,h]);by_cases hc:12<(XT.l2 n a b::r).length
    .simp only[hc,decide_true,if_true,o7]
    .rw[hz,show e.length -(lZ (b::a::r)+1)=m by omega,show stR (.l2 n a b::r)=stR (b::a::r)++[(lZ r:Int)] by simp only[stR,XT.sts,E9,lZ]];simp only[hc,decide_false,if_false,o6]
  .match ts with
   |[]=>rw[show push n []= .inl 5 by simp[push,h],h];rfl|[a]=>rw[show push n [a]= .inl 5 by simp[push,h],h];rfl|[b,a]=>rw[show push n [b,a]= .inl 5 by simp[push,h],h];rfl|c::b::a::r=>
    obtain⟨p1,p2,p3,p4,p5⟩:=a2i [c,b,a] r 3 rfl (by simp at hl ⊢;omega) A7;simp only[H7,G7]at p1 p2 p3 p4 p5;have:=PP (c::b::a::r);have:=ui r;simp only[A8]at hl;rw[show push n (c::b::a::r)= .inr (.l3 n a b c::r) by simp[push,h],h,Y5 o5,o6,show(3:Int)=((3:Nat):Int)from rfl,UT,show decide ((c::b::a::r).length<3)=false by simp];rw[o6,dY o5,o7,show((3:Nat):Int)=3 from rfl,p1,p2,o9,p3,o9,p4,o7,p5];rw[←hst]
    try simp only[TC,OT,OU,o9]
    rw[hst,zW _ o5,o9,eP o5];rw[show ut r++[(lZ r:Int)]=ut (.l3 n a b c::r)from rfl,a3N];have hz:=KX (show push n (c::b::a::r)= .inr (.l3 n a b c::r) by simp[push,h]);by_cases hc:12<(XT.l3 n a b c::r).length
    .simp only[hc,decide_true,if_true,o7]
    .rw[hz,show e.length -(lZ (c::b::a::r)+1)=m by omega,show stR (.l3 n a b c::r)=stR (c::b::a::r)++[(lZ r:Int)] by simp only[stR,XT.sts,E9,lZ]];simp only[hc,decide_false,if_false,o6]
 .simp only[hsz,Y6];rfl
end Go.GP
namespace Go.GP
open Gt
set_option maxRecDepth 100000
def VT(t:Int×Int):Prop:=t=(1,0)\/t=(2,0)\/t=(3,0)\/t=(4,0)\/t=(5,0)\/∃e,t=(6,e)
theorem JX{t:Int×Int}{en:List U6}(h:vty t en=true):VT t:=by
 obtain⟨k,e⟩:=t;unfold vty at h;simp only at h;cases h6:D8 k 6
 .rw[h6,o6]at h;cases h1:U2 1 k<;>rw[h1]at h
  .cases h
  cases h5:U2 k 5<;>rw[h5]at h
  .cases h
  simp only[o7,iK]at h;rw[jF]at h1 h5;subst h;have:k=1\/k=2\/k=3\/k=4\/k=5:=o5;rcases this with rfl|rfl|rfl|rfl|rfl<;>simp[VT]
 .rw[iK]at h6;subst h6;exact .inr (.inr (.inr (.inr (.inr ⟨e,rfl⟩))))
def EN(n:Int×Int)(ops:List (Int×Int))(sg:S9):Option ((Int×Int)×Int):=
 l7 (I4 (D8 n.2 0)) (l9 (dM n.1) λu=>l7 (I4 u) (some ((0,0),2)) (bH n ops sg)) (bH n ops sg)
def uC(n:Int×Int)(ops:List (Int×Int))(sg:S9):Prop:=∃r:(Int×Int)×Int,rU n ops sg=some r/\EN n ops sg=some r/\(r.2=0->VT r.1)
variable {k:Int}
theorem VT.lit(h:1<=k/\k<=5):VT (k,0):=by have:k=1\/k=2\/k=3\/k=4\/k=5:=o5;rcases this with rfl|rfl|rfl|rfl|rfl<;>simp[VT]
theorem Tn(a b:Int):U2 a b= !I9 b a:=by simp only[I9,U2];rw[←decide_not];congr 1;simp
theorem EE{α β:Type}(o:Option β)(f:α->Option β):l9 (l9 o λx=>some (Sum.inr x)) (λq=>aF q f λr=>some r)=o:=by cases o<;>rfl
theorem VT.enum(e:Int):VT (6,e):=.inr (.inr (.inr (.inr (.inr ⟨e,rfl⟩))))
theorem rJ{R E:Option ((Int×Int)×Int)}{c:Int}(hc:c≠0)(h1:R=some ((0,0),c))(h2:E=some ((0,0),c)):∃r:(Int×Int)×Int,R=some r/\E=some r/\(r.2=0->VT r.1):=⟨_,h1,h2,λh=>absurd h hc⟩
theorem nok{R E:Option ((Int×Int)×Int)}{t:Int×Int}(hv:VT t)(h1:R=some (t,0))(h2:E=some (t,0)):∃r:(Int×Int)×Int,R=some r/\E=some r/\(r.2=0->VT r.1):=⟨_,h1,h2,λ_=>hv⟩
def RR(a0:Int×Int)(a1:List (Int×Int))(a2:S9):Option ((Int×Int)×Int):=
 l9 (lH a0 a2) λ(x:Bool)=>l7 (I4 x) (some ((0,0),3)) (l9 (oU a0 a2) λ(x:Bool)=>l7 (I4 x) (some ((0,0),6))
  (l7 (D8 (x8 a1) 0) (l9 (oh a0 a2) λ(x:L6×Bool)=>l7 (I4 x.2) (some ((0,0),8)) (some (x.1,0)))
  (l7 (D8 (x8 a1) 1) (l9 (O0 a1 0) λ(x:L6)=>l9 (uS a0 x a2) λ(x:L6×Bool)=>l7 (I4 x.2) (some ((0,0),8)) (some (x.1,0)))
  (l7 (D8 (x8 a1) 2) (l9 (O0 a1 0) λ(x:L6)=>l9 (O0 a1 1) λ(x_1:L6)=>l9 (xF a0.1 x x_1) λ(x:L6×Bool)=>l7 (I4 x.2) (some ((0,0),8)) (some (x.1,0)))
  (l9 (O0 a1 1) λ(x:L6)=>l9 (O0 a1 0) λ(x_1:L6)=>l7 (D8 x_1.1 1) (l9 (O0 a1 1) λ(x_2:L6)=>l9 (O0 a1 2) λ(x_3:L6)=>
   l7 (I4 (lX (D8 x_2.1 x_3.1) (D8 x_2.2 x_3.2))) (some ((0,0),8)) (some (x,0))) (l7 (I4 false) (some ((0,0),8)) (some (x,0))))))))
theorem b6A(n:Int×Int)(ops:List (Int×Int))(sg:S9):rU n ops sg=l7 (I4 (D8 n.2 0)) (l9 (eX n.1) λx=>l7 x (RR n ops sg) (some ((0,0),2))) (RR n ops sg):=by
 unfold rU;cases D8 n.2 0
 .simp only[Z5,o7];cases eX n.1 with
  |none=>rfl|some b=>cases b<;>rfl
 .rfl
theorem Jw{op N:Int}{ops:List (Int×Int)}{sg:S9}(h1:dM op=some true)(h2:eX op=some true)
  (h:∃r:(Int×Int)×Int,RR (op,N) ops sg=some r/\bH (op,N) ops sg=some r/\(r.2=0->VT r.1)):uC (op,N) ops sg:=by
 unfold uC;rw[b6A];unfold EN;dsimp only;rw[h1,h2];cases D8 N 0<;>exact h
theorem QC{op N:Int}{ops:List (Int×Int)}{sg:S9}(h1:dM op=some false)(h2:eX op=some false)
  (h:∃r:(Int×Int)×Int,RR (op,0) ops sg=some r/\bH (op,0) ops sg=some r/\(r.2=0->VT r.1)):uC (op,N) ops sg:=by
 unfold uC;rw[b6A];unfold EN;dsimp only;rw[h1,h2];cases hz:D8 N 0
 .exact rJ (c:=2) C9 rfl rfl
 .rw[iK]at hz;subst hz;exact h
section
variable (N:Int) (sg:S9)
theorem a7z(hk:k=1\/k=2\/k=3\/k=4\/k=5):uC (k,N) [] sg:=by
 have hv:vty (k,0) sg.1=true:=by rcases hk with rfl|rfl|rfl|rfl|rfl<;>rfl
 have hm:dM k=some true/\eX k=some true:=by rcases hk with rfl|rfl|rfl|rfl|rfl<;>exact⟨rfl,rfl⟩
 refine Jw hm.1 hm.2 ?_;have key:bH (k,N) [] sg=lQ N k sg:=by rcases hk with rfl|rfl|rfl|rfl|rfl<;>exact EE _ _
 have key2:RR (k,N) [] sg=l9 (l9 (bM (k,0) sg.1) λ(x:L6)=>l7 (U2 x.1 N) (some (U2 N x.2)) (some false)) λ(x:Bool)=>l7 (I4 x) (some ((0,0),3)) (some ((k,0),0)):=by rcases hk with rfl|rfl|rfl|rfl|rfl<;>rfl
 rw[key,key2];unfold lQ;rw[CX,NE,o9,o9,Eu,Eu];cases U2 (bnd (k,0) sg.1).1 N
 .exact rJ (c:=3) C9 rfl rfl
 cases U2 N (bnd (k,0) sg.1).2
 .exact rJ (c:=3) C9 rfl rfl
 .exact nok (JX hv) rfl rfl
theorem a5z(hN:jh N):uC (6,N) [] sg:=by
 have hq:0<=N->dA .i64 N 16=N / 16:=λh=>by rw[Ot (by rw[oV h];unfold jh at*;omega),oV h]
 refine Jw rfl rfl ?_;have hf:oU (6,N) sg=l7 (I9 (dA .i64 N 16) (x8 sg.1)) (l9 (O0 sg.1 (dA .i64 N 16)) λ(x:U6)=>some (I9 (jc N 16) (x8 x.2))) (some false):=rfl;have hl:oh (6,N) sg=some ((6,dA .i64 N 16),vty (6,dA .i64 N 16) sg.1):=by unfold oh;simp only[oJ];rfl
 rw[show bH (6,N) [] sg=AX N sg from EE _ _];unfold RR AX;rw[hf,show lH (6,N) sg=some (U2 0 N)from rfl,hl];by_cases h0:0<=N
 .rw[Y5 h0,Z4 h0,hq h0];by_cases h1:N / 16<x8 sg.1
  .obtain⟨x,hx,_⟩:=tY (show 0<=N / 16 by omega) h1;rw[dY h1,dF h1,hx,show vty (6,N / 16) sg.1=true by unfold vty;simp only[Z4 (show 0<=N / 16 by omega),dY h1];rfl];simp only[o9,Eu];cases U2 (x8 x.2) (jc N 16)
   .exact nok (VT.enum (N / 16)) rfl rfl
   .exact rJ (c:=6) C9 rfl rfl
  .have h1' :x8 sg.1<=N / 16:=o5;rw[Y5 h1',Z4 h1'];exact rJ (c:=6) C9 rfl rfl
 .rw[dY (show N<0 by omega),dF (show N<0 by omega)];exact rJ (c:=3) C9 rfl rfl
theorem zA(ts:List (Int×Int))(en:S9):(∃x,O0 ts N=some x/\U2 0 N=true/\I9 N (x8 ts)=true/\lD N ts en=some (l7 (vty x en.1) (x,0) ((0,0),8)))\/((U2 0 N=false\/U2 0 N=true/\I9 N (x8 ts)=false)/\lD N ts en=some ((0,0),6)):=by
 unfold lD;rw[Eu N 0,Tn (x8 ts) N];cases h0:U2 0 N
 .exact .inr ⟨.inl A7,rfl⟩
 cases h1:I9 N (x8 ts)
 .exact .inr ⟨.inr A7,rfl⟩
 rw[jF]at h0;rw[xA]at h1;obtain⟨x,hx,_⟩:=tY h0 h1;rw[hx];simp only[qM,Bool.not_false,o6,o7,o9,rZ];exact .inl ⟨x,rfl,A7,A7,by cases vty x en.1<;>rfl⟩
theorem b0Z:uC (7,N) [] sg:=by
 refine Jw rfl rfl ?_;rw[show bH (7,N) [] sg=lD N sg.2.2.1 sg from EE _ _];have hf:oU (7,N) sg=l7 (U2 0 N) (some (I9 N (x8 sg.2.2.1))) (some false):=rfl;unfold RR;rw[hf,show lH (7,N) sg=some true from rfl];rcases zA N sg.2.2.1 sg with⟨x,h1,h2,h3,h4⟩|⟨h1|⟨h1,h2⟩,h4⟩
 .have hl:oh (7,N) sg=some (x,vty x sg.1):=by
   unfold oh;dsimp only;rw[h1];simp only[oJ];rfl
  rw[h2,h3,h4,hl];cases hv:vty x sg.1
  .exact rJ (c:=8) C9 rfl rfl
  .exact nok (JX hv) rfl rfl
 .rw[h1,h4];exact rJ (c:=6) C9 rfl rfl
 .rw[h1,h2,h4];exact rJ (c:=6) C9 rfl rfl
theorem a7y:uC (8,N) [] sg:=by
 refine Jw rfl rfl ?_;rw[show bH (8,N) [] sg=lD N sg.2.2.2.1 sg from EE _ _];have hf:oU (8,N) sg=l7 (U2 0 N) (some (I9 N (x8 sg.2.2.2.1))) (some false):=rfl;unfold RR;rw[hf,show lH (8,N) sg=some true from rfl];rcases zA N sg.2.2.2.1 sg with⟨x,h1,h2,h3,h4⟩|⟨h1|⟨h1,h2⟩,h4⟩
 .have hl:oh (8,N) sg=some (x,vty x sg.1):=by
   unfold oh;dsimp only;rw[h1];simp only[oJ];rfl
  rw[h2,h3,h4,hl];cases hv:vty x sg.1
  .exact rJ (c:=8) C9 rfl rfl
  .exact nok (JX hv) rfl rfl
 .rw[h1,h4];exact rJ (c:=6) C9 rfl rfl
 .rw[h1,h2,h4];exact rJ (c:=6) C9 rfl rfl
theorem a5y:uC (9,N) [] sg:=QC rfl rfl (nok (VT.lit (k:=5) o5) rfl rfl)
theorem a1X:uC (35,N) [] sg:=by
 refine QC rfl rfl ?_;rw[show bH (35,0) [] sg=qY (35,0) sg from EE _ _];unfold RR qY;simp only[lH,oU,oh,oJ,o9];cases sg.2.2.2.2.2
 .exact rJ (c:=6) C9 rfl rfl
 .exact nok (VT.lit (k:=2) o5) rfl rfl
theorem a7A(hk:k=36\/k=37\/k=38\/k=39):uC (k,N) [] sg:=by
 have hm:dM k=some true/\eX k=some true/\D8 k 35=false:=by rcases hk with rfl|rfl|rfl|rfl<;>exact⟨rfl,rfl,rfl⟩
 refine Jw hm.1 hm.2.1 ?_;rw[show bH (k,N) [] sg=qY (k,N) sg by rcases hk with rfl|rfl|rfl|rfl<;>exact EE _ _];have hr:RR (k,N) [] sg=l9 (l7 sg.2.2.2.2.2 (l7 (U2 0 N) (some (I9 N (x8 sg.2.2.2.2.1))) (some false)) (some false)) λ(x:Bool)=>l7 (I4 x) (some ((0,0),6))
   (l9 (oh (k,N) sg) λ(x:L6×Bool)=>l7 (I4 x.2) (some ((0,0),8)) (some (x.1,0))):=by rcases hk with rfl|rfl|rfl|rfl<;>rfl
 rw[hr];unfold qY;rw[hm.2.2,o6];cases sg.2.2.2.2.2
 .exact rJ (c:=6) C9 rfl rfl
 simp only[o7,E8,o6];rcases zA N sg.2.2.2.2.1 sg with⟨x,h1,h2,h3,h4⟩|⟨h1|⟨h1,h2⟩,h4⟩
 .rw[h2,h3,h4];have hl:oh (k,N) sg=l9 (some (l7 (D8 k 36) (l7 (vty x sg.1) (l7 (D8 x.1 2) true (D8 x.1 3)) false) (l7 (D8 k 39) (l7 (vty x sg.1) (l7 (D8 x.1 2) true (l7 (D8 x.1 3) true (l7 (D8 x.1 4) true (D8 x.1 5)))) false) (l7 (vty x sg.1) (D8 x.1 1) false)))) λb=>some (x,b):=by
   unfold oh;simp only[oJ,sS,xG];rcases hk with rfl|rfl|rfl|rfl<;>(rw[h1];simp only[D8,Int.reduceEq,decide_true,decide_false,o7,o6,o9];cases vty x sg.1<;>cases decide (x.1=2)<;>cases decide (x.1=3)<;>cases decide (x.1=4)<;>rfl)
  rw[hl];simp only[o9,oH];cases hv:vty x sg.1
  .rcases hk with rfl|rfl|rfl|rfl<;>exact rJ (c:=8) C9 rfl rfl
  .have hx:=JX hv;rcases hk with rfl|rfl|rfl|rfl<;>rcases hx with rfl|rfl|rfl|rfl|rfl|⟨e,rfl⟩ <;>
    first
    |exact nok (JX hv) rfl rfl
    |exact rJ (c:=8) C9 rfl rfl
 .rw[h1,h4];exact rJ (c:=6) C9 rfl rfl
 .rw[h1,h2,h4];exact rJ (c:=6) C9 rfl rfl
end
end Go.GP
namespace Go.GP
open Gt
set_option maxRecDepth 100000
variable {a:Int×Int}{k:Int}{b:Int×Int}
section
variable (N:Int) (sg:S9)
theorem b1a(hk:k=10\/k=25\/k=31\/k=32)(ha:VT a):uC (k,N) [a] sg:=by
 have hm:dM k=some false/\eX k=some false:=by rcases hk with rfl|rfl|rfl|rfl<;>exact⟨rfl,rfl⟩
 refine QC hm.1 hm.2 ?_;rcases hk with rfl|rfl|rfl|rfl<;>rcases ha with rfl|rfl|rfl|rfl|rfl|⟨e,rfl⟩ <;>
  first
  |exact nok (VT.lit (k:=1) o5) rfl rfl
  |exact nok (VT.lit (k:=2) o5) rfl rfl
  |exact nok (VT.lit (k:=3) o5) rfl rfl
  |exact nok (VT.lit (k:=4) o5) rfl rfl
  |exact rJ (c:=8) C9 rfl rfl
theorem a7x(hk:k=13\/k=23\/k=24\/k=27\/k=28\/k=29\/k=30)(ha:VT a)(hb:VT b):uC (k,N) [a,b] sg:=by
 have hm:dM k=some false/\eX k=some false:=by rcases hk with rfl|rfl|rfl|rfl|rfl|rfl|rfl<;>exact⟨rfl,rfl⟩
 refine QC hm.1 hm.2 ?_;rcases hk with rfl|rfl|rfl|rfl|rfl|rfl|rfl<;>rcases ha with rfl|rfl|rfl|rfl|rfl|⟨e,rfl⟩<;>rcases hb with rfl|rfl|rfl|rfl|rfl|⟨f,rfl⟩ <;>
  first
  |exact rJ (c:=8) C9 rfl rfl
  |exact nok (VT.lit (k:=1) o5) rfl rfl
  |exact nok (VT.lit (k:=2) o5) rfl rfl
  |exact nok (VT.lit (k:=3) o5) rfl rfl
  |exact nok (VT.lit (k:=4) o5) rfl rfl
  |exact nok (VT.lit (k:=5) o5) rfl rfl
theorem a5A(hk:k=14\/k=15\/k=16)(ha:VT a)(hb:VT b):uC (k,N) [a,b] sg:=by
 have hm:dM k=some true/\eX k=some true:=by rcases hk with rfl|rfl|rfl<;>exact⟨rfl,rfl⟩
 refine Jw hm.1 hm.2 ?_;have hr:RR (k,N) [a,b] sg=l9 (l7 (U2 0 N) (some (U2 N 5)) (some false)) λx=>l7 (I4 x) (some ((0,0),3)) (l9 (xF k a b) λx=>l7 (I4 x.2) (some ((0,0),8)) (some (x.1,0))):=by rcases hk with rfl|rfl|rfl<;>rfl
 have he:bH (k,N) [a,b] sg=l9 (l7 (U2 0 N) (some (U2 N 5)) (some false)) λx=>l7 (I4 x) (some ((0,0),3)) (l9 (pV k [a,b]) λx=>l7 (I4 x.2) (some ((0,0),8)) (some (x.1,0))):=by
  rcases hk with rfl|rfl|rfl <;>
   (show l9 (l9 (oM N) λx=>l7 (I4 x) (some (Sum.inr (((0:Int),(0:Int)),(3:Int)))) (some (.inl ((0:Int),(0:Int))))) _=_
    unfold oM;cases U2 0 N<;>cases U2 N 5<;>rfl)
 rw[hr,he];cases U2 0 N
 .exact rJ (c:=3) C9 rfl rfl
 cases U2 N 5
 .exact rJ (c:=3) C9 rfl rfl
 rcases hk with rfl|rfl|rfl<;>rcases ha with rfl|rfl|rfl|rfl|rfl|⟨e,rfl⟩<;>rcases hb with rfl|rfl|rfl|rfl|rfl|⟨f,rfl⟩ <;>
  first
  |exact rJ (c:=8) C9 rfl rfl
  |exact nok (VT.lit (k:=2) o5) rfl rfl
  |exact nok (VT.lit (k:=3) o5) rfl rfl
  |exact nok (VT.lit (k:=4) o5) rfl rfl
theorem a5B(hk:k=11\/k=12\/k=17\/k=18\/k=19\/k=20\/k=21\/k=22)(ha:VT a):uC (k,N) [a,b] sg:=by
 have hm:dM k=some false/\eX k=some false:=by rcases hk with rfl|rfl|rfl|rfl|rfl|rfl|rfl|rfl<;>exact⟨rfl,rfl⟩
 refine QC hm.1 hm.2 ?_;have hr:RR (k,0) [a,b] sg=l9 (xF k a b) λx=>l7 (I4 x.2) (some ((0,0),8)) (some (x.1,0)):=by rcases hk with rfl|rfl|rfl|rfl|rfl|rfl|rfl|rfl<;>rfl
 have he:bH (k,0) [a,b] sg=l9 (pV k [a,b]) λx=>l7 (I4 x.2) (some ((0,0),8)) (some (x.1,0)):=by rcases hk with rfl|rfl|rfl|rfl|rfl|rfl|rfl|rfl<;>rfl
 rw[hr,he];unfold xF pV;simp only[show O0 [a,b] 0=some a from rfl,show O0 [a,b] 1=some b from rfl,o9,xG,sS,jS,oH];cases h1:D8 a.1 b.1
 .rcases hk with rfl|rfl|rfl|rfl|rfl|rfl|rfl|rfl<;>exact rJ (c:=8) C9 rfl rfl
 cases h2:D8 a.2 b.2
 .rcases hk with rfl|rfl|rfl|rfl|rfl|rfl|rfl|rfl<;>exact rJ (c:=8) C9 rfl rfl
 have ha' :=ha;rcases hk with rfl|rfl|rfl|rfl|rfl|rfl|rfl|rfl<;>rcases ha with rfl|rfl|rfl|rfl|rfl|⟨e,rfl⟩ <;>
  first
  |exact nok ha' rfl rfl
  |exact nok (VT.lit (k:=1) o5) rfl rfl
  |exact rJ (c:=8) C9 rfl rfl
theorem b0Y{a b c:Int×Int}(ha:VT a)(hb:VT b):uC (26,N) [a,b,c] sg:=by
 refine QC rfl rfl ?_;have hr:RR (26,0) [a,b,c] sg=l7 (D8 a.1 1) (l7 (I4 (lX (D8 b.1 c.1) (D8 b.2 c.2))) (some ((0,0),8)) (some (b,0))) (some ((0,0),8)):=rfl;have he:bH (26,0) [a,b,c] sg=l9 (pV 26 [a,b,c]) λx=>l7 (I4 x.2) (some ((0,0),8)) (some (x.1,0)):=rfl;have he2:pV 26 [a,b,c]=l9 (l7 (D8 a.1 1) (some (Sum.inr (b,lX (D8 b.1 c.1) (D8 b.2 c.2)))) (some (Sum.inr (b,false)))) λ(o:L6⊕L6×Bool)=>aF o (λ(x:L6)=>some ((0,0),false)) λ(r:L6×Bool)=>some r:=rfl;rw[hr,he,he2];cases D8 a.1 1
 .exact rJ (c:=8) C9 rfl rfl
 cases D8 b.1 c.1
 .exact rJ (c:=8) C9 rfl rfl
 cases D8 b.2 c.2
 .exact rJ (c:=8) C9 rfl rfl
 .exact nok hb rfl rfl
theorem a0b(ha:VT a):uC (33,N) [a] sg:=by
 refine Jw rfl rfl ?_;have he:bH (33,N) [a] sg=tJ (33,N) a sg:=EE _ _;have hr:RR (33,N) [a] sg=l9 (l7 (U2 0 N) (some (I9 N (x8 sg.2.1))) (some false)) λx=>l7 (I4 x) (some ((0,0),6)) (l9 (uS (33,N) a sg) λx=>l7 (I4 x.2) (some ((0,0),8)) (some (x.1,0))):=rfl;have hs:uS (33,N) a sg=l9 (O0 sg.2.1 N) λ(x:ax)=>l9 (Y1 x.2.1 sg.1) λ(x_1:Bool)=>l7 x_1 (l9 (Y1 x.2.2.1 sg.1) λ(x_2:Bool)=>l7 x_2 (some (x.2.2.1,lX (D8 a.1 x.2.1.1) (D8 a.2 x.2.1.2))) (some (x.2.2.1,false))) (some (x.2.2.1,false)):=rfl;rw[he,hr,hs];unfold tJ;simp only[D8,Int.reduceEq,decide_false,o6,o9,Y2,Eu N 0,Tn (x8 sg.2.1) N];cases h0:U2 0 N
 .exact rJ (c:=6) C9 rfl rfl
 cases h1:I9 N (x8 sg.2.1)
 .exact rJ (c:=6) C9 rfl rfl
 rw[jF]at h0;rw[xA]at h1;obtain⟨x,hx,_⟩:=tY h0 h1;simp only[o9,Y2,qM,o6,hx,rZ,oJ,Z5,o7];cases vty x.2.1 sg.1
 .exact rJ (c:=8) C9 rfl rfl
 cases hv:vty x.2.2.1 sg.1
 .exact rJ (c:=8) C9 rfl rfl
 simp only[E8,o6,o7,o9];cases lX (decide (a.1=x.2.1.1)) (decide (a.2=x.2.1.2))
 .exact rJ (c:=8) C9 rfl rfl
 .exact nok (JX hv) rfl rfl
theorem WW(hN:jh N)(ha:VT a):uC (34,N) [a] sg:=by
 refine Jw rfl rfl ?_;have he:bH (34,N) [a] sg=tJ (34,N) a sg:=EE _ _;have hr:RR (34,N) [a] sg=l9 (l7 (U2 0 N) (some (U2 (jc N 8) 5)) (some false)) λx=>l7 (I4 x) (some ((0,0),3)) (l7 (I4 (I9 (dA .i64 N 8) (x8 sg.2.1))) (some ((0,0),6)) (l9 (uS (34,N) a sg) λx=>l7 (I4 x.2) (some ((0,0),8)) (some (x.1,0)))):=rfl;have hs:uS (34,N) a sg=l9 (O0 sg.2.1 (dA .i64 N 8)) λ(x:ax)=>l7 (D8 a.1 3) (l7 (lX (D8 x.2.1.1 3) (D8 x.2.1.2 0)) (some (a,lX (D8 x.2.2.1.1 4) (D8 x.2.2.1.2 0))) (some (a,false))) (some (a,false)):=rfl;rw[he,hr,hs];unfold tJ oM;by_cases h0:0<=N
 case neg=>rw[dF (show N<0 by omega),dY (show N<0 by omega)];exact rJ (c:=3) C9 rfl rfl
 have hq:dA .i64 N 8=N / 8:=by rw[Ot (by rw[oV h0];unfold jh at*;omega),oV h0]
 rw[Z4 h0,Y5 h0,hq,Bh h0];simp only[D8,Int.reduceEq,decide_true,o7,o6,Z4 (show 0<=N % 8 by omega),o9];cases U2 (N % 8) 5
 .exact rJ (c:=3) C9 rfl rfl
 simp only[E8,o6,o9,Y2,Y5 (show 0<=N / 8 by omega),Tn];cases h1:I9 (N / 8) (x8 sg.2.1)
 .exact rJ (c:=6) C9 rfl rfl
 rw[xA]at h1;obtain⟨x,hx,_⟩:=tY (show 0<=N / 8 by omega) h1;simp only[hx,qM,o6,o9,Y2,rZ,E8];obtain⟨nm,⟨k1,k2⟩,⟨v1,v2⟩,rows⟩:=x;dsimp only;by_cases hK:k1=3/\k2=0
 .obtain⟨rfl,rfl⟩:=hK;by_cases hV:v1=4/\v2=0
  .obtain⟨rfl,rfl⟩:=hV;rcases ha with rfl|rfl|rfl|rfl|rfl|⟨e,rfl⟩ <;>
    first
    |exact nok (VT.lit (k:=3) o5) rfl rfl
    |exact rJ (c:=8) C9 rfl rfl
  .have hE:vty (v1,v2) sg.1=true->v1≠4:=λhv h=>by
    subst h;rcases JX hv with h|h|h|h|h|⟨e,h⟩<;>cases h;exact hV ⟨rfl,rfl⟩
   have hR:lX (decide (v1=4)) (decide (v2=0))=false:=by
    by_cases h1:v1=4
    .have:v2≠0:=λh2=>hV ⟨h1,h2⟩;simp[lX,h1,this]
    .simp[lX,h1]
   rw[hR];cases hv:vty (v1,v2) sg.1
   .rcases ha with rfl|rfl|rfl|rfl|rfl|⟨e,rfl⟩<;>exact rJ (c:=8) C9 rfl rfl
   .have h4:=hE hv;rw[show decide (v1=4)=false by simp[h4]];rcases ha with rfl|rfl|rfl|rfl|rfl|⟨e,rfl⟩<;>exact rJ (c:=8) C9 rfl rfl
 .have hR:lX (decide (k1=3)) (decide (k2=0))=false:=by
   by_cases h1:k1=3
   .have:k2≠0:=λh2=>hK ⟨h1,h2⟩;simp[lX,h1,this]
   .simp[lX,h1]
  rw[hR];cases hv:vty (k1,k2) sg.1
  .rcases ha with rfl|rfl|rfl|rfl|rfl|⟨e,rfl⟩<;>exact rJ (c:=8) C9 rfl rfl
  cases hw:vty (v1,v2) sg.1
  .rcases ha with rfl|rfl|rfl|rfl|rfl|⟨e,rfl⟩<;>exact rJ (c:=8) C9 rfl rfl
  have h3:k1≠3:=λh=>by subst h;rcases JX hv with h|h|h|h|h|⟨e,h⟩<;>cases h;exact hK ⟨rfl,rfl⟩
  simp only[show decide (k1=3)=false by simp[h3],E8,o6,o7,o9];cases lX (decide (a.1=k1)) (decide (a.2=k2))
  .cases decide (a.1=3)<;>exact rJ (c:=8) C9 rfl rfl
  .cases decide (a.1=3)<;>exact rJ (c:=8) C9 rfl rfl
theorem Zb(n:Int×Int)(hN:jh n.2)(ops:List (Int×Int))(hv:∀t∈ops,VT t)(hl:x8 ops=arF n.1):uC n ops sg:=by
 obtain⟨op,N⟩:=n;dsimp only at hN hl;have hr:1<=op/\op<=39:=by
  by_cases h:1<=op/\op<=39
  .exact h
  .have:arF op=-1:=by unfold arF;rw[Zk h];rfl
   rw[this]at hl;simp[x8]at hl
 have hc:op=1\/op=2\/op=3\/op=4\/op=5\/op=6\/op=7\/op=8\/op=9\/op=10\/op=11\/op=12\/op=13\/op=14\/op=15\/op=16\/op=17\/op=18\/op=19\/op=20\/op=21\/op=22\/op=23\/op=24\/op=25\/op=26\/op=27\/op=28\/op=29\/op=30\/op=31\/op=32\/op=33\/op=34\/op=35\/op=36\/op=37\/op=38\/op=39:=o5;have L0:arF op=0->ops=[]:=λh=>by rw[h]at hl;simp only[x8]at hl;exact Y0.1 o5
 have L1:arF op=1->∃a,ops=[a]/\VT a:=λh=>by
  rw[h]at hl;simp only[x8]at hl;match ops,hl,hv with
  |[a],_,hv=>exact⟨a,rfl,hv a A7⟩|[],hl,_=>simp at hl|a::b::r,hl,_=>simp at hl;omega
 have L2:arF op=2->∃a b,ops=[a,b]/\VT a/\VT b:=λh=>by
  rw[h]at hl;simp only[x8]at hl;match ops,hl,hv with
  |[a,b],_,hv=>exact⟨a,b,rfl,hv a A7,hv b A7⟩|[],hl,_=>simp at hl|[a],hl,_=>simp at hl|a::b::c::r,hl,_=>simp at hl;omega
 have L3:arF op=3->∃a b c,ops=[a,b,c]/\VT a/\VT b:=λh=>by
  rw[h]at hl;simp only[x8]at hl;match ops,hl,hv with
  |[a,b,c],_,hv=>exact⟨a,b,c,rfl,hv a A7,hv b A7⟩|[],hl,_=>simp at hl|[a],hl,_=>simp at hl|[a,b],hl,_=>simp at hl|a::b::c::d::r,hl,_=>simp at hl;omega
 rcases hc with rfl|rfl|rfl|rfl|rfl|rfl|rfl|rfl|rfl|rfl|rfl|rfl|rfl|rfl|rfl|rfl|rfl|rfl|rfl|rfl|rfl|rfl|rfl|rfl|rfl|rfl|rfl|rfl|rfl|rfl|rfl|rfl|rfl|rfl|rfl|rfl|rfl|rfl|rfl <;>
  first
  |(rw[L0 rfl];first|exact a7z N sg o5|exact a5z N sg hN|exact b0Z N sg|exact a7y N sg|exact a5y N sg|exact a1X N sg|exact a7A N sg o5)
  |(obtain⟨a,rfl,ha⟩:=L1 rfl;first|exact b1a N sg o5 ha|exact a0b N sg ha|exact WW N sg hN ha)
  |(obtain⟨a,b,rfl,ha,hb⟩:=L2 rfl;first|exact a7x N sg o5 ha hb|exact a5A N sg o5 ha hb|exact a5B N sg o5 ha)
  |(obtain⟨a,b,c,rfl,ha,hb⟩:=L3 rfl;exact b0Y N sg ha hb)
end
end Go.GP
namespace Go.GP
open Gt
set_option maxRecDepth 100000
def XT.wf:XT->Prop
 | .l0 n=>arF n.1=0| .l1 n a=>arF n.1=1/\a.wf| .l2 n a b=>arF n.1=2/\a.wf/\b.wf| .l3 n a b c=>arF n.1=3/\a.wf/\b.wf/\c.wf
theorem b1v{n:Int×Int}{ts ts' :List XT}(h:push n ts= .inr ts')(hw:∀t∈ts,t.wf):∀t∈ts',t.wf:=by
 unfold push at h;split at h
 .cases h;intro t ht;rcases x9.1 ht with rfl|ht
  .assumption
  .exact hw t ht
 split at h
 .split at h
  .cases h;intro t ht;rcases x9.1 ht with rfl|ht
   .exact⟨by assumption,hw _ A7⟩
   .exact hw t (by simp[ht])
  .cases h
 split at h
 .split at h
  .cases h;intro t ht;rcases x9.1 ht with rfl|ht
   .exact⟨by assumption,hw _ A7,hw _ A7⟩
   .exact hw t (by simp[ht])
  .cases h
 split at h
 .split at h
  .cases h;intro t ht;rcases x9.1 ht with rfl|ht
   .exact⟨by assumption,hw _ A7,hw _ A7,hw _ A7⟩
   .exact hw t (by simp[ht])
  .cases h
 .cases h
theorem a0j:∀(es:List (Int×Int)) (i:Nat) (ts ts' :List XT),xQ i es ts= .inr ts' ->(∀t∈ts,t.wf)->∀t∈ts',t.wf
 |[],i,ts,ts',h,hw=>by cases h;exact hw|n::es,i,ts,ts',h,hw=>by
  unfold xQ at h;cases hp:push n ts with
  |inl c=>rw[hp]at h;cases h|inr t2=>
   rw[hp]at h;simp only at h;split at h
   .cases h
   .exact a0j es (i+1) t2 ts' h (b1v hp hw)
variable {e:List (Int×Int)}
theorem Gj{t:XT}(h:oK e= .inr t):t.wf:=by
 unfold oK at h;split at h
 .cases h
 split at h
 .cases h
 split at h
 .cases h
 .rename_i t' hp;cases h;exact a0j e 0 [] [t] hp A7 t A7
 .cases h
def Zv(n:Int×Int)(ops:List (Int×Int))(sg:S9):(Int×Int)×Int:=(rU n ops sg).getD ((0,0),0)
def DR(sg:S9)(n:Int×Int)(ops:List (Int×Int))(i:Nat):(Int×Int)⊕(Int×Int):=if(Zv n ops sg).2=0 then .inr (Zv n ops sg).1 else .inl ((i:Int),(Zv n ops sg).2)
def mf(sg:S9):XT->Nat->(Int×Int)⊕(Int×Int)
 | .l0 n,o=>DR sg n [] o
 | .l1 n a,o=>match mf sg a o with
  | .inl x=> .inl x| .inr ta=>DR sg n [ta] (o+a.size)
 | .l2 n a b,o=>match mf sg a o with
  | .inl x=> .inl x
  | .inr ta=>match mf sg b (o+a.size)with
   | .inl x=> .inl x| .inr tb=>DR sg n [ta,tb] (o+a.size+b.size)
 | .l3 n a b c,o=>match mf sg a o with
  | .inl x=> .inl x
  | .inr ta=>match mf sg b (o+a.size)with
   | .inl x=> .inl x
   | .inr tb=>match mf sg c (o+a.size+b.size)with
    | .inl x=> .inl x| .inr tc=>DR sg n [ta,tb,tc] (o+a.size+b.size+c.size)
theorem Bj{sg:S9}{n:Int×Int}{ops:List (Int×Int)}{i:Nat}{t:Int×Int}(hN:jh n.2)(hv:∀t∈ops,VT t)(hl:x8 ops=arF n.1)(h:DR sg n ops i= .inr t):VT t:=by
 obtain⟨r,h1,h2,h3⟩:=Zb sg n hN ops hv hl;unfold DR at h;split at h
 .rename_i h0;cases h;have e:Zv n ops sg=r:=by unfold Zv;rw[h1];rfl
  rw[e]at h0 ⊢;exact h3 h0
 .cases h
section
variable (e:List (Int×Int)) (sg:S9) (z:Int×Int)
def b2v(f:(Int×Int)×List (Int×Int)×Int->Option (Out ((Int×Int)×List (Int×Int)×Int) ((Int×Int)×List (Int×Int)) ((Int×Int)×Int×Int))):Prop:=
 ∀(i:Nat) (n:Int×Int) (s ops:List (Int×Int)),e[i]? =some n->i<=100->x8 ops=arF n.1->(∀t∈ops,VT t)->s.length+ops.length<=100->
  f (z,s++ops,(i:Int))=some (match DR sg n ops i with| .inl x=> .rt ((0,0),x)| .inr t=> .nx (z,s++[t],((i+1:Nat):Int)))
theorem a6e{f:(Int×Int)×List (Int×Int)×Int->Option (Out ((Int×Int)×List (Int×Int)×Int) ((Int×Int)×List (Int×Int)) ((Int×Int)×Int×Int))}
  (he:e.length<=48) (hI:∀n∈e,jh n.2) (hs:b2v e sg z f):∀(t:XT),t.wf->∀(pre suf s:List (Int×Int)) (k:Nat),e=pre++t.post++suf->s.length<=pre.length->
  gK f (k+t.size) (z,s,(pre.length:Int))=(match mf sg t pre.length with| .inl x=>some (.inr ((0,0),x))| .inr r=>gK f k (z,s++[r],((pre.length+t.size:Nat):Int)))/\∀r,mf sg t pre.length= .inr r->VT r:=by
 intro t;have step:∀(i k:Nat) (n:Int×Int) (s ops:List (Int×Int)),e[i]? =some n->x8 ops=arF n.1->(∀t∈ops,VT t)->s.length+ops.length<=100->
   gK f (k+1) (z,s++ops,(i:Int))=(match DR sg n ops i with| .inl x=>some (.inr ((0,0),x))| .inr r=>gK f k (z,s++[r],((i+1:Nat):Int))):=by
  intro i k n s ops h1 h2 h3 h4;rw[gK,hs i n s ops h1 (by have:=(ai.1 h1).1;omega) h2 h3 h4];cases DR sg n ops i<;>rfl
 have getn:∀(pre suf:List (Int×Int)) (n:Int×Int),e=pre++[n]++suf->e[pre.length]? =some n:=by intro pre suf n h;rw[h,E9,F5 o5,Y9];rfl
 have mem:∀(i:Nat) (n:Int×Int),e[i]? =some n->jh n.2:=λi n h=>hI n (sV h);induction t with
 |l0 n=>
  intro hw pre suf s k hd hl;have hn:=getn pre suf n hd;have hlen:pre.length<e.length:=(ai.1 hn).1;have hz:x8 ([]:List (Int×Int))=arF n.1:=by rw[show arF n.1=0 from hw];rfl
  have h:=step pre.length k n s [] hn hz A7 G8;rw[E5]at h;exact⟨h,λr hr=>Bj (mem _ n hn) A7 hz hr⟩
 |l1 n a iha=>
  intro hw pre suf s k hd hl;simp only[XT.post,E9]at hd;have hpa:(pre++a.post).length=pre.length+a.size:=by simp[XT.post_len]
  have hn:=getn (pre++a.post) suf n (by simpa using hd);rw[hpa]at hn;have hlen:=(ai.1 hn).1;obtain⟨i1,i2⟩:=iha hw.2 pre ([n]++suf) s (k+1) (by simpa using hd) hl;simp only[XT.size,mf];rw[show k+(a.size+1)=(k+1)+a.size by omega,i1];cases ht:mf sg a pre.length with
  |inl x=>exact⟨rfl,λr hr=>by cases hr⟩|inr ta=>
   have hz:x8 [ta]=arF n.1:=by rw[show arF n.1=1 from hw.1];rfl
   have hv:∀t∈[ta],VT t:=by simpa using i2 ta ht
   exact⟨step _ k n s [ta] hn hz hv G8,λr hr=>Bj (mem _ n hn) hv hz hr⟩
 |l2 n a b iha ihb=>
  intro hw pre suf s k hd hl;simp only[XT.post,E9]at hd;have hpa:(pre++a.post).length=pre.length+a.size:=by simp[XT.post_len]
  have hpb:(pre++a.post++b.post).length=pre.length+a.size+b.size:=by simp[XT.post_len];omega
  have hn:=getn (pre++a.post++b.post) suf n (by simpa using hd);rw[hpb]at hn;have hlen:=(ai.1 hn).1;obtain⟨i1,i2⟩:=iha hw.2.1 pre (b.post++[n]++suf) s (k+1+b.size) (by simpa using hd) hl;simp only[XT.size,mf];rw[show k+(a.size+b.size+1)=(k+1+b.size)+a.size by omega,i1];cases ht:mf sg a pre.length with
  |inl x=>exact⟨rfl,λr hr=>by cases hr⟩|inr ta=>
   have hsa:=a.size_pos;obtain⟨j1,j2⟩:=ihb hw.2.2 (pre++a.post) ([n]++suf) (s++[ta]) (k+1) (by simpa using hd) (by simp[XT.post_len];omega);rw[hpa]at j1 j2;simp only;rw[j1];cases hu:mf sg b (pre.length+a.size)with
   |inl x=>exact⟨rfl,λr hr=>by cases hr⟩|inr tb=>
    have hz:x8 [ta,tb]=arF n.1:=by rw[show arF n.1=2 from hw.1];rfl
    have hv:∀t∈[ta,tb],VT t:=by simpa using ⟨i2 ta ht,j2 tb hu⟩
    have:=step _ k n s [ta,tb] hn hz hv G8;simp only[E9,H7,G7];rw[show pre.length+(a.size+b.size+1)=pre.length+a.size+b.size+1 by omega];exact⟨this,λr hr=>Bj (mem _ n hn) hv hz hr⟩
 |l3 n a b c iha ihb ihc=>
  intro hw pre suf s k hd hl;simp only[XT.post,E9]at hd;have hpa:(pre++a.post).length=pre.length+a.size:=by simp[XT.post_len]
  have hpb:(pre++a.post++b.post).length=pre.length+a.size+b.size:=by simp[XT.post_len];omega
  have hpc:(pre++a.post++b.post++c.post).length=pre.length+a.size+b.size+c.size:=by simp[XT.post_len];omega
  have hn:=getn (pre++a.post++b.post++c.post) suf n (by simpa using hd);rw[hpc]at hn;have hlen:=(ai.1 hn).1;obtain⟨i1,i2⟩:=iha hw.2.1 pre (b.post++(c.post++([n]++suf))) s (k+1+c.size+b.size) (by simpa using hd) hl;simp only[XT.size,mf];rw[show k+(a.size+b.size+c.size+1)=(k+1+c.size+b.size)+a.size by omega,i1];have hsa:=a.size_pos;have hsb:=b.size_pos;cases ht:mf sg a pre.length with
  |inl x=>exact⟨rfl,λr hr=>by cases hr⟩|inr ta=>
   obtain⟨j1,j2⟩:=ihb hw.2.2.1 (pre++a.post) (c.post++([n]++suf)) (s++[ta]) (k+1+c.size) (by simpa using hd) (by simp[XT.post_len];omega);rw[hpa]at j1 j2;simp only;rw[j1];cases hu:mf sg b (pre.length+a.size)with
   |inl x=>exact⟨rfl,λr hr=>by cases hr⟩|inr tb=>
    obtain⟨q1,q2⟩:=ihc hw.2.2.2 (pre++a.post++b.post) ([n]++suf) (s++[ta]++[tb]) (k+1) (by simpa using hd) (by simp[XT.post_len];omega);rw[hpb]at q1 q2;simp only;rw[q1];cases hc:mf sg c (pre.length+a.size+b.size)with
    |inl x=>exact⟨rfl,λr hr=>by cases hr⟩|inr tc=>
     have hz:x8 [ta,tb,tc]=arF n.1:=by rw[show arF n.1=3 from hw.1];rfl
     have hv:∀t∈[ta,tb,tc],VT t:=by simpa using ⟨i2 ta ht,j2 tb hu,q2 tc hc⟩
     have:=step _ k n s [ta,tb,tc] hn hz hv G8;simp only[E9,H7,G7];rw[show pre.length+(a.size+b.size+c.size+1)=pre.length+a.size+b.size+c.size+1 by omega];exact⟨this,λr hr=>Bj (mem _ n hn) hv hz hr⟩
end
def zQ(e:List (Int×Int))(sg:S9):(Int×Int)×Int×Int:=match oK e with
 | .inl x=>((0,0),x)
 | .inr t=>match mf sg t 0 with
  | .inl x=>((0,0),x)| .inr r=>(r,0,0)
variable {α:Type}
theorem a3b(s ops:List α)(k:Int)(hk:x8 ops=k)(h:s.length+ops.length<=100):
  N8 .i64 (x8 (s++ops)) k=(s.length:Int)/\ny (s.length:Int) (x8 (s++ops)) (x8 (s++ops))=true/\kN (s++ops) (bY (s.length:Int)) (bY (x8 (s++ops)))=ops
  /\ny 0 (s.length:Int) (x8 (s++ops))=true/\kN (s++ops) (bY 0) (bY (s.length:Int))=s:=by
 subst hk;refine⟨?_,?_,?_,?_,?_⟩
 .rw[cu (by unfold jh;simp[x8];omega)];simp[x8]
 .simp[ny,x8];omega
 .show((s++ops).take (((s++ops).length:Nat):Int).toNat).drop s.length=ops;rw[I7,iq,Y3]
 .simp[ny,x8];omega
 .simp[kN,bY]
theorem a3a{sg:S9}{f:(Int×Int)×List (Int×Int)×Int->Option (Out ((Int×Int)×List (Int×Int)×Int) ((Int×Int)×List (Int×Int)) ((Int×Int)×Int×Int))}
  (hI:∀n∈e,jh n.2) (hs:b2v e sg (0,0) f) (hend:∀s,f ((0,0),s,(e.length:Int))=some (.ex ((0,0),s))) (hcode:∀x,oK e= .inl x->x.2≠0):
  l7 (I4 (D8 (Ba e).2.2 0)) (some ((((0:Int),(0:Int)),(Ba e).2):(Int×Int)×Int×Int)) (l9 (P7 f (((0:Int),(0:Int)),([]:List (Int×Int)),(0:Int))) λ(o:(Int×Int)×List (Int×Int)⊕(Int×Int)×Int×Int)=>
   aF o (λ(y:(Int×Int)×List (Int×Int))=>l9 (O0 y.2 0) λ(x:Int×Int)=>l9 (fO y.2 (bY 0)) λ(x:Int×Int)=>some (x,0,0)) λ(r:(Int×Int)×Int×Int)=>some r)=some (zQ e sg):=by
 unfold Ba zQ;cases h:oK e with
 |inl x=>simp only[O5 (hcode x h),Z5,o7]|inr t=>
  obtain⟨hp,h48⟩:=rY h;have hw:=Gj h;obtain⟨l1,_⟩:=a6e e sg (0,0) h48 hI hs t hw [] [] [] (aG -t.size) (by simpa using hp) A7;have hsz:e.length=t.size:=by rw[hp,XT.post_len]
  have hlo:P7 f (((0:Int),(0:Int)),([]:List (Int×Int)),(0:Int))=gK f (aG -t.size+t.size) ((0,0),[],(([]:List (Int×Int)).length:Int)):=by unfold P7;rw[Nat.sub_add_cancel (by unfold aG;omega)];rfl
  simp only[O7 (rfl:(0:Int)=0),E8,o6];rw[hlo,l1];simp only[G9,dJ];cases mf sg t 0 with
  |inl x=>rfl|inr r=>obtain⟨k,hk⟩:∃k,aG -t.size=k+1:=⟨aG -t.size -1,by unfold aG;omega⟩;simp only[G7];rw[hk,gK,←hsz,hend];rfl
theorem BD{x:Int×Int}(h:oK e= .inl x):x.2≠0:=by
 have key:∀(es:List (Int×Int)) (i:Nat) (ts:List XT) (x:Int×Int),xQ i es ts= .inl x->x.2≠0:=by
  intro es;induction es with
  |nil=>intro i ts x h;cases h|cons n es ih=>
   intro i ts x h;unfold xQ at h;cases hp:push n ts with
   |inl c=>
    rw[hp]at h;cases h;show c≠0;unfold push at hp
    (repeat' split at hp)<;>first|(cases hp;done)|(cases hp;decide)
   |inr t2=>
    rw[hp]at h;simp only at h;split at h
    .cases h;show(16:Int)≠0;decide
    .exact ih _ _ _ h
 unfold oK at h;split at h
 .cases h;show(4:Int)≠0;decide
 split at h
 .cases h;show(5:Int)≠0;decide
 split at h
 .rename_i y hp;cases h;exact key _ _ _ _ hp
 .cases h
 .cases h;show(4:Int)≠0;decide
theorem a6d(sg:S9)(hI:∀n∈e,jh n.2):Es e sg=some (zQ e sg):=by
 unfold Es;rw[Ic,o9];refine a3a hI (λi n s ops hn hi2 hl hv hlen=>?_) (λs=>?_) (λx h=>BD h)
 .obtain⟨r,h1,h2,h3⟩:=Zb sg n (hI n (sV hn)) ops hv hl;obtain⟨v1,v2,v3,v4,v5⟩:=a3b s ops _ hl hlen;have e' :Zv n ops sg=r:=by unfold Zv;rw[h1];rfl
  have hi:=(ai.1 hn).1;simp only[U5 hn,o7,P5,hn,o9,a6w,v1,v2,v3,v4,v5];unfold DR;rw[e'];unfold EN at h2;have fin:bH n ops sg=some r->(l9 (bH n ops sg) λ(x_3:L6×Int)=>l7 (I4 (D8 x_3.2 0)) (some (Out.rt ((((0:Int),(0:Int)),((i:Int),x_3.2)):(Int×Int)×Int×Int)))
    (l9 (dE s [x_3.1]) λ(x_4:List L6)=>some (Out.nx (((0:Int),(0:Int)),x_4,H8 .i64 (i:Int) 1))))=
    some (match if r.2=0 then(.inr r.1:(Int×Int)⊕(Int×Int))else .inl ((i:Int),r.2)with| .inl x=>Out.rt ((0,0),x)| .inr t=>(Out.nx ((0,0),s++[t],((i+1:Nat):Int)):Out ((Int×Int)×List (Int×Int)×Int) ((Int×Int)×List (Int×Int)) ((Int×Int)×Int×Int))):=by
   intro hr;rw[hr,o9];by_cases h0:r.2=0
   .rw[if_pos h0,O7 h0];simp only[E8,o6];rw[zW _ o5,o9,eP o5]
   .rw[if_neg h0,O5 h0];rfl
  cases hz:D8 n.2 0
  .rw[hz]at h2;simp only[Z5,o7]at h2 ⊢;cases hu:dM n.1 with
   |none=>rw[hu]at h2;cases h2|some u=>
    rw[hu]at h2;simp only[o9]at h2 ⊢;cases u
    .simp only[Z5,o7]at h2 ⊢;cases h2;rfl
    .exact fin h2
  .rw[hz]at h2;exact fin h2
 .rw[Y6];rfl
section
variable {α β σ ε ρ:Type}
theorem Nl(l:List α)(G:β->α->β)(mk:β->Int->σ)(fin:β->ε)(Inv:Nat->β->Prop){f:σ->Option (σ⊕ε)}{b:β}(hl:l.length<=1000000)(h0:Inv 0 b)
  (hin:∀(i:Nat) (a:α) (b:β),l[i]? =some a->i<=1000000->Inv i b->f (mk b (i:Int))=some (.inl (mk (G b a) ((i+1:Nat):Int)))/\Inv (i+1) (G b a))
  (hend:∀b,Inv l.length b->f (mk b (l.length:Int))=some (.inr (fin b))):
  dC f (mk b 0)=some (fin (l.foldl G b))/\Inv l.length (l.foldl G b):=by
 have key:∀(n i:Nat) (b:β),i<=l.length->l.length -i<n->Inv i b->yK f n (mk b (i:Int))=some (fin ((l.drop i).foldl G b))/\Inv l.length ((l.drop i).foldl G b):=by
  intro n;induction n with
  |zero=>intro i b _ h _;omega|succ n ih=>
   intro i b hi hn hI;unfold yK;by_cases h:i<l.length
   .have e:=sF h;obtain⟨h1,h2⟩:=hin i _ b e o5 hI;rw[h1,aj h];exact ih (i+1) _ o5 o5 h2
   .have:i=l.length:=o5;subst this;rw[hend b hI,zU];exact⟨rfl,hI⟩
 have:=key aG 0 b o5 (by unfold aG;omega) h0;exact this
theorem wW{γ:Type}(l:List α)(G:β->α->β)(mk:β->Int->σ)(fin:β->ε)(Inv:Nat->β->Prop)(b:β){f:σ->Option (σ⊕ε)}{K:ε->Option γ}{r:Option γ}(hl:l.length<=1000000)(h0:Inv 0 b)
  (hin:∀(i:Nat) (a:α) (b:β),l[i]? =some a->i<=1000000->Inv i b->f (mk b (i:Int))=some (.inl (mk (G b a) ((i+1:Nat):Int)))/\Inv (i+1) (G b a))
  (hend:∀b,Inv l.length b->f (mk b (l.length:Int))=some (.inr (fin b))) (hk:Inv l.length (l.foldl G b)->K (fin (l.foldl G b))=r):l9 (dC f (mk b 0)) K=r:=by
 obtain⟨h1,h2⟩:=Nl l G mk fin Inv hl h0 hin hend;rw[h1];exact hk h2
def wP(G:β->α->β⊕ρ):List α->β->β⊕ρ
 |[],b=> .inl b
 |a::l,b=>match G b a with| .inl b' =>wP G l b'| .inr r=> .inr r
theorem a1S(l:List α)(G:β->α->β⊕ρ)(mk:β->Int->σ)(fin:β->ε)(Inv:Nat->β->Prop){f:σ->Option (Out σ ε ρ)}{b:β}(hl:l.length<=1000000)(h0:Inv 0 b)
  (hin:∀(i:Nat) (a:α) (b:β),l[i]? =some a->i<=1000000->Inv i b->f (mk b (i:Int))=some (match G b a with| .inl b' => .nx (mk b' ((i+1:Nat):Int))| .inr r=> .rt r)/\∀b',G b a= .inl b' ->Inv (i+1) b')
  (hend:∀b,Inv l.length b->f (mk b (l.length:Int))=some (.ex (fin b))):
  P7 f (mk b 0)=some (match wP G l b with| .inl b' => .inl (fin b')| .inr r=> .inr r)/\∀b',wP G l b= .inl b' ->Inv l.length b' :=by
 have key:∀(n i:Nat) (b:β),i<=l.length->l.length -i<n->Inv i b->gK f n (mk b (i:Int))=some (match wP G (l.drop i) b with| .inl b' => .inl (fin b')| .inr r=> .inr r)/\∀b',wP G (l.drop i) b= .inl b' ->Inv l.length b' :=by
  intro n;induction n with
  |zero=>intro i b _ h _;omega|succ n ih=>
   intro i b hi hn hI;unfold gK;by_cases h:i<l.length
   .have e:=sF h;obtain⟨h1,h2⟩:=hin i _ b e o5 hI;rw[h1,aj h];unfold wP;cases hg:G b l[i]with
    |inr r=>exact⟨rfl,λb' hb=>by cases hb⟩|inl b' =>exact ih (i+1) _ o5 o5 (h2 b' hg)
   .have:i=l.length:=o5;subst this;rw[hend b hI,zU];exact⟨rfl,λb' hb=>by cases hb;exact hI⟩
 have:=key aG 0 b o5 (by unfold aG;omega) h0;exact this
theorem Np{γ:Type}(l:List α)(G:β->α->β⊕ρ)(mk:β->Int->σ)(fin:β->ε)(Inv:Nat->β->Prop)(b:β){f:σ->Option (Out σ ε ρ)}{K:ε⊕ρ->Option γ}{r:Option γ}(hl:l.length<=1000000)(h0:Inv 0 b)
  (hin:∀(i:Nat) (a:α) (b:β),l[i]? =some a->i<=1000000->Inv i b->f (mk b (i:Int))=some (match G b a with| .inl b' => .nx (mk b' ((i+1:Nat):Int))| .inr r=> .rt r)/\∀b',G b a= .inl b' ->Inv (i+1) b')
  (hend:∀b,Inv l.length b->f (mk b (l.length:Int))=some (.ex (fin b)))
  (hk:(∀b',wP G l b= .inl b' ->Inv l.length b')->K (match wP G l b with| .inl b' => .inl (fin b')| .inr r=> .inr r)=r):l9 (P7 f (mk b 0)) K=r:=by
 obtain⟨h1,h2⟩:=a1S l G mk fin Inv hl h0 hin hend;rw[h1];exact hk h2
end
def Xc(c:UInt8):Bool:=decide (32<=c.toNat)&&decide (c.toNat<=126)&&decide (c.toNat≠34)
def Tc(s:List UInt8):Bool:=decide (s.length<=64)&&s.all Xc
theorem a3M(c:UInt8):∀s:List UInt8,decide (0<=Lib.indexByte s c)=s.any λx=>decide (x.toNat=c.toNat)
 |[]=>by simp[Lib.indexByte]|b::l=>by
  have ih:=a3M c l;have hge:=Lib.indexByte_ge l c;rw[List.any_cons,←ih];have e:Lib.indexByte (b::l) c=if b=c then 0 else if Lib.indexByte l c=-1 then -1 else Lib.indexByte l c+1:=by rw[Lib.indexByte];simp
  rw[e];by_cases h:b=c
  .subst h;simp
  .have h2:b.toNat≠c.toNat:=λhh=>h (UInt8.toNat_inj.1 hh);rw[if_neg h,show decide (b.toNat=c.toNat)=false by simp[h2],Nh];by_cases h3:Lib.indexByte l c=-1
   .rw[h3];rfl
   .rw[if_neg h3];simp;omega
theorem a9X(c:UInt8):Xc c=(!I9 (c.toNat:Int) 32&&!I9 126 (c.toNat:Int)&&!D8 (c.toNat:Int) 34):=by unfold Xc I9 D8;rw[lS];simp;omega
theorem a3n(s:List UInt8)(p:UInt8->Bool):(∀(i:Nat) (a:UInt8),s[i]? =some a->p a=true)↔s.all p=true:=by rw[ae];exact⟨λh x hx=>by obtain⟨i,hi,rfl⟩:=eQ hx;exact h i _ (sF hi),λh i a hi=>h a (sV hi)⟩
theorem WA{s:List UInt8}(h:s.length<=1000000):yx s=some (Tc s):=by
 unfold yx;have h5:I9 64 (x8 s)= !decide (s.length<=64):=by simp only[I9,x8];rw[←decide_not];congr 1;simp;omega
 rw[h5,show xW s [34]=some (s.any λx=>decide (x.toNat=(34:UInt8).toNat))from congrArg some (a3M 34 s)];unfold Tc;cases decide (s.length<=64)
 .rfl
 simp only[qM,o6,o9,uM];cases h34:s.any λx=>decide (x.toNat=(34:UInt8).toNat)
 case true=>
  obtain⟨x,hx,hx2⟩:=vW.1 h34;simp only[decide_eq_true_eq]at hx2;have:s.all Xc=false:=by rw[List.all_eq_false];refine⟨x,hx,?_⟩;unfold Xc;rw[hx2];decide
  rw[this];rfl
 simp only[o6];refine X3 (XD s (λi a=>Xc a) false PUnit.unit _ o5 (λi x hx=>?_) ?_) ?_
 rotate_left 2
 .by_cases hw:s.all Xc=true
  .rw[if_pos ((a3n s Xc).2 hw),hw];rfl
  .rw[if_neg (λh=>hw ((a3n s Xc).1 h))];simp only[IK]at hw;rw[hw];rfl
 .have hi:=(ai.1 hx).1;have hne:D8 (x.toNat:Int) 34=false:=by
   have:=(dh.1 h34) x (sV hx);simp only[decide_eq_true_eq]at this;exact O5 (by have h:(34:UInt8).toNat=34:=rfl;omega)
  simp only[U5 hx,o7,xK,hx,aA,o9];rw[eP o5,a9X,hne];cases I9 (x.toNat:Int) 32<;>cases I9 126 (x.toNat:Int)<;>rfl
 .rw[Y6];rfl
def Gl(e:List (Int×Int))(sg:S9)(t:Int×Int):Int:=l7 (D8 (zQ e sg).2.2 0) (l7 (lX (D8 (zQ e sg).1.1 t.1) (D8 (zQ e sg).1.2 t.2)) 0 8) (zQ e sg).2.2
theorem Oc(sg:S9)(t:Int×Int)(hI:∀n∈e,jh n.2):vO e sg t=some (Gl e sg t):=by
 unfold vO Gl;rw[a6d sg hI,o9];cases D8 (zQ e sg).2.2 0
 .rfl
 simp only[E8,o6,o7];cases lX (D8 (zQ e sg).1.1 t.1) (D8 (zQ e sg).1.2 t.2)<;>rfl
def a6r(r:aH):Prop:=r.1.length<=1000000/\r.2.2.2.2.2.2.2.length<=1000000/\(∀n∈r.2.2.2.2.2.1,jh n.2)/\(∀n∈r.2.2.2.2.2.2.1,jh n.2)
def a1r(rs:List aH)(d:Int):Nat:=rs.countP λo=>D8 o.2.1 d
def UE(r:aH)(sg:S9)(t:Int×Int):Int:=
 l7 (I9 0 (x8 r.2.2.2.2.2.1)) (l7 (D8 (Gl r.2.2.2.2.2.1 sg (1,0)) 0) (Gl r.2.2.2.2.2.2.1 sg t) (Gl r.2.2.2.2.2.1 sg (1,0))) (Gl r.2.2.2.2.2.2.1 sg t)
def PH(s:J8)(sg:S9)(k:Nat)(r:aH):Int:=
 l7 (iU r.1) (l7 ((s.2.2.2.2.take k).any λx=>seq x.1 r.1) 7 (match O0 s.2.2.2.1 r.2.1 with
  |none=>6|some d=>l7 (l7 (D8 r.2.2.1 (-1)) false (l7 (I9 r.2.2.1 0) true (l7 (U2 k r.2.2.1) true (match O0 s.2.2.2.2 r.2.2.1 with|some q=>I4 (D8 q.2.1 r.2.1)|none=>true)))) 9
   (l7 (I9 r.2.2.2.1 0) 3 (l7 (I9 9 r.2.2.2.1) 3 (l7 (Fh r.2.2.2.2.1) (l7 (D8 r.2.2.2.2.1.1 r.2.2.2.2.1.2) 3
    (l7 (U2 8 (a1r (s.2.2.2.2.take k) r.2.1)) 4 (l7 (Tc r.2.2.2.2.2.2.2) (UE r sg d.2) 2))) 3))))) 2
theorem N_{l:List α}{i:Int}(h:U2 0 i=false\/I9 i (x8 l)=false):O0 l i=none:=by
 unfold O0
 split
 .rename_i h0;rcases h with h|h
  .rw[Qs]at h;omega
  .rw[oO]at h;simp only[x8]at h;exact fC o5
 .rfl
variable {s:J8}{r:aH}
theorem Yv(sg:S9){k:Nat}(hr:s.2.2.2.2[k]? =some r)(hl:s.2.2.2.2.length<=1000)(h:a6r r):AZ s (k:Int) sg=some (PH s sg k r):=by
 have hk:=(ai.1 hr).1;have hcnt:a1r (s.2.2.2.2.take k) r.2.1<=1000:=by have:=List.countP_le_length (l:=s.2.2.2.2.take k) (p:=λ(o:aH)=>D8 o.2.1 r.2.1);unfold a1r;simp at this;omega
 unfold AZ;rw[P5,hr,o9,yR o5,o9];refine X3 (Nl (s.2.2.2.2.take k) (λ(c:Nat) (o:aH)=>l7 (D8 o.2.1 r.2.1) (c+1) c) (λc i=>((c:Int),i)) (λc=>(c:Int)) (λi c=>c<=i) (b:=0) G8 o5 (λi a c ha hi hc=>?_) (λc hc=>?_)).1 ?_
 rotate_left 2
 .have hf:∀(l:List aH) (c:Nat),l.foldl (λ(c:Nat) (o:aH)=>l7 (D8 o.2.1 r.2.1) (c+1) c) c=c+a1r l r.2.1:=by
   intro l;induction l with
   |nil=>intro c;rfl|cons a l ih=>intro c;rw[az,ih];unfold a1r;rw[List.countP_cons];cases D8 a.2.1 r.2.1<;>simp<;>omega
  rw[hf,dJ,o9,pR h.1,o9,o9,a1L _ G8,o9];unfold PH;cases iU r.1
  .rfl
  simp only[E8,o6,o7,o9];cases (s.2.2.2.2.take k).any λx=>seq x.1 r.1
  case true=>rfl
  simp only[o6];rw[Eu r.2.1 0,Tn (x8 s.2.2.2.1) r.2.1];cases h0:U2 0 r.2.1
  .rw[N_ (.inl h0)];rfl
  cases h1:I9 r.2.1 (x8 s.2.2.2.1)
  .rw[N_ (.inr h1)];rfl
  obtain⟨d,hd,_⟩:=tY (jF.1 h0) (xA.1 h1);rw[hd];simp only[qM,o6,o9,WA h.2.1];have hpar:(l7 (I4 (D8 r.2.2.1 (-1))) (l7 (I9 r.2.2.1 0) (some true) (l7 (U2 (k:Int) r.2.2.1) (some true) (l9 (O0 s.2.2.2.2 r.2.2.1) λ(x_6:aH)=>some (I4 (D8 x_6.2.1 r.2.1))))) (some false))=
    some (l7 (D8 r.2.2.1 (-1)) false (l7 (I9 r.2.2.1 0) true (l7 (U2 k r.2.2.1) true (match O0 s.2.2.2.2 r.2.2.1 with|some q=>I4 (D8 q.2.1 r.2.1)|none=>true)))):=by
   cases D8 r.2.2.1 (-1)
   case true=>rfl
   simp only[Z5,o7,o6];cases hp0:I9 r.2.2.1 0
   case true=>rfl
   cases hp1:U2 (k:Int) r.2.2.1
   case true=>rfl
   rw[oO]at hp0;rw[Qs]at hp1;obtain⟨q,hq,_⟩:=tY (l:=s.2.2.2.2) hp0 (by simp only[x8];omega);rw[hq];rfl
  rw[hpar,o9];cases (l7 (D8 r.2.2.1 (-1)) false (l7 (I9 r.2.2.1 0) true (l7 (U2 k r.2.2.1) true (match O0 s.2.2.2.2 r.2.2.1 with|some q=>I4 (D8 q.2.1 r.2.1)|none=>true))))
  case true=>rfl
  simp only[o6];cases I9 r.2.2.2.1 0
  case true=>rfl
  simp only[o6,o9];cases I9 9 r.2.2.2.1
  case true=>rfl
  simp only[o6];have hval:∀(A B:Option (aH⊕Int)),l7 (I9 r.2.2.2.2.1.1 0) A (l7 (U2 r.2.2.2.2.1.2 r.2.2.2.2.1.1) A (l7 (I9 109573 r.2.2.2.2.1.2) A B))=l7 (Fh r.2.2.2.2.1) (l7 (D8 r.2.2.2.2.1.1 r.2.2.2.2.1.2) A B) A:=by
   intro A B;unfold Fh;by_cases v0:r.2.2.2.2.1.1<(0:Int)
   .rw[dY v0,dF (show r.2.2.2.2.1.1<(0:Int)from v0)];rfl
   rw[Y5 (vg.1 v0),Z4 (vg.1 v0)];by_cases v1:(r.2.2.2.2.1.2:Int)<=r.2.2.2.2.1.1
   .rw[Z4 v1];by_cases v2:(r.2.2.2.2.1.1:Int)<=r.2.2.2.2.1.2
    .rw[Z4 v2,O7 (rE v2 v1)];cases U2 r.2.2.2.2.1.2 109573<;>rfl
    .rw[dF (qZ.1 v2)];rfl
   .have v1' :=qZ.1 v1;rw[dF v1',Z4 (Int.le_of_lt v1'),O5 (λhh=>by rw[hh]at v1';exact Int.lt_irrefl _ v1'),Eu];cases U2 r.2.2.2.2.1.2 109573<;>rfl
  rw[hval];cases Fh r.2.2.2.2.1
  .rfl
  cases D8 r.2.2.2.2.1.1 r.2.2.2.2.1.2
  case true=>rfl
  simp only[o7,o6];cases U2 8 ((a1r (s.2.2.2.2.take k) r.2.1:Nat):Int)
  case true=>rfl
  cases Tc r.2.2.2.2.2.2.2
  .rfl
  simp only[E8,o6,o7,o9,Y2,UE,hd,Oc sg _ h.2.2.1,Oc sg _ h.2.2.2];cases I9 0 (x8 r.2.2.2.2.2.1)
  .rfl
  simp only[o7];cases D8 (Gl r.2.2.2.2.2.1 sg (1,0)) 0<;>rfl
 .have hc' :c<=1000000:=o5;obtain⟨ha1,ha2⟩:=a0U ha;simp only[U5 ha,o7,P5,ha,o9];rw[eP (show i<=9000000000000000000 by omega),eP (show c<=9000000000000000000 by omega)];cases D8 a.2.1 r.2.1
  .exact⟨rfl,by show c<=i+1;omega⟩
  .exact⟨rfl,by show c+1<=i+1;omega⟩
 .simp only[Y6];rfl
structure SmS (s:J8):Prop where
 nm:s.1.length<=1000000
 ni:s.2.2.1.length<=14
 nd:s.2.2.2.1.length<=14
 nr:s.2.2.2.2.length<=60
 fo:a6n s
 ro:∀r∈s.2.2.2.2,a6r r/\r.2.2.2.2.2.1.length<=50/\r.2.2.2.2.2.2.1.length<=50
def isM(op:Int):Bool:=l7 (U2 36 op) (U2 op 39) false
theorem b3L(op:Int):isM op=l7 (D8 op 36) true (l7 (D8 op 37) true (l7 (D8 op 38) true (D8 op 39))):=by
 unfold isM;by_cases h1:36<=op
 .rw[Z4 h1,o7];by_cases h2:op<=39
  .rw[Z4 h2];have:op=36\/op=37\/op=38\/op=39:=o5;rcases this with rfl|rfl|rfl|rfl<;>rfl
  .rw[dF o5,O5 o5,O5 o5,O5 o5,O5 o5];rfl
 .rw[dF o5,O5 o5,O5 o5,O5 o5,O5 o5];rfl
def SS(p:Int->Bool)(e:List (Int×Int)):List Int:=(e.filter λn=>p n.1).map (·.2)
def JG(e:List (Int×Int)):List Int×List Int×List Int:=(NP (SS (λo=>D8 o 7) e),NP (SS (λo=>D8 o 8) e),NP (SS isM e))
def b1A(g:List Int->Int->List Int)(b:List Int×List Int×List Int)(n:Int×Int):List Int×List Int×List Int:=
 (l7 (D8 n.1 7) (g b.1 n.2) b.1,l7 (D8 n.1 8) (g b.2.1 n.2) b.2.1,l7 (isM n.1) (g b.2.2 n.2) b.2.2)
theorem XW(g:List Int->Int->List Int):∀(e:List (Int×Int)) (b:List Int×List Int×List Int),e.foldl (b1A g) b=((SS (λo=>D8 o 7) e).foldl g b.1,(SS (λo=>D8 o 8) e).foldl g b.2.1,(SS isM e).foldl g b.2.2)
 |[],b=>rfl|n::e,b=>by
  have hn:∀p:Int->Bool,SS p (n::e)=l7 (p n.1) (n.2::SS p e) (SS p e):=λp=>by unfold SS;rw[nR];cases p n.1<;>rfl
  rw[az,XW g e,hn,hn,hn];unfold b1A;simp only;cases D8 n.1 7<;>cases D8 n.1 8<;>cases isM n.1<;>rfl
theorem Xu:∀(l b:List Int),l.foldl (λacc n=>acc++[n]) b=b++l
 |[],b=>by simp|a::l,b=>by rw[az,Xu l];simp
theorem GI{a k:Int}(h:a=k)(m:Int)(hm:k≠m):D8 a m=false:=O5 o5
theorem Ep{l:List Int}(hl:l.length<=1000000):vM l=some (NP l):=by unfold vM;have:=b2h (l:=l) hl;rw[show(λx=>l9 (ru x) λ(x:List Int)=>some x)=λx=>ru x from funext λx=>vG _];exact this
theorem Mc(h:e.length<=1000000):uZ e=some (JG e):=by
 unfold uZ;refine wW e (b1A (λacc n=>acc++[n])) (λb i=>(b.1,b.2.1,b.2.2,i)) (λb=>b) (λi b=>b.1.length<=i/\b.2.1.length<=i/\b.2.2.length<=i) (([],[],[]):List Int×List Int×List Int) h A7 (λi a b ha hi hI=>?_) (λb hI=>?_) (λh2=>?_)
 .obtain⟨b1,b2,b3⟩:=b;simp only at hI;simp only[U5 ha,o7,P5,ha,o9,zW a.2 (show b1.length<=1000000 by omega),zW a.2 (show b2.length<=1000000 by omega),zW a.2 (show b3.length<=1000000 by omega),b1A,b3L];rw[eP o5];by_cases h7:a.1=7
  .rw[O7 h7,GI h7 8 C9,GI h7 36 C9,GI h7 37 C9,GI h7 38 C9,GI h7 39 C9];exact⟨rfl,by simp<;>omega,by simp<;>omega,by simp<;>omega⟩
  rw[O5 h7];by_cases h8:a.1=8
  .rw[O7 h8,GI h8 36 C9,GI h8 37 C9,GI h8 38 C9,GI h8 39 C9];exact⟨rfl,by simp<;>omega,by simp<;>omega,by simp<;>omega⟩
  rw[O5 h8];cases D8 a.1 36<;>cases D8 a.1 37<;>cases D8 a.1 38<;>cases D8 a.1 39<;>exact⟨rfl,by simp<;>omega,by simp<;>omega,by simp<;>omega⟩
 .simp only[Y6];rfl
 .rw[XW]at h2 ⊢;simp only[Xu,G7]at h2 ⊢;rw[Ep o5,o9,Ep o5,o9,Ep o5];rfl
theorem a7B(p:Int->Bool)(e:List (Int×Int)):(SS p e).length<=e.length:=by unfold SS;rw[Y4];exact iD _ _
theorem KZ(e:List (Int×Int)):(JG e).2.1.length<=e.length:=aV (O_ _) (a7B _ e)
def inD(n d:Int):Bool:=l7 (U2 0 d) (I9 d n) false
def Jz(n:Int)(r:aH):List Int:=(JG r.2.2.2.2.2.1).2.1.filter (inD n)++(JG r.2.2.2.2.2.2.1).2.1.filter (inD n)
theorem UL(p:Int->Bool):∀(l b:List Int),l.foldl (λacc x=>l7 (p x) (acc++[x]) acc) b=b++l.filter p
 |[],b=>by simp|a::l,b=>by rw[az,UL p l,nR];cases p a<;>simp
theorem Xq{f:List Int×Int->Option ((List Int×Int)⊕List Int)}(l b:List Int)(n:Int)(hl:l.length<=1000)(hb:b.length<=1000)
  (hin:∀(i:Nat) (a:Int) (acc:List Int),l[i]? =some a->i<=1000000->f (acc,(i:Int))=l7 (U2 0 a) (l7 (I9 a n) (l9 (dE acc [a]) λx=>some (.inl (x,H8 .i64 (i:Int) 1))) (some (.inl (acc,H8 .i64 (i:Int) 1)))) (some (.inl (acc,H8 .i64 (i:Int) 1))))
  (hend:∀acc,f (acc,(l.length:Int))=some (.inr acc)):dC f (b,0)=some (b++l.filter (inD n)):=by
 have key:=Nl l (λ(acc:List Int) x=>l7 (inD n x) (acc++[x]) acc) (λb i=>(b,i)) (λb=>b) (λi acc=>acc.length<=1000+i) (f:=f) (b:=b) o5 o5 ?_ ?_
 .rw[key.1,UL]
 .intro i a acc ha hi hI;have:=(ai.1 ha).1;rw[hin i a acc ha hi,eP o5,zW _ o5];unfold inD;cases U2 0 a
  .exact⟨rfl,by show acc.length<=_;omega⟩
  cases I9 a n
  .exact⟨rfl,by show acc.length<=_;omega⟩
  .exact⟨rfl,by simp;omega⟩
 .intro acc hI;rw[hend]
theorem Qe(n:Int)(h1:r.2.2.2.2.2.1.length<=50)(h2:r.2.2.2.2.2.2.1.length<=50):uI r n=some (Jz n r):=by
 have g1:=KZ r.2.2.2.2.2.1;have g2:=KZ r.2.2.2.2.2.2.1;unfold uI Jz;rw[Mc o5,o9,Mc o5,o9];refine X3 (Xq (JG r.2.2.2.2.2.1).2.1 [] n o5 A7 (λi a acc ha hi=>?_) (λacc=>?_)) ?_
 rotate_left 2
 .rw[o9,vG,G7];have:=iD (inD n) (JG r.2.2.2.2.2.1).2.1;refine Xq (JG r.2.2.2.2.2.2.1).2.1 _ n o5 o5 (λi a acc ha hi=>?_) (λacc=>?_)
  .simp only[U5 ha,o7,P5,ha,o9];rw[show fO (JG r.2.2.2.2.2.2.1).2.1 (bY (i:Int))=some a from ha,o9]
  .simp only[Y6];rfl
 .simp only[U5 ha,o7,P5,ha,o9];rw[show fO (JG r.2.2.2.2.2.1).2.1 (bY (i:Int))=some a from ha,o9]
 .simp only[Y6];rfl
def nD(s:J8):Int:=x8 s.2.2.2.1
def dl(n:Int)(rs:List aH)(d:Int):List Int:=rs.flatMap λr=>l7 (D8 r.2.1 d) (Jz n r) []
def Ce(s:J8)(d:Int):List Int:=l7 (inD (nD s) d) (NP (dl (nD s) s.2.2.2.2 d)) []
theorem XQ(h:SmS s)(hr:r∈s.2.2.2.2)(n:Int):(Jz n r).length<=100:=by obtain⟨_,h1,h2⟩:=h.ro r hr;have a1:=KZ r.2.2.2.2.2.1;have a2:=KZ r.2.2.2.2.2.2.1;have b1:=iD (inD n) (JG r.2.2.2.2.2.1).2.1;have b2:=iD (inD n) (JG r.2.2.2.2.2.2.1).2.1;unfold Jz;rw[D6];omega
theorem a3v(n:Int)(rs:List aH)(r:aH)(d:Int):dl n (rs++[r]) d=dl n rs d++l7 (D8 r.2.1 d) (Jz n r) []:=by unfold dl;rw[List.flatMap_append];simp
theorem b0D(n:Int)(rs:List aH)(r:aH)(d:Int):dl n (r::rs) d=l7 (D8 r.2.1 d) (Jz n r) []++dl n rs d:=rfl
theorem a1y{s:J8}(h:SmS s)(n d:Int):∀(rs:List aH),(∀r∈rs,r∈s.2.2.2.2)->(dl n rs d).length<=100*rs.length
 |[],_=>by simp[dl]|r::rs,hm=>by
  have ih:=a1y h n d rs λr hr=>hm r (by simp[hr]);have h1:=XQ h (hm r A7) n;rw[b0D,D6,A8];cases D8 r.2.1 d
  .simp only[o6,G9];omega
  .simp only[o7];omega
variable {d:Int}{x:Int}
theorem b3O{n:Int}{rs:List aH} :x∈dl n rs d↔∃r∈rs,r.2.1=d/\x∈Jz n r:=by
 unfold dl;rw[nS];constructor
 .rintro⟨r,hr,hx⟩;cases hq:D8 r.2.1 d<;>rw[hq]at hx
  .simp at hx
  .exact⟨r,hr,iK.1 hq,hx⟩
 .rintro⟨r,hr,hq,hx⟩;exact⟨r,hr,by rw[O7 hq];exact hx⟩
theorem a8u{n:Int}(h:x∈Jz n r):0<=x/\x<n:=by
 have key:inD n x=true:=by unfold Jz at h;rcases G5.1 h with h|h<;>exact(rF.1 h).2
 unfold inD at key;cases h0:U2 0 x<;>rw[h0]at key
 .cases key
 .exact⟨jF.1 h0,xA.1 key⟩
theorem Qi(s:J8)(d:Int):SI (Ce s d):=by
 unfold Ce;cases inD (nD s) d
 .exact List.Pairwise.nil
 .exact a4y _
theorem Qh(h:x∈Ce s d):0<=x/\x<nD s:=by
 unfold Ce at h;cases hq:inD (nD s) d<;>rw[hq]at h
 .simp at h
 .obtain⟨r,_,_,hx⟩:=b3O.1 ((V_ _ _).1 h);exact a8u hx
theorem a3V(m k:Nat)(f:Nat->α)(v:α):((List.range m).map f).set k v=(List.range m).map λd=>if d=k then v else f d:=by
 apply gI;intro i;rw[ak,eF,eF,Y4,iW];by_cases hi:i<m
 .rw[List.getElem?_range hi];by_cases h:k=i
  .subst h;simp[hi]
  .simp[h,Ne.symm h]
 .have:(List.range m)[i]? =none:=by simp;omega
  rw[this];by_cases h:k=i
  .subst h;simp[hi]
  .simp[h]
def Ua(m:Nat)(rs:List aH):List (List Int):=(List.range m).map λ(d:Nat)=>dl (m:Int) rs (d:Int)
theorem ZJ{l:List Int}(hl:l.length<=1000000):Dy l=some (NP l):=Ep hl
theorem YV(m:Nat)(f:Nat->α){k:Nat}(h:k<m):((List.range m).map f)[k]? =some (f k):=by rw[eF,List.getElem?_range h];rfl
theorem Yq(h:SmS s):zh s=some ((List.range s.2.2.2.1.length).map λ(d:Nat)=>Ce s (d:Int)):=by
 have hnr:=h.nr;have hnd:=h.nd;unfold zh;generalize hm:s.2.2.2.1.length=m at*;have hn:nD s=(m:Int):=by unfold nD x8;rw[hm]
 rw[show x8 s.2.2.2.1=(m:Int)from hn,show Lt (m:Int) ([]:List Int)=some (Ua m []) by unfold Lt Ua dl;rw[if_pos o5];simp[List.map_const'],o9];refine wW s.2.2.2.2 (λ(b:List (List Int)) r=>l7 (inD m r.2.1) (b.set r.2.1.toNat ((b.getD r.2.1.toNat [])++Jz m r)) b) (λb i=>(b,i)) (λb=>b) (λi b=>b=Ua m (s.2.2.2.2.take i)) (Ua m []) o5 A7 (λi r b ha hi hI=>?_) (λb hI=>?_) (λh2=>?_)
 .have hlt:=(ai.1 ha).1;obtain⟨_,h1,h2⟩:=h.ro r (sV ha);have hst:s.2.2.2.2.take (i+1)=s.2.2.2.2.take i++[r]:=by
   rw[X8 hlt,(ai.1 ha).2]
  have hlb:x8 b=(m:Int):=by rw[hI];simp[x8,Ua]
  obtain⟨rd,hrd⟩:∃rd:Int,r.2.1=rd:=⟨r.2.1,rfl⟩;simp only[U5 ha,o7,P5,ha,o9,hlb,hrd];rw[eP o5,hst];by_cases hd:0<=rd/\rd<(m:Int)
  .obtain⟨d0,d1⟩:=hd;have hk:rd.toNat<m:=o5;have hkk:((rd.toNat:Nat):Int)=rd:=o5;have hg:b[rd.toNat]? =some (dl m (s.2.2.2.2.take i) rd):=by rw[hI];unfold Ua;rw[YV m _ hk,hkk]
   have hll:=a1y h m rd (s.2.2.2.2.take i) λr hr=>iT hr;have hrl:=XQ h (sV ha) m;have htl:(s.2.2.2.2.take i).length<=60:=by simp;omega
   rw[Z4 d0,dY d1,show inb rd (m:Int)=true by unfold inb;simp;omega,show fO b (bY rd)=some (dl m (s.2.2.2.2.take i) rd)from hg,Qe _ h1 h2];simp only[o7,o9];rw[uN o5,show Ju (bY rd) (bY rd)=true by simp[Ju]];simp only[o7,o9];have hin:inD m rd=true:=by unfold inD;rw[Z4 d0,dY d1];rfl
   rw[hin,show b.getD rd.toNat []=dl m (s.2.2.2.2.take i) rd by rw[Qw,hg];rfl];refine⟨rfl,?_⟩;show b.set rd.toNat _=_;rw[hI];unfold Ua;rw[a3V];apply jd;intro d hdm;rw[a3v,hrd];by_cases hq:d=rd.toNat
   .subst hq;rw[if_pos rfl,hkk,O7 rfl];rfl
   .rw[if_neg hq,O5 o5];simp
  .have hin:inD m rd=false:=by
    unfold inD;by_cases d0:0<=rd
    .rw[Z4 d0,Y5 o5];rfl
    .rw[dF o5];rfl
   rw[hin];refine⟨?_,?_⟩
   .unfold inD at hin;cases q0:U2 0 rd
    .rfl
    .rw[q0]at hin;simp only[o7]at hin ⊢;rw[hin];rfl
   .show b=_;rw[hI];unfold Ua;apply jd;intro d hdm;have:=fU.1 hdm;rw[a3v,hrd,O5 o5];simp
 .simp only[Y6];rfl
 .rw[iq]at h2;rw[h2];generalize hA:Ua m s.2.2.2.2=A;have hAl:x8 A=(m:Int):=by rw[←hA];simp[x8,Ua]
  refine wW (List.range m) (λ(b:List (List Int)) d=>b.set d (NP (b.getD d []))) (λb i=>(b,i)) (λb=>b) (λi b=>b=(List.range m).map λ(d:Nat)=>if d<i then NP (dl m s.2.2.2.2 (d:Int))else dl m s.2.2.2.2 (d:Int)) A G8 (by rw[←hA];unfold Ua;simp) (λi d b ha hi hI=>?_) (λb hI=>?_) (λh3=>?_)
  .have hlt:=(ai.1 ha).1;simp only[iW]at hlt;have hdi:d=i:=by rw[List.getElem?_range hlt]at ha;exact(iP ha).symm
   subst hdi;have hlb:x8 b=(m:Int):=by rw[hI];simp[x8]
   have hg:b[d]? =some (dl m s.2.2.2.2 (d:Int)):=by rw[hI,YV m _ hlt,if_neg o5]
   have hll:=a1y h m d s.2.2.2.2 λr hr=>hr;simp only[hAl,hlb];rw[dY (show(d:Int)<(m:Int) by omega),show inb (d:Int) (m:Int)=true by unfold inb;simp;omega,show fO b (bY (d:Int))=some (dl m s.2.2.2.2 (d:Int))from hg];simp only[o7,o9];rw[ZJ o5,show Ju (bY (d:Int)) (bY (d:Int))=true by simp[Ju],eP o5];simp only[o7,o9];rw[show b.getD d []=dl m s.2.2.2.2 (d:Int) by rw[Qw,hg];rfl];refine⟨rfl,?_⟩;rw[hI,a3V];apply jd;intro e he;by_cases hq:e=d
   .subst hq;rw[if_pos rfl,if_pos o5]
   .rw[if_neg hq];by_cases hq2:e<d
    .rw[if_pos hq2,if_pos o5]
    .rw[if_neg hq2,if_neg o5]
  .simp only[iW,hAl,Y5 (show(m:Int)<=(m:Int) by omega)];rfl
  .rw[h3];apply congrArg some;apply jd;intro d hd;have:=fU.1 hd;simp only[iW];rw[if_pos this];unfold Ce;rw[hn,show inD (m:Int) (d:Int)=true by unfold inD;rw[Z4 o5,dY o5];rfl];rfl
def Rch(D:Int->List Int)(d:Int)(L:List Int):Prop:=SI L/\(∀x∈D d,x∈L)/\(∀x∈L,∀y∈D x,y∈L)/\∀C:Int->Prop,(∀x∈D d,C x)->(∀x,C x->∀y∈D x,C y)->∀x∈L,C x
theorem Rch.unique{D:Int->List Int}{L M:List Int}(h:Rch D d L)(k:Rch D d M):L=M:=
 a2H h.1 k.1 λx=>⟨λhx=>h.2.2.2 (λy=>y∈M) k.2.1 k.2.2.1 x hx,λhx=>k.2.2.2 (λy=>y∈L) h.2.1 h.2.2.1 x hx⟩
theorem ZM:∀{B A:List Int},SI A->SI B->(∀x∈A,x∈B)->A=B\/A.length<B.length
 |[],A,_,_,h=>by
  cases A with
  |nil=>exact .inl rfl|cons a A=>exact absurd (h a A7) A7
 |b::B,[],_,_,_=> .inr A7|b::B,a::A,hA,hB,h=>by
  have hA' :=V8.1 hA;have hB' :=V8.1 hB;rcases x9.1 (h a A7)with hab|hab
  .subst hab;rcases ZM (B:=B) (A:=A) hA'.2 hB'.2 (λx hx=>by
    rcases x9.1 (h x (by simp[hx]))with h1|h1
    .have:=hA'.1 x hx;omega
    .exact h1)with h1|h1
   .exact .inl (by rw[h1])
   .exact .inr (by simp only[A8];omega)
  .have hab2:=hB'.1 a hab;rcases ZM (B:=B) (A:=a::A) hA hB'.2 (λx hx=>by
    rcases x9.1 (h x hx)with h1|h1
    .rcases x9.1 hx with h2|h2
     .omega
     .have:=hA'.1 x h2;omega
    .exact h1)with h1|h1
   .exact .inr (by rw[h1];simp)
   .exact .inr (by simp only[A8]at*;omega)
def Jv(D:Int->List Int)(L:List Int):List Int:=L.foldl (λacc x=>UW (D x) acc) L
theorem FM(D:Int->List Int)(x:Int):∀(l acc:List Int),x∈l.foldl (λacc x=>UW (D x) acc) acc↔x∈acc\/∃y∈l,x∈D y
 |[],acc=>by simp|a::l,acc=>by
  rw[az,FM D x l,Vj];constructor
  .rintro((h|h)|⟨y,hy,h⟩)
   .exact .inr ⟨a,A7,h⟩
   .exact .inl h
   .exact .inr ⟨y,by simp[hy],h⟩
  .rintro(h|⟨y,hy,h⟩)
   .exact .inl (.inr h)
   .rcases x9.1 hy with rfl|hy
    .exact .inl (.inl h)
    .exact .inr ⟨y,hy,h⟩
theorem a4c(D:Int->List Int):∀(l:List Int) {acc:List Int},SI acc->SI (l.foldl (λacc x=>UW (D x) acc) acc)
 |[],_,h=>h|a::l,_,h=>by rw[az];exact a4c D l (ZC _ h)
theorem Vs(D:Int->List Int){L:List Int}(h:SI L):SI (Jv D L):=a4c D L h
def itS(D:Int->List Int)(d:Int):Nat->List Int
 |0=>D d|k+1=>Jv D (itS D d k)
section
variable {D:Int->List Int} {n:Nat} (hsi:∀x,SI (D x)) (hin:∀x,∀y∈D x,0<=y/\y<(n:Int))
include hsi hin
theorem J_(d:Int):∀k,SI (itS D d k)
 |0=>hsi d|k+1=>Vs D (J_ d k)
theorem a7e(d:Int):∀k,∀x∈itS D d k,0<=x/\x<(n:Int)
 |0,x,hx=>hin d x hx|k+1,x,hx=>by
  rcases(FM D x _ _).1 hx with h|⟨y,_,h⟩
  .exact a7e d k x h
  .exact hin y x h
theorem a3P(d:Int)(k:Nat):Jv D (itS D d k)=itS D d k\/(itS D d k).length<(Jv D (itS D d k)).length:=by
 rcases ZM (J_ hsi hin d k) (Vs D (J_ hsi hin d k)) (λx hx=>(FM D x _ _).2 (.inl hx))with h|h
 .exact .inl h.symm
 .exact .inr h
theorem XA(d:Int):∀k,Jv D (itS D d k)=itS D d k\/k<(Jv D (itS D d k)).length
 |0=>by
  rcases a3P hsi hin d 0 with h|h
  .exact .inl h
  .exact .inr o5
 |k+1=>by
  rcases XA d k with h|h
  .exact .inl (by show Jv D (Jv D (itS D d k))=Jv D (itS D d k);rw[h,h])
  .rcases a3P hsi hin d (k+1)with h2|h2
   .exact .inl h2
   .exact .inr (by have:(itS D d (k+1)).length=(Jv D (itS D d k)).length:=rfl;omega)
theorem b3M(d:Int):Rch D d (itS D d n):=by
 have hst:Jv D (itS D d n)=itS D d n:=by
  rcases XA hsi hin d n with h|h
  .exact h
  .have:=a2I n (Vs D (J_ hsi hin d n)) (a7e hsi hin d (n+1));omega
 refine⟨J_ hsi hin d n,?_,?_,?_⟩
 .intro x hx;have:∀k,x∈itS D d k:=by
   intro k;induction k with
   |zero=>exact hx|succ k ih=>exact(FM D x _ _).2 (.inl ih)
  exact this n
 .intro x hx y hy;rw[←hst];exact(FM D y _ _).2 (.inr ⟨x,hx,hy⟩)
 .intro C h1 h2;have:∀k,∀x∈itS D d k,C x:=by
   intro k;induction k with
   |zero=>exact h1|succ k ih=>
    intro x hx;rcases(FM D x _ _).1 hx with h|⟨y,hy,h⟩
    .exact ih x h
    .exact h2 y (ih y hy) x h
  exact this n
end
def Wu(s:J8)(d:Int):List Int:=itS (Ce s) d s.2.2.2.1.length
theorem Yg(s:J8)(d:Int):Rch (Ce s) d (Wu s d):=
 b3M (n:=s.2.2.2.1.length) (Qi s) (λx y hy=>Qh hy) d
theorem b0j(h:x∈Wu s d):0<=x/\x<nD s:=a7e (n:=s.2.2.2.1.length) (Qi s) (λx y hy=>Qh hy) d _ x h
theorem a1P(h:SmS s){l:List Int}(hs:SI l)(hi:∀x∈l,0<=x/\x<nD s):l.length<=14:=aV (a2I s.2.2.2.1.length hs hi) h.nd
def mk(S:List Bool)(x:Int):Bool:=if 0<=x then S.getD x.toNat false else false
def unm(S:List Bool):Nat:=S.count false
def rG(b:List Bool×List Int)(e:Int):List Bool×List Int:=l7 (mk b.1 e) b (b.1.set e.toNat true,b.2++[e])
variable {S:List Bool}
theorem a7q(h0:0<=x)(h1:x<x8 S):S[x.toNat]? =some (mk S x):=by
 unfold mk;rw[if_pos h0,Qw];have:x.toNat<S.length:=by simp only[x8]at h1;omega
 rw[sF this];rfl
theorem a7r{e:Int}(h0:0<=e)(h1:e<x8 S)(x:Int):mk (S.set e.toNat true) x=l7 (D8 x e) true (mk S x):=by
 unfold mk;have hl:e.toNat<S.length:=by simp only[x8]at h1;omega
 by_cases hx:0<=x
 .rw[if_pos hx,if_pos hx,Qw,Qw,ak];by_cases hq:x=e
  .subst hq;rw[if_pos rfl,if_pos hl,O7 rfl];rfl
  .rw[if_neg o5,O5 hq];rfl
 .rw[if_neg hx,if_neg hx,O5 o5];rfl
theorem b2p{e:Int}(h0:0<=e)(h1:e<x8 S)(hm:mk S e=false):unm (S.set e.toNat true)+1=unm S:=by
 have hl:e.toNat<S.length:=by simp only[x8]at h1;omega
 have hg:=a7q h0 h1;rw[hm,sF hl]at hg;have hg' :S[e.toNat]=false:=iP hg;unfold unm;rw[List.count_set hl,hg'];have:0<S.count false:=List.count_pos_iff.2 (by rw[←hg'];exact af hl);simp;omega
structure RInv (n:Nat) (S:List Bool) (Q:List Int) (l:List Int) (S' :List Bool) (Q' :List Int):Prop where
 len:S'.length=n
 seen:∀x:Int,0<=x->x<(n:Int)->(mk S' x=true↔mk S x=true\/x∈l)
 sum:Q'.length+unm S' =Q.length+unm S
 le:unm S' <=unm S
 old:∀x∈Q,x∈Q'
 new:∀x∈Q',x∈Q\/x∈l
 got:∀x,mk S' x=true->mk S x=true\/x∈Q'
theorem a8C{n:Nat} :∀(l:List Int) (S:List Bool) (Q:List Int),S.length=n->(∀x∈l,0<=x/\x<(n:Int))->RInv n S Q l (l.foldl rG (S,Q)).1 (l.foldl rG (S,Q)).2
 |[],S,Q,hl,_=>⟨hl,λx _ _=>by simp,rfl,F7 _,λx hx=>hx,λx hx=> .inl hx,λx hx=> .inl hx⟩|e::l,S,Q,hl,hi=>by
  have he:=hi e A7;have hel:e<x8 S:=by simp only[x8];omega
  rw[az];cases hm:mk S e with
  |true=>
   rw[show rG (S,Q) e=(S,Q) by unfold rG;rw[hm];rfl];have ih:=a8C l S Q hl λx hx=>hi x (by simp[hx]);refine⟨ih.len,λx h0 h1=>?_,ih.sum,ih.le,ih.old,λx hx=>?_,ih.got⟩
   .rw[ih.seen x h0 h1,x9];constructor
    .rintro(h|h)
     .exact .inl h
     .exact .inr (.inr h)
    .rintro(h|h|h)
     .exact .inl h
     .subst h;exact .inl hm
     .exact .inr h
   .rcases ih.new x hx with h|h
    .exact .inl h
    .exact .inr (by simp[h])
  |false=>
   rw[show rG (S,Q) e=(S.set e.toNat true,Q++[e]) by unfold rG;rw[hm];rfl];have ih:=a8C l (S.set e.toNat true) (Q++[e]) (by simp[hl]) λx hx=>hi x (by simp[hx]);have hu:=b2p he.1 hel hm;refine⟨ih.len,λx h0 h1=>?_,?_,?_,λx hx=>ih.old x (by simp[hx]),λx hx=>?_,λx hx=>?_⟩
   .rw[ih.seen x h0 h1,a7r he.1 hel,x9];cases hq:D8 x e
    .rw[wQ]at hq;simp[hq]
    .rw[iK]at hq;simp[hq]
   .have:=ih.sum;simp only[D6,A8,G9]at this;omega
   .have:=ih.le;omega
   .rcases ih.new x hx with h|h
    .rcases G5.1 h with h|h
     .exact .inl h
     .exact .inr (by simp at h;simp[h])
    .exact .inr (by simp[h])
   .rcases ih.got x hx with h|h
    .rw[a7r he.1 hel]at h;cases hq:D8 x e
     .rw[hq]at h;exact .inl h
     .rw[iK]at hq;subst hq;exact .inr (ih.old _ A7)
    .exact .inr h
def Rz(S:List Bool):List Int:=((List.range S.length).filter λi=>S.getD i false).map λ(i:Nat)=>(i:Int)
theorem KN(x:Int):x∈Rz S↔mk S x=true:=by
 unfold Rz mk;rw[X7];constructor
 .rintro⟨i,hi,rfl⟩;rw[if_pos o5];exact(rF.1 hi).2
 .intro h;split at h
  .refine⟨x.toNat,rF.2 ⟨fU.2 ?_,h⟩,o5⟩;rw[Qw]at h;cases hg:S[x.toNat]? with
   |none=>rw[hg]at h;cases h|some b=>exact(ai.1 hg).1
  .cases h
theorem a7n(S:List Bool):SI (Rz S):=by unfold Rz;refine List.Pairwise.map _ (R:=(·< ·)) (λa b h=>by omega) (List.Pairwise.filter _ List.pairwise_lt_range)
theorem a1U{f:List Int×Int->Option ((List Int×Int)⊕List Int)}(S:List Bool)(hS:S.length<=100)
  (hin:∀(i:Nat) (a:Bool) (acc:List Int),S[i]? =some a->i<=1000000->acc.length<=i->f (acc,(i:Int))=l7 a (l9 (dE acc [(i:Int)]) λx=>some (.inl (x,H8 .i64 (i:Int) 1))) (some (.inl (acc,H8 .i64 (i:Int) 1))))
  (hend:∀acc,f (acc,(S.length:Int))=some (.inr acc)):dC f ([],0)=some (Rz S):=by
 have mk2:∀i,i<=S.length->((List.range i).filter λi=>S.getD i false).length<=i:=λi _=>by have:=iD (λi=>S.getD i false) (List.range i);simpa using this
 obtain⟨e,h1,h2⟩:=sO (f:=f) (s:=([],0)) (λx=>∃i:Nat,x=(((List.range i).filter λi=>S.getD i false).map λ(i:Nat)=>(i:Int),(i:Int))/\i<=S.length) (λe=>e=Rz S) (λx=>S.length -x.2.toNat) ⟨0,rfl,o5⟩ G8 (by
  rintro x ⟨i,rfl,hi⟩;by_cases h:i<S.length
  .have e:=sF h;have hst:(List.range (i+1)).filter (λi=>S.getD i false)=(List.range i).filter (λi=>S.getD i false)++l7 S[i] [i] []:=by
    rw[jM,List.filter_append];congr 1;rw[nR,Qw,e];cases S[i]<;>rfl
   have hl:=mk2 i hi;refine .inl ⟨(((List.range (i+1)).filter λi=>S.getD i false).map λ(i:Nat)=>(i:Int),((i+1:Nat):Int)),?_,⟨i+1,rfl,h⟩,by simp;omega⟩;rw[hin i _ _ e o5 (by simpa using hl),eP o5,hst,jK,zW _ (by rw[Y4];omega)];cases S[i]
   .simp
   .rfl
  .have:i=S.length:=o5;subst this;exact .inr ⟨_,hend _,rfl⟩)
 rw[h1,h2]
theorem a2l{D:Int->List Int}{n:Nat}(hn:n<=14)(hsi:∀x,SI (D x))(hin:∀x,∀y∈D x,0<=y/\y<(n:Int))(h0:0<=d)(h1:d<(n:Int)):
  ∃L,Cc ((List.range n).map λ(x:Nat)=>D (x:Int)) d=some L/\Rch D d L:=by
 have hA:x8 ((List.range n).map λ(x:Nat)=>D (x:Int))=(n:Int):=by simp[x8]
 have hget:∀x:Int,0<=x->x<n->O0 ((List.range n).map λ(x:Nat)=>D (x:Int)) x=some (D x):=λx a b=>by
  have:x.toNat<n:=o5;unfold O0
  rw[if_pos a,YV n _ this,gX a]
 unfold Cc;generalize (List.range n).map (λ(x:Nat)=>D (x:Int))=A at*;rw[hA,show Lt (n:Int) false=some (List.replicate n false) by unfold Lt;rw[if_pos o5];simp,o9];have hD14:∀x,(D x).length<=14:=λx=>aV (a2I n (hsi x) (hin x)) hn;have key:=sO (f:=λ(x:List Bool×List Int)=>l7 (I9 0 (x8 x.2)) (l9 (O0 x.2 0) λ(x_1:Int)=>l9 (fO x.2 (bY 0)) λ(x_2:Int)=>l7 (ny 1 (x8 x.2) (x8 x.2)) (l9 (O0 A x_2) λ(x_3:List Int)=>
   l9 (dC (λ(x:List Bool×List Int×Int)=>l7 (I9 x.2.2 (x8 x_3)) (l9 (O0 x_3 x.2.2) λ(x_4:Int)=>l9 (O0 x.1 x_4) λ(x_5:Bool)=>l9 (fO x.1 (bY x_4)) λ(x_6:Bool)=>
     l7 (I4 x_6) (l9 (O0 x.1 x_4) λ(x_7:Bool)=>l9 (fO x.1 (bY x_4)) λ(x_8:Bool)=>l9 (dE x.2.1 [x_4]) λ(x_9:List Int)=>some (.inl (ug x.1 (bY x_4) true,x_9,H8 .i64 x.2.2 1)))
      (some (.inl (x.1,x.2.1,H8 .i64 x.2.2 1)))) (some (.inr (x.1,x.2.1)))) (x.1,kN x.2 (bY 1) (bY (x8 x.2)),0)) λ(y:List Bool×List Int)=>some (.inl y)) none) (some (.inr x.1)))
  (s:=(List.replicate n false,[d]))
  (λx=>x.1.length=n/\(∀q∈x.2,0<=q/\q<(n:Int))/\x.2.length+unm x.1<=n+1/\(∀q∈x.2,q=d\/mk x.1 q=true)/\(∀v,v=d\/mk x.1 v=true->v∈x.2\/∀y∈D v,mk x.1 y=true)/\
   (∀C:Int->Prop,(∀x∈D d,C x)->(∀x,C x->∀y∈D x,C y)->∀v,mk x.1 v=true->C v)/\(∀v,mk x.1 v=true->0<=v/\v<(n:Int)))
  (λS=>S.length=n/\Rch D d (Rz S)) (λx=>2*unm x.1+x.2.length) ?_ ?_ ?_
 .obtain⟨S,k1,k2,k3⟩:=key;refine⟨Rz S,?_,k3⟩;refine(a0d k1 _).trans ?_;rw[vG];refine a1U S o5 (λi a acc ha hi hacc=>?_) (λacc=>?_)
  .simp only[U5 ha,o7,P5,ha,o9];rw[show fO S (bY (i:Int))=some a from ha,o9]
  .simp only[Y6];rfl
 .have hnone:∀v,mk (List.replicate n false) v=false:=λv=>by
   unfold mk;split
   .rw[Qw,List.getElem?_replicate];split<;>rfl
   .rfl
  refine⟨A7,λq hq=>by simp at hq;omega,?_,λq hq=> .inl (by simpa using hq),λv hv=>?_,λC _ _ v hv=>(by rw[hnone]at hv;cases hv),λv hv=>(by rw[hnone]at hv;cases hv)⟩
  .simp[unm,List.count_replicate];omega
  .rcases hv with rfl|hv
   .exact .inl A7
   .rw[hnone]at hv;cases hv
 .simp[unm,List.count_replicate];omega
 .rintro⟨S,Q⟩ ⟨i1,i2,i3,i4,i5,i6,i7⟩;simp only at i1 i2 i3 i4 i5 i6 i7;cases Q with
  |nil=>
   right;refine⟨S,rfl,i1,a7n S,λx hx=>?_,λx hx y hy=>?_,λC c1 c2 x hx=>i6 C c1 c2 x ((KN x).1 hx)⟩
   .rcases i5 d (.inl rfl)with h|h
    .cases h
    .exact(KN x).2 (h x hx)
   .rcases i5 x (.inr ((KN x).1 hx))with h|h
    .cases h
    .exact(KN y).2 (h y hy)
  |cons q Q=>
   left;have hq:=i2 q A7;have hfold:=a8C (n:=n) (D q) S Q i1 (λx hx=>hin q x hx);refine⟨(D q).foldl rG (S,Q),?_,?_,?_⟩
   .simp only[dY (show(0:Int)<x8 (q::Q) by simp[x8]<;>omega),o7,show O0 (q::Q) 0=some q from rfl,show fO (q::Q) (bY 0)=some q from rfl,o9,hget q hq.1 hq.2,
     show ny 1 (x8 (q::Q)) (x8 (q::Q))=true by simp[ny,x8]<;>omega,show kN (q::Q) (bY 1) (bY (x8 (q::Q)))=Q by simp[kN,bY,x8]]
    refine wW (D q) rG (λb i=>(b.1,b.2,i)) (λb=>b) (λi b=>b.1.length=n/\b.2.length<=100+i) (S,Q) (by have:=hD14 q;omega) ⟨i1,by simp at i3;show Q.length<=100+0;omega⟩ (λi e b he hi hI=>?_) (λb hI=>?_) (λh2=>rfl)
    .obtain⟨S1,Q1⟩:=b;simp only at hI;have hee:=hin q e (sV he);have hlt:=(ai.1 he).1;have hdl:=hD14 q;have hg:=a7q (S:=S1) hee.1 (by simp only[x8];omega);have hla:O0 S1 e=some (mk S1 e):=by unfold O0;rw[if_pos hee.1];exact hg
     have hlg:fO S1 (bY e)=some (mk S1 e):=hg;simp only[U5 he,o7,P5 (D q),he,o9,hla,hlg];rw[eP o5,zW _ o5];unfold rG;simp only;cases mk S1 e
     .exact⟨rfl,by simp[hI.1],by simp<;>omega⟩
     .exact⟨rfl,hI.1,by show Q1.length<=_;omega⟩
    .simp only[Y6];rfl
   .obtain⟨j1,j2,j3,j4,j5,j6,j7⟩:=hfold;generalize (D q).foldl rG (S,Q)=b at*;obtain⟨S',Q'⟩:=b;simp only at j1 j2 j3 j4 j5 j6 j7 ⊢;have hrange:∀v,mk S' v=true->0<=v/\v<(n:Int):=λv hv=>by
     rcases j7 v hv with h|h
     .exact i7 v h
     .rcases j6 v h with h|h
      .exact i2 v (by simp[h])
      .exact hin q v h
    refine⟨j1,λx hx=>?_,?_,λx hx=>?_,λv hv=>?_,λC c1 c2 v hv=>?_,hrange⟩
    .rcases j6 x hx with h|h
     .exact i2 x (by simp[h])
     .exact hin q x h
    .simp only[A8]at i3;omega
    .rcases j6 x hx with h|h
     .rcases i4 x (by simp[h])with h2|h2
      .exact .inl h2
      .have hr:=i7 x h2;exact .inr ((j2 x hr.1 hr.2).2 (.inl h2))
     .have hr:=hin q x h;exact .inr ((j2 x hr.1 hr.2).2 (.inr h))
    .have up:∀y,mk S y=true->mk S' y=true:=λy hy=>by
      have hr:=i7 y hy;exact(j2 y hr.1 hr.2).2 (.inl hy)
     by_cases hvq:v=q
     .subst hvq;right;intro y hy;have hr:=hin v y hy;exact(j2 y hr.1 hr.2).2 (.inr hy)
     .by_cases hold:v=d\/mk S v=true
      .rcases i5 v hold with h|h
       .rcases x9.1 h with h|h
        .exact absurd h hvq
        .exact .inl (j5 v h)
       .exact .inr λy hy=>up y (h y hy)
      .rcases hv with h|h
       .exact absurd (.inl h) hold
       .rcases j7 v h with h2|h2
        .exact absurd (.inr h2) hold
        .exact .inl h2
    .by_cases hS:mk S v=true
     .exact i6 C c1 c2 v hS
     .have hr:=hrange v hv;rcases(j2 v hr.1 hr.2).1 hv with h|h
      .exact absurd h hS
      .rcases i4 q A7 with h2|h2
       .subst h2;exact c1 v h
       .exact c2 q (i6 C c1 c2 q h2) v h
   .have:=hfold.sum;have:=hfold.le;simp only[A8];omega
theorem Xd(h:SmS s)(h0:0<=d)(h1:d<nD s):yh s d=some (Wu s d):=by have hn:nD s=((s.2.2.2.1.length:Nat):Int):=rfl;unfold yh;change l7 (I9 d 0) _ (l7 (U2 (nD s) d) _ _)=_;rw[Y5 h0,o6,dF h1,o6,Yq h,o9,vG];obtain⟨L,k1,k2⟩:=a2l (D:=Ce s) h.nd (Qi s) (λx y hy=>Qh hy) h0 (show d<((s.2.2.2.1.length:Nat):Int) by omega);rw[k1,Rch.unique k2 (Yg s d)]
structure SmL (l:Z7):Prop where
 few:Few l
 en:a3i l
 tb:f_ l
 sc:∀s∈l.2.2,SmS s
variable {l:Z7}
theorem SmL.scopes(h:SmL l):d_ l:=λs hs=>by have hm:=h.sc s hs;exact⟨hm.nm,by have:=hm.ni;omega,by have:=hm.nd;omega,by have:=hm.nr;omega⟩
theorem KI{ε ρ:Type}{p:Nat->Option ρ}(n:Nat)(hn:n<=1000000)(e:ε){f:Int->Option (Out Int ε ρ)}
  (h1:∀i,i<n->f (i:Int)=some (match p i with|some r=> .rt r|none=> .nx (H8 .i64 (i:Int) 1))) (h2:f (n:Int)=some (.ex e)):
  P7 f 0=some (match dV n p with|some r=> .inr r|none=> .inl e):=
 Jq n o5 e (λi hi=>by rw[h1 i hi,eP o5]<;>cases p i<;>rfl) h2
def VR(l:Z7)(s:J8)(k:Nat):Option (Int×Int):=match s.2.2.2.2[k]? with|some r=>UC (PH s (uT l s) k r) (300+k:Nat)|none=>none
def b0B(s:J8)(d:Nat):Option (Int×Int):=l7 ((Wu s d).any λx=>D8 (d:Int) x) (some (9,((200+d:Nat):Int))) none
def Jt(l:Z7)(i:Nat)(m:Int):Bool:=l7 (D8 m (-1)) false (l7 (I9 m 0) true (l7 (U2 (i:Int) m) true (match O0 l.2.2 m with|some q=>I4 (D8 q.2.1 (-1))|none=>true)))
def QG(l:Z7)(s:J8):Int×Int:=match zl l s with
 |some r=>r
 |none=>match dV s.2.2.2.2.length (VR l s)with
  |some r=>r
  |none=>match dV s.2.2.2.1.length (b0B s)with
   |some r=>r|none=>(0,0)
def EX(l:Z7)(i:Nat)(s:J8):Int×Int:=
 l7 (iU s.1) (l7 (zX l 3 i s.1) (7,0) (l7 (Jt l i s.2.1) (6,0) (l7 (I9 12 (x8 s.2.2.1)) (4,112) (l7 (I9 12 (x8 s.2.2.2.1)) (4,212) (QG l s))))) (2,0)
theorem WN(hL:SmL l){i:Nat}(hs:l.2.2[i]? =some s):zt l (i:Int)=some (EX l i s):=by
 have hi:=(ai.1 hs).1;have hS:=hL.sc s (sV hs);have hf:=hL.few;have hf1:=hf.1;have hf2:=hf.2.1;have hf3:=hf.2.2;have n1:=hS.ni;have n2:=hS.nd;have n3:=hS.nr;unfold zt EX zX;rw[P5,hs,o9,yR o5,o9,Na _ o5,o9,Rw _ o5,o9,G_ _ G8,o9];have hb:(l7 (l.1.any λx=>seq x.1 s.1) (some (s,true)) (l7 (l.2.1.any λx=>seq x.1 s.1) (some (s,true)) (some (s,(l.2.2.take i).any λx=>seq x.1 s.1))))=
   some (s,(l.1.any λx=>seq x.1 s.1) || (l.2.1.any λx=>seq x.1 s.1) || (l.2.2.take i).any λx=>seq x.1 s.1):=by
  cases l.1.any λx=>seq x.1 s.1
  .cases l.2.1.any λx=>seq x.1 s.1<;>rfl
  .rfl
 rw[hb,o9];simp only;rw[pR hS.nm,o9];cases iU s.1
 .rfl
 simp only[E8,o6,o7];cases (l.1.any λx=>seq x.1 s.1) || (l.2.1.any λx=>seq x.1 s.1) || (l.2.2.take i).any λx=>seq x.1 s.1
 case true=>rfl
 simp only[o6];have hm:(l7 (I4 (D8 s.2.1 (-1))) (l7 (I9 s.2.1 0) (some true) (l7 (U2 (i:Int) s.2.1) (some true) (l9 (O0 (l.2.2.take i) s.2.1) λ(x:J8)=>some (I4 (D8 x.2.1 (-1)))))) (some false))=some (Jt l i s.2.1):=by
  unfold Jt;cases D8 s.2.1 (-1)
  case true=>rfl
  simp only[Z5,o7,o6];cases h0:I9 s.2.1 0
  case true=>rfl
  cases h1:U2 (i:Int) s.2.1
  case true=>rfl
  rw[oO]at h0;rw[Qs]at h1;obtain⟨q,hq,_⟩:=tY (l:=l.2.2.take i) h0 (by simp only[x8,aZ];omega);have hq2:O0 l.2.2 s.2.1=some q:=by have:=(pF hq).2.2.2;unfold O0;rw[if_pos h0];exact(a0U this).2
  rw[hq,hq2];rfl
 rw[hm,o9];cases Jt l i s.2.1
 case true=>rfl
 simp only[o6];cases I9 12 (x8 s.2.2.1)
 case true=>rfl
 cases I9 12 (x8 s.2.2.2.1)
 case true=>rfl
 simp only[o6,o9,Y2];unfold QG zl;refine X3 (KI (p:=inP l s) s.2.2.1.length o5 PUnit.unit (λk hk=>?_) ?_) ?_
 rotate_left 2
 .cases dV s.2.2.1.length (inP l s)
  case some r=>rfl
  simp only[o9,Y2];refine X3 (KI (p:=t_ l s) s.2.2.2.1.length o5 PUnit.unit (λk hk=>?_) ?_) ?_
  rotate_left 2
  .cases dV s.2.2.2.1.length (t_ l s)
   case some r=>rfl
   simp only[o9,Y2];rw[NL hL.scopes hs,o9];refine X3 (KI (p:=VR l s) s.2.2.2.2.length o5 PUnit.unit (λk hk=>?_) ?_) ?_
   rotate_left 2
   .cases dV s.2.2.2.2.length (VR l s)
    case some r=>rfl
    simp only[o9,Y2];refine X3 (KI (p:=b0B s) s.2.2.2.1.length o5 PUnit.unit (λk hk=>?_) ?_) ?_
    rotate_left 2
    .cases dV s.2.2.2.1.length (b0B s)<;>rfl
    .have e:=sF hk;simp only[U5 e,o7];rw[Xd hS o5 (by show(k:Int)<x8 s.2.2.2.1;simp only[x8];omega),o9,a5h _ (by
      have:=a1P hS (Yg s (k:Int)).1 (λx hx=>b0j hx);omega),o9,show(200:Int)=((200:Nat):Int)from rfl,a3I o5 o5]
     unfold b0B;cases (Wu s (k:Int)).any λx=>D8 (k:Int) x<;>rfl
    .rw[Y6];rfl
   .have e:=sF hk;have hr:=(hS.ro _ (af hk)).1;simp only[U5 e,o7];rw[Yv _ e o5 hr,o9,show(300:Int)=((300:Nat):Int)from rfl,a3I o5 o5];simp only[VR,e,UC];cases D8 (PH s (uT l s) k s.2.2.2.2[k]) 0<;>rfl
   .rw[Y6];rfl
  .have e:=sF hk;have hm:=hS.fo.2 _ (af hk);simp only[U5 e,o7,P5,e,o9];rw[yR o5,o9,LM hm o5 G8,o9,show(200:Int)=((200:Nat):Int)from rfl,a3I o5 o5];simp only[t_,e,UC];cases D8 (ER l.1 s.2.2.2.1[k] s.2.2.1 (s.2.2.2.1.take k)) 0<;>rfl
  .rw[Y6];rfl
 .have e:=sF hk;have hm:=hS.fo.1 _ (af hk);simp only[U5 e,o7,P5,e,o9];rw[yR o5,o9,LM hm G8 A7,o9,show(100:Int)=((100:Nat):Int)from rfl,a3I o5 o5];simp only[inP,e,UC];cases D8 (ER l.1 s.2.2.1[k] (s.2.2.1.take k) []) 0<;>rfl
 .rw[Y6];rfl
theorem Ql{c e:Int}{r:Int×Int}(h:UC c e=some r):r.1≠0:=by
 unfold UC at h;cases hc:D8 c 0<;>rw[hc]at h
 .cases h;exact wQ.1 hc
 .cases h
theorem Ji{r:Int×Int}(h:zl l s=some r):r.1≠0:=by
 unfold zl at h;split at h
 .rename_i q hq;cases h;obtain⟨k,_,hk⟩:=mG hq;unfold inP at hk;split at hk
  .exact Ql hk
  .cases hk
 .obtain⟨k,_,hk⟩:=mG h;unfold t_ at hk;split at hk
  .exact Ql hk
  .cases hk
def Hz(l:Z7)(i:Nat):Option (Int×Int×Int×Int):=match l.2.2[i]? with|some s=>MS 3 i (EX l i s)|none=>none
def Lh(l:Z7):Int×Int×Int×Int:=l7 (I9 4 (x8 l.2.2)) (4,3,4,0) (match dV l.2.2.length (Hz l)with|some r=>r|none=>(0,0,0,0))
def jA(l:Z7):Int×Int×Int×Int:=l7 (D8 (Ae l).1 0) (l7 (D8 (yD l).1 0) (Lh l) (yD l)) (Ae l)
theorem Un(hL:SmL l):yu l=some (Lh l):=by
 have hf:=hL.few.2.2;unfold yu Lh;cases I9 4 (x8 l.2.2)
 case true=>rfl
 simp only[o6];refine X3 (Jj (p:=Hz l) l.2.2.length o5 _ (0,0,0,0) (λi hi=>?_) ?_) ?_
 rotate_left 2
 .cases dV l.2.2.length (Hz l)<;>rfl
 .have e:=sF hi;simp only[U5 e,o7,WN hL e,o9,Hz,e,MS];cases D8 (EX l i l.2.2[i]).1 0<;>rfl
 .rw[Y6];rfl
theorem JW(hL:SmL l):xC l=some (jA l):=by
 unfold xC jA;rw[WM hL.few hL.en,o9];cases D8 (Ae l).1 0
 .rfl
 simp only[E8,o6,o7];rw[Uo hL.few hL.tb,o9];cases D8 (yD l).1 0
 .rfl
 simp only[E8,o6,o7];rw[Un hL];rfl
theorem KG{k i:Int}{c:Int×Int}{r:Int×Int×Int×Int}(h:MS k i c=some r):r.1≠0:=by
 unfold MS at h;cases hc:D8 c.1 0<;>rw[hc]at h
 .cases h;exact wQ.1 hc
 .cases h
theorem rD{ρ:Type}{n:Nat}{p:Nat->Option ρ}(h:dV n p=none):∀i,i<n->p i=none:=by unfold dV at h;intro i hi;exact List.findSome?_eq_none_iff.1 h i (fU.2 hi)
def hw(W:List Int)(d:Int):Int:=W.getD d.toNat 0
end Go.GP
namespace Gt
open Go Go.GP
def il(y:Int):Bool:=if y % 4=0 then(if y % 100≠0 then true else decide (y % 400=0))else false
def ys(y:Int):Int:=(y -1900)*365+((y -1) / 4 -(y -1) / 100+(y -1) / 400) -460
def diy(y:Int):Int:=if il y then 366 else 365
theorem EL(y:Int):ys (y+1)=ys y+diy y:=by unfold ys diy il;by_cases h4:y % 4=0<;>by_cases h100:y % 100=0<;>by_cases h400:y % 400=0<;>simp[h4,h100,h400]<;>omega
theorem b0T(a b:Int):a<b\/b<=a:=o5
theorem Ux(y:Int):365<=diy y/\diy y<=366:=by unfold diy;split<;>omega
theorem Bc{y y' :Int}(h:y<=y'):ys y<=ys y' :=by
 obtain⟨n,rfl⟩:∃n:Nat,y' =y+n:=⟨(y' -y).toNat,o5⟩;clear h;induction n with
 |zero=>simp|succ n ih=>have:=EL (y+n);have:=Ux (y+n);have e:y+((n+1:Nat):Int)=y+n+1:=o5;rw[e];omega
variable {y:Int}
theorem Lr(h:1900<=y):0<=ys y:=by
 have:=Bc h;have e:ys 1900=0:=by decide+kernel
 omega
theorem a6j{y y' d:Int}(h1:ys y<=d)(h2:d<ys (y+1))(h3:ys y' <=d)(h4:d<ys (y' +1)):y=y' :=by
 rcases Int.lt_trichotomy y y' with h|h|h
 .have:=Bc (y:=y+1) (y' :=y') o5;omega
 .exact h
 .have:=Bc (y:=y' +1) (y' :=y) o5;omega
def dim(y m:Int):Int:=
 if m=2 then(if il y then 29 else 28)else if m=4\/m=6\/m=9\/m=11 then 30 else 31
theorem MQ(y m:Int):28<=dim y m/\dim y m<=31:=by
 unfold dim;repeat' split
 all_goals omega
theorem Jb(h:0<=y):En y=some (il y):=by
 unfold En il;simp only[Bh h];by_cases h4:y % 4=0
 .rw[oD (O7 h4),if_pos h4];by_cases h100:y % 100=0
  .simp[D8,h100]
  .simp[D8,h100]
 .rw[pg (O5 h4),if_neg h4]
theorem Iy(h:0<=y):CG y=some (il y):=Jb h
theorem Lu(h:0<=y):og y=some (diy y):=by unfold og diy;rw[Iy h,o9];cases il y<;>rfl
variable {m:Int}
theorem m12(h:1<=m/\m<=12):m=1\/m=2\/m=3\/m=4\/m=5\/m=6\/m=7\/m=8\/m=9\/m=10\/m=11\/m=12:=o5
theorem xP(h:0<=y)(hm:1<=m/\m<=12):lN y m=some (dim y m):=by
 unfold lN;rcases m12 hm with rfl|rfl|rfl|rfl|rfl|rfl|rfl|rfl|rfl|rfl|rfl|rfl
 all_goals first|rfl|(rw[Jb h];unfold dim;cases il y<;>rfl)
theorem JB(h:0<=y)(hm:1<=m/\m<=12):ng y m=some (dim y m):=by
 unfold ng;rcases m12 hm with rfl|rfl|rfl|rfl|rfl|rfl|rfl|rfl|rfl|rfl|rfl|rfl
 all_goals first|rfl|(rw[Iy h];unfold dim;cases il y<;>rfl)
theorem Eo(h:0<=y)(h2:y<=1000000):wK y=some (y / 4 -y / 100+y / 400):=by unfold wK;simp only[dA,oV h];rw[zS bg,zS bg,zS bg,cu bg,dw bg]
theorem zg(h:1<=y)(h2:y<=1000000):qK y=some (ys y):=by unfold qK;have e1:N8 .i64 y 1900=y -1900:=cu bg;have e2:Qu .i64 (y -1900) 365=(y -1900)*365:=Jm bg;rw[cu (a:=y) (b:=1) bg,Eo o5 o5,o9,Eo o5 o5,o9,e1,e2,dw bg,cu bg];unfold ys;congr 1
def mo(y:Int):Nat->Int->Int×Int
 |0,d=>(d,13)|n+1,d=>if d<dim y (12 -n)then(d,12 -n)else mo y n (d -dim y (12 -n))
theorem YY(y:Int)(n:Nat)(d:Int):mo y (n+1) d=if d<dim y (12 -(n:Int))then(d,12 -(n:Int))else mo y n (d -dim y (12 -(n:Int))):=rfl
def rem(y:Int):Nat->Int
 |0=>0|n+1=>dim y (12 -n)+rem y n
theorem a0t(y:Int):rem y 12=diy y:=by unfold diy;cases h:il y<;>simp[rem,dim,h]
theorem a3Z(y:Int):∀(n:Nat) (d:Int),n<=12->0<=d->d<rem y n->1<=(mo y n d).2/\(mo y n d).2<=12/\0<=(mo y n d).1/\(mo y n d).1<dim y (mo y n d).2
 |0,d,_,h0,h=>by simp[rem]at h;omega|n+1,d,hn,h0,h=>by
  unfold mo;by_cases hd:d<dim y (12 -n)
  .rw[if_pos hd];refine⟨?_,?_,h0,hd⟩<;>simp<;>omega
  .rw[if_neg hd];refine a3Z y n _ o5 o5 ?_;simp only[rem]at h;omega
def yOf(d:Int):Int:=((((List.range 300).find? (λ(k:Nat)=>decide (d<ys (1900+(k:Int)+1)))).getD 0:Nat):Int)+1900
variable {d:Int}
theorem Kq(h0:0<=d)(h:d<=109572):1900<=yOf d/\yOf d<=2199/\ys (yOf d)<=d/\d<ys (yOf d+1):=by
 unfold yOf;cases hf:(List.range 300).find? (λ(k:Nat)=>decide (d<ys (1900+(k:Int)+1)))with
 |none=>
  have:=List.find?_eq_none.1 hf 299 A7;simp only[decide_eq_true_eq]at this;have e:ys (1900+(299:Nat)+1)=109573:=by decide+kernel
  omega
 |some k=>
  have h1:=List.find?_some hf;simp only[decide_eq_true_eq]at h1;have h2:=List.mem_of_find?_eq_some hf;simp only[fU]at h2;simp only[V5];refine⟨o5,o5,?_,?_⟩
  .cases k with
   |zero=>
    have e:ys 1900=0:=by decide+kernel
    simp[e,h0]
   |succ j=>have h3:=List.find?_range_eq_some.1 hf;have h4:=h3.2.2 j o5;simp only[aO,decide_eq_false_iff_not,vg]at h4;have e:(((j+1:Nat):Int)+1900)=1900+(j:Int)+1:=o5;rw[e];exact h4
  .have e:(k:Int)+1900+1=1900+k+1:=o5;rw[e];exact h1
def ymd(d:Int):Int×Int×Int:=let y:=yOf d;let r:=mo y 12 (d -ys y);(y,r.2,r.1+1)
theorem WP(h0:0<=d)(h:d<=109572):Gs d=some (ymd d):=by
 obtain⟨y1,y2,y3,y4⟩:=Kq h0 h;have y0:=Lr y1;unfold Gs Dx;rw[oD (Z4 h0),o9,Z4 h,E8,o6];have e0:H8 .i64 1900 (dA .i64 d 366)=1900+d / 366:=by
  have e:dA .i64 d 366=d / 366:=by rw[Ot (by rw[oV h0];unfold jh;omega),oV h0]
  rw[e,dw bg]
 rw[e0];obtain⟨y,hy,hq⟩:=sO (f:=λ(x:Int)=>l9 (qK (H8 IntKind.i64 x 1)) λ(x_1:Int)=>l7 (U2 x_1 d) (some (Sum.inl (H8 IntKind.i64 x 1))) (some (Sum.inr x))) (s:=1900+d / 366)
  (λy=>1900<=y/\y<=yOf d) (λy=>y=yOf d) (λy=>(2200 -y).toNat) (by
   refine⟨o5,?_⟩;have e:∀n:Nat,ys (1900+n)<=366*n:=by
    intro n;induction n with
    |zero=>decide+kernel|succ n ih=>have:=EL (1900+n);have:=Ux (1900+n);have e:(1900:Int)+((n+1:Nat):Int)=1900+n+1:=o5;rw[e];omega
   have e1:=e (d / 366).toNat
   have e2:((d / 366).toNat:Int)=d / 366:=o5;rw[e2]at e1;rcases b0T (yOf d) (1900+d / 366)with hlt|hge
   .have:=Bc (y:=yOf d+1) (y' :=1900+d / 366) o5;omega
   .exact hge) o5 (by
   intro y ⟨hy1,hy2⟩
   try simp only
   rw[dw bg,zg o5 o5,o9];by_cases hle:ys (y+1)<=d
   .refine .inl ⟨y+1,by rw[oD (Z4 hle)],⟨o5,?_⟩,o5⟩;rcases b0T (yOf d) (y+1)with hlt|hge
    .have:=Bc (y:=yOf d+1) (y' :=y+1) o5;omega
    .exact hge
   .refine .inr ⟨y,by rw[pg (dF o5)],?_⟩;rcases b0T y (yOf d)with hlt|hge
    .have:=Bc (y:=y+1) (y' :=yOf d) o5;omega
    .omega)
 rw[hy,o9,hq,zg o5 o5,o9,cu bg];have hs:=EL (yOf d);have hr:=a0t (yOf d);rcases DJ (f:=λ(x:Int×Int)=>l7 (I9 x.2 12) (l9 (lN (yOf d) (H8 IntKind.i64 x.2 1)) λ(x_1:Int)=>l7 (I9 x.1 x_1) (some (Out.rt (yOf d,H8 IntKind.i64 x.2 1,H8 IntKind.i64 x.1 1))) (some (Out.nx (N8 IntKind.i64 x.1 x_1,H8 IntKind.i64 x.2 1)))) (some (Out.ex PUnit.unit))) (s:=(d -ys (yOf d),0))
  (λs=>∃n:Nat,n<=12/\s.2=12 -n/\mo (yOf d) n s.1=mo (yOf d) 12 (d -ys (yOf d))/\0<=s.1/\s.1<rem (yOf d) n/\s.1<=400) (λ_=>False) (λr=>r=ymd d) (λs=>(12 -s.2).toNat)
  ⟨12,o5,A7,rfl,o5,by rw[hr];show d -ys (yOf d)<_;omega,by have:=Ux (yOf d);show d -ys (yOf d)<=400;omega⟩ A7 (by
   rintro⟨r,i⟩ ⟨n,hn,hi,hm,hr0,hrn,hr4⟩;simp only at hi hm hr0 hrn hr4 ⊢;cases n with
   |zero=>simp[rem]at hrn;omega|succ n=>
    have ei:i+1=12 -n:=o5;rw[oD (dY o5),dw bg,ei,xP o5 o5,o9];have hb:=MQ (yOf d) (12 -n);rw[YY (yOf d) n r]at hm;by_cases hlt:r<dim (yOf d) (12 -n)
    .rw[if_pos hlt]at hm;refine .inr (.inr ⟨_,by rw[oD (dY hlt)],?_⟩);rw[dw bg];unfold ymd
     try simp only
     rw[←hm]
    .rw[if_neg hlt]at hm;refine .inl ⟨_,by rw[pg (Y5 o5),cu bg],⟨n,o5,A7,hm,?_,?_,?_⟩,?_⟩
     .simp;omega
     .simp only[rem]at hrn ⊢;omega
     .simp;omega
     .simp;omega)with⟨_,_,hf⟩|⟨r,he,hr⟩
 .exact hf.elim
 .rw[he,o9,kD,hr]
theorem VE(h0:0<=d)(h:d<=109572):EC d=some (ymd d):=by
 obtain⟨y1,y2,y3,y4⟩:=Kq h0 h;have y0:=Lr y1;unfold EC Bl;rw[oD (Z4 h0),o9,Z4 h,E8,o6];obtain⟨⟨r,y⟩,hy,hq⟩:=sO (f:=λ(x:Int×Int)=>l9 (og x.2) λ(x_1:Int)=>l7 (U2 x_1 x.1) (l9 (og x.2) λ(x_2:Int)=>some (Sum.inl (N8 IntKind.i64 x.1 x_2,H8 IntKind.i64 x.2 1))) (some (Sum.inr x))) (s:=(d,1900))
  (λs=>1900<=s.2/\s.2<=yOf d/\s.1=d -ys s.2) (λs=>s=(d -ys (yOf d),yOf d)) (λs=>(2200 -s.2).toNat)
  ⟨A7,by simpa using y1,by(have e:ys 1900=0:=by decide+kernel);simp[e]⟩ A7 (by
   rintro⟨r,y⟩ ⟨h1,h2,h3⟩;simp only at h1 h2 h3 ⊢;have hb:=Ux y;have hs:=EL y;have hm:=Bc h2;have hpos:0<=ys y:=by
     have:=Bc (y:=1900) (y' :=y) h1;have e:ys 1900=0:=by decide+kernel
     omega
   rw[Lu o5,o9];by_cases hle:diy y<=r
   .refine .inl ⟨(r -diy y,y+1),?_,⟨by simp;omega,?_,?_⟩,?_⟩
    .rw[oD (Z4 hle),o9,cu bg,dw bg]
    .simp only;rcases b0T (yOf d) (y+1)with hlt|hge
     .have:=Bc (y:=yOf d+1) (y' :=y+1) o5;omega
     .exact hge
    .simp only;omega
    .simp;omega
   .refine .inr ⟨_,by rw[pg (dF o5)],?_⟩;have e:y=yOf d:=a6j (d:=d) o5 o5 y3 y4;subst e;rw[h3])
 rw[hy,o9,hq]
 try simp only
 have hs:=EL (yOf d);have hr:=a0t (yOf d);obtain⟨⟨r,m⟩,he,hq2⟩:=sO (f:=λ(x:Int×Int)=>l9 (ng (yOf d) x.2) λ(x_1:Int)=>l7 (U2 x_1 x.1) (l9 (ng (yOf d) x.2) λ(x_2:Int)=>some (Sum.inl (N8 IntKind.i64 x.1 x_2,H8 IntKind.i64 x.2 1))) (some (Sum.inr x))) (s:=(d -ys (yOf d),1))
  (λs=>∃n:Nat,n<=12/\s.2=13 -n/\mo (yOf d) n s.1=mo (yOf d) 12 (d -ys (yOf d))/\0<=s.1/\s.1<rem (yOf d) n/\s.1<=400) (λs=>s=mo (yOf d) 12 (d -ys (yOf d))) (λs=>(13 -s.2).toNat)
  ⟨12,o5,A7,rfl,o5,by rw[hr];show d -ys (yOf d)<_;omega,by have:=Ux (yOf d);show d -ys (yOf d)<=400;omega⟩ A7 (by
   rintro⟨r,i⟩ ⟨n,hn,hi,hm,hr0,hrn,hr4⟩;simp only at hi hm hr0 hrn hr4 ⊢;cases n with
   |zero=>simp[rem]at hrn;omega|succ n=>
    have ei:i=12 -n:=o5;subst ei;rw[JB o5 o5,o9];have hb:=MQ (yOf d) (12 -n);rw[YY (yOf d) n r]at hm;by_cases hlt:r<dim (yOf d) (12 -n)
    .rw[if_pos hlt]at hm;exact .inr ⟨_,by rw[pg (dF o5)],hm⟩
    .rw[if_neg hlt]at hm;refine .inl ⟨(r -dim (yOf d) (12 -n),12 -n+1),by rw[oD (Z4 o5),o9,cu bg,dw bg],⟨n,o5,by simp;omega,hm,?_,?_,?_⟩,?_⟩
     .simp;omega
     .simp only[rem]at hrn ⊢;omega
     .simp;omega
     .simp;omega)
 rw[he,o9,hq2];have hb:=a3Z (yOf d) 12 (d -ys (yOf d)) o5 o5 (by rw[hr];omega);have hb2:=MQ (yOf d) (mo (yOf d) 12 (d -ys (yOf d))).2;rw[dw bg];rfl
theorem WG(h0:0<=d)(h:d<=109572):1900<=(ymd d).1/\(ymd d).1<=2199/\1<=(ymd d).2.1/\(ymd d).2.1<=12/\1<=(ymd d).2.2/\(ymd d).2.2<=31:=by
 obtain⟨y1,y2,y3,y4⟩:=Kq h0 h;have y0:=Lr y1;have hs:=EL (yOf d);have hb:=a3Z (yOf d) 12 (d -ys (yOf d)) o5 o5 (by rw[a0t];omega);have hb2:=MQ (yOf d) (mo (yOf d) 12 (d -ys (yOf d))).2;unfold ymd
 try simp only
 omega
end Gt
namespace Go.GP
open Gt
set_option maxRecDepth 100000
def GY(y:Int):Nat->Int
 |0=>0|k+1=>GY y k+dim y ((k:Int)+1)
def b6U(y m d:Int):Int:=ys y+GY y (m -1).toNat+d -1
theorem YZ(y:Int):∀k:Nat,k<=12->28*k<=GY y k/\GY y k<=31*k
 |0,_=>by simp[GY]|k+1,h=>by have:=YZ y k o5;have:=MQ y ((k:Int)+1);unfold GY;omega
theorem c2u{y:Int}(h:1900<=y)(h2:y<=2200):0<=ys y/\ys y<=109573:=by
 have h1:=Lr h;have h3:=Bc h2;have:ys 2200=109573:=by decide
 omega
theorem a1I{y m d:Int}(hy:1900<=y/\y<=2199)(hm:1<=m/\m<=12)(h1:1<=d)(h2:d<=dim y m):zf y m d=some (b6U y m d,0):=by
 have hyb:=c2u hy.1 o5;have hdb:=MQ y m;unfold zf;rw[Y5 hy.1,o6,Y5 hy.2,o6,Y5 hm.1,o6,Y5 hm.2,o6,Y5 h1,o6,xP o5 hm,o9,Y5 h2,o6,o9,Y2,zg o5 o5,o9];have hs:N8 .i64 m 1=m -1:=cu bg;obtain⟨e,k1,k2⟩:=sO (f:=λ(x:Int×Int)=>l7 (I9 x.2 (N8 .i64 m 1)) (l9 (lN y (H8 .i64 x.2 1)) λ(x_1:Int)=>some (.inl (H8 .i64 x.1 x_1,H8 .i64 x.2 1))) (some (.inr x.1)))
  (s:=(ys y,0)) (λx=>∃i:Nat,x=(ys y+GY y i,(i:Int))/\(i:Int)<=m -1) (λe=>e=ys y+GY y (m -1).toNat) (λx=>(m -1 -x.2).toNat) ⟨0,by simp[GY],o5⟩ G8 (by
  rintro x ⟨i,rfl,hi⟩;simp only[hs];by_cases hlt:(i:Int)<m -1
  .have hb:=YZ y i o5;have hd:=MQ y ((i:Int)+1);left;refine⟨(ys y+GY y (i+1),((i+1:Nat):Int)),?_,⟨i+1,rfl,o5⟩,by simp;omega⟩;rw[dY hlt,o7,eP o5,show(((i+1:Nat):Int))=(i:Int)+1 by omega,xP o5 o5,o9,dw bg];simp only[GY];rw[Int.add_assoc]
  .right;have:i=(m -1).toNat:=o5;subst this;exact⟨_,by rw[Y5 o5];rfl,rfl⟩)
 refine(a0d k1 _).trans ?_;have hb:=YZ y (m -1).toNat o5;rw[k2,dw bg,cu bg];rfl
def q1(q:Int)(u:Bool):Int:=l7 u (q+1) q
def sg(q:Int)(neg:Bool):Int:=l7 neg (-q) q
def a6q(r:vU):Prop:=jh r.2.1/\jh r.2.2.1/\jh r.2.2.2
def b3t(t:ax):Prop:=t.2.2.2.length<=200/\∀r∈t.2.2.2,a6q r
abbrev V3:Type:=Int×Int×Int
theorem Qp{α β ρ:Type}(G:β->α->β⊕ρ)(P:ρ->Prop)(hG:∀b a r,G b a= .inr r->P r):∀(l:List α) (b:β) (r:ρ),wP G l b= .inr r->P r
 |[],b,r,h=>by cases h|a::l,b,r,h=>by
  unfold wP at h;cases hg:G b a with
  |inr r' =>rw[hg]at h;simp only at h;cases h;exact hG _ _ _ hg|inl b' =>rw[hg]at h;exact Qp G P hG l b' r h
theorem b3y:∀i:Fin 40,(arF ((i.1:Nat):Int)=0->i.1∈[1,2,3,4,5,6,7,8,9,35,36,37,38,39])/\(arF ((i.1:Nat):Int)=1->i.1∈[10,25,31,32,33,34])/\(arF ((i.1:Nat):Int)=2->i.1∈[11,12,13,14,15,16,17,18,19,20,21,22,23,24,27,28,29,30])/\(arF ((i.1:Nat):Int)=3->i.1=26):=by decide+kernel
variable {k:Int}
theorem b6J(h:k<1\/39<k):arF k=-1:=by
 unfold arF kQ;rw[O5 (show k≠10 by omega),O5 (show k≠25 by omega),O5 (show k≠31 by omega),O5 (show k≠32 by omega),O5 (show k≠33 by omega),O5 (show k≠34 by omega),O5 (show k≠26 by omega)];rcases h with h|h
 .rw[dF (show k<1 by omega),dF (show k<35 by omega),dF (show k<11 by omega)];rfl
 .rw[Z4 (show 1<=k by omega),dF (show 9<k by omega),Z4 (show 35<=k by omega),dF (show 39<k by omega),Z4 (show 11<=k by omega),dF (show 30<k by omega)];rfl
theorem c2x(h:arF k≠-1):∃i:Fin 40,k=((i.1:Nat):Int):=by
 by_cases g:1<=k/\k<=39
 .exact⟨⟨k.toNat,o5⟩,by simp;omega⟩
 .exact absurd (b6J o5) h
def XT.node:XT->Int×Int
 | .l0 n=>n| .l1 n _=>n| .l2 n _ _=>n| .l3 n _ _ _=>n
def rtI(t:XT)(o:Nat):Nat:=o+t.size -1
def At(e:List (Int×Int))(S:List Int)(t:XT)(o:Nat):Prop:=∃pre suf S1 S2,e=pre++t.post++suf/\S=S1++t.sts o++S2/\pre.length=o/\S1.length=o
variable {n:Nat}
theorem a5p{σ ε:Type}{f:σ->Option (σ⊕ε)}{s s' :σ}(h:f s=some (.inl s')):yK f (n+1) s=yK f n s' :=by rw[yK,h]
theorem QA{σ ε:Type}{f:σ->Option (σ⊕ε)}{s:σ}{e:ε}(h:f s=some (.inr e)):yK f (n+1) s=some e:=by rw[yK,h]
abbrev VSt:Type:=V3×List V3×Int
structure VStep (ops:List Int) (ev:Int->Option (V3×Int)) (pad:List V3->List V3) (f:VSt->Option (Out VSt (V3×List V3) (V3×Int))):Prop where
 step:∀(l:List V3) (c:Int) (r:V3×Int),ops[l.length]? =some c->ev c=some r->f ((0,0,0),pad l,(l.length:Int))=some (l7 (D8 r.2 0) (.nx ((0,0,0),pad (l++[r.1]),((l.length+1:Nat):Int))) (.rt ((0,0,0),r.2)))
 stop:∀(l:List V3),l.length=ops.length->f ((0,0,0),pad l,(l.length:Int))=some (.ex ((0,0,0),l))
section
variable {ev:Int->Option (V3×Int)} {pad:List V3->List V3} {f:VSt->Option (Out VSt (V3×List V3) (V3×Int))}
theorem v0(h:VStep [] ev pad f):P7 f ((0,0,0),pad [],0)=some (.inl ((0,0,0),[])):=by obtain⟨k,hk⟩:∃k,aG=k+1:=⟨aG -1,by unfold aG;omega⟩;unfold P7;rw[hk,gK,show f ((0,0,0),pad [],0)=some (.ex ((0,0,0),[]))from h.stop [] rfl]
theorem v1{c:Int}{r:V3×Int}(h:VStep [c] ev pad f)(h1:ev c=some r):P7 f ((0,0,0),pad [],0)=some (l7 (D8 r.2 0) (.inl ((0,0,0),[r.1])) (.inr ((0,0,0),r.2))):=by
 obtain⟨k,hk⟩:∃k,aG=k+1+1:=⟨aG -2,by unfold aG;omega⟩;unfold P7;rw[hk,gK,show f ((0,0,0),pad [],0)=_ from h.step [] c r rfl h1];cases D8 r.2 0
 .rfl
 .simp only[o7];rw[gK,show f ((0,0,0),pad ([]++[r.1]),(([].length+1:Nat):Int))=_ from h.stop [r.1] rfl]
theorem v2{c d:Int}{r q:V3×Int}(h:VStep [c,d] ev pad f)(h1:ev c=some r)(h2:ev d=some q):P7 f ((0,0,0),pad [],0)=some (l7 (D8 r.2 0) (l7 (D8 q.2 0) (.inl ((0,0,0),[r.1,q.1])) (.inr ((0,0,0),q.2))) (.inr ((0,0,0),r.2))):=by
 obtain⟨k,hk⟩:∃k,aG=k+1+1+1:=⟨aG -3,by unfold aG;omega⟩;unfold P7;rw[hk,gK,show f ((0,0,0),pad [],0)=_ from h.step [] c r rfl h1];cases D8 r.2 0
 .rfl
 .simp only[o7];rw[gK,show f ((0,0,0),pad ([]++[r.1]),(([].length+1:Nat):Int))=_ from h.step [r.1] d q rfl h2];cases D8 q.2 0
  .rfl
  .simp only[o7];rw[gK,show f ((0,0,0),pad ([r.1]++[q.1]),(([r.1].length+1:Nat):Int))=_ from h.stop [r.1,q.1] rfl]
end
theorem b3z(h:arF k=3):k=26:=by obtain⟨i,rfl⟩:=c2x (by rw[h];decide);rw[(b3y i).2.2.2 h];rfl
theorem a6x{e:List (Int×Int)}{t:XT}(h:oK e= .inr t):At e (t.sts 0) t 0/\e.length<=48/\e.length=t.size/\N8 .i64 (x8 e) 1=(rtI t 0:Int):=by
 obtain⟨hp,h48⟩:=rY h;have hsz:e.length=t.size:=by rw[hp,XT.post_len]
 have hpos:=t.size_pos;refine⟨⟨[],[],[],[],by simp[←hp],A7,rfl,rfl⟩,h48,hsz,?_⟩;rw[cu (by unfold jh x8;omega)];unfold x8 rtI;omega
variable {l:Z7}{i:Nat}{s:J8}
theorem a1a(h:(jA l).1=0)(hs:l.2.2[i]? =some s):(EX l i s).1=0:=by
 unfold jA at h;cases h1:D8 (Ae l).1 0<;>rw[h1]at h
 .simp only[o6]at h;rw[O7 h]at h1;cases h1
 cases h2:D8 (yD l).1 0<;>rw[h2]at h
 .simp only[o7,o6]at h;rw[O7 h]at h2;cases h2
 simp only[o7]at h;unfold Lh at h;cases h3:I9 4 (x8 l.2.2)<;>rw[h3]at h
 case true=>exact absurd (show(4:Int)=0 from h) C9
 simp only[o6]at h;have hi:=(ai.1 hs).1;cases hf:dV l.2.2.length (Hz l)with
 |some r=>
  rw[hf]at h;simp only at h;obtain⟨j,hj,hp⟩:=mG hf;unfold Hz at hp;cases hq:l.2.2[j]? with
  |none=>rw[hq]at hp;cases hp|some q=>
   rw[hq]at hp;simp only at hp;unfold MS at hp;exact absurd h (by cases he:D8 (EX l j q).1 0<;>rw[he]at hp<;>cases hp;simp only;intro h4;rw[O7 h4]at he;cases he)
 |none=>
  have hn:=rD hf i hi;unfold Hz at hn;rw[hs]at hn;simp only at hn;unfold MS at hn;cases he:D8 (EX l i s).1 0<;>rw[he]at hn
  .cases hn
  exact iK.1 he
theorem Yh(h:(jA l).1=0)(hs:l.2.2[i]? =some s):Jt l i s.2.1=false/\(QG l s).1=0:=by
 have he:=a1a h hs;unfold EX at he;cases g1:iU s.1<;>rw[g1]at he
 .exact absurd (show(2:Int)=0 from he) C9
 cases g2:zX l 3 i s.1<;>rw[g2]at he
 case true=>exact absurd (show(7:Int)=0 from he) C9
 cases g3:Jt l i s.2.1<;>rw[g3]at he
 case true=>exact absurd (show(6:Int)=0 from he) C9
 cases g4:I9 12 (x8 s.2.2.1)<;>rw[g4]at he
 case true=>exact absurd (show(4:Int)=0 from he) C9
 cases g5:I9 12 (x8 s.2.2.2.1)<;>rw[g5]at he
 case true=>exact absurd (show(4:Int)=0 from he) C9
 exact⟨rfl,he⟩
theorem gG{α:Type}{l:List α}(h:I9 (n:Int) (x8 l)=false):l.length<=n:=by rw[oO]at h;unfold x8 at h;omega
def LX(r:aH):Bool:=l7 (I9 80 (x8 r.1)) true (l7 (I9 80 (x8 r.2.2.2.2.2.2.2)) true (l7 (I9 50 (x8 r.2.2.2.2.2.1)) true (I9 50 (x8 r.2.2.2.2.2.2.1))))
def smS(s:J8):Bool:=l7 (I9 80 (x8 s.1)) false (l7 (I9 14 (x8 s.2.2.1)) false (l7 (I9 14 (x8 s.2.2.2.1)) false (l7 (I9 60 (x8 s.2.2.2.2)) false
 (l7 (s.2.2.1.any λf=>I9 80 (x8 f.1)) false (l7 (s.2.2.2.1.any λf=>I9 80 (x8 f.1)) false (I4 (s.2.2.2.2.any LX)))))))
theorem UG{fs:List dL}(h:fs.length<=1000000):P7 (λ(x:Int)=>l7 (I9 x (x8 fs)) (l9 (O0 fs x) λ(x_1:dL)=>l7 (I9 80 (x8 x_1.1)) (some (Out.rt false)) (some (Out.nx (H8 IntKind.i64 x 1)))) (some (Out.ex PUnit.unit))) 0=some (bif fs.any (λf=>I9 80 (x8 f.1))then .inr false else .inl PUnit.unit):=by
 refine Tf fs (λf=>I9 80 (x8 f.1)) false PUnit.unit h (λi a ha=>?_) ?_
 .simp only[U5 ha,o7,P5,ha,o9];cases I9 80 (x8 a.1)<;>rfl
 .rw[Y6];rfl
theorem Xb(s:J8):yC s=some (smS s):=by
 unfold yC smS;cases h1:I9 80 (x8 s.1)
 case true=>rfl
 cases h2:I9 14 (x8 s.2.2.1)
 case true=>rfl
 cases h3:I9 14 (x8 s.2.2.2.1)
 case true=>rfl
 cases h4:I9 60 (x8 s.2.2.2.2)
 case true=>rfl
 have l2:=gG (n:=14) h2;have l3:=gG (n:=14) h3;have l4:=gG (n:=60) h4;simp only[o6,o9,Y2];rw[UG o5,UG o5,o9];cases s.2.2.1.any λf=>I9 80 (x8 f.1)
 case true=>rfl
 simp only[cond_false,Y2,o6,o9];cases s.2.2.2.1.any λf=>I9 80 (x8 f.1)
 case true=>rfl
 simp only[cond_false,Y2,o6];refine X3 (Tf s.2.2.2.2 LX false PUnit.unit o5 (λi a ha=>?_) ?_) ?_
 rotate_left 2
 .cases s.2.2.2.2.any LX<;>rfl
 .simp only[U5 ha,o7,P5,ha,o9];unfold LX;cases I9 80 (x8 a.1)<;>cases I9 80 (x8 a.2.2.2.2.2.2.2)<;>cases I9 50 (x8 a.2.2.2.2.2.1)<;>cases I9 50 (x8 a.2.2.2.2.2.2.1)<;>rfl
 .rw[Y6];rfl
def ScI(s:J8):Prop:=∀r∈s.2.2.2.2,(∀n∈r.2.2.2.2.2.1,jh n.2)/\∀n∈r.2.2.2.2.2.2.1,jh n.2
theorem Ff{a b:Bool}(h:l7 a false b=true):a=false/\b=true:=by cases a<;>cases b<;>first|exact⟨rfl,rfl⟩|cases h
theorem LC{α:Type}{l:List α}{p:α->Bool}(h:l.any p=false):∀a∈l,p a=false:=by
 intro a ha;rw[dh]at h;have:=h a ha;cases hp:p a
 .rfl
 .exact absurd hp this
theorem b4L(h:smS s=true)(hI:ScI s):SmS s:=by
 unfold smS at h;obtain⟨h1,h⟩:=Ff h;obtain⟨h2,h⟩:=Ff h;obtain⟨h3,h⟩:=Ff h;obtain⟨h4,h⟩:=Ff h;obtain⟨h5,h⟩:=Ff h;obtain⟨h6,h⟩:=Ff h;have h7:s.2.2.2.2.any LX=false:=by cases hq:s.2.2.2.2.any LX<;>rw[hq]at h<;>first|rfl|cases h
 refine⟨by have:=gG (n:=80) h1;omega,gG (n:=14) h2,gG (n:=14) h3,gG (n:=60) h4,⟨λf hf=>?_,λf hf=>?_⟩,λr hr=>?_⟩
 .have:=gG (n:=80) (LC h5 f hf);omega
 .have:=gG (n:=80) (LC h6 f hf);omega
 .have hl:=LC h7 r hr;unfold LX at hl;cases g1:I9 80 (x8 r.1)<;>rw[g1]at hl
  case true=>cases hl
  cases g2:I9 80 (x8 r.2.2.2.2.2.2.2)<;>rw[g2]at hl
  case true=>cases hl
  cases g3:I9 50 (x8 r.2.2.2.2.2.1)<;>rw[g3]at hl
  case true=>cases hl
  have k1:=gG (n:=80) g1;have k2:=gG (n:=80) g2;exact⟨⟨o5,o5,(hI r hr).1,(hI r hr).2⟩,gG (n:=50) g3,gG (n:=50) hl⟩
def XC(e:U6):Bool:=l7 (I9 80 (x8 e.1)) true (l7 (I9 20 (x8 e.2)) true (e.2.any λm=>I9 80 (x8 m)))
def tG(b:Int)(t:ax):Int⊕Bool:=l7 (I9 80 (x8 t.1)) (.inr false) (l7 (I9 150 (H8 .i64 b (x8 t.2.2.2))) (.inr false) (.inl (H8 .i64 b (x8 t.2.2.2))))
def sG(b:Int)(s:J8):Int⊕Bool:=l7 (I9 60 (H8 .i64 b (x8 s.2.2.2.2))) (.inr false) (l7 (smS s) (.inl (H8 .i64 b (x8 s.2.2.2.2))) (.inr false))
def smL(l:Z7):Bool:=l7 (I9 9 (x8 l.1)) false (l7 (I9 9 (x8 l.2.1)) false (l7 (I9 5 (x8 l.2.2)) false (l7 (l.1.any XC) false
 (match wP tG l.2.1 0 with| .inr _=>false| .inl _=>match wP sG l.2.2 0 with| .inr _=>false| .inl _=>true))))
theorem b6q:∀(b:Int) (t:ax) (r:Bool),tG b t= .inr r->r=false:=by intro b t r h;unfold tG at h;cases g0:I9 80 (x8 t.1)<;>cases g:I9 150 (H8 .i64 b (x8 t.2.2.2))<;>simp only[g0,g,o7,o6]at h<;>cases h<;>rfl
theorem b4J:∀(b:Int) (s:J8) (r:Bool),sG b s= .inr r->r=false:=by intro b s r h;unfold sG at h;cases g:I9 60 (H8 .i64 b (x8 s.2.2.2.2))<;>cases g2:smS s<;>simp only[g,g2,o7,o6]at h<;>cases h<;>rfl
theorem Sv(l:Z7):vS l=some (smL l):=by
 unfold vS smL;cases h1:I9 9 (x8 l.1)
 case true=>rfl
 cases h2:I9 9 (x8 l.2.1)
 case true=>rfl
 cases h3:I9 5 (x8 l.2.2)
 case true=>rfl
 have l1:=gG (n:=9) h1;have l2:=gG (n:=9) h2;have l3:=gG (n:=5) h3;simp only[o6,o9,Y2];refine X3 (Tf l.1 XC false PUnit.unit o5 (λi a ha=>?_) ?_) ?_
 .simp only[U5 ha,o7,P5,ha,o9];unfold XC;cases I9 80 (x8 a.1)
  case true=>rfl
  cases h5:I9 20 (x8 a.2)
  case true=>rfl
  have l5:=gG (n:=20) h5;simp only[o6];refine X3 (Tf a.2 (λm=>I9 80 (x8 m)) false PUnit.unit o5 (λj m hm=>?_) ?_) ?_
  .simp only[U5 hm,o7,P5,hm,o9];cases I9 80 (x8 m)<;>rfl
  .rw[Y6];rfl
  .cases a.2.any λm=>I9 80 (x8 m)<;>rfl
 .rw[Y6];rfl
 cases l.1.any XC
 case true=>rfl
 simp only[cond_false,Y2,o6];apply Np l.2.1 tG (λb i=>((b,i):Int×Int)) (λ_=>PUnit.unit) (λ_ _=>True) 0 o5 trivial
 .intro i t b hi hi' _;refine⟨?_,λ_ _=>trivial⟩;simp only[U5 hi,o7,P5,hi,o9];unfold tG;rw[eP o5];cases I9 80 (x8 t.1)<;>cases I9 150 (H8 .i64 b (x8 t.2.2.2))<;>rfl
 .intro b _;rw[Y6];rfl
 .intro _;cases ht:wP tG l.2.1 0 with
  |inr r=>rw[Qp tG (λr=>r=false) b6q _ _ _ ht];rfl|inl b=>
   simp only[Y2];apply Np l.2.2 sG (λb i=>((b,i):Int×Int)) (λ_=>PUnit.unit) (λ_ _=>True) 0 o5 trivial
   .intro i s b hi hi' _;refine⟨?_,λ_ _=>trivial⟩;simp only[U5 hi,o7,P5,hi,o9,Xb];unfold sG;rw[eP o5];cases I9 60 (H8 .i64 b (x8 s.2.2.2.2))<;>cases smS s<;>rfl
   .intro b _;rw[Y6];rfl
   .intro _;cases hs:wP sG l.2.2 0 with
    |inr r=>rw[Qp sG (λr=>r=false) b4J _ _ _ hs];rfl|inl b=>rfl
structure WfL (l:Z7):Prop where
 rl:∀t∈l.2.1,t.2.2.2.length<=4611686018427387904
 ri:∀t∈l.2.1,∀r∈t.2.2.2,a6q r
 sl:∀s∈l.2.2,s.2.2.2.2.length<=4611686018427387904
 si:∀s∈l.2.2,ScI s
theorem a2V:∀(L:List ax) (b b' :Int),0<=b->b<=150->(∀t∈L,t.2.2.2.length<=4611686018427387904)->wP tG L b= .inl b' ->∀t∈L,t.1.length<=80/\t.2.2.2.length<=150
 |[],_,_,_,_,_,_=>by simp|t::L,b,b',h0,h1,hw,h=>by
  have hwt:=hw t A7;have ha:H8 .i64 b (x8 t.2.2.2)=b+x8 t.2.2.2:=dw (by unfold jh x8;omega);unfold wP tG at h;rw[ha]at h;cases g0:I9 80 (x8 t.1)<;>rw[g0]at h
  case true=>cases h
  cases g1:I9 150 (b+x8 t.2.2.2)<;>rw[g1]at h
  case true=>cases h
  rw[oO]at g1;intro x hx;rcases x9.1 hx with rfl|hx
  .exact⟨gG (n:=80) g0,by unfold x8 at g1;omega⟩
  .exact a2V L (b+x8 t.2.2.2) b' (by unfold x8;omega) g1 (λq hq=>hw q (by simp[hq])) h x hx
theorem a2F:∀(L:List J8) (b b' :Int),0<=b->b<=60->(∀s∈L,s.2.2.2.2.length<=4611686018427387904)->wP sG L b= .inl b' ->∀s∈L,smS s=true
 |[],_,_,_,_,_,_=>by simp|s::L,b,b',h0,h1,hw,h=>by
  have hwt:=hw s A7;have ha:H8 .i64 b (x8 s.2.2.2.2)=b+x8 s.2.2.2.2:=dw (by unfold jh x8;omega);unfold wP sG at h;rw[ha]at h;cases g1:I9 60 (b+x8 s.2.2.2.2)<;>rw[g1]at h
  case true=>cases h
  cases g2:smS s<;>rw[g2]at h
  case false=>cases h
  rw[oO]at g1;intro x hx;rcases x9.1 hx with rfl|hx
  .exact g2
  .exact a2F L (b+x8 s.2.2.2.2) b' (by unfold x8;omega) g1 (λq hq=>hw q (by simp[hq])) h x hx
theorem a9g(h:smL l=true)(hW:WfL l):SmL l/\∀t∈l.2.1,b3t t:=by
 unfold smL at h;obtain⟨h1,h⟩:=Ff h;obtain⟨h2,h⟩:=Ff h;obtain⟨h3,h⟩:=Ff h;obtain⟨h4,h⟩:=Ff h;have l1:=gG (n:=9) h1;have l2:=gG (n:=9) h2;have l3:=gG (n:=5) h3;cases ht:wP tG l.2.1 0 with
 |inr r=>rw[ht]at h;cases h|inl b=>
  rw[ht]at h;simp only at h;cases hs:wP sG l.2.2 0 with
  |inr r=>rw[hs]at h;cases h|inl b' =>
   have T:=a2V l.2.1 0 b o5 o5 hW.rl ht;have S:=a2F l.2.2 0 b' o5 o5 hW.sl hs;refine⟨⟨⟨o5,o5,o5⟩,λe he=>?_,λt ht=>by have:=(T t ht).1;omega,λs hs=>b4L (S s hs) (hW.si s hs)⟩,λt ht=>⟨by have:=(T t ht).2;omega,hW.ri t ht⟩⟩;have hl:=LC h4 e he;unfold XC at hl;cases g1:I9 80 (x8 e.1)<;>rw[g1]at hl
   case true=>cases hl
   cases g2:I9 20 (x8 e.2)<;>rw[g2]at hl
   case true=>cases hl
   have k1:=gG (n:=80) g1;exact⟨o5,λm hm=>by have:=gG (n:=80) (LC hl m hm);omega⟩
theorem a0n:reachBytes<=4611686018427387904:=by decide
theorem b3q(h:wf c4F l):WfL l:=by
 refine⟨λt ht=>?_,λt ht r hr=>?_,λs hs=>?_,λs hs r hr=>⟨λn hn=>?_,λn hn=>?_⟩⟩
 .have:=(h.2.1.2 t ht).2.2.2.1;exact aV this a0n
 .have:=(h.2.1.2 t ht).2.2.2.2 r hr;exact⟨WF this.2.1,WF this.2.2.1,WF this.2.2.2⟩
 .have:=(h.2.2.2 s hs).2.2.2.2.1;exact aV this a0n
 .have:=(h.2.2.2 s hs).2.2.2.2.2 r hr;exact WF (this.2.2.2.2.2.1.2 n hn).2
 .have:=(h.2.2.2 s hs).2.2.2.2.2 r hr;exact WF (this.2.2.2.2.2.2.1.2 n hn).2
theorem GZ{sg:S9}{n:Int×Int}{ops:List (Int×Int)}{x:Int×Int}(h:DR sg n ops i= .inl x):x.2≠0:=by
 unfold DR at h;split at h
 .cases h
 .rename_i h0;cases h;exact h0
theorem AP{sg:S9} :∀(t:XT) (o:Nat) {x:Int×Int},mf sg t o= .inl x->x.2≠0
 | .l0 n,o,x,h=>GZ h| .l1 n a,o,x,h=>by
  unfold mf at h;cases ha:mf sg a o with
  |inl e=>rw[ha]at h;cases h;exact AP a o ha|inr ta=>rw[ha]at h;exact GZ h
 | .l2 n a b,o,x,h=>by
  unfold mf at h;cases ha:mf sg a o with
  |inl e=>rw[ha]at h;cases h;exact AP a o ha|inr ta=>
   rw[ha]at h;simp only at h;cases hb:mf sg b (o+a.size)with
   |inl e=>rw[hb]at h;cases h;exact AP b _ hb|inr tb=>rw[hb]at h;exact GZ h
 | .l3 n a b c,o,x,h=>by
  unfold mf at h;cases ha:mf sg a o with
  |inl e=>rw[ha]at h;cases h;exact AP a o ha|inr ta=>
   rw[ha]at h;simp only at h;cases hb:mf sg b (o+a.size)with
   |inl e=>rw[hb]at h;cases h;exact AP b _ hb|inr tb=>
    rw[hb]at h;simp only at h;cases hc:mf sg c (o+a.size+b.size)with
    |inl e=>rw[hc]at h;cases h;exact AP c _ hc|inr tc=>rw[hc]at h;exact GZ h
theorem WB(h:(jA l).1=0)(hs:l.2.2[i]? =some s){k:Nat}{r:aH}(hr:s.2.2.2.2[k]? =some r):PH s (uT l s) k r=0:=by
 have hp:=(Yh h hs).2;unfold QG at hp;cases h1:zl l s with
 |some q=>rw[h1]at hp;exact absurd hp (Ji h1)|none=>
  rw[h1]at hp;simp only at hp;cases h2:dV s.2.2.2.2.length (VR l s)with
  |some q=>
   rw[h2]at hp;obtain⟨j,hj,hq⟩:=mG h2;unfold VR at hq;cases h3:s.2.2.2.2[j]? with
   |none=>rw[h3]at hq;cases hq|some q2=>rw[h3]at hq;exact absurd hp (Ql hq)
  |none=>
   have hn:=rD h2 k (ai.1 hr).1;unfold VR at hn;rw[hr]at hn;simp only at hn;unfold UC at hn;cases he:D8 (PH s (uT l s) k r) 0<;>rw[he]at hn
   .cases hn
   .exact iK.1 he
theorem MW{ρ:Type}{p:Nat->Option ρ}(h:∀r,dV n p≠some r):∀i,i<n->p i=none:=by
 cases hf:dV n p with
 |some r=>exact absurd hf (h r)|none=>exact rD hf
theorem Xo{k i:Int}{r:Int×Int}(h:MS k i r=none):r.1=0:=by
 unfold MS at h;cases he:D8 r.1 0<;>rw[he]at h
 .cases h
 .exact iK.1 he
end Go.GP
namespace Gt
open Go Go.GP
variable {n:Int}
theorem b0O(h:jh n):Fa n=some (Lib.itoa n):=by unfold Fa;rw[if_pos (show -9223372036854775808<=n/\n<=9223372036854775807 from h)]
theorem XZ{s:List UInt8}{c:Nat}(h:c<=1000000)(hs:s.length<=1000000):uB s (c:Int)=some (Lib.repeatL s c):=by
 unfold uB
 have:s.length*c<=1000000*1000000:=Nat.mul_le_mul hs h;rw[if_pos ⟨o5,o5,by rw[I7];omega⟩,I7]
theorem b9z(x:UInt8)(c:Nat):Lib.repeatL [x] c=List.replicate c x:=by have:=Lib.repeatL_replicate x 1 c;simpa using this
theorem a0Z{d:Int}(h0:0<=d)(h:d<10):b2o (wrap .u8 (H8 .u64 48 d))=UInt8.ofNat (48+d.toNat):=by
 rw[H_ (by unfold U64;omega)];have e:wrap .u8 (48+d)=((48+d.toNat:Nat):Int):=by unfold wrap IntKind.wrap;simp[IntKind.signed,IntKind.bits];omega
 rw[e];unfold b2o;rw[I7]
theorem b2z(n:Int):n_ [n]=[b2o n]:=rfl
theorem u_:∀(k u:Nat),u<k->u<18446744073709551616->xE k (u:Int)=some (Lib.decDigits u)
 |0,u,h,_=>by omega|k+1,u,h,hu=>by
  show zG (xE k) (u:Int)=_;unfold zG;by_cases h10:u<10
  .try simp only[b2z]
   rw[oD (dY o5),a0Z o5 o5,Lib.decDigits,dif_pos h10,I7]
  .have e1:(u:Int).tdiv 10=((u / 10:Nat):Int):=by rw[oV o5];omega
   have e2:jc (u:Int) 10=((u % 10:Nat):Int):=by rw[Bh o5];omega
   try simp only[b2z]
   rw[pg (Y5 o5),a7d (by rw[e1];unfold U64;omega)];rw[e1,u_ k (u / 10) o5 o5,o9,e2,a0Z o5 o5,O8,o9,I7]
   .congr 1
    conv=>rhs;rw[Lib.decDigits,dif_neg h10]
   .have:=Lib.nDigits_le20 (u / 10) o5;rw[Lib.decDigits_length];simp;omega
theorem Iu(h:U64 n):CE n=some (Lib.decDigits n.toNat):=by unfold U64 at h;have:=u_ aG n.toNat (by unfold aG;omega) o5;rw[gX h.1]at this;exact this
theorem Jo(h:jh n):(Lib.itoa n).length<=21:=Lib.itoa_length_le n h.1 h.2
variable {u:Nat}
theorem qx(h:u<18446744073709551616):1<=(Lib.decDigits u).length/\(Lib.decDigits u).length<=20:=by rw[Lib.decDigits_length];exact⟨Lib.nDigits_pos u,Lib.nDigits_le20 u h⟩
theorem uQ(h:jh n):nJ n=some (Lib.itoa n):=by
 unfold jh at h;unfold nJ Lib.itoa;by_cases hn:n<0
 .rw[oD (dY hn),if_pos hn,dw bg,cu bg];rw[show wrap .u64 (0 -(n+1))=0 -(n+1)from PV (by unfold U64;omega),H_ (by unfold U64;omega),Iu (by unfold U64;omega),o9];have e:(0 -(n+1)+1).toNat=n.natAbs:=o5;rw[e,O8,o9]
  .rfl
  .have:=(qx (u:=n.natAbs) o5).2;simp;omega
 .rw[pg (Y5 o5),if_neg hn,show wrap .u64 n=n from PV (by unfold U64;omega),Iu (by unfold U64;omega),o9]
theorem jQ(h:jh n):mX n=some (Lib.itoa n):=by unfold mX;rw[b0O h];rfl
def uK(u k:Nat):List UInt8:=
 let d:=List.replicate (k+1 -(Lib.decDigits u).length) 48++Lib.decDigits u
 d.take (d.length -k)++46::d.drop (d.length -k)
def pY(n:Int)(k:Nat):List UInt8:=if n<0 then 45::uK n.natAbs k else uK n.natAbs k
variable {k:Nat}
theorem a1F(hu:u<18446744073709551616)(hk:k<=9):(uK u k).length<=31:=by have:=qx hu;unfold uK;simp;omega
theorem Dc(h:jh n)(hk:k<=9):(pY n k).length<=32:=by unfold jh at h;have:=a1F (u:=n.natAbs) (k:=k) o5 hk;unfold pY;split<;>simp<;>omega
variable {d:List UInt8}
theorem a6H(h1:k<d.length)(h2:d.length<=100):
  fP d 0 (N8 .i64 (x8 d) (k:Int))=some (d.take (d.length -k))/\fP d (N8 .i64 (x8 d) (k:Int)) (x8 d)=some (d.drop (d.length -k)):=by
 have e:N8 .i64 (x8 d) (k:Int)=((d.length -k:Nat):Int):=by rw[cu (by unfold jh x8;omega)];unfold x8;omega
 rw[e];exact⟨by rw[zC o5 o5];simp,by rw[qF o5 o5];simp⟩
theorem a4E{d p:List UInt8}(h1:k<d.length)(h2:d.length<=100)(hp:p.length<=100):
  (l9 (fP d 0 (N8 .i64 (x8 d) (k:Int))) λx=>l9 (U4 p x) λy=>l9 (U4 y [46]) λz=>l9 (fP d (N8 .i64 (x8 d) (k:Int)) (x8 d)) λt=>l9 (U4 z t) λx=>some x)
   =some (p++(d.take (d.length -k)++46::d.drop (d.length -k))):=by
 obtain⟨c1,c2⟩:=a6H h1 h2;rw[c1,o9,O8 G8,o9,O8 G8,o9,c2,o9,O8 G8,o9];simp
theorem gQ(h:jh n)(hk:1<=k/\k<=9):bn n (k:Int)=some (pY n k):=by
 have hI:=h;unfold jh at h;have ek:Ag 0 (Ah (k:Int) 9)=(k:Int):=by unfold Ag Ah;split<;>split<;>omega
 unfold bn jg;rw[o9,ek,jQ hI,o9,pg (O5 o5)];have hd:=qx (u:=n.natAbs) o5;have rest:∀(d p:List UInt8),1<=d.length->d.length<=20->p.length<=1->
   l7 (U2 (x8 d) (k:Int))
    (l9 (uB [48] (N8 .i64 (H8 .i64 (k:Int) 1) (x8 d))) λx3=>l9 (U4 x3 d) λx4=>l9 (fP x4 0 (N8 .i64 (x8 x4) (k:Int))) λx5=>l9 (U4 p x5) λx6=>l9 (U4 x6 [46]) λx7=>
     l9 (fP x4 (N8 .i64 (x8 x4) (k:Int)) (x8 x4)) λx=>l9 (U4 x7 x) λx=>some x)
    (l9 (fP d 0 (N8 .i64 (x8 d) (k:Int))) λx=>l9 (U4 p x) λy=>l9 (U4 y [46]) λz=>l9 (fP d (N8 .i64 (x8 d) (k:Int)) (x8 d)) λt=>l9 (U4 z t) λx=>some x)
   =some (p++(let e:=List.replicate (k+1 -d.length) 48++d;e.take (e.length -k)++46::e.drop (e.length -k))):=by
  intro d p h1 h2 h3;by_cases hle:d.length<=k
  .rw[oD (Z4 (by unfold x8;omega))];have e:N8 .i64 (H8 .i64 (k:Int) 1) (x8 d)=((k+1 -d.length:Nat):Int):=by
    rw[dw bg,cu (by unfold jh x8;omega)];unfold x8;omega
   rw[e,XZ o5 A7,b9z,o9,O8 G8,o9];exact a4E G8 G8 o5
  .rw[pg (dF (by unfold x8;omega)),a4E o5 o5 o5];have:k+1 -d.length=0:=o5;rw[this];simp
 unfold Lib.itoa pY uK;by_cases hn:n<0
 .rw[if_pos hn,if_pos hn,oD (dY hn)];have e:fP (45::Lib.decDigits n.natAbs) 1 (x8 (45::Lib.decDigits n.natAbs))=some (Lib.decDigits n.natAbs):=by
   rw[qF o5 G8];simp
  rw[e,o9];exact rest (Lib.decDigits n.natAbs) [45] hd.1 hd.2 A7
 .rw[if_neg hn,if_neg hn,pg (Y5 o5)];have e:n.toNat=n.natAbs:=o5;rw[e];exact rest (Lib.decDigits n.natAbs) [] hd.1 hd.2 A7
theorem b0y :∀(h:d=Lib.decDigits u),∀c∈d,48<=c.toNat/\c.toNat<=57:=by intro h c hc;subst h;rw[Lib.decDigits_eq]at hc;obtain⟨t,_,rfl⟩:=X7.1 hc;unfold Lib.dg;have:u / 10^(Lib.nDigits u -1 -t) % 10<10:=Nat.mod_lt _ o5;generalize u / 10^(Lib.nDigits u -1 -t) % 10=r at this;simp;omega
theorem Jd{c:UInt8}(hc:c∈Lib.decDigits u):48<=c.toNat/\c.toNat<=57:=b0y rfl c hc
theorem VC(h:∀c∈d,48<=c.toNat/\c.toNat<=57)(h1:1<=d.length):AA d=some (d,false):=by
 unfold AA;rw[oD (dY (by unfold x8;omega))];match d,h1 with
 |c::r,_=>have e:sat (c::r) 0=some (c.toNat:Int):=rfl;have:=h c A7;rw[e,o9,pg (O5 o5)]
theorem VD :AA (45::d)=some (d,true):=by unfold AA;rw[oD (dY (by unfold x8;simp))];have e:sat (45::d) 0=some (45:Int):=rfl;rw[e,o9,oD (O7 rfl),qF o5 G8,o9];simp
theorem b1l(hk:k<=100)(hd:d.length<=100):
  dC (λ(x_3:List UInt8)=>l7 (U2 (x8 x_3) (k:Int)) (l9 (U4 [48] x_3) λ(x:List UInt8)=>some (Sum.inl x)) (some (Sum.inr x_3))) d=some (List.replicate (k+1 -d.length) 48++d):=by
 obtain⟨e,h1,h2⟩:=sO (f:=λ(x_3:List UInt8)=>l7 (U2 (x8 x_3) (k:Int)) (l9 (U4 [48] x_3) λ(x:List UInt8)=>some (Sum.inl x)) (some (Sum.inr x_3))) (s:=d)
  (λs=>s.length<=102/\List.replicate (k+1 -s.length) 48++s=List.replicate (k+1 -d.length) 48++d) (λe=>e=List.replicate (k+1 -d.length) 48++d) (λs=>k+1 -s.length) ⟨o5,rfl⟩ o5 (by
   intro s ⟨hs,he⟩;by_cases hle:s.length<=k
   .refine .inl ⟨48::s,?_,⟨by simp;omega,?_⟩,by simp;omega⟩
    .rw[oD (Z4 (by unfold x8;omega)),O8 G8];rfl
    .rw[←he];have e1:k+1 -s.length=(k+1 -(48::s).length)+1:=by simp;omega
     rw[e1,qV];simp
   .refine .inr ⟨s,?_,?_⟩
    .rw[pg (dF (by unfold x8;omega))]
    .rw[←he,show k+1 -s.length=0 by omega];simp)
 rw[h1,h2]
theorem rO(h:jh n)(hk:1<=k/\k<=9):jq n (k:Int)=some (pY n k):=by
 have hI:=h;unfold jh at h;have ek:Ah (Ag (k:Int) 0) 9=(k:Int):=by unfold Ag Ah;split<;>split<;>omega
 unfold jq JA;have hd:=qx (u:=n.natAbs) o5;rw[o9,ek,pg (O5 o5),uQ hI,o9];have rest:∀(d:List UInt8) (b:Bool),1<=d.length->d.length<=20->
   (l9 (dC (λ(x_3:List UInt8)=>l7 (U2 (x8 x_3) (k:Int)) (l9 (U4 [48] x_3) λ(x:List UInt8)=>some (Sum.inl x)) (some (Sum.inr x_3))) (d,b).1) λ(y:List UInt8)=>
    l9 (fP y 0 (N8 .i64 (x8 y) (k:Int))) λ(x_3:List UInt8)=>l9 (U4 x_3 [46]) λ(x_4:List UInt8)=>l9 (fP y (N8 .i64 (x8 y) (k:Int)) (x8 y)) λ(x:List UInt8)=>
     l9 (U4 x_4 x) λ(x:List UInt8)=>l7 (d,b).2 (l9 (U4 [45] x) λ(x:List UInt8)=>some x) (some x))
   =some ((if b then[45]else[])++(let e:=List.replicate (k+1 -d.length) 48++d;e.take (e.length -k)++46::e.drop (e.length -k))):=by
  intro d b h1 h2;rw[b1l (d:=d) o5 o5,o9];generalize he:List.replicate (k+1 -d.length) 48++d=e;have hl:k<e.length/\e.length<=40:=by subst he;simp;omega
  obtain⟨c1,c2⟩:=a6H hl.1 o5;rw[c1,o9,O8 G8,o9,c2,o9,O8 G8,o9];cases b
  .simp
  .show l9 (U4 [45] _) _=_;rw[O8 G8,o9];simp
 unfold Lib.itoa pY uK;by_cases hn:n<0
 .rw[if_pos hn,if_pos hn,VD,o9];exact rest (Lib.decDigits n.natAbs) true hd.1 hd.2
 .rw[if_neg hn,if_neg hn];have e:n.toNat=n.natAbs:=o5;rw[e,VC (λc hc=>Jd hc) hd.1,o9];exact rest (Lib.decDigits n.natAbs) false hd.1 hd.2
def FO(n:Int)(w:Nat):List UInt8:=List.replicate (w -(Lib.itoa n).length) 48++Lib.itoa n
variable {w:Nat}
theorem zF(h:jh n)(hw:w<=4):(FO n w).length<=25:=by have:=Jo h;unfold FO;simp;omega
theorem Jc(h:jh n)(hw:w<=4):Dw n (w:Int)=some (FO n w):=by
 have hl:=Jo h;unfold Dw;rw[jQ h,o9];have e:Ag 0 (N8 .i64 (w:Int) (x8 (Lib.itoa n)))=((w -(Lib.itoa n).length:Nat):Int):=by rw[cu (by unfold jh x8;omega)];unfold Ag x8;split<;>omega
 rw[e,XZ o5 A7,b9z,o9,O8 G8,o9];rfl
theorem Hg(h:jh n)(hw:w<=4):AB n (w:Int)=some (FO n w):=by
 have hl:=Jo h;unfold AB;rw[uQ h,o9];show _=some (List.replicate (w -(Lib.itoa n).length) 48++Lib.itoa n);generalize Lib.itoa n=d at hl ⊢;obtain⟨e,h1,h2⟩:=sO (f:=λ(x:List UInt8)=>l7 (I9 (x8 x) (w:Int)) (l9 (U4 [48] x) λ(x:List UInt8)=>some (Sum.inl x)) (some (Sum.inr x))) (s:=d)
  (λs=>s.length<=30/\List.replicate (w -s.length) 48++s=List.replicate (w -d.length) 48++d) (λe=>e=List.replicate (w -d.length) 48++d) (λs=>w -s.length) ⟨o5,rfl⟩ o5 (by
   intro s ⟨hs,he⟩;by_cases hle:s.length<w
   .refine .inl ⟨48::s,?_,⟨by simp;omega,?_⟩,by simp;omega⟩
    .rw[oD (dY (by unfold x8;omega)),O8 G8];rfl
    .rw[←he];have e1:w -s.length=(w -(48::s).length)+1:=by simp;omega
     rw[e1,qV];simp
   .refine .inr ⟨s,?_,?_⟩
    .rw[pg (Y5 (by unfold x8;omega))]
    .rw[←he,show w -s.length=0 by omega];simp)
 rw[h1,o9,h2]
def bC(d:Int):List UInt8:=if 0<=d/\d<=109572 then FO (ymd d).1 4++45::FO (ymd d).2.1 2++45::FO (ymd d).2.2 2 else[]
theorem b2N{a b c:List UInt8}(ha:a.length<=100)(hb:b.length<=100)(hc:c.length<=100){A C B:Option (List UInt8)}(eb:B=some b)(ec:C=some c):
  (l9 (U4 a [45]) λx2=>l9 B λx3=>l9 (U4 x2 x3) λx4=>l9 (U4 x4 [45]) λx5=>l9 C λx=>l9 (U4 x5 x) λx=>some x)=some (a++45::b++45::c):=by
 rw[O8 G8,o9,eb,o9,O8 G8,o9,O8 G8,o9,ec,o9,O8 G8,o9];simp
theorem xy(h1:-1000000<=n)(h2:n<=1000000):jh n:=by unfold jh;omega
theorem qJ(d:Int):uy d=some (bC d):=by
 unfold uy Dx bC;by_cases h0:0<=d
 .rw[oD (Z4 h0),o9];by_cases h:d<=109572
  .rw[Z4 h,E8,o6,WP h0 h,o9,if_pos ⟨h0,h⟩];have hb:=WG h0 h;have p1:=xy (n:=(ymd d).1) o5 o5;have p2:=xy (n:=(ymd d).2.1) o5 o5;have p3:=xy (n:=(ymd d).2.2) o5 o5;rw[show Dw (ymd d).1 4=_ from Jc (w:=4) p1 o5,o9];have l1:=zF (w:=4) p1 o5;have l2:=zF (w:=2) p2 o5;have l3:=zF (w:=2) p3 o5;exact b2N (A:=none) o5 o5 o5 (Jc (w:=2) p2 o5) (Jc (w:=2) p3 o5)
  .rw[dF o5,Z5,o7,if_neg o5]
 .rw[pg (dF o5),o9,Z5,o7,if_neg o5]
theorem Iw(d:Int):rP d=some (bC d):=by
 unfold rP Bl bC;by_cases h0:0<=d
 .rw[oD (Z4 h0),o9];by_cases h:d<=109572
  .rw[Z4 h,E8,o6,VE h0 h,o9,if_pos ⟨h0,h⟩];have hb:=WG h0 h;have p1:=xy (n:=(ymd d).1) o5 o5;have p2:=xy (n:=(ymd d).2.1) o5 o5;have p3:=xy (n:=(ymd d).2.2) o5 o5;rw[show AB (ymd d).1 4=_ from Hg (w:=4) p1 o5,o9];have l1:=zF (w:=4) p1 o5;have l2:=zF (w:=2) p2 o5;have l3:=zF (w:=2) p3 o5;exact b2N (A:=none) o5 o5 o5 (Hg (w:=2) p2 o5) (Hg (w:=2) p3 o5)
  .rw[dF o5,Z5,o7,if_neg o5]
 .rw[pg (dF o5),o9,Z5,o7,if_neg o5]
theorem Cb(d:Int):(bC d).length<=100:=by
 unfold bC;split
 .rename_i h;have hb:=WG h.1 h.2;have l1:=zF (w:=4) (xy (n:=(ymd d).1) o5 o5) o5;have l2:=zF (w:=2) (xy (n:=(ymd d).2.1) o5 o5) o5;have l3:=zF (w:=2) (xy (n:=(ymd d).2.2) o5 o5) o5;simp;omega
 .simp
theorem uU(t:Int×Int)(en:List U6):bF t en=Y1 t en:=by
 unfold bF Y1;by_cases h1:t.1=1
 .simp[D8,h1,U2]
 by_cases h2:t.1=2
 .simp[D8,h2,U2]
 by_cases h3:t.1=3
 .simp[D8,h3,U2]
 by_cases h4:t.1=4
 .simp[D8,h4,U2]
 by_cases h5:t.1=5
 .simp[D8,h5,U2]
 by_cases h6:t.1=6
 .simp[D8,h6,U2]
 .simp only[D8,h1,h2,h3,h4,h5,h6,decide_false,o6,o9];by_cases h7:1<=t.1
  .rw[oD (Z4 h7),pg (dF o5)]
  .rw[pg (dF o5)]
theorem Kz(t:Int×Int)(en:List U6):kz t en=bM t en:=by unfold kz bM;rw[uU]
theorem a6h(n:Int)(t:Int×Int)(en:List U6):iZ n t en=Bq n t en:=by unfold iZ Bq;rw[Kz]
theorem vJ{v:Gn}(en:List U6)(h:jh v.2.2):gV v en=rQ v en:=by
 unfold gV rQ wY;rw[o9,uU];cases hv:Y1 (v.1,v.2.1) en with
 |none=>rfl|some b=>
  rw[o9,o9];cases b with
  |false=>rfl|true=>
   rw[E8,o6,o6];have e:Bv v en=iZ v.2.2 (v.1,v.2.1) en:=by unfold Bv wY;rw[o9,hv,o9,o7,o9,vG,a6h]
   rw[e,jQ h,uQ h,show bn v.2.2 2=_ from gQ (k:=2) h o5,show jq v.2.2 2=_ from rO (k:=2) h o5,
    show bn v.2.2 4=_ from gQ (k:=4) h o5,show jq v.2.2 4=_ from rO (k:=4) h o5,qJ,Iw]
theorem BU{B:Nat}(hB:100<=B)(hB2:B<=200000000000000){v:Int×Int×Int}{en:List U6}(h:jh v.2.2)(hm:∀e∈en,e.2.length<=B/\∀m∈e.2,m.length<=B):∃t,gV v en=some t/\t.1.length<=B:=by
 unfold gV
 cases hv:bF (v.1,v.2.1) en with
 |none=>
  exfalso;rw[uU]at hv;unfold Y1 at hv;simp only[tC]at hv
  repeat' split at hv
  all_goals cases hv
 |some b=>
  rw[o9];cases b with
  |false=>exact⟨_,rfl,A7⟩|true=>
   rw[E8,o6];unfold iZ kz;rw[hv];simp only[o9,E8,o6];have f1:=Jo h;have f2:=Dc (k:=2) h o5;have f4:=Dc (k:=4) h o5;have f5:=Cb v.2.2;rw[jQ h,show bn v.2.2 2=_ from gQ (k:=2) h o5,show bn v.2.2 4=_ from gQ (k:=4) h o5,qJ];simp only[o9];rw[O8 (a:=pY v.2.2 4) G8];simp only[o9];by_cases h1:v.1=1
   .simp only[O7 h1,o7,o9];simp only[bb,o9];simp only[tC];repeat' split
    all_goals exact⟨_,rfl,by first|omega|(simp<;>omega)⟩
   by_cases h2:v.1=2
   .simp only[O5 h1,O7 h2,o7,o6,o9];simp only[bb,o9];simp only[tC];repeat' split
    all_goals exact⟨_,rfl,by first|omega|(simp<;>omega)⟩
   by_cases h3:v.1=3
   .simp only[O5 h1,O5 h2,O7 h3,o7,o6,o9];simp only[bb,o9];simp only[tC];repeat' split
    all_goals exact⟨_,rfl,by first|omega|(simp<;>omega)⟩
   by_cases h4:v.1=4
   .simp only[O5 h1,O5 h2,O5 h3,O7 h4,o7,o6,o9];simp only[bb,o9];simp only[tC];repeat' split
    all_goals exact⟨_,rfl,by first|omega|(simp<;>omega)⟩
   by_cases h5:v.1=5
   .simp only[O5 h1,O5 h2,O5 h3,O5 h4,O7 h5,o7,o6,o9];simp only[bb,o9];simp only[tC];repeat' split
    all_goals exact⟨_,rfl,by first|omega|(simp<;>omega)⟩
   .simp only[O5 h1,O5 h2,O5 h3,O5 h4,O5 h5,o6];have hk:v.1=6/\0<=v.2.1/\v.2.1<x8 en:=by
     unfold bF at hv;simp only[O5 h1,O5 h2,O5 h3,O5 h4,O5 h5,o6,o9]at hv;simp only[tC,iK,jF]at hv;split at hv
     .split at hv
      .simp only[F9,xA]at hv;exact⟨by assumption,by assumption,hv⟩
      .cases hv
     .cases hv
    obtain⟨e,he,hmem⟩:=tY hk.2.1 hk.2.2;rw[he];simp only[o9];have hle:=(hm e hmem).1;have hll:x8 e.2=(e.2.length:Int):=rfl;rw[cu bg];by_cases hw0:0<=v.2.2
    .by_cases hw1:v.2.2<=x8 e.2 -1
     .rw[Z4 hw0,o7,Z4 hw1,o9,E8,o6];obtain⟨m,hm1,hm2⟩:=tY (l:=e.2) hw0 o5;rw[hm1];exact⟨_,rfl,(hm e hmem).2 m hm2⟩
     .rw[Z4 hw0,o7,dF (qZ.1 hw1),o9,Z5,o7];exact⟨_,rfl,A7⟩
    .rw[dF (qZ.1 hw0),o6];exact⟨_,rfl,A7⟩
end Gt
namespace Go.GP
open Gt
theorem WQ(l:List dL):tZ l=lU l:=by unfold tZ lU;rfl
theorem a1q{α:Type}{l:List α}(h:l.length<=1000000):CW l=some l:=by unfold CW;rw[uN G8,G7]
theorem Wn{l:Z7}(hc:wV l.1=some l.1)(k:Int):jV l k=pG l k:=by unfold jV pG;simp only[hc,WQ];rfl
end Go.GP
namespace Go.GP
open Gt
set_option maxRecDepth 100000
def gtN(l:List (List UInt8))(i:Int):List UInt8:=(O0 l i).getD []
def dU(k:Int):List UInt8:=(wZ k).getD []
def kP(k:Int):List UInt8:=(fA k).getD []
def kw(k:Int):List UInt8×Int:=(lI k).getD ([],0)
def Ar(k:Int):Bool:=l7 (D8 k 2) true (l7 (D8 k 3) true (D8 k 4))
variable {b:Bool}
theorem b3C{x y:Option (List UInt8)}(hx:∃s,x=some s/\s.length<=10)(hy:∃s,y=some s/\s.length<=10):∃s,l7 b x y=some s/\s.length<=10:=by cases b<;>assumption
theorem a4K(k:Int):∃s,wZ k=some s/\s.length<=10:=by
 unfold wZ
 repeat (refine b3C ⟨_,rfl,C9⟩ ?_)
 exact⟨_,rfl,C9⟩
theorem b6y(k:Int):wZ k=some (dU k):=by obtain⟨s,h,-⟩:=a4K k;unfold dU;rw[h];rfl
theorem uu(k:Int):iJ k=some (dU k):=(show iJ k=wZ k from rfl).trans (b6y k)
theorem RD(k:Int):fA k=some (kP k):=by
 unfold kP;have:∃s,fA k=some s:=by
  unfold fA;simp only[tC];repeat' split
  all_goals exact⟨_,rfl⟩
 obtain⟨s,h⟩:=this;rw[h];rfl
theorem b6p(k:Int):lI k=some (kw k):=by
 unfold kw;have:∃s,lI k=some s:=by
  unfold lI;simp only[tC];repeat' split
  all_goals exact⟨_,rfl⟩
 obtain⟨s,h⟩:=this;rw[h];rfl
theorem b2d(k:Int):ji k=some (kw k):=(show ji k=lI k from rfl).trans (b6p k)
theorem xq(k:Int):(dU k).length<=10:=by obtain⟨s,h,h2⟩:=a4K k;unfold dU;rw[h];exact h2
theorem OE(k:Int):(kP k).length<=10:=by
 unfold kP fA;simp only[tC];repeat' split
 all_goals simp
theorem a4D(k:Int):(kw k).1.length<=10:=by
 unfold kw lI;simp only[tC];repeat' split
 all_goals simp
structure NmOk (N:D9):Prop where
 e:∀e∈N.1,e.1.length<=1000/\∀m∈e.2,m.length<=1000
 t:∀s∈N.2.1,s.length<=1000
 i:∀s∈N.2.2.1,s.length<=1000
 d:∀s∈N.2.2.2.1,s.length<=1000
 m:∀s∈N.2.2.2.2,s.length<=1000
abbrev Tx:Type:=List UInt8×Int
def wiS(p:Tx)(c:Int):List UInt8:=l7 (I9 p.2 c) ([40]++p.1++[41]) p.1
def vC(n:Int×Int)(N:D9):Tx:=
 l7 (U2 n.1 5) (((rQ (n.1,0,n.2) []).getD ([],0)).1,l7 (I9 n.2 0) 6 7)
 (l7 (D8 n.1 6) (((O0 N.1 (dA .i64 n.2 16)).getD ([],[])).1++[58]++gtN ((O0 N.1 (dA .i64 n.2 16)).getD ([],[])).2 (jc n.2 16),7)
 (l7 (D8 n.1 7) (gtN N.2.2.1 n.2,7)
 (l7 (D8 n.1 8) (gtN N.2.2.2.1 n.2,7)
 (l7 (D8 n.1 9) ([116,111,100,97,121],7)
 (l7 (D8 n.1 35) ([99,111,117,110,116,40,41],7) (dU n.1++[40]++gtN N.2.2.2.2 n.2++[41],7))))))
def Ny(n:Int×Int)(N:D9)(num:Bool)(a:Tx):Tx:=
 l7 (D8 n.1 33) (dU n.1++[40]++gtN N.2.1 n.2++[44,32]++a.1++[41],7)
 (l7 (D8 n.1 34) (dU n.1++[40]++gtN N.2.1 (dA .i64 n.2 8)++[44,32]++a.1++[44,32]++kP (jc n.2 8)++[41],7)
 (l7 (D8 n.1 25) ([110,111,116,32]++wiS a 6,6)
 (l7 (D8 n.1 10) ([45]++l7 num ([40]++a.1++[41]) (wiS a 6),6) (dU n.1++[40]++a.1++[41],7))))
def SE(k:Int):Bool:=l7 (D8 k 17) true (l7 (D8 k 18) true (l7 (D8 k 27) true (l7 (D8 k 28) true (l7 (D8 k 29) true (D8 k 30)))))
def WZ(k:Int):Bool:=l7 (D8 k 14) true (l7 (D8 k 15) true (D8 k 16))
def Ih(n:Int×Int)(a b:Tx):Tx:=
 l7 (SE n.1) (dU n.1++[40]++a.1++[44,32]++b.1++[41],7)
 (l7 (WZ n.1) (dU n.1++[40]++a.1++[44,32]++b.1++[44,32]++kP n.2++[41],7)
 (wiS a (l7 (D8 (kw n.1).2 3) 4 (kw n.1).2)++[32]++(kw n.1).1++[32]++wiS b ((kw n.1).2+1),(kw n.1).2))
def ifX(a b c:Tx):Tx:=([105,102,32]++a.1++[32,116,104,101,110,32]++b.1++[32,101,108,115,101,32]++c.1,0)
def txT(N:D9):XT->Tx
 | .l0 n=>vC n N| .l1 n a=>Ny n N (Ar a.node.1) (txT N a)| .l2 n a b=>Ih n (txT N a) (txT N b)| .l3 n a b c=>ifX (txT N a) (txT N b) (txT N c)
def pcT(N:D9)(t:XT):J4:=((txT N t).1,(txT N t).2,Ar t.node.1)
def EM(n:Int×Int)(args:List J4)(N:D9)(p:Tx):Prop:=
 ∃c,U9 n N=some c/\X9 n args N=some (l7 (D8 c 0) ((p.1,p.2,Ar n.1),0) (([],0,false),c))
variable {α:Type}
theorem lx0(a:α)(l:List α):O0 (a::l) 0=some a:=rfl
theorem lx1(a b:α)(l:List α):O0 (a::b::l) 1=some b:=rfl
theorem lx2(a b c:α)(l:List α):O0 (a::b::c::l) 2=some c:=rfl
theorem Gm(p:J4)(c:Int)(h:p.1.length<=1000000000):gu p c=some (wiS (p.1,p.2.1) c):=by unfold gu wiS;rw[O8 G8,o9,O8 G8,o9];cases I9 p.2.1 c<;>rfl
theorem NU(p:Tx)(c:Int):(wiS p c).length<=p.1.length+2:=by unfold wiS;cases I9 p.2 c<;>simp
theorem arN(k:Int):1<=k/\k<=39\/arF k=-1:=by
 by_cases h:1<=k/\k<=39
 .exact .inl h
 .refine .inr ?_;unfold arF;rw[Zk h];rfl
variable {k:Int}
theorem ar0(h:arF k=0):k=1\/k=2\/k=3\/k=4\/k=5\/k=6\/k=7\/k=8\/k=9\/k=35\/k=36\/k=37\/k=38\/k=39:=by
 rcases arN k with h1|h1
 .obtain⟨j,rfl⟩:=Vx h1;revert h;revert j;decide
 .omega
theorem ar1(h:arF k=1):k=10\/k=25\/k=31\/k=32\/k=33\/k=34:=by
 rcases arN k with h1|h1
 .obtain⟨j,rfl⟩:=Vx h1;revert h;revert j;decide
 .omega
theorem ar2(h:arF k=2):k=11\/k=12\/k=13\/k=14\/k=15\/k=16\/k=17\/k=18\/k=19\/k=20\/k=21\/k=22\/k=23\/k=24\/k=27\/k=28\/k=29\/k=30:=by
 rcases arN k with h1|h1
 .obtain⟨j,rfl⟩:=Vx h1;revert h;revert j;decide
 .omega
theorem ar3(h:arF k=3):k=26:=b3z h
variable {N:D9}{n:Int×Int}
theorem a4p{args:List J4}{p:Tx}(c:Int)(h1:U9 n N=some c)(h2:X9 n args N=some (l7 (D8 c 0) ((p.1,p.2,Ar n.1),0) (([],0,false),c))):EM n args N p:=⟨c,h1,h2⟩
variable {m:Int}
theorem b0R(hk:k=1\/k=2\/k=3\/k=4\/k=5)(hm:jh m)(N:D9):∃c s,U9 (k,m) N=some c/\gV (k,0,m) []=some (s,c):=by
 have b1:∀lo hi:Int,bM (k,0) []=some (lo,hi)->Y1 (k,0) []=some true->∃c s,U9 (k,m) N=some c/\gV (k,0,m) []=some (s,c):=by
  intro lo hi hb hv;have hf:U9 (k,m) N=some (l7 (I9 m lo) 3 (l7 (I9 hi m) 3 0)):=by
   unfold U9 qB;simp only[Z4 (show 1<=k by omega),Z4 (show k<=5 by omega),o7,o9,hb];cases I9 m lo
   .cases I9 hi m<;>rfl
   .rfl
  have hw:iZ m (k,0) []=some (l7 (U2 lo m) (U2 m hi) false):=by unfold iZ;rw[Kz,hb,o9];cases U2 lo m<;>rfl
  rw[hf];obtain⟨t,ht,-⟩:=BU (B:=100) o5 o5 (v:=(k,0,m)) (en:=[]) hm (λe h=>by cases h);unfold gV at ht ⊢;simp only[uU,hv,hw,o9,E8,o6]at ht ⊢;by_cases h1:lo<=m
  .by_cases h2:m<=hi
   .rw[Z4 h1,Z4 h2,o7,E8,o6]at ht ⊢;rw[Y5 h1,Y5 h2,o6,o6];refine⟨0,t.1,rfl,?_⟩;rw[ht];have e:t.2=0:=by
     rcases hk with rfl|rfl|rfl|rfl|rfl
     .simp (disch:=decide) only[O7,o7]at ht;revert ht;cases D8 m 1<;>cases D8 m 0<;>intro ht<;>cases ht<;>rfl
     .simp (disch:=decide) only[O7,O5,o7,o6,jQ hm,o9,F9]at ht;rw[←ht]
     .simp (disch:=decide) only[O7,O5,o7,o6]at ht;rw[show bn m 2=_ from gQ (k:=2) hm o5]at ht;simp only[o9,F9]at ht;rw[←ht]
     .simp (disch:=decide) only[O7,O5,o7,o6]at ht;have f4:=Dc (k:=4) hm o5;rw[show bn m 4=_ from gQ (k:=4) hm o5,o9,O8 G8]at ht;simp only[o9,F9]at ht;rw[←ht]
     .simp (disch:=decide) only[O7,O5,o7,o6,qJ,o9,F9]at ht;rw[←ht]
    rw[←e]
   .rw[Z4 h1,dF o5,o7,Z5,o7,Y5 h1,dY o5,o6,o7];exact⟨3,[],rfl,rfl⟩
  .rw[dF o5,o6,Z5,o7,dY o5,o7];exact⟨3,[],rfl,rfl⟩
 rcases hk with rfl|rfl|rfl|rfl|rfl
 .exact b1 0 1 rfl rfl
 .exact b1 _ _ rfl rfl
 .exact b1 _ _ rfl rfl
 .exact b1 _ _ rfl rfl
 .exact b1 _ _ rfl rfl
theorem DZ(hk:k=1\/k=2\/k=3\/k=4\/k=5)(hm:jh m)(N:D9):EM (k,m) [] N (vC (k,m) N):=by
 obtain⟨c,s,h1,h2⟩:=b0R hk hm N;refine a4p c h1 ?_;have e:vC (k,m) N=(s,l7 (I9 m 0) 6 7):=by unfold vC;rw[Z4 (show k<=5 by omega),o7,←vJ [] hm,h2];rfl
 have hc:c=0\/c=3:=by
  unfold U9 qB at h1;have h:=h1;simp only[Z4 (show 1<=k by omega),Z4 (show k<=5 by omega),o7,o9]at h;cases hb:bM (k,0) []with
  |none=>rw[hb]at h;cases h|some b=>rw[hb,o9]at h;cases hx:I9 m b.1<;>cases hy:I9 b.2 m<;>simp only[hx,hy,o7,o6,F9]at h<;>omega
 have hr:qh (k,m)=some (l7 (D8 c 0) ((s,l7 (l7 (Ar k) (I9 m 0) false) 6 7,Ar k),0) (([],0,false),c)):=by
  unfold qh Ar;simp only[h2,o9];rcases hc with rfl|rfl
  .simp only[O7 (rfl:(0:Int)=0),E8,o6,o7,aW,o9];cases I9 m 0<;>cases D8 k 2<;>cases D8 k 3<;>cases D8 k 4<;>rfl
  .rfl
 rw[e];unfold X9;rw[hr];have hneg:c=0->l7 (l7 (Ar k) (I9 m 0) false) (6:Int) 7=l7 (I9 m 0) 6 7:=by
  intro h0;subst h0;cases hg:I9 m 0
  .cases Ar k<;>rfl
  rcases hk with rfl|rfl|rfl|rfl|rfl
  .exfalso;unfold U9 qB at h1;simp only[show bM (1,0) []=some (0,1)from rfl,Z4 (show(1:Int)<=1 by omega),Z4 (show(1:Int)<=5 by omega),o7,o9,hg,F9]at h1;omega
  .rfl
  .rfl
  .rfl
  .exfalso;unfold U9 qB at h1;simp only[show bM (5,0) []=some (0,109572)from rfl,Z4 (show(1:Int)<=5 by omega),Z4 (show(5:Int)<=5 by omega),o7,o9,hg,F9]at h1;omega
 rcases hc with rfl|rfl
 .rw[hneg rfl];rcases hk with rfl|rfl|rfl|rfl|rfl<;>rfl
 .rcases hk with rfl|rfl|rfl|rfl|rfl<;>rfl
theorem Nj{l:List (List UInt8)}{i:Int}(h0:0<=i)(h:i<x8 l):O0 l i=some (gtN l i)/\gtN l i∈l:=by obtain⟨x,h1,h2⟩:=tY h0 h;unfold gtN;rw[h1];exact⟨rfl,h2⟩
theorem MZ{l:List (List UInt8)}{B:Nat}(h:∀s∈l,s.length<=B)(i:Int):(gtN l i).length<=B:=by
 unfold gtN;cases hl:O0 l i with
 |none=>simp|some x=>exact h x (pF hl).2.2.1
theorem Sj(k m:Int)(args:List J4)(N:D9)(hk:k=6\/k=7\/k=8\/k=36\/k=37\/k=38\/k=39):X9 (k,m) args N=fQ (k,m) N:=by unfold X9;generalize hq:fQ (k,m) N=q;rcases hk with rfl|rfl|rfl|rfl|rfl|rfl|rfl<;>simp (disch:=decide) only[O7,O5,o7,o6,o9,hq]<;>cases q<;>rfl
theorem yU(hk:k=7\/k=8\/k=36\/k=37\/k=38\/k=39)(hN:NmOk N):EM (k,m) [] N (vC (k,m) N):=by
 have key:∀(l:List (List UInt8)) (before after:List UInt8),(∀s∈l,s.length<=1000)->before.length<=100->after.length<=100->
   U9 (k,m) N=l7 (I9 m 0) (some 6) (l7 (U2 (x8 l) m) (some 6) (some 0))->
   fQ (k,m) N=l7 (I9 m 0) (some (([],0,false),6))
    (l7 (U2 (x8 l) m) (some (([],0,false),6))
     (l9 (O0 l m) λ(x_1:List UInt8)=>
      l9 (U4 before x_1) λ(x_2:List UInt8)=>
       l9 (U4 x_2 after) λ(x:List UInt8)=>some ((x,7,false),0)))->
   vC (k,m) N=(before++gtN l m++after,7)->EM (k,m) [] N (vC (k,m) N):=by
  intro l before after hl hb ha hf0 hr he;have hf:U9 (k,m) N=some (l7 (I9 m 0) 6 (l7 (U2 (x8 l) m) 6 0)):=by rw[hf0];cases I9 m 0<;>cases U2 (x8 l) m<;>rfl
  refine a4p _ hf ?_;have hnum:Ar k=false:=by rcases hk with rfl|rfl|rfl|rfl|rfl|rfl<;>rfl
  rw[Sj _ _ _ _ o5,hr,he,hnum];by_cases h0:m<0
  .rw[dY h0];rfl
  by_cases h1:x8 l<=m
  .simp only[Y5 (show 0<=m by omega),Z4 h1];rfl
  .have:=Nj (l:=l) (i:=m) o5 o5;have h2:=hl _ this.2;simp only[Y5 (show 0<=m by omega),dF (show m<x8 l by omega),o6,this.1,o9];rw[O8 o5,o9,O8 G8,o9];rfl
 have mem:∀k:Int,(k=36\/k=37\/k=38\/k=39)->fQ (k,m) N=l7 (I9 m 0) (some (([],0,false),6))
    (l7 (U2 (x8 N.2.2.2.2) m) (some (([],0,false),6))
     (l9 (O0 N.2.2.2.2 m) λ(x_1:List UInt8)=>
      l9 (U4 (dU k++[40]) x_1) λ(x_2:List UInt8)=>
       l9 (U4 x_2 [41]) λ(x:List UInt8)=>some ((x,7,false),0))):=by
  intro k hk;have hw:=xq k;unfold fQ aW;simp only[O5 (show k≠6 by omega),O5 (show k≠7 by omega),O5 (show k≠8 by omega),o6,uu,o9,O8 (a:=dU k) (b:=[40]) G8,Y2]
 have lf:∀k:Int,(k=36\/k=37\/k=38\/k=39)->vC (k,m) N=(dU k++[40]++gtN N.2.2.2.2 m++[41],7):=by intro k hk;unfold vC;simp only[dF (show 5<k by omega),O5 (show k≠6 by omega),O5 (show k≠7 by omega),O5 (show k≠8 by omega),O5 (show k≠9 by omega),O5 (show k≠35 by omega),o6]
 have wl:=λk=>xq k;rcases hk with rfl|rfl|rfl|rfl|rfl|rfl
 .refine key N.2.2.1 [] [] hN.i A7 A7 rfl ?_ ?_
  .unfold fQ aW;simp (disch:=decide) only[O7,O5,o7,o6,o9,Y2]
  .unfold vC;simp (disch:=decide) only[O7,O5,dF,o7,o6];simp
 .refine key N.2.2.2.1 [] [] hN.d A7 A7 rfl ?_ ?_
  .unfold fQ aW;simp (disch:=decide) only[O7,O5,o7,o6,o9,Y2]
  .unfold vC;simp (disch:=decide) only[O7,O5,dF,o7,o6];simp
 .exact key N.2.2.2.2 (dU 36++[40]) [41] hN.m C9 C9 rfl (mem _ o5) (lf _ o5)
 .exact key N.2.2.2.2 (dU 37++[40]) [41] hN.m C9 C9 rfl (mem _ o5) (lf _ o5)
 .exact key N.2.2.2.2 (dU 38++[40]) [41] hN.m C9 C9 rfl (mem _ o5) (lf _ o5)
 .exact key N.2.2.2.2 (dU 39++[40]) [41] hN.m C9 C9 rfl (mem _ o5) (lf _ o5)
theorem OZ(h:jh m)(d:Int)(hd:d=8\/d=16):dA .i64 m d=m.tdiv d:=by
 refine Ot ?_;unfold jh at h ⊢;rcases hd with rfl|rfl
 all_goals
  rcases Int.lt_or_le m 0 with h0|h0
  .have e:=Int.neg_tdiv (a:=-m) (b:=8);have e' :=Int.neg_tdiv (a:=-m) (b:=16);rw[Int.neg_neg]at e e';have q1:=oV (a:=-m) (b:=8) o5;have q2:=oV (a:=-m) (b:=16) o5;omega
  .have q1:=oV (a:=m) (b:=8) o5;have q2:=oV (a:=m) (b:=16) o5;omega
theorem a0v(hm:jh m)(hN:NmOk N):EM (6,m) [] N (vC (6,m) N):=by
 have hf:U9 (6,m) N=(l7 (I9 m 0) (some 6)
    (l7 (U2 (x8 N.1) (dA .i64 m 16)) (some 6)
     (l9 (O0 N.1 (dA .i64 m 16)) λ(x:U6)=>
      l7 (U2 (x8 x.2) (jc m 16)) (some 6) (some 0)))):=rfl
 have hr:fQ (6,m) N=l9 (l7 (I9 m 0) (some (Sum.inr (([],0,false),6)))
   (l7 (U2 (x8 N.1) (dA IntKind.i64 m 16)) (some (Sum.inr (([],0,false),6)))
    (l9 (O0 N.1 (dA IntKind.i64 m 16)) λ(x:U6)=>
     l9 (U4 x.1 [58]) λ(x_1:List UInt8)=>some (Sum.inl (([],0,false),x.2,jc m 16,x_1,[]))))) λ(o:J4×List (List UInt8)×Int×List UInt8×List UInt8⊕J4×Int)=>
 aF o
  (λ(x:J4×List (List UInt8)×Int×List UInt8×List UInt8)=>
   l7 (I9 x.2.2.1 0) (some (([],0,false),6))
    (l7 (U2 (x8 x.2.1) x.2.2.1) (some (([],0,false),6))
     (l9 (O0 x.2.1 x.2.2.1) λ(x_1:List UInt8)=>
      l9 (U4 x.2.2.2.1 x_1) λ(x_2:List UInt8)=>
       l9 (U4 x_2 x.2.2.2.2) λ(x:List UInt8)=>
        l9 (aW x) λ(x:J4)=>some (x,0))))
  λ(r:J4×Int)=>some r:=rfl
 have hl:vC (6,m) N=(((O0 N.1 (dA .i64 m 16)).getD ([],[])).1++[58]++gtN ((O0 N.1 (dA .i64 m 16)).getD ([],[])).2 (jc m 16),7):=rfl;unfold EM;rw[hf,Sj _ _ _ _ o5,hr,hl];by_cases h0:m<0
 .rw[dY h0];exact⟨6,rfl,rfl⟩
 rw[Y5 o5,o6,o6];by_cases h1:x8 N.1<=dA .i64 m 16
 .rw[Z4 h1];exact⟨6,rfl,rfl⟩
 rw[dF o5,o6,o6];have hq:0<=dA .i64 m 16:=by rw[OZ hm 16 (.inr rfl),oV o5];omega
 obtain⟨e,he,hmem⟩:=tY (l:=N.1) hq o5;have hb:=hN.e e hmem;have hr0:jc m 16=m % 16:=Bh o5;simp only[he,o9,V5,O8 (a:=e.1) (b:=[58]) G8,Y2];rw[Y5 (show 0<=jc m 16 by omega),o6];by_cases h2:x8 e.2<=jc m 16
 .rw[Z4 h2];exact⟨6,rfl,rfl⟩
 rw[dF o5,o6,o6];have hg:=Nj (l:=e.2) (i:=jc m 16) o5 o5;have h3:=hb.2 _ hg.2;refine⟨0,rfl,?_⟩;rw[hg.1,o9,O8 G8,o9,O8 G8,o9];simp only[aW,o9,E5];rfl
theorem a8A :EM (9,0) [] N (vC (9,0) N):=⟨0,rfl,rfl⟩
theorem a5S :EM (35,0) [] N (vC (35,0) N):=⟨0,rfl,rfl⟩
theorem b1C(hN:NmOk N)(hm:jh m)(ha:arF k=0)(hu:m=0\/dM k=some true):EM (k,m) [] N (vC (k,m) N):=by
 have hz:(k=9\/k=35)->m=0:=by
  intro h;rcases hu with h1|h1
  .exact h1
  .exfalso;rcases h with rfl|rfl<;>exact absurd h1 C9
 rcases ar0 ha with rfl|rfl|rfl|rfl|rfl|rfl|rfl|rfl|rfl|rfl|rfl|rfl|rfl|rfl
 .exact DZ o5 hm N
 .exact DZ o5 hm N
 .exact DZ o5 hm N
 .exact DZ o5 hm N
 .exact DZ o5 hm N
 .exact a0v hm hN
 .exact yU o5 hN
 .exact yU o5 hN
 .rw[hz o5];exact a8A
 .rw[hz o5];exact a5S
 .exact yU o5 hN
 .exact yU o5 hN
 .exact yU o5 hN
 .exact yU o5 hN
theorem a2s(hm:jh m)(hN:NmOk N)(a:J4)(h1:a.1.length<=1000000000):EM (33,m) [a] N (Ny (33,m) N b (a.1,a.2.1)):=by
 have hf:U9 (33,m) N=l7 (I9 m 0) (some 6) (l7 (U2 (x8 N.2.1) m) (some 6) (some 0)):=rfl;have hr:X9 (33,m) [a] N=iM (33,m) a N:=by unfold X9;generalize hq:iM (33,m) a N=q;simp (disch:=decide) only[O7,O5,o7,o6,o9,lx0,hq];cases q<;>rfl
 have hx:Ny (33,m) N b (a.1,a.2.1)=(dU 33++[40]++gtN N.2.1 m++[44,32]++a.1++[41],7):=rfl;unfold EM;rw[hf,hr,hx];unfold iM aW;simp (disch:=decide) only[O7,O5,o7,o6,o9,uu];by_cases h0:m<0
 .rw[dY h0];exact⟨6,rfl,rfl⟩
 rw[Y5 o5,o6,o6];by_cases h2:x8 N.2.1<=m
 .rw[Z4 h2];exact⟨6,rfl,rfl⟩
 rw[dF o5,o6,o6];have hg:=Nj (l:=N.2.1) (i:=m) o5 o5;have h3:=hN.t _ hg.2;have hw:=xq 33;refine⟨0,rfl,?_⟩;rw[o9,Y2,O8 G8,o9,hg.1,o9,O8 G8,o9,O8 G8,o9,O8 G8,o9,O8 G8,o9];rfl
theorem W_(h:0<=m):seq (kP m) []=I9 5 m:=by
 by_cases h5:m<=5
 .rw[Y5 h5];obtain⟨k,rfl⟩:∃k:Fin 6,m=(k.val:Int):=⟨⟨m.toNat,o5⟩,by simp;omega⟩;revert k;decide
 .rw[dY o5];unfold kP fA;simp only[O5 (show m≠0 by omega),O5 (show m≠1 by omega),O5 (show m≠2 by omega),O5 (show m≠3 by omega),O5 (show m≠4 by omega),O5 (show m≠5 by omega),o6];rfl
theorem a7s(h:m<0):seq (kP m) []=true:=by unfold kP fA;simp only[O5 (show m≠0 by omega),O5 (show m≠1 by omega),O5 (show m≠2 by omega),O5 (show m≠3 by omega),O5 (show m≠4 by omega),O5 (show m≠5 by omega),o6];rfl
theorem a0u(hm:jh m)(hN:NmOk N)(a:J4)(h1:a.1.length<=1000000000):EM (34,m) [a] N (Ny (34,m) N b (a.1,a.2.1)):=by
 have hf:U9 (34,m) N=l7 (I9 m 0) (some 6) (l7 (U2 (x8 N.2.1) (dA .i64 m 8)) (some 6) (l7 (I9 5 (jc m 8)) (some 3) (some 0))):=rfl;have hr:X9 (34,m) [a] N=iM (34,m) a N:=by unfold X9;generalize hq:iM (34,m) a N=q;simp (disch:=decide) only[O7,O5,o7,o6,o9,lx0,hq];cases q<;>rfl
 have hx:Ny (34,m) N b (a.1,a.2.1)=(dU 34++[40]++gtN N.2.1 (dA .i64 m 8)++[44,32]++a.1++[44,32]++kP (jc m 8)++[41],7):=rfl;unfold EM;rw[hf,hr,hx];unfold iM aW;simp (disch:=decide) only[O7,O5,o7,o6,o9,uu,RD];by_cases h0:m<0
 .rw[dY h0,Y5 (show m<=0 by omega)];simp only[o7,o6,o9,dY h0,kD];exact⟨6,rfl,rfl⟩
 have hq:dA .i64 m 8=m / 8:=by rw[OZ hm 8 (.inl rfl),oV o5]
 have hi:(l7 (I9 0 m) (some (dA .i64 m 8)) (some m):Option Int)=some (dA .i64 m 8):=by
  by_cases h:0<m
  .rw[dY h];rfl
  .rw[Y5 o5,o6,show dA .i64 m 8=m by omega]
 rw[hi,o9,Y5 (show 0<=m by omega),o6,Y5 (show 0<=dA .i64 m 8 by omega),o6];by_cases h2:x8 N.2.1<=dA .i64 m 8
 .rw[Z4 h2];exact⟨6,rfl,rfl⟩
 rw[dF o5,o6,o6];have hg:=Nj (l:=N.2.1) (i:=dA .i64 m 8) o5 o5;have h3:=hN.t _ hg.2;have hw:=xq 34;have hm:=OE (jc m 8);have hr0:jc m 8=m % 8:=Bh o5;rw[o9,Y2,O8 G8,o9,hg.1,o9,O8 G8,o9,O8 G8,o9,O8 G8,o9,W_ (show 0<=jc m 8 by omega)];cases I9 5 (jc m 8)
 .refine⟨0,rfl,?_⟩;rw[o6,O8 G8,o9,O8 G8,o9,O8 G8,o9];simp[l7];rfl
 .exact⟨3,rfl,rfl⟩
theorem b1D(hN:NmOk N)(hm:jh m)(ha:arF k=1)(hu:m=0\/dM k=some true)(a:J4)(h1:a.1.length<=1000000000):EM (k,m) [a] N (Ny (k,m) N a.2.2 (a.1,a.2.1)):=by
 have hz:(k=10\/k=25\/k=31\/k=32)->m=0:=by
  intro h;rcases hu with h1|h1
  .exact h1
  .exfalso;rcases h with rfl|rfl|rfl|rfl<;>exact absurd h1 C9
 have hw:=NU (a.1,a.2.1) 6;simp only at hw;rcases ar1 ha with rfl|rfl|rfl|rfl|rfl|rfl
 .rw[hz o5];refine⟨0,rfl,?_⟩;unfold X9 Ny;simp (disch:=decide) only[O7,O5,o7,o6,o9,lx0,Gm a 6 h1];cases h:a.2.2
  .simp only[o6,o7];rw[O8 G8,o9,o9,kD];rfl
  .simp only[o7];rw[O8 G8,o9,O8 G8,o9,O8 G8,o9,o9,kD];rfl
 .rw[hz o5];refine⟨0,rfl,?_⟩;unfold X9 Ny;simp (disch:=decide) only[O7,O5,o7,o6,o9,lx0,Gm a 6 h1];rw[O8 G8,o9,o9,kD];rfl
 .rw[hz o5];refine⟨0,rfl,?_⟩;have hl:=xq 31;unfold X9 Ny aW;simp (disch:=decide) only[O7,O5,o7,o6,o9,lx0,uu];rw[O8 G8,o9,O8 G8,o9,O8 G8,o9,o9,kD];rfl
 .rw[hz o5];refine⟨0,rfl,?_⟩;have hl:=xq 32;unfold X9 Ny aW;simp (disch:=decide) only[O7,O5,o7,o6,o9,lx0,uu];rw[O8 G8,o9,O8 G8,o9,O8 G8,o9,o9,kD];rfl
 .exact a2s hm hN a h1
 .exact a0u hm hN a h1
theorem a2q(hk:k=17\/k=18\/k=27\/k=28\/k=29\/k=30)(a b:J4)(h1:a.1.length<=1000000000)(h2:b.1.length<=1000000000):EM (k,0) [a,b] N (Ih (k,0) (a.1,a.2.1) (b.1,b.2.1)):=by
 have hl:=xq k;rcases hk with rfl|rfl|rfl|rfl|rfl|rfl
 all_goals
  refine⟨0,rfl,?_⟩;unfold X9 Ih aW SE;simp (disch:=decide) only[O7,O5,o7,o6,o9,lx0,lx1,uu];rw[O8 G8,o9,O8 G8,o9,O8 G8,o9,O8 G8,o9,O8 G8,o9,o9,kD];rfl
theorem a2r(hk:k=14\/k=15\/k=16)(a b:J4)(h1:a.1.length<=1000000000)(h2:b.1.length<=1000000000):EM (k,m) [a,b] N (Ih (k,m) (a.1,a.2.1) (b.1,b.2.1)):=by
 have hl:=xq k;have hm:=OE m;have hf:U9 (k,m) N=some (l7 (seq (kP m) []) 3 0):=by
  have:U9 (k,m) N=l7 (I9 m 0) (some 3) (l7 (I9 5 m) (some 3) (some 0)):=by rcases hk with rfl|rfl|rfl<;>rfl
  rw[this];by_cases h0:m<0
  .rw[dY h0,a7s h0];rfl
  .rw[Y5 o5,W_ o5];cases I9 5 m<;>rfl
 refine a4p _ hf ?_;rcases hk with rfl|rfl|rfl
 all_goals
  unfold X9 Ih aW SE WZ;simp (disch:=decide) only[O7,O5,o7,o6,o9,lx0,lx1,uu,RD];cases seq (kP m) []
  .rw[o6,O8 G8,o9,O8 G8,o9,O8 G8,o9,O8 G8,o9,O8 G8,o9,O8 G8,o9,O8 G8,o9,o9,kD];rfl
  .rfl
theorem a2p(hk:k=11\/k=12\/k=13\/k=19\/k=20\/k=21\/k=22\/k=23\/k=24)(a b:J4)(h1:a.1.length<=1000000)(h2:b.1.length<=1000000):EM (k,0) [a,b] N (Ih (k,0) (a.1,a.2.1) (b.1,b.2.1)):=by
 have hl:=a4D k;have hc:1<=(kw k).2/\(kw k).2<=5:=by rcases hk with rfl|rfl|rfl|rfl|rfl|rfl|rfl|rfl|rfl<;>decide
 have w1:=NU (a.1,a.2.1) 4;have w2:=NU (a.1,a.2.1) (kw k).2;have w3:=NU (b.1,b.2.1) ((kw k).2+1);simp only at w1 w2 w3;have hx:X9 (k,0) [a,b] N=l9 (ji k) λ(x:List UInt8×Int)=>
    l7 (D8 x.2 3)
     (l9 (gu a 4) λ(x_2:List UInt8)=>
       l9 (U4 x_2 [32]) λ(x_3:List UInt8)=>
        l9 (U4 x_3 x.1) λ(x_4:List UInt8)=>
         l9 (U4 x_4 [32]) λ(x_5:List UInt8)=>
           l9 (gu b (H8 IntKind.i64 x.2 1)) λ(x_7:List UInt8)=>
            l9 (U4 x_5 x_7) λ(x_8:List UInt8)=>some ((x_8,x.2,false),0))
     (l9 (gu a x.2) λ(x_2:List UInt8)=>
       l9 (U4 x_2 [32]) λ(x_3:List UInt8)=>
        l9 (U4 x_3 x.1) λ(x_4:List UInt8)=>
         l9 (U4 x_4 [32]) λ(x_5:List UInt8)=>
           l9 (gu b (H8 IntKind.i64 x.2 1)) λ(x_7:List UInt8)=>
            l9 (U4 x_5 x_7) λ(x_8:List UInt8)=>some ((x_8,x.2,false),0)):=by
  rcases hk with rfl|rfl|rfl|rfl|rfl|rfl|rfl|rfl|rfl<;>rfl
 have hf:U9 (k,0) N=some 0:=by rcases hk with rfl|rfl|rfl|rfl|rfl|rfl|rfl|rfl|rfl<;>rfl
 have hn:Ar k=false:=by rcases hk with rfl|rfl|rfl|rfl|rfl|rfl|rfl|rfl|rfl<;>rfl
 have hb:SE k=false/\WZ k=false:=by rcases hk with rfl|rfl|rfl|rfl|rfl|rfl|rfl|rfl|rfl<;>exact⟨rfl,rfl⟩
 refine a4p _ hf ?_;rw[hx,b2d,o9];unfold Ih;simp only[hb.1,hb.2,hn,o6,dw (show jh ((kw k).2+1) by unfold jh;omega)];rw[Gm a 4 o5,Gm a _ o5,Gm b _ o5];simp only[o9];cases D8 (kw k).2 3
 .simp only[o6];rw[O8 G8,o9,O8 G8,o9,O8 G8,o9,O8 G8,o9];rfl
 .simp only[o7];rw[O8 G8,o9,O8 G8,o9,O8 G8,o9,O8 G8,o9];rfl
theorem b1E(ha:arF k=2)(hu:m=0\/dM k=some true)(a b:J4)(h1:a.1.length<=1000000)(h2:b.1.length<=1000000):EM (k,m) [a,b] N (Ih (k,m) (a.1,a.2.1) (b.1,b.2.1)):=by
 have hz:¬(k=14\/k=15\/k=16)->m=0:=by
  intro h;rcases hu with h1|h1
  .exact h1
  .exfalso;rcases ar2 ha with rfl|rfl|rfl|rfl|rfl|rfl|rfl|rfl|rfl|rfl|rfl|rfl|rfl|rfl|rfl|rfl|rfl|rfl<;>first|omega|exact absurd h1 C9
 by_cases h:k=14\/k=15\/k=16
 .exact a2r h a b o5 o5
 rw[hz h];by_cases h' :k=17\/k=18\/k=27\/k=28\/k=29\/k=30
 .exact a2q h' a b o5 o5
 .exact a2p (by have:=ar2 ha;omega) a b h1 h2
theorem b1F(hu:m=0\/dM 26=some true)(a b c:J4)(h1:a.1.length<=1000000)(h2:b.1.length<=1000000)(h3:c.1.length<=1000000):EM (26,m) [a,b,c] N (ifX (a.1,a.2.1) (b.1,b.2.1) (c.1,c.2.1)):=by
 have hz:m=0:=by
  rcases hu with h1|h1
  .exact h1
  .exact absurd h1 C9
 rw[hz];refine⟨0,rfl,?_⟩;unfold X9 ifX;simp (disch:=decide) only[O7,O5,o7,o6,o9,lx0,lx1,lx2];rw[O8 G8,o9,O8 G8,o9,O8 G8,o9,O8 G8,o9,O8 G8,o9,o9,kD];rfl
def flS(n:Int×Int)(N:D9):Int:=(U9 n N).getD 0
theorem YH{c:Int}(h:U9 n N=some c):flS n N=c:=by unfold flS;rw[h];rfl
theorem b2q(h:0<=arF k):dM k=some true\/dM k=some false:=by
 rcases arN k with h1|h1
 .obtain⟨j,rfl⟩:=Vx h1;revert h;revert j;decide
 .omega
theorem b2Q(ha:0<=arF k)(hm:m≠0)(hu:dM k=some false):U9 (k,m) N=some 2:=by
 have h3:arF k=0\/arF k=1\/arF k=2\/arF k=3:=by have:=(Oa k).2.2;omega
 have key:U9 (k,m) N=l7 (I4 (D8 m 0)) (some 2) (some 0)->U9 (k,m) N=some 2:=by intro h;rw[h,O5 hm];rfl
 rcases h3 with h|h|h|h
 .rcases ar0 h with rfl|rfl|rfl|rfl|rfl|rfl|rfl|rfl|rfl|rfl|rfl|rfl|rfl|rfl<;>first|exact absurd hu C9|exact key rfl
 .rcases ar1 h with rfl|rfl|rfl|rfl|rfl|rfl<;>first|exact absurd hu C9|exact key rfl
 .rcases ar2 h with rfl|rfl|rfl|rfl|rfl|rfl|rfl|rfl|rfl|rfl|rfl|rfl|rfl|rfl|rfl|rfl|rfl|rfl<;>first|exact absurd hu C9|exact key rfl
 .have:=ar3 h;subst this;exact key rfl
def fmF(a0:List (Int×Int))(a1:D9)(x:List J4×Int):Option (Out (List J4×Int) (List J4) (List UInt8×Int)):=
     l7 (I9 x.2 (x8 a0))
      (l9 (O0 a0 x.2) λ(x_1:Int×Int)=>
       l7 (I4 (D8 x_1.2 0))
        (l9 (dM x_1.1) λ(x_2:Bool)=>
         l7 (I4 x_2) (some (Out.rt ([],2)))
          (l9 (mF x_1.1) λ(x_3:Int)=>
           l7 (ny (N8 IntKind.i64 (x8 x.1) x_3) (x8 x.1) (x8 x.1))
            (l9
             (X9 x_1 (kN x.1 (bY (N8 IntKind.i64 (x8 x.1) x_3)) (bY (x8 x.1))) a1)
             λ(x_4:J4×Int)=>
             l7 (I4 (D8 x_4.2 0)) (some (Out.rt ([],x_4.2)))
              (l7 (ny 0 (N8 IntKind.i64 (x8 x.1) x_3) (x8 x.1))
               (l9 (dE (kN x.1 (bY 0) (bY (N8 IntKind.i64 (x8 x.1) x_3))) [x_4.1])
                λ(x_5:List J4)=>some (Out.nx (x_5,H8 IntKind.i64 x.2 1)))
               none))
            none))
        (l9 (mF x_1.1) λ(x_2:Int)=>
         l7 (ny (N8 IntKind.i64 (x8 x.1) x_2) (x8 x.1) (x8 x.1))
          (l9 (X9 x_1 (kN x.1 (bY (N8 IntKind.i64 (x8 x.1) x_2)) (bY (x8 x.1))) a1)
           λ(x_3:J4×Int)=>
           l7 (I4 (D8 x_3.2 0)) (some (Out.rt ([],x_3.2)))
            (l7 (ny 0 (N8 IntKind.i64 (x8 x.1) x_2) (x8 x.1))
             (l9 (dE (kN x.1 (bY 0) (bY (N8 IntKind.i64 (x8 x.1) x_2))) [x_3.1])
              λ(x_4:List J4)=>some (Out.nx (x_4,H8 IntKind.i64 x.2 1)))
             none))
          none))
      (some (Out.ex x.1))
def fmG(N:D9)(n:Int×Int)(p:List J4)(x:Tx)(i:Nat):Option (Out (List J4×Int) (List J4) (List UInt8×Int)):=
 some (l7 (D8 (flS n N) 0) (.nx (p++[(x.1,x.2,Ar n.1)],((i+1:Nat):Int))) (.rt ([],flS n N)))
variable {i:Nat}{e:List (Int×Int)}
theorem b0G{p args:List J4}{x:Tx}(hn:e[i]? =some n)(hi:i<=1000)(hp:p.length<=1000)(hl:args.length<=3)(ha:arF n.1=(args.length:Int))
  (hr:(n.2=0\/dM n.1=some true)->EM n args N x):fmF e N (p++args,(i:Int))=fmG N n p x i:=by
 have hx:N8 .i64 (x8 (p++args)) (arF n.1)=(p.length:Int):=by rw[cu (by unfold jh x8;simp;omega),ha];unfold x8;simp
 have r1:ny (p.length:Int) (x8 (p++args)) (x8 (p++args))=true:=by unfold ny x8;simp<;>omega
 have r2:ny 0 (p.length:Int) (x8 (p++args))=true:=by unfold ny x8;simp<;>omega
 have v1:kN (p++args) (bY (p.length:Int)) (bY (x8 (p++args)))=args:=by unfold kN bY x8;rw[I7,I7,P9 (F7 _),Y3]
 have v2:kN (p++args) (bY 0) (bY (p.length:Int))=p:=by unfold kN bY;rw[I7,cZ];rfl
 have main:(n.2=0\/dM n.1=some true)->(l9 (mF n.1) λ(x_2:Int)=>
         l7 (ny (N8 IntKind.i64 (x8 (p++args)) x_2) (x8 (p++args)) (x8 (p++args)))
          (l9 (X9 n (kN (p++args) (bY (N8 IntKind.i64 (x8 (p++args)) x_2)) (bY (x8 (p++args)))) N)
           λ(x_3:J4×Int)=>
           l7 (I4 (D8 x_3.2 0)) (some (Out.rt ([],x_3.2)))
            (l7 (ny 0 (N8 IntKind.i64 (x8 (p++args)) x_2) (x8 (p++args)))
             (l9 (dE (kN (p++args) (bY 0) (bY (N8 IntKind.i64 (x8 (p++args)) x_2))) [x_3.1])
              λ(x_4:List J4)=>some (Out.nx (x_4,H8 IntKind.i64 (i:Int) 1)))
             none))
          none)=fmG N n p x i:=by
  intro hu;obtain⟨c,h1,h2⟩:=hr hu;rw[a6w,o9,hx,r1,o7,v1,h2,o9,r2,v2];unfold fmG;rw[YH h1];cases hc:D8 c 0
  .rw[o6];simp only[hc,Z5,o7];rfl
  .rw[o7];simp only[O7 (rfl:(0:Int)=0),E8,o6,o7];rw[zW _ o5,o9,eP o5]
 unfold fmF;simp only[U5 hn,o7,P5,hn,o9];by_cases h0:n.2=0
 .rw[O7 h0,E8,o6];exact main (.inl h0)
 .rw[O5 h0,Z5,o7];rcases b2q (k:=n.1) o5 with hu|hu
  .rw[hu,o9,E8,o6];exact main (.inr hu)
  .rw[hu,o9,Z5,o7];unfold fmG;rw[YH (b2Q (k:=n.1) (m:=n.2) o5 h0 hu)];rfl
def ffS(N:D9):List (Int×Int)->Int
 |[]=>0|n::l=>l7 (D8 (flS n N) 0) (ffS N l) (flS n N)
theorem MV(N:D9):∀a b,ffS N (a++b)=l7 (D8 (ffS N a) 0) (ffS N b) (ffS N a)
 |[],b=>by rw[show ffS N []=0 from rfl,O7 rfl];rfl|n::a,b=>by
  show l7 (D8 (flS n N) 0) (ffS N (a++b)) (flS n N)=l7 (D8 (l7 (D8 (flS n N) 0) (ffS N a) (flS n N)) 0) (ffS N b) (l7 (D8 (flS n N) 0) (ffS N a) (flS n N));rw[MV N a b];cases h:D8 (flS n N) 0
  .simp only[o6,h]
  .simp only[o7]
theorem a7i(hN:NmOk N)(hI:jh n.2):(vC n N).1.length<=3000:=by
 unfold vC;have hw:=xq n.1;have g1:=MZ hN.i n.2;have g2:=MZ hN.d n.2;have g3:=MZ hN.m n.2;have hv:((rQ (n.1,0,n.2) []).getD ([],0)).1.length<=100:=by obtain⟨t,ht,hl⟩:=BU (B:=100) o5 o5 (v:=(n.1,0,n.2)) (en:=[]) hI (λe h=>by cases h);rw[←vJ [] hI,ht];exact hl
 have he:((O0 N.1 (dA .i64 n.2 16)).getD ([],[])).1.length<=1000/\(gtN ((O0 N.1 (dA .i64 n.2 16)).getD ([],[])).2 (jc n.2 16)).length<=1000:=by
  cases hx:O0 N.1 (dA .i64 n.2 16)with
  |none=>exact⟨A7,MZ (B:=1000) (λs h=>by cases h) _⟩|some e=>have:=hN.e e (pF hx).2.2.1;exact⟨this.1,MZ this.2 _⟩
 cases U2 n.1 5
 case true=>simp only[o7];omega
 cases D8 n.1 6
 case true=>simp only[o7,o6];simp;omega
 cases D8 n.1 7
 case true=>simp only[o7,o6];omega
 cases D8 n.1 8
 case true=>simp only[o7,o6];omega
 cases D8 n.1 9
 case true=>simp[l7]
 cases D8 n.1 35
 case true=>simp[l7]
 .simp only[o6];simp;omega
theorem b1c(hN:NmOk N)(b:Bool)(a:Tx):(Ny n N b a).1.length<=a.1.length+3000:=by
 unfold Ny;have hw:=xq n.1;have hm:=OE (jc n.2 8);have g1:=MZ hN.t n.2;have g2:=MZ hN.t (dA .i64 n.2 8);have w:=NU a 6;cases D8 n.1 33
 case true=>simp only[o7];simp;omega
 cases D8 n.1 34
 case true=>simp only[o7,o6];simp;omega
 cases D8 n.1 25
 case true=>simp only[o7,o6];simp;omega
 cases D8 n.1 10
 case true=>simp only[o7,o6];cases b<;>simp<;>omega
 .simp only[o6];simp;omega
theorem b2n(a b:Tx):(Ih n a b).1.length<=a.1.length+b.1.length+3000:=by
 unfold Ih;have hw:=xq n.1;have hm:=OE n.2;have hs:=a4D n.1;have w1:=NU a (l7 (D8 (kw n.1).2 3) 4 (kw n.1).2);have w2:=NU b ((kw n.1).2+1);cases SE n.1
 case true=>simp only[o7];simp;omega
 cases WZ n.1
 case true=>simp only[o7,o6];simp;omega
 .simp only[o6];simp;omega
theorem AO{N:D9}(hN:NmOk N):∀(t:XT),(∀n∈t.post,jh n.2)->(txT N t).1.length<=3000*t.size
 | .l0 n,h=>a7i hN (h n (by simp[XT.post]))| .l1 n a,h=>by have h1:=AO hN a (λm hm=>h m (by simp[XT.post,hm]));have h2:=b1c (n:=n) hN (Ar a.node.1) (txT N a);simp only[txT,XT.size];omega| .l2 n a b,h=>by have h1:=AO hN a (λm hm=>h m (by simp[XT.post,hm]));have h2:=AO hN b (λm hm=>h m (by simp[XT.post,hm]));have h3:=b2n (n:=n) (txT N a) (txT N b);simp only[txT,XT.size];omega| .l3 n a b c,h=>by have h1:=AO hN a (λm hm=>h m (by simp[XT.post,hm]));have h2:=AO hN b (λm hm=>h m (by simp[XT.post,hm]));have h3:=AO hN c (λm hm=>h m (by simp[XT.post,hm]));simp only[txT,XT.size,ifX];simp;omega
theorem bG{σ ε ρ:Type}(f:σ->Option (Out σ ε ρ))(n:Nat)(s:σ):gK f (n+1) s=match f s with|some (.nx s')=>gK f n s'|some (.ex e)=>some (.inl e)|some (.rt r)=>some (.inr r)|none=>none:=by rw[gK]<;>rfl
theorem b0H(he:e.length<=48)(hN:NmOk N)(hI:∀n∈e,jh n.2):∀(t:XT) (pre suf:List (Int×Int)) (p:List J4) (m:Nat),e=pre++t.post++suf->t.wf->p.length+t.size<=60->
  gK (fmF e N) (m+t.size) (p,(pre.length:Int))=l7 (D8 (ffS N t.post) 0) (gK (fmF e N) m (p++[pcT N t],((pre.length+t.size:Nat):Int))) (some (.inr ([],ffS N t.post))):=by
 have stepN:∀(n:Int×Int) (pre suf:List (Int×Int)) (p args:List J4) (x:Tx) (m:Nat),e=pre++[n]++suf->p.length<=60->args.length<=3->arF n.1=(args.length:Int)->((n.2=0\/dM n.1=some true)->EM n args N x)->
   gK (fmF e N) (m+1) (p++args,(pre.length:Int))=l7 (D8 (flS n N) 0) (gK (fmF e N) m (p++[(x.1,x.2,Ar n.1)],((pre.length+1:Nat):Int))) (some (.inr ([],flS n N))):=by
  intro n pre suf p args x m h1 h2 h3 h4 h5;have hn:e[pre.length]? =some n:=by rw[h1,E9,F5 (F7 _),Y9];rfl
  have hlt:=(ai.1 hn).1;rw[bG,b0G hn o5 o5 h3 h4 h5];unfold fmG;cases D8 (flS n N) 0<;>rfl
 intro t;induction t with
 |l0 n=>
  intro pre suf p m h hw hs;have hI1:=hI n (by rw[h];simp[XT.post]);have:=stepN n pre suf p [] (vC n N) m h o5 A7 hw (λhu=>b1C hN hI1 hw hu);rw[E5]at this;rw[show(XT.l0 n).size=1 from rfl,this];unfold XT.post ffS ffS;cases hf:D8 (flS n N) 0
  .simp only[o6,hf]
  .simp only[o7,O7 (rfl:(0:Int)=0)];rfl
 |l1 n a iha=>
  intro pre suf p m h hw hs;simp only[XT.post,XT.size]at h hs ⊢;have hI1:=hI n (by rw[h];simp);have hIa:∀n∈a.post,jh n.2:=λq hq=>hI q (by rw[h];simp[hq]);have hl:=AO hN a hIa;rw[show m+(a.size+1)=(m+1)+a.size by omega,iha pre ([n]++suf) p (m+1) (by rw[h];simp) hw.2 o5,MV];cases hf:D8 (ffS N a.post) 0
  .simp only[o6,hf]
  have:=stepN n (pre++a.post) suf p [pcT N a] (Ny n N (Ar a.node.1) (txT N a)) m (by rw[h];simp) o5 A7 hw.1 (λhu=>b1D hN hI1 hw.1 hu (pcT N a) (by simp only[pcT];omega));rw[show(pre++a.post).length=pre.length+a.size by simp[XT.post_len]]at this;simp only[o7];rw[this];unfold ffS ffS;cases hg:D8 (flS n N) 0
  .simp only[o6,hg]
  .simp only[o7,O7 (rfl:(0:Int)=0)];rfl
 |l2 n a b iha ihb=>
  intro pre suf p m h hw hs;simp only[XT.post,XT.size]at h hs ⊢;have hI1:=hI n (by rw[h];simp);have hIa:∀n∈a.post,jh n.2:=λq hq=>hI q (by rw[h];simp[hq]);have hIb:∀n∈b.post,jh n.2:=λq hq=>hI q (by rw[h];simp[hq]);have hla:=AO hN a hIa;have hlb:=AO hN b hIb;have s1:=a.size_pos;have s2:=b.size_pos;rw[show m+(a.size+b.size+1)=(m+1+b.size)+a.size by omega,iha pre (b.post++[n]++suf) p (m+1+b.size) (by rw[h];simp) hw.2.1 o5,MV,MV];cases hf:D8 (ffS N a.post) 0
  .simp only[o6,hf]
  have i2:=ihb (pre++a.post) ([n]++suf) (p++[pcT N a]) (m+1) (by rw[h];simp) hw.2.2 G8;rw[show(pre++a.post).length=pre.length+a.size by simp[XT.post_len]]at i2;simp only[o7];rw[i2];cases hf2:D8 (ffS N b.post) 0
  .simp only[o6,hf2]
  have:=stepN n (pre++a.post++b.post) suf p [pcT N a,pcT N b] (Ih n (txT N a) (txT N b)) m (by rw[h];simp) o5 A7 hw.1 (λhu=>b1E hw.1 hu (pcT N a) (pcT N b) (by simp only[pcT];omega) (by simp only[pcT];omega));rw[show(pre++a.post++b.post).length=pre.length+a.size+b.size by simp[XT.post_len];omega,show pre.length+a.size+b.size+1=pre.length+(a.size+b.size+1) by omega]at this;simp only[o7];rw[show p++[pcT N a]++[pcT N b]=p++[pcT N a,pcT N b] by simp,this];unfold ffS ffS;cases hg:D8 (flS n N) 0
  .simp only[o6,hg]
  .simp only[o7,O7 (rfl:(0:Int)=0)];rfl
 |l3 n a b c iha ihb ihc=>
  intro pre suf p m h hw hs;simp only[XT.post,XT.size]at h hs ⊢;have hI1:=hI n (by rw[h];simp);have hIa:∀n∈a.post,jh n.2:=λq hq=>hI q (by rw[h];simp[hq]);have hIb:∀n∈b.post,jh n.2:=λq hq=>hI q (by rw[h];simp[hq]);have hIc:∀n∈c.post,jh n.2:=λq hq=>hI q (by rw[h];simp[hq]);have hla:=AO hN a hIa;have hlb:=AO hN b hIb;have hlc:=AO hN c hIc;have s1:=a.size_pos;have s2:=b.size_pos;have s3:=c.size_pos;have h26:=ar3 hw.1;rw[show m+(a.size+b.size+c.size+1)=(m+1+c.size+b.size)+a.size by omega,iha pre (b.post++c.post++[n]++suf) p (m+1+c.size+b.size) (by rw[h];simp) hw.2.1 o5,MV,MV,MV];cases hf:D8 (ffS N a.post) 0
  .simp only[o6,hf]
  have i2:=ihb (pre++a.post) (c.post++[n]++suf) (p++[pcT N a]) (m+1+c.size) (by rw[h];simp) hw.2.2.1 G8;rw[show(pre++a.post).length=pre.length+a.size by simp[XT.post_len]]at i2;simp only[o7];rw[i2];cases hf2:D8 (ffS N b.post) 0
  .simp only[o6,hf2]
  have i3:=ihc (pre++a.post++b.post) ([n]++suf) (p++[pcT N a]++[pcT N b]) (m+1) (by rw[h];simp) hw.2.2.2 G8;rw[show(pre++a.post++b.post).length=pre.length+a.size+b.size by simp[XT.post_len];omega]at i3;simp only[o7];rw[i3];cases hf3:D8 (ffS N c.post) 0
  .simp only[o6,hf3]
  have:=stepN n (pre++a.post++b.post++c.post) suf p [pcT N a,pcT N b,pcT N c] (ifX (txT N a) (txT N b) (txT N c)) m (by rw[h];simp) o5 A7 hw.1 (λhu=>by obtain⟨k,v⟩:=n;simp only at h26 hu;subst h26;exact b1F hu (pcT N a) (pcT N b) (pcT N c) (by simp only[pcT];omega) (by simp only[pcT];omega) (by simp only[pcT];omega))
  rw[show(pre++a.post++b.post++c.post).length=pre.length+a.size+b.size+c.size by simp[XT.post_len];omega,show pre.length+a.size+b.size+c.size+1=pre.length+(a.size+b.size+c.size+1) by omega]at this;simp only[o7];rw[show p++[pcT N a]++[pcT N b]++[pcT N c]=p++[pcT N a,pcT N b,pcT N c] by simp,this];unfold ffS ffS;cases hg:D8 (flS n N) 0
  .simp only[o6,hg]
  .simp only[o7,O7 (rfl:(0:Int)=0)];rfl
def Bg(e:List (Int×Int))(N:D9):List UInt8×Int:=match oK e with
 | .inl x=>([],x.2)| .inr t=>l7 (D8 (ffS N e) 0) ((txT N t).1,0) ([],ffS N e)
theorem a1G(hN:NmOk N)(hI:∀n∈e,jh n.2):pW e N=some (Bg e N):=by
 unfold pW Bf Bg;rw[Ic];unfold Ba;cases h:oK e with
 |inl x=>simp only[o9,O5 (BD h)];rfl|inr t=>
  obtain⟨h1,h2,h3,h4⟩:=a6x h;obtain⟨hp,-⟩:=rY h;simp only[o9,O7 (rfl:(0:Int)=0),E8,o6];have hl:P7 (fmF e N) ([],0)=some (l7 (D8 (ffS N e) 0) (.inl [pcT N t]) (.inr ([],ffS N e))):=by
   unfold P7;rw[show aG=(aG -t.size)+t.size by unfold aG;omega];have:=b0H h2 hN hI t [] [] [] (aG -t.size) (by simp[←hp]) (Gj h) G8;rw[show(([]:List (Int×Int)).length:Int)=0 from rfl]at this;rw[this,←hp];cases D8 (ffS N e) 0
   .rfl
   .simp only[o7];rw[show aG -t.size=(aG -t.size -1)+1 by unfold aG;omega];rw[bG];unfold fmF;simp only[G9,dJ];rw[←h3,show I9 ((e.length:Nat):Int) (x8 e)=false from Y6 e];rfl
  refine X3 hl ?_;rw[o9];cases D8 (ffS N e) 0<;>rfl
theorem Et{l:List (List UInt8)}(hf:U9 n N=l7 (I9 n.2 0) (some 6) (l7 (U2 (x8 l) n.2) (some 6) (some 0)))(h:flS n N=0):O0 l n.2=some (gtN l n.2):=by
 unfold flS at h;rw[hf]at h;by_cases h0:n.2<0
 .rw[dY h0]at h;cases h
 by_cases h1:x8 l<=n.2
 .rw[Y5 o5,Z4 h1]at h;cases h
 exact(Nj o5 o5).1
theorem a3A(hm:jh m)(h:flS (34,m) N=0):O0 N.2.1 (dA .i64 m 8)=some (gtN N.2.1 (dA .i64 m 8))/\0<=jc m 8/\jc m 8<=5:=by
 have hf:U9 (34,m) N=l7 (I9 m 0) (some 6) (l7 (U2 (x8 N.2.1) (dA .i64 m 8)) (some 6) (l7 (I9 5 (jc m 8)) (some 3) (some 0))):=rfl;unfold flS at h;rw[hf]at h;by_cases h0:m<0
 .rw[dY h0]at h;cases h
 by_cases h1:x8 N.2.1<=dA .i64 m 8
 .rw[Y5 o5,Z4 h1]at h;cases h
 by_cases h2:5<jc m 8
 .rw[Y5 o5,dF o5,dY h2]at h;cases h
 have hq:dA .i64 m 8=m / 8:=by rw[OZ hm 8 (.inl rfl),oV o5]
 have hr0:jc m 8=m % 8:=Bh o5;exact⟨(Nj o5 o5).1,o5,o5⟩
theorem a6Y(hk:k=14\/k=15\/k=16)(h:flS (k,m) N=0):0<=m/\m<=5:=by
 have hf:U9 (k,m) N=l7 (I9 m 0) (some 3) (l7 (I9 5 m) (some 3) (some 0)):=by rcases hk with rfl|rfl|rfl<;>rfl
 unfold flS at h;rw[hf]at h;by_cases h0:m<0
 .rw[dY h0]at h;cases h
 by_cases h2:5<m
 .rw[Y5 o5,dY h2]at h;cases h
 omega
theorem YG{N:D9} :∀{l:List (Int×Int)},ffS N l=0->∀n∈l,flS n N=0
 |[],_,n,h=>by cases h|a::l,h,n,hn=>by
  unfold ffS at h;cases hf:D8 (flS a N) 0
  .rw[hf]at h;rw[o6]at h;exact absurd h (wQ.1 hf)
  .rw[hf]at h;rw[o7]at h;rcases x9.1 hn with rfl|hn
   .exact iK.1 hf
   .exact YG h n hn
theorem a3C(hN:NmOk N)(hI:∀n∈e,jh n.2):(Bg e N).1.length<=150000:=by
 unfold Bg;cases h:oK e with
 |inl x=>simp|inr t=>
  obtain⟨hp,h48⟩:=rY h;have:=AO hN t (by rw[←hp];exact hI);rw[←t.post_len,←hp]at this;simp only;cases D8 (ffS N e) 0
  .simp[l7]
  .simp only[o7];omega
theorem a6B{a:List U6}(h:a.length<=1000000)(h2:∀e∈a,e.2.length<=1000000):wV a=some a:=by
 unfold wV;refine X3 (a1J a (λe=>e) h (F:=λx=>x) (λi e acc he hi=>?_) (λacc=>?_)) ?_
 rotate_left 2
 .rw[o9,List.map_id']
 .have hlt:=(ai.1 he).1;simp only[U5 he,o7,P5,he,o9,a1q (h2 e (sV he))];rw[zW _ o5];rfl
 .simp only[Y6 a,o6]
theorem a1H{l:List dL}(h:l.length<=1000000):lU l=some (l.map (·.1)):=by
 unfold lU;refine X3 (a1J l (λ(f:dL)=>f.1) h (F:=λx=>x) (λi e acc he hi=>?_) (λacc=>?_)) ?_
 rotate_left 2
 .rfl
 .have hlt:=(ai.1 he).1;simp only[U5 he,o7,P5,he,o9];rw[zW _ o5];rfl
 .simp only[Y6 l,o6]
def nmS(l:Z7)(s:J8):D9:=(l.1,l.2.1.map (·.1),s.2.2.1.map (·.1),s.2.2.2.1.map (·.1),l7 (U2 0 s.2.1) (match O0 l.2.2 s.2.1 with|some q=>q.2.2.2.1.map (·.1)|none=>[]) [])
structure NmL (l:Z7):Prop where
 ne:l.1.length<=9
 nt:l.2.1.length<=9
 e:∀e∈l.1,e.2.length<=20/\e.1.length<=80/\∀m∈e.2,m.length<=80
 t:∀t∈l.2.1,t.1.length<=80
 s:∀s∈l.2.2,s.2.2.1.length<=14/\s.2.2.2.1.length<=14/\s.2.2.2.2.length<=60/\(∀f∈s.2.2.1,f.1.length<=80)/\(∀f∈s.2.2.2.1,f.1.length<=80)/\∀r∈s.2.2.2.2,r.1.length<=80
variable {l:Z7}
theorem b3Q(h:smL l=true)(hW:WfL l):NmL l:=by
 unfold smL at h;obtain⟨h1,h⟩:=Ff h;obtain⟨h2,h⟩:=Ff h;obtain⟨h3,h⟩:=Ff h;obtain⟨h4,h⟩:=Ff h;cases ht:wP tG l.2.1 0 with
 |inr r=>rw[ht]at h;cases h|inl b=>
  rw[ht]at h;simp only at h;cases hs:wP sG l.2.2 0 with
  |inr r=>rw[hs]at h;cases h|inl b' =>
   have T:=a2V l.2.1 0 b o5 o5 hW.rl ht;have S:=a2F l.2.2 0 b' o5 o5 hW.sl hs;refine⟨gG (n:=9) h1,gG (n:=9) h2,λe he=>?_,λt ht=>(T t ht).1,λs hs=>?_⟩
   .have hl:=LC h4 e he;unfold XC at hl;cases g1:I9 80 (x8 e.1)<;>rw[g1]at hl
    case true=>cases hl
    cases g2:I9 20 (x8 e.2)<;>rw[g2]at hl
    case true=>cases hl
    refine⟨gG (n:=20) g2,gG (n:=80) g1,λm hm=>?_⟩;have:=LC (p:=λm=>I9 80 (x8 m)) hl m hm;exact gG (n:=80) this
   .have h:=S s hs;unfold smS at h;obtain⟨a1,h⟩:=Ff h;obtain⟨a2,h⟩:=Ff h;obtain⟨a3,h⟩:=Ff h;obtain⟨a4,h⟩:=Ff h;obtain⟨a5,h⟩:=Ff h;obtain⟨a6,h⟩:=Ff h;have a7:s.2.2.2.2.any LX=false:=by revert h;cases s.2.2.2.2.any LX<;>intro h<;>first|rfl|cases h
    refine⟨gG (n:=14) a2,gG (n:=14) a3,gG (n:=60) a4,λf hf=>gG (n:=80) (LC a5 f hf),λf hf=>gG (n:=80) (LC a6 f hf),λr hr=>?_⟩;have hl:=LC a7 r hr;unfold LX at hl;cases g1:I9 80 (x8 r.1)<;>rw[g1]at hl
    case true=>cases hl
    exact gG (n:=80) g1
theorem c2G(h:NmL l){s:J8}(hs:s∈l.2.2):NmOk (nmS l s):=by
 obtain⟨s1,s2,s3,s4,s5,s6⟩:=h.s s hs;refine⟨λe he=>?_,λx hx=>?_,λx hx=>?_,λx hx=>?_,λx hx=>?_⟩
 .have:=h.e e he;exact⟨o5,λm hm=>by have:=this.2.2 m hm;omega⟩
 .obtain⟨t,ht,rfl⟩:=X7.1 hx;have:=h.t t ht;omega
 .obtain⟨f,hf,rfl⟩:=X7.1 hx;have:=s4 f hf;omega
 .obtain⟨f,hf,rfl⟩:=X7.1 hx;have:=s5 f hf;omega
 .unfold nmS at hx;simp only at hx;cases g:U2 0 s.2.1<;>rw[g]at hx
  .cases hx
  .simp only[o7]at hx;split at hx
   .rename_i q hq;obtain⟨f,hf,rfl⟩:=X7.1 hx;have:=(h.s q (pF hq).2.2.1).2.2.2.2.1 f hf;omega
   .cases hx
theorem a5P(h:NmL l){s:J8}(hs:O0 l.2.2 k=some s):pG l k=some (nmS l s):=by
 obtain⟨k0,k1,hm,-⟩:=pF hs;obtain⟨s1,s2,-⟩:=h.s s hm;have nt:=h.nt;unfold pG;rw[Y5 k0,dF k1,o6,o6,o9,Y2,hs,o9,a1H o5,o9,a1H o5,o9];refine wW l.2.1 (λ(b:D9) (t:ax)=>((b.1,b.2.1++[t.1],b.2.2):D9)) (λb i=>(b,i)) (λb=>b) (λi b=>b.2.1.length=i) (l.1,[],s.2.2.1.map (·.1),s.2.2.2.1.map (·.1),[]) o5 rfl (λi t b hx hi hI=>?_) (λb _=>?_) (λ_=>?_)
 .have hlt:=(ai.1 hx).1;simp only[U5 hx,o7,P5,hx,o9];rw[zW _ o5,o9,eP o5];exact⟨rfl,by simp;omega⟩
 .simp only[Y6 l.2.1,o6]
 .have e:∀(L:List ax) (b:D9),L.foldl (λ(b:D9) (t:ax)=>((b.1,b.2.1++[t.1],b.2.2):D9)) b=(b.1,b.2.1++L.map (·.1),b.2.2):=by
   intro L;induction L with
   |nil=>intro b;simp|cons t L ih=>intro b;rw[az,ih];simp
  rw[e];unfold nmS;cases g:U2 0 s.2.1
  .simp[l7]
  .by_cases g2:s.2.1<x8 l.2.2
   .obtain⟨q,hq,hmq⟩:=tY (jF.1 g) g2;have:=(h.s q hmq).2.1;rw[dY g2,hq];simp only[o7,o9];rw[a1H o5,o9];simp
   .rw[Y5 (vg.1 g2)];have:O0 l.2.2 s.2.1=none:=by
     cases hq:O0 l.2.2 s.2.1 with
     |none=>rfl|some q=>exact absurd (pF hq).2.1 g2
    rw[this];simp[l7]
theorem Y_(h:NmL l){s:J8}(hs:O0 l.2.2 k=some s):jV l k=some (nmS l s):=by rw[Wn (a6B (by have:=h.ne;omega) (λe he=>by have:=(h.e e he).1;omega)) k];exact a5P h hs
theorem c4B(h:(jA l).1=0):jA l=(0,0,0,0):=by
 unfold jA at h ⊢;cases h1:D8 (Ae l).1 0<;>rw[h1]at h
 .simp only[o6]at h;rw[O7 h]at h1;cases h1
 cases h2:D8 (yD l).1 0<;>rw[h2]at h
 .simp only[o7,o6]at h;rw[O7 h]at h2;cases h2
 simp only[o7]at h ⊢;unfold Lh at h ⊢;cases h3:I9 4 (x8 l.2.2)<;>rw[h3]at h
 case true=>exact absurd (show(4:Int)=0 from h) C9
 simp only[o6]at h ⊢;cases hf:dV l.2.2.length (Hz l)with
 |none=>rfl|some r=>
  rw[hf]at h;simp only at h;obtain⟨j,hj,hp⟩:=mG hf;unfold Hz at hp;cases hq:l.2.2[j]? with
  |none=>rw[hq]at hp;cases hp|some q=>
   rw[hq]at hp;simp only at hp;unfold MS at hp;exact absurd h (by cases he:D8 (EX l j q).1 0<;>rw[he]at hp<;>cases hp;simp only;intro h4;rw[O7 h4]at he;cases he)
variable {s:List UInt8}
theorem Vf(P:UInt8->Bool){f:Int->Option (Int⊕Int)}(hl:s.length<=1000000)
  (h1:∀(i:Nat) (c:UInt8),s[i]? =some c->f (i:Int)=some (l7 (P c) (.inl ((i+1:Nat):Int)) (.inr (i:Int)))) (h2:∀i:Nat,s.length<=i->f (i:Int)=some (.inr (i:Int))) (a:Nat):
  dC f (a:Int)=some (((a+((s.drop a).takeWhile P).length:Nat)):Int):=by
 have key:∀(n a k:Nat),s.length -a<=n->n<k->yK f k (a:Int)=some (((a+((s.drop a).takeWhile P).length:Nat)):Int):=by
  intro n;induction n with
  |zero=>intro a k h hk;obtain⟨k,rfl⟩:∃m,k=m+1:=⟨k -1,o5⟩;rw[QA (h2 a o5),X0 o5];rfl
  |succ n ih=>
   intro a k h hk;obtain⟨k,rfl⟩:∃m,k=m+1:=⟨k -1,o5⟩;by_cases hlt:a<s.length
   .have hc:=sF hlt;have:=h1 a _ hc;rw[aj hlt];cases hp:P s[a]
    .rw[hp,o6]at this;rw[QA this,List.takeWhile_cons_of_neg (by rw[hp];simp)];rfl
    .rw[hp,o7]at this;rw[a5p this,ih (a+1) k o5 o5,List.takeWhile_cons_of_pos hp];congr 2;simp only[A8];omega
   .rw[QA (h2 a o5),X0 o5];rfl
 exact key (s.length -a) a aG o5 (by unfold aG;omega)
theorem a1V(h:s.length<=1000000):nV s=some ((s.takeWhile yg).length:Int):=by
 unfold nV;have:=Vf yg h (f:=λ(x:Int)=>l7 (I9 x (x8 s)) (l9 (sat s x) λx_1=>l9 (mi x_1) λx_2=>l7 x_2 (some (Sum.inl (H8 IntKind.i64 x 1)))
   (l9 (sat s x) λx_3=>l9 (je x_3) λx_4=>l7 x_4 (some (Sum.inl (H8 IntKind.i64 x 1))) (l9 (sat s x) λx_5=>l7 (D8 x_5 95) (some (Sum.inl (H8 IntKind.i64 x 1))) (some (Sum.inr x))))) (some (Sum.inr x)))
  (λi c hc=>by have hlt:=(ai.1 hc).1;simp only[U5 hc,o7,xK,hc,aA,o9,FI,Jf,b2I];rw[eP o5];have hw:yg c=(GX c || wF c || decide (c.toNat=95)):=rfl;rw[hw];cases GX c<;>cases wF c<;>cases decide (c.toNat=95)<;>rfl)
  (λi hi=>by rw[Y5 (by unfold x8;omega)];rfl) 0
 rw[vG];rw[show((0:Nat):Int)=0 from rfl]at this;rw[this];simp
theorem qy(h:s.length<=1000000)(a:Nat)(ha:a<=1000000):lu s (a:Int)=some (((s.drop a).takeWhile wF).length:Int):=by
 unfold lu;have:=Vf wF h (f:=λ(x:Int)=>
   l7 (I9 x (x8 s))
    (l9 (sat s x) λ(x_1:Int)=>
     l9 (je x_1) λ(x_2:Bool)=>
      l7 x_2 (some (Sum.inl (H8 IntKind.i64 x 1))) (some (Sum.inr x)))
    (some (Sum.inr x)))
  (λi c hc=>by have hlt:=(ai.1 hc).1;simp only[U5 hc,o7,xK,hc,aA,o9,Jf];rw[eP o5];cases wF c<;>rfl)
  (λi hi=>by rw[Y5 (by unfold x8;omega)];rfl) a
 refine X3 this ?_;have hl:((s.drop a).takeWhile wF).length<=1000000:=by have:=(List.takeWhile_sublist wF (l:=s.drop a)).length_le;simp at this;omega
 rw[o9,cu bg];congr 1;omega
def HdN(P:UInt8->Bool)(r:List UInt8):Prop:=∀c t,r=c::t->P c=false
variable {r:List UInt8}{w:List UInt8}
theorem Ig{P:UInt8->Bool}(hw:∀c∈w,P c=true)(hr:HdN P r):(w++r).takeWhile P=w:=by
 induction w with
 |nil=>
  cases r with
  |nil=>rfl|cons c t=>rw[G7,List.takeWhile_cons_of_neg (by rw[hr c t rfl];simp)]
 |cons c w ih=>rw[H7,List.takeWhile_cons_of_pos (hw c A7),ih (λd hd=>hw d (by simp[hd]))]
def PZ(c:UInt8):Bool:=decide (c=32) || decide (c=9) || decide (c=35)
theorem JV(c:UInt8)(k:Nat)(hk:k<256):D8 (c.toNat:Int) (k:Int)=decide (c=UInt8.ofNat k):=by
 unfold D8;rw[decide_eq_decide];constructor
 .intro h;apply UInt8.toNat_inj.1;rw[UInt8.toNat_ofNat'];omega
 .intro h;have:=congrArg UInt8.toNat h;rw[UInt8.toNat_ofNat']at this;omega
theorem Yd(hl:s.length<=1000000)(h:HdN PZ (s.drop i))(hi:i<=s.length):∀k,gK (λ(x:Int×Bool)=>
   l7 (I9 x.1 (x8 s))
    (l9 (sat s x.1) λ(x_1:Int)=>
     l7 x.2 (l7 (D8 x_1 10) (some (Out.rt x.1)) (some (Out.nx (H8 IntKind.i64 x.1 1,x.2))))
      (l7 (D8 x_1 35) (some (Out.nx (H8 IntKind.i64 x.1 1,true)))
       (l7 (I4 (D8 x_1 32))
        (l7 (I4 (D8 x_1 9)) (some (Out.rt x.1)) (some (Out.nx (H8 IntKind.i64 x.1 1,x.2))))
        (some (Out.nx (H8 IntKind.i64 x.1 1,x.2))))))
    (some (Out.ex x.1))) (k+1) ((i:Int),false)=some (.inl (i:Int))\/gK (λ(x:Int×Bool)=>
   l7 (I9 x.1 (x8 s))
    (l9 (sat s x.1) λ(x_1:Int)=>
     l7 x.2 (l7 (D8 x_1 10) (some (Out.rt x.1)) (some (Out.nx (H8 IntKind.i64 x.1 1,x.2))))
      (l7 (D8 x_1 35) (some (Out.nx (H8 IntKind.i64 x.1 1,true)))
       (l7 (I4 (D8 x_1 32))
        (l7 (I4 (D8 x_1 9)) (some (Out.rt x.1)) (some (Out.nx (H8 IntKind.i64 x.1 1,x.2))))
        (some (Out.nx (H8 IntKind.i64 x.1 1,x.2))))))
    (some (Out.ex x.1))) (k+1) ((i:Int),false)=(some (.inr (i:Int)):Option (Int⊕Int)):=by
 intro k;rw[bG];by_cases hlt:i<s.length
 .right;have hc:=sF hlt;have hb:=h s[i] (s.drop (i+1)) (aj hlt);unfold PZ at hb;simp only[aX,decide_eq_false_iff_not]at hb;simp only[U5 hc,o7,xK,hc,aA,o9,o6];rw[show D8 ((s[i].toNat:Nat):Int) 35=false from(JV _ 35 o5).trans (decide_eq_false hb.2),show D8 ((s[i].toNat:Nat):Int) 32=false from(JV _ 32 o5).trans (decide_eq_false hb.1.1),show D8 ((s[i].toNat:Nat):Int) 9=false from(JV _ 9 o5).trans (decide_eq_false hb.1.2)];rfl
 .left;rw[Y5 (by unfold x8;simp only;omega)];rfl
theorem We(hl:s.length<=1000000)(h:HdN PZ (s.drop i))(hi:i<=s.length):sK s (i:Int)=some (i:Int):=by unfold sK P7;rw[show aG=(aG -1)+1 by unfold aG;omega];rcases Yd hl h hi (aG -1)with h|h<;>refine X3 h ?_<;>rfl
theorem a9f(hl:s.length<=1000000)(h0:s[i]? =some 32)(h:HdN PZ (s.drop (i+1))):sK s (i:Int)=some ((i+1:Nat):Int):=by
 have hlt:=(ai.1 h0).1;unfold sK P7;rw[show aG=(aG -2)+1+1 by unfold aG;omega];rcases Yd hl h o5 (aG -2)with h|h
 all_goals
  rw[bG];simp only[U5 h0,o7,xK,h0,aA,o9,o6,show D8 (((32:UInt8).toNat:Nat):Int) 35=false from rfl,show D8 (((32:UInt8).toNat:Nat):Int) 32=true from rfl,E8];rw[eP o5];refine X3 h ?_;rfl
abbrev X4:Type:=Int×List UInt8×Int
def uF(k:X4)(w r:List UInt8):Prop:=sJ (w++r)=some ((k.1,k.2.1,k.2.2,0),((w.length:Nat):Int),0)
variable {c:UInt8}
theorem a7k(h:GX c=true):97<=c.toNat/\c.toNat<=122:=by unfold GX at h;simp at h;omega
theorem Je(h:wF c=true):48<=c.toNat/\c.toNat<=57:=by unfold wF at h;simp at h;omega
theorem a5X(h0:∃c t,w=c::t/\GX c=true)(hw:∀c∈w,yg c=true)(h16:w.length<=16)(hr:HdN yg r)(hl:(w++r).length<=1000000):uF (1,w,0) w r:=by obtain⟨c,t,rfl,hc⟩:=h0;have hb:=a7k hc;unfold uF sJ;rw[show sat (c::t++r) 0=some (c.toNat:Int)from rfl,o9,O5 o5,o6,FI,hc,o9,o7];unfold DF;rw[a1V hl,o9,Ig hw hr,Y5 o5,o6,zC o5 G8,o9,o9];rw[I7,cZ]
theorem a0E(hc:c=40\/c=41\/c=44\/c=58\/c=43\/c=45\/c=42)(r:List UInt8):uF (7,[c],0) [c] r:=by
 unfold uF;have hs:fP ([c]++r) 0 1=some [c]:=by rw[zC o5 G8];rfl
 rcases hc with rfl|rfl|rfl|rfl|rfl|rfl|rfl
 all_goals
  unfold sJ;generalize hx:fP _ 0 1=q at hs;subst hs;rfl
theorem VZ(hc:c=60\/c=61\/c=33)(r:List UInt8)(hl:r.length<=1000000):uF (7,[c,61],0) [c,61] r:=by
 unfold uF;have h1:fP ([c,61]++r) 1 (x8 ([c,61]++r))=some (61::r):=by rw[qF o5 G8];rfl
 have h2:fP ([c,61]++r) 0 2=some [c,61]:=by rw[zC o5 G8];rfl
 have h3:bf (61::r) [61]=some true:=by unfold bf kW Lib.hasPrefix;simp[List.isPrefixOf]
 rcases hc with rfl|rfl|rfl
 all_goals
  unfold sJ;rw[h1,h2];simp only[o9,h3];rfl
theorem b2a(r:List UInt8)(hl:r.length<=1000000)(hr:HdN (λc=>decide (c=61)) r):uF (7,[60],0) [60] r:=by
 unfold uF;have h1:fP ([60]++r) 1 (x8 ([60]++r))=some r:=by rw[qF o5 G8];rfl
 have h2:fP ([60]++r) 0 1=some [60]:=by rw[zC o5 G8];rfl
 have h3:bf r [61]=some false:=by
  unfold bf kW Lib.hasPrefix;cases r with
  |nil=>rfl
  |cons c t=>have:=hr c t rfl;simp only[decide_eq_false_iff_not]at this;simp[List.isPrefixOf];exact λh=>this h.symm
 unfold sJ;rw[h1,h2];simp only[o9,h3];rfl
def oL(v:Nat)(l:List UInt8):Nat:=l.foldl (λa c=>10*a+(c.toNat -48)) v
theorem PS:∀(l:List UInt8) (v:Nat),v<=oL v l
 |[],v=>F7 _|c::l,v=>by have:=PS l (10*v+(c.toNat -48));unfold oL at this ⊢;rw[az];omega
theorem BI(a b:List UInt8)(v:Nat):oL v (a++b)=oL (oL v a) b:=by unfold oL;rw[List.foldl_append]
theorem BJ(u:Nat):oL 0 (Lib.decDigits u)=u:=by
 induction u using Nat.strongRecOn with
 |_ u ih=>
  rw[Lib.decDigits];by_cases h:u<10
  .rw[dif_pos h];show 10*0+((UInt8.ofNat (48+u)).toNat -48)=u;simp;omega
  .rw[dif_neg h,BI,ih (u / 10) o5];unfold oL;simp;omega
theorem Yz(u:Nat):∀c r,Lib.decDigits u=c::r->10<=u->c≠48:=by
 induction u using Nat.strongRecOn with
 |_ u ih=>
  intro c r e h;rw[Lib.decDigits,dif_neg o5]at e;by_cases h2:u / 10<10
  .rw[Lib.decDigits,dif_pos h2]at e;simp only[H7,G7,F8]at e;rw[←e.1];intro e3;have:=congrArg UInt8.toNat e3;simp at this;omega
  .cases hd:Lib.decDigits (u / 10)with
   |nil=>have:=(Lib.decDigits_length (u / 10)).symm.trans (congrArg List.length hd);have:=Lib.nDigits_pos (u / 10);simp_all|cons c' r' =>rw[hd]at e;simp only[H7,F8]at e;rw[←e.1];exact ih (u / 10) o5 c' r' hd o5
def Dg(l:List UInt8):Prop:=∀c∈l,wF c=true
theorem Ad(u:Nat):Dg (Lib.decDigits u):=λc hc=>by have:=Jd hc;unfold wF;simp;omega
theorem Di(h:s[i]? =some c)(hc:c.toNat<128):uA s (i:Int)=(c.toNat:Int)/\yf s (i:Int)=((i+1:Nat):Int):=by
 have hlt:=(ai.1 h).1;have hg:(ByteArray.mk s.toArray).get! i=c:=by
  unfold ByteArray.get!;have:(s.toArray)[i]! =c:=by simp[h]
  exact this
 have hd:Utf8.decode ⟨s.toArray⟩ i=(c.toNat,1):=by unfold Utf8.decode;simp only[aU,hg];rw[if_pos o5]
 unfold uA yf;rw[I7,hd];refine⟨rfl,A7⟩
def npF(p:Int)(x:Int×Bool×List UInt8×Int):Option (Out (Int×Bool×List UInt8×Int) (Int×Bool) (Int×Int)):=
        l7 (I9 x.2.2.2 (x8 x.2.2.1))
         (l7 (D8 x.2.2.2 p)
          (l7 (I4 (D8 (uA x.2.2.1 x.2.2.2) 46)) (some (Out.rt (0,2)))
           (some (Out.nx (x.1,x.2.1,x.2.2.1,yf x.2.2.1 x.2.2.2))))
          (l9 (vF (uA x.2.2.1 x.2.2.2)) λ(x_3:Bool)=>
           l7 (I4 x_3) (some (Out.rt (0,2)))
            (l7 x.2.1 (some (Out.nx (x.1,true,x.2.2.1,yf x.2.2.1 x.2.2.2)))
             (l7 (I9 461168601842738790 x.1)
              (some (Out.nx (x.1,true,x.2.2.1,yf x.2.2.1 x.2.2.2)))
              (some
               (Out.nx
                (H8 IntKind.i64 (Qu IntKind.i64 x.1 10)
                  (wrap IntKind.i64 (N8 IntKind.i32 (uA x.2.2.1 x.2.2.2) 48)),
                 I9 4611686018427387904
                  (H8 IntKind.i64 (Qu IntKind.i64 x.1 10)
                   (wrap IntKind.i64 (N8 IntKind.i32 (uA x.2.2.1 x.2.2.2) 48))),
                 x.2.2.1,yf x.2.2.1 x.2.2.2)))))))
         (some (Out.ex (x.1,x.2.1)))
theorem Aq{s:List UInt8}{p:Nat} :∀(g pre suf:List UInt8) (v m:Nat),s=pre++g++suf->Dg g->(p<pre.length\/pre.length+g.length<=p)->oL v g<=100000000000000000->
  gK (npF (p:Int)) (m+g.length) ((v:Int),false,s,(pre.length:Int))=gK (npF (p:Int)) m ((oL v g:Int),false,s,((pre.length+g.length:Nat):Int))
 |[],pre,suf,v,m,h,hg,hp,hv=>rfl|c::g,pre,suf,v,m,h,hg,hp,hv=>by
  have hc:s[pre.length]? =some c:=by rw[h,E9,F5 (F7 _),Y9];rfl
  have hd:=hg c A7;have hb:=Je hd;obtain⟨r1,r2⟩:=Di hc o5;have hv1:=PS g (10*v+(c.toNat -48));rw[show oL v (c::g)=oL (10*v+(c.toNat -48)) g from rfl]at hv;have hw:wrap .i64 (N8 .i32 (c.toNat:Int) 48)=((c.toNat -48:Nat):Int):=by
   have h1:N8 .i32 (c.toNat:Int) 48=((c.toNat -48:Nat):Int):=by unfold N8 IntKind.wrap;simp[IntKind.signed,IntKind.bits];omega
   rw[h1];exact zS bg
  have hnd:vF (c.toNat:Int)=some true:=by unfold vF;rw[Z4 o5,Z4 o5];rfl
  have st:npF (p:Int) ((v:Int),false,s,(pre.length:Int))=some (.nx (((10*v+(c.toNat -48):Nat):Int),false,s,((pre.length+1:Nat):Int))):=by unfold npF;simp only[U5 hc,o7,r1,r2,hnd,o9,E8,o6,hw];rw[O5 (by simp at hp;omega),o6,Y5 o5,o6,Jm bg,dw bg,Y5 o5];congr 3;omega
  rw[A8,show m+(g.length+1)=(m+g.length)+1 by omega,bG,st];have:=Aq (s:=s) (p:=p) g (pre++[c]) suf (10*v+(c.toNat -48)) m (by rw[h];simp) (λd hd=>hg d (by simp[hd])) (by simp at hp ⊢;omega) hv;rw[show(pre++[c]).length=pre.length+1 by simp]at this;rw[show pre.length+(g.length+1)=pre.length+1+g.length by omega];exact this
theorem b2C{b:UInt8}(h:HdN (λc=>decide (c=b)) w):pM w [b]=some (w,false):=by
 unfold pM pz kW Lib.hasPrefix;cases w with
 |nil=>rfl|cons c t=>
  have:=h c t rfl;simp only[decide_eq_false_iff_not]at this;have e:[b].isPrefixOf (c::t)=false:=by simp[List.isPrefixOf];exact λh=>this h.symm
  rw[e];rfl
variable {d:List UInt8}
theorem b2E{b:UInt8}(hd:Dg d)(h:d≠[])(hb:wF b=false):HdN (λc=>decide (c=b)) (d++r):=by
 cases d with
 |nil=>exact absurd rfl h|cons c t=>intro x y e;simp only[H7,F8]at e;have:=hd c A7;rw[decide_eq_false_iff_not];intro hx;rw[←hx,←e.1,this]at hb;cases hb
def NoZ(d:List UInt8):Prop:=1<d.length->∀c t,d=c::t->c≠48
theorem Nw(hz:NoZ d)(h:d≠[])(a b:α):(l7 (I9 1 (d.length:Int)) (l9 (sat (d++r) 0) λ(x:Int)=>l7 (D8 x 48) (some a) (some b)) (some b))=some b:=by
 by_cases h1:1<d.length
 .cases d with
  |nil=>exact absurd rfl h|cons c t=>have:=hz h1 c t rfl;rw[dY o5,o7,show sat (c::t++r) 0=some (c.toNat:Int)from rfl,o9];rw[show D8 (c.toNat:Int) 48=false from(JV c 48 o5).trans (decide_eq_false this)];rfl
 .rw[Y5 o5];rfl
theorem Zc{p:Int}{v:Int}(m:Nat):gK (npF p) (m+1) (v,false,s,(s.length:Int))=some (.inl (v,false)):=by rw[bG];unfold npF;simp only[Y6 s,o6]
theorem a7N(hd:Dg d)(h1:d≠[])(hz:NoZ d)(hv:oL 0 d<=100000000000000000)(hl:d.length<=1000):lw d 0=some ((oL 0 d:Int),0):=by
 have hne:1<=d.length:=by cases d with|nil=>exact absurd rfl h1|cons c t=>simp
 have hc:=b2E (r:=[]) hd h1 (show wF 45=false by decide);rw[E5]at hc;unfold lw;rw[b2C hc,o9];simp only[Y5 (show(0:Int)<=0 by omega),o6,o9];rw[show x8 d=(d.length:Int)from rfl,Y5 o5,o6];have hz2:=Nw (r:=[]) hz h1 (Sum.inr (0,2):PUnit⊕(Int×Int)) (Sum.inl PUnit.unit);rw[E5]at hz2;refine X3 hz2 ?_;rw[o9,Y2];have lp:P7 (npF (d.length:Int)) (0,false,d,0)=some (.inl ((oL 0 d:Int),false)):=by unfold P7;rw[show aG=(aG -1 -d.length)+1+d.length by unfold aG;omega];have:=Aq (s:=d) (p:=d.length) d [] [] 0 (aG -1 -d.length+1) A7 hd (.inr A7) hv;rw[show(([]:List UInt8).length:Int)=0 from rfl,show((0:Nat):Int)=0 from rfl]at this;rw[this];have:=Zc (s:=d) (p:=(d.length:Int)) (v:=(oL 0 d:Int)) (aG -1 -d.length);rw[show(([]:List UInt8).length+d.length)=d.length by simp];exact this
 refine X3 lp ?_;rfl
theorem a2e{d f:List UInt8}(hd:Dg d)(hf:Dg f)(h1:d≠[])(hz:NoZ d)(hk:1<=f.length)(hv:oL 0 (d++f)<=100000000000000000)(hl:d.length+f.length<=1000):lw (d++46::f) (f.length:Int)=some ((oL 0 (d++f):Int),0):=by
 have hne:1<=d.length:=by cases d with|nil=>exact absurd rfl h1|cons c t=>simp
 have hc:=b2E (r:=46::f) hd h1 (show wF 45=false by decide);unfold lw;rw[b2C hc,o9];have hp:(l7 (I9 0 (f.length:Int)) (some (N8 IntKind.i64 (x8 (d++46::f)) (H8 IntKind.i64 (f.length:Int) 1))) (some (x8 (d++46::f))))=some (d.length:Int):=by rw[dY o5,o7,dw bg,cu (by unfold jh x8;simp;omega)];congr 1;unfold x8;simp<;>omega
 refine X3 hp ?_;rw[o9,Y5 o5,o6];refine X3 (Nw hz h1 (Sum.inr (0,2):PUnit⊕(Int×Int)) (Sum.inl PUnit.unit)) ?_;rw[o9,Y2];have hv1:oL 0 d<=oL 0 (d++f):=by rw[BI];exact PS _ _
 have lp:P7 (npF (d.length:Int)) (0,false,d++46::f,0)=some (.inl ((oL 0 (d++f):Int),false)):=by
  unfold P7;rw[show aG=(aG -2 -d.length -f.length)+1+f.length+1+d.length by unfold aG;omega];have a1:=Aq (s:=d++46::f) (p:=d.length) d [] (46::f) 0 (aG -2 -d.length -f.length+1+f.length+1) A7 hd (.inr A7) o5;rw[show(([]:List UInt8).length:Int)=0 from rfl,show((0:Nat):Int)=0 from rfl,show(([]:List UInt8).length+d.length)=d.length by simp]at a1;rw[a1,bG];have h46:(d++46::f)[d.length]? =some 46:=by rw[F5 (F7 _),Y9];rfl
  obtain⟨r1,r2⟩:=Di h46 C9;have st:npF (d.length:Int) ((oL 0 d:Int),false,d++46::f,(d.length:Int))=some (.nx ((oL 0 d:Int),false,d++46::f,((d.length+1:Nat):Int))):=by unfold npF;simp only[U5 h46,o7,r1,r2,O7 (rfl:(d.length:Int)=(d.length:Int))];rfl
  rw[st];have a2:=Aq (s:=d++46::f) (p:=d.length) f (d++[46]) [] (oL 0 d) (aG -2 -d.length -f.length+1) A7 hf (.inl A7) (by rw[←BI];exact hv);rw[←BI]at a2;simp only[D6,mM]at a2;simp only;rw[a2];have:=Zc (s:=d++46::f) (p:=(d.length:Int)) (v:=(oL 0 (d++f):Int)) (aG -2 -d.length -f.length);rw[show(d++46::f).length=d.length+1+f.length by simp;omega]at this;exact this
 refine X3 lp ?_;rfl
def UB(c:UInt8):Bool:=GX c || (decide (65<=c.toNat)&&decide (c.toNat<=90)) || wF c || decide (c=95) || decide (c=46)
theorem Vu(hd:Dg d)(hr:HdN wF r)(hr2:HdN (λc=>decide (c=45)) r)(hl:(d++r).length<=1000000):qE (d++r)=some false:=by
 unfold qE;have e0:=qy hl 0 o5;rw[bi,Ig hd hr]at e0;rw[show((0:Nat):Int)=0 from rfl]at e0;rw[e0,o9];by_cases h4:d.length=4
 .rw[O7 o5,o7];have e5:=qy hl 5 o5;have e8:=qy hl 8 o5;rw[show((5:Nat):Int)=5 from rfl]at e5;rw[show((8:Nat):Int)=8 from rfl]at e8;rw[e5,o9];cases D8 ((((d++r).drop 5).takeWhile wF).length:Int) 2
  .rfl
  rw[o7,e8,o9];by_cases h8:2<=(((d++r).drop 8).takeWhile wF).length
  .rw[Z4 o5,o7];have hlen:=(List.takeWhile_sublist wF (l:=(d++r).drop 8)).length_le;rw[jk,D6]at hlen;cases r with
   |nil=>simp only[G9]at hlen;omega|cons c t=>
    have h4b:sat (d++c::t) 4=some (c.toNat:Int):=by rw[show(4:Int)=((4:Nat):Int)from rfl,xK,F5 o5,h4];rfl
    have:=hr2 c t rfl;rw[h4b,o9,show D8 (c.toNat:Int) 45=false from(JV c 45 o5).trans this];rfl
  .rw[dF o5];rfl
 .rw[O5 o5];rfl
theorem TA{k n:Int}(hr:HdN UB r)(hl:(w++r).length<=1000000)(hn:jZ k w=some (n,0)):
  (l9
    (l7 (I9 (w.length:Int) (x8 (w++r)))
     (l9 (sat (w++r) (w.length:Int)) λ(x_1:Int)=>
      l9 (mi x_1) λ(x_2:Bool)=>
       l7 x_2 (some (Sum.inr ((0,[],0,0),0,2)))
        (l7 (U2 65 x_1)
         (l7 (U2 x_1 90) (some (Sum.inr ((0,[],0,0),0,2)))
          (l9 (je x_1) λ(x_3:Bool)=>
           l7 x_3 (some (Sum.inr ((0,[],0,0),0,2)))
            (l7 (D8 x_1 95) (some (Sum.inr ((0,[],0,0),0,2)))
             (l7 (D8 x_1 46) (some (Sum.inr ((0,[],0,0),0,2))) (some (Sum.inl (0,[],0,0)))))))
         (l9 (je x_1) λ(x_3:Bool)=>
          l7 x_3 (some (Sum.inr ((0,[],0,0),0,2)))
           (l7 (D8 x_1 95) (some (Sum.inr ((0,[],0,0),0,2)))
            (l7 (D8 x_1 46) (some (Sum.inr ((0,[],0,0),0,2))) (some (Sum.inl (0,[],0,0))))))))
     (some (Sum.inl (0,[],0,0))))
    λ(o:bU⊕bU×L6)=>
    aF o
     (λ(x_1:bU)=>
      l9 (fP (w++r) 0 (w.length:Int)) λ(x_2:List UInt8)=>
       l9 (jZ k x_2) λ(x_3:L6)=>
        l7 (I4 (D8 x_3.2 0)) (some ((0,[],0,0),0,3))
         (l9 (fP (w++r) 0 (w.length:Int)) λ(x_4:List UInt8)=>some ((k,x_4,x_3.1,0),(w.length:Int),0)))
     λ(r:bU×L6)=>some r)=some ((k,w,n,0),(w.length:Int),0):=by
 have hs:fP (w++r) 0 (w.length:Int)=some w:=by rw[zC o5 G8,I7,cZ]
 have fin:(λ(o:bU⊕bU×L6)=>
    aF o
     (λ(x_1:bU)=>
      l9 (fP (w++r) 0 (w.length:Int)) λ(x_2:List UInt8)=>
       l9 (jZ k x_2) λ(x_3:L6)=>
        l7 (I4 (D8 x_3.2 0)) (some ((0,[],0,0),0,3))
         (l9 (fP (w++r) 0 (w.length:Int)) λ(x_4:List UInt8)=>some ((k,x_4,x_3.1,0),(w.length:Int),0)))
     λ(r:bU×L6)=>some r) (Sum.inl (0,[],0,0))=(some ((k,w,n,0),(w.length:Int),0):Option (bU×L6)):=by
  simp only[Y2];rw[hs,o9,hn,o9];rfl
 cases r with
 |nil=>rw[E5]at fin ⊢;rw[show x8 w=(w.length:Int)from rfl,Y5 o5,o6,o9];exact fin|cons c t=>
  have hb:sat (w++c::t) (w.length:Int)=some (c.toNat:Int):=by rw[xK,F5 (F7 _),Y9];rfl
  have he:=hr c t rfl;unfold UB at he;simp only[aX]at he;obtain⟨⟨⟨⟨e1,e2⟩,e3⟩,e4⟩,e5⟩:=he;rw[show I9 (w.length:Int) (x8 (w++c::t))=true from dY (by unfold x8;simp;omega),o7,hb,o9,FI,e1,o9,o6,Jf,e3];rw[show D8 (c.toNat:Int) 95=false from(JV c 95 o5).trans e4,show D8 (c.toNat:Int) 46=false from(JV c 46 o5).trans e5];simp only[o9,o6];by_cases h65:65<=c.toNat
  .have:¬c.toNat<=90:=by
    intro h;rw[Bool.and_eq_false_iff]at e2;simp at e2;omega
   rw[Z4 o5,o7,dF o5,o6];simp only[o9];exact fin
  .rw[dF o5,o6];simp only[o9];exact fin
theorem b2D(hd:Dg d)(h:d≠[]):∃c t,d++r=c::t/\wF c=true/\sat (d++r) 0=some (c.toNat:Int):=by
 cases d with
 |nil=>exact absurd rfl h|cons c t=>exact⟨c,t++r,rfl,hd c A7,rfl⟩
theorem PM(hd:Dg d)(h:d≠[]):sJ (d++r)=nX (d++r):=by
 obtain⟨c,t,-,hc,hs⟩:=b2D (r:=r) hd h;have hb:=Je hc;have hlow:GX c=false:=by unfold GX;simp;omega
 unfold sJ;rw[hs,o9,O5 o5,o6,FI,hlow,o9,o6,Jf,hc,o9,o7,vG]
variable {u:Nat}
theorem b4K(hu:u<=1000000000000)(hr:HdN UB r)(hr2:HdN (λc=>decide (c=45)) r)(hl:(Lib.decDigits u++r).length<=1000000):uF (2,Lib.decDigits u,(u:Int)) (Lib.decDigits u) r:=by
 have hd:=Ad u;have hlen:=qx (u:=u) o5;have hne:Lib.decDigits u≠[]:=by intro e;rw[e]at hlen;simp at hlen
 have hz:NoZ (Lib.decDigits u):=by
  intro h1 c t e;refine Yz u c t e ?_;rcases kK u 10 with h|h
  .rw[Lib.decDigits,dif_pos h]at h1;simp at h1
  .exact h
 have hv:=BJ u;generalize Lib.decDigits u=d at*;have hrd:HdN wF r:=λc t e=>by have:=hr c t e;unfold UB at this;simp only[aX]at this;exact this.1.1.2
 have hr46:HdN (λc=>decide (c=46)) r:=λc t e=>by have:=hr c t e;unfold UB at this;simp only[aX]at this;exact this.2
 unfold uF;rw[PM hd hne];unfold nX;rw[Vu hd hrd hr2 hl,o9,Z5,o7];have e0:=qy hl 0 o5;rw[bi,Ig hd hrd,show((0:Nat):Int)=0 from rfl]at e0;have hs:fP (d++r) (d.length:Int) (x8 (d++r))=some r:=by rw[qF o5 G8,I7,Y3]
 have hdec:∀k,mV r k=some false:=by
  intro k;unfold mV bf kW Lib.hasPrefix;have:[46].isPrefixOf r=false:=by
   cases r with
   |nil=>rfl
   |cons c t=>have:=hr46 c t rfl;simp only[decide_eq_false_iff_not]at this;simp[List.isPrefixOf];exact λh=>this h.symm
  rw[this];rfl
 rw[e0,o9,hs,o9,hdec,o9,o6,o9,hdec,o9,o6,o9];refine X3 (Nw hz hne _ _) ?_;rw[o9,Y2];have hn:jZ 2 d=some ((u:Int),0):=by unfold jZ nY;simp (disch:=decide) only[O5,o6];rw[a7N hd hne hz o5 o5,o9,o9,hv,O7 rfl,o7,Y5 (by simp only;omega)];rfl
 exact TA hr hl hn
theorem qA{u k:Nat}(hu:u<18446744073709551616)(hk:1<=k/\k<=9):∃d f,uK u k=d++46::f/\Dg d/\Dg f/\d≠[]/\NoZ d/\f.length=k/\oL 0 (d++f)=u/\d.length<=20:=by
 have hl:=qx hu;generalize hD:List.replicate (k+1 -(Lib.decDigits u).length) 48++Lib.decDigits u=D;have hDl:k+1<=D.length/\D.length<=31:=by rw[←hD];simp;omega
 have hDg:Dg D:=by
  rw[←hD];intro c hc;rcases G5.1 hc with hc|hc
  .have:=List.eq_of_mem_replicate hc;subst this;decide
  .exact Ad u c hc
 refine⟨D.take (D.length -k),D.drop (D.length -k),?_,λc hc=>hDg c (iT hc),λc hc=>hDg c (List.mem_of_mem_drop hc),?_,?_,by simp;omega,?_,?_⟩
 .unfold uK;simp only[hD]
 .intro e;have:=congrArg List.length e;simp at this;omega
 .intro h1 c t e;have h1' :k+1<D.length:=by simp at h1;omega
  have hz0:k+1 -(Lib.decDigits u).length=0:=by rw[←hD]at h1';simp at h1';omega
  rw[hz0,List.replicate_zero,G7]at hD;have h10:10<=u:=by
   rcases kK u 10 with h|h
   .rw[←hD,Lib.decDigits,dif_pos h]at h1';simp at h1'
   .exact h
  cases hDD:D with
  |nil=>rw[hDD]at h1';simp at h1'|cons c' t' =>
   rw[hDD]at e;have:c' =c:=by rw[show(c' ::t').length -k=((c' ::t').length -k -1)+1 by rw[hDD]at h1';omega,List.take_succ_cons]at e;exact(P8 e).1
   rw[←this];exact Yz u c' t' (hD.trans hDD) h10
 .rw[fE,←hD,BI];have:∀z,oL 0 (List.replicate z 48)=0:=by
   intro z;induction z with
   |zero=>rfl|succ z ih=>rw[kY];show oL (10*0+0) (List.replicate z 48)=0;exact ih
  rw[this,BJ]
 .simp;rw[←hD];simp;omega
theorem b7i(x:List UInt8):bf (46::x) [46]=some true:=by unfold bf kW Lib.hasPrefix;simp[List.isPrefixOf]
theorem a1w{f r:List UInt8}(hf:Dg f)(hr:HdN wF r)(k:Int)(hl:(46::(f++r)).length<=1000000):mV (46::(f++r)) k=some (D8 (f.length:Int) k):=by unfold mV;have e:=qy hl 1 o5;rw[show(46::(f++r)).drop 1=f++r from rfl,Ig hf hr,show((1:Nat):Int)=1 from rfl]at e;rw[b7i,o9,o7,e,o9]
theorem a9b(hu:u<=1000000000000000)(hr:HdN UB r)(hl:(uK u 2++r).length<=1000000):uF (3,uK u 2,(u:Int)) (uK u 2) r:=by
 obtain⟨d,f,e,hd,hf,hne,hz,hfl,hv,hdl⟩:=qA (u:=u) (k:=2) o5 o5;rw[e]at hl ⊢;have hrd:HdN wF r:=λc t e=>by have:=hr c t e;unfold UB at this;simp only[aX]at this;exact this.1.1.2
 have hs46:HdN wF (46::f++r):=λc t e=>by cases e;rfl
 have hs45:HdN (λc=>decide (c=45)) (46::f++r):=λc t e=>by cases e;rfl
 have hl' :(d++(46::f++r)).length<=1000000:=by rw[←E9];exact hl
 unfold uF;rw[E9,PM hd hne];unfold nX;rw[Vu hd hs46 hs45 hl',o9,Z5,o7];have e0:=qy hl' 0 o5;rw[bi,Ig hd hs46,show((0:Nat):Int)=0 from rfl]at e0;have hs:fP (d++(46::f++r)) (d.length:Int) (x8 (d++(46::f++r)))=some (46::(f++r)):=by rw[qF o5 G8,I7,Y3];rfl
 have hl2:(46::(f++r)).length<=1000000:=by simp at hl' ⊢;omega
 rw[e0,o9,hs,o9,a1w hf hrd 2 hl2,o9,hfl,show D8 ((2:Nat):Int) 2=true from rfl,o7,o9];refine X3 (Nw hz hne _ _) ?_;rw[o9,Y2];have hn:jZ 3 (d++46::f)=some ((u:Int),0):=by unfold jZ fF;simp (disch:=decide) only[O5,O7,o6,o7];have hp:=a2e hd hf hne hz o5 o5 o5;rw[hfl,hv]at hp;rw[show jg 2=some ((2:Nat):Int)from rfl,o9,hp,o9,o9,O7 rfl,o7,Y5 (by simp only;omega)];rfl
 have hlen:H8 .i64 (d.length:Int) 3=((d++46::f).length:Int):=by rw[dw bg];simp;omega
 have:=TA (w:=d++46::f) hr hl hn;rw[E9]at this;simp only[hlen];exact this
theorem b1Z(hu:u<=1000000000)(hr:HdN UB r)(hl:(uK u 4++[37]++r).length<=1000000):uF (4,uK u 4++[37],(u:Int)) (uK u 4++[37]) r:=by
 obtain⟨d,f,e,hd,hf,hne,hz,hfl,hv,hdl⟩:=qA (u:=u) (k:=4) o5 o5;rw[e]at hl ⊢;have hs46:HdN wF (46::f++[37]++r):=λc t e=>by cases e;rfl
 have hs45:HdN (λc=>decide (c=45)) (46::f++[37]++r):=λc t e=>by cases e;rfl
 have hre:HdN wF ([37]++r):=λc t e=>by cases e;rfl
 have hq:d++46::f++[37]++r=d++(46::f++[37]++r):=A7;have hl' :(d++(46::f++[37]++r)).length<=1000000:=by rw[←hq];exact hl
 unfold uF;rw[hq,PM hd hne];unfold nX;rw[Vu hd hs46 hs45 hl',o9,Z5,o7];have e0:=qy hl' 0 o5;rw[bi,Ig hd hs46,show((0:Nat):Int)=0 from rfl]at e0;have hs:fP (d++(46::f++[37]++r)) (d.length:Int) (x8 (d++(46::f++[37]++r)))=some (46::(f++([37]++r))):=by rw[qF o5 G8,I7,Y3];simp
 have hs5:fP (d++(46::f++[37]++r)) (H8 .i64 (d.length:Int) 5) (x8 (d++(46::f++[37]++r)))=some (37::r):=by rw[show H8 .i64 (d.length:Int) 5=((d.length+5:Nat):Int) by rw[dw bg];omega];rw[qF o5 G8,I7,show d.length+5=(d++46::f).length by simp;omega,show d++(46::f++[37]++r)=(d++46::f)++(37::r) by simp,Y3]
 have hl2:(46::(f++([37]++r))).length<=1000000:=by simp at hl' ⊢;omega
 have h37:bf (37::r) [37]=some true:=by unfold bf kW Lib.hasPrefix;simp[List.isPrefixOf]
 rw[e0,o9,hs,o9,a1w hf hre 2 hl2,o9,hfl,show D8 ((4:Nat):Int) 2=false from rfl,o6,o9,a1w hf hre 4 hl2,o9,hfl,show D8 ((4:Nat):Int) 4=true from rfl,o7,hs5,o9,h37,o9,o7,o9];refine X3 (Nw hz hne _ _) ?_;rw[o9,Y2];have hn:jZ 4 (d++46::f++[37])=some ((u:Int),0):=by
  unfold jZ fF;simp (disch:=decide) only[O5,O7,o6,o7];have hp:=a2e hd hf hne hz o5 o5 o5;rw[hfl,hv]at hp;have hcut:fP (d++46::f++[37]) 0 (N8 .i64 (x8 (d++46::f++[37])) 1)=some (d++46::f):=by rw[cu (by unfold jh x8;simp;omega),zC (by unfold x8;simp;omega) (by unfold x8;simp;omega)];congr 1;rw[show(x8 (d++46::f++[37]) -1).toNat=(d++46::f).length by unfold x8;simp;omega,cZ]
  rw[hcut,o9,show jg 4=some ((4:Nat):Int)from rfl,o9,hp,o9,o9,O7 rfl,o7,Y5 (by simp only;omega)];rfl
 have hlen:H8 .i64 (d.length:Int) 6=((d++46::f++[37]).length:Int):=by rw[dw bg];simp;omega
 have:=TA (w:=d++46::f++[37]) hr hl hn;rw[hq]at this;simp only[hlen];exact this
theorem b2P(y:Int):∀(n:Nat) (d:Int),n<=12->0<=d->d<rem y n->
  GY y (12 -n)+d=GY y ((mo y n d).2 -1).toNat+(mo y n d).1
 |0,d,_,h0,h=>by simp[rem]at h;omega|n+1,d,hn,h0,h=>by
  have e:dim y (12 -(n:Int))=dim y (((12 -(n+1):Nat):Int)+1):=by congr 1;omega
  have hs:GY y (12 -n)=GY y (12 -(n+1))+dim y (12 -(n:Int)):=by rw[e,show 12 -n=(12 -(n+1))+1 by omega];rfl
  rw[YY];by_cases hd:d<dim y (12 -(n:Int))
  .rw[if_pos hd];show GY y (12 -(n+1))+d=GY y (12 -(n:Int) -1).toNat+d;congr 2;omega
  .rw[if_neg hd];have h2:d -dim y (12 -(n:Int))<rem y n:=by
    have e2:rem y (n+1)=dim y (12 -(n:Int))+rem y n:=rfl;omega
   have:=b2P y n (d -dim y (12 -(n:Int))) o5 o5 h2;omega
theorem b6z{d:Int}(h0:0<=d)(h:d<=109572):(ymd d).2.2<=dim (ymd d).1 (ymd d).2.1:=by
 have hy:=Kq h0 h;have hr:d -ys (yOf d)<rem (yOf d) 12:=by rw[a0t];have:=EL (yOf d);omega
 have:=a3Z (yOf d) 12 (d -ys (yOf d)) o5 o5 hr;show(mo (yOf d) 12 (d -ys (yOf d))).1+1<=dim (yOf d) (mo (yOf d) 12 (d -ys (yOf d))).2;omega
theorem b0E{d:Int}(h0:0<=d)(h:d<=109572):b6U (ymd d).1 (ymd d).2.1 (ymd d).2.2=d:=by
 have hy:=Kq h0 h;have hr:d -ys (yOf d)<rem (yOf d) 12:=by rw[a0t];have:=EL (yOf d);omega
 have:=b2P (yOf d) 12 (d -ys (yOf d)) o5 o5 hr;have e0:GY (yOf d) (12 -12)=0:=rfl;show ys (yOf d)+GY (yOf d) ((mo (yOf d) 12 (d -ys (yOf d))).2 -1).toNat+((mo (yOf d) 12 (d -ys (yOf d))).1+1) -1=d;omega
theorem YS{n:Int}(h:0<=n):Lib.itoa n=Lib.decDigits n.toNat:=by unfold Lib.itoa;rw[if_neg o5]
theorem b6v:∀k:Fin 32,(Lib.decDigits k.val).length=if k.val<10 then 1 else 2:=by
 intro k;rcases kK k.val 10 with h|h
 .rw[Lib.decDigits,dif_pos h,if_pos h];rfl
 .rw[Lib.decDigits,dif_neg o5,if_neg o5,Lib.decDigits,dif_pos (show k.val / 10<10 by omega)];rfl
theorem b0I(u:Nat)(h1:1000<=u)(h2:u<10000):(Lib.decDigits u).length=4:=by rw[Lib.decDigits,dif_neg o5,Lib.decDigits,dif_neg o5,Lib.decDigits,dif_neg o5,Lib.decDigits,dif_pos o5];rfl
theorem c4z(z:Nat)(l:List UInt8):oL 0 (List.replicate z 48++l)=oL 0 l:=by
 induction z with
 |zero=>rfl|succ z ih=>rw[kY,H7];show oL (10*0+0) _=_;exact ih
theorem KQ{n:Int}(w:Nat)(h0:0<=n):oL 0 (FO n w)=n.toNat/\Dg (FO n w):=by
 unfold FO;rw[YS h0];refine⟨by rw[c4z,BJ],λc hc=>?_⟩;rcases G5.1 hc with hc|hc
 .have:=List.eq_of_mem_replicate hc;subst this;decide
 .exact Ad _ c hc
theorem a4f{n:Int}(h0:0<=n)(h1:n<=31):(FO n 2).length=2:=by unfold FO;rw[YS h0];have hl:=b6v ⟨n.toNat,o5⟩;dsimp only at hl;rw[D6,wS,hl];split<;>omega
theorem b2R{n:Int}(h0:1000<=n)(h1:n<10000):(FO n 4).length=4:=by unfold FO;rw[YS o5];rw[D6,wS,b0I _ o5 o5]
def ddF(x:Int×List UInt8×Int):Option (Out (Int×List UInt8×Int) Int (Int×Bool)):=
   l7 (I9 x.2.2 (x8 x.2.1))
    (l7 (I9 (uA x.2.1 x.2.2) 48) (some (Out.rt (0,false)))
     (l7 (I9 57 (uA x.2.1 x.2.2)) (some (Out.rt (0,false)))
      (some
       (Out.nx
        (H8 IntKind.i64 (Qu IntKind.i64 x.1 10)
          (wrap IntKind.i64 (N8 IntKind.i32 (uA x.2.1 x.2.2) 48)),
         x.2.1,yf x.2.1 x.2.2)))))
    (some (Out.ex x.1))
theorem a6K{s:List UInt8} :∀(g pre:List UInt8) (v m:Nat),s=pre++g->Dg g->oL v g<=100000000000000000->gK ddF (m+1+g.length) ((v:Int),s,(pre.length:Int))=some (.inl (oL v g:Int))
 |[],pre,v,m,h,hg,hv=>by rw[E5]at h;subst h;rw[G9,aU,bG];unfold ddF;simp only[Y6 s,o6];rfl|c::g,pre,v,m,h,hg,hv=>by
  have hc:s[pre.length]? =some c:=by rw[h,F5 (F7 _),Y9];rfl
  have hb:=Je (hg c A7);obtain⟨r1,r2⟩:=Di hc o5;have hv1:=PS g (10*v+(c.toNat -48));rw[show oL v (c::g)=oL (10*v+(c.toNat -48)) g from rfl]at hv;have hw:wrap .i64 (N8 .i32 (c.toNat:Int) 48)=((c.toNat -48:Nat):Int):=by
   have h1:N8 .i32 (c.toNat:Int) 48=((c.toNat -48:Nat):Int):=by unfold N8 IntKind.wrap;simp[IntKind.signed,IntKind.bits];omega
   rw[h1];exact zS bg
  have st:ddF ((v:Int),s,(pre.length:Int))=some (.nx (((10*v+(c.toNat -48):Nat):Int),s,((pre.length+1:Nat):Int))):=by unfold ddF;simp only[U5 hc,o7,r1,r2,hw];rw[Y5 o5,o6,Y5 o5,o6,Jm bg,dw bg];congr 3;omega
  rw[A8,show m+1+(g.length+1)=(m+1+g.length)+1 by omega,bG,st];have:=a6K (s:=s) g (pre++[c]) (10*v+(c.toNat -48)) m (by rw[h];simp) (λd hd=>hg d (by simp[hd])) hv;rw[show(pre++[c]).length=pre.length+1 by simp]at this;exact this
theorem Qg{g:List UInt8}(hg:Dg g)(hv:oL 0 g<=100000000000000000)(hl:g.length<=1000):yO g=some ((oL 0 g:Int),true):=by
 unfold yO;have:P7 ddF (0,g,0)=some (.inl (oL 0 g:Int)):=by unfold P7;rw[show aG=(aG -1 -g.length)+1+g.length by unfold aG;omega];exact a6K (s:=g) g [] 0 _ rfl hg hv
 refine X3 this ?_;rfl
theorem xx{d:Int}(h0:0<=d)(h:d<=109572):yG (bC d)=some (d,0):=by
 have hb:=WG h0 h;have l1:=b2R (n:=(ymd d).1) o5 o5;have l2:=a4f (n:=(ymd d).2.1) o5 o5;have l3:=a4f (n:=(ymd d).2.2) o5 o5;obtain⟨v1,g1⟩:=KQ (n:=(ymd d).1) 4 o5;obtain⟨v2,g2⟩:=KQ (n:=(ymd d).2.1) 2 o5;obtain⟨v3,g3⟩:=KQ (n:=(ymd d).2.2) 2 o5;unfold bC;rw[if_pos ⟨h0,h⟩];have hfr:zf (ymd d).1 (ymd d).2.1 (ymd d).2.2=some (d,0):=by rw[a1I o5 o5 o5 (b6z h0 h),b0E h0 h]
 generalize FO (ymd d).1 4=A at*;generalize FO (ymd d).2.1 2=B at*;generalize FO (ymd d).2.2 2=C at*;unfold yG;have hs:A++45::B++45::C=A++(45::(B++(45::C))):=A7;rw[hs];have e4:sat (A++(45::(B++(45::C)))) 4=some 45:=by rw[show(4:Int)=((4:Nat):Int)from rfl,xK,F5 o5,l1];rfl
 have e7:sat (A++(45::(B++(45::C)))) 7=some 45:=by rw[show(7:Int)=((7:Nat):Int)from rfl,xK,F5 o5,l1,show 7 -4=2+1 from rfl,lG,F5 o5,l2];rfl
 have q1:fP (A++(45::(B++(45::C)))) 0 4=some A:=by rw[zC o5 G8,show(4:Int).toNat=A.length by omega,cZ]
 have q2:fP (A++(45::(B++(45::C)))) 5 7=some B:=by rw[Tz o5 o5 G8];rw[show A++(45::(B++(45::C)))=(A++[45])++(B++(45::C)) by simp,show(7:Int).toNat=(A++[45]).length+B.length by simp;omega,List.take_length_add_append,show(5:Int).toNat=(A++[45]).length by simp;omega,Y3,cZ]
 have q3:fP (A++(45::(B++(45::C)))) 8 (x8 (A++(45::(B++(45::C)))))=some C:=by rw[qF o5 G8];rw[show A++(45::(B++(45::C)))=(A++[45]++B++[45])++C by simp,show(8:Int).toNat=(A++[45]++B++[45]).length by simp;omega,Y3]
 rw[show D8 (x8 (A++(45::(B++(45::C))))) 10=true from O7 (by unfold x8;simp;omega),E8,o6,e4,o9,O7 rfl,E8,o6,e7,o9,O7 rfl,E8,o6,o9,Y2];rw[q1,o9,Qg g1 o5 o5,o9,q2,o9,Qg g2 o5 o5,o9,q3,o9,Qg g3 o5 o5,o9,E8,o6,o6,o6,v1,v2,v3];rw[show(((ymd d).1.toNat:Nat):Int)=(ymd d).1 by omega,show(((ymd d).2.1.toNat:Nat):Int)=(ymd d).2.1 by omega,show(((ymd d).2.2.toNat:Nat):Int)=(ymd d).2.2 by omega,hfr,o9]
theorem KA{d:Int}(h0:0<=d)(h:d<=109572):∃A B C:List UInt8,bC d=A++(45::(B++(45::C)))/\A.length=4/\B.length=2/\C.length=2/\Dg A/\Dg B/\Dg C:=by have hb:=WG h0 h;refine⟨FO (ymd d).1 4,FO (ymd d).2.1 2,FO (ymd d).2.2 2,?_,b2R o5 o5,a4f o5 o5,a4f o5 o5,(KQ 4 o5).2,(KQ 2 o5).2,(KQ 2 o5).2⟩;unfold bC;rw[if_pos ⟨h0,h⟩];simp
theorem b1Y{n:Int}(h0:0<=n)(h:n<=109572)(hr:HdN UB r)(hl:(bC n++r).length<=1000000):uF (5,bC n,n) (bC n) r:=by
 obtain⟨A,B,C,e,a1,a2,a3,a4,a5,a6⟩:=KA h0 h;have hp:=xx h0 h;rw[e]at hl hp ⊢;have hne:A≠[]:=by intro e;rw[e]at a1;simp at a1
 have hrd:HdN wF r:=λc t e=>by have:=hr c t e;unfold UB at this;simp only[aX]at this;exact this.1.1.2
 have hq:A++(45::(B++(45::C)))++r=A++(45::(B++(45::(C++r)))):=A7;unfold uF;have hl' :(A++(45::(B++(45::(C++r))))).length<=1000000:=by rw[←hq];exact hl
 rw[hq,PM a4 hne];unfold nX;have hdf:qE (A++(45::(B++(45::(C++r)))))=some true:=by
  unfold qE;have e0:=qy hl' 0 o5;rw[bi,Ig a4 (λc t e=>by cases e;rfl),show((0:Nat):Int)=0 from rfl]at e0;have d5:(A++(45::(B++(45::(C++r))))).drop 5=B++(45::(C++r)):=by rw[show A++(45::(B++(45::(C++r))))=(A++[45])++(B++(45::(C++r))) by simp];exact List.drop_left' G8
  have d8:(A++(45::(B++(45::(C++r))))).drop 8=C++r:=by rw[show A++(45::(B++(45::(C++r))))=(A++[45]++B++[45])++(C++r) by simp];exact List.drop_left' G8
  have e5:lu (A++(45::(B++(45::(C++r))))) 5=some (B.length:Int):=by have t:=qy hl' 5 o5;rw[d5,Ig a5 (λc t e=>by cases e;rfl)]at t;exact t
  have e8:lu (A++(45::(B++(45::(C++r))))) 8=some (C.length:Int):=by have t:=qy hl' 8 o5;rw[d8,Ig a6 hrd]at t;exact t
  have s4:sat (A++(45::(B++(45::(C++r))))) 4=some 45:=by rw[show(4:Int)=((4:Nat):Int)from rfl,xK,F5 o5,a1];rfl
  have s7:sat (A++(45::(B++(45::(C++r))))) 7=some 45:=by rw[show(7:Int)=((7:Nat):Int)from rfl,xK,F5 o5,a1,show 7 -4=2+1 from rfl,lG,F5 o5,a2];rfl
  rw[e0,o9,a1,show D8 ((4:Nat):Int) 4=true from rfl,o7,e5,o9,a2,show D8 ((2:Nat):Int) 2=true from rfl,o7,e8,o9,a3,show U2 2 ((2:Nat):Int)=true from rfl,o7,s4,o9,O7 rfl,o7,s7,o9,O7 rfl]
 rw[hdf,o9,E8,o6,o9,Y2];have hn:jZ 5 (A++(45::(B++(45::C))))=some (n,0):=by unfold jZ;simp (disch:=decide) only[O7,o7];rw[hp,o9,O7 rfl,o7,Y5 (by simp only;omega)];rfl
 have:=TA (w:=A++(45::(B++(45::C)))) hr hl hn;rw[hq]at this;have hlen:((A++(45::(B++(45::C)))).length:Int)=10:=by simp;omega
 rw[hlen]at this ⊢;exact this
abbrev It:Type:=Option X4
def bZ:List It->List UInt8
 |[]=>[]|none::L=>32::bZ L|some k::L=>k.2.1++bZ L
theorem qc:∀A B:List It,bZ (A++B)=bZ A++bZ B
 |[],B=>rfl|none::A,B=>by rw[H7];simp only[bZ];rw[qc A B];rfl|some k::A,B=>by rw[H7];simp only[bZ];rw[qc A B,E9]
def xn(L:List It):List X4:=L.filterMap id
theorem gU(A B:List It):xn (A++B)=xn A++xn B:=List.filterMap_append
def b2c(c:UInt8):Bool:=decide (c=32) || decide (c=40) || decide (c=41) || decide (c=44) || decide (c=58)
def HdS(r:List UInt8):Prop:=∀c t,r=c::t->b2c c=true
theorem a5Y(h:b2c c=true):c=32\/c=40\/c=41\/c=44\/c=58:=by unfold b2c at h;simp only[jJ,decide_eq_true_eq]at h;rcases h with(((h|h)|h)|h)|h<;>simp[h]
theorem a3G{P:UInt8->Bool}(h:HdS r)(h1:P 32=false)(h2:P 40=false)(h3:P 41=false)(h4:P 44=false)(h5:P 58=false):HdN P r:=by intro c t e;rcases a5Y (h c t e)with rfl|rfl|rfl|rfl|rfl<;>assumption
theorem a7b(h:HdS r):HdN yg r:=a3G h C9 C9 C9 C9 C9
theorem Tm(h:HdS r):HdN UB r:=a3G h C9 C9 C9 C9 C9
theorem b3J(h:HdS r):HdN (λc=>decide (c=45)) r:=a3G h C9 C9 C9 C9 C9
theorem b3K(h:HdS r):HdN (λc=>decide (c=61)) r:=a3G h C9 C9 C9 C9 C9
def D_(k:X4):Prop:=∃c:UInt8,(c=40\/c=41\/c=44\/c=58\/c=43\/c=45\/c=42)/\k=(7,[c],0)
def prB(c:UInt8):Bool:=decide (32<=c.toNat)&&decide (c.toNat<=126)
structure TokOk (k:X4):Prop where
 pr:∀c∈k.2.1,prB c=true
 ne:∃c t,k.2.1=c::t/\PZ c=false
 sc:D_ k\/∀r,HdS r->(k.2.1++r).length<=1000000->uF k k.2.1 r
def WSR:List It->List UInt8->Prop
 |[],_=>True|none::L,R=>HdN PZ (bZ L++R)/\WSR L R|some k::L,R=>TokOk k/\(D_ k\/HdS (bZ L++R))/\WSR L R
theorem ZV:∀(A B:List It) (R:List UInt8),WSR A (bZ B++R)->WSR B R->WSR (A++B) R
 |[],B,R,_,h=>h|none::A,B,R,h,h2=>by refine⟨?_,ZV A B R h.2 h2⟩;show HdN PZ (bZ (A++B)++R);rw[qc,E9];exact h.1|some k::A,B,R,h,h2=>by refine⟨h.1,?_,ZV A B R h.2.2 h2⟩;show D_ k\/HdS (bZ (A++B)++R);rw[qc,E9];exact h.2.1
def xR:Nat->List It->List bU
 |_,[]=>[]|o,none::L=>xR (o+1) L|o,some k::L=>(k.1,k.2.1,k.2.2,(o:Int))::xR (o+k.2.1.length) L
theorem Ez:∀(L:List It) (o:Nat),(xR o L).map (λx=>((x.1,x.2.1,x.2.2.1):X4))=xn L
 |[],o=>rfl|none::L,o=>by show(xR (o+1) L).map _=_;rw[Ez L (o+1)];rfl|some k::L,o=>by show _::(xR (o+k.2.1.length) L).map _=_;rw[Ez L];rfl
theorem a5M:∀(L:List It) (o:Nat),(xR o L).length=(xn L).length:=λL o=>by rw[←Ez L o,Y4]
def tkF(a0:List UInt8)(x:List bU×Int):Option (Out (List bU×Int) (List bU) (List bU×Int×Int)):=
     l7 (I9 x.2 (x8 a0))
      (l9 (fP a0 x.2 (x8 a0)) λ(x_1:List UInt8)=>
       l9 (sJ x_1) λ(x_2:bU×L6)=>
        l7 (I4 (D8 x_2.2.2 0)) (some (Out.rt ([],x.2,x_2.2.2)))
         (l9 (dE x.1 [(x_2.1.1,x_2.1.2.1,x_2.1.2.2.1,x.2)]) λ(x_3:List bU)=>
          l9 (sK a0 (H8 IntKind.i64 x.2 x_2.2.1)) λ(x:Int)=>some (Out.nx (x_3,x))))
      (some (Out.ex x.1))
variable {L:List It}
theorem a4L(h:WSR L [])(hn:∀M,L≠none::M):HdN PZ (bZ L):=by
 cases L with
 |nil=>intro c t e;cases e|cons a L=>
  cases a with
  |none=>exact absurd rfl (hn L)|some k=>obtain⟨c,t,e,hb⟩:=h.1.ne;intro x y e2;simp only[bZ,e,H7,F8]at e2;rw[←e2.1];exact hb
theorem b0i{k:X4}(h:TokOk k)(h2:D_ k\/HdS r)(hl:(k.2.1++r).length<=1000000):uF k k.2.1 r:=by
 rcases h.sc with⟨c,hc,rfl⟩|hs
 .exact a0E hc r
 .rcases h2 with⟨c,hc,rfl⟩|h2
  .exact a0E hc r
  .exact hs r h2 hl
theorem PQ{s:List UInt8}(hs:s.length<=65536):∀(L:List It) (pre:List UInt8) (acc:List bU) (m:Nat),s=pre++bZ L->WSR L []->(∀M,L≠none::M)->acc.length+L.length<=1000000->
  gK (tkF s) (m+L.length+1) (acc,(pre.length:Int))=some (.inl (acc++xR pre.length L))
 |[],pre,acc,m,h,hw,hn,ha=>by rw[bZ,E5]at h;subst h;rw[bG];unfold tkF;simp only[Y6 s,o6];rw[show xR s.length []=[]from rfl,E5]|none::L,pre,acc,m,h,hw,hn,ha=>absurd rfl (hn L)|some k::L,pre,acc,m,h,hw,hn,ha=>by
  have hlen:=congrArg List.length h;simp only[bZ,D6]at hlen;obtain⟨h1,h2,h3⟩:=hw;rw[E5]at h2;have hkl:1<=k.2.1.length:=by obtain⟨c,t,e,-⟩:=h1.ne;rw[e];simp
  have hsc:=b0i h1 h2 G8;unfold uF at hsc;have hsub:fP s (pre.length:Int) (x8 s)=some (k.2.1++bZ L):=by rw[qF o5 o5,I7,h,Y3];rfl
  simp only[A8]at ha;have hat:H8 .i64 (pre.length:Int) (k.2.1.length:Int)=((pre.length+k.2.1.length:Nat):Int):=by rw[dw bg];omega
  rw[show m+(some k::L).length+1=(m+L.length+1)+1 by simp;omega,bG];have key:∀j:Nat,sK s ((pre.length+k.2.1.length:Nat):Int)=some (j:Int)->tkF s (acc,(pre.length:Int))=some (.nx (acc++[(k.1,k.2.1,k.2.2,(pre.length:Int))],(j:Int))):=by intro j hj;unfold tkF;simp only[dY (show(pre.length:Int)<x8 s by unfold x8;omega),o7,hsub,o9,hsc,O7 (rfl:(0:Int)=0),E8,o6];rw[zW _ o5,o9,hat,hj,o9]
  have hfin:∀M:List It,xR pre.length (some k::L)=(k.1,k.2.1,k.2.2,(pre.length:Int))::xR (pre.length+k.2.1.length) L:=λ_=>rfl;rw[hfin L];have hpk:s=(pre++k.2.1)++bZ L:=by rw[h];simp[bZ]
  cases L with
  |nil=>
   rw[key (pre.length+k.2.1.length) (We o5 (by rw[hpk,←D6,Y3];intro c t e;cases e) o5)]
   have:=PQ hs [] (pre++k.2.1) (acc++[(k.1,k.2.1,k.2.2,(pre.length:Int))]) m (by rw[hpk]) trivial (λM e=>by cases e) G8;rw[D6]at this;simp only;rw[show m+([]:List It).length+1=m+([]:List It).length+1 from rfl,this];simp
  |cons a L=>
   cases a with
   |some k' =>
    rw[key (pre.length+k.2.1.length) (We o5 (by rw[hpk,←D6,Y3];exact a4L h3 (λM e=>by cases e)) o5)]
    have:=PQ hs (some k' ::L) (pre++k.2.1) (acc++[(k.1,k.2.1,k.2.2,(pre.length:Int))]) m hpk h3 (λM e=>by cases e) (by simp at ha ⊢;omega);rw[D6]at this;simp only;rw[this];simp
   |none=>
    have hb:HdN PZ (bZ L):=by have:=h3.1;rw[E5]at this;exact this
    have hnb:∀M,L≠none::M:=λM e=>by rw[e]at hb;have:=hb 32 (bZ M) rfl;revert this;decide
    have hp2:s=(pre++k.2.1++[32])++bZ L:=by rw[hpk];simp[bZ]
    have hpl:(pre++k.2.1++[32]).length=pre.length+k.2.1.length+1:=by simp;omega
    rw[key (pre.length+k.2.1.length+1) (a9f o5 (by
     rw[hpk,F5 A7,←D6,Y9];rfl) (by
     rw[←hpl,hp2,Y3];exact hb))]
    have:=PQ hs L (pre++k.2.1++[32]) (acc++[(k.1,k.2.1,k.2.2,(pre.length:Int))]) (m+1) hp2 h3.2 hnb (by simp at ha ⊢;omega);rw[hpl]at this;simp only;rw[show m+(none::L).length+1=m+1+L.length+1 by simp;omega,this];simp[xR]
theorem a0X(hs:(bZ L).length<=65536)(h:WSR L [])(hn:∀M,L≠none::M)(hl:L.length<=1000000):zx (bZ L)=some (xR 0 L,0,0):=by unfold zx;have h0:sK (bZ L) ((0:Nat):Int)=some ((0:Nat):Int):=We o5 (by rw[bi];exact a4L h hn) o5;rw[show((0:Nat):Int)=0 from rfl]at h0;rw[Y5 (show x8 (bZ L)<=65536 by unfold x8;omega),o6,h0,o9];have:=PQ hs L [] [] (aG -L.length -1) rfl h hn G8;rw[show aG -L.length -1+L.length+1=aG by unfold aG;omega]at this;rw[G7]at this;refine X3 (show P7 (tkF (bZ L)) ([],0)=_ from this) ?_;rfl
def nm(w:List UInt8):It:=some (1,w,0)
def sy(c:UInt8):It:=some (7,[c],0)
def IL(k:Int)(u:Nat):List UInt8:=l7 (D8 k 2) (Lib.decDigits u) (l7 (D8 k 3) (uK u 2) (uK u 4++[37]))
def OC(k m:Int):List It:=
 l7 (D8 k 1) [nm (l7 (D8 m 0) [102,97,108,115,101] [116,114,117,101])]
 (l7 (D8 k 5) [some (5,bC m,m)] (l7 (I9 m 0) [sy 45,some (k,IL k m.natAbs,(m.natAbs:Int))] [some (k,IL k m.natAbs,(m.natAbs:Int))]))
def FC(n:Int×Int)(N:D9):List It:=
 l7 (U2 n.1 5) (OC n.1 n.2)
 (l7 (D8 n.1 6) [nm ((O0 N.1 (dA .i64 n.2 16)).getD ([],[])).1,sy 58,nm (gtN ((O0 N.1 (dA .i64 n.2 16)).getD ([],[])).2 (jc n.2 16))]
 (l7 (D8 n.1 7) [nm (gtN N.2.2.1 n.2)]
 (l7 (D8 n.1 8) [nm (gtN N.2.2.2.1 n.2)]
 (l7 (D8 n.1 9) [nm [116,111,100,97,121]]
 (l7 (D8 n.1 35) [nm [99,111,117,110,116],sy 40,sy 41] [nm (dU n.1),sy 40,nm (gtN N.2.2.2.2 n.2),sy 41])))))
def wiI(L:List It)(cls c:Int):List It:=l7 (I9 cls c) ([sy 40]++L++[sy 41]) L
def a5D(n:Int×Int)(N:D9)(num:Bool)(L:List It)(cls:Int):List It:=
 l7 (D8 n.1 33) ([nm (dU n.1),sy 40,nm (gtN N.2.1 n.2),sy 44,none]++L++[sy 41])
 (l7 (D8 n.1 34) ([nm (dU n.1),sy 40,nm (gtN N.2.1 (dA .i64 n.2 8)),sy 44,none]++L++[sy 44,none,nm (kP (jc n.2 8)),sy 41])
 (l7 (D8 n.1 25) ([nm [110,111,116],none]++wiI L cls 6)
 (l7 (D8 n.1 10) ([sy 45]++l7 num ([sy 40]++L++[sy 41]) (wiI L cls 6)) ([nm (dU n.1),sy 40]++L++[sy 41]))))
def opK(k:Int):X4:=(l7 (D8 k 24) 1 (l7 (D8 k 23) 1 7),(kw k).1,0)
def JU(n:Int×Int)(A:List It)(ca:Int)(B:List It)(cb:Int):List It:=
 l7 (SE n.1) ([nm (dU n.1),sy 40]++A++[sy 44,none]++B++[sy 41])
 (l7 (WZ n.1) ([nm (dU n.1),sy 40]++A++[sy 44,none]++B++[sy 44,none,nm (kP n.2),sy 41])
 (wiI A ca (l7 (D8 (kw n.1).2 3) 4 (kw n.1).2)++[none,some (opK n.1),none]++wiI B cb ((kw n.1).2+1)))
def ifI(A B C:List It):List It:=[nm [105,102],none]++A++[none,nm [116,104,101,110],none]++B++[none,nm [101,108,115,101],none]++C
def itT(N:D9):XT->List It
 | .l0 n=>FC n N| .l1 n a=>a5D n N (Ar a.node.1) (itT N a) (txT N a).2| .l2 n a b=>JU n (itT N a) (txT N a).2 (itT N b) (txT N b).2| .l3 n a b c=>ifI (itT N a) (itT N b) (itT N c)
theorem DI{k m lo hi:Int}(hk:1<=k/\k<=5)(hb:bM (k,0) []=some (lo,hi))(h:flS (k,m) N=0):lo<=m/\m<=hi:=by
 unfold flS U9 qB at h;simp only[Z4 hk.1,Z4 hk.2,o7,o9,hb]at h;by_cases h1:m<lo
 .rw[dY h1]at h;cases h
 by_cases h2:hi<m
 .rw[Y5 o5,dY h2]at h;cases h
 omega
theorem b0S(hk:k=1\/k=2\/k=3\/k=4\/k=5)(hm:jh m)(h:flS (k,m) N=0):gV (k,0,m) []=some (bZ (OC k m),0):=by
 have f4:=Dc (k:=4) hm o5;have key:∀lo hi:Int,bM (k,0) []=some (lo,hi)->Y1 (k,0) []=some true->gV (k,0,m) []=(l7 (D8 k 1) (l7 (D8 m 0) (some ([102,97,108,115,101],0)) (some ([116,114,117,101],0)))
   (l7 (D8 k 2) (some (Lib.itoa m,0)) (l7 (D8 k 3) (some (pY m 2,0)) (l7 (D8 k 4) (some (pY m 4++[37],0)) (some (bC m,0)))))):=by
  intro lo hi hb hv;obtain⟨h1,h2⟩:=DI o5 hb h;rw[vJ [] hm];unfold rQ wY Bv Bq;simp only[wY,o9,hv,E8,o6,o7,hb,Z4 h1,Z4 h2];rw[uQ hm,show jq m 2=_ from rO (k:=2) hm o5,show jq m 4=_ from rO (k:=4) hm o5,Iw];simp only[o9];rw[O8 G8,o9];rcases hk with rfl|rfl|rfl|rfl|rfl<;>rfl
 rcases hk with rfl|rfl|rfl|rfl|rfl
 .rw[key 0 1 rfl rfl];simp (disch:=decide) only[O7,o7,OC,nm,bZ,E5];cases D8 m 0<;>rfl
 .rw[key _ _ rfl rfl];simp (disch:=decide) only[O7,O5,o7,o6,OC,IL];unfold Lib.itoa;by_cases h0:m<0
  .rw[if_pos h0,dY h0];simp[bZ,sy,l7]
  .rw[if_neg h0,Y5 o5];simp only[o6,bZ,E5];rw[show m.toNat=m.natAbs by omega]
 .rw[key _ _ rfl rfl];simp (disch:=decide) only[O7,O5,o7,o6,OC,IL];unfold pY;by_cases h0:m<0
  .rw[if_pos h0,dY h0];simp[bZ,sy,l7]
  .rw[if_neg h0,Y5 o5];simp only[o6,bZ,E5]
 .rw[key _ _ rfl rfl];simp (disch:=decide) only[O7,O5,o7,o6,OC,IL];unfold pY;by_cases h0:m<0
  .rw[if_pos h0,dY h0];simp[bZ,sy,l7]
  .rw[if_neg h0,Y5 o5];simp only[o6,bZ,E5]
 .rw[key _ _ rfl rfl];simp (disch:=decide) only[O7,O5,o7,o6,OC,bZ,E5]
theorem a5o(ha:arF n.1=0)(hm:jh n.2)(h:flS n N=0):bZ (FC n N)=(vC n N).1:=by
 obtain⟨k,m⟩:=n;have lit:(k=1\/k=2\/k=3\/k=4\/k=5)->bZ (FC (k,m) N)=(vC (k,m) N).1:=by intro hk;have:=b0S hk hm h;unfold FC vC;simp only[Z4 (show k<=5 by omega),o7];rw[←vJ [] hm,this];rfl
 rcases ar0 ha with rfl|rfl|rfl|rfl|rfl|rfl|rfl|rfl|rfl|rfl|rfl|rfl|rfl|rfl
 .exact lit o5
 .exact lit o5
 .exact lit o5
 .exact lit o5
 .exact lit o5
 all_goals
  unfold FC vC;simp (disch:=decide) only[O7,O5,dF,o7,o6,nm,sy,bZ];simp
theorem ZU(L:List It)(t:Tx)(c:Int)(h:bZ L=t.1):bZ (wiI L t.2 c)=wiS t c:=by
 unfold wiI wiS;cases I9 t.2 c
 .exact h
 .simp only[o7];rw[qc,qc,h];rfl
theorem Cj{N:D9} :∀(t:XT),t.wf->(∀n∈t.post,jh n.2)->(∀n∈t.post,flS n N=0)->bZ (itT N t)=(txT N t).1
 | .l0 n,hw,hI,hz=>a5o hw (hI n (by simp[XT.post])) (hz n (by simp[XT.post]))| .l1 n a,hw,hI,hz=>by
  have ia:=Cj a hw.2 (λm hm=>hI m (by simp[XT.post,hm])) (λm hm=>hz m (by simp[XT.post,hm]));have w:=ZU (itT N a) (txT N a) 6 ia;show bZ (a5D n N (Ar a.node.1) (itT N a) (txT N a).2)=(Ny n N (Ar a.node.1) (txT N a)).1;unfold a5D Ny;cases D8 n.1 33
  case true=>simp only[o7,qc,ia];simp[bZ,nm,sy]
  cases D8 n.1 34
  case true=>simp only[o7,o6,qc,ia];simp[bZ,nm,sy]
  cases D8 n.1 25
  case true=>simp only[o7,o6,qc,w];simp[bZ,nm,sy]
  cases D8 n.1 10
  case true=>
   simp only[o7,o6,qc];cases Ar a.node.1
   .simp only[o6,w];simp[bZ,nm,sy]
   .simp only[o7,qc,ia];simp[bZ,nm,sy]
  .simp only[o6,qc,ia];simp[bZ,nm,sy]
 | .l2 n a b,hw,hI,hz=>by
  have ia:=Cj a hw.2.1 (λm hm=>hI m (by simp[XT.post,hm])) (λm hm=>hz m (by simp[XT.post,hm]));have ib:=Cj b hw.2.2 (λm hm=>hI m (by simp[XT.post,hm])) (λm hm=>hz m (by simp[XT.post,hm]));have w1:=ZU (itT N a) (txT N a) (l7 (D8 (kw n.1).2 3) 4 (kw n.1).2) ia;have w2:=ZU (itT N b) (txT N b) ((kw n.1).2+1) ib;show bZ (JU n (itT N a) (txT N a).2 (itT N b) (txT N b).2)=(Ih n (txT N a) (txT N b)).1;unfold JU Ih;cases SE n.1
  case true=>simp only[o7,qc,ia,ib];simp[bZ,nm,sy]
  cases WZ n.1
  case true=>simp only[o7,o6,qc,ia,ib];simp[bZ,nm,sy]
  .simp only[o6,qc,w1,w2];simp[bZ,opK]
 | .l3 n a b c,hw,hI,hz=>by have ia:=Cj a hw.2.1 (λm hm=>hI m (by simp[XT.post,hm])) (λm hm=>hz m (by simp[XT.post,hm]));have ib:=Cj b hw.2.2.1 (λm hm=>hI m (by simp[XT.post,hm])) (λm hm=>hz m (by simp[XT.post,hm]));have ic:=Cj c hw.2.2.2 (λm hm=>hI m (by simp[XT.post,hm])) (λm hm=>hz m (by simp[XT.post,hm]));show bZ (ifI (itT N a) (itT N b) (itT N c))=(ifX (txT N a) (txT N b) (txT N c)).1;unfold ifI ifX;simp only[qc,ia,ib,ic];simp[bZ,nm]
def wOk(w:List UInt8):Bool:=match w with|[]=>false|c::t=>GX c&&(c::t).all yg&&decide ((c::t).length<=16)
theorem JY(h:iU s=true):wOk s=true:=by
 cases s with
 |nil=>cases h|cons c r=>rw[Aj]at h;simp only[D5]at h;unfold wOk;simp only[D5];exact⟨⟨h.1.1.2,h.1.2⟩,h.1.1.1⟩
theorem a4J(h:yg c=true):prB c=true:=by unfold yg GX at h;unfold prB;simp only[jJ,D5,decide_eq_true_eq]at h ⊢;omega
theorem yH(h:wF c=true):prB c=true:=by have:=Je h;unfold prB;simp only[D5,decide_eq_true_eq];omega
theorem uG{a b:List UInt8}(ha:∀c∈a,prB c=true)(hb:∀c∈b,prB c=true):∀c∈a++b,prB c=true:=by
 intro c hc;rcases G5.1 hc with h|h
 .exact ha c h
 .exact hb c h
theorem xw{x:UInt8}{b:List UInt8}(ha:prB x=true)(hb:∀c∈b,prB c=true):∀c∈x::b,prB c=true:=by
 intro c hc;rcases x9.1 hc with rfl|h
 .exact ha
 .exact hb c h
theorem nz(h:wOk w=true):TokOk (1,w,0):=by
 cases w with
 |nil=>cases h|cons c t=>unfold wOk at h;simp only[D5]at h;obtain⟨⟨h1,h2⟩,h3⟩:=h;have hb:=a7k h1;refine⟨λx hx=>a4J (ae.1 h2 x hx),⟨c,t,rfl,?_⟩,.inr λr hr hl=>a5X ⟨c,t,rfl,h1⟩ (ae.1 h2) (by simpa using h3) (a7b hr) hl⟩;unfold PZ;simp only[aX,decide_eq_false_iff_not];refine⟨⟨?_,?_⟩,?_⟩<;>rintro rfl<;>revert hb<;>decide
theorem BH(hc:c=40\/c=41\/c=44\/c=58\/c=43\/c=45\/c=42):TokOk (7,[c],0):=by
 refine⟨λx hx=>?_,⟨c,[],rfl,?_⟩,.inl ⟨c,hc,rfl⟩⟩
 .simp at hx;subst hx;rcases hc with rfl|rfl|rfl|rfl|rfl|rfl|rfl<;>decide
 rcases hc with rfl|rfl|rfl|rfl|rfl|rfl|rfl<;>decide
theorem YB(hd:Dg d)(h:d≠[]):∃c t,d++r=c::t/\PZ c=false:=by obtain⟨c,t,e,hc,-⟩:=b2D (r:=r) hd h;refine⟨c,t,e,?_⟩;have:=Je hc;unfold PZ;simp only[aX,decide_eq_false_iff_not];refine⟨⟨?_,?_⟩,?_⟩<;>rintro rfl<;>revert this<;>decide
theorem b2l(h:(k=2/\u<=1000000000000)\/(k=3/\u<=1000000000000000)\/(k=4/\u<=1000000000)):TokOk (k,IL k u,(u:Int)):=by
 rcases h with⟨rfl,hu⟩|⟨rfl,hu⟩|⟨rfl,hu⟩
 .have e:IL 2 u=Lib.decDigits u:=rfl;have hlen:=qx (u:=u) o5;refine⟨by rw[e];exact λc hc=>yH (Ad u c hc),?_,.inr λr hr hl=>?_⟩
  .rw[e];have:=YB (r:=[]) (Ad u) (by intro e;rw[e]at hlen;simp at hlen);rw[E5]at this;exact this
  .simp only[e]at hl ⊢;exact b4K hu (Tm hr) (b3J hr) hl
 .have e:IL 3 u=uK u 2:=rfl;refine⟨by
   rw[e];obtain⟨d,f,e2,hd,hf,hne,-⟩:=qA (u:=u) (k:=2) o5 o5;rw[e2];exact uG (λc hc=>yH (hd c hc)) (xw C9 (λc hc=>yH (hf c hc))),?_,.inr λr hr hl=>?_⟩
  .rw[e];obtain⟨d,f,e2,hd,hf,hne,-⟩:=qA (u:=u) (k:=2) o5 o5;simp only[e2];exact YB hd hne
  .simp only[e]at hl ⊢;exact a9b hu (Tm hr) hl
 .have e:IL 4 u=uK u 4++[37]:=rfl;refine⟨by
   rw[e];obtain⟨d,f,e2,hd,hf,hne,-⟩:=qA (u:=u) (k:=4) o5 o5;rw[e2];exact uG (uG (λc hc=>yH (hd c hc)) (xw C9 (λc hc=>yH (hf c hc)))) (xw C9 (λc hc=>by cases hc)),?_,.inr λr hr hl=>?_⟩
  .rw[e];obtain⟨d,f,e2,hd,hf,hne,-⟩:=qA (u:=u) (k:=4) o5 o5;simp only[e2,E9];exact YB hd hne
  .simp only[e]at hl ⊢;exact b1Z hu (Tm hr) hl
theorem b0h{n:Int}(h0:0<=n)(h:n<=109572):TokOk (5,bC n,n):=by
 refine⟨?_,?_,.inr λr hr hl=>b1Y h0 h (Tm hr) hl⟩
 .obtain⟨A,B,C,e,a1,a2,a3,a4,a5,a6⟩:=KA h0 h;rw[e];exact uG (λc hc=>yH (a4 c hc)) (xw C9 (uG (λc hc=>yH (a5 c hc)) (xw C9 (λc hc=>yH (a6 c hc)))))
 obtain⟨A,B,C,e,a1,a2,a3,a4,a5,a6⟩:=KA h0 h;simp only[e];exact YB a4 (by intro e;rw[e]at a1;simp at a1)
theorem b6s(hk:k=11\/k=12\/k=13\/k=19\/k=20\/k=21\/k=22\/k=23\/k=24):TokOk (opK k):=by
 rcases hk with rfl|rfl|rfl|rfl|rfl|rfl|rfl|rfl|rfl
 .exact BH (c:=43) A7
 .exact BH (c:=45) A7
 .exact BH (c:=42) A7
 .exact⟨C9,⟨61,[61],rfl,C9⟩,.inr λr hr hl=>VZ (c:=61) A7 r (by simp[opK,kw,lI,D8,l7]at hl;omega)⟩
 .exact⟨C9,⟨33,[61],rfl,C9⟩,.inr λr hr hl=>VZ (c:=33) A7 r (by simp[opK,kw,lI,D8,l7]at hl;omega)⟩
 .exact⟨C9,⟨60,[],rfl,C9⟩,.inr λr hr hl=>b2a r (by simp[opK,kw,lI,D8,l7]at hl;omega) (b3K hr)⟩
 .exact⟨C9,⟨60,[61],rfl,C9⟩,.inr λr hr hl=>VZ (c:=60) A7 r (by simp[opK,kw,lI,D8,l7]at hl;omega)⟩
 .exact nz (w:=[97,110,100]) C9
 .exact nz (w:=[111,114]) C9
theorem a3g:∀(L:List It) (R:List UInt8),WSR L R->∀c∈bZ L,prB c=true
 |[],_,_=>λc hc=>by cases hc|none::L,R,h=>xw C9 (a3g L R h.2)|some k::L,R,h=>uG h.1.pr (a3g L R h.2.2)
def StI(L:List It):Prop:=∃k L',L=some k::L' /\TokOk k
theorem b6n(h:StI L)(R:List UInt8):HdN PZ (bZ L++R):=by obtain⟨k,L',rfl,hk⟩:=h;obtain⟨c,t,e,hb⟩:=hk.ne;intro x y e2;simp only[bZ,e,H7,F8]at e2;rw[←e2.1];exact hb
theorem NQ{L M:List It}(h:StI L):StI (L++M):=by obtain⟨k,L',rfl,hk⟩:=h;exact⟨k,L' ++M,rfl,hk⟩
theorem c2j(h:StI L):∀M,L≠none::M:=by obtain⟨k,L',rfl,-⟩:=h;intro M e;cases e
theorem qU(h:b2c c=true)(x:List UInt8):HdS (c::x):=λa t e=>by cases e;exact h
theorem a3H:HdS []:=λa t e=>by cases e
variable {R:List UInt8}
theorem kC(hc:c=40\/c=41\/c=44\/c=58\/c=43\/c=45\/c=42)(h:WSR L R):WSR (sy c::L) R:=⟨BH hc,.inl ⟨c,hc,rfl⟩,h⟩
theorem yY(hw:wOk w=true)(h:WSR L R)(hs:HdS (bZ L++R)):WSR (nm w::L) R:=⟨nz hw,.inr hs,h⟩
theorem EK(h:WSR L R)(hs:StI L):WSR (none::L) R:=⟨b6n hs R,h⟩
structure WsT (L:List It):Prop where
 st:StI L
 ws:∀R,HdS R->WSR L R
theorem MI(h:WsT L){M:List It}(hm:WSR M R)(hs:HdS (bZ M++R)):WSR (L++M) R:=ZV L M R (h.ws _ hs) hm
theorem a1d(h:WsT L)(cls c:Int):WsT (wiI L cls c):=by
 unfold wiI;cases I9 cls c
 .exact h
 .refine⟨⟨_,_,rfl,BH A7⟩,λR hR=>?_⟩;exact kC A7 (MI h (kC A7 trivial) (qU C9 _))
structure NmI (N:D9):Prop where
 e:∀e∈N.1,iU e.1=true/\∀m∈e.2,iU m=true
 t:∀s∈N.2.1,iU s=true
 i:∀s∈N.2.2.1,iU s=true
 d:∀s∈N.2.2.2.1,iU s=true
 m:∀s∈N.2.2.2.2,iU s=true
theorem ww{l:List α}{i:Int}{x:α}(h:O0 l i=some x):x∈l:=(pF h).2.2.1
theorem YI(hm:jh m)(h:flS (6,m) N=0):∃e,O0 N.1 (dA .i64 m 16)=some e/\O0 e.2 (jc m 16)=some (gtN e.2 (jc m 16))/\0<=dA .i64 m 16/\0<=jc m 16/\jc m 16<16/\m=16*dA .i64 m 16+jc m 16:=by
 have hff:U9 (6,m) N=(l7 (I9 m 0) (some 6)
    (l7 (U2 (x8 N.1) (dA .i64 m 16)) (some 6)
     (l9 (O0 N.1 (dA .i64 m 16)) λ(x:U6)=>
      l7 (U2 (x8 x.2) (jc m 16)) (some 6) (some 0)))):=rfl
 unfold flS at h;rw[hff]at h;by_cases h0:m<0
 .rw[dY h0]at h;cases h
 by_cases h1:x8 N.1<=dA .i64 m 16
 .rw[Y5 o5,Z4 h1]at h;cases h
 have hq:dA .i64 m 16=m / 16:=by rw[OZ hm 16 (.inr rfl),oV o5]
 have hr0:jc m 16=m % 16:=Bh o5;obtain⟨en,he,hmem⟩:=tY (l:=N.1) (i:=dA .i64 m 16) o5 o5;rw[Y5 o5,dF o5,o6,o6,he,o9]at h;by_cases h2:x8 en.2<=jc m 16
 .rw[Z4 h2]at h;cases h
 exact⟨en,he,(Nj o5 o5).1,o5,o5,o5,o5⟩
theorem b0Q(hN:NmI N)(ha:arF n.1=0)(hm:jh n.2)(h:flS n N=0):WsT (FC n N):=by
 obtain⟨k,m⟩:=n;have one:∀w,wOk w=true->WsT [nm w]:=λw hw=>⟨⟨_,_,rfl,nz hw⟩,λR hR=>yY hw trivial hR⟩;have num:∀k:Int,∀m:Int,(k=2/\m.natAbs<=1000000000000)\/(k=3/\m.natAbs<=1000000000000000)\/(k=4/\m.natAbs<=1000000000)->WsT (OC k m):=by
  intro k m hk;have ht:=b2l hk;have e:OC k m=l7 (I9 m 0) [sy 45,some (k,IL k m.natAbs,(m.natAbs:Int))] [some (k,IL k m.natAbs,(m.natAbs:Int))]:=by unfold OC;rw[O5 (show k≠1 by omega),O5 (show k≠5 by omega)];rfl
  rw[e];cases I9 m 0
  .exact⟨⟨_,_,rfl,ht⟩,λR hR=>⟨ht,.inr hR,trivial⟩⟩
  .exact⟨⟨_,_,rfl,BH A7⟩,λR hR=>kC A7 ⟨ht,.inr hR,trivial⟩⟩
 have call:(k=36\/k=37\/k=38\/k=39)->WsT (FC (k,m) N):=by
  intro hk;have hg:O0 N.2.2.2.2 m=some (gtN N.2.2.2.2 m):=by rcases hk with rfl|rfl|rfl|rfl<;>exact Et rfl h
  have hw:wOk (dU k)=true:=by rcases hk with rfl|rfl|rfl|rfl<;>decide
  have e:FC (k,m) N=[nm (dU k),sy 40,nm (gtN N.2.2.2.2 m),sy 41]:=by rcases hk with rfl|rfl|rfl|rfl<;>rfl
  rw[e];exact⟨⟨_,_,rfl,nz hw⟩,λR hR=>yY hw (kC A7 (yY (JY (hN.m _ (ww hg))) (kC A7 trivial) (qU C9 _))) (qU C9 _)⟩
 rcases ar0 ha with rfl|rfl|rfl|rfl|rfl|rfl|rfl|rfl|rfl|rfl|rfl|rfl|rfl|rfl
 .show WsT [nm (l7 (D8 m 0) [102,97,108,115,101] [116,114,117,101])];cases D8 m 0
  .exact one _ C9
  .exact one _ C9
 .have hb:=DI (k:=2) o5 rfl h;exact num 2 m o5
 .have hb:=DI (k:=3) o5 rfl h;exact num 3 m o5
 .have hb:=DI (k:=4) o5 rfl h;exact num 4 m o5
 .have hb:=DI (k:=5) o5 rfl h;have ht:=b0h hb.1 hb.2;exact⟨⟨_,_,rfl,ht⟩,λR hR=>⟨ht,.inr hR,trivial⟩⟩
 .obtain⟨e,h1,h2,-⟩:=YI hm h;have ee:=hN.e e (ww h1);have eq:FC (6,m) N=[nm e.1,sy 58,nm (gtN e.2 (jc m 16))]:=by
   show[nm ((O0 N.1 (dA .i64 m 16)).getD ([],[])).1,sy 58,nm (gtN ((O0 N.1 (dA .i64 m 16)).getD ([],[])).2 (jc m 16))]=_;rw[h1];rfl
  rw[eq];exact⟨⟨_,_,rfl,nz (JY ee.1)⟩,λR hR=>yY (JY ee.1) (kC A7 (yY (JY (ee.2 _ (ww h2))) trivial hR)) (qU C9 _)⟩
 .exact one _ (JY (hN.i _ (ww (Et (n:=(7,m)) (l:=N.2.2.1) rfl h))))
 .exact one _ (JY (hN.d _ (ww (Et (n:=(8,m)) (l:=N.2.2.2.1) rfl h))))
 .exact one _ C9
 .exact⟨⟨_,_,rfl,nz (w:=[99,111,117,110,116]) C9⟩,λR hR=>yY C9 (kC A7 (kC A7 trivial)) (qU C9 _)⟩
 .exact call o5
 .exact call o5
 .exact call o5
 .exact call o5
theorem b3P:∀j:Fin 6,wOk (kP (j.val:Int))=true:=by decide
theorem X_(h:0<=m/\m<=5):wOk (kP m)=true:=by obtain⟨j,rfl⟩:∃j:Fin 6,m=(j.val:Int):=⟨⟨m.toNat,o5⟩,by simp;omega⟩;exact b3P j
theorem b3T(hN:NmI N)(ha:arF n.1=1)(hm:jh n.2)(h:flS n N=0)(num:Bool)(hL:WsT L)(cls:Int):WsT (a5D n N num L cls):=by
 obtain⟨k,m⟩:=n;have cl:∀R,WSR (L++[sy 41]) R:=λR=>MI hL (kC A7 trivial) (qU C9 _);rcases ar1 ha with rfl|rfl|rfl|rfl|rfl|rfl
 .show WsT ([sy 45]++l7 num ([sy 40]++L++[sy 41]) (wiI L cls 6));cases num
  .exact⟨⟨_,_,rfl,BH A7⟩,λR hR=>kC A7 ((a1d hL cls 6).ws R hR)⟩
  .exact⟨⟨_,_,rfl,BH A7⟩,λR hR=>kC A7 (kC A7 (cl R))⟩
 .show WsT ([nm [110,111,116],none]++wiI L cls 6);exact⟨⟨_,_,rfl,nz (w:=[110,111,116]) C9⟩,λR hR=>yY C9 (EK ((a1d hL cls 6).ws R hR) (a1d hL cls 6).st) (qU C9 _)⟩
 .exact⟨⟨_,_,rfl,nz (w:=dU 31) C9⟩,λR hR=>yY (w:=dU 31) C9 (kC A7 (cl R)) (qU C9 _)⟩
 .exact⟨⟨_,_,rfl,nz (w:=dU 32) C9⟩,λR hR=>yY (w:=dU 32) C9 (kC A7 (cl R)) (qU C9 _)⟩
 .have hg:=Et (n:=(33,m)) (l:=N.2.1) rfl h;exact⟨⟨_,_,rfl,nz (w:=dU 33) C9⟩,λR hR=>yY (w:=dU 33) C9 (kC A7 (yY (JY (hN.t _ (ww hg))) (kC A7 (EK (cl R) (NQ hL.st))) (qU C9 _))) (qU C9 _)⟩
 .obtain⟨hg,g1,g2⟩:=a3A hm h;have hmo:wOk (kP (jc m 8))=true:=X_ ⟨g1,g2⟩;exact⟨⟨_,_,rfl,nz (w:=dU 34) C9⟩,λR hR=>yY (w:=dU 34) C9 (kC A7 (yY (JY (hN.t _ (ww hg))) (kC A7 (EK (MI hL (kC A7 (EK (yY hmo (kC A7 trivial) (qU C9 _)) ⟨_,_,rfl,nz hmo⟩)) (qU C9 _)) (NQ hL.st))) (qU C9 _))) (qU C9 _)⟩
theorem b6w(ha:arF n.1=2)(h:flS n N=0){A B:List It}(hA:WsT A)(hB:WsT B)(ca cb:Int):WsT (JU n A ca B cb):=by
 obtain⟨k,m⟩:=n;by_cases h1:k=17\/k=18\/k=27\/k=28\/k=29\/k=30
 .have hw:wOk (dU k)=true:=by rcases h1 with rfl|rfl|rfl|rfl|rfl|rfl<;>decide
  have e:JU (k,m) A ca B cb=nm (dU k)::sy 40::(A++(sy 44::none::(B++[sy 41]))):=by
   have:JU (k,m) A ca B cb=[nm (dU k),sy 40]++A++[sy 44,none]++B++[sy 41]:=by rcases h1 with rfl|rfl|rfl|rfl|rfl|rfl<;>rfl
   rw[this];simp
  rw[e];exact⟨⟨_,_,rfl,nz hw⟩,λR hR=>yY hw (kC A7 (MI hA (kC A7 (EK (MI hB (kC A7 trivial) (qU C9 _)) (NQ hB.st))) (qU C9 _))) (qU C9 _)⟩
 by_cases h2:k=14\/k=15\/k=16
 .have hw:wOk (dU k)=true:=by rcases h2 with rfl|rfl|rfl<;>decide
  have hr:=a6Y h2 h;have hmo:wOk (kP m)=true:=X_ hr;have e:JU (k,m) A ca B cb=nm (dU k)::sy 40::(A++(sy 44::none::(B++(sy 44::none::nm (kP m)::[sy 41])))):=by
   have:JU (k,m) A ca B cb=[nm (dU k),sy 40]++A++[sy 44,none]++B++[sy 44,none,nm (kP m),sy 41]:=by rcases h2 with rfl|rfl|rfl<;>rfl
   rw[this];simp
  rw[e];exact⟨⟨_,_,rfl,nz hw⟩,λR hR=>yY hw (kC A7 (MI hA (kC A7 (EK (MI hB (kC A7 (EK (yY hmo (kC A7 trivial) (qU C9 _)) ⟨_,_,rfl,nz hmo⟩)) (qU C9 _)) (NQ hB.st))) (qU C9 _))) (qU C9 _)⟩
 have hk:k=11\/k=12\/k=13\/k=19\/k=20\/k=21\/k=22\/k=23\/k=24:=by have:=ar2 ha;omega
 have hb:SE k=false/\WZ k=false:=by rcases hk with rfl|rfl|rfl|rfl|rfl|rfl|rfl|rfl|rfl<;>exact⟨rfl,rfl⟩
 have ho:=b6s hk;unfold JU;simp only[hb.1,hb.2,o6];have wA:=a1d hA ca (l7 (D8 (kw k).2 3) 4 (kw k).2);have wB:=a1d hB cb ((kw k).2+1);rw[E9];refine⟨NQ wA.st,λR hR=>?_⟩;refine MI wA ?_ (qU C9 _);exact EK ⟨ho,.inr (qU C9 _),EK (wB.ws R hR) wB.st⟩ ⟨_,_,rfl,ho⟩
theorem b7a{A B C:List It}(hA:WsT A)(hB:WsT B)(hC:WsT C):WsT (ifI A B C):=by
 have e:ifI A B C=nm [105,102]::none::(A++(none::nm [116,104,101,110]::none::(B++(none::nm [101,108,115,101]::none::C)))):=by unfold ifI;simp
 rw[e];have t1:TokOk (1,[116,104,101,110],0):=nz C9;have t2:TokOk (1,[101,108,115,101],0):=nz C9;refine⟨⟨_,_,rfl,nz (w:=[105,102]) C9⟩,λR hR=>?_⟩;exact yY C9 (EK (MI hA (EK (yY C9 (EK (MI hB (EK (yY C9 (EK (hC.ws R hR) hC.st) (qU C9 _)) ⟨_,_,rfl,t2⟩) (qU C9 _)) (NQ hB.st)) (qU C9 _)) ⟨_,_,rfl,t1⟩) (qU C9 _)) (NQ hA.st)) (qU C9 _)
theorem Ou{N:D9}(hN:NmI N):∀(t:XT),t.wf->(∀n∈t.post,jh n.2)->(∀n∈t.post,flS n N=0)->WsT (itT N t)
 | .l0 n,hw,hI,hz=>b0Q hN hw (hI n (by simp[XT.post])) (hz n (by simp[XT.post]))| .l1 n a,hw,hI,hz=>b3T hN hw.1 (hI n (by simp[XT.post])) (hz n (by simp[XT.post])) _ (Ou hN a hw.2 (λm hm=>hI m (by simp[XT.post,hm])) (λm hm=>hz m (by simp[XT.post,hm]))) _| .l2 n a b,hw,hI,hz=>b6w hw.1 (hz n (by simp[XT.post])) (Ou hN a hw.2.1 (λm hm=>hI m (by simp[XT.post,hm])) (λm hm=>hz m (by simp[XT.post,hm]))) (Ou hN b hw.2.2 (λm hm=>hI m (by simp[XT.post,hm])) (λm hm=>hz m (by simp[XT.post,hm]))) _ _| .l3 n a b c,hw,hI,hz=>b7a (Ou hN a hw.2.1 (λm hm=>hI m (by simp[XT.post,hm])) (λm hm=>hz m (by simp[XT.post,hm]))) (Ou hN b hw.2.2.1 (λm hm=>hI m (by simp[XT.post,hm])) (λm hm=>hz m (by simp[XT.post,hm]))) (Ou hN c hw.2.2.2 (λm hm=>hI m (by simp[XT.post,hm])) (λm hm=>hz m (by simp[XT.post,hm])))
end Go.GP
