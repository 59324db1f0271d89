import Derived.Test.YtnpgekhfiogoeaaGreatDoorT5
import Derived.Test.YtnpgekhfiogoeaaGreatDoorT6
set_option linter.all false
namespace Go.GP
open Gt
set_option maxRecDepth 100000
section
theorem a2q{a:List Z8}(h:a.length<=1000000)(h2:∀e∈a,e.2.length<=1000000):tN a=some a:=by
 unfold tN;refine U9 (YX a (λe=>e) h (F:=λx=>x) (λi e acc he hi=>?_) (λacc=>?_)) ?_
 rotate_left 2
 .rw[o9,List.map_id']
 .have hlt:=(ax.1 he).1;simp only[N8 he,o7,I9,he,o9,YG (h2 e (mJ he))];rw[mM _ o5];rfl
 .simp only[N7 a,o6]
theorem YW{l:List eG}(h:l.length<=1000000):jC l=some (l.map (·.1)):=by
 unfold jC;refine U9 (YX l (λ(f:eG)=>f.1) h (F:=λx=>x) (λi e acc he hi=>?_) (λacc=>?_)) ?_
 rotate_left 2
 .rfl
 .have hlt:=(ax.1 he).1;simp only[N8 he,o7,I9,he,o9];rw[mM _ o5];rfl
 .simp only[N7 l,o6]
def nmS(l:aA)(s:L9):E9:=(l.1,l.2.1.map (·.1),s.2.2.1.map (·.1),s.2.2.2.1.map (·.1),l7 (U1 0 s.2.1) (match J8 l.2.2 s.2.1 with|some q=>q.2.2.2.1.map (·.1)|none=>[]) [])
structure NmL (l:aA):Prop where
 ne:l.1.length<=9
 nt:l.2.1.length<=9
 e:∀e∈l.1,e.2.length<=20/\e.1.length<=80/\∀m∈e.2,m.length<=80
 t:∀t∈l.2.1,t.1.length<=80
 s:∀s∈l.2.2,s.2.2.1.length<=14/\s.2.2.2.1.length<=14/\s.2.2.2.2.length<=60/\(∀f∈s.2.2.1,f.1.length<=80)/\(∀f∈s.2.2.2.1,f.1.length<=80)/\∀r∈s.2.2.2.2,r.1.length<=80
variable {l:aA}
theorem a8r(h:smL l=true)(hW:WfL l):NmL l:=by
 unfold smL at h;obtain⟨h1,h⟩:=DD h;obtain⟨h2,h⟩:=DD h;obtain⟨h3,h⟩:=DD h;obtain⟨h4,h⟩:=DD h;cases ht:qK tG l.2.1 0 with
 |inr r=>rw[ht]at h;cases h|inl b=>
  rw[ht]at h;simp only at h;cases hs:qK sG l.2.2 0 with
  |inr r=>rw[hs]at h;cases h|inl b' =>
   have T:=p_ l.2.1 0 b o5 o5 hW.rl ht;have S:=ZR l.2.2 0 b' o5 o5 hW.sl hs;refine⟨dZ (n:=9) h1,dZ (n:=9) h2,λe he=>?_,λt ht=>(T t ht).1,λs hs=>?_⟩
   .have hl:=II h4 e he;unfold Uj at hl;cases g1:H9 80 (o8 e.1)<;>rw[g1]at hl
    case true=>cases hl
    cases g2:H9 20 (o8 e.2)<;>rw[g2]at hl
    case true=>cases hl
    refine⟨dZ (n:=20) g2,dZ (n:=80) g1,λm hm=>?_⟩;have:=II (p:=λm=>H9 80 (o8 m)) hl m hm;exact dZ (n:=80) this
   .have h:=S s hs;unfold smS at h;obtain⟨a1,h⟩:=DD h;obtain⟨a2,h⟩:=DD h;obtain⟨a3,h⟩:=DD h;obtain⟨a4,h⟩:=DD h;obtain⟨a5,h⟩:=DD h;obtain⟨a6,h⟩:=DD h;have a7:s.2.2.2.2.any IX=false:=by revert h;cases s.2.2.2.2.any IX<;>intro h<;>first|rfl|cases h
    refine⟨dZ (n:=14) a2,dZ (n:=14) a3,dZ (n:=60) a4,λf hf=>dZ (n:=80) (II a5 f hf),λf hf=>dZ (n:=80) (II a6 f hf),λr hr=>?_⟩;have hl:=II a7 r hr;unfold IX at hl;cases g1:H9 80 (o8 r.1)<;>rw[g1]at hl
    case true=>cases hl
    exact dZ (n:=80) g1
variable {s:L9}
theorem b8v(h:NmL l)(hs:s∈l.2.2):NmOk (nmS l s):=by
 obtain⟨s1,s2,s3,s4,s5,s6⟩:=h.s s hs;refine⟨λe he=>?_,λx hx=>?_,λx hx=>?_,λx hx=>?_,λx hx=>?_⟩
 .have:=h.e e he;exact⟨o5,λm hm=>by have:=this.2.2 m hm;omega⟩
 .obtain⟨t,ht,rfl⟩:=iU.1 hx;have:=h.t t ht;omega
 .obtain⟨f,hf,rfl⟩:=iU.1 hx;have:=s4 f hf;omega
 .obtain⟨f,hf,rfl⟩:=iU.1 hx;have:=s5 f hf;omega
 .unfold nmS at hx;simp only at hx;cases g:U1 0 s.2.1<;>rw[g]at hx
  .cases hx
  .simp only[o7]at hx;split at hx
   .rename_i q hq;obtain⟨f,hf,rfl⟩:=iU.1 hx;have:=(h.s q (qj hq).2.2.1).2.2.2.2.1 f hf;omega
   .cases hx
theorem Ux(h:NmL l){k:Int}(hs:J8 l.2.2 k=some s):lN l k=some (nmS l s):=by
 obtain⟨k0,k1,hm,-⟩:=qj hs;obtain⟨s1,s2,-⟩:=h.s s hm;have nt:=h.nt;unfold lN;rw[bT k0,dw k1,o6,o6,o9,X8,hs,o9,YW o5,o9,YW o5,o9];refine kR l.2.1 (λ(b:E9) (t:bW)=>((b.1,b.2.1++[t.1],b.2.2):E9)) (λb i=>(b,i)) (λb=>b) (λi b=>b.2.1.length=i) (l.1,[],s.2.2.1.map (·.1),s.2.2.2.1.map (·.1),[]) o5 rfl (λi t b hx hi hI=>?_) (λb _=>?_) (λ_=>?_)
 .have hlt:=(ax.1 hx).1;simp only[N8 hx,o7,I9,hx,o9];rw[mM _ o5,o9,bD o5];exact⟨rfl,by simp;omega⟩
 .simp only[N7 l.2.1,o6]
 .have e:∀(L:List bW) (b:E9),L.foldl (λ(b:E9) (t:bW)=>((b.1,b.2.1++[t.1],b.2.2):E9)) b=(b.1,b.2.1++L.map (·.1),b.2.2):=by
   intro L;induction L with
   |nil=>intro b;simp|cons t L ih=>intro b;rw[V7,ih];simp
  rw[e];unfold nmS;cases g:U1 0 s.2.1
  .simp[l7]
  .by_cases g2:s.2.1<o8 l.2.2
   .obtain⟨q,hq,hmq⟩:=qQ (uo.1 g) g2;have:=(h.s q hmq).2.1;rw[dU g2,hq];simp only[o7,o9];rw[YW o5,o9];simp
   .rw[bT (rF.1 g2)];have:J8 l.2.2 s.2.1=none:=by
     cases hq:J8 l.2.2 s.2.1 with
     |none=>rfl|some q=>exact absurd (qj hq).2.1 g2
    rw[this];simp[l7]
theorem a2X(h:NmL l){k:Int}(hs:J8 l.2.2 k=some s):mg l k=some (nmS l s):=by rw[RY (a2q (by have:=h.ne;omega) (λe he=>by have:=(h.e e he).1;omega)) k];exact Ux h hs
theorem TU{c e:Int}(h:JZ c e=none):c=0:=by
 unfold JZ at h;cases he:C9 c 0<;>rw[he]at h
 .cases h
 .exact iF.1 he
theorem WI{b:Bool}{x y:Int}(h:l7 b x y=0)(hx:x≠0):b=false/\y=0:=by
 cases b
 .exact⟨rfl,h⟩
 .exact absurd h hx
theorem YU{n:Nat}{p:Nat->Option (Int×Int×Int×Int)}{z:Int×Int×Int×Int}(h:(match aS n p with|some r=>r|none=>z).1=0)(hp:∀i r,p i=some r->r.1≠0):∀i,i<n->p i=none:=
 Qo λr hf=>by rw[hf]at h;obtain⟨j,_,hj⟩:=jJ hf;exact hp j r hj h
theorem a8b(h:(oD l).1=0):(Es l).1=0:=by
 unfold oD at h;cases h1:C9 (Es l).1 0<;>rw[h1]at h
 .exact h
 .exact iF.1 h1
theorem a8c(h:(oD l).1=0):(zh l).1=0:=by
 have h0:=a8b h;unfold oD at h;rw[aB h0,o7]at h;cases h1:C9 (zh l).1 0<;>rw[h1]at h
 .exact h
 .exact iF.1 h1
structure RwV (t:bW) (en:List Z8) (x:uU):Prop where
 dv:BK x.1=true
 dn:x.1.1≠x.1.2
 lh:x.2.1<x.2.2.1
 lo:inB x.2.1 (bnd t.2.1 en)=true
 hi:inB (O6 .i64 x.2.2.1 1) (bnd t.2.1 en)=true
 n:inB x.2.2.2 (bnd t.2.2.1 en)=true
variable {en:List Z8}
theorem a5L{t:bW}{x:uU}(h:Dx x (bnd t.2.1 en) (bnd t.2.2.1 en)=false):RwV t en x:=by
 unfold Dx at h;cases g1:BK x.1<;>rw[g1]at h
 .cases h
 cases g2:C9 x.1.1 x.1.2<;>rw[g2]at h
 case true=>cases h
 cases g3:U1 x.2.2.1 x.2.1<;>rw[g3]at h
 case true=>cases h
 cases g4:inB x.2.1 (bnd t.2.1 en)<;>rw[g4]at h
 .cases h
 cases g5:inB (O6 .i64 x.2.2.1 1) (bnd t.2.1 en)<;>rw[g5]at h
 .cases h
 cases g6:inB x.2.2.2 (bnd t.2.2.1 en)<;>rw[g6]at h
 .cases h
 exact⟨g1,xm.1 g2,Gj.1 g3,g4,g5,g6⟩
structure TbV (l:aA) (i:Nat) (t:bW):Prop where
 id:uX t.1=true
 tk:wX l 2 i t.1=false
 le:t.2.2.2.length<=64
 vk:vty t.2.1 l.1=true
 vv:vty t.2.2.1 l.1=true
 rows:∀x∈t.2.2.2,RwV t l.1 x
theorem ND(h:(oD l).1=0):l.2.1.length<=8/\∀i t,l.2.1[i]? =some t->TbV l i t:=by
 have h1:=a8c h;unfold zh at h1;cases h2:H9 8 (o8 l.2.1)<;>rw[h2]at h1
 case true=>exact absurd (show(4:Int)=0 from h1) J3
 rw[o6]at h1;refine⟨by rw[ng]at h2;unfold o8 at h2;omega,λi t he=>?_⟩;have hn:=YU h1 (λj r hj=>by
  unfold Dw at hj;split at hj
  .exact LW hj
  .cases hj) i (ax.1 he).1
 unfold Dw at hn;rw[he]at hn;have hz:=a1e hn;unfold Nr at hz;cases g1:uX t.1<;>rw[g1]at hz
 .exact absurd (show(2:Int)=0 from hz) J3
 cases g2:wX l 2 i t.1<;>rw[g2]at hz
 case true=>exact absurd (show(7:Int)=0 from hz) J3
 have hc:(Fb t l.1).2=0:=by
  cases g3:C9 (Fb t l.1).2 0<;>rw[g3]at hz
  .exact hz
  .exact iF.1 g3
 unfold Fb at hc;cases g4:H9 64 (o8 t.2.2.2)<;>rw[g4]at hc
 case true=>exact absurd (show(4:Int)=0 from hc) J3
 cases g5:vty t.2.1 l.1<;>rw[g5]at hc
 .exact absurd (show(8:Int)=0 from hc) J3
 cases g6:vty t.2.2.1 l.1<;>rw[g6]at hc
 .exact absurd (show(8:Int)=0 from hc) J3
 simp only[o7,o6]at hc;refine⟨g1,g2,by rw[ng]at g4;unfold o8 at g4;omega,g5,g6,λx hx=>?_⟩;obtain⟨j,hj,e1⟩:=af hx;have hf:∀r,aS t.2.2.2.length (Lh t l.1)≠some r:=λr hf=>by
  have hc' :(match aS t.2.2.2.length (Lh t l.1)with|some r=>r|none=>(0,0)).2=0:=hc;rw[hf]at hc';obtain⟨q,_,hq⟩:=jJ hf;unfold Lh at hq;split at hq
  .rename_i x' _;cases a1:Dx x' (bnd t.2.1 l.1) (bnd t.2.2.1 l.1)<;>rw[a1]at hq
   .cases a2:(t.2.2.2.take q).any λy=>uK y x'<;>rw[a2]at hq
    .cases hq
    .cases hq;exact absurd (show(11:Int)=0 from hc') J3
   .cases hq;exact absurd (show(3:Int)=0 from hc') J3
  .cases hq
 have hj' :=Qo hf j hj;unfold Lh at hj';rw[lw hj,e1]at hj';simp only at hj';cases a1:Dx x (bnd t.2.1 l.1) (bnd t.2.2.1 l.1)<;>rw[a1]at hj'
 .exact a5L a1
 .cases hj'
structure RuV (s:L9) (sg:P7) (k:Nat) (r:aY):Prop where
 id:uX r.1=true
 nm:((s.2.2.2.2.take k).any λx=>seq x.1 r.1)=false
 df:∃d,J8 s.2.2.2.1 r.2.1=some d/\Ve r sg d.2=0
 pa:r.2.2.1=-1\/∃(p:Nat) (q:aY),r.2.2.1=(p:Int)/\p<k/\s.2.2.2.2[p]? =some q
 p0:0<=r.2.2.2.1
 p9:r.2.2.2.1<=9
 dv:BK r.2.2.2.2.1=true
 dn:r.2.2.2.2.1.1≠r.2.2.2.2.1.2
 src:TF r.2.2.2.2.2.2.2=true
variable {r:aY}{sg:P7}{k:Nat}
theorem ZG(h:GU s sg k r=0):RuV s sg k r:=by
 unfold GU at h;cases g1:uX r.1<;>rw[g1]at h
 .exact absurd (show(2:Int)=0 from h) J3
 cases g2:(s.2.2.2.2.take k).any λx=>seq x.1 r.1<;>rw[g2]at h
 case true=>exact absurd (show(7:Int)=0 from h) J3
 simp only[o7,o6]at h;cases g3:J8 s.2.2.2.1 r.2.1 with
 |none=>rw[g3]at h;exact absurd (show(6:Int)=0 from h) J3|some d=>
  rw[g3]at h;simp only at h;obtain⟨g4,h⟩:=WI h J3;cases g5:H9 r.2.2.2.1 0<;>rw[g5]at h
  case true=>exact absurd (show(3:Int)=0 from h) J3
  cases g6:H9 9 r.2.2.2.1<;>rw[g6]at h
  case true=>exact absurd (show(3:Int)=0 from h) J3
  cases g7:BK r.2.2.2.2.1<;>rw[g7]at h
  .exact absurd (show(3:Int)=0 from h) J3
  cases g8:C9 r.2.2.2.2.1.1 r.2.2.2.2.1.2<;>rw[g8]at h
  case true=>exact absurd (show(3:Int)=0 from h) J3
  cases g9:U1 8 (OJ (s.2.2.2.2.take k) r.2.1:Int)<;>rw[g9]at h
  case true=>exact absurd (show(4:Int)=0 from h) J3
  cases g10:TF r.2.2.2.2.2.2.2<;>rw[g10]at h
  .exact absurd (show(2:Int)=0 from h) J3
  simp only[o7,o6]at h;refine⟨g1,g2,⟨d,g3,h⟩,?_,ng.1 g5,ng.1 g6,g7,xm.1 g8,g10⟩;cases a1:C9 r.2.2.1 (-1)<;>rw[a1]at g4
  .rw[o6]at g4;cases a2:H9 r.2.2.1 0<;>rw[a2]at g4
   case true=>cases g4
   rw[o6]at g4;cases a3:U1 (k:Int) r.2.2.1<;>rw[a3]at g4
   case true=>cases g4
   rw[o6]at g4;have b2:=ng.1 a2;have b3:=Gj.1 a3;right;obtain⟨p,hp⟩:∃p:Nat,r.2.2.1=(p:Int):=⟨r.2.2.1.toNat,(fV b2).symm⟩;rw[hp,I9]at g4;cases hq:s.2.2.2.2[p]? with
   |none=>rw[hq]at g4;cases g4|some q=>exact⟨p,q,hp,Int.ofNat_lt.1 (by rw[hp]at b3;exact b3),hq⟩
  .exact .inl (iF.1 a1)
structure FdV (en:List Z8) (f:eG) (a b:List eG):Prop where
 id:uX f.1=true
 a:(a.any λx=>seq x.1 f.1)=false
 b:(b.any λx=>seq x.1 f.1)=false
 ty:vty f.2 en=true
theorem NL{f:eG}{a b:List eG}(h:Di en f a b=0):FdV en f a b:=by
 unfold Di at h;cases g1:uX f.1<;>rw[g1]at h
 .exact absurd (show(2:Int)=0 from h) J3
 cases g2:a.any λx=>seq x.1 f.1<;>rw[g2]at h
 case true=>exact absurd (show(7:Int)=0 from h) J3
 cases g3:b.any λx=>seq x.1 f.1<;>rw[g3]at h
 case true=>exact absurd (show(7:Int)=0 from h) J3
 cases g4:vty f.2 en<;>rw[g4]at h
 .exact absurd (show(8:Int)=0 from h) J3
 exact⟨g1,g2,g3,g4⟩
structure ScV (l:aA) (i:Nat) (s:L9):Prop where
 id:uX s.1=true
 tk:wX l 3 i s.1=false
 mb:s.2.1=-1\/∃(p:Nat) (q:L9),s.2.1=(p:Int)/\p<i/\l.2.2[p]? =some q
 li:s.2.2.1.length<=12
 ld:s.2.2.2.1.length<=12
 ins:∀j f,s.2.2.1[j]? =some f->FdV l.1 f (s.2.2.1.take j) []
 defs:∀j f,s.2.2.2.1[j]? =some f->FdV l.1 f s.2.2.1 (s.2.2.2.1.take j)
 rules:∀k r,s.2.2.2.2[k]? =some r->RuV s (Lr l s) k r
theorem AA(h:(oD l).1=0):l.2.2.length<=4/\∀i s,l.2.2[i]? =some s->ScV l i s:=by
 have h0:=h;refine⟨?_,λi s hs=>?_⟩
 .unfold oD at h;rw[aB (a8b h0),o7,aB (a8c h0),o7]at h;unfold Iw at h;cases h3:H9 4 (o8 l.2.2)<;>rw[h3]at h
  case true=>exact absurd (show(4:Int)=0 from h) J3
  rw[ng]at h3;unfold o8 at h3;omega
 have he:=Ym h hs;unfold yT at he;cases g1:uX s.1<;>rw[g1]at he
 .exact absurd (show(2:Int)=0 from he) J3
 cases g2:wX l 3 i s.1<;>rw[g2]at he
 case true=>exact absurd (show(7:Int)=0 from he) J3
 cases g3:Be l i s.2.1<;>rw[g3]at he
 case true=>exact absurd (show(6:Int)=0 from he) J3
 cases g4:H9 12 (o8 s.2.2.1)<;>rw[g4]at he
 case true=>exact absurd (show(4:Int)=0 from he) J3
 cases g5:H9 12 (o8 s.2.2.2.1)<;>rw[g5]at he
 case true=>exact absurd (show(4:Int)=0 from he) J3
 simp only[o7,o6]at he;have hfs:vJ l s=none:=by
  unfold MM at he;cases hf:vJ l s with
  |none=>rfl|some q=>rw[hf]at he;exact absurd he (Gg hf)
 refine⟨g1,g2,?_,by rw[ng]at g4;unfold o8 at g4;omega,by rw[ng]at g5;unfold o8 at g5;omega,λj f hf=>?_,λj f hf=>?_,λk r hr=>ZG (w_ h hs hr)⟩
 .unfold Be at g3;cases a1:C9 s.2.1 (-1)<;>rw[a1]at g3
  .rw[o6]at g3;cases a2:H9 s.2.1 0<;>rw[a2]at g3
   case true=>cases g3
   rw[o6]at g3;cases a3:U1 (i:Int) s.2.1<;>rw[a3]at g3
   case true=>cases g3
   rw[o6]at g3;have b2:=ng.1 a2;have b3:=Gj.1 a3;right;obtain⟨p,hp⟩:∃p:Nat,s.2.1=(p:Int):=⟨s.2.1.toNat,(fV b2).symm⟩;rw[hp,I9]at g3;cases hq:l.2.2[p]? with
   |none=>rw[hq]at g3;cases g3|some q=>exact⟨p,q,hp,Int.ofNat_lt.1 (by rw[hp]at b3;exact b3),hq⟩
  .exact .inl (iF.1 a1)
 .unfold vJ at hfs;have hin:aS s.2.2.1.length (inP l s)=none:=by
   cases hq:aS s.2.2.1.length (inP l s)with
   |none=>rfl|some q=>rw[hq]at hfs;cases hfs
  have hj:=xh hin j (ax.1 hf).1;unfold inP at hj;rw[hf]at hj;exact NL (TU hj)
 .unfold vJ at hfs;have hdf:aS s.2.2.2.1.length (SY l s)=none:=by
   cases hq:aS s.2.2.1.length (inP l s)with
   |none=>rw[hq]at hfs;exact hfs|some q=>rw[hq]at hfs;cases hfs
  have hj:=xh hdf j (ax.1 hf).1;unfold SY at hj;rw[hf]at hj;exact NL (TU hj)
def spW(ws:List (List UInt8)):List UInt8:=ws.flatMap (λw=>32::w)
def lnS(first:List UInt8)(ws:List (List UInt8)):List UInt8:=first++spW ws++[10]
theorem Ya(w:List UInt8)(ws:List (List UInt8)):spW (w::ws)=32::w++spW ws:=by simp[spW]
theorem Yb(ws:List (List UInt8))(w:List UInt8):spW (ws++[w])=spW ws++32::w:=by simp[spW]
theorem Py{B:Nat} :∀{ws:List (List UInt8)},(∀w∈ws,w.length<=B)->(spW ws).length<=ws.length*(B+1)
 |[],_=>by simp[spW]|w::ws,h=>by have h1:=Py (λv hv=>h v (O9 _ hv)) (ws:=ws);have h2:=h w x9;rw[Ya];simp only[D8,D9,I7,Y3];omega
variable {ws:List (List UInt8)}{f:List UInt8}
theorem EI{B:Nat}(h:∀w∈ws,w.length<=B):(lnS f ws).length<=f.length+ws.length*(B+1)+1:=by have:=Py h;unfold lnS;simp;omega
theorem KF{B:Nat}(h:∀w∈ws,w.length<=B)(n:Nat):(spW (ws.take n)).length<=ws.length*(B+1):=by
 have h1:=Py (ws:=ws.take n) (λw hw=>h w (oI hw));have h2:(ws.take n).length<=ws.length:=by simp;omega
 exact aU h1 (D7 _ h2)
theorem Cf(hf:f.length<=1000)(hl:ws.length<=1000)(h:∀w∈ws,w.length<=1000000):Y9 f ws=some (lnS f ws):=by
 unfold Y9;refine kR ws (λb a=>b++(32::a)) (λb i=>(b,i)) id (λi b=>b=f++spW (ws.take i)) f o5 (by simp[spW]) (λi a b ha hi hb=>?_) (λb hb=>?_) ?_
 .have hlt:=(ax.1 ha).1;have hm:=h a (mJ ha);have ht:=KF h i;have h3:ws.length*(1000000+1)<=1000*1000001:=D7 _ hl;subst hb;simp only[N8 ha,o7,I9,ha,o9];rw[I8 G6,o9,I8 G6,o9,bD o5];refine⟨rfl,?_⟩;rw[U4 hlt,Yb,(ax.1 ha).2];simp
 .simp only[N7,o6,id]
 .have hfold:∀(l:List (List UInt8)) (b:List UInt8),l.foldl (λb a=>b++(32::a)) b=b++spW l:=by
   intro l;induction l with
   |nil=>intro b;simp[spW]|cons w l ih=>intro b;rw[V7,ih,Ya];simp
  have ht:=Py h;have h3:ws.length*(1000000+1)<=1000*1000001:=D7 _ hl;rw[hfold];simp only[id];rw[I8 G6,o9];simp[lnS]
def jnW(f:List UInt8)(ws:List (List UInt8))(i:Nat):List UInt8:=match i with|0=>[]|i+1=>f++spW (ws.take i)
theorem a2N{i:Nat}{a:List UInt8}(ha:ws[i]? =some a):jnW f ws (i+2)=jnW f ws (i+1)++32::a:=by unfold jnW;have hlt:=(ax.1 ha).1;simp only;rw[U4 hlt,Yb,(ax.1 ha).2];simp
theorem zx(hf:f.length<=1000)(hl:ws.length<=1000)(h:∀w∈ws,w.length<=1000000):bC (f::ws)=some (lnS f ws):=by
 unfold bC;have hb:∀i,(jnW f ws i).length<=2000000000:=λi=>by
  cases i with
  |zero=>simp[jnW]|succ i=>have ht:=KF h i;have h3:ws.length*(1000000+1)<=1000*1000001:=D7 _ hl;simp only[jnW,D8];omega
 have key:=pO (f:=λ(x:List UInt8×Int)=>
   l7 (H9 x.2 (o8 (f::ws)))
    (l7 (H9 0 x.2)
     (l9 (O7 x.1 [32]) λ(x_1:List UInt8)=>
      l9 (J8 (f::ws) x.2) λ(x_2:List UInt8)=>
       l9 (O7 x_1 x_2) λ(x_3:List UInt8)=>some (Sum.inl (x_3,G5 IntKind.i64 x.2 1)))
     (l9 (J8 (f::ws) x.2) λ(x_1:List UInt8)=>
      l9 (O7 x.1 x_1) λ(x_2:List UInt8)=>some (Sum.inl (x_2,G5 IntKind.i64 x.2 1))))
    (some (Sum.inr x.1))) (s:=(([]:List UInt8),(0:Int)))
  (λx=>∃i:Nat,x=(jnW f ws i,(i:Int))/\i<=ws.length+1) (λe=>e=jnW f ws (ws.length+1)) (λx=>ws.length+1 -x.2.toNat) ⟨0,rfl,o5⟩ G6 ?_
 .obtain⟨e,h1,h2⟩:=key;rw[h1,o9,h2];have:=hb (ws.length+1);rw[I8 G6,o9];simp[jnW,lnS]
 .rintro x ⟨i,rfl,hi⟩;by_cases hlt:i<ws.length+1
  .have e1:H9 ((i:Nat):Int) (o8 (f::ws))=true:=dU (by simp[o8];omega);simp only[e1,o7];cases i with
   |zero=>refine .inl ⟨(jnW f ws 1,((1:Nat):Int)),?_,⟨1,rfl,o5⟩,x9⟩;rw[bT x9,o6,I9];simp only[bM,o9,jnW];rw[I8 G6,o9,bD o5];simp[spW]|succ i=>have hlt' :i<ws.length:=o5;have ha:ws[i]? =some ws[i]:=lw hlt';refine .inl ⟨(jnW f ws (i+2),((i+2:Nat):Int)),?_,⟨i+2,rfl,o5⟩,by simp;omega⟩;have h1:=hb (i+1);have h2:=h _ (O5 hlt');rw[dU o5,o7,I8 G6,o9,I9,mf,ha,o9,I8 G6,o9,bD o5,a2N ha];simp;omega
  .have:i=ws.length+1:=o5;subst this;exact .inr ⟨_,by rw[bT (by simp[o8])];rfl,rfl⟩
def tyS(t:Int×Int)(en:List Z8):List UInt8:=
 l7 (C9 t.1 1) [98,111,111,108] (l7 (C9 t.1 2) [105,110,116] (l7 (C9 t.1 3) [109,111,110,101,121] (l7 (C9 t.1 4) [114,97,116,101] (l7 (C9 t.1 5) [100,97,116,101] (((J8 en t.2).map (·.1)).getD [])))))
variable {t:Int×Int}
theorem a0a(h:vty t en=true)(h6:t.1=6):∃e,J8 en t.2=some e/\e∈en:=by
 unfold vty at h;rw[aB h6,o7]at h;cases g1:U1 0 t.2<;>rw[g1]at h
 .cases h
 rw[o7]at h;exact qQ (uo.1 g1) (yZ.1 h)
theorem UK(h:vty t en=true):(t.1=1/\t.2=0)\/(t.1=2/\t.2=0)\/(t.1=3/\t.2=0)\/(t.1=4/\t.2=0)\/(t.1=5/\t.2=0)\/t.1=6:=by
 unfold vty at h;cases g0:C9 t.1 6<;>rw[g0]at h
 case true=>have:=iF.1 g0;omega
 rw[o6]at h;cases g1:U1 1 t.1<;>rw[g1]at h
 .cases h
 cases g2:U1 t.1 5<;>rw[g2]at h
 .cases h
 have h1:=uo.1 g1;have h2:=uo.1 g2;have h3:=iF.1 h;omega
theorem a0K(h:vty t en=true):iH t en=some (tyS t en):=by
 unfold iH tyS;cases g1:C9 t.1 1
 case true=>rfl
 cases g2:C9 t.1 2
 case true=>rfl
 cases g3:C9 t.1 3
 case true=>rfl
 cases g4:C9 t.1 4
 case true=>rfl
 cases g5:C9 t.1 5
 case true=>rfl
 have h6:t.1=6:=by have:=UK h;have a1:=xm.1 g1;have a2:=xm.1 g2;have a3:=xm.1 g3;have a4:=xm.1 g4;have a5:=xm.1 g5;omega
 obtain⟨e,he,-⟩:=a0a h h6;simp only[o6];rw[he];rfl
theorem VN(h:vty t l.1=true):jU t l=some (tyS t l.1):=by
 unfold jU tyS;rcases UK h with h1|h1|h1|h1|h1|h1
 .rw[h1.1];rfl
 .rw[h1.1];rfl
 .rw[h1.1];rfl
 .rw[h1.1];rfl
 .rw[h1.1];rfl
 .obtain⟨e,he,-⟩:=a0a h h1;rw[he,h1];rfl
theorem b1r(hn:∀e∈en,e.1.length<=80):(tyS t en).length<=80:=by
 unfold tyS;cases C9 t.1 1
 case true=>simp
 cases C9 t.1 2
 case true=>simp
 cases C9 t.1 3
 case true=>simp
 cases C9 t.1 4
 case true=>simp
 cases C9 t.1 5
 case true=>simp
 simp only[o6];cases hl:J8 en t.2 with
 |none=>simp|some e=>exact hn e (qj hl).2.2.1
def enS(d:Int):List UInt8:=l7 (C9 d 109573) [101,110,100] (wY d)
theorem a2z(d:Int):oO d=some (enS d):=by unfold oO enS;rw[qf,o9];cases C9 d 109573<;>rfl
theorem a0u(d:Int):Ar d=some (enS d):=by unfold Ar enS;rw[vP,o9];cases C9 d 109573<;>rfl
theorem a2y(d:Int):(enS d).length<=100:=by
 unfold enS;cases C9 d 109573
 .exact zQ d
 .simp
def vaS(n:Int)(t:Int×Int)(en:List Z8):List UInt8:=((jX (t.1,t.2,n) en).getD ([],0)).1
theorem Ag{n:Int}(h:lJ n)(hm:∀e∈en,e.2.length<=100/\∀m∈e.2,m.length<=100):(vaS n t en).length<=100/\iV n t en=some (vaS n t en)/\∀l:aA,l.1=en->pJ n t l=some (vaS n t en):=by
 obtain⟨x,hx,hl⟩:=vZ (B:=100) o5 o5 (v:=(t.1,t.2,n)) h hm;have e:vaS n t en=x.1:=by unfold vaS;rw[hx];rfl
 refine⟨by rw[e];exact hl,?_,λl hle=>?_⟩
 .unfold iV;rw[hx,o9,e]
 .unfold pJ;subst hle;rw[←vY _ h,hx,o9,e]
def hiS(t:bW)(r:uU)(en:List Z8):List UInt8:=l7 (U1 r.2.2.1 (bnd t.2.1 en).2) (vaS r.2.2.1 t.2.1 en) [101,110,100]
def Lj(t:bW)(r:uU)(en:List Z8):List (List UInt8):=[wY r.1.1,enS r.1.2,vaS r.2.1 t.2.1 en,hiS t r en,vaS r.2.2.2 t.2.2.1 en]
def SA:List UInt8:=[114,111,119]
structure EnL (en:List Z8):Prop where
 n:∀e∈en,e.1.length<=80
 m:∀e∈en,e.2.length<=100/\∀m∈e.2,m.length<=100
theorem Rx{t:bW}{r:uU}(hE:EnL en)(h1:lJ r.2.1)(h2:lJ r.2.2.1)(h3:lJ r.2.2.2):∀w∈Lj t r en,w.length<=100:=by
 intro w hw;simp only[Lj,A8,aQ,or_false]at hw;rcases hw with rfl|rfl|rfl|rfl|rfl
 .exact zQ _
 .exact a2y _
 .exact(Ag h1 hE.m).1
 .unfold hiS;cases U1 r.2.2.1 (bnd t.2.1 en).2
  .simp
  .exact(Ag h2 hE.m).1
 .exact(Ag h3 hE.m).1
theorem a8B{t:bW}{r:uU}(hE:EnL en)(h1:lJ r.2.1)(h2:lJ r.2.2.1)(h3:lJ r.2.2.2):rH t r en=some (lnS SA (Lj t r en)):=by have hl:=Rx (t:=t) hE h1 h2 h3;unfold rH;rw[LJ,o9,qf,a2z,(Ag (t:=t.2.1) h1 hE.m).2.1,(Ag (t:=t.2.1) h2 hE.m).2.1,(Ag (t:=t.2.2.1) h3 hE.m).2.1];have hq:=Cf (f:=SA) (ws:=Lj t r en) J3 (by simp[Lj]) (λw hw=>aU (hl w hw) o5);unfold Lj hiS SA at hq;unfold Lj hiS SA;cases g:U1 r.2.2.1 (bnd t.2.1 en).2<;>rw[g]at hq<;>simp only[o7,o6,o9]at hq ⊢<;>rw[hq]<;>rfl
theorem a6I{t:bW}{r:uU}(hE:EnL l.1)(h1:lJ r.2.1)(h2:lJ r.2.2.1)(h3:lJ r.2.2.2):Ec t r l=some (lnS SA (Lj t r l.1)):=by have hl:=Rx (t:=t) hE h1 h2 h3;unfold Ec;rw[EP,o9,vP,a0u,(Ag (t:=t.2.1) h1 hE.m).2.2 l rfl,(Ag (t:=t.2.1) h2 hE.m).2.2 l rfl,(Ag (t:=t.2.2.1) h3 hE.m).2.2 l rfl];have hq:=zx (f:=SA) (ws:=Lj t r l.1) J3 (by simp[Lj]) (λw hw=>aU (hl w hw) o5);unfold Lj hiS SA at hq;unfold Lj hiS SA;cases g:U1 r.2.2.1 (bnd t.2.1 l.1).2<;>rw[g]at hq<;>simp only[o7,o6,o9]at hq ⊢<;>rw[hq]<;>rfl
def dnS(s:L9)(r:aY):List UInt8:=((J8 s.2.2.2.1 r.2.1).map (·.1)).getD []
def ovS(s:L9)(r:aY):List (List UInt8):=l7 (U1 0 r.2.2.1) [[111,118,101,114],((J8 s.2.2.2.2 r.2.2.1).map (·.1)).getD []] []
def prS(r:aY):List (List UInt8):=l7 (H9 0 r.2.2.2.1) [[112,114,105,111],Lib.itoa r.2.2.2.1] []
def daS(r:aY):List (List UInt8):=[[102,114,111,109],wY r.2.2.2.2.1.1,[116,111],enS r.2.2.2.2.1.2]
def guS(r:aY)(N:E9):List (List UInt8):=l7 (H9 0 (o8 r.2.2.2.2.2.1)) [[119,104,101,110],(WX r.2.2.2.2.2.1 N).1] []
def isS(r:aY)(N:E9):List (List UInt8):=[[105,115],(WX r.2.2.2.2.2.2.1 N).1]
def soS(r:aY):List (List UInt8):=l7 (seq r.2.2.2.2.2.2.2 []) [] [[115,114,99],34::r.2.2.2.2.2.2.2++[34]]
def ruW(s:L9)(r:aY)(N:E9):List (List UInt8):=[r.1,[111,102],dnS s r]++ovS s r++prS r++daS r++guS r N++isS r N++soS r
def Hr:List UInt8:=[114,117,108,101]
structure RuL (s:L9) (r:aY):Prop where
 n:r.1.length<=80
 d:∀d∈s.2.2.2.1,d.1.length<=80
 q:∀q∈s.2.2.2.2,q.1.length<=80
 g:∀n∈r.2.2.2.2.2.1,lJ n.2
 v:∀n∈r.2.2.2.2.2.2.1,lJ n.2
 s:r.2.2.2.2.2.2.2.length<=64
variable {α:Type}
theorem UT{b:Bool}{x y:List α}{P:α->Prop}(hx:∀w∈x,P w)(hy:∀w∈y,P w):∀w∈l7 b x y,P w:=by
 cases b
 .exact hy
 .exact hx
theorem VP{N:E9}(h:RuL s r)(hN:NmOk N)(hp:lJ r.2.2.2.1):∀w∈ruW s r N,w.length<=150000:=by
 have hdn:(dnS s r).length<=80:=by
  unfold dnS;cases hl:J8 s.2.2.2.1 r.2.1 with
  |none=>simp|some d=>exact h.d d (qj hl).2.2.1
 have hpn:(((J8 s.2.2.2.2 r.2.2.1).map (·.1)).getD []).length<=80:=by
  cases hl:J8 s.2.2.2.2 r.2.2.1 with
  |none=>simp|some d=>exact h.q d (qj hl).2.2.1
 have hit:=Gm hp;have hd1:=zQ r.2.2.2.2.1.1;have hd2:=a2y r.2.2.2.2.1.2;have hg:=Q_ hN h.g;have hv:=Q_ hN h.v;have hn:=h.n;have hs:=h.s;unfold ruW;intro w hw;simp only[O8]at hw;rcases hw with(((((hw|hw)|hw)|hw)|hw)|hw)|hw
 .simp only[A8,aQ,or_false]at hw;rcases hw with rfl|rfl|rfl
  .omega
  .simp
  .omega
 .refine UT (P:=λw=>w.length<=150000) (λw hw=>?_) (λw hw=>by cases hw) w hw;simp only[A8,aQ,or_false]at hw;rcases hw with rfl|rfl
  .simp
  .omega
 .refine UT (P:=λw=>w.length<=150000) (λw hw=>?_) (λw hw=>by cases hw) w hw;simp only[A8,aQ,or_false]at hw;rcases hw with rfl|rfl
  .simp
  .omega
 .simp only[daS,A8,aQ,or_false]at hw;rcases hw with rfl|rfl|rfl|rfl
  .simp
  .omega
  .simp
  .omega
 .refine UT (P:=λw=>w.length<=150000) (λw hw=>?_) (λw hw=>by cases hw) w hw;simp only[A8,aQ,or_false]at hw;rcases hw with rfl|rfl
  .simp
  .omega
 .simp only[isS,A8,aQ,or_false]at hw;rcases hw with rfl|rfl
  .simp
  .omega
 .refine UT (P:=λw=>w.length<=150000) (λw hw=>by cases hw) (λw hw=>?_) w hw;simp only[A8,aQ,or_false]at hw;rcases hw with rfl|rfl
  .simp
  .simp;omega
theorem VO(s:L9)(r:aY)(N:E9):(ruW s r N).length<=20:=by unfold ruW ovS prS daS guS isS soS;cases U1 0 r.2.2.1<;>cases H9 0 r.2.2.2.1<;>cases H9 0 (o8 r.2.2.2.2.2.1)<;>cases seq r.2.2.2.2.2.2.2 []<;>simp
theorem Pv{s:List UInt8}(h:s.length<=64):(O7 [34] s)=some (34::s)/\O7 (34::s) [34]=some (34::s++[34]):=
 ⟨by rw[I8 G6];rfl,by rw[I8 G6]⟩
theorem Zb{p:Int}(h0:0<=p)(h9:p<=9):lJ p:=by unfold lJ;omega
theorem a1H{p:Int}(h:0<=p):G7 (C9 p 0)=H9 0 p:=by
 cases g:H9 0 p
 .have:=ng.1 g;rw[aB (show p=0 by omega)];rfl
 .have:=yZ.1 g;rw[P6 (show p≠0 by omega)];rfl
theorem a6J{N:E9}(hv:RuV s sg k r)(h:RuL s r)(hN:NmOk N):nR s r N=some (lnS Hr (ruW s r N)):=by
 obtain⟨d,hd,-⟩:=hv.df;have hp:lJ r.2.2.2.1:=Zb hv.p0 hv.p9;have hw:=VP (s:=s) (r:=r) (N:=N) h hN hp;have hc:=VO s r N;have hq:=Cf (f:=Hr) (ws:=ruW s r N) J3 o5 (λw hx=>aU (hw w hx) o5);unfold nR;rw[hd,o9,qf,a2z,a2H hN h.g,a2H hN h.v,jB hp];simp only[o9,(Pv h.s).1,(Pv h.s).2];have hdn:dnS s r=d.1:=by unfold dnS;rw[hd];rfl
 have hpr:G7 (C9 r.2.2.2.1 0)=H9 0 r.2.2.2.1:=a1H hv.p0;rw[hpr];unfold ruW ovS prS daS guS isS soS Hr at hq;unfold ruW ovS prS daS guS isS soS Hr;rw[hdn]at hq ⊢;have hpq:U1 0 r.2.2.1=true->∃q,J8 s.2.2.2.2 r.2.2.1=some q:=λg=>by
  rcases hv.pa with hm|⟨p,q,e,-,hq2⟩
  .rw[hm]at g;exact absurd g J3
  .exact⟨q,by rw[e,I9];exact hq2⟩
 cases g1:U1 0 r.2.2.1
 case true=>
  obtain⟨q,hq2⟩:=hpq g1;rw[g1,hq2]at hq;rw[hq2];cases g2:H9 0 r.2.2.2.1<;>cases g3:H9 0 (o8 r.2.2.2.2.2.1)<;>cases g4:seq r.2.2.2.2.2.2.2 []<;>rw[g2,g3,g4]at hq <;>
   simp only[o7,o6,J5,Y7,o9,Y8,Z5,F6,L8,F7]at hq ⊢ <;>
   simp only[vK,o9,L8,F7,D9,L6,Nat.reduceAdd,Nat.reduceLeDiff]<;>rw[hq]<;>rfl
 case false=>
  rw[g1]at hq;cases g2:H9 0 r.2.2.2.1<;>cases g3:H9 0 (o8 r.2.2.2.2.2.1)<;>cases g4:seq r.2.2.2.2.2.2.2 []<;>rw[g2,g3,g4]at hq <;>
   simp only[o7,o6,J5,Y7,o9,Y8,Z5,F6,L8,F7]at hq ⊢ <;>
   simp only[vK,o9,L8,F7,D9,L6,Nat.reduceAdd,Nat.reduceLeDiff]<;>rw[hq]<;>rfl
theorem a4f{i:Int}(hL:NmL l)(hs:J8 l.2.2 i=some s)(hv:RuV s sg k r)(h:RuL s r)(hN:NmOk (nmS l s)):yR l i r=some (lnS Hr (ruW s r (nmS l s))):=by
 obtain⟨d,hd,-⟩:=hv.df;have hp:lJ r.2.2.2.1:=Zb hv.p0 hv.p9;have hw:=VP (s:=s) (r:=r) (N:=nmS l s) h hN hp;have hc:=VO s r (nmS l s);have hq:=zx (f:=Hr) (ws:=ruW s r (nmS l s)) J3 o5 (λw hx=>aU (hw w hx) o5);unfold yR;rw[hs,o9,Ux hL hs,o9,hd,o9,vP,a0u,a0z hN h.g,a0z hN h.v,qU hp];simp only[o9,(Pv h.s).1,(Pv h.s).2];have hdn:dnS s r=d.1:=by unfold dnS;rw[hd];rfl
 unfold ruW ovS prS daS guS isS soS Hr at hq;unfold ruW ovS prS daS guS isS soS Hr;rw[hdn]at hq ⊢;have hpq:U1 0 r.2.2.1=true->∃q,J8 s.2.2.2.2 r.2.2.1=some q:=λg=>by
  rcases hv.pa with hm|⟨p,q,e,-,hq2⟩
  .rw[hm]at g;exact absurd g J3
  .exact⟨q,by rw[e,I9];exact hq2⟩
 cases g1:U1 0 r.2.2.1
 case true=>
  obtain⟨q,hq2⟩:=hpq g1;rw[g1,hq2]at hq;rw[hq2];cases g2:H9 0 r.2.2.2.1<;>cases g3:H9 0 (o8 r.2.2.2.2.2.1)<;>cases g4:seq r.2.2.2.2.2.2.2 []<;>rw[g2,g3,g4]at hq <;>
   simp only[o7,o6,J5,Y7,o9,Y8,Z5,F6,L8,F7]at hq ⊢ <;>
   simp only[vK,o9,L8,F7,D9,L6,Nat.reduceAdd,Nat.reduceLeDiff]<;>rw[hq]<;>rfl
 case false=>
  rw[g1]at hq;cases g2:H9 0 r.2.2.2.1<;>cases g3:H9 0 (o8 r.2.2.2.2.2.1)<;>cases g4:seq r.2.2.2.2.2.2.2 []<;>rw[g2,g3,g4]at hq <;>
   simp only[o7,o6,J5,Y7,o9,Y8,Z5,F6,L8,F7]at hq ⊢ <;>
   simp only[vK,o9,L8,F7,D9,L6,Nat.reduceAdd,Nat.reduceLeDiff]<;>rw[hq]<;>rfl
theorem a5T{g:α->List UInt8}{l:List α}{i:Nat}{a:α}(ha:l[i]? =some a):(l.take (i+1)).flatMap g=(l.take i).flatMap g++g a/\((l.take i).flatMap g).length+(g a).length<=(l.flatMap g).length:=by
 have hlt:=(ax.1 ha).1;have e1:l.take (i+1)=l.take i++[a]:=by rw[U4 hlt,(ax.1 ha).2]
 have e2:l=l.take (i+1)++l.drop (i+1):=(eX _ _).symm;refine⟨by rw[e1];simp,?_⟩;have e3:(l.flatMap g).length=((l.take (i+1)).flatMap g).length+((l.drop (i+1)).flatMap g).length:=by
  conv=>lhs;rw[e2]
  rw[List.flatMap_append,D8]
 rw[e3,e1,List.flatMap_append,D8];simp only[List.flatMap_cons,List.flatMap_nil,F6];omega
theorem oZ{α γ:Type}(l:List α)(g:α->List UInt8)(hl:l.length<=1000000)(b:List UInt8)(hb:b.length+(l.flatMap g).length<=1000000000)
  {f:List UInt8×Int->Option ((List UInt8×Int)⊕List UInt8)} {K:List UInt8->Option γ} {r:Option γ}
  (hin:∀(i:Nat) (a:α) (acc:List UInt8),l[i]? =some a->i<=1000000->acc.length+(g a).length<=1000000000->f (acc,(i:Int))=some (.inl (acc++g a,((i+1:Nat):Int))))
  (hend:∀acc,f (acc,(l.length:Int))=some (.inr acc)) (hk:K (b++l.flatMap g)=r):l9 (aG f (b,0)) K=r:=by
 refine kR l (λb a=>b++g a) (λb i=>(b,i)) id (λi acc=>acc=b++(l.take i).flatMap g) b hl x9 (λi a acc ha hi hI=>?_) (λacc hI=>hend acc) (λ_=>?_)
 .obtain⟨h1,h2⟩:=a5T (g:=g) ha;subst hI;refine⟨hin i a _ ha hi (by rw[D8];omega),?_⟩;rw[h1,E8]
 .have hfold:∀(l:List α) (b:List UInt8),l.foldl (λb a=>b++g a) b=b++l.flatMap g:=by
   intro l;induction l with
   |nil=>intro b;simp|cons w l ih=>intro b;rw[V7,ih];simp
  rw[hfold];exact hk
theorem FU{a x:List UInt8}(h:a.length+x.length<=1000000000):eQ a x=some (o8 x,(),a++x):=by unfold eQ;rw[if_pos o5];rfl
end
section
def Yo:List UInt8:=[101,110,117,109]
def SC:List UInt8:=[116,97,98,108,101]
def SB:List UInt8:=[115,99,111,112,101]
def yg:List UInt8:=[109,101,109,98,101,114,115]
def yU:List UInt8:=[105,110,112,117,116]
def NE:List UInt8:=[100,101,102]
def enT(e:Z8):List UInt8:=lnS Yo (e.1::e.2)
def roT(l:aA)(t:bW)(r:uU):List UInt8:=lnS SA (Lj t r l.1)
def tbH(l:aA)(t:bW):List UInt8:=lnS SC [t.1,tyS t.2.1 l.1,tyS t.2.2.1 l.1]
def tbT(l:aA)(t:bW):List UInt8:=tbH l t++t.2.2.2.flatMap (roT l t)
def meN(l:aA)(s:L9):List UInt8:=((J8 l.2.2 s.2.1).map (·.1)).getD []
def meT(l:aA)(s:L9):List UInt8:=l7 (U1 0 s.2.1) (lnS yg [meN l s]) []
def fdT(w:List UInt8)(l:aA)(f:eG):List UInt8:=lnS w [f.1,tyS f.2 l.1]
def ruT(l:aA)(s:L9)(r:aY):List UInt8:=lnS Hr (ruW s r (nmS l s))
def scH(s:L9):List UInt8:=lnS SB [s.1]
def scT(l:aA)(s:L9):List UInt8:=scH s++meT l s++s.2.2.1.flatMap (fdT yU l)++s.2.2.2.1.flatMap (fdT NE l)++s.2.2.2.2.flatMap (ruT l s)
def txL(l:aA):List UInt8:=l.1.flatMap enT++l.2.1.flatMap (tbT l)++l.2.2.flatMap (scT l)
structure FmL (l:aA):Prop where
 v:(oD l).1=0
 n:NmL l
 w:WfL l
theorem qJ{α:Type}{g:α->List UInt8}{B:Nat} :∀{l:List α},(∀a∈l,(g a).length<=B)->(l.flatMap g).length<=l.length*B
 |[],_=>by simp|a::l,h=>by have h1:=qJ (g:=g) (B:=B) (l:=l) (λx hx=>h x (O9 _ hx));have h2:=h a x9;rw[List.flatMap_cons,D8,D9,I7,Y3];omega
variable {s:L9}{t:bW}
section
variable {l:aA} (h:FmL l)
include h
theorem Vh:EnL l.1:=⟨λe he=>(h.n.e e he).2.1,λe he=>⟨by have:=(h.n.e e he).1;omega,λm hm=>by have:=(h.n.e e he).2.2 m hm;omega⟩⟩
theorem a2G{t:Int×Int} :(tyS t l.1).length<=80:=b1r (Vh h).n
theorem Va{e:Z8}(he:e∈l.1):(∀w∈e.1::e.2,w.length<=80)/\(e.1::e.2).length<=21/\(enT e).length<=1800:=by
 have h1:=h.n.e e he;have hw:∀w∈e.1::e.2,w.length<=80:=λw hw=>by
  rcases A8.1 hw with rfl|hw
  .exact h1.2.1
  .exact h1.2.2 w hw
 have hc:(e.1::e.2).length<=21:=by simp only[D9];omega
 have:=EI (f:=Yo) hw;have h3:(e.1::e.2).length*(80+1)<=21*81:=D7 _ hc;exact⟨hw,hc,by unfold enT;simp only[Yo,D9,L6]at this ⊢;simp only[D9]at h3;omega⟩
theorem VM(ht:t∈l.2.1){r:uU}(hr:r∈t.2.2.2):a2i r:=h.w.ri t ht r hr
theorem a6H(ht:t∈l.2.1){r:uU}(hr:r∈t.2.2.2):(roT l t r).length<=600:=by obtain⟨h1,h2,h3⟩:=VM h ht hr;have:=EI (f:=SA) (Rx (t:=t) (Vh h) h1 h2 h3);unfold roT;simp only[SA,Lj,D9,L6]at this ⊢;omega
theorem tb3(ht:t∈l.2.1):∀w∈[t.1,tyS t.2.1 l.1,tyS t.2.2.1 l.1],w.length<=80:=by
 intro w hw;simp only[A8,aQ,or_false]at hw;rcases hw with rfl|rfl|rfl
 .exact h.n.t t ht
 .exact a2G h
 .exact a2G h
theorem a7g(ht:t∈l.2.1):(tbH l t).length<=300:=by have:=EI (f:=SC) (tb3 h ht);unfold tbH;simp only[SC,D9,L6]at this ⊢;omega
theorem a7i(ht:t∈l.2.1):t.2.2.2.length<=64:=by obtain⟨i,hi,e⟩:=af ht;exact((ND h.v).2 i t (by rw[lw hi,e])).le
theorem a7h(ht:t∈l.2.1):(tbT l t).length<=40000:=by have h1:=a7g h ht;have h2:=qJ (g:=roT l t) (B:=600) (l:=t.2.2.2) (λr hr=>a6H h ht hr);have h3:=D7 600 (a7i h ht);unfold tbT;rw[D8];omega
theorem a7M(hs:s∈l.2.2):∃i,l.2.2[i]? =some s/\ScV l i s:=by
 obtain⟨i,hi,e⟩:=af hs;have he:l.2.2[i]? =some s:=by rw[lw hi,e]
 exact⟨i,he,(AA h.v).2 i s he⟩
theorem a0C(hs:s∈l.2.2):s.1.length<=80:=by
 obtain⟨i,-,hv⟩:=a7M h hs;have:=hv.id;unfold uX at this;cases hc:s.1 with
 |nil=>simp|cons c r=>rw[hc]at this;simp only[A7,decide_eq_true_eq]at this;omega
theorem Ii{w:List UInt8}(hw:w.length<=10){f:eG}(hf:f.1.length<=80):(∀v∈[f.1,tyS f.2 l.1],v.length<=80)/\(fdT w l f).length<=200:=by
 have h2:∀v∈[f.1,tyS f.2 l.1],v.length<=80:=by
  intro v hv;simp only[A8,aQ,or_false]at hv;rcases hv with rfl|rfl
  .exact hf
  .exact a2G h
 have:=EI (f:=w) h2;refine⟨h2,?_⟩;unfold fdT;simp only[D9,L6]at this ⊢;omega
theorem ZF(hs:s∈l.2.2){r:aY}(hr:r∈s.2.2.2.2):RuL s r/\NmOk (nmS l s)/\(∃k,RuV s (Lr l s) k r)/\(ruT l s r).length<=3000100:=by
 obtain⟨i,hi,hv⟩:=a7M h hs;obtain⟨k,hk,e⟩:=af hr;have hru:=hv.rules k r (by rw[lw hk,e]);obtain⟨-,-,-,n4,n5,n6⟩:=h.n.s s hs;have hI:=h.w.si s hs r hr;have hsrc:r.2.2.2.2.2.2.2.length<=64:=by have:=hru.src;unfold TF at this;simp only[A7,decide_eq_true_eq]at this;exact this.1
 have hL:RuL s r:=⟨n6 r hr,n5,n6,hI.1,hI.2,hsrc⟩;have hN:=b8v h.n hs;have h1:=EI (f:=Hr) (VP hL hN (Zb hru.p0 hru.p9));have h2:=D7 150001 (VO s r (nmS l s));refine⟨hL,hN,⟨k,hru⟩,?_⟩;unfold ruT;simp only[Hr,D9,L6]at h1 ⊢;omega
theorem Zh(hs:s∈l.2.2):(meN l s).length<=80/\(meT l s).length<=100:=by
 have h1:(meN l s).length<=80:=by
  unfold meN;cases hl:J8 l.2.2 s.2.1 with
  |none=>simp|some q=>exact a0C h (qj hl).2.2.1
 refine⟨h1,?_⟩;unfold meT;cases U1 0 s.2.1
 .simp
 .have:=EI (f:=yg) (ws:=[meN l s]) (B:=80) (λw hw=>by rw[gJ.1 hw];exact h1);simp only[o7,yg,D9,L6]at this ⊢;omega
theorem VR(hs:s∈l.2.2):(∀w∈[s.1],w.length<=80)/\(scH s).length<=100:=by
 have h1:∀w∈[s.1],w.length<=80:=λw hw=>by rw[gJ.1 hw];exact a0C h hs
 have:=EI (f:=SB) h1;refine⟨h1,?_⟩;unfold scH;simp only[SB,D9,L6]at this ⊢;omega
theorem Vf(hs:s∈l.2.2):(s.2.2.1.flatMap (fdT yU l)).length<=2800/\(s.2.2.2.1.flatMap (fdT NE l)).length<=2800:=by obtain⟨n1,n2,n3,n4,n5,n6⟩:=h.n.s s hs;have h1:=qJ (g:=fdT yU l) (B:=200) (l:=s.2.2.1) (λf hf=>(Ii h J3 (n4 f hf)).2);have h2:=qJ (g:=fdT NE l) (B:=200) (l:=s.2.2.2.1) (λf hf=>(Ii h J3 (n5 f hf)).2);have h3:=D7 200 n1;have h4:=D7 200 n2;omega
theorem VQ(hs:s∈l.2.2):(s.2.2.2.2.flatMap (ruT l s)).length<=180006000:=by obtain⟨n1,n2,n3,n4,n5,n6⟩:=h.n.s s hs;have h1:=qJ (g:=ruT l s) (B:=3000100) (l:=s.2.2.2.2) (λr hr=>(ZF h hs hr).2.2.2);have h3:=D7 3000100 n3;omega
theorem a6X(hs:s∈l.2.2):(scT l s).length<=181000000:=by have h1:=(VR h hs).2;have h2:=(Zh h hs).2;have h3:=Vf h hs;have h4:=VQ h hs;unfold scT;simp only[D8];omega
end
end
section
theorem l1k{w:List (List UInt8)}{B:Nat}(hB:B<=1000000)(h:∀v∈w,v.length<=B):∀v∈w,v.length<=1000000:=λv hv=>aU (h v hv) hB
variable {l:aA}
theorem TS(h:FmL l):(l.1.flatMap enT).length<=20000:=by have h1:=qJ (g:=enT) (B:=1800) (l:=l.1) (λe he=>(Va h he).2.2);have h2:=D7 1800 h.n.ne;omega
theorem RZ(h:FmL l):(l.2.1.flatMap (tbT l)).length<=400000:=by have h1:=qJ (g:=tbT l) (B:=40000) (l:=l.2.1) (λt ht=>a7h h ht);have h2:=D7 40000 h.n.nt;omega
theorem RN(h:FmL l):(l.2.2.flatMap (scT l)).length<=724000000:=by have h1:=qJ (g:=scT l) (B:=181000000) (l:=l.2.2) (λs hs=>a6X h hs);have h2:=D7 181000000 (AA h.v).1;omega
def foS(l:aA):List UInt8×V5:=l7 (C9 (oD l).1 0) (l7 (H9 65536 (o8 (txL l))) ([],4,0,0,0) (txL l,0,0,0,0)) ([],oD l)
section
variable {l:aA} (h:FmL l)
include h
theorem b1H{i:Nat}{s:L9}(hs:l.2.2[i]? =some s)(acc:List UInt8)(ha:acc.length+(scT l s).length<=1000000000)(hi:i<=1000000):
  (l9 (Y9 [115,99,111,112,101] [s.1]) λ(x_2:List UInt8)=>
          l9 (eQ acc x_2) λ(x_3:Int×PUnit×List UInt8)=>
           l9
            (l7 (U1 0 s.2.1)
             (l9 (J8 l.2.2 s.2.1) λ(x:L9)=>
              l9 (Y9 [109,101,109,98,101,114,115] [x.1]) λ(x:List UInt8)=>
               l9 (eQ x_3.2.2 x) λ(x:Int×PUnit×List UInt8)=>some x.2.2)
             (some x_3.2.2))
            λ(x_4:List UInt8)=>
            l9
             (aG
              (λ(x:List UInt8×Int)=>
               l7 (H9 x.2 (o8 s.2.2.1))
                (l9 (J8 s.2.2.1 x.2) λ(x_5:eG)=>
                 l9 (iH x_5.2 l.1) λ(x_6:List UInt8)=>
                  l9 (Y9 [105,110,112,117,116] [x_5.1,x_6])
                   λ(x_7:List UInt8)=>
                   l9 (eQ x.1 x_7) λ(x_8:Int×PUnit×List UInt8)=>
                    some (Sum.inl (x_8.2.2,G5 IntKind.i64 x.2 1)))
                (some (Sum.inr x.1)))
              (x_4,0))
             λ(y:List UInt8)=>
             l9
              (aG
               (λ(x:List UInt8×Int)=>
                l7 (H9 x.2 (o8 s.2.2.2.1))
                 (l9 (J8 s.2.2.2.1 x.2) λ(x_5:eG)=>
                  l9 (iH x_5.2 l.1) λ(x_6:List UInt8)=>
                   l9 (Y9 [100,101,102] [x_5.1,x_6]) λ(x_7:List UInt8)=>
                    l9 (eQ x.1 x_7) λ(x_8:Int×PUnit×List UInt8)=>
                     some (Sum.inl (x_8.2.2,G5 IntKind.i64 x.2 1)))
                 (some (Sum.inr x.1)))
               (y,0))
              λ(y:List UInt8)=>
              l9 (mg l (i:Int)) λ(x_5:E9)=>
               l9
                (aG
                 (λ(x:List UInt8×Int)=>
                  l7 (H9 x.2 (o8 s.2.2.2.2))
                   (l9 (J8 s.2.2.2.2 x.2) λ(x_6:aY)=>
                    l9 (nR s x_6 x_5) λ(x_7:List UInt8)=>
                     l9 (eQ x.1 x_7) λ(x_8:Int×PUnit×List UInt8)=>
                      some (Sum.inl (x_8.2.2,G5 IntKind.i64 x.2 1)))
                   (some (Sum.inr x.1)))
                 (y,0))
                λ(y:List UInt8)=>some (Sum.inl (y,G5 IntKind.i64 (i:Int) 1)))
  =some ((Sum.inl (acc++scT l s,((i+1:Nat):Int)):(List UInt8×Int)⊕List UInt8)):=by
 have hm:=mJ hs;have hV:=(AA h.v).2 i s hs;have hH:=VR h hm;have hM:=Zh h hm;have hF:=Vf h hm;have hR:=VQ h hm;obtain⟨n1,n2,n3,n4,n5,n6⟩:=h.n.s s hm;have ha' :acc.length+((scH s).length+(meT l s).length+(s.2.2.1.flatMap (fdT yU l)).length+(s.2.2.2.1.flatMap (fdT NE l)).length+(s.2.2.2.2.flatMap (ruT l s)).length)<=1000000000:=by unfold scT at ha;simp only[D8]at ha;omega
 have e1:Y9 [115,99,111,112,101] [s.1]=some (scH s):=Cf (f:=SB) J3 x9 (l1k o5 hH.1);rw[e1,o9,FU o5,o9];have e2:(l7 (U1 0 s.2.1)
             (l9 (J8 l.2.2 s.2.1) λ(x:L9)=>
              l9 (Y9 [109,101,109,98,101,114,115] [x.1]) λ(x:List UInt8)=>
               l9 (eQ (acc++scH s) x) λ(x:Int×PUnit×List UInt8)=>some x.2.2)
             (some (acc++scH s)))=some (acc++scH s++meT l s):=by
  unfold meT;rcases hV.mb with hm1|⟨p,q,e,-,hq⟩
  .rw[hm1];simp[U1]
  .have e3:J8 l.2.2 s.2.1=some q:=by rw[e,I9];exact hq
   have e4:meN l s=q.1:=by unfold meN;rw[e3];rfl
   have e5:Y9 [109,101,109,98,101,114,115] [q.1]=some (lnS yg [q.1]):=Cf (f:=yg) J3 x9 (λw hw=>by rw[gJ.1 hw,←e4];omega);have e6:U1 0 s.2.1=true:=by rw[e];exact aZ o5
   have e7:(meT l s).length=(lnS yg [q.1]).length:=by unfold meT;rw[e6,e4];rfl
   rw[e6,o7,e3,o9,e5,o9,FU G6,o9,e4];rfl
 rw[e2,o9];refine oZ s.2.2.1 (fdT yU l) o5 _ (by simp only[D8];omega) (λj f b hf hj hb=>?_) (λb=>by simp only[N7,o6]) ?_
 .have hfm:=mJ hf;have hv:=(hV.ins j f hf).ty;have hl:=Ii h (w:=yU) J3 (n4 f hfm);have e3:Y9 [105,110,112,117,116] [f.1,tyS f.2 l.1]=some (fdT yU l f):=Cf (f:=yU) J3 x9 (l1k o5 hl.1);simp only[N8 hf,o7,I9,hf,o9,a0K hv,e3,FU hb,bD (show j<=9000000000000000000 by omega)]
 refine oZ s.2.2.2.1 (fdT NE l) o5 _ (by simp only[D8];omega) (λj f b hf hj hb=>?_) (λb=>by simp only[N7,o6]) ?_
 .have hfm:=mJ hf;have hv:=(hV.defs j f hf).ty;have hl:=Ii h (w:=NE) J3 (n5 f hfm);have e3:Y9 [100,101,102] [f.1,tyS f.2 l.1]=some (fdT NE l f):=Cf (f:=NE) J3 x9 (l1k o5 hl.1);simp only[N8 hf,o7,I9,hf,o9,a0K hv,e3,FU hb,bD (show j<=9000000000000000000 by omega)]
 rw[a2X h.n (k:=(i:Int)) (by rw[I9];exact hs),o9];refine oZ s.2.2.2.2 (ruT l s) o5 _ (by simp only[D8];omega) (λj r b hr hj hb=>?_) (λb=>by simp only[N7,o6]) ?_
 .obtain⟨a1,a2,⟨k,a3⟩,a4⟩:=ZF h hm (mJ hr);have e3:nR s r (nmS l s)=some (ruT l s r):=a6J a3 a1 a2;simp only[N8 hr,o7,I9,hr,o9,e3,FU hb,bD (show j<=9000000000000000000 by omega)]
 rw[bD o5];unfold scT;simp only[E8]
end
end
section
theorem a8j{a:List UInt8}(h:a.length<=1000000000):sO a=some (a,a):=by unfold sO;rw[if_pos o5]
variable {l:aA}
theorem a1g(hS:SmL l)(h:(oD l).1=0->FmL l):lG l=some (foS l):=by
 unfold lG foS;rw[Yn hS,o9];cases g:C9 (oD l).1 0
 .simp only[Y7,o7,o6]
 simp only[J5,o7,o6];have h:=h (iF.1 g);have hE:=TS h;have hT:=RZ h;have hC:=RN h;refine oZ l.1 enT (by have:=h.n.ne;omega) _ (by simp only[L6];omega) (λj e b he hj hb=>?_) (λb=>by simp only[N7,o6]) ?_
 .obtain⟨a1,a2,a3⟩:=Va h (mJ he);have hle:aX [e.1] e.2=some (e.1::e.2):=by rw[vK (by simp only[D9,L6]at a2 ⊢;omega)];rfl
  have e3:Y9 [101,110,117,109] (e.1::e.2)=some (enT e):=Cf (f:=Yo) J3 o5 (l1k o5 a1);simp only[N8 he,o7,I9,he,o9,hle,e3,FU hb,bD (show j<=9000000000000000000 by omega)]
 refine oZ l.2.1 (tbT l) (by have:=h.n.nt;omega) _ (by simp only[F7];omega) (λj t b ht hj hb=>?_) (λb=>by simp only[N7,o6]) ?_
 .have hm:=mJ ht;have hV:=(ND h.v).2 j t ht;have h3:=tb3 h hm;have hl:(tbH l t).length+(t.2.2.2.flatMap (roT l t)).length=(tbT l t).length:=by unfold tbT;rw[D8]
  have e3:Y9 [116,97,98,108,101] [t.1,tyS t.2.1 l.1,tyS t.2.2.1 l.1]=some (tbH l t):=Cf (f:=SC) J3 x9 (l1k o5 h3);simp only[N8 ht,o7,I9,ht,o9,a0K hV.vk,a0K hV.vv,e3];rw[FU o5,o9];refine oZ t.2.2.2 (roT l t) (by have:=hV.le;omega) _ (by simp only[D8];omega) (λi r c hr hi hc=>?_) (λb=>by simp only[N7,o6]) ?_
  .obtain⟨i1,i2,i3⟩:=VM h hm (mJ hr);have e4:rH t r l.1=some (roT l t r):=a8B (Vh h) i1 i2 i3;simp only[N8 hr,o7,I9,hr,o9,e4,FU hc,bD (show i<=9000000000000000000 by omega)]
  .rw[bD o5];unfold tbT;simp only[E8]
 refine oZ l.2.2 (scT l) (by have:=(AA h.v).1;omega) _ (by simp only[D8,F7];omega) (λj s b hs hj hb=>?_) (λb=>by simp only[N7,o6]) ?_
 .simp only[N8 hs,o7,I9,hs,o9];exact b1H h hs b hb hj
 .have e5:[]++l.1.flatMap enT++l.2.1.flatMap (tbT l)++l.2.2.flatMap (scT l)=txL l:=rfl;rw[e5];have e6:(txL l).length<=1000000000:=by unfold txL;simp only[D8];omega
  unfold JO;rw[o9,a8j e6];simp only[o9];show l7 (H9 65536 (o8 (txL l))) _ _=_;cases H9 65536 (o8 (txL l))<;>rfl
theorem GZ{a x:List UInt8}(h:a.length+x.length<=1000000000):O7 a x=some (a++x):=I8 o5
section
variable {l:aA} (h:FmL l)
include h
theorem a8A{i:Nat}{s:L9}(hs:l.2.2[i]? =some s)(acc:List UInt8)(ha:acc.length+(scT l s).length<=1000000000)(hi:i<=1000000):
  (l9 (bC [[115,99,111,112,101],s.1]) λ(x_2:List UInt8)=>
          l9 (O7 acc x_2) λ(x_3:List UInt8)=>
           l9
            (l7 (U1 0 s.2.1)
             (l9 (J8 l.2.2 s.2.1) λ(x:L9)=>
              l9 (bC [[109,101,109,98,101,114,115],x.1]) λ(x:List UInt8)=>
               l9 (O7 x_3 x) λ(x:List UInt8)=>some x)
             (some x_3))
            λ(x_4:List UInt8)=>
            l9
             (aG
              (λ(x:List UInt8×Int)=>
               l7 (H9 x.2 (o8 s.2.2.1))
                (l9 (J8 s.2.2.1 x.2) λ(x_5:eG)=>
                 l9 (J8 s.2.2.1 x.2) λ(x_6:eG)=>
                  l9 (jU x_6.2 l) λ(x_7:List UInt8)=>
                   l9 (bC [[105,110,112,117,116],x_5.1,x_7])
                    λ(x_8:List UInt8)=>
                    l9 (O7 x.1 x_8) λ(x_9:List UInt8)=>
                     some (Sum.inl (x_9,G5 IntKind.i64 x.2 1)))
                (some (Sum.inr x.1)))
              (x_4,0))
             λ(y:List UInt8)=>
             l9
              (aG
               (λ(x:List UInt8×Int)=>
                l7 (H9 x.2 (o8 s.2.2.2.1))
                 (l9 (J8 s.2.2.2.1 x.2) λ(x_5:eG)=>
                  l9 (J8 s.2.2.2.1 x.2) λ(x_6:eG)=>
                   l9 (jU x_6.2 l) λ(x_7:List UInt8)=>
                    l9 (bC [[100,101,102],x_5.1,x_7]) λ(x_8:List UInt8)=>
                     l9 (O7 x.1 x_8) λ(x_9:List UInt8)=>
                      some (Sum.inl (x_9,G5 IntKind.i64 x.2 1)))
                 (some (Sum.inr x.1)))
               (y,0))
              λ(y:List UInt8)=>
              l9
               (aG
                (λ(x_5:List UInt8×Int)=>
                 l7 (H9 x_5.2 (o8 s.2.2.2.2))
                  (l9 (J8 s.2.2.2.2 x_5.2) λ(x_6:aY)=>
                   l9 (yR l (i:Int) x_6) λ(x:List UInt8)=>
                    l9 (O7 x_5.1 x) λ(x:List UInt8)=>
                     some (Sum.inl (x,G5 IntKind.i64 x_5.2 1)))
                  (some (Sum.inr x_5.1)))
                (y,0))
               λ(y:List UInt8)=>some (Sum.inl (y,G5 IntKind.i64 (i:Int) 1)))
  =some ((Sum.inl (acc++scT l s,((i+1:Nat):Int)):(List UInt8×Int)⊕List UInt8)):=by
 have hm:=mJ hs;have hV:=(AA h.v).2 i s hs;have hH:=VR h hm;have hM:=Zh h hm;have hF:=Vf h hm;have hR:=VQ h hm;obtain⟨n1,n2,n3,n4,n5,n6⟩:=h.n.s s hm;have hsl:J8 l.2.2 (i:Int)=some s:=by rw[I9];exact hs
 have ha' :acc.length+((scH s).length+(meT l s).length+(s.2.2.1.flatMap (fdT yU l)).length+(s.2.2.2.1.flatMap (fdT NE l)).length+(s.2.2.2.2.flatMap (ruT l s)).length)<=1000000000:=by unfold scT at ha;simp only[D8]at ha;omega
 have e1:bC [[115,99,111,112,101],s.1]=some (scH s):=zx (f:=SB) J3 x9 (l1k o5 hH.1);rw[e1,o9,GZ o5,o9];have e2:(l7 (U1 0 s.2.1)
             (l9 (J8 l.2.2 s.2.1) λ(x:L9)=>
              l9 (bC [[109,101,109,98,101,114,115],x.1]) λ(x:List UInt8)=>
               l9 (O7 (acc++scH s) x) λ(x:List UInt8)=>some x)
             (some (acc++scH s)))=some (acc++scH s++meT l s):=by
  unfold meT;rcases hV.mb with hm1|⟨p,q,e,-,hq⟩
  .rw[hm1];simp[U1]
  .have e3:J8 l.2.2 s.2.1=some q:=by rw[e,I9];exact hq
   have e4:meN l s=q.1:=by unfold meN;rw[e3];rfl
   have e5:bC [[109,101,109,98,101,114,115],q.1]=some (lnS yg [q.1]):=zx (f:=yg) J3 x9 (λw hw=>by rw[gJ.1 hw,←e4];omega);have e6:U1 0 s.2.1=true:=by rw[e];exact aZ o5
   have e7:(meT l s).length=(lnS yg [q.1]).length:=by unfold meT;rw[e6,e4];rfl
   rw[e6,o7,e3,o9,e5,o9,GZ G6,o9,e4];rfl
 rw[e2,o9];refine oZ s.2.2.1 (fdT yU l) o5 _ (by simp only[D8];omega) (λj f b hf hj hb=>?_) (λb=>by simp only[N7,o6]) ?_
 .have hfm:=mJ hf;have hv:=(hV.ins j f hf).ty;have hl:=Ii h (w:=yU) J3 (n4 f hfm);have e3:bC [[105,110,112,117,116],f.1,tyS f.2 l.1]=some (fdT yU l f):=zx (f:=yU) J3 x9 (l1k o5 hl.1);simp only[N8 hf,o7,I9,hf,o9,VN hv,e3,GZ hb,bD (show j<=9000000000000000000 by omega)]
 refine oZ s.2.2.2.1 (fdT NE l) o5 _ (by simp only[D8];omega) (λj f b hf hj hb=>?_) (λb=>by simp only[N7,o6]) ?_
 .have hfm:=mJ hf;have hv:=(hV.defs j f hf).ty;have hl:=Ii h (w:=NE) J3 (n5 f hfm);have e3:bC [[100,101,102],f.1,tyS f.2 l.1]=some (fdT NE l f):=zx (f:=NE) J3 x9 (l1k o5 hl.1);simp only[N8 hf,o7,I9,hf,o9,VN hv,e3,GZ hb,bD (show j<=9000000000000000000 by omega)]
 refine oZ s.2.2.2.2 (ruT l s) o5 _ (by simp only[D8];omega) (λj r b hr hj hb=>?_) (λb=>by simp only[N7,o6]) ?_
 .obtain⟨a1,a2,-,a4⟩:=ZF h hm (mJ hr);have e3:yR l (i:Int) r=some (ruT l s r):=a4f h.n hsl (hV.rules j r hr) a1 a2;simp only[N8 hr,o7,I9,hr,o9,e3,GZ hb,bD (show j<=9000000000000000000 by omega)]
 rw[bD o5];unfold scT;simp only[E8]
end
theorem ZE(hS:SmL l)(h:(oD l).1=0->FmL l):Ac l=some (foS l):=by
 unfold Ac foS;rw[VA hS,o9];cases g:C9 (oD l).1 0
 .simp only[Y7,o7,o6]
 simp only[J5,o7,o6];have h:=h (iF.1 g);have hE:=TS h;have hT:=RZ h;have hC:=RN h;refine oZ l.1 enT (by have:=h.n.ne;omega) _ (by simp only[L6];omega) (λj e b he hj hb=>?_) (λb=>by simp only[N7,o6]) ?_
 .obtain⟨a1,a2,a3⟩:=Va h (mJ he);have hle:aX [[101,110,117,109],e.1] e.2=some ([101,110,117,109]::e.1::e.2):=by rw[vK (by simp only[D9,L6]at a2 ⊢;omega)];rfl
  have e3:bC ([101,110,117,109]::e.1::e.2)=some (enT e):=zx (f:=Yo) J3 o5 (l1k o5 a1);simp only[N8 he,o7,I9,he,o9,hle,e3,GZ hb,bD (show j<=9000000000000000000 by omega)]
 refine oZ l.2.1 (tbT l) (by have:=h.n.nt;omega) _ (by simp only[F7];omega) (λj t b ht hj hb=>?_) (λb=>by simp only[N7,o6]) ?_
 .have hm:=mJ ht;have hV:=(ND h.v).2 j t ht;have h3:=tb3 h hm;have hl:(tbH l t).length+(t.2.2.2.flatMap (roT l t)).length=(tbT l t).length:=by unfold tbT;rw[D8]
  have e3:bC [[116,97,98,108,101],t.1,tyS t.2.1 l.1,tyS t.2.2.1 l.1]=some (tbH l t):=zx (f:=SC) J3 x9 (l1k o5 h3);simp only[N8 ht,o7,I9,ht,o9,VN hV.vk,VN hV.vv,e3];rw[GZ o5,o9];refine oZ t.2.2.2 (roT l t) (by have:=hV.le;omega) _ (by simp only[D8];omega) (λi r c hr hi hc=>?_) (λb=>by simp only[N7,o6]) ?_
  .obtain⟨i1,i2,i3⟩:=VM h hm (mJ hr);have e4:Ec t r l=some (roT l t r):=a6I (Vh h) i1 i2 i3;simp only[N8 hr,o7,I9,hr,o9,e4,GZ hc,bD (show i<=9000000000000000000 by omega)]
  .rw[bD o5];unfold tbT;simp only[E8]
 refine oZ l.2.2 (scT l) (by have:=(AA h.v).1;omega) _ (by simp only[D8,F7];omega) (λj s b hs hj hb=>?_) (λb=>by simp only[N7,o6]) ?_
 .simp only[N8 hs,o7,I9,hs,o9];exact a8A h hs b hb hj
 .have e5:[]++l.1.flatMap enT++l.2.1.flatMap (tbT l)++l.2.2.flatMap (scT l)=txL l:=rfl;rw[e5];show l7 (H9 65536 (o8 (txL l))) _ _=_;cases H9 65536 (o8 (txL l))<;>rfl
theorem Yx:fJ=some true:=by decide+kernel
theorem a7w(h1:smL l=true)(hw:WfL l)(hv:(oD l).1=0):FmL l:=⟨hv,a8r h1 hw,hw⟩
theorem Ky(hw:WfL l):uS l=some true:=by
 unfold uS
 rw[XN,o9];simp only[Yx,o9];cases h1:smL l
 case false=>rfl
 obtain⟨hS,-⟩:=a9i h1 hw;simp only[J5,o6];rw[a1g hS (a7w h1 hw),o9,ZE hS (a7w h1 hw),o9];rw[VS.2 rfl,aB rfl,aB rfl,aB rfl,aB rfl];rfl
end
end Go.GP
namespace Go.GP
open Gt
theorem JE:∀x,Yp Gt.ps3 x->(Gt.s3.fn x:Option Bool)=some true:=λx h=>Ky (l:=x) (b8i h)
end Go.GP
