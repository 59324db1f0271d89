import Derived.Test.YtnpgekhfiogoeaaGreatDoorT5
import Derived.Test.YtnpgekhfiogoeaaGreatDoorT6
set_option linter.all false
namespace Go.GP
open Gt
set_option maxRecDepth 100000
section
theorem a1J{a:List Z5}(h:a.length<=1000000)(h2:∀e∈a,e.2.length<=1000000):sJ a=some a:=by
 unfold sJ;refine X8 (Yp a (λe=>e) h (F:=λx=>x) (λi e acc he hi=>?_) (λacc=>?_)) ?_
 rotate_left 2
 .rw[o9,List.map_id']
 .have hlt:=(aC.1 he).1;simp only[O0 he,o7,J3,he,o9,XW (h2 e (oC he))];rw[pU _ o5];rfl
 .simp only[N9 a,o6]
theorem Yo{l:List dW}(h:l.length<=1000000):jm l=some (l.map (·.1)):=by
 unfold jm;refine X8 (Yp l (λ(f:dW)=>f.1) h (F:=λx=>x) (λi e acc he hi=>?_) (λacc=>?_)) ?_
 rotate_left 2
 .rfl
 .have hlt:=(aC.1 he).1;simp only[O0 he,o7,J3,he,o9];rw[pU _ o5];rfl
 .simp only[N9 l,o6]
def nmS(l:au)(s:N8):F5:=(l.1,l.2.1.map (·.1),s.2.2.1.map (·.1),s.2.2.2.1.map (·.1),l7 (U3 0 s.2.1) (match J9 l.2.2 s.2.1 with|some q=>q.2.2.2.1.map (·.1)|none=>[]) [])
structure NmL (l:au):Prop where
 ne:l.1.length<=9
 nt:l.2.1.length<=9
 e:∀e∈l.1,e.2.length<=20/\e.1.length<=80/\∀m∈e.2,m.length<=80
 t:∀t∈l.2.1,t.1.length<=80
 s:∀s∈l.2.2,s.2.2.1.length<=14/\s.2.2.2.1.length<=14/\s.2.2.2.2.length<=60/\(∀f∈s.2.2.1,f.1.length<=80)/\(∀f∈s.2.2.2.1,f.1.length<=80)/\∀r∈s.2.2.2.2,r.1.length<=80
variable {l:au}
theorem a7v(h:smL l=true)(hW:WfL l):NmL l:=by
 unfold smL at h;obtain⟨h1,h⟩:=CV h;obtain⟨h2,h⟩:=CV h;obtain⟨h3,h⟩:=CV h;obtain⟨h4,h⟩:=CV h;cases ht:rD tG l.2.1 0 with
 |inr r=>rw[ht]at h;cases h|inl b=>
  rw[ht]at h;simp only at h;cases hs:rD sG l.2.2 0 with
  |inr r=>rw[hs]at h;cases h|inl b' =>
   have T:=ZC l.2.1 0 b o5 o5 hW.rl ht;have S:=Zh l.2.2 0 b' o5 o5 hW.sl hs;refine⟨dP (n:=9) h1,dP (n:=9) h2,λe he=>?_,λt ht=>(T t ht).1,λs hs=>?_⟩
   .have hl:=Ie h4 e he;unfold Tv at hl;cases g1:H9 80 (o8 e.1)<;>rw[g1]at hl
    case true=>cases hl
    cases g2:H9 20 (o8 e.2)<;>rw[g2]at hl
    case true=>cases hl
    refine⟨dP (n:=20) g2,dP (n:=80) g1,λm hm=>?_⟩;have:=Ie (p:=λm=>H9 80 (o8 m)) hl m hm;exact dP (n:=80) this
   .have h:=S s hs;unfold smS at h;obtain⟨a1,h⟩:=CV h;obtain⟨a2,h⟩:=CV h;obtain⟨a3,h⟩:=CV h;obtain⟨a4,h⟩:=CV h;obtain⟨a5,h⟩:=CV h;obtain⟨a6,h⟩:=CV h;have a7:s.2.2.2.2.any Iu=false:=by revert h;cases s.2.2.2.2.any Iu<;>intro h<;>first|rfl|cases h
    refine⟨dP (n:=14) a2,dP (n:=14) a3,dP (n:=60) a4,λf hf=>dP (n:=80) (Ie a5 f hf),λf hf=>dP (n:=80) (Ie a6 f hf),λr hr=>?_⟩;have hl:=Ie a7 r hr;unfold Iu at hl;cases g1:H9 80 (o8 r.1)<;>rw[g1]at hl
    case true=>cases hl
    exact dP (n:=80) g1
variable {s:N8}
theorem b7y(h:NmL l)(hs:s∈l.2.2):NmOk (nmS l s):=by
 obtain⟨s1,s2,s3,s4,s5,s6⟩:=h.s s hs;refine⟨λe he=>?_,λx hx=>?_,λx hx=>?_,λx hx=>?_,λx hx=>?_⟩
 .have:=h.e e he;exact⟨o5,λm hm=>by have:=this.2.2 m hm;omega⟩
 .obtain⟨t,ht,rfl⟩:=iK.1 hx;have:=h.t t ht;omega
 .obtain⟨f,hf,rfl⟩:=iK.1 hx;have:=s4 f hf;omega
 .obtain⟨f,hf,rfl⟩:=iK.1 hx;have:=s5 f hf;omega
 .unfold nmS at hx;simp only at hx;cases g:U3 0 s.2.1<;>rw[g]at hx
  .cases hx
  .simp only[o7]at hx;split at hx
   .rename_i q hq;obtain⟨f,hf,rfl⟩:=iK.1 hx;have:=(h.s q (pV hq).2.2.1).2.2.2.2.1 f hf;omega
   .cases hx
theorem TM(h:NmL l){k:Int}(hs:J9 l.2.2 k=some s):lu l k=some (nmS l s):=by
 obtain⟨k0,k1,hm,-⟩:=pV hs;obtain⟨s1,s2,-⟩:=h.s s hm;have nt:=h.nt;unfold lu;rw[dV k0,eQ k1,o6,o6,o9,aj,hs,o9,Yo o5,o9,Yo o5,o9];refine kH l.2.1 (λ(b:F5) (t:bP)=>((b.1,b.2.1++[t.1],b.2.2):F5)) (λb i=>(b,i)) (λb=>b) (λi b=>b.2.1.length=i) (l.1,[],s.2.2.1.map (·.1),s.2.2.2.1.map (·.1),[]) o5 rfl (λi t b hx hi hI=>?_) (λb _=>?_) (λ_=>?_)
 .have hlt:=(aC.1 hx).1;simp only[O0 hx,o7,J3,hx,o9];rw[pU _ o5,o9,bY o5];exact⟨rfl,by simp;omega⟩
 .simp only[N9 l.2.1,o6]
 .have e:∀(L:List bP) (b:F5),L.foldl (λ(b:F5) (t:bP)=>((b.1,b.2.1++[t.1],b.2.2):F5)) b=(b.1,b.2.1++L.map (·.1),b.2.2):=by
   intro L;induction L with
   |nil=>intro b;simp|cons t L ih=>intro b;rw[X3,ih];simp
  rw[e];unfold nmS;cases g:U3 0 s.2.1
  .simp[l7]
  .by_cases g2:s.2.1<o8 l.2.2
   .obtain⟨q,hq,hmq⟩:=uu (uN.1 g) g2;have:=(h.s q hmq).2.1;rw[fJ g2,hq];simp only[o7,o9];rw[Yo o5,o9];simp
   .rw[dV (qP.1 g2)];have:J9 l.2.2 s.2.1=none:=by
     cases hq:J9 l.2.2 s.2.1 with
     |none=>rfl|some q=>exact absurd (pV hq).2.1 g2
    rw[this];simp[l7]
theorem a2p(h:NmL l){k:Int}(hs:J9 l.2.2 k=some s):lQ l k=some (nmS l s):=by rw[QZ (a1J (by have:=h.ne;omega) (λe he=>by have:=(h.e e he).1;omega)) k];exact TM h hs
theorem SX{c e:Int}(h:JD c e=none):c=0:=by
 unfold JD at h;cases he:C9 c 0<;>rw[he]at h
 .cases h
 .exact jC.1 he
theorem VN{b:Bool}{x y:Int}(h:l7 b x y=0)(hx:x≠0):b=false/\y=0:=by
 cases b
 .exact⟨rfl,h⟩
 .exact absurd h hx
theorem Ym{n:Nat}{p:Nat->Option (Int×Int×Int×Int)}{z:Int×Int×Int×Int}(h:(match bg n p with|some r=>r|none=>z).1=0)(hp:∀i r,p i=some r->r.1≠0):∀i,i<n->p i=none:=
 b8m λr hf=>by rw[hf]at h;obtain⟨j,_,hj⟩:=jB hf;exact hp j r hj h
theorem a7g(h:(nP l).1=0):(DT l).1=0:=by
 unfold nP at h;cases h1:C9 (DT l).1 0<;>rw[h1]at h
 .exact h
 .exact jC.1 h1
theorem a7h(h:(nP l).1=0):(yE l).1=0:=by
 have h0:=a7g h;unfold nP at h;rw[bH h0,o7]at h;cases h1:C9 (yE l).1 0<;>rw[h1]at h
 .exact h
 .exact jC.1 h1
structure RwV (t:bP) (en:List Z5) (x:uz):Prop where
 dv:Cb x.1=true
 dn:x.1.1≠x.1.2
 lh:x.2.1<x.2.2.1
 lo:inB x.2.1 (bnd t.2.1 en)=true
 hi:inB (O5 .i64 x.2.2.1 1) (bnd t.2.1 en)=true
 n:inB x.2.2.2 (bnd t.2.2.1 en)=true
variable {en:List Z5}
theorem a4W{t:bP}{x:uz}(h:CP x (bnd t.2.1 en) (bnd t.2.2.1 en)=false):RwV t en x:=by
 unfold CP at h;cases g1:Cb x.1<;>rw[g1]at h
 .cases h
 cases g2:C9 x.1.1 x.1.2<;>rw[g2]at h
 case true=>cases h
 cases g3:U3 x.2.2.1 x.2.1<;>rw[g3]at h
 case true=>cases h
 cases g4:inB x.2.1 (bnd t.2.1 en)<;>rw[g4]at h
 .cases h
 cases g5:inB (O5 .i64 x.2.2.1 1) (bnd t.2.1 en)<;>rw[g5]at h
 .cases h
 cases g6:inB x.2.2.2 (bnd t.2.2.1 en)<;>rw[g6]at h
 .cases h
 exact⟨g1,wI.1 g2,IX.1 g3,g4,g5,g6⟩
structure TbV (l:au) (i:Nat) (t:bP):Prop where
 id:vC t.1=true
 tk:ww l 2 i t.1=false
 le:t.2.2.2.length<=64
 vk:vty t.2.1 l.1=true
 vv:vty t.2.2.1 l.1=true
 rows:∀x∈t.2.2.2,RwV t l.1 x
theorem MQ(h:(nP l).1=0):l.2.1.length<=8/\∀i t,l.2.1[i]? =some t->TbV l i t:=by
 have h1:=a7h h;unfold yE at h1;cases h2:H9 8 (o8 l.2.1)<;>rw[h2]at h1
 case true=>exact absurd (show(4:Int)=0 from h1) I5
 rw[o6]at h1;refine⟨by rw[nz]at h2;unfold o8 at h2;omega,λi t he=>?_⟩;have hn:=Ym h1 (λj r hj=>by
  unfold CO at hj;split at hj
  .exact Le hj
  .cases hj) i (aC.1 he).1
 unfold CO at hn;rw[he]at hn;have hz:=b8A hn;unfold ML at hz;cases g1:vC t.1<;>rw[g1]at hz
 .exact absurd (show(2:Int)=0 from hz) I5
 cases g2:ww l 2 i t.1<;>rw[g2]at hz
 case true=>exact absurd (show(7:Int)=0 from hz) I5
 have hc:(EG t l.1).2=0:=by
  cases g3:C9 (EG t l.1).2 0<;>rw[g3]at hz
  .exact hz
  .exact jC.1 g3
 unfold EG at hc;cases g4:H9 64 (o8 t.2.2.2)<;>rw[g4]at hc
 case true=>exact absurd (show(4:Int)=0 from hc) I5
 cases g5:vty t.2.1 l.1<;>rw[g5]at hc
 .exact absurd (show(8:Int)=0 from hc) I5
 cases g6:vty t.2.2.1 l.1<;>rw[g6]at hc
 .exact absurd (show(8:Int)=0 from hc) I5
 simp only[o7,o6]at hc;refine⟨g1,g2,by rw[nz]at g4;unfold o8 at g4;omega,g5,g6,λx hx=>?_⟩;obtain⟨j,hj,e1⟩:=Y9 hx;have hf:∀r,bg t.2.2.2.length (KF t l.1)≠some r:=λr hf=>by
  have hc' :(match bg t.2.2.2.length (KF t l.1)with|some r=>r|none=>(0,0)).2=0:=hc;rw[hf]at hc';obtain⟨q,_,hq⟩:=jB hf;unfold KF at hq;split at hq
  .rename_i x' _;cases a1:CP x' (bnd t.2.1 l.1) (bnd t.2.2.1 l.1)<;>rw[a1]at hq
   .cases a2:(t.2.2.2.take q).any λy=>ul y x'<;>rw[a2]at hq
    .cases hq
    .cases hq;exact absurd (show(11:Int)=0 from hc') I5
   .cases hq;exact absurd (show(3:Int)=0 from hc') I5
  .cases hq
 have hj' :=b8m hf j hj;unfold KF at hj';rw[lM hj,e1]at hj';simp only at hj';cases a1:CP x (bnd t.2.1 l.1) (bnd t.2.2.1 l.1)<;>rw[a1]at hj'
 .exact a4W a1
 .cases hj'
structure RuV (s:N8) (sg:P8) (k:Nat) (r:bM):Prop where
 id:vC r.1=true
 nm:((s.2.2.2.2.take k).any λx=>seq x.1 r.1)=false
 df:∃d,J9 s.2.2.2.1 r.2.1=some d/\Yl r sg d.2=0
 pa:r.2.2.1=-1\/∃(p:Nat) (q:bM),r.2.2.1=(p:Int)/\p<k/\s.2.2.2.2[p]? =some q
 p0:0<=r.2.2.2.1
 p9:r.2.2.2.1<=9
 dv:Cb r.2.2.2.2.1=true
 dn:r.2.2.2.2.1.1≠r.2.2.2.2.1.2
 src:ZB r.2.2.2.2.2.2.2=true
variable {r:bM}{sg:P8}{k:Nat}
theorem YW(h:KH s sg k r=0):RuV s sg k r:=by
 unfold KH at h;cases g1:vC r.1<;>rw[g1]at h
 .exact absurd (show(2:Int)=0 from h) I5
 cases g2:(s.2.2.2.2.take k).any λx=>seq x.1 r.1<;>rw[g2]at h
 case true=>exact absurd (show(7:Int)=0 from h) I5
 simp only[o7,o6]at h;cases g3:J9 s.2.2.2.1 r.2.1 with
 |none=>rw[g3]at h;exact absurd (show(6:Int)=0 from h) I5|some d=>
  rw[g3]at h;simp only at h;obtain⟨g4,h⟩:=VN h I5;cases g5:H9 r.2.2.2.1 0<;>rw[g5]at h
  case true=>exact absurd (show(3:Int)=0 from h) I5
  cases g6:H9 9 r.2.2.2.1<;>rw[g6]at h
  case true=>exact absurd (show(3:Int)=0 from h) I5
  cases g7:Cb r.2.2.2.2.1<;>rw[g7]at h
  .exact absurd (show(3:Int)=0 from h) I5
  cases g8:C9 r.2.2.2.2.1.1 r.2.2.2.2.1.2<;>rw[g8]at h
  case true=>exact absurd (show(3:Int)=0 from h) I5
  cases g9:U3 8 (XX (s.2.2.2.2.take k) r.2.1:Int)<;>rw[g9]at h
  case true=>exact absurd (show(4:Int)=0 from h) I5
  cases g10:ZB r.2.2.2.2.2.2.2<;>rw[g10]at h
  .exact absurd (show(2:Int)=0 from h) I5
  simp only[o7,o6]at h;refine⟨g1,g2,⟨d,g3,h⟩,?_,nz.1 g5,nz.1 g6,g7,wI.1 g8,g10⟩;cases a1:C9 r.2.2.1 (-1)<;>rw[a1]at g4
  .rw[o6]at g4;cases a2:H9 r.2.2.1 0<;>rw[a2]at g4
   case true=>cases g4
   rw[o6]at g4;cases a3:U3 (k:Int) r.2.2.1<;>rw[a3]at g4
   case true=>cases g4
   rw[o6]at g4;have b2:=nz.1 a2;have b3:=IX.1 a3;right;obtain⟨p,hp⟩:∃p:Nat,r.2.2.1=(p:Int):=⟨r.2.2.1.toNat,(fM b2).symm⟩;rw[hp,J3]at g4;cases hq:s.2.2.2.2[p]? with
   |none=>rw[hq]at g4;cases g4|some q=>exact⟨p,q,hp,Int.ofNat_lt.1 (by rw[hp]at b3;exact b3),hq⟩
  .exact .inl (jC.1 a1)
structure FdV (en:List Z5) (f:dW) (a b:List dW):Prop where
 id:vC f.1=true
 a:(a.any λx=>seq x.1 f.1)=false
 b:(b.any λx=>seq x.1 f.1)=false
 ty:vty f.2 en=true
theorem Nb{f:dW}{a b:List dW}(h:Ce en f a b=0):FdV en f a b:=by
 unfold Ce at h;cases g1:vC f.1<;>rw[g1]at h
 .exact absurd (show(2:Int)=0 from h) I5
 cases g2:a.any λx=>seq x.1 f.1<;>rw[g2]at h
 case true=>exact absurd (show(7:Int)=0 from h) I5
 cases g3:b.any λx=>seq x.1 f.1<;>rw[g3]at h
 case true=>exact absurd (show(7:Int)=0 from h) I5
 cases g4:vty f.2 en<;>rw[g4]at h
 .exact absurd (show(8:Int)=0 from h) I5
 exact⟨g1,g2,g3,g4⟩
structure ScV (l:au) (i:Nat) (s:N8):Prop where
 id:vC s.1=true
 tk:ww l 3 i s.1=false
 mb:s.2.1=-1\/∃(p:Nat) (q:N8),s.2.1=(p:Int)/\p<i/\l.2.2[p]? =some q
 li:s.2.2.1.length<=12
 ld:s.2.2.2.1.length<=12
 ins:∀j f,s.2.2.1[j]? =some f->FdV l.1 f (s.2.2.1.take j) []
 defs:∀j f,s.2.2.2.1[j]? =some f->FdV l.1 f s.2.2.1 (s.2.2.2.1.take j)
 rules:∀k r,s.2.2.2.2[k]? =some r->RuV s (Vl l s) k r
theorem zY(h:(nP l).1=0):l.2.2.length<=4/\∀i s,l.2.2[i]? =some s->ScV l i s:=by
 have h0:=h;refine⟨?_,λi s hs=>?_⟩
 .unfold nP at h;rw[bH (a7g h0),o7,bH (a7h h0),o7]at h;unfold Hu at h;cases h3:H9 4 (o8 l.2.2)<;>rw[h3]at h
  case true=>exact absurd (show(4:Int)=0 from h) I5
  rw[nz]at h3;unfold o8 at h3;omega
 have he:=XD h hs;unfold yu at he;cases g1:vC s.1<;>rw[g1]at he
 .exact absurd (show(2:Int)=0 from he) I5
 cases g2:ww l 3 i s.1<;>rw[g2]at he
 case true=>exact absurd (show(7:Int)=0 from he) I5
 cases g3:Aq l i s.2.1<;>rw[g3]at he
 case true=>exact absurd (show(6:Int)=0 from he) I5
 cases g4:H9 12 (o8 s.2.2.1)<;>rw[g4]at he
 case true=>exact absurd (show(4:Int)=0 from he) I5
 cases g5:H9 12 (o8 s.2.2.2.1)<;>rw[g5]at he
 case true=>exact absurd (show(4:Int)=0 from he) I5
 simp only[o7,o6]at he;have hfs:uM l s=none:=by
  unfold LM at he;cases hf:uM l s with
  |none=>rfl|some q=>rw[hf]at he;exact absurd he (FC hf)
 refine⟨g1,g2,?_,by rw[nz]at g4;unfold o8 at g4;omega,by rw[nz]at g5;unfold o8 at g5;omega,λj f hf=>?_,λj f hf=>?_,λk r hr=>YW (ZK h hs hr)⟩
 .unfold Aq at g3;cases a1:C9 s.2.1 (-1)<;>rw[a1]at g3
  .rw[o6]at g3;cases a2:H9 s.2.1 0<;>rw[a2]at g3
   case true=>cases g3
   rw[o6]at g3;cases a3:U3 (i:Int) s.2.1<;>rw[a3]at g3
   case true=>cases g3
   rw[o6]at g3;have b2:=nz.1 a2;have b3:=IX.1 a3;right;obtain⟨p,hp⟩:∃p:Nat,s.2.1=(p:Int):=⟨s.2.1.toNat,(fM b2).symm⟩;rw[hp,J3]at g3;cases hq:l.2.2[p]? with
   |none=>rw[hq]at g3;cases g3|some q=>exact⟨p,q,hp,Int.ofNat_lt.1 (by rw[hp]at b3;exact b3),hq⟩
  .exact .inl (jC.1 a1)
 .unfold uM at hfs;have hin:bg s.2.2.1.length (inP l s)=none:=by
   cases hq:bg s.2.2.1.length (inP l s)with
   |none=>rfl|some q=>rw[hq]at hfs;cases hfs
  have hj:=zx hin j (aC.1 hf).1;unfold inP at hj;rw[hf]at hj;exact Nb (SX hj)
 .unfold uM at hfs;have hdf:bg s.2.2.2.1.length (RS l s)=none:=by
   cases hq:bg s.2.2.1.length (inP l s)with
   |none=>rw[hq]at hfs;exact hfs|some q=>rw[hq]at hfs;cases hfs
  have hj:=zx hdf j (aC.1 hf).1;unfold RS at hj;rw[hf]at hj;exact Nb (SX hj)
def spW(ws:List (List UInt8)):List UInt8:=ws.flatMap (λw=>32::w)
def lnS(first:List UInt8)(ws:List (List UInt8)):List UInt8:=first++spW ws++[10]
theorem Xr(w:List UInt8)(ws:List (List UInt8)):spW (w::ws)=32::w++spW ws:=by simp[spW]
theorem Xt(ws:List (List UInt8))(w:List UInt8):spW (ws++[w])=spW ws++32::w:=by simp[spW]
theorem OD{B:Nat} :∀{ws:List (List UInt8)},(∀w∈ws,w.length<=B)->(spW ws).length<=ws.length*(B+1)
 |[],_=>by simp[spW]|w::ws,h=>by have h1:=OD (λv hv=>h v (O8 _ hv)) (ws:=ws);have h2:=h w A8;rw[Xr];simp only[D9,D7,H8,Y0];omega
variable {ws:List (List UInt8)}{f:List UInt8}
theorem Ef{B:Nat}(h:∀w∈ws,w.length<=B):(lnS f ws).length<=f.length+ws.length*(B+1)+1:=by have:=OD h;unfold lnS;simp;omega
theorem JP{B:Nat}(h:∀w∈ws,w.length<=B)(n:Nat):(spW (ws.take n)).length<=ws.length*(B+1):=by
 have h1:=OD (ws:=ws.take n) (λw hw=>h w (nT hw));have h2:(ws.take n).length<=ws.length:=by simp;omega
 exact aP h1 (D6 _ h2)
theorem BD(hf:f.length<=1000)(hl:ws.length<=1000)(h:∀w∈ws,w.length<=1000000):Y3 f ws=some (lnS f ws):=by
 unfold Y3;refine kH ws (λb a=>b++(32::a)) (λb i=>(b,i)) id (λi b=>b=f++spW (ws.take i)) f o5 (by simp[spW]) (λi a b ha hi hb=>?_) (λb hb=>?_) ?_
 .have hlt:=(aC.1 ha).1;have hm:=h a (oC ha);have ht:=JP h i;have h3:ws.length*(1000000+1)<=1000*1000001:=D6 _ hl;subst hb;simp only[O0 ha,o7,J3,ha,o9];rw[L6 H7,o9,L6 H7,o9,bY o5];refine⟨rfl,?_⟩;rw[U2 hlt,Xt,(aC.1 ha).2];simp
 .simp only[N9,o6,id]
 .have hfold:∀(l:List (List UInt8)) (b:List UInt8),l.foldl (λb a=>b++(32::a)) b=b++spW l:=by
   intro l;induction l with
   |nil=>intro b;simp[spW]|cons w l ih=>intro b;rw[X3,ih,Xr];simp
  have ht:=OD h;have h3:ws.length*(1000000+1)<=1000*1000001:=D6 _ hl;rw[hfold];simp only[id];rw[L6 H7,o9];simp[lnS]
def jnW(f:List UInt8)(ws:List (List UInt8))(i:Nat):List UInt8:=match i with|0=>[]|i+1=>f++spW (ws.take i)
theorem a2g{i:Nat}{a:List UInt8}(ha:ws[i]? =some a):jnW f ws (i+2)=jnW f ws (i+1)++32::a:=by unfold jnW;have hlt:=(aC.1 ha).1;simp only;rw[U2 hlt,Xt,(aC.1 ha).2];simp
theorem yO(hf:f.length<=1000)(hl:ws.length<=1000)(h:∀w∈ws,w.length<=1000000):bf (f::ws)=some (lnS f ws):=by
 unfold bf;have hb:∀i,(jnW f ws i).length<=2000000000:=λi=>by
  cases i with
  |zero=>simp[jnW]|succ i=>have ht:=JP h i;have h3:ws.length*(1000000+1)<=1000*1000001:=D6 _ hl;simp only[jnW,D9];omega
 have key:=oP (f:=λ(x:List UInt8×Int)=>
   l7 (H9 x.2 (o8 (f::ws)))
    (l7 (H9 0 x.2)
     (l9 (P5 x.1 [32]) λ(x_1:List UInt8)=>
      l9 (J9 (f::ws) x.2) λ(x_2:List UInt8)=>
       l9 (P5 x_1 x_2) λ(x_3:List UInt8)=>some (Sum.inl (x_3,F9 IntKind.i64 x.2 1)))
     (l9 (J9 (f::ws) x.2) λ(x_1:List UInt8)=>
      l9 (P5 x.1 x_1) λ(x_2:List UInt8)=>some (Sum.inl (x_2,F9 IntKind.i64 x.2 1))))
    (some (Sum.inr x.1))) (s:=(([]:List UInt8),(0:Int)))
  (λx=>∃i:Nat,x=(jnW f ws i,(i:Int))/\i<=ws.length+1) (λe=>e=jnW f ws (ws.length+1)) (λx=>ws.length+1 -x.2.toNat) ⟨0,rfl,o5⟩ H7 ?_
 .obtain⟨e,h1,h2⟩:=key;rw[h1,o9,h2];have:=hb (ws.length+1);rw[L6 H7,o9];simp[jnW,lnS]
 .rintro x ⟨i,rfl,hi⟩;by_cases hlt:i<ws.length+1
  .have e1:H9 ((i:Nat):Int) (o8 (f::ws))=true:=fJ (by simp[o8];omega);simp only[e1,o7];cases i with
   |zero=>refine .inl ⟨(jnW f ws 1,((1:Nat):Int)),?_,⟨1,rfl,o5⟩,A8⟩;rw[dV A8,o6,J3];simp only[bD,o9,jnW];rw[L6 H7,o9,bY o5];simp[spW]|succ i=>have hlt' :i<ws.length:=o5;have ha:ws[i]? =some ws[i]:=lM hlt';refine .inl ⟨(jnW f ws (i+2),((i+2:Nat):Int)),?_,⟨i+2,rfl,o5⟩,by simp;omega⟩;have h1:=hb (i+1);have h2:=h _ (N7 hlt');rw[fJ o5,o7,L6 H7,o9,J3,lN,ha,o9,L6 H7,o9,bY o5,a2g ha];simp;omega
  .have:i=ws.length+1:=o5;subst this;exact .inr ⟨_,by rw[dV (by simp[o8])];rfl,rfl⟩
def tyS(t:Int×Int)(en:List Z5):List UInt8:=
 l7 (C9 t.1 1) [98,111,111,108] (l7 (C9 t.1 2) [105,110,116] (l7 (C9 t.1 3) [109,111,110,101,121] (l7 (C9 t.1 4) [114,97,116,101] (l7 (C9 t.1 5) [100,97,116,101] (((J9 en t.2).map (·.1)).getD [])))))
variable {t:Int×Int}
theorem t_(h:vty t en=true)(h6:t.1=6):∃e,J9 en t.2=some e/\e∈en:=by
 unfold vty at h;rw[bH h6,o7]at h;cases g1:U3 0 t.2<;>rw[g1]at h
 .cases h
 rw[o7]at h;exact uu (uN.1 g1) (zA.1 h)
theorem Ub(h:vty t en=true):(t.1=1/\t.2=0)\/(t.1=2/\t.2=0)\/(t.1=3/\t.2=0)\/(t.1=4/\t.2=0)\/(t.1=5/\t.2=0)\/t.1=6:=by
 unfold vty at h;cases g0:C9 t.1 6<;>rw[g0]at h
 case true=>have:=jC.1 g0;omega
 rw[o6]at h;cases g1:U3 1 t.1<;>rw[g1]at h
 .cases h
 cases g2:U3 t.1 5<;>rw[g2]at h
 .cases h
 have h1:=uN.1 g1;have h2:=uN.1 g2;have h3:=jC.1 h;omega
theorem a0g(h:vty t en=true):iy t en=some (tyS t en):=by
 unfold iy tyS;cases g1:C9 t.1 1
 case true=>rfl
 cases g2:C9 t.1 2
 case true=>rfl
 cases g3:C9 t.1 3
 case true=>rfl
 cases g4:C9 t.1 4
 case true=>rfl
 cases g5:C9 t.1 5
 case true=>rfl
 have h6:t.1=6:=by have:=Ub h;have a1:=wI.1 g1;have a2:=wI.1 g2;have a3:=wI.1 g3;have a4:=wI.1 g4;have a5:=wI.1 g5;omega
 obtain⟨e,he,-⟩:=t_ h h6;simp only[o6];rw[he];rfl
theorem Va(h:vty t l.1=true):jM t l=some (tyS t l.1):=by
 unfold jM tyS;rcases Ub h with h1|h1|h1|h1|h1|h1
 .rw[h1.1];rfl
 .rw[h1.1];rfl
 .rw[h1.1];rfl
 .rw[h1.1];rfl
 .rw[h1.1];rfl
 .obtain⟨e,he,-⟩:=t_ h h1;rw[he,h1];rfl
theorem b0w(hn:∀e∈en,e.1.length<=80):(tyS t en).length<=80:=by
 unfold tyS;cases C9 t.1 1
 case true=>simp
 cases C9 t.1 2
 case true=>simp
 cases C9 t.1 3
 case true=>simp
 cases C9 t.1 4
 case true=>simp
 cases C9 t.1 5
 case true=>simp
 simp only[o6];cases hl:J9 en t.2 with
 |none=>simp|some e=>exact hn e (pV hl).2.2.1
def enS(d:Int):List UInt8:=l7 (C9 d 109573) [101,110,100] (wB d)
theorem a1S(d:Int):nZ d=some (enS d):=by unfold nZ enS;rw[pI,o9];cases C9 d 109573<;>rfl
theorem P_(d:Int):zT d=some (enS d):=by unfold zT enS;rw[uU,o9];cases C9 d 109573<;>rfl
theorem a1R(d:Int):(enS d).length<=100:=by
 unfold enS;cases C9 d 109573
 .exact zq d
 .simp
def vaS(n:Int)(t:Int×Int)(en:List Z5):List UInt8:=((jR (t.1,t.2,n) en).getD ([],0)).1
theorem zI{n:Int}(h:b7W n)(hm:∀e∈en,e.2.length<=100/\∀m∈e.2,m.length<=100):(vaS n t en).length<=100/\iL n t en=some (vaS n t en)/\∀l:au,l.1=en->oK n t l=some (vaS n t en):=by
 obtain⟨x,hx,hl⟩:=zh (B:=100) o5 o5 (v:=(t.1,t.2,n)) h hm;have e:vaS n t en=x.1:=by unfold vaS;rw[hx];rfl
 refine⟨by rw[e];exact hl,?_,λl hle=>?_⟩
 .unfold iL;rw[hx,o9,e]
 .unfold oK;subst hle;rw[←zg _ h,hx,o9,e]
def hiS(t:bP)(r:uz)(en:List Z5):List UInt8:=l7 (U3 r.2.2.1 (bnd t.2.1 en).2) (vaS r.2.2.1 t.2.1 en) [101,110,100]
def KG(t:bP)(r:uz)(en:List Z5):List (List UInt8):=[wB r.1.1,enS r.1.2,vaS r.2.1 t.2.1 en,hiS t r en,vaS r.2.2.2 t.2.2.1 en]
def Ru:List UInt8:=[114,111,119]
structure EnL (en:List Z5):Prop where
 n:∀e∈en,e.1.length<=80
 m:∀e∈en,e.2.length<=100/\∀m∈e.2,m.length<=100
theorem QJ{t:bP}{r:uz}(hE:EnL en)(h1:b7W r.2.1)(h2:b7W r.2.2.1)(h3:b7W r.2.2.2):∀w∈KG t r en,w.length<=100:=by
 intro w hw;simp only[KG,A7,aJ,or_false]at hw;rcases hw with rfl|rfl|rfl|rfl|rfl
 .exact zq _
 .exact a1R _
 .exact(zI h1 hE.m).1
 .unfold hiS;cases U3 r.2.2.1 (bnd t.2.1 en).2
  .simp
  .exact(zI h2 hE.m).1
 .exact(zI h3 hE.m).1
theorem a7F{t:bP}{r:uz}(hE:EnL en)(h1:b7W r.2.1)(h2:b7W r.2.2.1)(h3:b7W r.2.2.2):qQ t r en=some (lnS Ru (KG t r en)):=by have hl:=QJ (t:=t) hE h1 h2 h3;unfold qQ;rw[KU,o9,pI,a1S,(zI (t:=t.2.1) h1 hE.m).2.1,(zI (t:=t.2.1) h2 hE.m).2.1,(zI (t:=t.2.2.1) h3 hE.m).2.1];have hq:=BD (f:=Ru) (ws:=KG t r en) I5 (by simp[KG]) (λw hw=>aP (hl w hw) o5);unfold KG hiS Ru at hq;unfold KG hiS Ru;cases g:U3 r.2.2.1 (bnd t.2.1 en).2<;>rw[g]at hq<;>simp only[o7,o6,o9]at hq ⊢<;>rw[hq]<;>rfl
theorem a5O{t:bP}{r:uz}(hE:EnL l.1)(h1:b7W r.2.1)(h2:b7W r.2.2.1)(h3:b7W r.2.2.2):Dx t r l=some (lnS Ru (KG t r l.1)):=by have hl:=QJ (t:=t) hE h1 h2 h3;unfold Dx;rw[Ep,o9,uU,P_,(zI (t:=t.2.1) h1 hE.m).2.2 l rfl,(zI (t:=t.2.1) h2 hE.m).2.2 l rfl,(zI (t:=t.2.2.1) h3 hE.m).2.2 l rfl];have hq:=yO (f:=Ru) (ws:=KG t r l.1) I5 (by simp[KG]) (λw hw=>aP (hl w hw) o5);unfold KG hiS Ru at hq;unfold KG hiS Ru;cases g:U3 r.2.2.1 (bnd t.2.1 l.1).2<;>rw[g]at hq<;>simp only[o7,o6,o9]at hq ⊢<;>rw[hq]<;>rfl
def dnS(s:N8)(r:bM):List UInt8:=((J9 s.2.2.2.1 r.2.1).map (·.1)).getD []
def ovS(s:N8)(r:bM):List (List UInt8):=l7 (U3 0 r.2.2.1) [[111,118,101,114],((J9 s.2.2.2.2 r.2.2.1).map (·.1)).getD []] []
def prS(r:bM):List (List UInt8):=l7 (H9 0 r.2.2.2.1) [[112,114,105,111],Lib.itoa r.2.2.2.1] []
def daS(r:bM):List (List UInt8):=[[102,114,111,109],wB r.2.2.2.2.1.1,[116,111],enS r.2.2.2.2.1.2]
def guS(r:bM)(N:F5):List (List UInt8):=l7 (H9 0 (o8 r.2.2.2.2.2.1)) [[119,104,101,110],(Wi r.2.2.2.2.2.1 N).1] []
def isS(r:bM)(N:F5):List (List UInt8):=[[105,115],(Wi r.2.2.2.2.2.2.1 N).1]
def soS(r:bM):List (List UInt8):=l7 (seq r.2.2.2.2.2.2.2 []) [] [[115,114,99],34::r.2.2.2.2.2.2.2++[34]]
def ruW(s:N8)(r:bM)(N:F5):List (List UInt8):=[r.1,[111,102],dnS s r]++ovS s r++prS r++daS r++guS r N++isS r N++soS r
def GI:List UInt8:=[114,117,108,101]
structure RuL (s:N8) (r:bM):Prop where
 n:r.1.length<=80
 d:∀d∈s.2.2.2.1,d.1.length<=80
 q:∀q∈s.2.2.2.2,q.1.length<=80
 g:∀n∈r.2.2.2.2.2.1,b7W n.2
 v:∀n∈r.2.2.2.2.2.2.1,b7W n.2
 s:r.2.2.2.2.2.2.2.length<=64
variable {α:Type}
theorem Ui{b:Bool}{x y:List α}{P:α->Prop}(hx:∀w∈x,P w)(hy:∀w∈y,P w):∀w∈l7 b x y,P w:=by
 cases b
 .exact hy
 .exact hx
theorem Vd{N:F5}(h:RuL s r)(hN:NmOk N)(hp:b7W r.2.2.2.1):∀w∈ruW s r N,w.length<=150000:=by
 have hdn:(dnS s r).length<=80:=by
  unfold dnS;cases hl:J9 s.2.2.2.1 r.2.1 with
  |none=>simp|some d=>exact h.d d (pV hl).2.2.1
 have hpn:(((J9 s.2.2.2.2 r.2.2.1).map (·.1)).getD []).length<=80:=by
  cases hl:J9 s.2.2.2.2 r.2.2.1 with
  |none=>simp|some d=>exact h.q d (pV hl).2.2.1
 have hit:=FM hp;have hd1:=zq r.2.2.2.2.1.1;have hd2:=a1R r.2.2.2.2.1.2;have hg:=h_ hN h.g;have hv:=h_ hN h.v;have hn:=h.n;have hs:=h.s;unfold ruW;intro w hw;simp only[O6]at hw;rcases hw with(((((hw|hw)|hw)|hw)|hw)|hw)|hw
 .simp only[A7,aJ,or_false]at hw;rcases hw with rfl|rfl|rfl
  .omega
  .simp
  .omega
 .refine Ui (P:=λw=>w.length<=150000) (λw hw=>?_) (λw hw=>by cases hw) w hw;simp only[A7,aJ,or_false]at hw;rcases hw with rfl|rfl
  .simp
  .omega
 .refine Ui (P:=λw=>w.length<=150000) (λw hw=>?_) (λw hw=>by cases hw) w hw;simp only[A7,aJ,or_false]at hw;rcases hw with rfl|rfl
  .simp
  .omega
 .simp only[daS,A7,aJ,or_false]at hw;rcases hw with rfl|rfl|rfl|rfl
  .simp
  .omega
  .simp
  .omega
 .refine Ui (P:=λw=>w.length<=150000) (λw hw=>?_) (λw hw=>by cases hw) w hw;simp only[A7,aJ,or_false]at hw;rcases hw with rfl|rfl
  .simp
  .omega
 .simp only[isS,A7,aJ,or_false]at hw;rcases hw with rfl|rfl
  .simp
  .omega
 .refine Ui (P:=λw=>w.length<=150000) (λw hw=>by cases hw) (λw hw=>?_) w hw;simp only[A7,aJ,or_false]at hw;rcases hw with rfl|rfl
  .simp
  .simp;omega
theorem Vb(s:N8)(r:bM)(N:F5):(ruW s r N).length<=20:=by unfold ruW ovS prS daS guS isS soS;cases U3 0 r.2.2.1<;>cases H9 0 r.2.2.2.1<;>cases H9 0 (o8 r.2.2.2.2.2.1)<;>cases seq r.2.2.2.2.2.2.2 []<;>simp
theorem OB{s:List UInt8}(h:s.length<=64):(P5 [34] s)=some (34::s)/\P5 (34::s) [34]=some (34::s++[34]):=
 ⟨by rw[L6 H7];rfl,by rw[L6 H7]⟩
theorem Yu{p:Int}(h0:0<=p)(h9:p<=9):b7W p:=by unfold b7W;omega
theorem a0Y{p:Int}(h:0<=p):G5 (C9 p 0)=H9 0 p:=by
 cases g:H9 0 p
 .have:=nz.1 g;rw[bH (show p=0 by omega)];rfl
 .have:=zA.1 g;rw[U8 (show p≠0 by omega)];rfl
theorem a5P{N:F5}(hv:RuV s sg k r)(h:RuL s r)(hN:NmOk N):mQ s r N=some (lnS GI (ruW s r N)):=by
 obtain⟨d,hd,-⟩:=hv.df;have hp:b7W r.2.2.2.1:=Yu hv.p0 hv.p9;have hw:=Vd (s:=s) (r:=r) (N:=N) h hN hp;have hc:=Vb s r N;have hq:=BD (f:=GI) (ws:=ruW s r N) I5 o5 (λw hx=>aP (hw w hx) o5);unfold mQ;rw[hd,o9,pI,a1S,a2a hN h.g,a2a hN h.v,jl hp];simp only[o9,(OB h.s).1,(OB h.s).2];have hdn:dnS s r=d.1:=by unfold dnS;rw[hd];rfl
 have hpr:G5 (C9 r.2.2.2.1 0)=H9 0 r.2.2.2.1:=a0Y hv.p0;rw[hpr];unfold ruW ovS prS daS guS isS soS GI at hq;unfold ruW ovS prS daS guS isS soS GI;rw[hdn]at hq ⊢;have hpq:U3 0 r.2.2.1=true->∃q,J9 s.2.2.2.2 r.2.2.1=some q:=λg=>by
  rcases hv.pa with hm|⟨p,q,e,-,hq2⟩
  .rw[hm]at g;exact absurd g I5
  .exact⟨q,by rw[e,J3];exact hq2⟩
 cases g1:U3 0 r.2.2.1
 case true=>
  obtain⟨q,hq2⟩:=hpq g1;rw[g1,hq2]at hq;rw[hq2];cases g2:H9 0 r.2.2.2.1<;>cases g3:H9 0 (o8 r.2.2.2.2.2.1)<;>cases g4:seq r.2.2.2.2.2.2.2 []<;>rw[g2,g3,g4]at hq <;>
   simp only[o7,o6,O7,ae,o9,ai,aK,E8,J8,E9]at hq ⊢ <;>
   simp only[uP,o9,J8,E9,D7,J7,Nat.reduceAdd,Nat.reduceLeDiff]<;>rw[hq]<;>rfl
 case false=>
  rw[g1]at hq;cases g2:H9 0 r.2.2.2.1<;>cases g3:H9 0 (o8 r.2.2.2.2.2.1)<;>cases g4:seq r.2.2.2.2.2.2.2 []<;>rw[g2,g3,g4]at hq <;>
   simp only[o7,o6,O7,ae,o9,ai,aK,E8,J8,E9]at hq ⊢ <;>
   simp only[uP,o9,J8,E9,D7,J7,Nat.reduceAdd,Nat.reduceLeDiff]<;>rw[hq]<;>rfl
theorem a3s{i:Int}(hL:NmL l)(hs:J9 l.2.2 i=some s)(hv:RuV s sg k r)(h:RuL s r)(hN:NmOk (nmS l s)):yj l i r=some (lnS GI (ruW s r (nmS l s))):=by
 obtain⟨d,hd,-⟩:=hv.df;have hp:b7W r.2.2.2.1:=Yu hv.p0 hv.p9;have hw:=Vd (s:=s) (r:=r) (N:=nmS l s) h hN hp;have hc:=Vb s r (nmS l s);have hq:=yO (f:=GI) (ws:=ruW s r (nmS l s)) I5 o5 (λw hx=>aP (hw w hx) o5);unfold yj;rw[hs,o9,TM hL hs,o9,hd,o9,uU,P_,U_ hN h.g,U_ hN h.v,qF hp];simp only[o9,(OB h.s).1,(OB h.s).2];have hdn:dnS s r=d.1:=by unfold dnS;rw[hd];rfl
 unfold ruW ovS prS daS guS isS soS GI at hq;unfold ruW ovS prS daS guS isS soS GI;rw[hdn]at hq ⊢;have hpq:U3 0 r.2.2.1=true->∃q,J9 s.2.2.2.2 r.2.2.1=some q:=λg=>by
  rcases hv.pa with hm|⟨p,q,e,-,hq2⟩
  .rw[hm]at g;exact absurd g I5
  .exact⟨q,by rw[e,J3];exact hq2⟩
 cases g1:U3 0 r.2.2.1
 case true=>
  obtain⟨q,hq2⟩:=hpq g1;rw[g1,hq2]at hq;rw[hq2];cases g2:H9 0 r.2.2.2.1<;>cases g3:H9 0 (o8 r.2.2.2.2.2.1)<;>cases g4:seq r.2.2.2.2.2.2.2 []<;>rw[g2,g3,g4]at hq <;>
   simp only[o7,o6,O7,ae,o9,ai,aK,E8,J8,E9]at hq ⊢ <;>
   simp only[uP,o9,J8,E9,D7,J7,Nat.reduceAdd,Nat.reduceLeDiff]<;>rw[hq]<;>rfl
 case false=>
  rw[g1]at hq;cases g2:H9 0 r.2.2.2.1<;>cases g3:H9 0 (o8 r.2.2.2.2.2.1)<;>cases g4:seq r.2.2.2.2.2.2.2 []<;>rw[g2,g3,g4]at hq <;>
   simp only[o7,o6,O7,ae,o9,ai,aK,E8,J8,E9]at hq ⊢ <;>
   simp only[uP,o9,J8,E9,D7,J7,Nat.reduceAdd,Nat.reduceLeDiff]<;>rw[hq]<;>rfl
theorem a5c{g:α->List UInt8}{l:List α}{i:Nat}{a:α}(ha:l[i]? =some a):(l.take (i+1)).flatMap g=(l.take i).flatMap g++g a/\((l.take i).flatMap g).length+(g a).length<=(l.flatMap g).length:=by
 have hlt:=(aC.1 ha).1;have e1:l.take (i+1)=l.take i++[a]:=by rw[U2 hlt,(aC.1 ha).2]
 have e2:l=l.take (i+1)++l.drop (i+1):=(eF _ _).symm;refine⟨by rw[e1];simp,?_⟩;have e3:(l.flatMap g).length=((l.take (i+1)).flatMap g).length+((l.drop (i+1)).flatMap g).length:=by
  conv=>lhs;rw[e2]
  rw[List.flatMap_append,D9]
 rw[e3,e1,List.flatMap_append,D9];simp only[List.flatMap_cons,List.flatMap_nil,E8];omega
theorem ou{α γ:Type}(l:List α)(g:α->List UInt8)(hl:l.length<=1000000)(b:List UInt8)(hb:b.length+(l.flatMap g).length<=1000000000)
  {f:List UInt8×Int->Option ((List UInt8×Int)⊕List UInt8)} {K:List UInt8->Option γ} {r:Option γ}
  (hin:∀(i:Nat) (a:α) (acc:List UInt8),l[i]? =some a->i<=1000000->acc.length+(g a).length<=1000000000->f (acc,(i:Int))=some (.inl (acc++g a,((i+1:Nat):Int))))
  (hend:∀acc,f (acc,(l.length:Int))=some (.inr acc)) (hk:K (b++l.flatMap g)=r):l9 (aS f (b,0)) K=r:=by
 refine kH l (λb a=>b++g a) (λb i=>(b,i)) id (λi acc=>acc=b++(l.take i).flatMap g) b hl A8 (λi a acc ha hi hI=>?_) (λacc hI=>hend acc) (λ_=>?_)
 .obtain⟨h1,h2⟩:=a5c (g:=g) ha;subst hI;refine⟨hin i a _ ha hi (by rw[D9];omega),?_⟩;rw[h1,F6]
 .have hfold:∀(l:List α) (b:List UInt8),l.foldl (λb a=>b++g a) b=b++l.flatMap g:=by
   intro l;induction l with
   |nil=>intro b;simp|cons w l ih=>intro b;rw[X3,ih];simp
  rw[hfold];exact hk
theorem Fh{a x:List UInt8}(h:a.length+x.length<=1000000000):dZ a x=some (o8 x,(),a++x):=by unfold dZ;rw[if_pos o5];rfl
end
section
def XF:List UInt8:=[101,110,117,109]
def Rx:List UInt8:=[116,97,98,108,101]
def Rw:List UInt8:=[115,99,111,112,101]
def xC:List UInt8:=[109,101,109,98,101,114,115]
def yx:List UInt8:=[105,110,112,117,116]
def MR:List UInt8:=[100,101,102]
def enT(e:Z5):List UInt8:=lnS XF (e.1::e.2)
def roT(l:au)(t:bP)(r:uz):List UInt8:=lnS Ru (KG t r l.1)
def tbH(l:au)(t:bP):List UInt8:=lnS Rx [t.1,tyS t.2.1 l.1,tyS t.2.2.1 l.1]
def tbT(l:au)(t:bP):List UInt8:=tbH l t++t.2.2.2.flatMap (roT l t)
def meN(l:au)(s:N8):List UInt8:=((J9 l.2.2 s.2.1).map (·.1)).getD []
def meT(l:au)(s:N8):List UInt8:=l7 (U3 0 s.2.1) (lnS xC [meN l s]) []
def fdT(w:List UInt8)(l:au)(f:dW):List UInt8:=lnS w [f.1,tyS f.2 l.1]
def ruT(l:au)(s:N8)(r:bM):List UInt8:=lnS GI (ruW s r (nmS l s))
def scH(s:N8):List UInt8:=lnS Rw [s.1]
def scT(l:au)(s:N8):List UInt8:=scH s++meT l s++s.2.2.1.flatMap (fdT yx l)++s.2.2.2.1.flatMap (fdT MR l)++s.2.2.2.2.flatMap (ruT l s)
def txL(l:au):List UInt8:=l.1.flatMap enT++l.2.1.flatMap (tbT l)++l.2.2.flatMap (scT l)
structure FmL (l:au):Prop where
 v:(nP l).1=0
 n:NmL l
 w:WfL l
theorem qy{α:Type}{g:α->List UInt8}{B:Nat} :∀{l:List α},(∀a∈l,(g a).length<=B)->(l.flatMap g).length<=l.length*B
 |[],_=>by simp|a::l,h=>by have h1:=qy (g:=g) (B:=B) (l:=l) (λx hx=>h x (O8 _ hx));have h2:=h a A8;rw[List.flatMap_cons,D9,D7,H8,Y0];omega
variable {s:N8}{t:bP}
section
variable {l:au} (h:FmL l)
include h
theorem Ux:EnL l.1:=⟨λe he=>(h.n.e e he).2.1,λe he=>⟨by have:=(h.n.e e he).1;omega,λm hm=>by have:=(h.n.e e he).2.2 m hm;omega⟩⟩
theorem a1Z{t:Int×Int} :(tyS t l.1).length<=80:=b0w (Ux h).n
theorem Ur{e:Z5}(he:e∈l.1):(∀w∈e.1::e.2,w.length<=80)/\(e.1::e.2).length<=21/\(enT e).length<=1800:=by
 have h1:=h.n.e e he;have hw:∀w∈e.1::e.2,w.length<=80:=λw hw=>by
  rcases A7.1 hw with rfl|hw
  .exact h1.2.1
  .exact h1.2.2 w hw
 have hc:(e.1::e.2).length<=21:=by simp only[D7];omega
 have:=Ef (f:=XF) hw;have h3:(e.1::e.2).length*(80+1)<=21*81:=D6 _ hc;exact⟨hw,hc,by unfold enT;simp only[XF,D7,J7]at this ⊢;simp only[D7]at h3;omega⟩
theorem UZ(ht:t∈l.2.1){r:uz}(hr:r∈t.2.2.2):a1z r:=h.w.ri t ht r hr
theorem a5M(ht:t∈l.2.1){r:uz}(hr:r∈t.2.2.2):(roT l t r).length<=600:=by obtain⟨h1,h2,h3⟩:=UZ h ht hr;have:=Ef (f:=Ru) (QJ (t:=t) (Ux h) h1 h2 h3);unfold roT;simp only[Ru,KG,D7,J7]at this ⊢;omega
theorem tb3(ht:t∈l.2.1):∀w∈[t.1,tyS t.2.1 l.1,tyS t.2.2.1 l.1],w.length<=80:=by
 intro w hw;simp only[A7,aJ,or_false]at hw;rcases hw with rfl|rfl|rfl
 .exact h.n.t t ht
 .exact a1Z h
 .exact a1Z h
theorem a6l(ht:t∈l.2.1):(tbH l t).length<=300:=by have:=Ef (f:=Rx) (tb3 h ht);unfold tbH;simp only[Rx,D7,J7]at this ⊢;omega
theorem a6n(ht:t∈l.2.1):t.2.2.2.length<=64:=by obtain⟨i,hi,e⟩:=Y9 ht;exact((MQ h.v).2 i t (by rw[lM hi,e])).le
theorem a6m(ht:t∈l.2.1):(tbT l t).length<=40000:=by have h1:=a6l h ht;have h2:=qy (g:=roT l t) (B:=600) (l:=t.2.2.2) (λr hr=>a5M h ht hr);have h3:=D6 600 (a6n h ht);unfold tbT;rw[D9];omega
theorem a6R(hs:s∈l.2.2):∃i,l.2.2[i]? =some s/\ScV l i s:=by
 obtain⟨i,hi,e⟩:=Y9 hs;have he:l.2.2[i]? =some s:=by rw[lM hi,e]
 exact⟨i,he,(zY h.v).2 i s he⟩
theorem X_(hs:s∈l.2.2):s.1.length<=80:=by
 obtain⟨i,-,hv⟩:=a6R h hs;have:=hv.id;unfold vC at this;cases hc:s.1 with
 |nil=>simp|cons c r=>rw[hc]at this;simp only[x9,decide_eq_true_eq]at this;omega
theorem Hf{w:List UInt8}(hw:w.length<=10){f:dW}(hf:f.1.length<=80):(∀v∈[f.1,tyS f.2 l.1],v.length<=80)/\(fdT w l f).length<=200:=by
 have h2:∀v∈[f.1,tyS f.2 l.1],v.length<=80:=by
  intro v hv;simp only[A7,aJ,or_false]at hv;rcases hv with rfl|rfl
  .exact hf
  .exact a1Z h
 have:=Ef (f:=w) h2;refine⟨h2,?_⟩;unfold fdT;simp only[D7,J7]at this ⊢;omega
theorem YV(hs:s∈l.2.2){r:bM}(hr:r∈s.2.2.2.2):RuL s r/\NmOk (nmS l s)/\(∃k,RuV s (Vl l s) k r)/\(ruT l s r).length<=3000100:=by
 obtain⟨i,hi,hv⟩:=a6R h hs;obtain⟨k,hk,e⟩:=Y9 hr;have hru:=hv.rules k r (by rw[lM hk,e]);obtain⟨-,-,-,n4,n5,n6⟩:=h.n.s s hs;have hI:=h.w.si s hs r hr;have hsrc:r.2.2.2.2.2.2.2.length<=64:=by have:=hru.src;unfold ZB at this;simp only[x9,decide_eq_true_eq]at this;exact this.1
 have hL:RuL s r:=⟨n6 r hr,n5,n6,hI.1,hI.2,hsrc⟩;have hN:=b7y h.n hs;have h1:=Ef (f:=GI) (Vd hL hN (Yu hru.p0 hru.p9));have h2:=D6 150001 (Vb s r (nmS l s));refine⟨hL,hN,⟨k,hru⟩,?_⟩;unfold ruT;simp only[GI,D7,J7]at h1 ⊢;omega
theorem YA(hs:s∈l.2.2):(meN l s).length<=80/\(meT l s).length<=100:=by
 have h1:(meN l s).length<=80:=by
  unfold meN;cases hl:J9 l.2.2 s.2.1 with
  |none=>simp|some q=>exact X_ h (pV hl).2.2.1
 refine⟨h1,?_⟩;unfold meT;cases U3 0 s.2.1
 .simp
 .have:=Ef (f:=xC) (ws:=[meN l s]) (B:=80) (λw hw=>by rw[gy.1 hw];exact h1);simp only[o7,xC,D7,J7]at this ⊢;omega
theorem Vg(hs:s∈l.2.2):(∀w∈[s.1],w.length<=80)/\(scH s).length<=100:=by
 have h1:∀w∈[s.1],w.length<=80:=λw hw=>by rw[gy.1 hw];exact X_ h hs
 have:=Ef (f:=Rw) h1;refine⟨h1,?_⟩;unfold scH;simp only[Rw,D7,J7]at this ⊢;omega
theorem Uu(hs:s∈l.2.2):(s.2.2.1.flatMap (fdT yx l)).length<=2800/\(s.2.2.2.1.flatMap (fdT MR l)).length<=2800:=by obtain⟨n1,n2,n3,n4,n5,n6⟩:=h.n.s s hs;have h1:=qy (g:=fdT yx l) (B:=200) (l:=s.2.2.1) (λf hf=>(Hf h I5 (n4 f hf)).2);have h2:=qy (g:=fdT MR l) (B:=200) (l:=s.2.2.2.1) (λf hf=>(Hf h I5 (n5 f hf)).2);have h3:=D6 200 n1;have h4:=D6 200 n2;omega
theorem Ve(hs:s∈l.2.2):(s.2.2.2.2.flatMap (ruT l s)).length<=180006000:=by obtain⟨n1,n2,n3,n4,n5,n6⟩:=h.n.s s hs;have h1:=qy (g:=ruT l s) (B:=3000100) (l:=s.2.2.2.2) (λr hr=>(YV h hs hr).2.2.2);have h3:=D6 3000100 n3;omega
theorem a6d(hs:s∈l.2.2):(scT l s).length<=181000000:=by have h1:=(Vg h hs).2;have h2:=(YA h hs).2;have h3:=Uu h hs;have h4:=Ve h hs;unfold scT;simp only[D9];omega
end
end
section
theorem l1k{w:List (List UInt8)}{B:Nat}(hB:B<=1000000)(h:∀v∈w,v.length<=B):∀v∈w,v.length<=1000000:=λv hv=>aP (h v hv) hB
variable {l:au}
theorem SS(h:FmL l):(l.1.flatMap enT).length<=20000:=by have h1:=qy (g:=enT) (B:=1800) (l:=l.1) (λe he=>(Ur h he).2.2);have h2:=D6 1800 h.n.ne;omega
theorem Rf(h:FmL l):(l.2.1.flatMap (tbT l)).length<=400000:=by have h1:=qy (g:=tbT l) (B:=40000) (l:=l.2.1) (λt ht=>a6m h ht);have h2:=D6 40000 h.n.nt;omega
theorem QS(h:FmL l):(l.2.2.flatMap (scT l)).length<=724000000:=by have h1:=qy (g:=scT l) (B:=181000000) (l:=l.2.2) (λs hs=>a6d h hs);have h2:=D6 181000000 (zY h.v).1;omega
def foS(l:au):List UInt8×V4:=l7 (C9 (nP l).1 0) (l7 (H9 65536 (o8 (txL l))) ([],4,0,0,0) (txL l,0,0,0,0)) ([],nP l)
section
variable {l:au} (h:FmL l)
include h
theorem b0N{i:Nat}{s:N8}(hs:l.2.2[i]? =some s)(acc:List UInt8)(ha:acc.length+(scT l s).length<=1000000000)(hi:i<=1000000):
  (l9 (Y3 [115,99,111,112,101] [s.1]) λ(x_2:List UInt8)=>
          l9 (dZ acc x_2) λ(x_3:Int×PUnit×List UInt8)=>
           l9
            (l7 (U3 0 s.2.1)
             (l9 (J9 l.2.2 s.2.1) λ(x:N8)=>
              l9 (Y3 [109,101,109,98,101,114,115] [x.1]) λ(x:List UInt8)=>
               l9 (dZ x_3.2.2 x) λ(x:Int×PUnit×List UInt8)=>some x.2.2)
             (some x_3.2.2))
            λ(x_4:List UInt8)=>
            l9
             (aS
              (λ(x:List UInt8×Int)=>
               l7 (H9 x.2 (o8 s.2.2.1))
                (l9 (J9 s.2.2.1 x.2) λ(x_5:dW)=>
                 l9 (iy x_5.2 l.1) λ(x_6:List UInt8)=>
                  l9 (Y3 [105,110,112,117,116] [x_5.1,x_6])
                   λ(x_7:List UInt8)=>
                   l9 (dZ x.1 x_7) λ(x_8:Int×PUnit×List UInt8)=>
                    some (Sum.inl (x_8.2.2,F9 IntKind.i64 x.2 1)))
                (some (Sum.inr x.1)))
              (x_4,0))
             λ(y:List UInt8)=>
             l9
              (aS
               (λ(x:List UInt8×Int)=>
                l7 (H9 x.2 (o8 s.2.2.2.1))
                 (l9 (J9 s.2.2.2.1 x.2) λ(x_5:dW)=>
                  l9 (iy x_5.2 l.1) λ(x_6:List UInt8)=>
                   l9 (Y3 [100,101,102] [x_5.1,x_6]) λ(x_7:List UInt8)=>
                    l9 (dZ x.1 x_7) λ(x_8:Int×PUnit×List UInt8)=>
                     some (Sum.inl (x_8.2.2,F9 IntKind.i64 x.2 1)))
                 (some (Sum.inr x.1)))
               (y,0))
              λ(y:List UInt8)=>
              l9 (lQ l (i:Int)) λ(x_5:F5)=>
               l9
                (aS
                 (λ(x:List UInt8×Int)=>
                  l7 (H9 x.2 (o8 s.2.2.2.2))
                   (l9 (J9 s.2.2.2.2 x.2) λ(x_6:bM)=>
                    l9 (mQ s x_6 x_5) λ(x_7:List UInt8)=>
                     l9 (dZ x.1 x_7) λ(x_8:Int×PUnit×List UInt8)=>
                      some (Sum.inl (x_8.2.2,F9 IntKind.i64 x.2 1)))
                   (some (Sum.inr x.1)))
                 (y,0))
                λ(y:List UInt8)=>some (Sum.inl (y,F9 IntKind.i64 (i:Int) 1)))
  =some ((Sum.inl (acc++scT l s,((i+1:Nat):Int)):(List UInt8×Int)⊕List UInt8)):=by
 have hm:=oC hs;have hV:=(zY h.v).2 i s hs;have hH:=Vg h hm;have hM:=YA h hm;have hF:=Uu h hm;have hR:=Ve h hm;obtain⟨n1,n2,n3,n4,n5,n6⟩:=h.n.s s hm;have ha' :acc.length+((scH s).length+(meT l s).length+(s.2.2.1.flatMap (fdT yx l)).length+(s.2.2.2.1.flatMap (fdT MR l)).length+(s.2.2.2.2.flatMap (ruT l s)).length)<=1000000000:=by unfold scT at ha;simp only[D9]at ha;omega
 have e1:Y3 [115,99,111,112,101] [s.1]=some (scH s):=BD (f:=Rw) I5 A8 (l1k o5 hH.1);rw[e1,o9,Fh o5,o9];have e2:(l7 (U3 0 s.2.1)
             (l9 (J9 l.2.2 s.2.1) λ(x:N8)=>
              l9 (Y3 [109,101,109,98,101,114,115] [x.1]) λ(x:List UInt8)=>
               l9 (dZ (acc++scH s) x) λ(x:Int×PUnit×List UInt8)=>some x.2.2)
             (some (acc++scH s)))=some (acc++scH s++meT l s):=by
  unfold meT;rcases hV.mb with hm1|⟨p,q,e,-,hq⟩
  .rw[hm1];simp[U3]
  .have e3:J9 l.2.2 s.2.1=some q:=by rw[e,J3];exact hq
   have e4:meN l s=q.1:=by unfold meN;rw[e3];rfl
   have e5:Y3 [109,101,109,98,101,114,115] [q.1]=some (lnS xC [q.1]):=BD (f:=xC) I5 A8 (λw hw=>by rw[gy.1 hw,←e4];omega);have e6:U3 0 s.2.1=true:=by rw[e];exact bT o5
   have e7:(meT l s).length=(lnS xC [q.1]).length:=by unfold meT;rw[e6,e4];rfl
   rw[e6,o7,e3,o9,e5,o9,Fh H7,o9,e4];rfl
 rw[e2,o9];refine ou s.2.2.1 (fdT yx l) o5 _ (by simp only[D9];omega) (λj f b hf hj hb=>?_) (λb=>by simp only[N9,o6]) ?_
 .have hfm:=oC hf;have hv:=(hV.ins j f hf).ty;have hl:=Hf h (w:=yx) I5 (n4 f hfm);have e3:Y3 [105,110,112,117,116] [f.1,tyS f.2 l.1]=some (fdT yx l f):=BD (f:=yx) I5 A8 (l1k o5 hl.1);simp only[O0 hf,o7,J3,hf,o9,a0g hv,e3,Fh hb,bY (show j<=9000000000000000000 by omega)]
 refine ou s.2.2.2.1 (fdT MR l) o5 _ (by simp only[D9];omega) (λj f b hf hj hb=>?_) (λb=>by simp only[N9,o6]) ?_
 .have hfm:=oC hf;have hv:=(hV.defs j f hf).ty;have hl:=Hf h (w:=MR) I5 (n5 f hfm);have e3:Y3 [100,101,102] [f.1,tyS f.2 l.1]=some (fdT MR l f):=BD (f:=MR) I5 A8 (l1k o5 hl.1);simp only[O0 hf,o7,J3,hf,o9,a0g hv,e3,Fh hb,bY (show j<=9000000000000000000 by omega)]
 rw[a2p h.n (k:=(i:Int)) (by rw[J3];exact hs),o9];refine ou s.2.2.2.2 (ruT l s) o5 _ (by simp only[D9];omega) (λj r b hr hj hb=>?_) (λb=>by simp only[N9,o6]) ?_
 .obtain⟨a1,a2,⟨k,a3⟩,a4⟩:=YV h hm (oC hr);have e3:mQ s r (nmS l s)=some (ruT l s r):=a5P a3 a1 a2;simp only[O0 hr,o7,J3,hr,o9,e3,Fh hb,bY (show j<=9000000000000000000 by omega)]
 rw[bY o5];unfold scT;simp only[F6]
end
end
section
theorem a7o{a:List UInt8}(h:a.length<=1000000000):rM a=some (a,a):=by unfold rM;rw[if_pos o5]
variable {l:au}
theorem a0A(hS:SmL l)(h:(nP l).1=0->FmL l):kY l=some (foS l):=by
 unfold kY foS;rw[XE hS,o9];cases g:C9 (nP l).1 0
 .simp only[ae,o7,o6]
 simp only[O7,o7,o6];have h:=h (jC.1 g);have hE:=SS h;have hT:=Rf h;have hC:=QS h;refine ou l.1 enT (by have:=h.n.ne;omega) _ (by simp only[J7];omega) (λj e b he hj hb=>?_) (λb=>by simp only[N9,o6]) ?_
 .obtain⟨a1,a2,a3⟩:=Ur h (oC he);have hle:bF [e.1] e.2=some (e.1::e.2):=by rw[uP (by simp only[D7,J7]at a2 ⊢;omega)];rfl
  have e3:Y3 [101,110,117,109] (e.1::e.2)=some (enT e):=BD (f:=XF) I5 o5 (l1k o5 a1);simp only[O0 he,o7,J3,he,o9,hle,e3,Fh hb,bY (show j<=9000000000000000000 by omega)]
 refine ou l.2.1 (tbT l) (by have:=h.n.nt;omega) _ (by simp only[E9];omega) (λj t b ht hj hb=>?_) (λb=>by simp only[N9,o6]) ?_
 .have hm:=oC ht;have hV:=(MQ h.v).2 j t ht;have h3:=tb3 h hm;have hl:(tbH l t).length+(t.2.2.2.flatMap (roT l t)).length=(tbT l t).length:=by unfold tbT;rw[D9]
  have e3:Y3 [116,97,98,108,101] [t.1,tyS t.2.1 l.1,tyS t.2.2.1 l.1]=some (tbH l t):=BD (f:=Rx) I5 A8 (l1k o5 h3);simp only[O0 ht,o7,J3,ht,o9,a0g hV.vk,a0g hV.vv,e3];rw[Fh o5,o9];refine ou t.2.2.2 (roT l t) (by have:=hV.le;omega) _ (by simp only[D9];omega) (λi r c hr hi hc=>?_) (λb=>by simp only[N9,o6]) ?_
  .obtain⟨i1,i2,i3⟩:=UZ h hm (oC hr);have e4:qQ t r l.1=some (roT l t r):=a7F (Ux h) i1 i2 i3;simp only[O0 hr,o7,J3,hr,o9,e4,Fh hc,bY (show i<=9000000000000000000 by omega)]
  .rw[bY o5];unfold tbT;simp only[F6]
 refine ou l.2.2 (scT l) (by have:=(zY h.v).1;omega) _ (by simp only[D9,E9];omega) (λj s b hs hj hb=>?_) (λb=>by simp only[N9,o6]) ?_
 .simp only[O0 hs,o7,J3,hs,o9];exact b0N h hs b hb hj
 .have e5:[]++l.1.flatMap enT++l.2.1.flatMap (tbT l)++l.2.2.flatMap (scT l)=txL l:=rfl;rw[e5];have e6:(txL l).length<=1000000000:=by unfold txL;simp only[D9];omega
  unfold Ju;rw[o9,a7o e6];simp only[o9];show l7 (H9 65536 (o8 (txL l))) _ _=_;cases H9 65536 (o8 (txL l))<;>rfl
theorem Gs{a x:List UInt8}(h:a.length+x.length<=1000000000):P5 a x=some (a++x):=L6 o5
section
variable {l:au} (h:FmL l)
include h
theorem a7E{i:Nat}{s:N8}(hs:l.2.2[i]? =some s)(acc:List UInt8)(ha:acc.length+(scT l s).length<=1000000000)(hi:i<=1000000):
  (l9 (bf [[115,99,111,112,101],s.1]) λ(x_2:List UInt8)=>
          l9 (P5 acc x_2) λ(x_3:List UInt8)=>
           l9
            (l7 (U3 0 s.2.1)
             (l9 (J9 l.2.2 s.2.1) λ(x:N8)=>
              l9 (bf [[109,101,109,98,101,114,115],x.1]) λ(x:List UInt8)=>
               l9 (P5 x_3 x) λ(x:List UInt8)=>some x)
             (some x_3))
            λ(x_4:List UInt8)=>
            l9
             (aS
              (λ(x:List UInt8×Int)=>
               l7 (H9 x.2 (o8 s.2.2.1))
                (l9 (J9 s.2.2.1 x.2) λ(x_5:dW)=>
                 l9 (J9 s.2.2.1 x.2) λ(x_6:dW)=>
                  l9 (jM x_6.2 l) λ(x_7:List UInt8)=>
                   l9 (bf [[105,110,112,117,116],x_5.1,x_7])
                    λ(x_8:List UInt8)=>
                    l9 (P5 x.1 x_8) λ(x_9:List UInt8)=>
                     some (Sum.inl (x_9,F9 IntKind.i64 x.2 1)))
                (some (Sum.inr x.1)))
              (x_4,0))
             λ(y:List UInt8)=>
             l9
              (aS
               (λ(x:List UInt8×Int)=>
                l7 (H9 x.2 (o8 s.2.2.2.1))
                 (l9 (J9 s.2.2.2.1 x.2) λ(x_5:dW)=>
                  l9 (J9 s.2.2.2.1 x.2) λ(x_6:dW)=>
                   l9 (jM x_6.2 l) λ(x_7:List UInt8)=>
                    l9 (bf [[100,101,102],x_5.1,x_7]) λ(x_8:List UInt8)=>
                     l9 (P5 x.1 x_8) λ(x_9:List UInt8)=>
                      some (Sum.inl (x_9,F9 IntKind.i64 x.2 1)))
                 (some (Sum.inr x.1)))
               (y,0))
              λ(y:List UInt8)=>
              l9
               (aS
                (λ(x_5:List UInt8×Int)=>
                 l7 (H9 x_5.2 (o8 s.2.2.2.2))
                  (l9 (J9 s.2.2.2.2 x_5.2) λ(x_6:bM)=>
                   l9 (yj l (i:Int) x_6) λ(x:List UInt8)=>
                    l9 (P5 x_5.1 x) λ(x:List UInt8)=>
                     some (Sum.inl (x,F9 IntKind.i64 x_5.2 1)))
                  (some (Sum.inr x_5.1)))
                (y,0))
               λ(y:List UInt8)=>some (Sum.inl (y,F9 IntKind.i64 (i:Int) 1)))
  =some ((Sum.inl (acc++scT l s,((i+1:Nat):Int)):(List UInt8×Int)⊕List UInt8)):=by
 have hm:=oC hs;have hV:=(zY h.v).2 i s hs;have hH:=Vg h hm;have hM:=YA h hm;have hF:=Uu h hm;have hR:=Ve h hm;obtain⟨n1,n2,n3,n4,n5,n6⟩:=h.n.s s hm;have hsl:J9 l.2.2 (i:Int)=some s:=by rw[J3];exact hs
 have ha' :acc.length+((scH s).length+(meT l s).length+(s.2.2.1.flatMap (fdT yx l)).length+(s.2.2.2.1.flatMap (fdT MR l)).length+(s.2.2.2.2.flatMap (ruT l s)).length)<=1000000000:=by unfold scT at ha;simp only[D9]at ha;omega
 have e1:bf [[115,99,111,112,101],s.1]=some (scH s):=yO (f:=Rw) I5 A8 (l1k o5 hH.1);rw[e1,o9,Gs o5,o9];have e2:(l7 (U3 0 s.2.1)
             (l9 (J9 l.2.2 s.2.1) λ(x:N8)=>
              l9 (bf [[109,101,109,98,101,114,115],x.1]) λ(x:List UInt8)=>
               l9 (P5 (acc++scH s) x) λ(x:List UInt8)=>some x)
             (some (acc++scH s)))=some (acc++scH s++meT l s):=by
  unfold meT;rcases hV.mb with hm1|⟨p,q,e,-,hq⟩
  .rw[hm1];simp[U3]
  .have e3:J9 l.2.2 s.2.1=some q:=by rw[e,J3];exact hq
   have e4:meN l s=q.1:=by unfold meN;rw[e3];rfl
   have e5:bf [[109,101,109,98,101,114,115],q.1]=some (lnS xC [q.1]):=yO (f:=xC) I5 A8 (λw hw=>by rw[gy.1 hw,←e4];omega);have e6:U3 0 s.2.1=true:=by rw[e];exact bT o5
   have e7:(meT l s).length=(lnS xC [q.1]).length:=by unfold meT;rw[e6,e4];rfl
   rw[e6,o7,e3,o9,e5,o9,Gs H7,o9,e4];rfl
 rw[e2,o9];refine ou s.2.2.1 (fdT yx l) o5 _ (by simp only[D9];omega) (λj f b hf hj hb=>?_) (λb=>by simp only[N9,o6]) ?_
 .have hfm:=oC hf;have hv:=(hV.ins j f hf).ty;have hl:=Hf h (w:=yx) I5 (n4 f hfm);have e3:bf [[105,110,112,117,116],f.1,tyS f.2 l.1]=some (fdT yx l f):=yO (f:=yx) I5 A8 (l1k o5 hl.1);simp only[O0 hf,o7,J3,hf,o9,Va hv,e3,Gs hb,bY (show j<=9000000000000000000 by omega)]
 refine ou s.2.2.2.1 (fdT MR l) o5 _ (by simp only[D9];omega) (λj f b hf hj hb=>?_) (λb=>by simp only[N9,o6]) ?_
 .have hfm:=oC hf;have hv:=(hV.defs j f hf).ty;have hl:=Hf h (w:=MR) I5 (n5 f hfm);have e3:bf [[100,101,102],f.1,tyS f.2 l.1]=some (fdT MR l f):=yO (f:=MR) I5 A8 (l1k o5 hl.1);simp only[O0 hf,o7,J3,hf,o9,Va hv,e3,Gs hb,bY (show j<=9000000000000000000 by omega)]
 refine ou s.2.2.2.2 (ruT l s) o5 _ (by simp only[D9];omega) (λj r b hr hj hb=>?_) (λb=>by simp only[N9,o6]) ?_
 .obtain⟨a1,a2,-,a4⟩:=YV h hm (oC hr);have e3:yj l (i:Int) r=some (ruT l s r):=a3s h.n hsl (hV.rules j r hr) a1 a2;simp only[O0 hr,o7,J3,hr,o9,e3,Gs hb,bY (show j<=9000000000000000000 by omega)]
 rw[bY o5];unfold scT;simp only[F6]
end
theorem YU(hS:SmL l)(h:(nP l).1=0->FmL l):zD l=some (foS l):=by
 unfold zD foS;rw[UM hS,o9];cases g:C9 (nP l).1 0
 .simp only[ae,o7,o6]
 simp only[O7,o7,o6];have h:=h (jC.1 g);have hE:=SS h;have hT:=Rf h;have hC:=QS h;refine ou l.1 enT (by have:=h.n.ne;omega) _ (by simp only[J7];omega) (λj e b he hj hb=>?_) (λb=>by simp only[N9,o6]) ?_
 .obtain⟨a1,a2,a3⟩:=Ur h (oC he);have hle:bF [[101,110,117,109],e.1] e.2=some ([101,110,117,109]::e.1::e.2):=by rw[uP (by simp only[D7,J7]at a2 ⊢;omega)];rfl
  have e3:bf ([101,110,117,109]::e.1::e.2)=some (enT e):=yO (f:=XF) I5 o5 (l1k o5 a1);simp only[O0 he,o7,J3,he,o9,hle,e3,Gs hb,bY (show j<=9000000000000000000 by omega)]
 refine ou l.2.1 (tbT l) (by have:=h.n.nt;omega) _ (by simp only[E9];omega) (λj t b ht hj hb=>?_) (λb=>by simp only[N9,o6]) ?_
 .have hm:=oC ht;have hV:=(MQ h.v).2 j t ht;have h3:=tb3 h hm;have hl:(tbH l t).length+(t.2.2.2.flatMap (roT l t)).length=(tbT l t).length:=by unfold tbT;rw[D9]
  have e3:bf [[116,97,98,108,101],t.1,tyS t.2.1 l.1,tyS t.2.2.1 l.1]=some (tbH l t):=yO (f:=Rx) I5 A8 (l1k o5 h3);simp only[O0 ht,o7,J3,ht,o9,Va hV.vk,Va hV.vv,e3];rw[Gs o5,o9];refine ou t.2.2.2 (roT l t) (by have:=hV.le;omega) _ (by simp only[D9];omega) (λi r c hr hi hc=>?_) (λb=>by simp only[N9,o6]) ?_
  .obtain⟨i1,i2,i3⟩:=UZ h hm (oC hr);have e4:Dx t r l=some (roT l t r):=a5O (Ux h) i1 i2 i3;simp only[O0 hr,o7,J3,hr,o9,e4,Gs hc,bY (show i<=9000000000000000000 by omega)]
  .rw[bY o5];unfold tbT;simp only[F6]
 refine ou l.2.2 (scT l) (by have:=(zY h.v).1;omega) _ (by simp only[D9,E9];omega) (λj s b hs hj hb=>?_) (λb=>by simp only[N9,o6]) ?_
 .simp only[O0 hs,o7,J3,hs,o9];exact a7E h hs b hb hj
 .have e5:[]++l.1.flatMap enT++l.2.1.flatMap (tbT l)++l.2.2.flatMap (scT l)=txL l:=rfl;rw[e5];show l7 (H9 65536 (o8 (txL l))) _ _=_;cases H9 65536 (o8 (txL l))<;>rfl
theorem XM:fC=some true:=by decide+kernel
theorem a6B(h1:smL l=true)(hw:WfL l)(hv:(nP l).1=0):FmL l:=⟨hv,a7v h1 hw,hw⟩
theorem JI(hw:WfL l):uw l=some true:=by
 unfold uw
 rw[Xg,o9];simp only[XM,o9];cases h1:smL l
 case false=>rfl
 obtain⟨hS,-⟩:=a8m h1 hw;simp only[O7,o6];rw[a0A hS (a6B h1 hw),o9,YU hS (a6B h1 hw),o9];rw[Vh.2 rfl,bH rfl,bH rfl,bH rfl,bH rfl];rfl
end
end Go.GP
namespace Go.GP
open Gt
theorem Ji:∀x,XG Gt.ps3 x->(Gt.s3.fn x:Option Bool)=some true:=λx h=>JI (l:=x) (b7m h)
end Go.GP
