import Derived.Test.YtnpgekhfiogoeaaGreatDoorV5
import Derived.Test.YtnpgekhfiogoeaaGreatDoorV6
set_option linter.all false
namespace Go.GP
open Gt
set_option maxRecDepth 100000
section
theorem XF{b:Bool}{x y:Int}(h:l7 b x y=0)(hx:x≠0):b=false/\y=0:=by
 cases b
 .exact⟨rfl,h⟩
 .exact absurd h hx
theorem RH{n:Nat}{p:Nat->Option (Int×Int×Int×Int)}{z:Int×Int×Int×Int}(h:(match dF n p with|some r=>r|none=>z).1=0)(hp:∀i r,p i=some r->r.1≠0):∀i,i<n->p i=none:=
 Kw λr hf=>by rw[hf]at h;obtain⟨j,_,hj⟩:=pU hf;exact hp j r hj h
variable {l:aG}
theorem a7Q(h:(oH l).1=0):(BU l).1=0:=by
 unfold oH at h;cases h1:D6 (BU l).1 0<;>rw[h1]at h
 .exact h
 .exact X8.1 h1
theorem b0v(h:(oH l).1=0):(Bv l).1=0:=by
 have h0:=a7Q h;unfold oH at h;rw[V5 h0,o7]at h;cases h1:D6 (Bv l).1 0<;>rw[h1]at h
 .exact h
 .exact X8.1 h1
structure EnV (l:aG) (i:Nat) (e:P5):Prop where
 id:tC e.1=true
 tk:CY l 1 i e.1=false
 ne:e.2≠[]
 le:e.2.length<=16
 mem:∀j m,e.2[j]? =some m->tC m=true/\((e.2.take j).any λx=>seq m x)=false
theorem a3B(h:(oH l).1=0):l.1.length<=8/\∀i e,l.1[i]? =some e->EnV l i e:=by
 have h1:=a7Q h;unfold BU at h1;cases h2:J4 8 (x8 l.1)<;>rw[h2]at h1
 case true=>exact absurd (show(4:Int)=0 from h1) H7
 rw[o6]at h1;refine⟨by rw[lg]at h2;unfold x8 at h2;omega,λi e he=>?_⟩;have hn:=RH h1 (λj r hj=>by
  unfold LD at hj;split at hj
  .exact NV hj
  .cases hj) i (ai.1 he).1
 unfold LD at hn;rw[he]at hn;have hz:=UU hn;unfold UQ at hz;cases g1:tC e.1<;>rw[g1]at hz
 .exact absurd (show(2:Int)=0 from hz) H7
 cases g2:CY l 1 i e.1<;>rw[g2]at hz
 case true=>exact absurd (show(7:Int)=0 from hz) H7
 cases g3:D6 (x8 e.2) 0<;>rw[g3]at hz
 case true=>exact absurd (show(5:Int)=0 from hz) H7
 cases g4:J4 16 (x8 e.2)<;>rw[g4]at hz
 case true=>exact absurd (show(4:Int)=0 from hz) H7
 simp only[o7,o6]at hz;refine⟨g1,g2,λe0=>?_,by rw[lg]at g4;unfold x8 at g4;omega,λj m hm=>?_⟩
 .rw[e0]at g3;exact absurd g3 H7
 have hf:∀r,dF e.2.length (Qd e.2)≠some r:=λr hf=>by
  have hz' :(match dF e.2.length (Qd e.2)with|some r=>r|none=>(0,0)).1=0:=hz;rw[hf]at hz';obtain⟨q,_,hq⟩:=pU hf;unfold Qd at hq;split at hq
  .rename_i m' _;cases a1:tC m'<;>rw[a1]at hq
   .cases hq;exact absurd (show(2:Int)=0 from hz') H7
   cases a2:(e.2.take q).any λx=>seq m' x<;>rw[a2]at hq
   .cases hq
   .cases hq;exact absurd (show(7:Int)=0 from hz') H7
  .cases hq
 have hj:=Kw hf j (ai.1 hm).1;unfold Qd at hj;rw[hm]at hj;simp only at hj;cases a1:tC m<;>rw[a1]at hj
 .cases hj
 cases a2:(e.2.take j).any λx=>seq m x<;>rw[a2]at hj
 .exact⟨rfl,rfl⟩
 .cases hj
structure RwV (t:V4) (en:List P5) (x:uC):Prop where
 dv:EQ x.1=true
 dn:x.1.1≠x.1.2
 lh:x.2.1<x.2.2.1
 lo:inB x.2.1 (bnd t.2.1 en)=true
 hi:inB (L6 .i64 x.2.2.1 1) (bnd t.2.1 en)=true
 n:inB x.2.2.2 (bnd t.2.2.1 en)=true
variable {en:List P5}
theorem a7R{t:V4}{x:uC}(h:Lh x (bnd t.2.1 en) (bnd t.2.2.1 en)=false):RwV t en x:=by
 unfold Lh at h;cases g1:EQ x.1<;>rw[g1]at h
 .cases h
 cases g2:D6 x.1.1 x.1.2<;>rw[g2]at h
 case true=>cases h
 cases g3:U6 x.2.2.1 x.2.1<;>rw[g3]at h
 case true=>cases h
 cases g4:inB x.2.1 (bnd t.2.1 en)<;>rw[g4]at h
 .cases h
 cases g5:inB (L6 .i64 x.2.2.1 1) (bnd t.2.1 en)<;>rw[g5]at h
 .cases h
 cases g6:inB x.2.2.2 (bnd t.2.2.1 en)<;>rw[g6]at h
 .cases h
 exact⟨g1,iV.1 g2,Hw.1 g3,g4,g5,g6⟩
structure TbV (l:aG) (i:Nat) (t:V4):Prop where
 id:tC t.1=true
 tk:CY l 2 i t.1=false
 le:t.2.2.2.length<=64
 vk:vty t.2.1 l.1=true
 vv:vty t.2.2.1 l.1=true
 rows:∀x∈t.2.2.2,RwV t l.1 x
theorem EI(h:(oH l).1=0):l.2.1.length<=8/\∀i t,l.2.1[i]? =some t->TbV l i t:=by
 have h1:=b0v h;unfold Bv at h1;cases h2:J4 8 (x8 l.2.1)<;>rw[h2]at h1
 case true=>exact absurd (show(4:Int)=0 from h1) H7
 rw[o6]at h1;refine⟨by rw[lg]at h2;unfold x8 at h2;omega,λi t he=>?_⟩;have hn:=RH h1 (λj r hj=>by
  unfold OT at hj;split at hj
  .exact NV hj
  .cases hj) i (ai.1 he).1
 unfold OT at hn;rw[he]at hn;have hz:=UU hn;unfold a0A at hz;cases g1:tC t.1<;>rw[g1]at hz
 .exact absurd (show(2:Int)=0 from hz) H7
 cases g2:CY l 2 i t.1<;>rw[g2]at hz
 case true=>exact absurd (show(7:Int)=0 from hz) H7
 have hc:(Lc t l.1).2=0:=by
  cases g3:D6 (Lc t l.1).2 0<;>rw[g3]at hz
  .exact hz
  .exact X8.1 g3
 unfold Lc at hc;cases g4:J4 64 (x8 t.2.2.2)<;>rw[g4]at hc
 case true=>exact absurd (show(4:Int)=0 from hc) H7
 cases g5:vty t.2.1 l.1<;>rw[g5]at hc
 .exact absurd (show(8:Int)=0 from hc) H7
 cases g6:vty t.2.2.1 l.1<;>rw[g6]at hc
 .exact absurd (show(8:Int)=0 from hc) H7
 simp only[o7,o6]at hc;refine⟨g1,g2,by rw[lg]at g4;unfold x8 at g4;omega,g5,g6,λx hx=>?_⟩;obtain⟨j,hj,e1⟩:=aY hx;have hf:∀r,dF t.2.2.2.length (TJ t l.1)≠some r:=λr hf=>by
  have hc' :(match dF t.2.2.2.length (TJ t l.1)with|some r=>r|none=>(0,0)).2=0:=hc;rw[hf]at hc';obtain⟨q,_,hq⟩:=pU hf;unfold TJ at hq;split at hq
  .rename_i x' _;cases a1:Lh x' (bnd t.2.1 l.1) (bnd t.2.2.1 l.1)<;>rw[a1]at hq
   .cases a2:(t.2.2.2.take q).any λy=>BN y x'<;>rw[a2]at hq
    .cases hq
    .cases hq;exact absurd (show(11:Int)=0 from hc') H7
   .cases hq;exact absurd (show(3:Int)=0 from hc') H7
  .cases hq
 have hj' :=Kw hf j hj;unfold TJ at hj';rw[mW hj,e1]at hj';simp only at hj';cases a1:Lh x (bnd t.2.1 l.1) (bnd t.2.2.1 l.1)<;>rw[a1]at hj'
 .exact a7R a1
 .cases hj'
structure RuV (s:H8) (sg:U3) (k:Nat) (r:ak):Prop where
 id:tC r.1=true
 nm:((s.2.2.2.2.take k).any λx=>seq x.1 r.1)=false
 df:∃d,O0 s.2.2.2.1 r.2.1=some d/\NW r sg d.2=0
 pa:r.2.2.1=-1\/∃(p:Nat) (q:ak),r.2.2.1=(p:Int)/\p<k/\s.2.2.2.2[p]? =some q
 p0:0<=r.2.2.2.1
 p9:r.2.2.2.1<=9
 dv:EQ r.2.2.2.2.1=true
 dn:r.2.2.2.2.1.1≠r.2.2.2.2.1.2
 src:Zl r.2.2.2.2.2.2.2=true
variable {s:H8}{r:ak}
theorem a0a{sg:U3}{k:Nat}(h:Gw s sg k r=0):RuV s sg k r:=by
 unfold Gw at h;cases g1:tC r.1<;>rw[g1]at h
 .exact absurd (show(2:Int)=0 from h) H7
 cases g2:(s.2.2.2.2.take k).any λx=>seq x.1 r.1<;>rw[g2]at h
 case true=>exact absurd (show(7:Int)=0 from h) H7
 simp only[o7,o6]at h;cases g3:O0 s.2.2.2.1 r.2.1 with
 |none=>rw[g3]at h;exact absurd (show(6:Int)=0 from h) H7|some d=>
  rw[g3]at h;simp only at h;obtain⟨g4,h⟩:=XF h H7;cases g5:J4 r.2.2.2.1 0<;>rw[g5]at h
  case true=>exact absurd (show(3:Int)=0 from h) H7
  cases g6:J4 9 r.2.2.2.1<;>rw[g6]at h
  case true=>exact absurd (show(3:Int)=0 from h) H7
  cases g7:EQ r.2.2.2.2.1<;>rw[g7]at h
  .exact absurd (show(3:Int)=0 from h) H7
  cases g8:D6 r.2.2.2.2.1.1 r.2.2.2.2.1.2<;>rw[g8]at h
  case true=>exact absurd (show(3:Int)=0 from h) H7
  cases g9:U6 8 (Uo (s.2.2.2.2.take k) r.2.1:Int)<;>rw[g9]at h
  case true=>exact absurd (show(4:Int)=0 from h) H7
  cases g10:Zl r.2.2.2.2.2.2.2<;>rw[g10]at h
  .exact absurd (show(2:Int)=0 from h) H7
  simp only[o7,o6]at h;refine⟨g1,g2,⟨d,g3,h⟩,?_,lg.1 g5,lg.1 g6,g7,iV.1 g8,g10⟩;cases a1:D6 r.2.2.1 (-1)<;>rw[a1]at g4
  .rw[o6]at g4;cases a2:J4 r.2.2.1 0<;>rw[a2]at g4
   case true=>cases g4
   rw[o6]at g4;cases a3:U6 (k:Int) r.2.2.1<;>rw[a3]at g4
   case true=>cases g4
   rw[o6]at g4;have b2:=lg.1 a2;have b3:=Hw.1 a3;right;obtain⟨p,hp⟩:∃p:Nat,r.2.2.1=(p:Int):=⟨r.2.2.1.toNat,(gz b2).symm⟩;rw[hp,U2]at g4;cases hq:s.2.2.2.2[p]? with
   |none=>rw[hq]at g4;cases g4|some q=>exact⟨p,q,hp,Int.ofNat_lt.1 (by rw[hp]at b3;exact b3),hq⟩
  .exact .inl (X8.1 a1)
structure FdV (en:List P5) (f:dK) (a b:List dK):Prop where
 id:tC f.1=true
 a:(a.any λx=>seq x.1 f.1)=false
 b:(b.any λx=>seq x.1 f.1)=false
 ty:vty f.2 en=true
theorem Pi{f:dK}{a b:List dK}(h:Hm en f a b=0):FdV en f a b:=by
 unfold Hm at h;cases g1:tC f.1<;>rw[g1]at h
 .exact absurd (show(2:Int)=0 from h) H7
 cases g2:a.any λx=>seq x.1 f.1<;>rw[g2]at h
 case true=>exact absurd (show(7:Int)=0 from h) H7
 cases g3:b.any λx=>seq x.1 f.1<;>rw[g3]at h
 case true=>exact absurd (show(7:Int)=0 from h) H7
 cases g4:vty f.2 en<;>rw[g4]at h
 .exact absurd (show(8:Int)=0 from h) H7
 exact⟨g1,g2,g3,g4⟩
structure ScV (l:aG) (i:Nat) (s:H8):Prop where
 id:tC s.1=true
 tk:CY l 3 i s.1=false
 mb:s.2.1=-1\/∃(p:Nat) (q:H8),s.2.1=(p:Int)/\p<i/\l.2.2[p]? =some q
 li:s.2.2.1.length<=12
 ld:s.2.2.2.1.length<=12
 ins:∀j f,s.2.2.1[j]? =some f->FdV l.1 f (s.2.2.1.take j) []
 defs:∀j f,s.2.2.2.1[j]? =some f->FdV l.1 f s.2.2.1 (s.2.2.2.1.take j)
 rules:∀k r,s.2.2.2.2[k]? =some r->RuV s (UF l s) k r
theorem BI(h:(oH l).1=0):l.2.2.length<=4/\∀i s,l.2.2[i]? =some s->ScV l i s:=by
 have h0:=h;refine⟨?_,λi s hs=>?_⟩
 .unfold oH at h;rw[V5 (a7Q h0),o7,V5 (b0v h0),o7]at h;unfold Nl at h;cases h3:J4 4 (x8 l.2.2)<;>rw[h3]at h
  case true=>exact absurd (show(4:Int)=0 from h) H7
  rw[lg]at h3;unfold x8 at h3;omega
 have he:=Zy h hs;unfold FV at he;cases g1:tC s.1<;>rw[g1]at he
 .exact absurd (show(2:Int)=0 from he) H7
 cases g2:CY l 3 i s.1<;>rw[g2]at he
 case true=>exact absurd (show(7:Int)=0 from he) H7
 cases g3:Ig l i s.2.1<;>rw[g3]at he
 case true=>exact absurd (show(6:Int)=0 from he) H7
 cases g4:J4 12 (x8 s.2.2.1)<;>rw[g4]at he
 case true=>exact absurd (show(4:Int)=0 from he) H7
 cases g5:J4 12 (x8 s.2.2.2.1)<;>rw[g5]at he
 case true=>exact absurd (show(4:Int)=0 from he) H7
 simp only[o7,o6]at he;have hfs:Bd l s=none:=by
  unfold Tf at he;cases hf:Bd l s with
  |none=>rfl|some q=>rw[hf]at he;exact absurd he (Pj hf)
 refine⟨g1,g2,?_,by rw[lg]at g4;unfold x8 at g4;omega,by rw[lg]at g5;unfold x8 at g5;omega,λj f hf=>?_,λj f hf=>?_,λk r hr=>a0a (Ud h hs hr)⟩
 .unfold Ig at g3;cases a1:D6 s.2.1 (-1)<;>rw[a1]at g3
  .rw[o6]at g3;cases a2:J4 s.2.1 0<;>rw[a2]at g3
   case true=>cases g3
   rw[o6]at g3;cases a3:U6 (i:Int) s.2.1<;>rw[a3]at g3
   case true=>cases g3
   rw[o6]at g3;have b2:=lg.1 a2;have b3:=Hw.1 a3;right;obtain⟨p,hp⟩:∃p:Nat,s.2.1=(p:Int):=⟨s.2.1.toNat,(gz b2).symm⟩;rw[hp,U2]at g3;cases hq:l.2.2[p]? with
   |none=>rw[hq]at g3;cases g3|some q=>exact⟨p,q,hp,Int.ofNat_lt.1 (by rw[hp]at b3;exact b3),hq⟩
  .exact .inl (X8.1 a1)
 .unfold Bd at hfs;have hin:dF s.2.2.1.length (inP l s)=none:=by
   cases hq:dF s.2.2.1.length (inP l s)with
   |none=>rfl|some q=>rw[hq]at hfs;cases hfs
  have hj:=uj hin j (ai.1 hf).1;unfold inP at hj;rw[hf]at hj;exact Pi (UT hj)
 .unfold Bd at hfs;have hdf:dF s.2.2.2.1.length (ZX l s)=none:=by
   cases hq:dF s.2.2.1.length (inP l s)with
   |none=>rw[hq]at hfs;exact hfs|some q=>rw[hq]at hfs;cases hfs
  have hj:=uj hdf j (ai.1 hf).1;unfold ZX at hj;rw[hf]at hj;exact Pi (UT hj)
def spW(ws:List (List UInt8)):List UInt8:=ws.flatMap (λw=>32::w)
def lnS(first:List UInt8)(ws:List (List UInt8)):List UInt8:=first++spW ws++[10]
theorem uN(w:List UInt8)(ws:List (List UInt8)):spW (w::ws)=32::w++spW ws:=by simp[spW]
theorem a7x(ws:List (List UInt8))(w:List UInt8):spW (ws++[w])=spW ws++32::w:=by simp[spW]
theorem FX(a b:List (List UInt8)):spW (a++b)=spW a++spW b:=by simp[spW]
theorem QG{B:Nat} :∀{ws:List (List UInt8)},(∀w∈ws,w.length<=B)->(spW ws).length<=ws.length*(B+1)
 |[],_=>by simp[spW]|w::ws,h=>by have h1:=QG (λv hv=>h v (P7 _ hv)) (ws:=ws);have h2:=h w D5;rw[uN];simp only[E8,D9,J3,ah];omega
variable {ws:List (List UInt8)}
theorem Fp{B:Nat}{f:List UInt8}(h:∀w∈ws,w.length<=B):(lnS f ws).length<=f.length+ws.length*(B+1)+1:=by have:=QG h;unfold lnS;simp;omega
theorem Wx{B:Nat}(h:∀w∈ws,w.length<=B)(n:Nat):(spW (ws.take n)).length<=ws.length*(B+1):=by
 have h1:=QG (ws:=ws.take n) (λw hw=>h w (mM hw));have h2:(ws.take n).length<=ws.length:=by simp;omega
 exact P8 h1 (F5 _ h2)
theorem Dp{f:List UInt8}(hf:f.length<=1000)(hl:ws.length<=1000)(h:∀w∈ws,w.length<=1000000):aA f ws=some (lnS f ws):=by
 unfold aA;refine vV ws (λb a=>b++(32::a)) (λb i=>(b,i)) id (λi b=>b=f++spW (ws.take i)) f o5 (by simp[spW]) (λi a b ha hi hb=>?_) (λb hb=>?_) ?_
 .have hlt:=(ai.1 ha).1;have hm:=h a (wJ ha);have ht:=Wx h i;have h3:ws.length*(1000000+1)<=1000*1000001:=F5 _ hl;subst hb;simp only[X9 ha,o7,U2,ha,o9];rw[J7 G5,o9,J7 G5,o9,dC o5];refine⟨rfl,?_⟩;rw[X5 hlt,a7x,(ai.1 ha).2];simp
 .simp only[Y6,o6,id]
 .have hfold:∀(l:List (List UInt8)) (b:List UInt8),l.foldl (λb a=>b++(32::a)) b=b++spW l:=by
   intro l;induction l with
   |nil=>intro b;simp[spW]|cons w l ih=>intro b;rw[aT,ih,uN];simp
  have ht:=QG h;have h3:ws.length*(1000000+1)<=1000*1000001:=F5 _ hl;rw[hfold];simp only[id];rw[J7 G5,o9];simp[lnS]
def tyS(t:Int×Int)(en:List P5):List UInt8:=
 l7 (D6 t.1 1) [98,111,111,108] (l7 (D6 t.1 2) [105,110,116] (l7 (D6 t.1 3) [109,111,110,101,121] (l7 (D6 t.1 4) [114,97,116,101] (l7 (D6 t.1 5) [100,97,116,101] (((O0 en t.2).map (·.1)).getD [])))))
variable {t:Int×Int}
theorem LQ(h:vty t en=true)(h6:t.1=6):∃e,O0 en t.2=some e/\e∈en:=by
 unfold vty at h;rw[V5 h6,o7]at h;cases g1:U6 0 t.2<;>rw[g1]at h
 .cases h
 rw[o7]at h;exact um (iJ.1 g1) (zY.1 h)
theorem EJ(h:vty t en=true):(t.1=1/\t.2=0)\/(t.1=2/\t.2=0)\/(t.1=3/\t.2=0)\/(t.1=4/\t.2=0)\/(t.1=5/\t.2=0)\/t.1=6:=by
 unfold vty at h;cases g0:D6 t.1 6<;>rw[g0]at h
 case true=>have:=X8.1 g0;omega
 rw[o6]at h;cases g1:U6 1 t.1<;>rw[g1]at h
 .cases h
 cases g2:U6 t.1 5<;>rw[g2]at h
 .cases h
 have h1:=iJ.1 g1;have h2:=iJ.1 g2;have h3:=X8.1 h;omega
theorem a2e(h:vty t en=true):jH t en=some (tyS t en):=by
 unfold jH tyS;cases g1:D6 t.1 1
 case true=>rfl
 cases g2:D6 t.1 2
 case true=>rfl
 cases g3:D6 t.1 3
 case true=>rfl
 cases g4:D6 t.1 4
 case true=>rfl
 cases g5:D6 t.1 5
 case true=>rfl
 have h6:t.1=6:=by have:=EJ h;have a1:=iV.1 g1;have a2:=iV.1 g2;have a3:=iV.1 g3;have a4:=iV.1 g4;have a5:=iV.1 g5;omega
 obtain⟨e,he,-⟩:=LQ h h6;simp only[o6];rw[he];rfl
theorem b3f(hn:∀e∈en,e.1.length<=80):(tyS t en).length<=80:=by
 unfold tyS;cases D6 t.1 1
 case true=>simp
 cases D6 t.1 2
 case true=>simp
 cases D6 t.1 3
 case true=>simp
 cases D6 t.1 4
 case true=>simp
 cases D6 t.1 5
 case true=>simp
 simp only[o6];cases hl:O0 en t.2 with
 |none=>simp|some e=>exact hn e (lX hl).2.2.1
def enS(d:Int):List UInt8:=l7 (D6 d 109573) [101,110,100] (lC d)
theorem a4g(d:Int):qR d=some (enS d):=by unfold qR enS;rw[qw,o9];cases D6 d 109573<;>rfl
theorem a4f(d:Int):(enS d).length<=100:=by
 unfold enS;cases D6 d 109573
 .exact AY d
 .simp
def vaS(n:Int)(t:Int×Int)(en:List P5):List UInt8:=((iP (t.1,t.2,n) en).getD ([],0)).1
theorem Ju{n:Int}(h:fE n)(hm:∀e∈en,e.2.length<=100/\∀m∈e.2,m.length<=100):(vaS n t en).length<=100/\jW n t en=some (vaS n t en)/\∀l:aG,l.1=en->rD n t l=some (vaS n t en):=by
 obtain⟨x,hx,hl⟩:=xJ (B:=100) o5 o5 (v:=(t.1,t.2,n)) h hm;have e:vaS n t en=x.1:=by unfold vaS;rw[hx];rfl
 refine⟨by rw[e];exact hl,?_,λl hle=>?_⟩
 .unfold jW;rw[hx,o9,e]
 .unfold rD;subst hle;rw[←xI _ h,hx,o9,e]
def hiS(t:V4)(r:uC)(en:List P5):List UInt8:=l7 (U6 r.2.2.1 (bnd t.2.1 en).2) (vaS r.2.2.1 t.2.1 en) [101,110,100]
def Qi(t:V4)(r:uC)(en:List P5):List (List UInt8):=[lC r.1.1,enS r.1.2,vaS r.2.1 t.2.1 en,hiS t r en,vaS r.2.2.2 t.2.2.1 en]
def OX:List UInt8:=[114,111,119]
structure EnL (en:List P5):Prop where
 n:∀e∈en,e.1.length<=80
 m:∀e∈en,e.2.length<=100/\∀m∈e.2,m.length<=100
theorem YU{t:V4}{r:uC}(hE:EnL en)(h1:fE r.2.1)(h2:fE r.2.2.1)(h3:fE r.2.2.2):∀w∈Qi t r en,w.length<=100:=by
 intro w hw;simp only[Qi,C9,bQ,or_false]at hw;rcases hw with rfl|rfl|rfl|rfl|rfl
 .exact AY _
 .exact a4f _
 .exact(Ju h1 hE.m).1
 .unfold hiS;cases U6 r.2.2.1 (bnd t.2.1 en).2
  .simp
  .exact(Ju h2 hE.m).1
 .exact(Ju h3 hE.m).1
theorem b1c{t:V4}{r:uC}(hE:EnL en)(h1:fE r.2.1)(h2:fE r.2.2.1)(h3:fE r.2.2.2):uK t r en=some (lnS OX (Qi t r en)):=by have hl:=YU (t:=t) hE h1 h2 h3;unfold uK;rw[zo,o9,qw,a4g,(Ju (t:=t.2.1) h1 hE.m).2.1,(Ju (t:=t.2.1) h2 hE.m).2.1,(Ju (t:=t.2.2.1) h3 hE.m).2.1];have hq:=Dp (f:=OX) (ws:=Qi t r en) H7 (by simp[Qi]) (λw hw=>P8 (hl w hw) o5);unfold Qi hiS OX at hq;unfold Qi hiS OX;cases g:U6 r.2.2.1 (bnd t.2.1 en).2<;>rw[g]at hq<;>simp only[o7,o6,o9]at hq ⊢<;>rw[hq]<;>rfl
def dnS(s:H8)(r:ak):List UInt8:=((O0 s.2.2.2.1 r.2.1).map (·.1)).getD []
def ovS(s:H8)(r:ak):List (List UInt8):=l7 (U6 0 r.2.2.1) [[111,118,101,114],((O0 s.2.2.2.2 r.2.2.1).map (·.1)).getD []] []
def prS(r:ak):List (List UInt8):=l7 (J4 0 r.2.2.2.1) [[112,114,105,111],Lib.itoa r.2.2.2.1] []
def daS(r:ak):List (List UInt8):=[[102,114,111,109],lC r.2.2.2.2.1.1,[116,111],enS r.2.2.2.2.1.2]
def guS(r:ak)(N:D8):List (List UInt8):=l7 (J4 0 (x8 r.2.2.2.2.2.1)) [[119,104,101,110],(EZ r.2.2.2.2.2.1 N).1] []
def isS(r:ak)(N:D8):List (List UInt8):=[[105,115],(EZ r.2.2.2.2.2.2.1 N).1]
def soS(r:ak):List (List UInt8):=l7 (seq r.2.2.2.2.2.2.2 []) [] [[115,114,99],34::r.2.2.2.2.2.2.2++[34]]
def ruW(s:H8)(r:ak)(N:D8):List (List UInt8):=[r.1,[111,102],dnS s r]++ovS s r++prS r++daS r++guS r N++isS r N++soS r
def DK:List UInt8:=[114,117,108,101]
structure RuL (s:H8) (r:ak):Prop where
 n:r.1.length<=80
 d:∀d∈s.2.2.2.1,d.1.length<=80
 q:∀q∈s.2.2.2.2,q.1.length<=80
 g:∀n∈r.2.2.2.2.2.1,fE n.2
 v:∀n∈r.2.2.2.2.2.2.1,fE n.2
 s:r.2.2.2.2.2.2.2.length<=64
variable {α:Type}
theorem VP{b:Bool}{x y:List α}{P:α->Prop}(hx:∀w∈x,P w)(hy:∀w∈y,P w):∀w∈l7 b x y,P w:=by
 cases b
 .exact hy
 .exact hx
theorem a1R{N:D8}(h:RuL s r)(hN:NmOk N)(hp:fE r.2.2.2.1):∀w∈ruW s r N,w.length<=150000:=by
 have hdn:(dnS s r).length<=80:=by
  unfold dnS;cases hl:O0 s.2.2.2.1 r.2.1 with
  |none=>simp|some d=>exact h.d d (lX hl).2.2.1
 have hpn:(((O0 s.2.2.2.2 r.2.2.1).map (·.1)).getD []).length<=80:=by
  cases hl:O0 s.2.2.2.2 r.2.2.1 with
  |none=>simp|some d=>exact h.q d (lX hl).2.2.1
 have hit:=Hz hp;have hd1:=AY r.2.2.2.2.1.1;have hd2:=a4f r.2.2.2.2.1.2;have hg:=a1g hN h.g;have hv:=a1g hN h.v;have hn:=h.n;have hs:=h.s;unfold ruW;intro w hw;simp only[F9]at hw;rcases hw with(((((hw|hw)|hw)|hw)|hw)|hw)|hw
 .simp only[C9,bQ,or_false]at hw;rcases hw with rfl|rfl|rfl
  .omega
  .simp
  .omega
 .refine VP (P:=λw=>w.length<=150000) (λw hw=>?_) (λw hw=>by cases hw) w hw;simp only[C9,bQ,or_false]at hw;rcases hw with rfl|rfl
  .simp
  .omega
 .refine VP (P:=λw=>w.length<=150000) (λw hw=>?_) (λw hw=>by cases hw) w hw;simp only[C9,bQ,or_false]at hw;rcases hw with rfl|rfl
  .simp
  .omega
 .simp only[daS,C9,bQ,or_false]at hw;rcases hw with rfl|rfl|rfl|rfl
  .simp
  .omega
  .simp
  .omega
 .refine VP (P:=λw=>w.length<=150000) (λw hw=>?_) (λw hw=>by cases hw) w hw;simp only[C9,bQ,or_false]at hw;rcases hw with rfl|rfl
  .simp
  .omega
 .simp only[isS,C9,bQ,or_false]at hw;rcases hw with rfl|rfl
  .simp
  .omega
 .refine VP (P:=λw=>w.length<=150000) (λw hw=>by cases hw) (λw hw=>?_) w hw;simp only[C9,bQ,or_false]at hw;rcases hw with rfl|rfl
  .simp
  .simp;omega
theorem a1Q(s:H8)(r:ak)(N:D8):(ruW s r N).length<=17:=by unfold ruW ovS prS daS guS isS soS;cases U6 0 r.2.2.1<;>cases J4 0 r.2.2.2.1<;>cases J4 0 (x8 r.2.2.2.2.2.1)<;>cases seq r.2.2.2.2.2.2.2 []<;>simp
theorem a1V{s:List UInt8}(h:s.length<=64):(U5 [34] s)=some (34::s)/\U5 (34::s) [34]=some (34::s++[34]):=
 ⟨by rw[J7 G5];rfl,by rw[J7 G5]⟩
theorem a4z{p:Int}(h0:0<=p)(h9:p<=9):fE p:=by unfold fE;omega
theorem a3n{p:Int}(h:0<=p):G7 (D6 p 0)=J4 0 p:=by
 cases g:J4 0 p
 .have:=lg.1 g;rw[V5 (show p=0 by omega)];rfl
 .have:=zY.1 g;rw[N7 (show p≠0 by omega)];rfl
theorem a9k{sg:U3}{k:Nat}{N:D8}(hv:RuV s sg k r)(h:RuL s r)(hN:NmOk N):qj s r N=some (lnS DK (ruW s r N)):=by
 obtain⟨d,hd,-⟩:=hv.df;have hp:fE r.2.2.2.1:=a4z hv.p0 hv.p9;have hw:=a1R (s:=s) (r:=r) (N:=N) h hN hp;have hc:=a1Q s r N;have hq:=Dp (f:=DK) (ws:=ruW s r N) H7 o5 (λw hx=>P8 (hw w hx) o5);unfold qj;rw[hd,o9,qw,a4g,a4v hN h.g,a4v hN h.v,jy hp];simp only[o9,(a1V h.s).1,(a1V h.s).2];have hdn:dnS s r=d.1:=by unfold dnS;rw[hd];rfl
 have hpr:G7 (D6 r.2.2.2.1 0)=J4 0 r.2.2.2.1:=a3n hv.p0;rw[hpr];unfold ruW ovS prS daS guS isS soS DK at hq;unfold ruW ovS prS daS guS isS soS DK;rw[hdn]at hq ⊢;have hpq:U6 0 r.2.2.1=true->∃q,O0 s.2.2.2.2 r.2.2.1=some q:=λg=>by
  rcases hv.pa with hm|⟨p,q,e,-,hq2⟩
  .rw[hm]at g;exact absurd g H7
  .exact⟨q,by rw[e,U2];exact hq2⟩
 cases g1:U6 0 r.2.2.1
 case true=>
  obtain⟨q,hq2⟩:=hpq g1;rw[g1,hq2]at hq;rw[hq2];cases g2:J4 0 r.2.2.2.1<;>cases g3:J4 0 (x8 r.2.2.2.2.2.1)<;>cases g4:seq r.2.2.2.2.2.2.2 []<;>rw[g2,g3,g4]at hq <;>
   simp only[o7,o6,F6,I7,o9,dA,Y2,E5,J9,H9]at hq ⊢ <;>
   simp only[rY,o9,J9,H9,D9,O7,Nat.reduceAdd,Nat.reduceLeDiff]<;>rw[hq]<;>rfl
 case false=>
  rw[g1]at hq;cases g2:J4 0 r.2.2.2.1<;>cases g3:J4 0 (x8 r.2.2.2.2.2.1)<;>cases g4:seq r.2.2.2.2.2.2.2 []<;>rw[g2,g3,g4]at hq <;>
   simp only[o7,o6,F6,I7,o9,dA,Y2,E5,J9,H9]at hq ⊢ <;>
   simp only[rY,o9,J9,H9,D9,O7,Nat.reduceAdd,Nat.reduceLeDiff]<;>rw[hq]<;>rfl
theorem a8g{g:α->List UInt8}{l:List α}{i:Nat}{a:α}(ha:l[i]? =some a):(l.take (i+1)).flatMap g=(l.take i).flatMap g++g a/\((l.take i).flatMap g).length+(g a).length<=(l.flatMap g).length:=by
 have hlt:=(ai.1 ha).1;have e1:l.take (i+1)=l.take i++[a]:=by rw[X5 hlt,(ai.1 ha).2]
 have e2:l=l.take (i+1)++l.drop (i+1):=(X6 _ _).symm;refine⟨by rw[e1];simp,?_⟩;have e3:(l.flatMap g).length=((l.take (i+1)).flatMap g).length+((l.drop (i+1)).flatMap g).length:=by
  conv=>lhs;rw[e2]
  rw[gB,E8]
 rw[e3,e1,gB,E8];simp only[ae,List.flatMap_nil,E5];omega
theorem BK{α γ:Type}(l:List α)(g:α->List UInt8)(hl:l.length<=1000000)(b:List UInt8)(hb:b.length+(l.flatMap g).length<=1000000000)
  {f:List UInt8×Int->Option ((List UInt8×Int)⊕List UInt8)} {K:List UInt8->Option γ} {r:Option γ}
  (hin:∀(i:Nat) (a:α) (acc:List UInt8),l[i]? =some a->i<=1000000->acc.length+(g a).length<=1000000000->f (acc,(i:Int))=some (.inl (acc++g a,((i+1:Nat):Int))))
  (hend:∀acc,f (acc,(l.length:Int))=some (.inr acc)) (hk:K (b++l.flatMap g)=r):l9 (dD f (b,0)) K=r:=by
 refine vV l (λb a=>b++g a) (λb i=>(b,i)) id (λi acc=>acc=b++(l.take i).flatMap g) b hl D5 (λi a acc ha hi hI=>?_) (λacc hI=>hend acc) (λ_=>?_)
 .obtain⟨h1,h2⟩:=a8g (g:=g) ha;subst hI;refine⟨hin i a _ ha hi (by rw[E8];omega),?_⟩;rw[h1,F7]
 .have hfold:∀(l:List α) (b:List UInt8),l.foldl (λb a=>b++g a) b=b++l.flatMap g:=by
   intro l;induction l with
   |nil=>intro b;simp|cons w l ih=>intro b;rw[aT,ih];simp
  rw[hfold];exact hk
theorem GV{a x:List UInt8}(h:a.length+x.length<=1000000000):iq a x=some (x8 x,(),a++x):=by unfold iq;rw[if_pos o5];rfl
end
section
def Nz:List UInt8:=[101,110,117,109]
def Eb:List UInt8:=[116,97,98,108,101]
def CZ:List UInt8:=[115,99,111,112,101]
def wF:List UInt8:=[109,101,109,98,101,114,115]
def xR:List UInt8:=[105,110,112,117,116]
def Le:List UInt8:=[100,101,102]
def enT(e:P5):List UInt8:=lnS Nz (e.1::e.2)
def roT(l:aG)(t:V4)(r:uC):List UInt8:=lnS OX (Qi t r l.1)
def tbH(l:aG)(t:V4):List UInt8:=lnS Eb [t.1,tyS t.2.1 l.1,tyS t.2.2.1 l.1]
def tbT(l:aG)(t:V4):List UInt8:=tbH l t++t.2.2.2.flatMap (roT l t)
def meN(l:aG)(s:H8):List UInt8:=((O0 l.2.2 s.2.1).map (·.1)).getD []
def meT(l:aG)(s:H8):List UInt8:=l7 (U6 0 s.2.1) (lnS wF [meN l s]) []
def fdT(w:List UInt8)(l:aG)(f:dK):List UInt8:=lnS w [f.1,tyS f.2 l.1]
def ruT(l:aG)(s:H8)(r:ak):List UInt8:=lnS DK (ruW s r (nmS l s))
def scH(s:H8):List UInt8:=lnS CZ [s.1]
def scT(l:aG)(s:H8):List UInt8:=scH s++meT l s++s.2.2.1.flatMap (fdT xR l)++s.2.2.2.1.flatMap (fdT Le l)++s.2.2.2.2.flatMap (ruT l s)
def txL(l:aG):List UInt8:=l.1.flatMap enT++l.2.1.flatMap (tbT l)++l.2.2.flatMap (scT l)
structure FmL (l:aG):Prop where
 v:(oH l).1=0
 n:NmL l
 w:WfL l
theorem tX{α:Type}{g:α->List UInt8}{B:Nat} :∀{l:List α},(∀a∈l,(g a).length<=B)->(l.flatMap g).length<=l.length*B
 |[],_=>by simp|a::l,h=>by have h1:=tX (g:=g) (B:=B) (l:=l) (λx hx=>h x (P7 _ hx));have h2:=h a D5;rw[ae,E8,D9,J3,ah];omega
variable {s:H8}{t:V4}
section
variable {l:aG} (h:FmL l)
include h
theorem m_:EnL l.1:=⟨λe he=>(h.n.e e he).2.1,λe he=>⟨by have:=(h.n.e e he).1;omega,λm hm=>by have:=(h.n.e e he).2.2 m hm;omega⟩⟩
theorem a4u{t:Int×Int} :(tyS t l.1).length<=80:=b3f (m_ h).n
theorem a1c{e:P5}(he:e∈l.1):(∀w∈e.1::e.2,w.length<=80)/\(e.1::e.2).length<=21/\(enT e).length<=1800:=by
 have h1:=h.n.e e he;have hw:∀w∈e.1::e.2,w.length<=80:=λw hw=>by
  rcases C9.1 hw with rfl|hw
  .exact h1.2.1
  .exact h1.2.2 w hw
 have hc:(e.1::e.2).length<=21:=by simp only[D9];omega
 have:=Fp (f:=Nz) hw;have h3:(e.1::e.2).length*(80+1)<=21*81:=F5 _ hc;exact⟨hw,hc,by unfold enT;simp only[Nz,D9,O7]at this ⊢;simp only[D9]at h3;omega⟩
theorem WW(ht:t∈l.2.1){r:uC}(hr:r∈t.2.2.2):UI r:=h.w.ri t ht r hr
theorem a9h(ht:t∈l.2.1){r:uC}(hr:r∈t.2.2.2):(roT l t r).length<=600:=by obtain⟨h1,h2,h3⟩:=WW h ht hr;have:=Fp (f:=OX) (YU (t:=t) (m_ h) h1 h2 h3);unfold roT;simp only[OX,Qi,D9,O7]at this ⊢;omega
theorem tb3(ht:t∈l.2.1):∀w∈[t.1,tyS t.2.1 l.1,tyS t.2.2.1 l.1],w.length<=80:=by
 intro w hw;simp only[C9,bQ,or_false]at hw;rcases hw with rfl|rfl|rfl
 .exact h.n.t t ht
 .exact a4u h
 .exact a4u h
theorem a9A(ht:t∈l.2.1):(tbH l t).length<=300:=by have:=Fp (f:=Eb) (tb3 h ht);unfold tbH;simp only[Eb,D9,O7]at this ⊢;omega
theorem a9C(ht:t∈l.2.1):t.2.2.2.length<=64:=by obtain⟨i,hi,e⟩:=aY ht;exact((EI h.v).2 i t (by rw[mW hi,e])).le
theorem a9B(ht:t∈l.2.1):(tbT l t).length<=40000:=by have h1:=a9A h ht;have h2:=tX (g:=roT l t) (B:=600) (l:=t.2.2.2) (λr hr=>a9h h ht hr);have h3:=F5 600 (a9C h ht);unfold tbT;rw[E8];omega
theorem b0g(hs:s∈l.2.2):∃i,l.2.2[i]? =some s/\ScV l i s:=by
 obtain⟨i,hi,e⟩:=aY hs;have he:l.2.2[i]? =some s:=by rw[mW hi,e]
 exact⟨i,he,(BI h.v).2 i s he⟩
theorem a1U(hs:s∈l.2.2):s.1.length<=80:=by
 obtain⟨i,-,hv⟩:=b0g h hs;have:=hv.id;unfold tC at this;cases hc:s.1 with
 |nil=>simp|cons c r=>rw[hc]at this;simp only[A8,decide_eq_true_eq]at this;omega
theorem Qq{w:List UInt8}(hw:w.length<=10){f:dK}(hf:f.1.length<=80):(∀v∈[f.1,tyS f.2 l.1],v.length<=80)/\(fdT w l f).length<=200:=by
 have h2:∀v∈[f.1,tyS f.2 l.1],v.length<=80:=by
  intro v hv;simp only[C9,bQ,or_false]at hv;rcases hv with rfl|rfl
  .exact hf
  .exact a4u h
 have:=Fp (f:=w) h2;refine⟨h2,?_⟩;unfold fdT;simp only[D9,O7]at this ⊢;omega
theorem a6g(hs:s∈l.2.2){r:ak}(hr:r∈s.2.2.2.2):RuL s r/\NmOk (nmS l s)/\(∃k,RuV s (UF l s) k r)/\(ruT l s r).length<=2550100:=by
 obtain⟨i,hi,hv⟩:=b0g h hs;obtain⟨k,hk,e⟩:=aY hr;have hru:=hv.rules k r (by rw[mW hk,e]);obtain⟨-,-,-,n4,n5,n6⟩:=h.n.s s hs;have hI:=h.w.si s hs r hr;have hsrc:r.2.2.2.2.2.2.2.length<=64:=by have:=hru.src;unfold Zl at this;simp only[A8,decide_eq_true_eq]at this;exact this.1
 have hL:RuL s r:=⟨n6 r hr,n5,n6,hI.1,hI.2,hsrc⟩;have hN:=b8V h.n hs;have h1:=Fp (f:=DK) (a1R hL hN (a4z hru.p0 hru.p9));have h2:=F5 150001 (a1Q s r (nmS l s));refine⟨hL,hN,⟨k,hru⟩,?_⟩;unfold ruT;simp only[DK,D9,O7]at h1 ⊢;omega
theorem a4N(hs:s∈l.2.2):(meN l s).length<=80/\(meT l s).length<=100:=by
 have h1:(meN l s).length<=80:=by
  unfold meN;cases hl:O0 l.2.2 s.2.1 with
  |none=>simp|some q=>exact a1U h (lX hl).2.2.1
 refine⟨h1,?_⟩;unfold meT;cases U6 0 s.2.1
 .simp
 .have:=Fp (f:=wF) (ws:=[meN l s]) (B:=80) (λw hw=>by rw[N9.1 hw];exact h1);simp only[o7,wF,D9,O7]at this ⊢;omega
theorem a1T(hs:s∈l.2.2):(∀w∈[s.1],w.length<=80)/\(scH s).length<=100:=by
 have h1:∀w∈[s.1],w.length<=80:=λw hw=>by rw[N9.1 hw];exact a1U h hs
 have:=Fp (f:=CZ) h1;refine⟨h1,?_⟩;unfold scH;simp only[CZ,D9,O7]at this ⊢;omega
theorem a1e(hs:s∈l.2.2):(s.2.2.1.flatMap (fdT xR l)).length<=2800/\(s.2.2.2.1.flatMap (fdT Le l)).length<=2800:=by obtain⟨n1,n2,n3,n4,n5,n6⟩:=h.n.s s hs;have h1:=tX (g:=fdT xR l) (B:=200) (l:=s.2.2.1) (λf hf=>(Qq h H7 (n4 f hf)).2);have h2:=tX (g:=fdT Le l) (B:=200) (l:=s.2.2.2.1) (λf hf=>(Qq h H7 (n5 f hf)).2);have h3:=F5 200 n1;have h4:=F5 200 n2;omega
theorem a1S(hs:s∈l.2.2):(s.2.2.2.2.flatMap (ruT l s)).length<=244815600:=by obtain⟨n1,n2,n3,n4,n5,n6⟩:=h.n.s s hs;have h1:=tX (g:=ruT l s) (B:=2550100) (l:=s.2.2.2.2) (λr hr=>(a6g h hs hr).2.2.2);have h3:=F5 2550100 n3;omega
theorem a9t(hs:s∈l.2.2):(scT l s).length<=244830000:=by have h1:=(a1T h hs).2;have h2:=(a4N h hs).2;have h3:=a1e h hs;have h4:=a1S h hs;unfold scT;simp only[E8];omega
end
end
section
theorem l1k{w:List (List UInt8)}{B:Nat}(hB:B<=1000000)(h:∀v∈w,v.length<=B):∀v∈w,v.length<=1000000:=λv hv=>P8 (h v hv) hB
variable {l:aG}
theorem a2z(h:FmL l):(l.1.flatMap enT).length<=20000:=by have h1:=tX (g:=enT) (B:=1800) (l:=l.1) (λe he=>(a1c h he).2.2);have h2:=F5 1800 h.n.ne;omega
theorem a0B(h:FmL l):(l.2.1.flatMap (tbT l)).length<=400000:=by have h1:=tX (g:=tbT l) (B:=40000) (l:=l.2.1) (λt ht=>a9B h ht);have h2:=F5 40000 h.n.nt;omega
theorem a0l(h:FmL l):(l.2.2.flatMap (scT l)).length<=979320000:=by have h1:=tX (g:=scT l) (B:=244830000) (l:=l.2.2) (λs hs=>a9t h hs);have h2:=F5 244830000 (BI h.v).1;omega
def foS(l:aG):List UInt8×X4:=l7 (D6 (oH l).1 0) (l7 (J4 65536 (x8 (txL l))) ([],4,0,0,0) (txL l,0,0,0,0)) ([],oH l)
section
variable {l:aG} (h:FmL l)
include h
theorem b3C{i:Nat}{s:H8}(hs:l.2.2[i]? =some s)(acc:List UInt8)(ha:acc.length+(scT l s).length<=1000000000)(hi:i<=1000000):
  (l9 (aA [115,99,111,112,101] [s.1]) λ(x_2:List UInt8)=>
          l9 (iq acc x_2) λ(x_3:Int×PUnit×List UInt8)=>
           l9
            (l7 (U6 0 s.2.1)
             (l9 (O0 l.2.2 s.2.1) λ(x:H8)=>
              l9 (aA [109,101,109,98,101,114,115] [x.1]) λ(x:List UInt8)=>
               l9 (iq x_3.2.2 x) λ(x:Int×PUnit×List UInt8)=>some x.2.2)
             (some x_3.2.2))
            λ(x_4:List UInt8)=>
            l9
             (dD
              (λ(x:List UInt8×Int)=>
               l7 (J4 x.2 (x8 s.2.2.1))
                (l9 (O0 s.2.2.1 x.2) λ(x_5:dK)=>
                 l9 (jH x_5.2 l.1) λ(x_6:List UInt8)=>
                  l9 (aA [105,110,112,117,116] [x_5.1,x_6])
                   λ(x_7:List UInt8)=>
                   l9 (iq x.1 x_7) λ(x_8:Int×PUnit×List UInt8)=>
                    some (Sum.inl (x_8.2.2,G9 IntKind.i64 x.2 1)))
                (some (Sum.inr x.1)))
              (x_4,0))
             λ(y:List UInt8)=>
             l9
              (dD
               (λ(x:List UInt8×Int)=>
                l7 (J4 x.2 (x8 s.2.2.2.1))
                 (l9 (O0 s.2.2.2.1 x.2) λ(x_5:dK)=>
                  l9 (jH x_5.2 l.1) λ(x_6:List UInt8)=>
                   l9 (aA [100,101,102] [x_5.1,x_6]) λ(x_7:List UInt8)=>
                    l9 (iq x.1 x_7) λ(x_8:Int×PUnit×List UInt8)=>
                     some (Sum.inl (x_8.2.2,G9 IntKind.i64 x.2 1)))
                 (some (Sum.inr x.1)))
               (y,0))
              λ(y:List UInt8)=>
              l9 (jE l (i:Int)) λ(x_5:D8)=>
               l9
                (dD
                 (λ(x:List UInt8×Int)=>
                  l7 (J4 x.2 (x8 s.2.2.2.2))
                   (l9 (O0 s.2.2.2.2 x.2) λ(x_6:ak)=>
                    l9 (qj s x_6 x_5) λ(x_7:List UInt8)=>
                     l9 (iq x.1 x_7) λ(x_8:Int×PUnit×List UInt8)=>
                      some (Sum.inl (x_8.2.2,G9 IntKind.i64 x.2 1)))
                   (some (Sum.inr x.1)))
                 (y,0))
                λ(y:List UInt8)=>some (Sum.inl (y,G9 IntKind.i64 (i:Int) 1)))
  =some ((Sum.inl (acc++scT l s,((i+1:Nat):Int)):(List UInt8×Int)⊕List UInt8)):=by
 have hm:=wJ hs;have hV:=(BI h.v).2 i s hs;have hH:=a1T h hm;have hM:=a4N h hm;have hF:=a1e h hm;have hR:=a1S h hm;obtain⟨n1,n2,n3,n4,n5,n6⟩:=h.n.s s hm;have ha' :acc.length+((scH s).length+(meT l s).length+(s.2.2.1.flatMap (fdT xR l)).length+(s.2.2.2.1.flatMap (fdT Le l)).length+(s.2.2.2.2.flatMap (ruT l s)).length)<=1000000000:=by unfold scT at ha;simp only[E8]at ha;omega
 have e1:aA [115,99,111,112,101] [s.1]=some (scH s):=Dp (f:=CZ) H7 D5 (l1k o5 hH.1);rw[e1,o9,GV o5,o9];have e2:(l7 (U6 0 s.2.1)
             (l9 (O0 l.2.2 s.2.1) λ(x:H8)=>
              l9 (aA [109,101,109,98,101,114,115] [x.1]) λ(x:List UInt8)=>
               l9 (iq (acc++scH s) x) λ(x:Int×PUnit×List UInt8)=>some x.2.2)
             (some (acc++scH s)))=some (acc++scH s++meT l s):=by
  unfold meT;rcases hV.mb with hm1|⟨p,q,e,-,hq⟩
  .rw[hm1];simp[U6]
  .have e3:O0 l.2.2 s.2.1=some q:=by rw[e,U2];exact hq
   have e4:meN l s=q.1:=by unfold meN;rw[e3];rfl
   have e5:aA [109,101,109,98,101,114,115] [q.1]=some (lnS wF [q.1]):=Dp (f:=wF) H7 D5 (λw hw=>by rw[N9.1 hw,←e4];omega);have e6:U6 0 s.2.1=true:=by rw[e];exact aS o5
   have e7:(meT l s).length=(lnS wF [q.1]).length:=by unfold meT;rw[e6,e4];rfl
   rw[e6,o7,e3,o9,e5,o9,GV G5,o9,e4];rfl
 rw[e2,o9];refine BK s.2.2.1 (fdT xR l) o5 _ (by simp only[E8];omega) (λj f b hf hj hb=>?_) (λb=>by simp only[Y6,o6]) ?_
 .have hfm:=wJ hf;have hv:=(hV.ins j f hf).ty;have hl:=Qq h (w:=xR) H7 (n4 f hfm);have e3:aA [105,110,112,117,116] [f.1,tyS f.2 l.1]=some (fdT xR l f):=Dp (f:=xR) H7 D5 (l1k o5 hl.1);simp only[X9 hf,o7,U2,hf,o9,a2e hv,e3,GV hb,dC (show j<=9000000000000000000 by omega)]
 refine BK s.2.2.2.1 (fdT Le l) o5 _ (by simp only[E8];omega) (λj f b hf hj hb=>?_) (λb=>by simp only[Y6,o6]) ?_
 .have hfm:=wJ hf;have hv:=(hV.defs j f hf).ty;have hl:=Qq h (w:=Le) H7 (n5 f hfm);have e3:aA [100,101,102] [f.1,tyS f.2 l.1]=some (fdT Le l f):=Dp (f:=Le) H7 D5 (l1k o5 hl.1);simp only[X9 hf,o7,U2,hf,o9,a2e hv,e3,GV hb,dC (show j<=9000000000000000000 by omega)]
 rw[a4R h.n (k:=(i:Int)) (by rw[U2];exact hs),o9];refine BK s.2.2.2.2 (ruT l s) o5 _ (by simp only[E8];omega) (λj r b hr hj hb=>?_) (λb=>by simp only[Y6,o6]) ?_
 .obtain⟨a1,a2,⟨k,a3⟩,a4⟩:=a6g h hm (wJ hr);have e3:qj s r (nmS l s)=some (ruT l s r):=a9k a3 a1 a2;simp only[X9 hr,o7,U2,hr,o9,e3,GV hb,dC (show j<=9000000000000000000 by omega)]
 rw[dC o5];unfold scT;simp only[F7]
end
end
section
theorem b0D{a:List UInt8}(h:a.length<=1000000000):vC a=some (a,a):=by unfold vC;rw[if_pos o5]
theorem a2F{l:aG}(hS:SmL l)(h:(oH l).1=0->FmL l):oD l=some (foS l):=by
 unfold oD foS;rw[Zz hS,o9];cases g:D6 (oH l).1 0
 .simp only[I7,o7,o6]
 simp only[F6,o7,o6];have h:=h (X8.1 g);have hE:=a2z h;have hT:=a0B h;have hC:=a0l h;refine BK l.1 enT (by have:=h.n.ne;omega) _ (by simp only[O7];omega) (λj e b he hj hb=>?_) (λb=>by simp only[Y6,o6]) ?_
 .obtain⟨a1,a2,a3⟩:=a1c h (wJ he);have hle:dB [e.1] e.2=some (e.1::e.2):=by rw[rY (by simp only[D9,O7]at a2 ⊢;omega)];rfl
  have e3:aA [101,110,117,109] (e.1::e.2)=some (enT e):=Dp (f:=Nz) H7 o5 (l1k o5 a1);simp only[X9 he,o7,U2,he,o9,hle,e3,GV hb,dC (show j<=9000000000000000000 by omega)]
 refine BK l.2.1 (tbT l) (by have:=h.n.nt;omega) _ (by simp only[H9];omega) (λj t b ht hj hb=>?_) (λb=>by simp only[Y6,o6]) ?_
 .have hm:=wJ ht;have hV:=(EI h.v).2 j t ht;have h3:=tb3 h hm;have hl:(tbH l t).length+(t.2.2.2.flatMap (roT l t)).length=(tbT l t).length:=by unfold tbT;rw[E8]
  have e3:aA [116,97,98,108,101] [t.1,tyS t.2.1 l.1,tyS t.2.2.1 l.1]=some (tbH l t):=Dp (f:=Eb) H7 D5 (l1k o5 h3);simp only[X9 ht,o7,U2,ht,o9,a2e hV.vk,a2e hV.vv,e3];rw[GV o5,o9];refine BK t.2.2.2 (roT l t) (by have:=hV.le;omega) _ (by simp only[E8];omega) (λi r c hr hi hc=>?_) (λb=>by simp only[Y6,o6]) ?_
  .obtain⟨i1,i2,i3⟩:=WW h hm (wJ hr);have e4:uK t r l.1=some (roT l t r):=b1c (m_ h) i1 i2 i3;simp only[X9 hr,o7,U2,hr,o9,e4,GV hc,dC (show i<=9000000000000000000 by omega)]
  .rw[dC o5];unfold tbT;simp only[F7]
 refine BK l.2.2 (scT l) (by have:=(BI h.v).1;omega) _ (by simp only[E8,H9];omega) (λj s b hs hj hb=>?_) (λb=>by simp only[Y6,o6]) ?_
 .simp only[X9 hs,o7,U2,hs,o9];exact b3C h hs b hb hj
 .have e5:[]++l.1.flatMap enT++l.2.1.flatMap (tbT l)++l.2.2.flatMap (scT l)=txL l:=rfl;rw[e5];have e6:(txL l).length<=1000000000:=by unfold txL;simp only[E8];omega
  unfold Lj;rw[o9,b0D e6];simp only[o9];show l7 (J4 65536 (x8 (txL l))) _ _=_;cases J4 65536 (x8 (txL l))<;>rfl
theorem ZI:gU=some true:=by decide+kernel
theorem je{α β:Type}{o:Option α}{K:α->Option β}{r:β}(h:l9 o K=some r):∃a,o=some a/\K a=some r:=by
 cases o with
 |none=>cases h|some a=>exact⟨a,rfl,h⟩
end
section
theorem DZ{α:Type}{S:List α}{s:α}(hl:S.length<=1000000):L6 .i64 (x8 (S++[s])) 1=(S.length:Int)/\bH (L6 .i64 (x8 (S++[s])) 1)=S.length/\inb (L6 .i64 (x8 (S++[s])) 1) (x8 (S++[s]))=true/\
  eQ (S++[s]) S.length=some s/\(∀x,rM (S++[s]) S.length x=S++[x])/\O0 (S++[s]) (L6 .i64 (x8 (S++[s])) 1)=some s:=by
 have e:L6 .i64 (x8 (S++[s])) 1=(S.length:Int):=by rw[dW (by unfold fE x8;simp;omega)];unfold x8;simp
 have g:(S++[s])[S.length]? =some s:=by rw[G6 (A7 _),bf];rfl
 refine⟨e,by rw[e];unfold bH;rw[E9],by rw[e];unfold inb x8;simp<;>omega,g,λx=>?_,by rw[e,U2];exact g⟩;unfold rM;rw[lI _ _ (A7 _),bf];rfl
theorem zC(n:Nat):Fv n n=true:=by unfold Fv;exact Nat.beq_refl n
abbrev rdS(E:List P5)(T:List V4)(S:List H8)(k:Int)(N:D8)(b:Bool):O6:=((E,T,S),k,N,b)
def nmZ:D8:=([],[],[],[],[])
section
variable {E:List P5} {T:List V4} {S:List H8} {k:Int} {N:D8} {b:Bool}
structure EnU (E:List P5):Prop where
 id:∀e∈E,tC e.1=true
 un:∀(j:Nat) e,E[j]? =some e->∀x∈E.take j,x.1≠e.1
 le:E.length<=1000
abbrev enR(E:List P5):(List P5×Unit×Unit)×Unit×(Unit×Unit×Unit×Unit×Unit)×Unit:=((E,PUnit.unit,PUnit.unit),PUnit.unit,(PUnit.unit,PUnit.unit,PUnit.unit,PUnit.unit,PUnit.unit),PUnit.unit)
end
end
section
structure EnW (E:List P5):Prop extends EnU E where
 mid:∀e∈E,∀m∈e.2,tC m=true
 mun:∀e∈E,∀(j:Nat) v,e.2[j]? =some v->∀x∈e.2.take j,x≠v
 mle:∀e∈E,e.2.length<=1000
def vaT(n:Int)(t:Int×Int)(E:List P5):List UInt8:=
 l7 (D6 t.1 1) (l7 (D6 n 0) [102,97,108,115,101] [116,114,117,101]) (l7 (D6 t.1 2) (Lib.itoa n) (l7 (D6 t.1 3) (Ai n 2) (l7 (D6 t.1 4) (Ai n 4++[37]) (l7 (D6 t.1 5) (lC n) (gtN ((O0 E t.2).getD ([],[])).2 n)))))
theorem xe{n:Int}{b:Int×Int}(h:inB n b=true):b.1<=n/\n<=b.2:=by
 unfold inB at h;cases g:U6 b.1 n<;>rw[g]at h
 .cases h
 .exact⟨iJ.1 g,iJ.1 h⟩
theorem JE{k:Int}(E:List P5)(hk:k=1\/k=2\/k=3\/k=4\/k=5):bnd (k,0) E=l7 (D6 k 1) (0,1) (l7 (D6 k 2) (-1000000000000,1000000000000) (l7 (D6 k 3) (-1000000000000000,1000000000000000) (l7 (D6 k 4) (-1000000000,1000000000) (0,109572)))):=by rcases hk with rfl|rfl|rfl|rfl|rfl<;>rfl
theorem a9O{e:P5}{E:List P5}{i:Int}(h:vty (6,i) E=true)(he:O0 E i=some e):bnd (6,i) E=(0,L6 .i64 (x8 e.2) 1):=by
 have h1:=KQ (6,i) E;have:dI (6,i) E=some (0,L6 .i64 (x8 e.2) 1):=by unfold dI;rw[nZ,h,o9];simp (disch:=decide) only[N7,F6,o6];rw[he];rfl
 rw[this]at h1;exact(bD h1).symm
section
variable {E:List P5} {t:Int×Int} {n:Int}
theorem a7O(hv:vty t E=true)(hn:inB n (bnd t E)=true){P:Int×Int->Prop}(h1:0<=n->n<=1->P (1,0))(h2:-1000000000000<=n->n<=1000000000000->P (2,0))(h3:-1000000000000000<=n->n<=1000000000000000->P (3,0))
  (h4:-1000000000<=n->n<=1000000000->P (4,0)) (h5:0<=n->n<=109572->P (5,0)) (h6:∀e i,O0 E i=some e->e∈E->0<=n->n<=L6 .i64 (x8 e.2) 1->vty (6,i) E=true->P (6,i)):P t:=by
 obtain⟨k,i⟩:=t;rcases EJ hv with h|h|h|h|h|h
 .obtain⟨rfl,rfl⟩:k=1/\i=0:=h;rw[JE E D5]at hn;exact h1 (xe hn).1 (xe hn).2
 .obtain⟨rfl,rfl⟩:k=2/\i=0:=h;rw[JE E D5]at hn;exact h2 (xe hn).1 (xe hn).2
 .obtain⟨rfl,rfl⟩:k=3/\i=0:=h;rw[JE E D5]at hn;exact h3 (xe hn).1 (xe hn).2
 .obtain⟨rfl,rfl⟩:k=4/\i=0:=h;rw[JE E D5]at hn;exact h4 (xe hn).1 (xe hn).2
 .obtain⟨rfl,rfl⟩:k=5/\i=0:=h;rw[JE E D5]at hn;exact h5 (xe hn).1 (xe hn).2
 .obtain rfl:k=6:=h;obtain⟨e,he,hm⟩:=LQ hv rfl;rw[a9O hv he]at hn;exact h6 e i he hm (xe hn).1 (xe hn).2 hv
theorem a0I(hW:EnW E)(hv:vty t E=true)(hn:inB n (bnd t E)=true)(hI:fE n):vaS n t E=vaT n t E:=by
 have key:iP (t.1,t.2,n) E=some (vaT n t E,0):=by
  have hw:iQ n (t.1,t.2) E=some true:=by unfold iQ;rw[zo,o9];obtain⟨b1,b2⟩:=xe hn;rw[aS b1,aS b2];rfl
  have f2:=jy hI;have f3:bi n 2=some (Ai n 2):=gq (k:=2) hI o5;have f4:bi n 4=some (Ai n 4):=gq (k:=4) hI o5;have l4:=Jf (k:=4) hI o5;have st:∀t:Int×Int,vty t E=true->iQ n t E=some true->iP (t.1,t.2,n) E=(l7 (D6 t.1 1) (l7 (D6 n 0) (some ([102,97,108,115,101],0)) (some ([116,114,117,101],0)))
     (l7 (D6 t.1 2) (some (Lib.itoa n,0)) (l7 (D6 t.1 3) (some (Ai n 2,0)) (l7 (D6 t.1 4) (some (Ai n 4++[37],0)) (l7 (D6 t.1 5) (some (lC n,0))
      (l9 (O0 E t.2) λ(x:P5)=>l9 (O0 x.2 n) λ(x:List UInt8)=>some (x,0))))))):=by
   intro t hv hw;unfold iP
   simp only[qh,hv,hw,o9,F6,o6,f2,f3,f4,qw];rw[J7 G5,o9]
  refine a7O (P:=λt=>vty t E=true->iQ n t E=some true->iP (t.1,t.2,n) E=some (vaT n t E,0)) hv hn ?_ ?_ ?_ ?_ ?_ ?_ hv hw
  .intro g1 g2 hv hw;rw[st _ hv hw];unfold vaT;simp only[V5 (rfl:(1:Int)=1),o7];cases D6 n 0<;>rfl
  .intro g1 g2 hv hw;rw[st _ hv hw];rfl
  .intro g1 g2 hv hw;rw[st _ hv hw];rfl
  .intro g1 g2 hv hw;rw[st _ hv hw];rfl
  .intro g1 g2 hv hw;rw[st _ hv hw];rfl
  .intro e i he hm g1 g2 hv0 hv hw;have hml:=hW.mle e hm;have g2' :n<x8 e.2:=by rw[dW (by unfold fE x8;omega)]at g2;omega
   obtain⟨x,hx,-⟩:=um g1 g2';rw[st _ hv hw];unfold vaT gtN;simp (disch:=decide) only[N7,o6];rw[he,o9,Y2,hx];rfl
 unfold vaS;rw[key];rfl
end
end
section
section
variable {E:List P5} {t:Int×Int} {n:Int}
def hiT(n:Int)(t:Int×Int)(E:List P5):List UInt8:=l7 (U6 n (bnd t E).2) (vaT n t E) [101,110,100]
structure HiOk (E:List P5) (t:Int×Int) (lo hi:Int):Prop where
 l:inB lo (bnd t E)=true
 h:hi=(bnd t E).2+1\/inB hi (bnd t E)=true
 il:fE lo
 ih:fE hi
theorem b3D{lo hi:Int}(hW:EnW E)(hv:vty t E=true)(h1:lo<hi)(h2:inB lo (bnd t E)=true)(h3:inB (L6 .i64 hi 1) (bnd t E)=true)(i1:fE lo)(i2:fE hi):HiOk E t lo hi:=by
 refine⟨h2,?_,i1,i2⟩;obtain⟨b1,b2⟩:=xe h2;have e:L6 .i64 hi 1=hi -1:=dW (by unfold fE at*;omega);rw[e]at h3;obtain⟨c1,c2⟩:=xe h3;by_cases g:hi<=(bnd t E).2
 .right;unfold inB;rw[aS o5,aS g];rfl
 .left;omega
structure RwT (E:List P5) (t:V4) (r:uC):Prop where
 d0:0<=r.1.1
 d1:r.1.1<=109572
 d2:r.1.2<=109573
 d3:0<=r.1.2
 hi:HiOk E t.2.1 r.2.1 r.2.2.1
 v:inB r.2.2.2 (bnd t.2.2.1 E)=true
 iv:fE r.2.2.2
theorem a3s{t:V4}{r:uC}(hW:EnW E)(hk:vty t.2.1 E=true)(hv:vty t.2.2.1 E=true)(h:RwT E t r):Qi t r E=[lC r.1.1,enS r.1.2,vaT r.2.1 t.2.1 E,hiT r.2.2.1 t.2.1 E,vaT r.2.2.2 t.2.2.1 E]:=by
 have e1:hiS t r E=hiT r.2.2.1 t.2.1 E:=by
  unfold hiS hiT;cases g:U6 r.2.2.1 (bnd t.2.1 E).2
  .rfl
  .rcases h.hi.h with e|e
   .have:=iJ.1 g;omega
   .exact a0I hW hk e h.hi.ih
 unfold Qi;rw[e1,a0I hW hk h.hi.l h.hi.il,a0I hW hv h.v h.iv]
end
end
section
def sIs:List UInt8:=[32,105,115,32]
def b7V:List UInt8:=[32,115,114,99,32,34]
abbrev scR(S:List H8):(Unit×Unit×List H8)×Unit×(Unit×Unit×Unit×Unit×Unit)×Unit:=((PUnit.unit,PUnit.unit,S),PUnit.unit,(PUnit.unit,PUnit.unit,PUnit.unit,PUnit.unit,PUnit.unit),PUnit.unit)
def soT(s:List UInt8):List UInt8:=l7 (seq s []) [] (b7V++(s++[34]))
def a8r(r:ak):List UInt8:=l7 (J4 0 (x8 r.2.2.2.2.2.1)) [119,104,101,110] [105,115]
def a9d(r:ak)(N:D8):List UInt8:=l7 (J4 0 (x8 r.2.2.2.2.2.1)) ((EZ r.2.2.2.2.2.1 N).1++(sIs++((EZ r.2.2.2.2.2.2.1 N).1++soT r.2.2.2.2.2.2.2))) ((EZ r.2.2.2.2.2.2.1 N).1++soT r.2.2.2.2.2.2.2)
def lnW(f:List UInt8)(ws:List (List UInt8)):List UInt8:=f++spW ws
def ltF(ls:List (List UInt8))(x_1:aG×O6×Int):Option (Out (aG×O6×Int) (aG×O6) (aG×I9)):=
     l7 (J4 x_1.2.2 (x8 ls))
      (l9 (O0 ls x_1.2.2) λ(x_2:List UInt8)=>
       l9 (eQ ls (bH x_1.2.2)) λ(x:List UInt8)=>
        l9 (pK x_1.2.1 x) λ(x:Int×O6)=>
         l7 (G7 (D6 x.1 0)) (some (Out.rt (([],[],[]),x_1.2.2,x.1)))
          (some (Out.nx (x_1.1,x.2,G9 IntKind.i64 x_1.2.2 1))))
      (some (Out.ex (x_1.1,x_1.2.1)))
end
section
def d_(e:P5):List UInt8:=lnW Nz (e.1::e.2)
def b1b(E:List P5)(t:V4)(r:uC):List UInt8:=lnW OX (Qi t r E)
def Zt(E:List P5)(t:V4):List (List UInt8):=lnW Eb [t.1,tyS t.2.1 E,tyS t.2.2.1 E]::t.2.2.2.map (b1b E t)
section
variable {l:aG} (h:FmL l)
include h
theorem a4s:EnW l.1:=by
 refine { id:=?_,un:=?_,le:=?_,mid:=?_,mun:=?_,mle:=?_ }
 .intro e he;obtain⟨j,hj⟩:=KJ he;exact(a2f h.v hj).1
 .intro j e he;exact(a2f h.v he).2.1
 .have:=h.n.ne;omega
 .intro e he m hm;obtain⟨j,hj⟩:=KJ he;obtain⟨i,hi⟩:=KJ hm;exact((a2f h.v hj).2.2.2 i m hi).1
 .intro e he i v hi;obtain⟨j,hj⟩:=KJ he;exact((a2f h.v hj).2.2.2 i v hi).2
 .intro e he;have:=(h.n.e e he).1;omega
theorem c0c{t:V4}(ht:t∈l.2.1){r:uC}(hr:r∈t.2.2.2):RwT l.1 t r:=by
 obtain⟨j,hj⟩:=KJ ht;have hV:=(EI h.v).2 j t hj;have hR:=hV.rows r hr;obtain⟨i1,i2,i3⟩:=WW h ht hr;have hd:=hR.dv;unfold EQ at hd;cases g1:U6 0 r.1.1<;>rw[g1]at hd
 .cases hd
 cases g2:U6 r.1.1 r.1.2<;>rw[g2]at hd
 .cases hd
 have g3:=iJ.1 hd;have g1:=iJ.1 g1;have g2:=iJ.1 g2;have hn:=hR.dn;refine⟨g1,?_,g3,Int.le_trans g1 g2,b3D (a4s h) hV.vk hR.lh hR.lo hR.hi i1 i2,hR.n,i3⟩;have:r.1.1<r.1.2:=by
  rcases Int.lt_or_le r.1.1 r.1.2 with h|h
  .exact h
  .exact absurd (vO g2 h) hn
 exact Int.le_of_lt_add_one (Int.lt_of_lt_of_le this g3)
end
end
section
def TL(l:aG)(s:H8)(r:ak):List UInt8:=lnW DK (ruW s r (nmS l s))
def LY(l:aG)(s:H8):List (List UInt8):=l7 (U6 0 s.2.1) [lnW wF [meN l s]] []
def a2C(w:List UInt8)(l:aG)(f:dK):List UInt8:=lnW w [f.1,tyS f.2 l.1]
def rW(l:aG)(s:H8):List (List UInt8):=lnW CZ [s.1]::(LY l s++(s.2.2.1.map (a2C xR l)++(s.2.2.2.1.map (a2C Le l)++s.2.2.2.2.map (TL l s))))
theorem Js:spW []=[]:=rfl
def ruP(s:H8)(r:ak):List (List UInt8):=[r.1,[111,102],dnS s r]++(ovS s r++(prS r++[[102,114,111,109],lC r.2.2.2.2.1.1,[116,111],enS r.2.2.2.2.1.2,a8r r]))
theorem a6h(s:H8)(r:ak)(N:D8):spW (ruW s r N)=spW (ruP s r)++32::a9d r N:=by unfold ruW ruP daS guS isS soS a8r a9d soT sIs b7V;generalize ovS s r=ov;generalize prS r=pr;cases J4 0 (x8 r.2.2.2.2.2.1)<;>cases seq r.2.2.2.2.2.2.2 []<;>simp only[o7,o6,FX,uN,Js,E5,J9,H9,F7]
structure LenL (l:aG):Prop where
 e:l.1.length<=1000000/\∀e∈l.1,e.2.length<=1000000
 t:l.2.1.length<=1000000/\∀t∈l.2.1,t.2.2.2.length<=1000000
 s:l.2.2.length<=1000000/\∀s∈l.2.2,s.2.2.1.length<=1000000/\s.2.2.2.1.length<=1000000/\s.2.2.2.2.length<=1000000/\∀r∈s.2.2.2.2,r.2.2.2.2.2.1.length<=1000000/\r.2.2.2.2.2.2.1.length<=1000000
theorem UX{α β ρ:Type}(b:β):∀l:List α,LJ (λ(b:β) (_:α)=>(.inl b:β⊕ρ)) l b= .inl b
 |[]=>rfl|_::l=>UX b l
theorem yh{α:Type}{a:List α}(hl:a.length<=1000000){f:Int->Option (Out Int PUnit Bool)}
  (hin:∀(i:Nat) x,a[i]? =some x->f (i:Int)=some (.nx (G9 .i64 (i:Int) 1))) (hend:f (a.length:Int)=some (.ex PUnit.unit)):
  (l7 (G7 (D6 (x8 a) (x8 a))) (some false) (l9 (S9 f 0) λo=>aj o (λ_=>some true) λr=>some r))=some true:=by
 rw[V5 rfl,F6,o6];refine w_ a (λ(b:Unit) _=>(.inl b:Unit⊕Bool)) (λ_ i=>i) (λ_=>PUnit.unit) (λ_ _=>True) () hl trivial (λi x _ hx hi _=>⟨?_,λ_ _=>trivial⟩) (λ_ _=>hend) (λ_=>?_)
 .rw[hin i x hx,dC o5]
 .rw[UX];rfl
theorem EF(a:List UInt8):seq a a=true:=dU.2 rfl
theorem Ej(a:Int):D6 a a=true:=V5 rfl
theorem Lr:kZ true true=true:=rfl
theorem Nk{a:List (List UInt8)}(h:a.length<=1000000):Bo a a=some true:=by unfold Bo;refine yh h (λi x hx=>?_) (by simp only[Y6,o6]);simp only[X9 hx,o7,U2,hx,o9,EF,F6,o6]
theorem Gy{a:List I9}(h:a.length<=1000000):CW a a=some true:=by unfold CW;refine yh h (λi x hx=>?_) (by simp only[Y6,o6]);simp only[X9 hx,o7,U2,hx,o9,Ej,Lr,F6,o6]
theorem TQ{a:List uC}(h:a.length<=1000000):Jp a a=some true:=by unfold Jp;refine yh h (λi x hx=>?_) (by simp only[Y6,o6]);simp only[X9 hx,o7,U2,hx,o9,Ej,Lr,F6,o6]
theorem ED{a:List dK}(h:a.length<=1000000):Au a a=some true:=by unfold Au;refine yh h (λi x hx=>?_) (by simp only[Y6,o6]);simp only[X9 hx,o7,U2,hx,o9,Ej,EF,Lr,F6,o6]
theorem Qk{a:List P5}(h:a.length<=1000000)(h2:∀e∈a,e.2.length<=1000000):FO a a=some true:=by
 unfold FO;refine yh h (λi x hx=>?_) (by simp only[Y6,o6]);have e:Jo x x=some true:=by unfold Jo;rw[EF,o7,Nk (h2 x (wJ hx)),o9]
 simp only[X9 hx,o7,U2,hx,o9,e,F6,o6]
theorem OG{a:List V4}(h:a.length<=1000000)(h2:∀t∈a,t.2.2.2.length<=1000000):DD a a=some true:=by
 unfold DD;refine yh h (λi x hx=>?_) (by simp only[Y6,o6]);have e:FU x x=some true:=by unfold FU;simp only[EF,Ej,Lr,o7];rw[TQ (h2 x (wJ hx)),o9]
 simp only[X9 hx,o7,U2,hx,o9,e,F6,o6]
theorem Ql{a:List ak}(h:a.length<=1000000)(h2:∀r∈a,r.2.2.2.2.2.1.length<=1000000/\r.2.2.2.2.2.2.1.length<=1000000):FP a a=some true:=by
 unfold FP;refine yh h (λi x hx=>?_) (by simp only[Y6,o6]);have e:Jq x x=some true:=by obtain⟨g1,g2⟩:=h2 x (wJ hx);unfold Jq;simp only[EF,Ej,Lr,o7];rw[Gy g1,o9,o7,Gy g2,o9]
 simp only[X9 hx,o7,U2,hx,o9,e,F6,o6]
theorem UE{l:aG}(h:LenL l):EE l l=some true:=by
 unfold EE;rw[Qk h.e.1 h.e.2,o9,o7,OG h.t.1 h.t.2,o9,o7];have e:DC l.2.2 l.2.2=some true:=by
  unfold DC;refine yh h.s.1 (λi x hx=>?_) (by simp only[Y6,o6]);have e:FT x x=some true:=by obtain⟨g1,g2,g3,g4⟩:=h.s.2 x (wJ hx);unfold FT;simp only[EF,Ej,o7];rw[ED g1,o9,o7,ED g2,o9,o7,Ql g3 g4,o9]
  simp only[X9 hx,o7,U2,hx,o9,e,F6,o6]
 rw[e,o9]
section
variable {l:aG} (h:FmL l)
include h
omit h in
def liL(l:aG):List (List UInt8):=l.1.map d_++(l.2.1.flatMap (Zt l.1)++l.2.2.flatMap (rW l))
end
theorem a2P(w:List UInt8):mV [w]=w++[10]:=rfl
theorem BF{α:Type}(g:α->List UInt8)(f:α->List UInt8)(h:∀a,f a=g a++[10]):∀L:List α,mV (L.map g)=L.flatMap f
 |[]=>rfl|a::L=>by rw[dL,ae,h,←BF g f h L];simp[mV]
theorem KE{α:Type}(g:α->List (List UInt8))(f:α->List UInt8)(h:∀a,f a=mV (g a)):∀L:List α,mV (L.flatMap g)=L.flatMap f
 |[]=>rfl|a::L=>by rw[ae,ae,qP,h,KE g f h L]
theorem a7L(l:aG):txL l=mV (liL l):=by
 unfold txL liL;rw[qP,qP,BF d_ enT (λe=>rfl),KE (Zt l.1) (tbT l) (λt=>?_),KE (rW l) (scT l) (λs=>?_),F7]
 .unfold scT rW;rw[show ∀(a:List UInt8) (b:List (List UInt8)),a::b=[a]++b from λa b=>rfl,qP,qP,qP,qP,BF (a2C xR l) (fdT xR l) (λr=>rfl),BF (a2C Le l) (fdT Le l) (λr=>rfl),BF (TL l s) (ruT l s) (λr=>rfl)];have:mV (LY l s)=meT l s:=by
   unfold LY meT;cases U6 0 s.2.1<;>rfl
  rw[this,a2P,show lnW CZ [s.1]++[10]=scH s from rfl];simp only[F7]
 .unfold tbT Zt;rw[show ∀(a:List UInt8) (b:List (List UInt8)),a::b=[a]++b from λa b=>rfl,qP,BF (b1b l.1 t) (roT l t) (λr=>rfl)];rfl
def Xx(p:Nat):Nat->List UInt8->Nat->Nat->Prop
 |_,[],v,u=>u=v|i,c::g,v,u=>(i=p->c=46/\Xx p (i+1) g v u)/\(i≠p->zh c=true/\Xx p (i+1) g (10*v+(c.toNat -48)) u)
theorem Qy{s:List UInt8}{p:Int} :∀(m:Nat) (v i:Int) (e:Int×Bool),iT (npF p) m (v,true,s,i)=some (.inl e)->e.2=true
 |0,v,i,e,h=>by cases h|m+1,v,i,e,h=>by
  rw[jv]at h;unfold npF at h;cases g1:J4 i (x8 s)<;>simp only[g1,o6,o7]at h
  .cases h;rfl
  cases g2:D6 i p<;>simp only[g2,o6,o7]at h
  .cases g3:mf (ng s i)with
   |none=>rw[g3]at h;cases h|some b=>
    rw[g3,o9]at h;cases b<;>simp only[F6,I7,o6,o7]at h
    .cases h
    .exact Qy m _ _ e h
  .cases g3:D6 (ng s i) 46<;>simp only[g3,F6,I7,o6,o7]at h
   .cases h
   .exact Qy m _ _ e h
theorem E_{s:List UInt8}(hA:Asc s){p:Nat} :∀(g pre:List UInt8) (v m:Nat) (v' :Int),s=pre++g->v<=4611686018427387904->iT (npF (p:Int)) m ((v:Int),false,s,(pre.length:Int))=some (.inl (v',false))->∃u:Nat,v' =(u:Int)/\u<=4611686018427387904/\Xx p pre.length g v u
 |g,pre,v,0,v',h,hv,hr=>by cases hr|[],pre,v,m+1,v',h,hv,hr=>by rw[E5]at h;subst h;rw[jv]at hr;unfold npF at hr;simp only[Y6 s,o6]at hr;cases hr;exact⟨v,rfl,hv,rfl⟩|c::g,pre,v,m+1,v',h,hv,hr=>by
  have hc:s[pre.length]? =some c:=by rw[h,G6 (A7 _),bf];rfl
  obtain⟨r1,r2⟩:=OD hc (hA c (wJ hc));rw[jv]at hr;unfold npF at hr;simp only[X9 hc,o7,r1,r2]at hr;have hn:s=(pre++[c])++g:=by rw[h];simp
  have hl:(pre++[c]).length=pre.length+1:=D5;by_cases hp:pre.length=p
  .rw[V5 o5,o7]at hr;cases g3:D6 (c.toNat:Int) 46<;>simp only[g3,F6,I7,o6,o7]at hr
   .cases hr
   have hc46:c=46:=by
    have:=X8.1 g3;have h2:c.toNat=(46:UInt8).toNat:=by show c.toNat=46;omega
    exact UInt8.toNat_inj.1 h2
   rw[←hl]at hr;obtain⟨u,a1,a2,a3⟩:=E_ hA g (pre++[c]) v m v' hn hv hr;rw[hl]at a3;exact⟨u,a1,a2,λ_=>⟨hc46,a3⟩,λhne=>absurd hp hne⟩
  .rw[N7 o5,o6]at hr;cases g3:mf (c.toNat:Int)with
   |none=>rw[g3]at hr;cases hr|some b=>
    rw[g3,o9]at hr;have hdb:b=zh c:=by have:=Ee c;rw[show fG (c.toNat:Int)=mf (c.toNat:Int)from rfl,g3]at this;exact bD this
    cases hb:b<;>rw[hb]at hr hdb<;>simp only[F6,I7,o6,o7]at hr
    .cases hr
    cases g4:J4 461168601842738790 (v:Int)<;>simp only[g4,o6,o7]at hr
    .have hbd:=VW hdb.symm;have hw:wrap .i64 (L6 .i32 (c.toNat:Int) 48)=((c.toNat -48:Nat):Int):=by
      have h1:L6 .i32 (c.toNat:Int) 48=((c.toNat -48:Nat):Int):=by unfold L6 IntKind.wrap;simp[IntKind.signed,IntKind.bits];omega
      rw[h1];exact zg dm
     have hv2:=lg.1 g4;have e1:G9 .i64 (KD .i64 (v:Int) 10) ((c.toNat -48:Nat):Int)=((10*v+(c.toNat -48):Nat):Int):=by rw[RX dm,eU dm];omega
     rw[hw,e1]at hr;cases g5:J4 4611686018427387904 ((10*v+(c.toNat -48):Nat):Int)<;>rw[g5]at hr
     .rw[←hl]at hr;obtain⟨u,a1,a2,a3⟩:=E_ hA g (pre++[c]) (10*v+(c.toNat -48)) m v' hn (by have:=lg.1 g5;omega) hr;rw[hl]at a3;exact⟨u,a1,a2,λhe=>absurd he hp,λ_=>⟨hdb.symm,a3⟩⟩
     .exact absurd (show false=true from Qy m _ _ _ hr) H7
    .exact absurd (show false=true from Qy m _ _ _ hr) H7
theorem WA{p:Nat} :∀(g:List UInt8) (i v u:Nat),(p<i\/i+g.length<=p)->Xx p i g v u->Dg g/\u=uP v g
 |[],i,v,u,hp,h=>⟨(λc hc=>by cases hc),h⟩|c::g,i,v,u,hp,h=>by simp only[D9]at hp;obtain⟨h1,h2⟩:=h.2 o5;obtain⟨a1,a2⟩:=WA g (i+1) _ u o5 h2;exact⟨λd hd=>(C9.1 hd).elim (λe=>e▸h1) (a1 d),a2⟩
theorem a5b{p:Nat} :∀(g:List UInt8) (i v u:Nat),i<=p->p<i+g.length->Xx p i g v u->∃d f,g=d++46::f/\i+d.length=p/\Dg d/\Dg f/\u=uP v (d++f)
 |[],i,v,u,h1,h2,h=>by simp at h2;omega|c::g,i,v,u,h1,h2,h=>by
  simp only[D9]at h2;by_cases hp:i=p
  .obtain⟨rfl,hn⟩:=h.1 hp;obtain⟨a1,a2⟩:=WA g (i+1) v u (.inl o5) hn;exact⟨[],g,rfl,(by simp;exact hp),(λc hc=>by cases hc),a1,a2⟩
  .obtain⟨hc,hn⟩:=h.2 hp;obtain⟨d,f,e1,e2,e3,e4,e5⟩:=a5b g (i+1) _ u o5 o5 hn;exact⟨c::d,f,by rw[e1];rfl,by simp only[D9];omega,λx hx=>(C9.1 hx).elim (λe=>e▸hc) (e3 x),e4,e5⟩
theorem Lu:∀(n:Nat) (d:List UInt8),d.length=n+1->Dg d->NoZ d->Lib.decDigits (uP 0 d)=d
 |0,d,hl,hd,hz=>by
  obtain⟨c,rfl⟩:=List.length_eq_one_iff.1 hl;have hb:=VW (hd c D5);have e:uP 0 [c]=c.toNat -48:=by unfold uP;simp
  rw[e,Lib.decDigits,dif_pos o5];congr 1;exact UInt8.toNat_inj.1 G5
 |n+1,d,hl,hd,hz=>by
  obtain⟨d',c,rfl⟩:∃d' c,d=d' ++[c]:=by refine⟨d.dropLast,d.getLast (by intro e;rw[e]at hl;simp at hl),(iY _).symm⟩
  have hl' :d'.length=n+1:=by simp at hl;omega
  have hb:=VW (hd c D5);have hz' :NoZ d' :=by intro h1 a t e;exact hz G5 a (t++[c]) (by rw[e];rfl)
  have ih:=Lu n d' hl' (λx hx=>hd x (by simp[hx])) hz';have hpos:1<=uP 0 d' :=by
   cases d' with
   |nil=>simp at hl'
   |cons a t=>have ha:=hz D5 a (t++[c]) rfl;have hba:=VW (hd a D5);have h48:a.toNat≠48:=λe=>ha (UInt8.toNat_inj.1 e);have:=a2g t (10*0+(a.toNat -48));show 1<=uP (10*0+(a.toNat -48)) t;omega
  have e:uP 0 (d' ++[c])=10*uP 0 d' +(c.toNat -48):=by rw[a7P];rfl
  rw[e,Lib.decDigits,dif_neg o5];rw[show(10*uP 0 d' +(c.toNat -48)) / 10=uP 0 d' by omega,ih];congr 2;exact UInt8.toNat_inj.1 G5
theorem He:∀(a:List UInt8),a≠[]->Dg a->(Lib.decDigits (uP 0 a)).length<=a.length/\List.replicate (a.length -(Lib.decDigits (uP 0 a)).length) 48++Lib.decDigits (uP 0 a)=a
 |[],h,_=>absurd rfl h|[c],_,hd=>by have:=Lu 0 [c] rfl hd (λh=>by simp at h);rw[this];simp|c::b::t,_,hd=>by
  by_cases hc:c=48
  .subst hc;obtain⟨a1,a2⟩:=He (b::t) D5 (λx hx=>hd x (by simp at hx ⊢;right;exact hx));have e:uP 0 (48::b::t)=uP 0 (b::t):=rfl;rw[e];refine⟨by simp only[D9]at a1 ⊢;omega,?_⟩;rw[show(48::b::t).length -(Lib.decDigits (uP 0 (b::t))).length=((b::t).length -(Lib.decDigits (uP 0 (b::t))).length)+1 by simp only[D9]at a1 ⊢;omega,nO,J9,a2]
  .have:=Lu (t.length+1) (c::b::t) D5 hd (λ_ x y e=>by cases e;exact hc);rw[this];simp
theorem a4b{a b:List UInt8}(ha:Dg a)(hb:Dg b):Dg (a++b):=λc hc=>(F9.1 hc).elim (ha c) (hb c)
theorem a2D{d f:List UInt8}(hd:Dg d)(hf:Dg f)(h1:d≠[])(hz:NoZ d):Hq (uP 0 (d++f)) f.length=d++46::f:=by
 have hlen:1<=d.length:=by cases d with|nil=>exact absurd rfl h1|cons a b=>simp
 have key:List.replicate (f.length+1 -(Lib.decDigits (uP 0 (d++f))).length) 48++Lib.decDigits (uP 0 (d++f))=d++f:=by
  by_cases h2:1<d.length
  .have hz2:NoZ (d++f):=by
    intro _ c t e;cases d with
    |nil=>exact absurd rfl h1|cons a b=>rw[J9,G8]at e;rw[←e.1];exact hz h2 a b rfl
   have:=Lu ((d++f).length -1) (d++f) G5 (a4b hd hf) hz2;rw[this];rw[show f.length+1 -(d++f).length=0 by simp;omega];rfl
  .have hl:(d++f).length=f.length+1:=by simp;omega
   have:=(He (d++f) (by simp[h1]) (a4b hd hf)).2;rw[hl]at this;exact this
 unfold Hq;simp only;rw[key];rw[show(d++f).length -f.length=d.length by simp,gY,gW]
theorem a8E{d r:List UInt8}(h:d≠[]){o:PUnit⊕(Int×Int)} (hq:(l7 (J4 1 (d.length:Int)) (l9 (sat (d++r) 0) λ(x:Int)=>l7 (D6 x 48) (some (Sum.inr (0,2))) (some (Sum.inl PUnit.unit))) (some (Sum.inl PUnit.unit)))=some o):(o= .inl PUnit.unit/\NoZ d)\/o= .inr (0,2):=by
 cases d with
 |nil=>exact absurd rfl h|cons c t=>
  by_cases h1:1<(c::t).length
  .rw[bu o5,o7,show sat (c::t++r) 0=some (c.toNat:Int)from rfl,o9]at hq;rw[show D6 (c.toNat:Int) 48=decide (c=48)from b3g c 48 o5]at hq;by_cases hc:c=48
   .rw[decide_eq_true hc,o7]at hq;cases hq;exact .inr rfl
   .rw[decide_eq_false hc,o6]at hq;cases hq;exact .inl ⟨rfl,λ_ x y e=>by cases e;exact hc⟩
  .rw[X3 o5,o6]at hq;cases hq;exact .inl ⟨rfl,λh=>absurd h h1⟩
structure NumS (s:List UInt8) (k:Nat) (n:Int):Prop where
 ex:∃d f,Dg d/\Dg f/\d≠[]/\NoZ d/\f.length=k/\uP 0 (d++f)<=4611686018427387904/\((s=(if k=0 then d else d++46::f)/\n=(uP 0 (d++f):Int))\/(s=45::(if k=0 then d else d++46::f)/\n=-(uP 0 (d++f):Int)/\1<=uP 0 (d++f)))
variable {n:Int}{s:List UInt8}
theorem Yw{k:Nat}(hA:Asc s)(hk:k<=9)(hl:s.length<=100000)(h:nY s (k:Int)=some (n,0)):NumS s k n:=by
 unfold nY at h;obtain⟨⟨t,b⟩,e1,h⟩:=je h;have ht:(b=true/\s=45::t)\/(b=false/\s=t):=by
  obtain⟨t',b',q1,q2,q3,q4⟩:=XL s [45] o5;rw[q1]at e1;cases e1;cases b with
  |true=>exact .inl ⟨rfl,q3 rfl⟩|false=>exact .inr ⟨rfl,(q4 rfl).symm⟩
 have hAt:Asc t:=by
  rcases ht with⟨-,e⟩|⟨-,e⟩
  .intro c hc;exact hA c (by rw[e];simp[hc])
  .rw[←e];exact hA
 have htl:t.length<=100000:=by rcases ht with⟨-,e⟩|⟨-,e⟩<;>rw[e]at hl<;>(try simp only[D9]at hl)<;>omega
 obtain⟨wh,e2,h⟩:=je h;have hwh:wh=(t.length:Int) -(if k=0 then 0 else(k:Int)+1):=by
  by_cases h0:k=0
  .subst h0;rw[show J4 0 ((0:Nat):Int)=false from rfl,o6]at e2;cases e2;simp[x8]
  .rw[bu o5,o7,eU dm,dW (by unfold fE x8;simp only;omega)]at e2;cases e2;simp[x8,h0]
 cases g1:J4 wh 1<;>simp only[g1,o7,o6]at h
 case true=>rw[o9,cO]at h;cases h
 have hw1:=lg.1 g1;obtain⟨w,rfl⟩:∃w:Nat,wh=(w:Int):=⟨wh.toNat,(gz o5).symm⟩;have hwl:w<=t.length/\1<=w:=by
  constructor
  .by_cases h0:k=0
   .rw[if_pos h0]at hwh;omega
   .rw[if_neg h0]at hwh;omega
  .omega
 have hsplit:t=t.take w++t.drop w:=(X6 w t).symm;have htk:(t.take w).length=w:=by rw[aX];omega
 have hne:t.take w≠[]:=by intro e;rw[e]at htk;simp at htk;omega
 obtain⟨o,e3,h⟩:=je h;have hno:=a8E (d:=t.take w) (r:=t.drop w) hne (o:=o) (by rw[htk,←hsplit];exact e3);rcases hno with⟨rfl,hz⟩|rfl
 case inr=>rw[cO]at h;cases h
 rw[W9]at h;obtain⟨o2,e4,h⟩:=je h;cases o2 with
 |inr r=>
  rw[cO]at h;cases h;rcases a4Z t (w:Int) o5 with⟨v,b2,q,-⟩|⟨r,q,q2⟩
  .rw[show S9 (npF (w:Int)) (0,false,t,0)=some (.inr (n,0))from e4]at q;cases q
  .rw[show S9 (npF (w:Int)) (0,false,t,0)=some (.inr (n,0))from e4]at q;cases q;cases q2
 |inl y=>
  rw[W9]at h;obtain⟨v,ov⟩:=y;simp only at h;have hov:ov=false:=by
   cases ov with
   |false=>rfl|true=>
    exfalso;cases b<;>simp only[o7,o6]at h
    .cases h
    .cases g:D6 v 0<;>simp only[g,o7,o6,F6]at h<;>cases h
  subst hov;have e4:S9 (npF (w:Int)) (0,false,t,0)=some (.inl (v,false)):=e4;unfold S9 at e4;obtain⟨u,hu,hub,hn⟩:=E_ hAt (p:=w) t [] 0 fQ v rfl o5 e4;have hdf:∃d f,Dg d/\Dg f/\d≠[]/\NoZ d/\f.length=k/\u=uP 0 (d++f)/\t=(if k=0 then d else d++46::f):=by
   by_cases h0:k=0
   .rw[if_pos h0]at hwh;have hw:w=t.length:=o5;obtain⟨a1,a2⟩:=WA t 0 0 u (.inr o5) hn;refine⟨t,[],a1,(λc hc=>by cases hc),by rw[hw,bT]at hne;exact hne,by rw[hw,bT]at hz;exact hz,by rw[h0];rfl,by rw[E5];exact a2,by rw[if_pos h0]⟩
   .rw[if_neg h0]at hwh;obtain⟨d,f,a1,a2,a3,a4,a5⟩:=a5b t 0 0 u o5 o5 hn;have hd:d.length=w:=o5;have htd:t.take w=d:=by rw[a1,←hd,gY]
    rw[htd]at hne hz;refine⟨d,f,a3,a4,hne,hz,?_,a5,by rw[if_neg h0];exact a1⟩;have:=congrArg List.length a1;simp only[E8,D9]at this;omega
  obtain⟨d,f,q1,q2,q3,q4,q5,q6,q7⟩:=hdf;refine⟨d,f,q1,q2,q3,q4,q5,by rw[←q6];exact hub,?_⟩;rw[←q6];rw[←q7];rcases ht with⟨rfl,e⟩|⟨rfl,e⟩
  .right;simp only[o7,o6,I7]at h;cases g:D6 v 0<;>simp only[g,o7,o6]at h
   .cases h;have:=iV.1 g;refine⟨e,?_,o5⟩;rw[dW dm,hu];omega
   .cases h
  .left;simp only[o6]at h;cases h;exact⟨e,hu⟩
theorem a5u(hA:Asc s)(hl:s.length<=100000)(h:jI s=some (n,0)):Lib.itoa n=s/\fE n:=by
 have h:nY s ((0:Nat):Int)=some (n,0):=by unfold jI at h;obtain⟨x,e,h⟩:=je h;cases h;exact e
 obtain⟨d,f,q1,q2,q3,q4,q5,q6,q7⟩:=(Yw hA o5 hl h).ex;have hf:f=[]:=Z7.1 q5;subst hf;rw[E5]at q6 q7;have hdl:d.length=(d.length -1)+1:=by cases d with|nil=>exact absurd rfl q3|cons a b=>simp
 have hdv:=Lu (d.length -1) d hdl q1 q4;simp only[if_true]at q7;rcases q7 with⟨rfl,e⟩|⟨rfl,e,h1⟩
 .refine⟨?_,by unfold fE;omega⟩;unfold Lib.itoa;rw[if_neg o5,e,E9,hdv]
 .refine⟨?_,by unfold fE;omega⟩;unfold Lib.itoa;rw[if_pos o5,show n.natAbs=uP 0 d by omega,hdv]
theorem a5s{k:Nat}(hk:1<=k/\k<=9)(hA:Asc s)(hl:s.length<=100000)(h:dM s (k:Int)=some (n,0)):Ai n k=s/\fE n:=by
 have hc:fH (k:Int)=some (k:Int):=by unfold fH zi zk;congr 1;omega
 have h:nY s (k:Int)=some (n,0):=by unfold dM at h;rw[hc,o9]at h;obtain⟨x,e,h⟩:=je h;cases h;exact e
 obtain⟨d,f,q1,q2,q3,q4,q5,q6,q7⟩:=(Yw hA o5 hl h).ex;have hfx:=a2D q1 q2 q3 q4;rw[q5]at hfx;rw[if_neg o5]at q7;rcases q7 with⟨rfl,e⟩|⟨rfl,e,h1⟩
 .refine⟨?_,by unfold fE;omega⟩;unfold Ai;rw[if_neg o5,show n.natAbs=uP 0 (d++f) by omega,hfx]
 .refine⟨?_,by unfold fE;omega⟩;unfold Ai;rw[if_pos o5,show n.natAbs=uP 0 (d++f) by omega,hfx]
theorem b0x(a:Int):∀k:Nat,ys a<=ys (a+(k:Int))
 |0=>by simp|k+1=>by have h:=b0x a k;have h2:=DL (a+(k:Int));have h3:=NQ (a+(k:Int));rw[show a+((k+1:Nat):Int)=a+(k:Int)+1 by omega];omega
theorem a2j{a b:Int}(h:a<=b):ys a<=ys b:=by
 have:=b0x a (b -a).toNat
 rw[show a+(((b -a).toNat:Nat):Int)=b by omega]at this;exact this
theorem Qx(y:Int)(i:Nat):∀k:Nat,xq y i<=xq y (i+k)
 |0=>by simp|k+1=>by have h:=Qx y i k;have h3:=EP y (((i+k:Nat):Int)+1);show xq y i<=xq y (i+k)+dim y (((i+k:Nat):Int)+1);omega
theorem a8z(y:Int):xq y 12=diy y:=by unfold diy;cases h:il y<;>simp[xq,dim,h]
theorem a7S{y m d:Int}(hy:1900<=y/\y<=2199)(hm:1<=m/\m<=12)(h1:1<=d)(h2:d<=dim y m):0<=Hf y m d/\Hf y m d<=109572/\ymd (Hf y m d)=(y,m,d):=by
 have e0:ys 1900=0:=by decide+kernel
 have e9:ys 2200=109573:=by decide+kernel
 have a0:=a2j hy.1;have a9:=a2j (show y+1<=2200 by omega);have asu:=DL y;have hmi:(((m -1).toNat+1:Nat):Int)=m:=o5;have hs1:xq y ((m -1).toNat+1)=xq y (m -1).toNat+dim y m:=by show xq y (m -1).toNat+dim y (((m -1).toNat:Int)+1)=_;rw[show(((m -1).toNat:Nat):Int)+1=m by omega]
 have hs2:=Qx y ((m -1).toNat+1) (12 -((m -1).toNat+1));rw[show(m -1).toNat+1+(12 -((m -1).toNat+1))=12 by omega,a8z]at hs2;have hs0:=(LZ y (m -1).toNat o5).1;have hn:Hf y m d=ys y+(xq y (m -1).toNat+d -1):=by unfold Hf;omega
 have b0:0<=Hf y m d:=o5;have b9:Hf y m d<=109572:=o5;refine⟨b0,b9,?_⟩;obtain⟨y1,y2,y3,y4⟩:=ND b0 b9;have hyo:yOf (Hf y m d)=y:=by
  rcases Int.lt_trichotomy (yOf (Hf y m d)) y with h|h|h
  .have:=a2j (show yOf (Hf y m d)+1<=y by omega);omega
  .exact h
  .have:=a2j (show y+1<=yOf (Hf y m d) by omega);omega
 have hr:Hf y m d -ys y<rem y 12:=by rw[a1L];omega
 have q1:=a9Y y 12 (Hf y m d -ys y) o5 o5 hr;obtain⟨q2,q3,q4,q5⟩:=a1A y 12 (Hf y m d -ys y) o5 o5 hr;rw[show xq y (12 -12)=0 from rfl]at q1;unfold ymd;simp only;rw[hyo];generalize mo y 12 (Hf y m d -ys y)=r at q1 q2 q3 q4 q5;obtain⟨rq,rm⟩:=r;simp only at q1 q2 q3 q4 q5;have ht1:xq y ((rm -1).toNat+1)=xq y (rm -1).toNat+dim y rm:=by show xq y (rm -1).toNat+dim y (((rm -1).toNat:Int)+1)=_;rw[show(((rm -1).toNat:Nat):Int)+1=rm by omega]
 have hm2:rm=m:=by
  rcases Int.lt_trichotomy rm m with h|h|h
  .have:=Qx y ((rm -1).toNat+1) ((m -1).toNat -((rm -1).toNat+1));rw[show(rm -1).toNat+1+((m -1).toNat -((rm -1).toNat+1))=(m -1).toNat by omega]at this;omega
  .exact h
  .have:=Qx y ((m -1).toNat+1) ((rm -1).toNat -((m -1).toNat+1));rw[show(m -1).toNat+1+((rm -1).toNat -((m -1).toNat+1))=(rm -1).toNat by omega]at this;omega
 subst hm2;have:rq+1=d:=o5;rw[this]
theorem XY{y m d n:Int}(h:jb y m d=some (n,0)):(1900<=y/\y<=2199)/\(1<=m/\m<=12)/\1<=d/\d<=dim y m/\n=Hf y m d:=by
 have no:∀{v:Option (Int×Int)},v=some (0,3)->v=some (n,0)->False:=λe1 e2=>by rw[e1]at e2;cases e2
 by_cases hy:1900<=y/\y<=2199
 .by_cases hm:1<=m/\m<=12
  .by_cases h1:1<=d
   .by_cases h2:d<=dim y m
    .rw[RN hy hm h1 h2]at h;cases h;exact⟨hy,hm,h1,h2,rfl⟩
    .exact(no (by unfold jb;rw[X3 hy.1,o6,X3 hy.2,o6,X3 hm.1,o6,X3 hm.2,o6,X3 h1,o6,pI o5 hm,o9,bu o5];rfl) h).elim
   .exact(no (by unfold jb;rw[X3 hy.1,o6,X3 hy.2,o6,X3 hm.1,o6,X3 hm.2,o6,bu o5];rfl) h).elim
  .refine(no ?_ h).elim;unfold jb;rw[X3 hy.1,o6,X3 hy.2,o6];by_cases h3:m<1
   .rw[bu h3];rfl
   .rw[X3 o5,o6,bu o5];rfl
 .refine(no ?_ h).elim;unfold jb;by_cases h3:y<1900
  .rw[bu h3];rfl
  .rw[X3 o5,o6,bu o5];rfl
theorem a3Z{s:List UInt8}(hA:Asc s):∀(g pre:List UInt8) (v m:Nat) (v' :Int),s=pre++g->(v+1)*10^g.length<=10000000000000->iT ddF m ((v:Int),s,(pre.length:Int))=some (.inl v')->Dg g/\v' =(uP v g:Int)
 |g,pre,v,0,v',h,hv,hr=>by cases hr|[],pre,v,m+1,v',h,hv,hr=>by rw[E5]at h;subst h;rw[jv]at hr;unfold ddF at hr;simp only[Y6 s,o6]at hr;cases hr;exact⟨(λc hc=>by cases hc),rfl⟩|c::g,pre,v,m+1,v',h,hv,hr=>by
  have hc:s[pre.length]? =some c:=by rw[h,G6 (A7 _),bf];rfl
  obtain⟨r1,r2⟩:=OD hc (hA c (wJ hc));rw[jv]at hr;unfold ddF at hr;simp only[X9 hc,o7,r1,r2]at hr;cases g1:J4 (c.toNat:Int) 48<;>simp only[g1,o7,o6]at hr
  case true=>cases hr
  cases g2:J4 57 (c.toNat:Int)<;>simp only[g2,o7,o6]at hr
  case true=>cases hr
  have b1:=lg.1 g1;have b2:=lg.1 g2;have hd9:c.toNat -48<=9:=o5;have hp:1<=10^g.length:=Nat.pos_of_ne_zero D5;simp only[D9]at hv;have hstep:(10*v+(c.toNat -48)+1)*10^g.length<=10000000000000:=by
   have e1:(v+1)*10^(g.length+1)=(v+1)*10*10^g.length:=by rw[Nat.pow_succ,Nat.mul_comm (10^g.length) 10,Nat.mul_assoc]
   rw[e1]at hv;exact P8 (F5 _ o5) hv
  have hv10:10*v+(c.toNat -48)+1<=10000000000000:=by have:=Nat.mul_le_mul_left (10*v+(c.toNat -48)+1) hp;omega
  have hw:wrap .i64 (L6 .i32 (c.toNat:Int) 48)=((c.toNat -48:Nat):Int):=by
   have h1:L6 .i32 (c.toNat:Int) 48=((c.toNat -48:Nat):Int):=by unfold L6 IntKind.wrap;simp[IntKind.signed,IntKind.bits];omega
   rw[h1];exact zg dm
  have e1:G9 .i64 (KD .i64 (v:Int) 10) ((c.toNat -48:Nat):Int)=((10*v+(c.toNat -48):Nat):Int):=by rw[RX dm,eU dm];omega
  rw[hw,e1]at hr;have hn:s=(pre++[c])++g:=by rw[h];simp
  rw[show((pre.length+1:Nat):Int)=(((pre++[c]).length:Nat):Int) by simp]at hr;obtain⟨a1,a2⟩:=a3Z hA g (pre++[c]) _ m v' hn hstep hr;refine⟨λx hx=>(C9.1 hx).elim (λe=>?_) (a1 x),a2⟩;rw[e];unfold zh;simp only[A8,decide_eq_true_eq];omega
theorem Ku{g:List UInt8}{v:Int}(hA:Asc g)(hl:g.length<=4)(h:tN g=some (v,true)):Dg g/\v=(uP 0 g:Int):=by
 unfold tN at h;obtain⟨o,e,h⟩:=je h;cases o with
 |inr r=>
  rw[cO]at h;cases h;exfalso;have:∀(m:Nat) (x:Int×List UInt8×Int) (r:Int×Bool),iT ddF m x=some (.inr r)->r.2=false:=by
   intro m;induction m with
   |zero=>intro x r h;cases h|succ m ih=>
    intro x r h;rw[jv]at h;unfold ddF at h;cases g0:J4 x.2.2 (x8 x.2.1)<;>simp only[g0,o7,o6]at h
    .cases h
    cases g1:J4 (ng x.2.1 x.2.2) 48<;>simp only[g1,o7,o6]at h
    case true=>cases h;rfl
    cases g2:J4 57 (ng x.2.1 x.2.2)<;>simp only[g2,o7,o6]at h
    case true=>cases h;rfl
    exact ih _ _ h
  exact absurd (show true=false from this _ _ _ e) H7
 |inl y=>
  rw[W9]at h;cases h;have hp:(0+1)*10^g.length<=10000000000000:=by have:g.length=0\/g.length=1\/g.length=2\/g.length=3\/g.length=4:=o5;rcases this with e|e|e|e|e<;>rw[e]<;>decide
  exact a3Z hA g [] 0 fQ v rfl hp e
theorem WH{A:List UInt8}{w:Nat}(hd:Dg A)(hl:A.length=w)(hw:1<=w):WG (uP 0 A:Int) w=A:=by unfold WG;rw[a8o o5,E9,←hl];exact(He A (by intro e;rw[e]at hl;simp at hl;omega) hd).2
theorem Rn(hA:Asc s)(hl:s.length<=1000000)(h:ug s=some (n,0)):0<=n/\n<=109572/\lC n=s:=by
 unfold ug at h;cases g10:D6 (x8 s) 10
 .rw[g10]at h;cases h
 have h10:s.length=10:=by have:=X8.1 g10;unfold x8 at this;omega
 obtain⟨A,rest,hA4,es⟩:∃A rest,A.length=4/\s=A++rest:=⟨s.take 4,s.drop 4,by rw[aX];omega,(X6 4 s).symm⟩;obtain⟨c1,rest,rfl⟩:∃c1 r2,rest=c1::r2:=by
  cases rest with
  |nil=>rw[es]at h10;simp at h10;omega|cons a b=>exact⟨a,b,rfl⟩
 obtain⟨B,rest2,hB2,e2⟩:∃B r,B.length=2/\rest=B++r:=⟨rest.take 2,rest.drop 2,by rw[aX];rw[es]at h10;simp at h10;omega,(X6 2 rest).symm⟩;subst e2;obtain⟨c2,C,rfl⟩:∃c2 C,rest2=c2::C:=by
  cases rest2 with
  |nil=>rw[es]at h10;simp at h10;omega|cons a b=>exact⟨a,b,rfl⟩
 have hC2:C.length=2:=by rw[es]at h10;simp at h10;omega
 subst es;have e4:sat (A++(c1::(B++(c2::C)))) 4=some (c1.toNat:Int):=by rw[show(4:Int)=((4:Nat):Int)from rfl,yS,G6 o5,hA4];rfl
 have e7:sat (A++(c1::(B++(c2::C)))) 7=some (c2.toNat:Int):=by rw[show(7:Int)=((7:Nat):Int)from rfl,yS,G6 o5,hA4,show 7 -4=2+1 from rfl,pF,G6 o5,hB2];rfl
 have q1:fO (A++(c1::(B++(c2::C)))) 0 4=some A:=by rw[wO o5 G5,show(4:Int).toNat=A.length by omega,gY]
 have q2:fO (A++(c1::(B++(c2::C)))) 5 7=some B:=by rw[LW o5 o5 G5];rw[show A++(c1::(B++(c2::C)))=(A++[c1])++(B++(c2::C)) by simp,show(7:Int).toNat=(A++[c1]).length+B.length by simp;omega,List.take_length_add_append,show(5:Int).toNat=(A++[c1]).length by simp;omega,gW,gY]
 have q3:fO (A++(c1::(B++(c2::C)))) 8 (x8 (A++(c1::(B++(c2::C)))))=some C:=by rw[ql o5 G5];rw[show A++(c1::(B++(c2::C)))=(A++[c1]++B++[c2])++C by simp,show(8:Int).toNat=(A++[c1]++B++[c2]).length by simp;omega,gW]
 rw[g10,F6,o6,e4,o9]at h;cases g1:D6 (c1.toNat:Int) 45<;>simp only[g1,F6,I7,o7,o6]at h
 .cases h
 rw[e7,o9]at h;cases g2:D6 (c2.toNat:Int) 45<;>simp only[g2,F6,I7,o7,o6]at h
 .cases h
 rw[o9,W9,q1,o9]at h;obtain⟨d1,f1,h⟩:=je h;rw[q2,o9]at h;obtain⟨d2,f2,h⟩:=je h;rw[q3,o9]at h;obtain⟨d3,f3,h⟩:=je h;obtain⟨v1,t1⟩:=d1;obtain⟨v2,t2⟩:=d2;obtain⟨v3,t3⟩:=d3;simp only at h;cases t1
 .cases h
 cases t2
 .cases h
 cases t3
 .cases h
 simp only[F6,o6]at h;obtain⟨x,hx,h⟩:=je h;cases h;have as1:Asc A:=λc hc=>hA c (by simp[hc]);have as2:Asc B:=λc hc=>hA c (by simp[hc]);have as3:Asc C:=λc hc=>hA c (by simp[hc]);obtain⟨a1,rfl⟩:=Ku as1 o5 f1;obtain⟨a2,rfl⟩:=Ku as2 o5 f2;obtain⟨a3,rfl⟩:=Ku as3 o5 f3;obtain⟨hy,hm,h1,h2,hn⟩:=XY hx;obtain⟨b0,b9,hymd⟩:=a7S hy hm h1 h2;rw[←hn]at b0 b9 hymd;refine⟨b0,b9,?_⟩;have c1e:c1=45:=by
  have:=X8.1 g1;have h2:c1.toNat=(45:UInt8).toNat:=by show c1.toNat=45;omega
  exact UInt8.toNat_inj.1 h2
 have c2e:c2=45:=by
  have:=X8.1 g2;have h2:c2.toNat=(45:UInt8).toNat:=by show c2.toNat=45;omega
  exact UInt8.toNat_inj.1 h2
 unfold lC;rw[if_pos ⟨b0,b9⟩,hymd];simp only;rw[WH a1 hA4 o5,WH a2 hB2 o5,WH a3 hC2 o5,c1e,c2e];simp
end
section
theorem a7V{a b:List UInt8}(h:Asc (a++b)):Asc a/\Asc b:=⟨λc hc=>h c (by simp[hc]),λc hc=>h c (by simp[hc])⟩
theorem a8j{α ρ:Type}(l:List α)(p:α->Bool)(g:Nat->ρ)(hl:l.length<=1000000){f:Int->Option (Out Int PUnit ρ)} (h1:∀(i:Nat) (a:α),l[i]? =some a->f (i:Int)=some (l7 (p a) (.rt (g i)) (.nx ((i+1:Nat):Int)))) (h2:f (l.length:Int)=some (.ex PUnit.unit)):
  (S9 f 0=some (.inl PUnit.unit))\/∃(j:Nat) (a:α),l[j]? =some a/\p a=true/\S9 f 0=some (.inr (g j)):=by
 have:=jw (f:=f) (s:=0) (λx=>∃j:Nat,x=(j:Int)/\j<=l.length) (λ_=>True) (λr=>∃(j:Nat) (a:α),l[j]? =some a/\p a=true/\r=g j) (λx=>l.length -x.toNat) ⟨0,rfl,o5⟩ G5 (by
  rintro x ⟨j,rfl,hj⟩;by_cases h5:j<l.length
  .have hg:=mW h5;have:=h1 j _ hg;cases hp:p l[j]<;>rw[hp]at this
   .exact .inl ⟨_,this,⟨j+1,rfl,o5⟩,by simp only[E9];omega⟩
   .exact .inr (.inr ⟨_,this,j,_,hg,hp,rfl⟩)
  .have:j=l.length:=o5;subst this;exact .inr (.inl ⟨_,h2,trivial⟩))
 rcases this with⟨e,h,-⟩|⟨r,h,j,a,ha,hp,rfl⟩
 .exact .inl h
 .exact .inr ⟨j,a,ha,hp,h⟩
section
variable {E:List P5} {t:Int×Int} {w:List UInt8}
theorem a8G{n:Int}(hm:∀e∈E,e.2.length<=100000)(hv:vty t E=true)(hA:Asc w)(hl:w.length<=100000)(h:oZ w t E=some (n,0)):vaT n t E=w/\fE n:=by
 obtain⟨k,i⟩:=t;unfold oZ at h;rcases EJ hv with h1|h1|h1|h1|h1|h1
 .obtain⟨rfl,rfl⟩:k=1/\i=0:=h1;simp only[V5 (rfl:(1:Int)=1),o7]at h;cases g1:seq w [102,97,108,115,101]<;>simp only[g1,o7,o6]at h
  .cases g2:seq w [116,114,117,101]<;>simp only[g2,o7,o6]at h
   .cases h
   .cases h;rw[dU.1 g2];exact⟨rfl,by unfold fE;omega⟩
  .cases h;rw[dU.1 g1];exact⟨rfl,by unfold fE;omega⟩
 .obtain⟨rfl,rfl⟩:k=2/\i=0:=h1;simp (disch:=decide) only[V5,N7,o7,o6]at h;obtain⟨x,hx,h⟩:=je h;cases h;exact a5u hA hl hx
 .obtain⟨rfl,rfl⟩:k=3/\i=0:=h1;simp (disch:=decide) only[V5,N7,o7,o6]at h;obtain⟨x,hx,h⟩:=je h;cases h;exact a5s (k:=2) o5 hA hl hx
 .obtain⟨rfl,rfl⟩:k=4/\i=0:=h1;simp (disch:=decide) only[V5,N7,o7,o6]at h;obtain⟨c,hc,h⟩:=je h;cases hb:c.2<;>rw[hb]at h<;>simp only[F6,I7,o7,o6]at h
  .cases h
  have hw:w=c.1++[37]:=by
   unfold rE oK oL at hc;obtain⟨c',hc,e⟩:=je hc;cases e;obtain⟨b,hbb,hc⟩:=je hc;cases b
   .cases hc;cases hb
   simp only[F6,o6]at hc;obtain⟨y,hy,hc⟩:=je hc;cases hc;cases g:U6 (x8 ([37]:List UInt8)) (x8 w)<;>rw[g]at hbb
   .cases hbb
   rw[o7]at hbb;obtain⟨z,hz,hbb⟩:=je hbb;have hwl:1<=w.length:=by have:=iJ.1 g;unfold x8 at this;simp at this;omega
   have e1:L6 .i64 (x8 w) (x8 ([37]:List UInt8))=((w.length -1:Nat):Int):=by rw[dW (by unfold fE x8;simp;omega)];unfold x8;simp;omega
   rw[e1,ql o5 o5,E9]at hz;rw[e1,wO o5 o5,E9]at hy;cases hz;cases hy;have hs:w.drop (w.length -1)=[37]:=dU.1 (bD hbb);simp only;rw[←hs,X6]
  obtain⟨x,hx,h⟩:=je h;cases h;rw[hw]at hA hl ⊢;obtain⟨a1,a2⟩:=a5s (k:=4) o5 (a7V hA).1 (by simp at hl;omega) hx;refine⟨?_,a2⟩;show Ai n 4++[37]=_;rw[a1]
 .obtain⟨rfl,rfl⟩:k=5/\i=0:=h1;simp (disch:=decide) only[V5,N7,o7,o6]at h;obtain⟨x,hx,h⟩:=je h;cases h;obtain⟨a1,a2,a3⟩:=Rn hA o5 hx;exact⟨a3,by unfold fE;omega⟩
 .obtain rfl:k=6:=h1;obtain⟨e,he,hem⟩:=LQ hv rfl;have hml:=hm e hem;simp (disch:=decide) only[V5,N7,o7,o6]at h;rw[he,o9]at h;obtain⟨o,ho,h⟩:=je h;have hf:=a8j e.2 (λv=>seq v w) (λi=>((i:Int),(0:Int))) o5 (f:=λ(x_1:Int)=>
         l7 (J4 x_1 (x8 e.2))
          (l9 (O0 e.2 x_1) λ(v:List UInt8)=>
           l7 (seq v w) (some (Out.rt (x_1,0))) (some (Out.nx (G9 IntKind.i64 x_1 1))))
          (some (Out.ex PUnit.unit))) (λi a ha=>by
     have:=(ai.1 ha).1;simp only[X9 ha,o7,U2,ha,o9];rw[dC o5];cases seq a w<;>rfl) (by simp only[Y6,o6])
  rcases hf with q|⟨j,a,ha,hp,q⟩
  .obtain rfl:=bD (ho.symm.trans q);rw[W9]at h;cases h
  .obtain rfl:=bD (ho.symm.trans q);rw[cO]at h;cases h;have hj:=(ai.1 ha).1;refine⟨?_,by unfold fE;omega⟩;unfold vaT gtN;simp (disch:=decide) only[N7,o6];rw[he,Y2,U2,ha];exact dU.1 hp
theorem a7N{v:DR}{n:Int}(hm:∀e∈E,e.2.length<=100000)(hA:Asc w)(hl:w.length<=100000)(h:wE w t E=some (v,0)):vty t E=true/\inB v.2.2 (bnd t E)=true/\vaT v.2.2 t E=w/\fE v.2.2:=by
 unfold wE at h;rw[qh,o9]at h;cases hv:vty t E<;>rw[hv]at h<;>simp only[F6,I7,o7,o6]at h
 .cases h
 obtain⟨x,hx,h⟩:=je h;cases g:D6 x.2 0<;>rw[g]at h<;>simp only[F6,I7,o7,o6]at h
 .exact absurd (congrArg (·.2) (bD h)) (iV.1 g)
 have hx0:x=(x.1,0):=by rw[←X8.1 g]
 obtain⟨b,hb,h⟩:=je h;cases b<;>simp only[F6,I7,o7,o6]at h
 .cases h
 cases h;rw[hx0]at hx;obtain⟨a1,a2⟩:=a8G hm hv hA hl hx;refine⟨rfl,?_,a1,a2⟩;unfold iQ at hb;rw[zo,o9]at hb;unfold inB;simp only;cases g1:U6 (bnd t E).1 x.1<;>rw[g1]at hb
 .cases hb
 .exact bD hb
end
end
section
structure NmOkB (N:D8):Prop where
 e:∀e∈N.1,e.1.length<=100000/\∀m∈e.2,m.length<=100000
 t:∀s∈N.2.1,s.length<=100000
 i:∀s∈N.2.2.1,s.length<=100000
 d:∀s∈N.2.2.2.1,s.length<=100000
 m:∀s∈N.2.2.2.2,s.length<=100000
variable {N:D8}{m:Int}{k:Int}
theorem wV(hk:k=7\/k=8\/k=36\/k=37\/k=38\/k=39)(hN:NmOkB N):xk (k,m) [] N (qi (k,m) N):=by
 have key:∀(l:List (List UInt8)) (before after:List UInt8),(∀s∈l,s.length<=100000)->before.length<=100->after.length<=100->
   aB (k,m) N=l7 (J4 m 0) (some 6) (l7 (U6 (x8 l) m) (some 6) (some 0))->
   Y7 (k,m) N=l7 (J4 m 0) (some (([],0,false),6))
    (l7 (U6 (x8 l) m) (some (([],0,false),6))
     (l9 (O0 l m) λ(x_1:List UInt8)=>
      l9 (U5 before x_1) λ(x_2:List UInt8)=>
       l9 (U5 x_2 after) λ(x:List UInt8)=>some ((x,7,false),0)))->
   qi (k,m) N=(before++gtN l m++after,7)->xk (k,m) [] N (qi (k,m) N):=by
  intro l before after hl hb ha hf0 hr he;have hf:aB (k,m) N=some (l7 (J4 m 0) 6 (l7 (U6 (x8 l) m) 6 0)):=by rw[hf0];cases J4 m 0<;>cases U6 (x8 l) m<;>rfl
  refine YT _ hf ?_;have hnum:Fz k=false:=by rcases hk with rfl|rfl|rfl|rfl|rfl|rfl<;>rfl
  rw[Dx _ _ _ _ o5,hr,he,hnum];by_cases h0:m<0
  .rw[bu h0];rfl
  by_cases h1:x8 l<=m
  .simp only[X3 (show 0<=m by omega),aS h1];rfl
  .have:=HY (l:=l) (i:=m) o5 o5;have h2:=hl _ this.2;simp only[X3 (show 0<=m by omega),dP (show m<x8 l by omega),o6,this.1,o9];rw[J7 o5,o9,J7 G5,o9];rfl
 have mem:∀k:Int,(k=36\/k=37\/k=38\/k=39)->Y7 (k,m) N=l7 (J4 m 0) (some (([],0,false),6))
    (l7 (U6 (x8 N.2.2.2.2) m) (some (([],0,false),6))
     (l9 (O0 N.2.2.2.2 m) λ(x_1:List UInt8)=>
      l9 (U5 (qJ k++[40]) x_1) λ(x_2:List UInt8)=>
       l9 (U5 x_2 [41]) λ(x:List UInt8)=>some ((x,7,false),0))):=by
  intro k hk;have hw:=lW k;unfold Y7 U9;simp only[N7 (show k≠6 by omega),N7 (show k≠7 by omega),N7 (show k≠8 by omega),o6,kS,o9,J7 (a:=qJ k) (b:=[40]) G5,W9]
 have lf:∀k:Int,(k=36\/k=37\/k=38\/k=39)->qi (k,m) N=(qJ k++[40]++gtN N.2.2.2.2 m++[41],7):=by intro k hk;unfold qi;simp only[dP (show 5<k by omega),N7 (show k≠6 by omega),N7 (show k≠7 by omega),N7 (show k≠8 by omega),N7 (show k≠9 by omega),N7 (show k≠35 by omega),o6]
 have wl:=λk=>lW k;rcases hk with rfl|rfl|rfl|rfl|rfl|rfl
 .refine key N.2.2.1 [] [] hN.i D5 D5 rfl ?_ ?_
  .unfold Y7 U9;simp (disch:=decide) only[V5,N7,o7,o6,o9,W9]
  .unfold qi;simp (disch:=decide) only[V5,N7,dP,o7,o6];simp
 .refine key N.2.2.2.1 [] [] hN.d D5 D5 rfl ?_ ?_
  .unfold Y7 U9;simp (disch:=decide) only[V5,N7,o7,o6,o9,W9]
  .unfold qi;simp (disch:=decide) only[V5,N7,dP,o7,o6];simp
 .exact key N.2.2.2.2 (qJ 36++[40]) [41] hN.m H7 H7 rfl (mem _ o5) (lf _ o5)
 .exact key N.2.2.2.2 (qJ 37++[40]) [41] hN.m H7 H7 rfl (mem _ o5) (lf _ o5)
 .exact key N.2.2.2.2 (qJ 38++[40]) [41] hN.m H7 H7 rfl (mem _ o5) (lf _ o5)
 .exact key N.2.2.2.2 (qJ 39++[40]) [41] hN.m H7 H7 rfl (mem _ o5) (lf _ o5)
theorem WS(hm:fE m)(hN:NmOkB N):xk (6,m) [] N (qi (6,m) N):=by
 have hf:aB (6,m) N=(l7 (J4 m 0) (some 6)
    (l7 (U6 (x8 N.1) (gV .i64 m 16)) (some 6)
     (l9 (O0 N.1 (gV .i64 m 16)) λ(x:P5)=>
      l7 (U6 (x8 x.2) (mQ m 16)) (some 6) (some 0)))):=rfl
 have hr:Y7 (6,m) N=l9 (l7 (J4 m 0) (some (Sum.inr (([],0,false),6)))
   (l7 (U6 (x8 N.1) (gV IntKind.i64 m 16)) (some (Sum.inr (([],0,false),6)))
    (l9 (O0 N.1 (gV IntKind.i64 m 16)) λ(x:P5)=>
     l9 (U5 x.1 [58]) λ(x_1:List UInt8)=>some (Sum.inl (([],0,false),x.2,mQ m 16,x_1,[]))))) λ(o:H5×List (List UInt8)×Int×List UInt8×List UInt8⊕H5×Int)=>
 aj o
  (λ(x:H5×List (List UInt8)×Int×List UInt8×List UInt8)=>
   l7 (J4 x.2.2.1 0) (some (([],0,false),6))
    (l7 (U6 (x8 x.2.1) x.2.2.1) (some (([],0,false),6))
     (l9 (O0 x.2.1 x.2.2.1) λ(x_1:List UInt8)=>
      l9 (U5 x.2.2.2.1 x_1) λ(x_2:List UInt8)=>
       l9 (U5 x_2 x.2.2.2.2) λ(x:List UInt8)=>
        l9 (U9 x) λ(x:H5)=>some (x,0))))
  λ(r:H5×Int)=>some r:=rfl
 have hl:qi (6,m) N=(((O0 N.1 (gV .i64 m 16)).getD ([],[])).1++[58]++gtN ((O0 N.1 (gV .i64 m 16)).getD ([],[])).2 (mQ m 16),7):=rfl;unfold xk;rw[hf,Dx _ _ _ _ o5,hr,hl];by_cases h0:m<0
 .rw[bu h0];exact⟨6,rfl,rfl⟩
 rw[X3 o5,o6,o6];by_cases h1:x8 N.1<=gV .i64 m 16
 .rw[aS h1];exact⟨6,rfl,rfl⟩
 rw[dP o5,o6,o6];have hq:0<=gV .i64 m 16:=by rw[QC hm 16 (.inr rfl),pO o5];omega
 obtain⟨e,he,hmem⟩:=um (l:=N.1) hq o5;have hb:=hN.e e hmem;have hr0:mQ m 16=m % 16:=BX o5;simp only[he,o9,Y2,J7 (a:=e.1) (b:=[58]) G5,W9];rw[X3 (show 0<=mQ m 16 by omega),o6];by_cases h2:x8 e.2<=mQ m 16
 .rw[aS h2];exact⟨6,rfl,rfl⟩
 rw[dP o5,o6,o6];have hg:=HY (l:=e.2) (i:=mQ m 16) o5 o5;have h3:=hb.2 _ hg.2;refine⟨0,rfl,?_⟩;rw[hg.1,o9,J7 G5,o9,J7 G5,o9];simp only[U9,o9,E5];rfl
theorem a5Y(hN:NmOkB N)(hm:fE m)(ha:arF k=0)(hu:m=0\/bW k=some true):xk (k,m) [] N (qi (k,m) N):=by
 have hz:(k=9\/k=35)->m=0:=by
  intro h;rcases hu with h1|h1
  .exact h1
  .exfalso;rcases h with rfl|rfl<;>exact absurd h1 H7
 rcases ar0 ha with rfl|rfl|rfl|rfl|rfl|rfl|rfl|rfl|rfl|rfl|rfl|rfl|rfl|rfl
 .exact rU o5 hm N
 .exact rU o5 hm N
 .exact rU o5 hm N
 .exact rU o5 hm N
 .exact rU o5 hm N
 .exact WS hm hN
 .exact wV o5 hN
 .exact wV o5 hN
 .rw[hz o5];exact YN
 .rw[hz o5];exact Vz
 .exact wV o5 hN
 .exact wV o5 hN
 .exact wV o5 hN
 .exact wV o5 hN
theorem YQ{b:Bool}(hm:fE m)(hN:NmOkB N)(a:H5)(h1:a.1.length<=1000000000):xk (33,m) [a] N (AP (33,m) N b (a.1,a.2.1)):=by
 have hf:aB (33,m) N=l7 (J4 m 0) (some 6) (l7 (U6 (x8 N.2.1) m) (some 6) (some 0)):=rfl;have hr:O9 (33,m) [a] N=ay (33,m) a N:=by unfold O9;generalize hq:ay (33,m) a N=q;simp (disch:=decide) only[V5,N7,o7,o6,o9,lx0,hq];cases q<;>rfl
 have hx:AP (33,m) N b (a.1,a.2.1)=(qJ 33++[40]++gtN N.2.1 m++[44,32]++a.1++[41],7):=rfl;unfold xk;rw[hf,hr,hx];unfold ay U9;simp (disch:=decide) only[V5,N7,o7,o6,o9,kS];by_cases h0:m<0
 .rw[bu h0];exact⟨6,rfl,rfl⟩
 rw[X3 o5,o6,o6];by_cases h2:x8 N.2.1<=m
 .rw[aS h2];exact⟨6,rfl,rfl⟩
 rw[dP o5,o6,o6];have hg:=HY (l:=N.2.1) (i:=m) o5 o5;have h3:=hN.t _ hg.2;have hw:=lW 33;refine⟨0,rfl,?_⟩;rw[o9,W9,J7 G5,o9,hg.1,o9,J7 G5,o9,J7 G5,o9,J7 G5,o9,J7 G5,o9];rfl
theorem WR{b:Bool}(hm:fE m)(hN:NmOkB N)(a:H5)(h1:a.1.length<=1000000000):xk (34,m) [a] N (AP (34,m) N b (a.1,a.2.1)):=by
 have hf:aB (34,m) N=l7 (J4 m 0) (some 6) (l7 (U6 (x8 N.2.1) (gV .i64 m 8)) (some 6) (l7 (J4 5 (mQ m 8)) (some 3) (some 0))):=rfl;have hr:O9 (34,m) [a] N=ay (34,m) a N:=by unfold O9;generalize hq:ay (34,m) a N=q;simp (disch:=decide) only[V5,N7,o7,o6,o9,lx0,hq];cases q<;>rfl
 have hx:AP (34,m) N b (a.1,a.2.1)=(qJ 34++[40]++gtN N.2.1 (gV .i64 m 8)++[44,32]++a.1++[44,32]++Ci (mQ m 8)++[41],7):=rfl;unfold xk;rw[hf,hr,hx];unfold ay U9;simp (disch:=decide) only[V5,N7,o7,o6,o9,kS,Dq];by_cases h0:m<0
 .rw[bu h0,X3 (show m<=0 by omega)];simp only[o7,o6,o9,bu h0,cO];exact⟨6,rfl,rfl⟩
 have hq:gV .i64 m 8=m / 8:=by rw[QC hm 8 (.inl rfl),pO o5]
 have hi:(l7 (J4 0 m) (some (gV .i64 m 8)) (some m):Option Int)=some (gV .i64 m 8):=by
  by_cases h:0<m
  .rw[bu h];rfl
  .rw[X3 o5,o6,show gV .i64 m 8=m by omega]
 rw[hi,o9,X3 (show 0<=m by omega),o6,X3 (show 0<=gV .i64 m 8 by omega),o6];by_cases h2:x8 N.2.1<=gV .i64 m 8
 .rw[aS h2];exact⟨6,rfl,rfl⟩
 rw[dP o5,o6,o6];have hg:=HY (l:=N.2.1) (i:=gV .i64 m 8) o5 o5;have h3:=hN.t _ hg.2;have hw:=lW 34;have hm:=Eo (mQ m 8);have hr0:mQ m 8=m % 8:=BX o5;rw[o9,W9,J7 G5,o9,hg.1,o9,J7 G5,o9,J7 G5,o9,J7 G5,o9,SK (show 0<=mQ m 8 by omega)];cases J4 5 (mQ m 8)
 .refine⟨0,rfl,?_⟩;rw[o6,J7 G5,o9,J7 G5,o9,J7 G5,o9];simp[l7];rfl
 .exact⟨3,rfl,rfl⟩
theorem a5Z(hN:NmOkB N)(hm:fE m)(ha:arF k=1)(hu:m=0\/bW k=some true)(a:H5)(h1:a.1.length<=1000000000):xk (k,m) [a] N (AP (k,m) N a.2.2 (a.1,a.2.1)):=by
 have hz:(k=10\/k=25\/k=31\/k=32)->m=0:=by
  intro h;rcases hu with h1|h1
  .exact h1
  .exfalso;rcases h with rfl|rfl|rfl|rfl<;>exact absurd h1 H7
 have hw:=Gg (a.1,a.2.1) 6;simp only at hw;rcases ar1 ha with rfl|rfl|rfl|rfl|rfl|rfl
 .rw[hz o5];refine⟨0,rfl,?_⟩;unfold O9 AP;simp (disch:=decide) only[V5,N7,o7,o6,o9,lx0,zS a 6 h1];cases h:a.2.2
  .simp only[o6,o7];rw[J7 G5,o9,o9,cO];rfl
  .simp only[o7];rw[J7 G5,o9,J7 G5,o9,J7 G5,o9,o9,cO];rfl
 .rw[hz o5];refine⟨0,rfl,?_⟩;unfold O9 AP;simp (disch:=decide) only[V5,N7,o7,o6,o9,lx0,zS a 6 h1];rw[J7 G5,o9,o9,cO];rfl
 .rw[hz o5];refine⟨0,rfl,?_⟩;have hl:=lW 31;unfold O9 AP U9;simp (disch:=decide) only[V5,N7,o7,o6,o9,lx0,kS];rw[J7 G5,o9,J7 G5,o9,J7 G5,o9,o9,cO];rfl
 .rw[hz o5];refine⟨0,rfl,?_⟩;have hl:=lW 32;unfold O9 AP U9;simp (disch:=decide) only[V5,N7,o7,o6,o9,lx0,kS];rw[J7 G5,o9,J7 G5,o9,J7 G5,o9,o9,cO];rfl
 .exact YQ hm hN a h1
 .exact WR hm hN a h1
theorem a2Q{n:Int×Int}(hN:NmOkB N)(hI:fE n.2):(qi n N).1.length<=300000:=by
 unfold qi;have hw:=lW n.1;have g1:=yB hN.i n.2;have g2:=yB hN.d n.2;have g3:=yB hN.m n.2;have hv:((rf (n.1,0,n.2) []).getD ([],0)).1.length<=100:=by obtain⟨t,ht,hl⟩:=xJ (B:=100) o5 o5 (v:=(n.1,0,n.2)) (en:=[]) hI (λe h=>by cases h);rw[←xI [] hI,ht];exact hl
 have he:((O0 N.1 (gV .i64 n.2 16)).getD ([],[])).1.length<=100000/\(gtN ((O0 N.1 (gV .i64 n.2 16)).getD ([],[])).2 (mQ n.2 16)).length<=100000:=by
  cases hx:O0 N.1 (gV .i64 n.2 16)with
  |none=>exact⟨D5,yB (B:=100000) (λs h=>by cases h) _⟩|some e=>have:=hN.e e (lX hx).2.2.1;exact⟨this.1,yB this.2 _⟩
 cases U6 n.1 5
 case true=>simp only[o7];omega
 cases D6 n.1 6
 case true=>simp only[o7,o6];simp;omega
 cases D6 n.1 7
 case true=>simp only[o7,o6];omega
 cases D6 n.1 8
 case true=>simp only[o7,o6];omega
 cases D6 n.1 9
 case true=>simp[l7]
 cases D6 n.1 35
 case true=>simp[l7]
 .simp only[o6];simp;omega
theorem a5d{n:Int×Int}(hN:NmOkB N)(b:Bool)(a:Tx):(AP n N b a).1.length<=a.1.length+300000:=by
 unfold AP;have hw:=lW n.1;have hm:=Eo (mQ n.2 8);have g1:=yB hN.t n.2;have g2:=yB hN.t (gV .i64 n.2 8);have w:=Gg a 6;cases D6 n.1 33
 case true=>simp only[o7];simp;omega
 cases D6 n.1 34
 case true=>simp only[o7,o6];simp;omega
 cases D6 n.1 25
 case true=>simp only[o7,o6];simp;omega
 cases D6 n.1 10
 case true=>simp only[o7,o6];cases b<;>simp<;>omega
 .simp only[o6];simp;omega
theorem xH{N:D8}(hN:NmOkB N):∀(t:XT),(∀n∈t.post,fE n.2)->(txT N t).1.length<=300000*t.size
 | .l0 n,h=>a2Q hN (h n (by simp[XT.post]))| .l1 n a,h=>by have h1:=xH hN a (λm hm=>h m (by simp[XT.post,hm]));have h2:=a5d (n:=n) hN (Fz a.node.1) (txT N a);simp only[txT,XT.size];omega| .l2 n a b,h=>by have h1:=xH hN a (λm hm=>h m (by simp[XT.post,hm]));have h2:=xH hN b (λm hm=>h m (by simp[XT.post,hm]));have h3:=a2d (n:=n) (txT N a) (txT N b);simp only[txT,XT.size];omega| .l3 n a b c,h=>by have h1:=xH hN a (λm hm=>h m (by simp[XT.post,hm]));have h2:=xH hN b (λm hm=>h m (by simp[XT.post,hm]));have h3:=xH hN c (λm hm=>h m (by simp[XT.post,hm]));simp only[txT,XT.size,ifX];simp;omega
theorem a4t{e:List (Int×Int)}(he:e.length<=48)(hN:NmOkB N)(hI:∀n∈e,fE n.2):∀(t:XT) (pre suf:List (Int×Int)) (p:List H5) (m:Nat),e=pre++t.post++suf->t.wf->p.length+t.size<=60->
  iT (fmF e N) (m+t.size) (p,(pre.length:Int))=l7 (D6 (ffS N t.post) 0) (iT (fmF e N) m (p++[pcT N t],((pre.length+t.size:Nat):Int))) (some (.inr ([],ffS N t.post))):=by
 have stepN:∀(n:Int×Int) (pre suf:List (Int×Int)) (p args:List H5) (x:Tx) (m:Nat),e=pre++[n]++suf->p.length<=60->args.length<=3->arF n.1=(args.length:Int)->((n.2=0\/bW n.1=some true)->xk n args N x)->
   iT (fmF e N) (m+1) (p++args,(pre.length:Int))=l7 (D6 (flS n N) 0) (iT (fmF e N) m (p++[(x.1,x.2,Fz n.1)],((pre.length+1:Nat):Int))) (some (.inr ([],flS n N))):=by
  intro n pre suf p args x m h1 h2 h3 h4 h5;have hn:e[pre.length]? =some n:=by rw[h1,F7,G6 (A7 _),bf];rfl
  have hlt:=(ai.1 hn).1;rw[jv,a1f hn o5 o5 h3 h4 h5];unfold fmG;cases D6 (flS n N) 0<;>rfl
 intro t;induction t with
 |l0 n=>
  intro pre suf p m h hw hs;have hI1:=hI n (by rw[h];simp[XT.post]);have:=stepN n pre suf p [] (qi n N) m h o5 D5 hw (λhu=>a5Y hN hI1 hw hu);rw[E5]at this;rw[show(XT.l0 n).size=1 from rfl,this];unfold XT.post ffS ffS;cases hf:D6 (flS n N) 0
  .simp only[o6,hf]
  .simp only[o7,V5 (rfl:(0:Int)=0)];rfl
 |l1 n a iha=>
  intro pre suf p m h hw hs;simp only[XT.post,XT.size]at h hs ⊢;have hI1:=hI n (by rw[h];simp);have hIa:∀n∈a.post,fE n.2:=λq hq=>hI q (by rw[h];simp[hq]);have hl:=xH hN a hIa;rw[show m+(a.size+1)=(m+1)+a.size by omega,iha pre ([n]++suf) p (m+1) (by rw[h];simp) hw.2 o5,zu];cases hf:D6 (ffS N a.post) 0
  .simp only[o6,hf]
  have:=stepN n (pre++a.post) suf p [pcT N a] (AP n N (Fz a.node.1) (txT N a)) m (by rw[h];simp) o5 D5 hw.1 (λhu=>a5Z hN hI1 hw.1 hu (pcT N a) (by simp only[pcT];omega));rw[show(pre++a.post).length=pre.length+a.size by simp[XT.post_len]]at this;simp only[o7];rw[this];unfold ffS ffS;cases hg:D6 (flS n N) 0
  .simp only[o6,hg]
  .simp only[o7,V5 (rfl:(0:Int)=0)];rfl
 |l2 n a b iha ihb=>
  intro pre suf p m h hw hs;simp only[XT.post,XT.size]at h hs ⊢;have hI1:=hI n (by rw[h];simp);have hIa:∀n∈a.post,fE n.2:=λq hq=>hI q (by rw[h];simp[hq]);have hIb:∀n∈b.post,fE n.2:=λq hq=>hI q (by rw[h];simp[hq]);have hla:=xH hN a hIa;have hlb:=xH hN b hIb;have s1:=a.size_pos;have s2:=b.size_pos;rw[show m+(a.size+b.size+1)=(m+1+b.size)+a.size by omega,iha pre (b.post++[n]++suf) p (m+1+b.size) (by rw[h];simp) hw.2.1 o5,zu,zu];cases hf:D6 (ffS N a.post) 0
  .simp only[o6,hf]
  have i2:=ihb (pre++a.post) ([n]++suf) (p++[pcT N a]) (m+1) (by rw[h];simp) hw.2.2 G5;rw[show(pre++a.post).length=pre.length+a.size by simp[XT.post_len]]at i2;simp only[o7];rw[i2];cases hf2:D6 (ffS N b.post) 0
  .simp only[o6,hf2]
  have:=stepN n (pre++a.post++b.post) suf p [pcT N a,pcT N b] (Qn n (txT N a) (txT N b)) m (by rw[h];simp) o5 D5 hw.1 (λhu=>a1M hw.1 hu (pcT N a) (pcT N b) (by simp only[pcT];omega) (by simp only[pcT];omega));rw[show(pre++a.post++b.post).length=pre.length+a.size+b.size by simp[XT.post_len];omega,show pre.length+a.size+b.size+1=pre.length+(a.size+b.size+1) by omega]at this;simp only[o7];rw[show p++[pcT N a]++[pcT N b]=p++[pcT N a,pcT N b] by simp,this];unfold ffS ffS;cases hg:D6 (flS n N) 0
  .simp only[o6,hg]
  .simp only[o7,V5 (rfl:(0:Int)=0)];rfl
 |l3 n a b c iha ihb ihc=>
  intro pre suf p m h hw hs;simp only[XT.post,XT.size]at h hs ⊢;have hI1:=hI n (by rw[h];simp);have hIa:∀n∈a.post,fE n.2:=λq hq=>hI q (by rw[h];simp[hq]);have hIb:∀n∈b.post,fE n.2:=λq hq=>hI q (by rw[h];simp[hq]);have hIc:∀n∈c.post,fE n.2:=λq hq=>hI q (by rw[h];simp[hq]);have hla:=xH hN a hIa;have hlb:=xH hN b hIb;have hlc:=xH hN c hIc;have s1:=a.size_pos;have s2:=b.size_pos;have s3:=c.size_pos;have h26:=ar3 hw.1;rw[show m+(a.size+b.size+c.size+1)=(m+1+c.size+b.size)+a.size by omega,iha pre (b.post++c.post++[n]++suf) p (m+1+c.size+b.size) (by rw[h];simp) hw.2.1 o5,zu,zu,zu];cases hf:D6 (ffS N a.post) 0
  .simp only[o6,hf]
  have i2:=ihb (pre++a.post) (c.post++[n]++suf) (p++[pcT N a]) (m+1+c.size) (by rw[h];simp) hw.2.2.1 G5;rw[show(pre++a.post).length=pre.length+a.size by simp[XT.post_len]]at i2;simp only[o7];rw[i2];cases hf2:D6 (ffS N b.post) 0
  .simp only[o6,hf2]
  have i3:=ihc (pre++a.post++b.post) ([n]++suf) (p++[pcT N a]++[pcT N b]) (m+1) (by rw[h];simp) hw.2.2.2 G5;rw[show(pre++a.post++b.post).length=pre.length+a.size+b.size by simp[XT.post_len];omega]at i3;simp only[o7];rw[i3];cases hf3:D6 (ffS N c.post) 0
  .simp only[o6,hf3]
  have:=stepN n (pre++a.post++b.post++c.post) suf p [pcT N a,pcT N b,pcT N c] (ifX (txT N a) (txT N b) (txT N c)) m (by rw[h];simp) o5 D5 hw.1 (λhu=>by obtain⟨k,v⟩:=n;simp only at h26 hu;subst h26;exact a1N hu (pcT N a) (pcT N b) (pcT N c) (by simp only[pcT];omega) (by simp only[pcT];omega) (by simp only[pcT];omega))
  rw[show(pre++a.post++b.post++c.post).length=pre.length+a.size+b.size+c.size by simp[XT.post_len];omega,show pre.length+a.size+b.size+c.size+1=pre.length+(a.size+b.size+c.size+1) by omega]at this;simp only[o7];rw[show p++[pcT N a]++[pcT N b]++[pcT N c]=p++[pcT N a,pcT N b,pcT N c] by simp,this];unfold ffS ffS;cases hg:D6 (flS n N) 0
  .simp only[o6,hg]
  .simp only[o7,V5 (rfl:(0:Int)=0)];rfl
theorem a1h{e:List (Int×Int)}(hN:NmOkB N)(hI:∀n∈e,fE n.2):gZ e N=some (EZ e N):=by
 unfold gZ tV EZ;rw[Bq];unfold yU;cases h:oV e with
 |inl x=>simp only[o9,N7 (Az h)];rfl|inr t=>
  obtain⟨h1,h2,h3,h4⟩:=XE h;obtain⟨hp,-⟩:=wC h;simp only[o9,V5 (rfl:(0:Int)=0),F6,o6];have hl:S9 (fmF e N) ([],0)=some (l7 (D6 (ffS N e) 0) (.inl [pcT N t]) (.inr ([],ffS N e))):=by
   unfold S9;rw[show fQ=(fQ -t.size)+t.size by unfold fQ;omega];have:=a4t h2 hN hI t [] [] [] (fQ -t.size) (by simp[←hp]) (OQ h) G5;rw[show(([]:List (Int×Int)).length:Int)=0 from rfl]at this;rw[this,←hp];cases D6 (ffS N e) 0
   .rfl
   .simp only[o7];rw[show fQ -t.size=(fQ -t.size -1)+1 by unfold fQ;omega];rw[jv];unfold fmF;simp only[O7,dH];rw[←h3,show J4 ((e.length:Nat):Int) (x8 e)=false from Y6 e];rfl
  refine X7 hl ?_;rw[o9];cases D6 (ffS N e) 0<;>rfl
theorem SY{s:List UInt8}(hA:Asc s)(hN:NmLe N)(hO:NmOkB N):∃e k c,lF s N=some (e,k,c)/\NdI e:=by
 obtain⟨T,o,c,e,h1,h2⟩:=Xn s hA;unfold lF;rw[e,o9];cases G7 (D6 c 0)
 case true=>exact⟨_,_,_,rfl,λn hn=>by cases hn⟩
 simp only[o6];have g0:GdS T 0 0 0 []:=⟨A7 _,aU _,A7 _,λn hn=>by cases hn⟩;obtain⟨b,i,nd,off,c1,e1,g1⟩:=(a0Q (E:=x8 s) (N:=N) h2 h1 hN fQ).e 0 0 0 [] 0 0 g0 (by unfold fQ;omega);rw[show qy (T,0,x8 s,N,[],0,0)=_ from e1,o9];have fin:∀{j:Nat} {off' c' :Int},∃e k c,(l7 (G7 (D6 (pT T (x8 s) N j nd off' c').2.2.2.2.2.2 0)) (some (([]:List I9),(pT T (x8 s) N j nd off' c').2.2.2.2.2))
    (l9 (tV (pT T (x8 s) N j nd off' c').2.2.2.2.1) λ(x_1:List Int×Int)=>
     l7 (G7 (D6 x_1.2 0)) (some ([],0,x_1.2))
      (l9 (gZ (pT T (x8 s) N j nd off' c').2.2.2.2.1 N) λ(x_2:List UInt8×Int)=>
       l7 (G7 (D6 x_2.2 0)) (some ([],0,2))
        (l7 (G7 (seq x_2.1 s)) (some ([],0,2)) (some ((pT T (x8 s) N j nd off' c').2.2.2.2.1,0,0))))))=some (e,k,c)/\NdI e:=by
  intro j off' c';have n0:NdI []:=λn hn=>by cases hn
  simp only;cases G7 (D6 c' 0)
  case true=>exact⟨_,_,_,rfl,n0⟩
  simp only[o6];unfold tV;rw[Bq,o9];rw[a1h hO g1.ni];simp only[o9];cases G7 (D6 (yU nd).2.2 0)
  case true=>exact⟨_,_,_,rfl,n0⟩
  cases G7 (D6 (EZ nd N).2 0)
  case true=>exact⟨_,_,_,rfl,n0⟩
  cases G7 (seq (EZ nd N).1 s)
  case true=>exact⟨_,_,_,rfl,n0⟩
  exact⟨_,_,_,rfl,g1.ni⟩
 cases b
 .exact fin
 .simp only[o7];cases J4 (i:Int) (x8 T)
  .exact fin
  .obtain⟨off',he⟩:=XW (T:=T) (E:=x8 s) (N:=N) (i:=i) (nd:=nd) (off:=off) (c:=c1) 2;simp only[o7];rw[he];exact @fin i off' 2
end
section
def txC(c:D7):List UInt8:=l7 c.2 (32::c.1) []
theorem a3W:∀(t:List UInt8),(∃a r,t=a++32::r/\Lib.index t [32]=(a.length:Int))\/((∀x∈t,x≠32)/\Lib.index t [32]=-1)
 |[]=> .inr ⟨(λx hx=>by cases hx),rfl⟩|c::t=>by
  by_cases hc:c=32
  .subst hc;refine .inl ⟨[],t,rfl,?_⟩;unfold Lib.index;rw[if_pos (by simp[List.isPrefixOf])];rfl
  .have hp:([32]:List UInt8).isPrefixOf (c::t)=false:=by
    simp only[List.isPrefixOf,Bool.and_true];simpa[beq_eq_false_iff_ne]using λe=>hc e.symm
   rcases a3W t with⟨a,r,e,hi⟩|⟨hn,hi⟩
   .refine .inl ⟨c::a,r,by rw[e];rfl,?_⟩;unfold Lib.index;rw[hp,hi];have:(((a.length:Nat):Int)==-1)=false:=by rw[beq_eq_false_iff_ne];omega
    rw[this];simp
   .refine .inr ⟨λx hx=>(C9.1 hx).elim (λe=>e▸hc) (hn x),?_⟩;unfold Lib.index;rw[hp,hi];rfl
variable {c:D7}
theorem jL(hl:c.1.length<=100000):∃w ok c',J8 c=some (w,ok,c')/\c'.1.length<=c.1.length/\w.length<=c.1.length/\(ok=true->w≠[]/\txC c=32::(w++txC c'))/\(∀P:UInt8->Prop,(∀x∈c.1,P x)->(∀x∈w,P x)/\∀x∈c'.1,P x):=by
 obtain⟨t,b⟩:=c;simp only at hl;cases b
 .exact⟨[],false,(t,false),rfl,A7 _,aU _,(λh=>by cases h),λP hP=>⟨(λx hx=>by cases hx),hP⟩⟩
 unfold J8;simp only[F6,o6];unfold zT Lib.cut;rw[if_pos o5];rcases a3W t with⟨a,r,e,hi⟩|⟨hn,hi⟩
 .rw[hi,if_pos o5,E9];have e1:t.take a.length=a:=by rw[e,gY]
  have e2:t.drop (a.length+[(32:UInt8)].length)=r:=by rw[e,show a.length+[(32:UInt8)].length=(a++[32]).length by simp,show a++32::r=(a++[32])++r by simp,gW]
  rw[e1,e2,o9];refine⟨a,_,(r,true),rfl,by rw[e];simp;omega,by rw[e];simp,λhok=>?_,λP hP=>⟨λx hx=>hP x (by rw[e];simp[hx]),λx hx=>hP x (by rw[e];simp[hx])⟩⟩;have ha:a≠[]:=by intro ea;rw[ea]at hok;exact absurd (show false=true from hok) H7
  exact⟨ha,by rw[e];rfl⟩
 .rw[hi,if_neg o5,o9];refine⟨t,_,([],false),rfl,aU _,A7 _,λhok=>?_,λP hP=>⟨hP,λx hx=>by cases hx⟩⟩;have ha:t≠[]:=by
   intro ea;rw[ea]at hok;exact absurd hok H7
  exact⟨ha,by simp[txC,l7]⟩
theorem Jc(c:D7):∃e,iO c=some (e,c)/\(e=0->txC c=[]):=by
 obtain⟨t,b⟩:=c;cases b
 .exact⟨0,rfl,λ_=>rfl⟩
 .exact⟨2,rfl,λh=>by cases h⟩
theorem Hr{σ ε α ρ:Type}(l:List α)(p:α->Bool)(mk:Nat->σ)(g:Nat->ρ)(ex:ε)(hl:l.length<=1000000){f:σ->Option (Out σ ε ρ)} (h1:∀(i:Nat) (a:α),l[i]? =some a->f (mk i)=some (l7 (p a) (.rt (g i)) (.nx (mk (i+1))))) (h2:f (mk l.length)=some (.ex ex)):
  (S9 f (mk 0)=some (.inl ex))\/∃(j:Nat) (a:α),l[j]? =some a/\p a=true/\S9 f (mk 0)=some (.inr (g j)):=by
 have key:∀(n i m:Nat),l.length -i=n->i<=l.length->(iT f (m+1+n) (mk i)=some (.inl ex))\/∃(j:Nat) (a:α),l[j]? =some a/\p a=true/\iT f (m+1+n) (mk i)=some (.inr (g j)):=by
  intro n;induction n with
  |zero=>intro i m hn hi;obtain rfl:i=l.length:=o5;left;rw[Z8,jv,h2]
  |succ n ih=>
   intro i m hn hi;have hlt:i<l.length:=o5;have hg:=mW hlt;have hs:=h1 i _ hg;rw[show m+1+(n+1)=(m+1+n)+1 by omega,jv,hs];cases hp:p l[i]
   .exact ih (i+1) m o5 o5
   .exact .inr ⟨i,_,hg,hp,rfl⟩
 have:=key l.length 0 (fQ -1 -l.length) o5 o5;rw[show fQ -1 -l.length+1+l.length=fQ by unfold fQ;omega]at this;exact this
section
variable {E:List P5} {T:List V4} {S:List H8} {k:Int} {N:D8} {b:Bool}
theorem Nu(hl:c.1.length<=100000)(hE:E.length<=100000):∃t e c',iE (enR E) c=some (t,e,c')/\c'.1.length<=c.1.length/\(∀P:UInt8->Prop,(∀x∈c.1,P x)->∀x∈c'.1,P x)/\(e=0->vty t E=true/\txC c=32::(tyS t E++txC c')):=by
 obtain⟨w,ok,c1,h1,h2,h3,h4,h5⟩:=jL hl;unfold iE;rw[h1,o9];have hP:∀P:UInt8->Prop,(∀x∈c.1,P x)->∀x∈c1.1,P x:=λP hp=>(h5 P hp).2;cases hok:ok
 .exact⟨_,_,_,rfl,h2,hP,λh=>by cases h⟩
 obtain⟨w0,ht⟩:=h4 hok;simp only[F6,o6];cases g1:seq w [98,111,111,108]
 case true=>exact⟨_,_,_,rfl,h2,hP,λ_=>⟨rfl,by rw[ht,dU.1 g1];rfl⟩⟩
 cases g2:seq w [105,110,116]
 case true=>exact⟨_,_,_,rfl,h2,hP,λ_=>⟨rfl,by rw[ht,dU.1 g2];rfl⟩⟩
 cases g3:seq w [109,111,110,101,121]
 case true=>exact⟨_,_,_,rfl,h2,hP,λ_=>⟨rfl,by rw[ht,dU.1 g3];rfl⟩⟩
 cases g4:seq w [114,97,116,101]
 case true=>exact⟨_,_,_,rfl,h2,hP,λ_=>⟨rfl,by rw[ht,dU.1 g4];rfl⟩⟩
 cases g5:seq w [100,97,116,101]
 case true=>exact⟨_,_,_,rfl,h2,hP,λ_=>⟨rfl,by rw[ht,dU.1 g5];rfl⟩⟩
 simp only[o6];have hf:=Hr E (λq=>seq q.1 w) (λi=>(((0:Int),(0:Int)),(i:Int))) (λi=>(((6:Int),(i:Int)),(0:Int),c1)) ((0:Int),(0:Int)) o5 (f:=λ(x_1:I9×Int)=>
          l7 (J4 x_1.2 (x8 E))
           (l9 (O0 E x_1.2) λ(x_2:P5)=>
            l7 (seq x_2.1 w) (some (Out.rt ((6,x_1.2),0,c1)))
             (some (Out.nx (x_1.1,G9 IntKind.i64 x_1.2 1))))
           (some (Out.ex x_1.1))) (λi a ha=>by
     have:=(ai.1 ha).1;simp only[X9 ha,o7,U2,ha,o9];rw[dC o5];cases seq a.1 w<;>rfl) (by simp only[Y6,o6])
 rcases hf with q|⟨j,a,ha,hp,q⟩
 .refine⟨(0,0),6,c1,?_,h2,hP,λh=>by cases h⟩;refine X7 q ?_;rw[o9,W9]
 .refine⟨(6,(j:Int)),0,c1,?_,h2,hP,λ_=>⟨?_,?_⟩⟩
  .refine X7 q ?_;rw[o9,cO]
  .have hj:=(ai.1 ha).1;unfold vty;rw[V5 rfl,o7,aS (by simp only;omega),o7];exact bu (by unfold x8;simp only;omega)
  .rw[ht];have:tyS (6,(j:Int)) E=a.1:=by
    unfold tyS;simp (disch:=decide) only[N7,o6];rw[U2,ha];rfl
   rw[this,dU.1 hp]
theorem a4i(hl:c.1.length<=100000)(hE:E.length<=100000):∃e R c',oN (rdS E T S k N b) c=some (e,R,c')/\(e=0->∃n ms,ms≠[]/\R=rdS (E++[(n,ms)]) T S k N b/\txC c=spW (n::ms)/\n.length<=c.1.length/\ms.length<=c.1.length+1/\∀m∈ms,m.length<=c.1.length):=by
 obtain⟨n,ok,c1,h1,h2,h3,h4,-⟩:=jL hl;unfold oN;rw[h1,o9];cases hok:ok
 .exact⟨_,_,_,rfl,λh=>by cases h⟩
 obtain⟨w0,ht⟩:=h4 hok;simp only[F6,o6];cases hb:c1.2
 .simp only[I7,o7];exact⟨_,_,_,rfl,λh=>by cases h⟩
 simp only[F6,o6,o9,W9];have key:=jw (f:=λ(x:D7×P5)=>
       l7 x.1.2
        (l9 (J8 x.1) λ(x_2:List UInt8×Bool×D7)=>
         l7 (G7 x_2.2.1) (some (Out.rt ((2,rdS E T S k N b,x_2.2.2):Int×O6×D7)))
          (l9 (dB x.2.2 [x_2.1]) λ(x_3:List (List UInt8))=>some (Out.nx (x_2.2.2,x.2.1,x_3))))
        (some (Out.ex x))) (s:=(c1,n,[]))
  (λx=>∃d:List (List UInt8),x.2=(n,d)/\txC c1=spW d++txC x.1/\(d≠[]\/x.1.2=true)/\d.length+(txC x.1).length<=c.1.length+1/\x.1.1.length<=c.1.length/\∀m∈d,m.length<=c.1.length) (λx=>∃d:List (List UInt8),x.2=(n,d)/\d≠[]/\txC c1=spW d/\d.length<=c.1.length+1/\∀m∈d,m.length<=c.1.length) (λr=>r.1=2) (λx=>(txC x.1).length)
  ⟨[],rfl,rfl,.inr hb,(by simp[txC,hb,l7];omega),h2,λm hm=>by cases hm⟩ (by simp[txC,hb,l7];omega) ?_
 .rcases key with⟨x,e,d,hx,hd,hs,hdl,hml⟩|⟨r,e,hr⟩
  .refine⟨0,rdS (E++[(n,d)]) T S k N b,x.1,?_,λ_=>⟨n,d,hd,rfl,?_,h3,hdl,hml⟩⟩
   .refine X7 e ?_;rw[o9,W9,hx];rw[rY G5,o9]
   .rw[ht,hs,uN];rfl
  .refine⟨r.1,r.2.1,r.2.2,?_,λh=>?_⟩
   .refine X7 e ?_;rw[o9,cO]
   .rw[hr]at h;cases h
 .rintro⟨cu,nm,d⟩ ⟨d',hx,hs,hd,hln,hcl,hml⟩;obtain⟨rfl,rfl⟩:nm=n/\d=d' :=⟨congrArg (·.1) hx,congrArg (·.2) hx⟩;simp only at hs hd hln hcl;cases hb2:cu.2
  .have hz:txC cu=[]:=by unfold txC;rw[hb2];rfl
   rw[hz,E5]at hs;refine .inr (.inl ⟨(cu,nm,d),(by simp only[hb2,o6]),d,rfl,?_,hs,?_,hml⟩)
   .rcases hd with h|h
    .exact h
    .rw[hb2]at h;cases h
   .rw[hz]at hln;simp at hln;omega
  .obtain⟨w,ok2,c2,g1,g2,g3,g4,-⟩:=jL (c:=cu) o5;simp only[hb2,o7];rw[g1,o9];cases hok2:ok2
   .exact .inr (.inr ⟨_,rfl,rfl⟩)
   obtain⟨w1,ht2⟩:=g4 hok2;simp only[F6,o6];have hln2:=congrArg List.length ht2;simp only[D9,E8]at hln2;have hwl:1<=w.length:=by cases w with|nil=>exact absurd rfl w1|cons a l=>simp
   rw[rY G5,o9];refine .inl ⟨(c2,nm,d++[w]),rfl,⟨d++[w],rfl,?_,.inl D5,?_,by simp only;omega,λm hm=>?_⟩,by simp only;omega⟩
   .rw[hs,ht2,FX,uN];simp[spW]
   .simp only[E8,D9,O7];omega
   .rcases F9.1 hm with hm|hm
    .exact hml m hm
    .rw[N9.1 hm];omega
end
end
section
variable {c:D7}{s:H8}
section
variable {E:List P5} {T:List V4} {S:List H8} {k:Int} {N:D8} {b:Bool}
theorem c0Q(a b c:List UInt8):spW [a,b,c]=32::(a++32::(b++32::c)):=by simp[spW]
theorem b8K(a b:List UInt8):spW [a,b]=32::(a++32::b):=by simp[spW]
theorem b8J(a:List UInt8):spW [a]=32::a:=by simp[spW]
theorem a3x(hl:c.1.length<=100000)(hE:E.length<=100000)(hT:T.length<=100000):∃e R c',nX (rdS E T S k N b) c=some (e,R,c')/\(e=0->∃n t u,vty t E=true/\vty u E=true/\R=rdS E (T++[(n,t,u,[])]) S k N b/\txC c=spW [n,tyS t E,tyS u E]/\n.length<=c.1.length):=by
 obtain⟨n,ok,c1,h1,h2,h3,h4,-⟩:=jL hl;unfold nX;rw[h1,o9];cases hok:ok
 .exact⟨_,_,_,rfl,λh=>by cases h⟩
 obtain⟨w0,ht⟩:=h4 hok;simp only[F6,o6];obtain⟨t,e1,c2,a1,a2,-,a3⟩:=Nu (E:=E) (c:=c1) o5 hE;rw[a1,o9];cases g1:D6 e1 0<;>simp only[g1,F6,I7,o7,o6]
 .exact⟨_,_,_,rfl,λh=>absurd h (iV.1 g1)⟩
 obtain⟨v1,x1⟩:=a3 (X8.1 g1);obtain⟨u,e2,c3,b1,b2,-,b3⟩:=Nu (E:=E) (c:=c2) o5 hE;rw[b1,o9];cases g2:D6 e2 0<;>simp only[g2,F6,I7,o7,o6]
 .exact⟨_,_,_,rfl,λh=>absurd h (iV.1 g2)⟩
 obtain⟨v2,x2⟩:=b3 (X8.1 g2);obtain⟨e3,d1,d2⟩:=Jc c3;rw[rY G5,o9,d1,o9];refine⟨_,_,_,rfl,λh=>⟨n,t,u,v1,v2,rfl,?_,h3⟩⟩;rw[ht,x1,x2,d2 h,E5,c0Q]
theorem a3t(hl:c.1.length<=100000)(hS:S.length<=100000):∃e R c',nV (rdS E T S k N b) c=some (e,R,c')/\(e=0->∃n,R=rdS E T (S++[(n,-1,[],[],[])]) k nmZ false/\txC c=spW [n]/\n.length<=c.1.length):=by
 obtain⟨n,ok,c1,h1,h2,h3,h4,-⟩:=jL hl;unfold nV;rw[h1,o9];cases hok:ok
 .exact⟨_,_,_,rfl,λh=>by cases h⟩
 obtain⟨w0,ht⟩:=h4 hok;simp only[F6,o6];obtain⟨e3,d1,d2⟩:=Jc c1;rw[rY G5,o9,d1,o9];refine⟨_,_,_,rfl,λh=>⟨n,rfl,?_,h3⟩⟩;rw[ht,d2 h,E5,b8J]
theorem a2M(hl:c.1.length<=100000)(hE:E.length<=100000)(hS:S.length<=100000)(hs:s.2.2.1.length<=100000):∃e R c',nR (rdS E T (S++[s]) k N b) c PUnit.unit=some (e,R,c')/\(e=0->∃f:dK,vty f.2 E=true/\R=rdS E T (S++[(s.1,s.2.1,s.2.2.1++[f],s.2.2.2)]) k N b/\txC c=spW [f.1,tyS f.2 E]/\f.1.length<=c.1.length):=by
 obtain⟨e1,e2,e3,e4,e5,e6⟩:=DZ (S:=S) (s:=s) o5;obtain⟨n,ok,c1,h1,h2,h3,h4,-⟩:=jL hl;unfold nR;rw[e3,o7,h1,o9];cases hok:ok
 .exact⟨_,_,_,rfl,λh=>by cases h⟩
 obtain⟨w0,ht⟩:=h4 hok;simp only[F6,o6];obtain⟨t,x,c2,a1,a2,-,a3⟩:=Nu (E:=E) (c:=c1) o5 hE;rw[a1,o9];cases g1:D6 x 0<;>simp only[g1,F6,I7,o7,o6]
 .exact⟨_,_,_,rfl,λh=>absurd h (iV.1 g1)⟩
 obtain⟨v1,x1⟩:=a3 (X8.1 g1);obtain⟨y,d1,d2⟩:=Jc c2;simp only[e2,e4,o9];rw[rY G5,o9,zC,o7,d1,o9];refine⟨_,_,_,rfl,λh=>⟨(n,t),v1,by rw[e5],?_,h3⟩⟩;rw[ht,x1,d2 h,E5,b8K]
theorem a8c(hl:c.1.length<=100000)(hE:E.length<=100000)(hS:S.length<=100000)(hs:s.2.2.2.1.length<=100000):∃e R c',kY (rdS E T (S++[s]) k N b) c PUnit.unit=some (e,R,c')/\(e=0->∃f:dK,vty f.2 E=true/\R=rdS E T (S++[(s.1,s.2.1,s.2.2.1,s.2.2.2.1++[f],s.2.2.2.2)]) k N b/\txC c=spW [f.1,tyS f.2 E]/\f.1.length<=c.1.length):=by
 obtain⟨e1,e2,e3,e4,e5,e6⟩:=DZ (S:=S) (s:=s) o5;obtain⟨n,ok,c1,h1,h2,h3,h4,-⟩:=jL hl;unfold kY;rw[e3,o7,h1,o9];cases hok:ok
 .exact⟨_,_,_,rfl,λh=>by cases h⟩
 obtain⟨w0,ht⟩:=h4 hok;simp only[F6,o6];obtain⟨t,x,c2,a1,a2,-,a3⟩:=Nu (E:=E) (c:=c1) o5 hE;rw[a1,o9];cases g1:D6 x 0<;>simp only[g1,F6,I7,o7,o6]
 .exact⟨_,_,_,rfl,λh=>absurd h (iV.1 g1)⟩
 obtain⟨v1,x1⟩:=a3 (X8.1 g1);obtain⟨y,d1,d2⟩:=Jc c2;simp only[e2,e4,o9];rw[rY G5,o9,zC,o7,d1,o9];refine⟨_,_,_,rfl,λh=>⟨(n,t),v1,by rw[e5],?_,h3⟩⟩;rw[ht,x1,d2 h,E5,b8K]
theorem Yq(hl:c.1.length<=100000)(hS:S.length<=100000):∃e R c',lJ (rdS E T (S++[s]) k N b) c=some (e,R,c')/\(e=0->∃(p:Nat) (q:H8),S[p]? =some q/\R=rdS E T (S++[(s.1,(p:Int),s.2.2)]) k N b/\txC c=spW [q.1]):=by
 obtain⟨e1,e2,e3,e4,e5,e6⟩:=DZ (S:=S) (s:=s) o5;obtain⟨n,ok,c1,h1,h2,h3,h4,-⟩:=jL hl;unfold lJ;rw[h1,o9];cases hok:ok
 .exact⟨_,_,_,rfl,λh=>by cases h⟩
 obtain⟨w0,ht⟩:=h4 hok;obtain⟨y,d1,d2⟩:=Jc c1;simp only[F6,o6,e3,o7];have hf:=Hr S (λx=>seq x.1 n) (λi=>(i:Int)) (λi=>(y,rdS E T (S++[(s.1,(i:Int),s.2.2)]) k N b,c1)) PUnit.unit o5 (f:=λ(x_1:Int)=>
      l7 (J4 x_1 (L6 IntKind.i64 (x8 (S++[s])) 1))
       (l7 (inb x_1 (x8 (S++[s])))
        (l9 (eQ (S++[s]) (bH x_1)) λ(x_2:H8)=>
         l7 (seq x_2.1 n)
          (l9 (eQ (S++[s]) (bH (L6 IntKind.i64 (x8 (S++[s])) 1))) λ(x_3:H8)=>
           l9 (iO c1) λ(x:Int×D7)=>
            some
             (Out.rt
              (x.1,
               ((E,T,
                 rM (S++[s]) (bH (L6 IntKind.i64 (x8 (S++[s])) 1)) (x_3.1,x_1,x_3.2.2)),
                k,N,b),
               x.2)))
          (some (Out.nx (G9 IntKind.i64 x_1 1))))
        none)
       (some (Out.ex PUnit.unit))) (λi a ha=>by
     have hi:=(ai.1 ha).1;have hin:inb ((i:Nat):Int) (x8 (S++[s]))=true:=by unfold inb x8;simp<;>omega
     have hg:eQ (S++[s]) (bH ((i:Nat):Int))=some a:=by unfold eQ bH;rw[E9,J5 hi];exact ha
     simp only[e1,bu (show((i:Nat):Int)<(S.length:Int) by omega),o7,hin,hg,o9];rw[←e1,e2,e4,o9,d1,o9,e5,dC o5];cases seq a.1 n<;>rfl) (by simp only[e1,X3 (sK _),o6])
 rcases hf with q|⟨j,a,ha,hp,q⟩
 .refine⟨6,rdS E T (S++[s]) k N b,c1,?_,λh=>by cases h⟩;refine X7 q ?_;rw[o9,W9]
 .refine⟨y,rdS E T (S++[(s.1,(j:Int),s.2.2)]) k N b,c1,?_,λh=>⟨j,a,ha,rfl,?_⟩⟩
  .refine X7 q ?_;rw[o9,cO]
  .rw[ht,d2 h,E5,b8J,dU.1 hp]
end
end
section
theorem a5v(s:List UInt8)(hl:s.length<=100000):∃v c,jI s=some (v,c):=by obtain⟨v,c,h,-⟩:=Cm s 0 o5 hl;exact⟨v,c,by unfold jI;rw[h];rfl⟩
theorem a5t(s:List UInt8)(k:Nat)(hk:1<=k/\k<=9)(hl:s.length<=100000):∃v c,dM s (k:Int)=some (v,c):=by
 obtain⟨v,c,h,-⟩:=Cm s (k:Int) o5 hl;have hc:fH (k:Int)=some (k:Int):=by unfold fH zi zk;congr 1;omega
 exact⟨v,c,by unfold dM;rw[hc,o9,h];rfl⟩
theorem a3V(w:List UInt8)(hl:w.length<=100000):∃a b,rE w [37]=some (a,b)/\a.length<=w.length:=by
 unfold rE oK oL;cases g:U6 (x8 ([37]:List UInt8)) (x8 w)
 .exact⟨w,false,rfl,A7 _⟩
 have hwl:1<=w.length:=by have:=iJ.1 g;unfold x8 at this;simp at this;omega
 have e1:L6 .i64 (x8 w) (x8 ([37]:List UInt8))=((w.length -1:Nat):Int):=by rw[dW (by unfold fE x8;simp;omega)];unfold x8;simp;omega
 rw[o7,e1,ql o5 o5,o9,o9];cases G7 (seq (w.drop ((w.length -1:Nat):Int).toNat) [37])
 .rw[o6,wO o5 o5];exact⟨_,_,rfl,by rw[aX];omega⟩
 .exact⟨_,_,rfl,A7 _⟩
theorem Uf(w:List UInt8)(t:Int×Int)(E:List P5)(hl:w.length<=100000)(hm:∀e∈E,e.2.length<=100002):∃v c,wE w t E=some (v,c):=by
 unfold wE;rw[qh,o9];cases hv:vty t E
 .exact⟨_,_,rfl⟩
 simp only[F6,o6];have hp:∃x,oZ w t E=some x:=by
  obtain⟨k,i⟩:=t;unfold oZ;rcases EJ hv with h1|h1|h1|h1|h1|h1
  .obtain⟨rfl,rfl⟩:k=1/\i=0:=h1;simp only[V5 (rfl:(1:Int)=1),o7];cases seq w [102,97,108,115,101]
   .cases seq w [116,114,117,101]<;>exact⟨_,rfl⟩
   .exact⟨_,rfl⟩
  .obtain⟨rfl,rfl⟩:k=2/\i=0:=h1;simp (disch:=decide) only[V5,N7,o7,o6];obtain⟨v,c,h⟩:=a5v w hl;rw[h];exact⟨_,rfl⟩
  .obtain⟨rfl,rfl⟩:k=3/\i=0:=h1;simp (disch:=decide) only[V5,N7,o7,o6];obtain⟨v,c,h⟩:=a5t w 2 o5 hl;rw[show dM w 2=some (v,c)from h];exact⟨_,rfl⟩
  .obtain⟨rfl,rfl⟩:k=4/\i=0:=h1;simp (disch:=decide) only[V5,N7,o7,o6];obtain⟨a,b,h,h2⟩:=a3V w hl;rw[h,o9];cases b
   .exact⟨_,rfl⟩
   simp only[F6,o6];obtain⟨v,c,h⟩:=a5t a 4 o5 o5;rw[show dM a 4=some (v,c)from h];exact⟨_,rfl⟩
  .obtain⟨rfl,rfl⟩:k=5/\i=0:=h1;simp (disch:=decide) only[V5,N7,o7,o6];obtain⟨v,c,h,-⟩:=zU w o5;rw[h];exact⟨_,rfl⟩
  .obtain rfl:k=6:=h1;obtain⟨e,he,hem⟩:=LQ hv rfl;have hml:=hm e hem;simp (disch:=decide) only[V5,N7,o7,o6];rw[he,o9];have hf:=Hr e.2 (λv=>seq v w) (λi=>(i:Int)) (λi=>((i:Int),(0:Int))) PUnit.unit o5 (f:=λ(x_1:Int)=>
         l7 (J4 x_1 (x8 e.2))
          (l9 (O0 e.2 x_1) λ(v:List UInt8)=>
           l7 (seq v w) (some (Out.rt (x_1,0))) (some (Out.nx (G9 IntKind.i64 x_1 1))))
          (some (Out.ex PUnit.unit))) (λi a ha=>by
     have:=(ai.1 ha).1;simp only[X9 ha,o7,U2,ha,o9];rw[dC o5];cases seq a w<;>rfl) (by simp only[Y6,o6])
   rcases hf with q|⟨j,a,ha,hp,q⟩
   .exact⟨_,by refine X7 q ?_;rw[o9,W9]⟩
   .exact⟨_,by refine X7 q ?_;rw[o9,cO]⟩
 obtain⟨x,hx⟩:=hp;rw[hx,o9];cases G7 (D6 x.2 0)
 .simp only[o6];unfold iQ;rw[zo,o9];cases U6 (bnd t E).1 x.1
  .exact⟨_,_,rfl⟩
  .rw[o7,o9];cases G7 (U6 x.1 (bnd t E).2)<;>exact⟨_,_,rfl⟩
 .exact⟨_,_,rfl⟩
variable {c:D7}
theorem XM(hl:c.1.length<=100000)(hA:Asc c.1):∃d e c',aV c false=some (d,e,c')/\c'.1.length<=c.1.length/\Asc c'.1/\(e=0->0<=d/\d<=109572/\txC c=32::(lC d++txC c')):=by
 obtain⟨w,ok,c1,h1,h2,h3,h4,h5⟩:=jL hl;obtain⟨a1,a2⟩:=h5 (λx=>x.toNat<128) hA;unfold aV;rw[h1,o9];cases hok:ok
 .exact⟨_,_,_,rfl,h2,a2,λh=>by cases h⟩
 obtain⟨w0,ht⟩:=h4 hok;simp only[F6,o6];obtain⟨v,e,h,-⟩:=zU w o5;rw[h,o9];refine⟨v,e,c1,rfl,h2,a2,λhe=>?_⟩;subst he;obtain⟨b0,b1,b2⟩:=Rn a1 o5 h;exact⟨b0,b1,by rw[ht,b2]⟩
theorem XN(hl:c.1.length<=100000)(hA:Asc c.1):∃d e c',aV c true=some (d,e,c')/\c'.1.length<=c.1.length/\Asc c'.1/\(e=0->0<=d/\d<=109573/\txC c=32::(enS d++txC c')):=by
 obtain⟨w,ok,c1,h1,h2,h3,h4,h5⟩:=jL hl;obtain⟨a1,a2⟩:=h5 (λx=>x.toNat<128) hA;unfold aV;rw[h1,o9];cases hok:ok
 .exact⟨_,_,_,rfl,h2,a2,λh=>by cases h⟩
 obtain⟨w0,ht⟩:=h4 hok;simp only[F6,o6,o7];cases g:seq w [101,110,100]
 .simp only[o6];obtain⟨v,e,h,-⟩:=zU w o5;rw[h,o9];refine⟨v,e,c1,rfl,h2,a2,λhe=>?_⟩;subst he;obtain⟨b0,b1,b2⟩:=Rn a1 o5 h;refine⟨b0,o5,?_⟩;unfold enS;rw[N7 o5,o6,ht,b2]
 .refine⟨109573,0,c1,rfl,h2,a2,λhe=>⟨o5,o5,?_⟩⟩;rw[ht,dU.1 g];rfl
section
variable {E:List P5} {T:List V4} {S:List H8} {k:Int} {N:D8} {b:Bool}
theorem Yx{t:Int×Int}(hl:c.1.length<=100000)(hA:Asc c.1)(hm:∀e∈E,e.2.length<=100000):∃n e c',dR (enR E) c t false=some (n,e,c')/\c'.1.length<=c.1.length/\Asc c'.1/\(e=0->inB n (bnd t E)=true/\fE n/\txC c=32::(vaT n t E++txC c')):=by
 obtain⟨w,ok,c1,h1,h2,h3,h4,h5⟩:=jL hl;obtain⟨a1,a2⟩:=h5 (λx=>x.toNat<128) hA;unfold dR;rw[h1,o9];cases hok:ok
 .exact⟨_,_,_,rfl,h2,a2,λh=>by cases h⟩
 obtain⟨w0,ht⟩:=h4 hok;simp only[F6,o6];obtain⟨v,e,h⟩:=Uf w t E o5 (λe he=>by have:=hm e he;omega);rw[h,o9];refine⟨v.2.2,e,c1,rfl,h2,a2,λhe=>?_⟩;have he:e=0:=he;subst he;obtain⟨b0,b1,b2,b3⟩:=a7N (n:=0) hm a1 o5 h;exact⟨b1,b3,by rw[ht,b2]⟩
theorem a5c{t:Int×Int}(hv:vty t E=true)(hl:c.1.length<=100000)(hA:Asc c.1)(hm:∀e∈E,e.2.length<=100000):∃n e c',dR (enR E) c t true=some (n,e,c')/\c'.1.length<=c.1.length/\Asc c'.1/\(e=0->fE n/\txC c=32::(hiT n t E++txC c')):=by
 obtain⟨w,ok,c1,h1,h2,h3,h4,h5⟩:=jL hl;obtain⟨a1,a2⟩:=h5 (λx=>x.toNat<128) hA;have hb:-1<=(bnd t E).2/\(bnd t E).2<=1000000000000000:=by
  obtain⟨k,i⟩:=t;rcases EJ hv with h|h|h|h|h|h
  .obtain⟨rfl,rfl⟩:k=1/\i=0:=h;rw[JE E D5];decide
  .obtain⟨rfl,rfl⟩:k=2/\i=0:=h;rw[JE E D5];decide
  .obtain⟨rfl,rfl⟩:k=3/\i=0:=h;rw[JE E D5];decide
  .obtain⟨rfl,rfl⟩:k=4/\i=0:=h;rw[JE E D5];decide
  .obtain⟨rfl,rfl⟩:k=5/\i=0:=h;rw[JE E D5];decide
  .obtain rfl:k=6:=h;obtain⟨e,he,hem⟩:=LQ hv rfl;have hml:=hm e hem;rw[a9O hv he,dW (by unfold fE x8;omega)];unfold x8;constructor<;>simp only<;>omega
 unfold dR;rw[h1,o9];cases hok:ok
 .exact⟨_,_,_,rfl,h2,a2,λh=>by cases h⟩
 obtain⟨w0,ht⟩:=h4 hok;simp only[F6,o6,o7];cases g:seq w [101,110,100]
 .simp only[o6];obtain⟨v,e,h⟩:=Uf w t E o5 (λe he=>by have:=hm e he;omega);rw[h,o9];refine⟨v.2.2,e,c1,rfl,h2,a2,λhe=>?_⟩;have he:e=0:=he;subst he;obtain⟨b0,b1,b2,b3⟩:=a7N (n:=0) hm a1 o5 h;refine⟨b3,?_⟩;unfold hiT;rw[aS (xe b1).2,o7,ht,b2]
 .simp only[o7];rw[zo,o9,eU dm];refine⟨(bnd t E).2+1,0,c1,rfl,h2,a2,λ_=>⟨by unfold fE;omega,?_⟩⟩;unfold hiT;rw[dP o5,o6,ht,dU.1 g]
def Z_(t:V4)(r:uC)(E:List P5):List (List UInt8):=[lC r.1.1,enS r.1.2,vaT r.2.1 t.2.1 E,hiT r.2.2.1 t.2.1 E,vaT r.2.2.2 t.2.2.1 E]
theorem a6f{t:V4}(hk:vty t.2.1 E=true)(hl:c.1.length<=100000)(hA:Asc c.1)(hT:T.length<=100000)(hr:t.2.2.2.length<=100000)(hm:∀e∈E,e.2.length<=100000):∃e R c',qc (rdS E (T++[t]) S k N b) c=some (e,R,c')/\(e=0->∃r:uC,R=rdS E (T++[(t.1,t.2.1,t.2.2.1,t.2.2.2++[r])]) S k N b/\txC c=spW (Z_ t r E)/\UI r):=by
 obtain⟨e1,e2,e3,e4,e5,e6⟩:=DZ (S:=T) (s:=t) o5;unfold qc;rw[e3,o7];obtain⟨d1,x1,c1,p1,q1,r1,s1⟩:=XM hl hA;rw[p1,o9];cases g1:D6 x1 0<;>simp only[g1,F6,I7,o7,o6]
 .exact⟨_,_,_,rfl,λh=>absurd h (iV.1 g1)⟩
 obtain⟨u1,u2,u3⟩:=s1 (X8.1 g1);obtain⟨d2,x2,c2,p2,q2,r2,s2⟩:=XN (c:=c1) o5 r1;rw[p2,o9];cases g2:D6 x2 0<;>simp only[g2,F6,I7,o7,o6]
 .exact⟨_,_,_,rfl,λh=>absurd h (iV.1 g2)⟩
 obtain⟨v1,v2,v3⟩:=s2 (X8.1 g2);simp only[e2,e4,o9];obtain⟨n3,x3,c3,p3,q3,r3,s3⟩:=Yx (E:=E) (t:=t.2.1) (c:=c2) o5 r2 hm;rw[p3,o9];cases g3:D6 x3 0<;>simp only[g3,F6,I7,o7,o6]
 .exact⟨_,_,_,rfl,λh=>absurd h (iV.1 g3)⟩
 obtain⟨w1,w2,w3⟩:=s3 (X8.1 g3)
 try simp only[e4,o9]
 obtain⟨n4,x4,c4,p4,q4,r4,s4⟩:=a5c (E:=E) (t:=t.2.1) (c:=c3) hk o5 r3 hm;rw[p4,o9];cases g4:D6 x4 0<;>simp only[g4,F6,I7,o7,o6]
 .exact⟨_,_,_,rfl,λh=>absurd h (iV.1 g4)⟩
 obtain⟨y1,y2⟩:=s4 (X8.1 g4)
 try simp only[e4,o9]
 obtain⟨n5,x5,c5,p5,q5,r5,s5⟩:=Yx (E:=E) (t:=t.2.2.1) (c:=c4) o5 r4 hm;rw[p5,o9];cases g5:D6 x5 0<;>simp only[g5,F6,I7,o7,o6]
 .exact⟨_,_,_,rfl,λh=>absurd h (iV.1 g5)⟩
 obtain⟨z1,z2,z3⟩:=s5 (X8.1 g5)
 try simp only[e4,o9]
 obtain⟨e,f1,f2⟩:=Jc c5;rw[rY G5,o9,zC,o7,f1,o9];refine⟨_,_,_,rfl,λh=>⟨((d1,d2),n3,n4,n5),by rw[e5],?_,w2,y1,z2⟩⟩;rw[u3,v3,w3,y2,z3,f2 h,E5];simp[Z_,spW]
end
end
section
theorem EK{c c' :D7}{w:List UInt8}{ok:Bool}(h:J8 c=some (w,ok,c'))(h0:w≠[]):ok=true:=by
 obtain⟨t,b⟩:=c;unfold J8 at h;cases b<;>simp only[F6,I7,o7,o6]at h
 .cases h;exact absurd rfl h0
 obtain⟨x,hx,h⟩:=je h;cases h;rw[WZ.2 h0];rfl
variable {c:D7}
section
variable {S:List H8} {s:H8}
theorem RD{v:List UInt8}(hl:c.1.length<=100000)(hA:Asc c.1):∃e c',fB c v=some (e,c')/\c'.1.length<=c.1.length/\Asc c'.1/\(e=0->txC c=32::(v++txC c')):=by
 obtain⟨w,ok,c1,h1,h2,h3,h4,h5⟩:=jL hl;obtain⟨a1,a2⟩:=h5 (λx=>x.toNat<128) hA;unfold fB;rw[h1,o9];cases hok:ok
 .exact⟨_,_,rfl,h2,a2,λh=>by cases h⟩
 obtain⟨w0,ht⟩:=h4 hok;simp only[F6,o6];cases g:seq w v
 .exact⟨_,_,rfl,h2,a2,λh=>by cases h⟩
 .exact⟨_,_,rfl,h2,a2,λ_=>by rw[ht,dU.1 g]⟩
theorem a5x(hl:c.1.length<=100000)(hA:Asc c.1):∃p e c',oG c=some (p,e,c')/\c'.1.length<=c.1.length/\Asc c'.1/\(e=0->1<=p/\txC c=32::(Lib.itoa p++txC c')):=by
 obtain⟨w,ok,c1,h1,h2,h3,h4,h5⟩:=jL hl;obtain⟨a1,a2⟩:=h5 (λx=>x.toNat<128) hA;unfold oG;rw[h1,o9];cases hok:ok
 .exact⟨_,_,_,rfl,h2,a2,λh=>by cases h⟩
 obtain⟨w0,ht⟩:=h4 hok;simp only[F6,o6];obtain⟨v,e,h⟩:=a5v w o5;rw[h,o9];cases g:D6 e 0<;>simp only[g,F6,I7,o7,o6]
 .exact⟨_,_,_,rfl,h2,a2,λh=>absurd h (iV.1 g)⟩
 cases g2:U6 v 0<;>simp only[o7,o6]
 .have he:=X8.1 g;rw[he]at h;have:=Hw.1 g2;exact⟨_,_,_,rfl,h2,a2,λ_=>⟨o5,by rw[ht,(a5u a1 o5 h).1]⟩⟩
 .exact⟨_,_,_,rfl,h2,a2,λh=>by cases h⟩
theorem a2w(hl:c.1.length<=100000)(hA:Asc c.1)(hS:S.length<=100000)(hd:s.2.2.2.1.length<=100000):∃d e c',pY (scR (S++[s])) c=some (d,e,c')/\c'.1.length<=c.1.length/\Asc c'.1/\(e=0->∃f,O0 s.2.2.2.1 d=some f/\txC c=32::(f.1++txC c')):=by
 obtain⟨e1,e2,e3,e4,e5,e6⟩:=DZ (S:=S) (s:=s) o5;obtain⟨w,ok,c1,h1,h2,h3,h4,h5⟩:=jL hl;obtain⟨a1,a2⟩:=h5 (λx=>x.toNat<128) hA;unfold pY;rw[h1,o9];cases hok:ok
 .exact⟨_,_,_,rfl,h2,a2,λh=>by cases h⟩
 obtain⟨w0,ht⟩:=h4 hok;simp only[F6,o6];rw[e6,o9];have hf:=Hr s.2.2.2.1 (λx=>seq x.1 w) (λi=>(i:Int)) (λi=>((i:Int),(0:Int),c1)) PUnit.unit o5 (f:=λ(x_2:Int)=>
      l7 (J4 x_2 (x8 s.2.2.2.1))
       (l9 (O0 s.2.2.2.1 x_2) λ(x_3:dK)=>
        l7 (seq x_3.1 w) (some (Out.rt (x_2,0,c1))) (some (Out.nx (G9 IntKind.i64 x_2 1))))
       (some (Out.ex PUnit.unit))) (λi a ha=>by
     have:=(ai.1 ha).1;simp only[X9 ha,o7,U2,ha,o9];rw[dC o5];cases seq a.1 w<;>rfl) (by simp only[Y6,o6])
 rcases hf with q|⟨j,a,ha,hp,q⟩
 .refine⟨0,6,c1,?_,h2,a2,λh=>by cases h⟩;refine X7 q ?_;rw[o9,W9]
 .refine⟨(j:Int),0,c1,?_,h2,a2,λ_=>⟨a,by rw[U2];exact ha,by rw[ht,dU.1 hp]⟩⟩;refine X7 q ?_;rw[o9,cO]
theorem M_(hl:c.1.length<=100000)(hA:Asc c.1)(hS:S.length<=100000)(hd:s.2.2.2.2.length<=100000):∃d e c',mO (scR (S++[s])) c=some (d,e,c')/\c'.1.length<=c.1.length/\Asc c'.1/\(e=0->∃(p:Nat) (q:ak),d=(p:Int)/\s.2.2.2.2[p]? =some q/\txC c=32::(q.1++txC c')):=by
 obtain⟨e1,e2,e3,e4,e5,e6⟩:=DZ (S:=S) (s:=s) o5;obtain⟨w,ok,c1,h1,h2,h3,h4,h5⟩:=jL hl;obtain⟨a1,a2⟩:=h5 (λx=>x.toNat<128) hA;unfold mO;rw[h1,o9];cases hok:ok
 .exact⟨_,_,_,rfl,h2,a2,λh=>by cases h⟩
 obtain⟨w0,ht⟩:=h4 hok;simp only[F6,o6];rw[e6,o9];have hf:=Hr s.2.2.2.2 (λx=>seq x.1 w) (λi=>(i:Int)) (λi=>((i:Int),(0:Int),c1)) PUnit.unit o5 (f:=λ(x_2:Int)=>
      l7 (J4 x_2 (x8 s.2.2.2.2))
       (l9 (O0 s.2.2.2.2 x_2) λ(x_3:ak)=>
        l7 (seq x_3.1 w) (some (Out.rt (x_2,0,c1))) (some (Out.nx (G9 IntKind.i64 x_2 1))))
       (some (Out.ex PUnit.unit))) (λi a ha=>by
     have:=(ai.1 ha).1;simp only[X9 ha,o7,U2,ha,o9];rw[dC o5];cases seq a.1 w<;>rfl) (by simp only[Y6,o6])
 rcases hf with q|⟨j,a,ha,hp,q⟩
 .refine⟨0,6,c1,?_,h2,a2,λh=>by cases h⟩;refine X7 q ?_;rw[o9,W9]
 .refine⟨(j:Int),0,c1,?_,h2,a2,λ_=>⟨j,a,rfl,ha,by rw[ht,dU.1 hp]⟩⟩;refine X7 q ?_;rw[o9,cO]
end
end
section
def OvR(s:H8)(p:Int)(ov:List (List UInt8)):Prop:=(ov=[]/\p=-1)\/∃(j:Nat) (q:ak),ov=[[111,118,101,114],q.1]/\p=(j:Int)/\s.2.2.2.2[j]? =some q
def PrR(p:Int)(pr:List (List UInt8)):Prop:=(pr=[]/\p=0)\/(pr=[[112,114,105,111],Lib.itoa p]/\1<=p)
structure HdR (s:H8) (t:List UInt8) (key:List UInt8) (n:List UInt8) (d p o f u:Int):Prop where
 ex:∃(g:dK) (ov pr:List (List UInt8)),O0 s.2.2.2.1 d=some g/\OvR s p ov/\PrR o pr/\t=spW ([n,[111,102],g.1]++(ov++(pr++[[102,114,111,109],lC f,[116,111],enS u,key])))
 f0:0<=f
 f1:f<=109572
 u0:0<=u
 u1:u<=109573
abbrev HdA:Type:=List UInt8×Int×D7×ak
def a7T(s:H8)(c0:D7)(a:Option HdA):Prop:=∃key e c' n d p o f u,a=some (key,e,c',n,d,p,o,(f,u),[],[],[])/\c'.1.length<=c0.1.length/\Asc c'.1/\(e=0->key≠[]->∃t,txC c0=t++txC c' /\HdR s t key n d p o f u)
section
variable {S:List H8} {s:H8}
theorem Zp{c0 c:D7}{n:List UInt8}{d p o:Int}{g:dK}{ov pr:List (List UInt8)}(hl:c.1.length<=c0.1.length)(h0:c0.1.length<=100000)(hA:Asc c.1)(hg:O0 s.2.2.2.1 d=some g)(hov:OvR s p ov)(hpr:PrR o pr)
  (ht:txC c0=spW ([n,[111,102],g.1]++(ov++(pr++[[102,114,111,109]])))++txC c):
  a7T s c0 (l9 (aV c false) λ(x_6:Int×Int×D7)=>
                l7 (G7 (D6 x_6.2.1 0))
                 (some
                  ([],x_6.2.1,x_6.2.2,n,d,p,o,
                   (x_6.1,0),[],[],[]))
                 (l9 (fB x_6.2.2 [116,111]) λ(x_7:Int×D7)=>
                  l7 (G7 (D6 x_7.1 0))
                   (some
                    ([],x_7.1,x_7.2,n,d,p,o,
                     (x_6.1,0),[],[],[]))
                   (l9 (aV x_7.2 true) λ(x_8:Int×Int×D7)=>
                    l7 (G7 (D6 x_8.2.1 0))
                     (some
                      ([],x_8.2.1,x_8.2.2,n,d,p,o,
                       (x_6.1,x_8.1),[],[],[]))
                     (l9 (J8 x_8.2.2)
                      λ(x_9:List UInt8×Bool×D7)=>
                      some
                       (x_9.1,0,x_9.2.2,n,d,p,o,
                        (x_6.1,x_8.1),[],[],[]))))):=by
 obtain⟨d1,x1,c1,p1,q1,r1,s1⟩:=XM (c:=c) o5 hA;rw[p1,o9];cases g1:D6 x1 0<;>simp only[g1,F6,I7,o7,o6]
 .exact⟨_,_,_,_,_,_,_,_,_,rfl,o5,r1,λh=>absurd h (iV.1 g1)⟩
 obtain⟨u1,u2,u3⟩:=s1 (X8.1 g1);obtain⟨x2,c2,p2,q2,r2,s2⟩:=RD (c:=c1) (v:=[116,111]) o5 r1;rw[p2,o9];cases g2:D6 x2 0<;>simp only[g2,F6,I7,o7,o6]
 .exact⟨_,_,_,_,_,_,_,_,_,rfl,o5,r2,λh=>absurd h (iV.1 g2)⟩
 have v3:=s2 (X8.1 g2);obtain⟨d3,x3,c3,p3,q3,r3,s3⟩:=XN (c:=c2) o5 r2;rw[p3,o9];cases g3:D6 x3 0<;>simp only[g3,F6,I7,o7,o6]
 .exact⟨_,_,_,_,_,_,_,_,_,rfl,o5,r3,λh=>absurd h (iV.1 g3)⟩
 obtain⟨w1,w2,w3⟩:=s3 (X8.1 g3);obtain⟨w,ok,c4,h1,h2,h3,h4,h5⟩:=jL (c:=c3) o5;obtain⟨a1,a2⟩:=h5 (λx=>x.toNat<128) r3;rw[h1,o9];refine⟨_,_,_,_,_,_,_,_,_,rfl,P8 h2 o5,a2,λ_ hk=>?_⟩;obtain⟨-,h6⟩:=h4 (EK h1 hk);refine⟨_,?_,⟨g,ov,pr,hg,hov,hpr,rfl⟩,u1,u2,w1,w2⟩;rw[ht,u3,v3,w3,h6];simp only[FX,uN,Js,F7,J9,H9,E5]
end
end
section
section
variable {S:List H8} {s:H8}
theorem KC{c0 c' :D7}{e:Int}{n:List UInt8}{d p o f u:Int}(hl:c'.1.length<=c0.1.length)(hA:Asc c'.1)(he:e≠0):a7T s c0 (some ([],e,c',n,d,p,o,(f,u),[],[],[])):=
 ⟨_,_,_,_,_,_,_,_,_,rfl,hl,hA,λh=>absurd h he⟩
theorem a1z{c0 c:D7}{n w:List UInt8}{d p:Int}{g:dK}{ov:List (List UInt8)}(hl:c.1.length<=c0.1.length)(h0:c0.1.length<=100000)(hA:Asc c.1)(hg:O0 s.2.2.2.1 d=some g)(hov:OvR s p ov)
  (ht:w≠[]->txC c0=spW ([n,[111,102],g.1]++ov)++32::(w++txC c)):
  a7T s c0 (l7 (seq w [112,114,105,111])
           (l9 (oG c) λ(x_4:Int×Int×D7)=>
            l7 (G7 (D6 x_4.2.1 0))
             (some ([],x_4.2.1,x_4.2.2,n,d,p,x_4.1,(0,0),[],[],[]))
             (l9 (J8 x_4.2.2) λ(x_5:List UInt8×Bool×D7)=>
              l7 (G7 (seq x_5.1 [102,114,111,109]))
               (some ([],2,x_5.2.2,n,d,p,x_4.1,(0,0),[],[],[]))
               (l9 (aV x_5.2.2 false) λ(x_6:Int×Int×D7)=>
                l7 (G7 (D6 x_6.2.1 0))
                 (some
                  ([],x_6.2.1,x_6.2.2,n,d,p,x_4.1,
                   (x_6.1,0),[],[],[]))
                 (l9 (fB x_6.2.2 [116,111]) λ(x_7:Int×D7)=>
                  l7 (G7 (D6 x_7.1 0))
                   (some
                    ([],x_7.1,x_7.2,n,d,p,x_4.1,
                     (x_6.1,0),[],[],[]))
                   (l9 (aV x_7.2 true) λ(x_8:Int×Int×D7)=>
                    l7 (G7 (D6 x_8.2.1 0))
                     (some
                      ([],x_8.2.1,x_8.2.2,n,d,p,x_4.1,
                       (x_6.1,x_8.1),[],[],[]))
                     (l9 (J8 x_8.2.2)
                      λ(x_9:List UInt8×Bool×D7)=>
                      some
                       (x_9.1,0,x_9.2.2,n,d,p,x_4.1,
                        (x_6.1,x_8.1),[],[],[])))))))
           (l7 (G7 (seq w [102,114,111,109])) (some ([],2,c,n,d,p,0,(0,0),[],[],[]))
            (l9 (aV c false) λ(x_4:Int×Int×D7)=>
             l7 (G7 (D6 x_4.2.1 0))
              (some
               ([],x_4.2.1,x_4.2.2,n,d,p,0,
                (x_4.1,0),[],[],[]))
              (l9 (fB x_4.2.2 [116,111]) λ(x_5:Int×D7)=>
               l7 (G7 (D6 x_5.1 0))
                (some
                 ([],x_5.1,x_5.2,n,d,p,0,
                  (x_4.1,0),[],[],[]))
                (l9 (aV x_5.2 true) λ(x_6:Int×Int×D7)=>
                 l7 (G7 (D6 x_6.2.1 0))
                  (some
                   ([],x_6.2.1,x_6.2.2,n,d,p,0,
                    (x_4.1,x_6.1),[],[],[]))
                  (l9 (J8 x_6.2.2)
                   λ(x_7:List UInt8×Bool×D7)=>
                   some
                    (x_7.1,0,x_7.2.2,n,d,p,0,
                     (x_4.1,x_6.1),[],[],[]))))))):=by
 cases gp:seq w [112,114,105,111]<;>simp only[o7,o6]
 .cases gf:seq w [102,114,111,109]<;>simp only[F6,I7,o7,o6]
  .exact KC hl hA H7
  .have hw:=dU.1 gf;refine Zp (ov:=ov) (pr:=[]) hl h0 hA hg hov (.inl ⟨rfl,rfl⟩) ?_;rw[ht (by rw[hw];decide),hw];simp only[FX,uN,Js,F7,J9,H9,E5]
 .have hw:=dU.1 gp;obtain⟨q,x1,c1,p1,q1,r1,s1⟩:=a5x (c:=c) o5 hA;rw[p1,o9];cases g1:D6 x1 0<;>simp only[g1,F6,I7,o7,o6]
  .exact KC o5 r1 (iV.1 g1)
  obtain⟨u1,u2⟩:=s1 (X8.1 g1);obtain⟨v,ok,c2,h1,h2,h3,h4,h5⟩:=jL (c:=c1) o5;obtain⟨a1,a2⟩:=h5 (λx=>x.toNat<128) r1;rw[h1,o9];cases gf:seq v [102,114,111,109]<;>simp only[gf,F6,I7,o7,o6]
  .exact KC o5 a2 H7
  .have hv:=dU.1 gf;obtain⟨-,h6⟩:=h4 (EK h1 (by rw[hv];decide));refine Zp (ov:=ov) (pr:=[[112,114,105,111],Lib.itoa q]) o5 h0 a2 hg hov (.inr ⟨rfl,u1⟩) ?_;rw[ht (by rw[hw];decide),hw,u2,h6,hv];simp only[FX,uN,Js,F7,J9,H9,E5]
theorem a4y{c:D7}(hl:c.1.length<=100000)(hA:Asc c.1)(hS:S.length<=100000)(hd:s.2.2.2.1.length<=100000)(hr:s.2.2.2.2.length<=100000):
  a7T s c (jd (scR (S++[s])) c ([],0,-1,0,(0,0),[],[],[])):=by
 unfold jd;obtain⟨n,ok,c1,h1,h2,h3,h4,h5⟩:=jL hl;obtain⟨a1,a2⟩:=h5 (λx=>x.toNat<128) hA;rw[h1,o9];cases hok:ok
 .exact KC h2 a2 H7
 obtain⟨w0,ht⟩:=h4 hok;simp only[F6,o6];obtain⟨x2,c2,p2,q2,r2,s2⟩:=RD (c:=c1) (v:=[111,102]) o5 a2;rw[p2,o9];cases g2:D6 x2 0<;>simp only[g2,F6,I7,o7,o6]
 .exact KC o5 r2 (iV.1 g2)
 have t2:=s2 (X8.1 g2);obtain⟨d,x3,c3,p3,q3,r3,s3⟩:=a2w (S:=S) (s:=s) (c:=c2) o5 r2 hS hd;rw[p3,o9];cases g3:D6 x3 0<;>simp only[g3,F6,I7,o7,o6]
 .exact KC o5 r3 (iV.1 g3)
 obtain⟨g,hg,t3⟩:=s3 (X8.1 g3);obtain⟨w,ok4,c4,k1,k2,k3,k4,k5⟩:=jL (c:=c3) o5;obtain⟨b1,b2⟩:=k5 (λx=>x.toNat<128) r3;rw[k1,o9];cases go:seq w [111,118,101,114]<;>simp only[go,o7,o6]
 .rw[o9,W9];refine a1z (ov:=[]) (c:=c4) o5 hl b2 hg (.inl ⟨rfl,rfl⟩) λhw=>?_;obtain⟨-,t4⟩:=k4 (EK k1 hw);rw[ht,t2,t3,t4];simp only[FX,uN,Js,F7,J9,H9,E5]
 .have hw:=dU.1 go;obtain⟨-,t4⟩:=k4 (EK k1 (by rw[hw];decide));obtain⟨p,x5,c5,p5,q5,r5,s5⟩:=M_ (S:=S) (s:=s) (c:=c4) o5 b2 hS hr;rw[p5,o9];cases g5:D6 x5 0<;>simp only[g5,F6,I7,o7,o6]
  .rw[o9,cO];exact KC o5 r5 (iV.1 g5)
  obtain⟨j,q,rfl,hq,t5⟩:=s5 (X8.1 g5);obtain⟨v,ok6,c6,m1,m2,m3,m4,m5⟩:=jL (c:=c5) o5;obtain⟨d1,d2⟩:=m5 (λx=>x.toNat<128) r5;rw[m1,o9,o9,W9];refine a1z (ov:=[[111,118,101,114],q.1]) (c:=c6) o5 hl d2 hg (.inr ⟨j,q,rfl,rfl,hq⟩) λhv=>?_;obtain⟨-,t6⟩:=m4 (EK m1 hv);rw[ht,t2,t3,t4,hw,t5,t6];simp only[FX,uN,Js,F7,J9,H9,E5]
end
end
section
structure NmLB (l:aG):Prop where
 ne:l.1.length<=100000
 nt:l.2.1.length<=100000
 e:∀e∈l.1,e.2.length<=100002
 s:∀s∈l.2.2,s.2.2.1.length<=100000/\s.2.2.2.1.length<=100000
variable {k:Int}
theorem R_{l:aG}(h:NmLB l){s:H8}(hs:O0 l.2.2 k=some s):ku l k=some (nmS l s):=by
 obtain⟨k0,k1,hm,-⟩:=lX hs;obtain⟨s1,s2⟩:=h.s s hm;have nt:=h.nt;unfold ku;rw[X3 k0,dP k1,o6,o6,o9,W9,hs,o9,NZ o5,o9,NZ o5,o9];refine vV l.2.1 (λ(b:D8) (t:V4)=>((b.1,b.2.1++[t.1],b.2.2):D8)) (λb i=>(b,i)) (λb=>b) (λi b=>b.2.1.length=i) (l.1,[],s.2.2.1.map (·.1),s.2.2.2.1.map (·.1),[]) o5 rfl (λi t b hx hi hI=>?_) (λb _=>?_) (λ_=>?_)
 .have hlt:=(ai.1 hx).1;simp only[X9 hx,o7,U2,hx,o9];rw[yC _ o5,o9,dC o5];exact⟨rfl,by simp;omega⟩
 .simp only[Y6 l.2.1,o6]
 .have e:∀(L:List V4) (b:D8),L.foldl (λ(b:D8) (t:V4)=>((b.1,b.2.1++[t.1],b.2.2):D8)) b=(b.1,b.2.1++L.map (·.1),b.2.2):=by
   intro L;induction L with
   |nil=>intro b;simp|cons t L ih=>intro b;rw[aT,ih];simp
  rw[e];unfold nmS;cases g:U6 0 s.2.1
  .simp[l7]
  .by_cases g2:s.2.1<x8 l.2.2
   .obtain⟨q,hq,hmq⟩:=um (iJ.1 g) g2;have:=(h.s q hmq).2;rw[bu g2,hq];simp only[o7,o9];rw[NZ o5,o9];simp
   .rw[X3 (qQ.1 g2)];have:O0 l.2.2 s.2.1=none:=by
     cases hq:O0 l.2.2 s.2.1 with
     |none=>rfl|some q=>exact absurd (lX hq).2.1 g2
    rw[this];simp[l7]
theorem a2W{l:aG}(h:NmLB l){s:H8}(hs:O0 l.2.2 k=some s):jE l k=some (nmS l s):=by rw[IP (XI (by have:=h.ne;omega) (λe he=>by have:=h.e e he;omega)) k];exact R_ h hs
theorem a0X(t sub:List UInt8)(h0:sub≠[])(hl:t.length<=1000000000):∃a r f,zT t sub=some (a,r,f)/\(f=true->t=a++(sub++r))/\(f=false->a=t):=by
 unfold zT Lib.cut;rw[if_pos o5];rcases Lib.index_spec t sub with⟨h,-⟩|⟨i,h1,h2,h3,-⟩
 .rw[h,if_neg o5];exact⟨_,_,_,rfl,(λh=>by cases h),λ_=>rfl⟩
 .rw[h1,if_pos o5,E9];refine⟨_,_,_,rfl,λ_=>?_,(λh=>by cases h)⟩;unfold Lib.occAt at h3;obtain⟨r,hr⟩:=gK.1 h3;have e2:t.drop (i+sub.length)=r:=by rw[←X0,←hr,gW]
  rw[e2,hr,X6]
theorem a4n{t:List UInt8}{N:D8}{e:List (Int×Int)}(hO:NmOkB N)(hI:∀n∈e,fE n.2)(h:lF t N=some (e,k,0)):(EZ e N).1=t/\e≠[]:=by
 have hb:=N_ ⟨k,h⟩;rw[a1h hO hI]at hb;have hf:=bD hb;refine⟨by rw[hf],λhe=>?_⟩;rw[he]at hf;have:(EZ [] N).2≠0:=by
  unfold EZ;cases hs:oV ([]:List (Int×Int))with
  |inl x=>exact Az hs|inr T=>have:=(wC hs).1;cases T<;>simp[XT.post]at this
 rw[hf]at this;exact this rfl
theorem a4B{r:List UInt8}(h:Lib.indexByte r 34=L6 .i64 (x8 r) 1)(hl:r.length<=100000)(h2:2<=r.length):∃s,r=s++[34]/\s≠[]:=by
 have e1:L6 .i64 (x8 r) 1=((r.length -1:Nat):Int):=by rw[dW (by unfold fE x8;omega)];unfold x8;omega
 rw[e1]at h;have key:∀(l:List UInt8) (j:Nat),Lib.indexByte l 34=(j:Int)->l[j]? =some 34:=by
  intro l;induction l with
  |nil=>intro j h;unfold Lib.indexByte at h;omega|cons c l ih=>
   intro j h;unfold Lib.indexByte at h;by_cases hc:c=34
   .subst hc;simp at h;have:j=0:=o5;subst this;rfl
   .have hb:(c==34)=false:=by simpa using hc
    rw[hb]at h;simp only[fD,if_false]at h;split at h
    .omega
    .cases j with
     |zero=>
      rename_i hne;have hne:Lib.indexByte l 34≠-1:=by simpa using hne
      omega
     |succ j=>exact ih j o5
 have h3:=key r (r.length -1) h;have hne:r≠[]:=by intro e;rw[e]at h2;simp at h2
 have hlast:r.getLast hne=34:=by rw[List.getLast_eq_getElem];rw[mW (show r.length -1<r.length by omega)]at h3;exact bD h3
 refine⟨r.dropLast,by rw[←hlast];exact(iY hne).symm,?_⟩;intro e;have:=congrArg List.length e;simp at this;omega
end
section
theorem a2H{N:D8}(hN:NmLe N)(hO:NmOkB N){c:D7}(hl:c.1.length<=100000)(hA:Asc c.1):∃g e c',nU ((PUnit.unit,PUnit.unit,PUnit.unit),PUnit.unit,N,PUnit.unit) c=some (g,e,c')/\c'.1.length<=c.1.length/\Asc c'.1/\(e=0->c.2=true/\c'.2=true/\g≠[]/\(∀n∈g,fE n.2)/\c.1=(EZ g N).1++(sIs++c'.1)):=by
 unfold nU;cases hb:c.2<;>simp only[F6,I7,o7,o6]
 .exact⟨_,_,_,rfl,A7 _,hA,λh=>by cases h⟩
 obtain⟨a,r,f,h1,h2,h3⟩:=a0X c.1 [32,105,115,32] D5 o5;rw[h1,o9];cases hf:f<;>simp only[F6,I7,o7,o6]
 .exact⟨_,_,_,rfl,A7 _,hA,λh=>by cases h⟩
 have ht:=h2 hf;have hAa:Asc a:=λx hx=>hA x (by rw[ht];simp[hx]);have hAr:Asc r:=λx hx=>hA x (by rw[ht];simp[hx]);obtain⟨g,k,x,hx,hI⟩:=SY hAa hN hO;rw[hx,o9];refine⟨_,_,_,rfl,by rw[ht];simp;omega,hAr,λhe=>?_⟩;have he:x=0:=he;subst he;obtain⟨q1,q2⟩:=a4n hO hI hx;exact⟨trivial,rfl,q2,hI,by rw[q1];exact ht⟩
section
variable {E:List P5} {T:List V4} {S:List H8} {s:H8} {k:Int} {N:D8} {b:Bool}
structure RuR (s:H8) (N0:D8) (t:List UInt8) (r:ak):Prop where
 ex:∃(g:dK) (ov pr:List (List UInt8)),O0 s.2.2.2.1 r.2.1=some g/\OvR s r.2.2.1 ov/\PrR r.2.2.2.1 pr/\t=spW ([r.1,[111,102],g.1]++(ov++(pr++[[102,114,111,109],lC r.2.2.2.2.1.1,[116,111],enS r.2.2.2.2.1.2,a8r r])))++32::a9d r N0
 ig:∀n∈r.2.2.2.2.2.1,fE n.2
 iv:∀n∈r.2.2.2.2.2.2.1,fE n.2
theorem a6i{c:D7}{N0:D8}(hl:c.1.length<=100000)(hA:Asc c.1)(hS:S.length<=100000)(hd:s.2.2.2.1.length<=100000)(hr:s.2.2.2.2.length<=100000)
  (hn:b=true->N=N0) (hn2:b=false->jE (E,T,S++[s]) (L6 .i64 (x8 (S++[s])) 1)=some N0) (hN:NmLe N0) (hO:NmOkB N0):
  ∃e R c',oO (rdS E T (S++[s]) k N b) c=some (e,R,c')/\(e=0->∃r:ak,R=rdS E T (S++[(s.1,s.2.1,s.2.2.1,s.2.2.2.1,s.2.2.2.2++[r])]) k N0 true/\RuR s N0 (txC c) r):=by
 obtain⟨e1,e2,e3,e4,e5,e6⟩:=DZ (S:=S) (s:=s) o5;obtain⟨key,x,c1,n,d,p,o,f,u,h1,h2,h3,h4⟩:=a4y (S:=S) (s:=s) hl hA hS hd hr;unfold oO;rw[show jd ((PUnit.unit,PUnit.unit,S++[s]),PUnit.unit,(PUnit.unit,PUnit.unit,PUnit.unit,PUnit.unit,PUnit.unit),PUnit.unit) c ([],0,-1,0,(0,0),[],[],[])=_ from h1,o9];cases gx:D6 x 0<;>simp only[gx,F6,I7,o7,o6]
 .exact⟨_,_,_,rfl,λh=>absurd h (iV.1 gx)⟩
 have hnm:(l7 (G7 b)
    (l9 (jE (E,T,S++[s]) (L6 IntKind.i64 (x8 (S++[s])) 1)) λ(x:D8)=>
     some (((E,T,S++[s]),k,x,true):O6))
    (some ((E,T,S++[s]),k,N,b)))=some ((E,T,S++[s]),k,N0,true):=by
  cases b
  .rw[I7,o7,hn2 rfl];rfl
  .rw[hn rfl];rfl
 have val:∀(g:List (Int×Int)) (c2:D7),c2.1.length<=100000->Asc c2.1->(∀n∈g,fE n.2)->∀Y:O6,Y=((E,T,S++[s]),k,N0,true)->
   ∃e R c',(l7 (G7 c2.2) (some (2,Y,c2))
       (l9 (zT c2.1 [32,115,114,99,32,34]) λ(x_2:List UInt8×D7)=>
        l9 (lF x_2.1 Y.2.2.1) λ(x_3:List I9×I9)=>
         l7 (G7 (D6 x_3.2.2 0)) (some (x_3.2.2,Y,c2))
          (l7 x_2.2.2
           (l9 (oU x_2.2.1 34) λ(x_4:Int)=>
            l7 (G7 (D6 x_4 (L6 IntKind.i64 (x8 x_2.2.1) 1))) (some (2,Y,c2))
             (l7 (J4 (x8 x_2.2.1) 2) (some (2,Y,c2))
              (l9 (fO x_2.2.1 0 (L6 IntKind.i64 (x8 x_2.2.1) 1)) λ(x_5:List UInt8)=>
               l7 (inb (L6 IntKind.i64 (x8 Y.1.2.2) 1) (x8 Y.1.2.2))
                (l9 (eQ Y.1.2.2 (bH (L6 IntKind.i64 (x8 Y.1.2.2) 1)))
                 λ(x_6:H8)=>
                 l9
                  (dB x_6.2.2.2.2
                   [(n,d,p,o,(f,u),g,x_3.1,
                     x_5)])
                  λ(x_7:List ak)=>
                  l7
                   (Fv (bH (L6 IntKind.i64 (x8 Y.1.2.2) 1))
                    (bH (L6 IntKind.i64 (x8 Y.1.2.2) 1)))
                   (l9 (eQ Y.1.2.2 (bH (L6 IntKind.i64 (x8 Y.1.2.2) 1)))
                    λ(x_8:H8)=>
                    some
                     (0,
                      ((Y.1.1,Y.1.2.1,
                        rM Y.1.2.2 (bH (L6 IntKind.i64 (x8 Y.1.2.2) 1))
                         (x_8.1,x_8.2.1,x_8.2.2.1,x_8.2.2.2.1,x_7)),
                       Y.2),
                      c2))
                   none)
                none)))
           (l7 (inb (L6 IntKind.i64 (x8 Y.1.2.2) 1) (x8 Y.1.2.2))
            (l9 (eQ Y.1.2.2 (bH (L6 IntKind.i64 (x8 Y.1.2.2) 1))) λ(x_4:H8)=>
             l9
              (dB x_4.2.2.2.2
               [(n,d,p,o,(f,u),g,x_3.1,
                 [])])
              λ(x_5:List ak)=>
              l7
               (Fv (bH (L6 IntKind.i64 (x8 Y.1.2.2) 1))
                (bH (L6 IntKind.i64 (x8 Y.1.2.2) 1)))
               (l9 (eQ Y.1.2.2 (bH (L6 IntKind.i64 (x8 Y.1.2.2) 1))) λ(x_6:H8)=>
                some
                 (0,
                  ((Y.1.1,Y.1.2.1,
                    rM Y.1.2.2 (bH (L6 IntKind.i64 (x8 Y.1.2.2) 1))
                     (x_6.1,x_6.2.1,x_6.2.2.1,x_6.2.2.2.1,x_5)),
                   Y.2),
                  c2))
               none)
            none))))=some ((e,R,c'):Int×O6×D7)/\(e=0->c2.2=true/\∃(v:List (Int×Int)) (z:List UInt8),R=rdS E T (S++[(s.1,s.2.1,s.2.2.1,s.2.2.2.1,s.2.2.2.2++[(n,d,p,o,(f,u),g,v,z)])]) k N0 true/\(∀n∈v,fE n.2)/\c2.1=(EZ v N0).1++soT z):=by
  rintro g c2 hl2 hA2 hg Y rfl;cases hb2:c2.2<;>simp only[F6,I7,o7,o6]
  .exact⟨_,_,_,rfl,λh=>by cases h⟩
  obtain⟨a,r,fl,q1,q2,q3⟩:=a0X c2.1 [32,115,114,99,32,34] D5 o5;have hAa:Asc a:=by
   cases fl with
   |true=>exact λy hy=>hA2 y (by rw[q2 rfl];simp[hy])|false=>rw[q3 rfl];exact hA2
  obtain⟨v,kk,y,hy,hI⟩:=SY hAa hN hO;rw[q1,o9,hy,o9];cases gy:D6 y 0<;>simp only[gy,F6,I7,o7,o6]
  .exact⟨_,_,_,rfl,λh=>absurd h (iV.1 gy)⟩
  rw[X8.1 gy]at hy;obtain⟨w1,w2⟩:=a4n hO hI hy;cases fl
  .simp only[o6,e3,o7,e2,e4,o9];rw[rY G5,o9,zC,o7];refine⟨_,_,_,rfl,λ_=>⟨trivial,v,[],by rw[e5],hI,?_⟩⟩;rw[w1,←q3 rfl];show a=a++[];rw[E5]
  .have ht:=q2 rfl;simp only[o7];have hix:oU r 34=some (Lib.indexByte r 34):=rfl;rw[hix,o9];cases gi:D6 (Lib.indexByte r 34) (L6 IntKind.i64 (x8 r) 1)<;>simp only[F6,I7,o7,o6]
   .exact⟨_,_,_,rfl,λh=>by cases h⟩
   cases g2:J4 (x8 r) 2<;>simp only[o7,o6]
   case true=>exact⟨_,_,_,rfl,λh=>by cases h⟩
   have hrl:r.length<=100000:=by have:=congrArg List.length ht;simp at this;omega
   have h2l:2<=r.length:=by have:=lg.1 g2;unfold x8 at this;omega
   obtain⟨z,rfl,hz⟩:=a4B (X8.1 gi) hrl h2l;have e7:L6 .i64 (x8 (z++[34])) 1=(z.length:Int):=by rw[dW (by unfold fE x8;simp at hrl ⊢;omega)];unfold x8;simp
   rw[e7,wO o5 (by simp<;>omega),o9,E9,gY];simp only[e3,o7,e2,e4,o9];rw[rY G5,o9,zC,o7];refine⟨_,_,_,rfl,λ_=>⟨trivial,v,z,by rw[e5],hI,?_⟩⟩;rw[w1,ht];unfold soT;rw[WZ.2 hz];rfl
 refine(λH=>?_) (trivial:True);cases gw:seq key [119,104,101,110]
 .cases gi:seq key [105,115]
  .refine⟨2,((E,T,S++[s]),k,N0,true),c1,?_,λh=>by cases h⟩;refine X7 hnm ?_;rw[o9];simp only[I7,o7,o6,o9,cO]
  .obtain⟨e,R,c',hq,hz⟩:=val [] c1 o5 h3 (λn hn=>by cases hn) _ rfl;refine⟨e,R,c',?_,λhe=>?_⟩
   .refine X7 hnm ?_;rw[o9];simp only[F6,o7,o6,o9,W9];exact hq
   .obtain⟨z1,v,z,z2,z3,z4⟩:=hz he;obtain⟨t,ht,hh⟩:=h4 (X8.1 gx) (by rw[dU.1 gi];decide);obtain⟨g,ov,pr,y1,y2,y3,y4⟩:=hh.ex;refine⟨(n,d,p,o,(f,u),[],v,z),z2,⟨g,ov,pr,y1,y2,y3,?_⟩,(λn hn=>by cases hn),z3⟩;rw[ht,y4,dU.1 gi];show _++txC c1=_++32::((EZ v N0).1++soT z);rw[←z4];unfold txC;rw[z1];rfl
 .obtain⟨g,ge,c2,k1,k2,k3,k4⟩:=a2H hN hO (c:=c1) o5 h3;cases gg:D6 ge 0
  .refine⟨ge,((E,T,S++[s]),k,N0,true),c2,?_,λh=>absurd h (iV.1 gg)⟩;refine X7 hnm ?_;rw[o9];simp only[o7,k1,o9,gg,I7,cO]
  .obtain⟨m1,m2,m3,m4,m5⟩:=k4 (X8.1 gg);obtain⟨e,R,c',hq,hz⟩:=val g c2 o5 k3 m4 _ rfl;refine⟨e,R,c',?_,λhe=>?_⟩
   .refine X7 hnm ?_;rw[o9];simp only[o7,k1,o9,gg,F6,o6,W9];exact hq
   .obtain⟨z1,v,z,z2,z3,z4⟩:=hz he;obtain⟨t,ht,hh⟩:=h4 (X8.1 gx) (by rw[dU.1 gw];decide);obtain⟨gf,ov,pr,y1,y2,y3,y4⟩:=hh.ex;have hne:J4 0 (x8 g)=true:=by
     cases g with
     |nil=>exact absurd rfl m3|cons a l=>exact bu (by unfold x8;simp<;>omega)
    refine⟨(n,d,p,o,(f,u),g,v,z),z2,⟨gf,ov,pr,y1,y2,y3,?_⟩,m4,z3⟩;unfold a8r a9d;simp only;rw[hne,o7,o7,ht,y4,dU.1 gw,←z4,←m5];unfold txC;rw[m1];rfl
end
end
section
structure PreR (E:List P5) (T:List V4) (S:List H8) (k:Int) (N:D8) (b:Bool):Prop where
 nE:E.length<=100000
 nT:T.length<=100000
 nS:S.length<=100000
 mE:∀e∈E,e.2.length<=100000
 t1:k=1->∃T0 t,T=T0++[t]/\vty t.2.1 E=true/\t.2.2.2.length<=100000
 s2:2<=k->∃S0 s,S=S0++[s]/\s.2.2.1.length<=100000/\s.2.2.2.1.length<=100000/\s.2.2.2.2.length<=100000/\(b=true->N=nmS (E,T,S) s)/\NmLe (nmS (E,T,S) s)/\NmOkB (nmS (E,T,S) s)
 nm:NmLB (E,T,S)
inductive LineI (E:List P5) (T:List V4) (S:List H8) (k:Int) (N:D8) (b:Bool) (w:List UInt8):O6->Prop
 |en (n:List UInt8) (ms:List (List UInt8)):k=0->ms≠[]->w=lnW Nz (n::ms)->LineI E T S k N b w (rdS (E++[(n,ms)]) T S k N b)
 |tb (n:List UInt8) (t u:Int×Int):k<=1->vty t E=true->vty u E=true->w=lnW Eb [n,tyS t E,tyS u E]->LineI E T S k N b w (rdS E (T++[(n,t,u,[])]) S 1 N b)
 |ro (T0:List V4) (t:V4) (r:uC):k=1->T=T0++[t]->w=lnW OX (Z_ t r E)->UI r->LineI E T S k N b w (rdS E (T0++[(t.1,t.2.1,t.2.2.1,t.2.2.2++[r])]) S k N b)
 |sc (n:List UInt8):w=lnW CZ [n]->LineI E T S k N b w (rdS E T (S++[(n,-1,[],[],[])]) 2 nmZ false)
 |me (S0:List H8) (s q:H8) (p:Nat):k=2->S=S0++[s]->S0[p]? =some q->w=lnW wF [q.1]->LineI E T S k N b w (rdS E T (S0++[(s.1,(p:Int),s.2.2)]) 3 N b)
 |inp (S0:List H8) (s:H8) (f:dK):2<=k->k<=4->S=S0++[s]->vty f.2 E=true->w=lnW xR [f.1,tyS f.2 E]->LineI E T S k N b w (rdS E T (S0++[(s.1,s.2.1,s.2.2.1++[f],s.2.2.2)]) 4 N b)
 |de (S0:List H8) (s:H8) (f:dK):2<=k->k<=5->S=S0++[s]->vty f.2 E=true->w=lnW Le [f.1,tyS f.2 E]->LineI E T S k N b w (rdS E T (S0++[(s.1,s.2.1,s.2.2.1,s.2.2.2.1++[f],s.2.2.2.2)]) 5 N b)
 |ru (S0:List H8) (s:H8) (r:ak) (t:List UInt8):2<=k->S=S0++[s]->RuR s (nmS (E,T,S) s) t r->w=DK++t->LineI E T S k N b w (rdS E T (S0++[(s.1,s.2.1,s.2.2.1,s.2.2.2.1,s.2.2.2.2++[r])]) 6 (nmS (E,T,S) s) true)
section
variable {E:List P5} {T:List V4} {S:List H8} {k:Int} {N:D8} {b:Bool}
theorem a5U{w:List UInt8}(P:PreR E T S k N b)(hl:w.length<=100000)(hA:Asc w):∃e R,pK (rdS E T S k N b) w=some (e,R)/\(e=0->LineI E T S k N b w R):=by
 obtain⟨x,ok,c,h1,h2,h3,h4,h5⟩:=jL (c:=(w,true)) hl;obtain⟨a1,a2⟩:=h5 (λx=>x.toNat<128) hA;have h2:c.1.length<=w.length:=h2;have hcl:c.1.length<=100000:=o5;have hw:x≠[]->w=x++txC c:=λh=>by obtain⟨-,e⟩:=h4 (EK h1 h);exact U0 e |>.2
 unfold pK;rw[h1,o9];have hE:=P.nE;have hT:=P.nT;have hS:=P.nS;cases g1:seq x [101,110,117,109]
 case true=>
  have hx:=dU.1 g1;have hw:=hw (by rw[hx];decide);rw[hx]at hw;simp only[hx,o7,o9];cases k0:D6 k 0
  .simp only[o6,show seq [101,110,117,109] [116,97,98,108,101]=false from rfl,show seq [101,110,117,109] [114,111,119]=false from rfl,show seq [101,110,117,109] [115,99,111,112,101]=false from rfl,show seq [101,110,117,109] [109,101,109,98,101,114,115]=false from rfl,show seq [101,110,117,109] [105,110,112,117,116]=false from rfl,show seq [101,110,117,109] [100,101,102]=false from rfl,show seq [101,110,117,109] [114,117,108,101]=false from rfl,o9];exact⟨2,_,rfl,λh=>by cases h⟩
  .simp only[o7];obtain⟨e,R,c',q1,q2⟩:=a4i (T:=T) (S:=S) (k:=k) (N:=N) (b:=b) hcl hE;rw[q1,o9];refine⟨e,R,rfl,λhe=>?_⟩;obtain⟨n,ms,r1,r2,r3,-⟩:=q2 he;rw[r2];exact .en n ms (X8.1 k0) r1 (by rw[hw,r3];rfl)
 simp only[o6,o9];cases g2:seq x [116,97,98,108,101]
 case true=>
  have hx:=dU.1 g2;have hw:=hw (by rw[hx];decide);rw[hx]at hw;simp only[hx,o7,o9];cases k0:U6 k 1
  .simp only[o6,show seq [116,97,98,108,101] [114,111,119]=false from rfl,show seq [116,97,98,108,101] [115,99,111,112,101]=false from rfl,show seq [116,97,98,108,101] [109,101,109,98,101,114,115]=false from rfl,show seq [116,97,98,108,101] [105,110,112,117,116]=false from rfl,show seq [116,97,98,108,101] [100,101,102]=false from rfl,show seq [116,97,98,108,101] [114,117,108,101]=false from rfl,o9];exact⟨2,_,rfl,λh=>by cases h⟩
  .simp only[o7];obtain⟨e,R,c',q1,q2⟩:=a3x (S:=S) (k:=1) (N:=N) (b:=b) hcl hE hT;rw[q1,o9];refine⟨e,R,rfl,λhe=>?_⟩;obtain⟨n,t,u,r1,r2,r3,r4,-⟩:=q2 he;rw[r3];exact .tb n t u (iJ.1 k0) r1 r2 (by rw[hw,r4];rfl)
 simp only[o6,o9];cases g3:seq x [114,111,119]
 case true=>
  have hx:=dU.1 g3;have hw:=hw (by rw[hx];decide);rw[hx]at hw;simp only[hx,o7,o9];cases k0:D6 k 1
  .simp only[o6,show seq [114,111,119] [115,99,111,112,101]=false from rfl,show seq [114,111,119] [109,101,109,98,101,114,115]=false from rfl,show seq [114,111,119] [105,110,112,117,116]=false from rfl,show seq [114,111,119] [100,101,102]=false from rfl,show seq [114,111,119] [114,117,108,101]=false from rfl,o9];exact⟨2,_,rfl,λh=>by cases h⟩
  .simp only[o7];obtain⟨T0,t,rfl,t2,t3⟩:=P.t1 (X8.1 k0);obtain⟨e,R,c',q1,q2⟩:=a6f (T:=T0) (S:=S) (k:=k) (N:=N) (b:=b) t2 hcl a2 (by simp at hT;omega) t3 P.mE;rw[q1,o9];refine⟨e,R,rfl,λhe=>?_⟩;obtain⟨r,r1,r2,r3⟩:=q2 he;rw[r1];exact .ro T0 t r (X8.1 k0) rfl (by rw[hw,r2];rfl) r3
 simp only[o6,o9];cases g4:seq x [115,99,111,112,101]
 case true=>have hx:=dU.1 g4;have hw:=hw (by rw[hx];decide);rw[hx]at hw;simp only[o7];obtain⟨e,R,c',q1,q2⟩:=a3t (E:=E) (T:=T) (k:=2) (N:=N) (b:=b) hcl hS;rw[q1,o9];refine⟨e,R,rfl,λhe=>?_⟩;obtain⟨n,r1,r2,-⟩:=q2 he;rw[r1];exact .sc n (by rw[hw,r2];rfl)
 simp only[o6,o9];cases g5:seq x [109,101,109,98,101,114,115]
 case true=>
  have hx:=dU.1 g5;have hw:=hw (by rw[hx];decide);rw[hx]at hw;simp only[hx,o7,o9];cases k0:D6 k 2
  .simp only[o6,show seq [109,101,109,98,101,114,115] [105,110,112,117,116]=false from rfl,show seq [109,101,109,98,101,114,115] [100,101,102]=false from rfl,show seq [109,101,109,98,101,114,115] [114,117,108,101]=false from rfl,o9];exact⟨2,_,rfl,λh=>by cases h⟩
  .simp only[o7];have hk2:=X8.1 k0;obtain⟨S0,s,rfl,-⟩:=P.s2 o5;obtain⟨e,R,c',q1,q2⟩:=Yq (E:=E) (T:=T) (S:=S0) (s:=s) (k:=3) (N:=N) (b:=b) hcl (by simp at hS;omega);rw[q1,o9];refine⟨e,R,rfl,λhe=>?_⟩;obtain⟨p,q,r1,r2,r3⟩:=q2 he;rw[r2];exact .me S0 s q p hk2 rfl r1 (by rw[hw,r3];rfl)
 simp only[o6,o9];cases g6:seq x [105,110,112,117,116]
 case true=>
  have hx:=dU.1 g6;have hw:=hw (by rw[hx];decide);rw[hx]at hw;simp only[hx,o7];have no:∀{v:Option (Int×O6)},v=some (2,rdS E T S k N b)->∃e R,v=some (e,R)/\(e=0->LineI E T S k N b w R):=λh=>⟨2,_,h,λh=>by cases h⟩;cases k0:U6 2 k
  .simp only[o6,o9,show seq [105,110,112,117,116] [100,101,102]=false from rfl,show seq [105,110,112,117,116] [114,117,108,101]=false from rfl];exact no rfl
  simp only[o7,o9];cases k1:U6 k 4
  .simp only[o6,o9,show seq [105,110,112,117,116] [100,101,102]=false from rfl,show seq [105,110,112,117,116] [114,117,108,101]=false from rfl];exact no rfl
  simp only[o7];obtain⟨S0,s,rfl,d1,d2,d3,-⟩:=P.s2 (iJ.1 k0);obtain⟨e1,e2,e3,e4,e5,e6⟩:=DZ (S:=S0) (s:=s) (by simp at hS;omega);obtain⟨e,R,c',q1,q2⟩:=a2M (T:=T) (S:=S0) (s:=s) (k:=4) (N:=N) (b:=b) hcl hE (by simp at hS;omega) d1;rw[e3,o7,o7,zC,o7,q1,o9];refine⟨e,R,rfl,λhe=>?_⟩;obtain⟨f,r1,r2,r3,-⟩:=q2 he;rw[r2];exact .inp S0 s f (iJ.1 k0) (iJ.1 k1) rfl r1 (by rw[hw,r3];rfl)
 simp only[o6,o9];cases g7:seq x [100,101,102]
 case true=>
  have hx:=dU.1 g7;have hw:=hw (by rw[hx];decide);rw[hx]at hw;simp only[hx,o7];have no:∀{v:Option (Int×O6)},v=some (2,rdS E T S k N b)->∃e R,v=some (e,R)/\(e=0->LineI E T S k N b w R):=λh=>⟨2,_,h,λh=>by cases h⟩;cases k0:U6 2 k
  .simp only[o6,o9,show seq [100,101,102] [114,117,108,101]=false from rfl];exact no rfl
  simp only[o7,o9];cases k1:U6 k 5
  .simp only[o6,o9,show seq [100,101,102] [114,117,108,101]=false from rfl];exact no rfl
  simp only[o7];obtain⟨S0,s,rfl,d1,d2,d3,-⟩:=P.s2 (iJ.1 k0);obtain⟨e1,e2,e3,e4,e5,e6⟩:=DZ (S:=S0) (s:=s) (by simp at hS;omega);obtain⟨e,R,c',q1,q2⟩:=a8c (T:=T) (S:=S0) (s:=s) (k:=5) (N:=N) (b:=b) hcl hE (by simp at hS;omega) d2;rw[e3,o7,o7,zC,o7,q1,o9];refine⟨e,R,rfl,λhe=>?_⟩;obtain⟨f,r1,r2,r3,-⟩:=q2 he;rw[r2];exact .de S0 s f (iJ.1 k0) (iJ.1 k1) rfl r1 (by rw[hw,r3];rfl)
 simp only[o6,o9];cases g8:seq x [114,117,108,101]
 .simp only[o6];exact⟨2,_,rfl,λh=>by cases h⟩
 have hx:=dU.1 g8;have hw:=hw (by rw[hx];decide);rw[hx]at hw;simp only[o7];cases k0:U6 2 k
 .simp only[o6];exact⟨2,_,rfl,λh=>by cases h⟩
 simp only[o7];obtain⟨S0,s,rfl,d1,d2,d3,d4,d5,d6⟩:=P.s2 (iJ.1 k0);obtain⟨e1,e2,e3,e4,e5,e6⟩:=DZ (S:=S0) (s:=s) (by simp at hS;omega);obtain⟨e,R,c',q1,q2⟩:=a6i (E:=E) (T:=T) (S:=S0) (s:=s) (k:=6) (N:=N) (b:=b) hcl a2 (by simp at hS;omega) d2 d3 d4 (λ_=>a2W P.nm (k:=L6 .i64 (x8 (S0++[s])) 1) e6) d5 d6;rw[q1,o9];refine⟨e,R,rfl,λhe=>?_⟩;obtain⟨r,r1,r2⟩:=q2 he;rw[r1];exact .ru S0 s r (txC c) (iJ.1 k0) rfl r2 hw
end
end
section
def MbI(n:Nat)(p:Int):Prop:=p=-1\/∃j:Nat,p=(j:Int)/\j<n
theorem Wn{α:Type}{A X Y:List α}{p:Int}(h:MbI A.length p):O0 (A++X) p=O0 (A++Y) p:=by
 rcases h with rfl|⟨j,rfl,hj⟩
 .rfl
 .rw[U2,U2,J5 hj,J5 hj]
variable {s:H8}
section
variable {E:List P5} {T:List V4} {A X Y:List H8}
theorem C_{s s' :H8}(h:MbI A.length s.2.1)(h1:s'.2.1=s.2.1)(h2:s'.2.2.1=s.2.2.1)(h3:s'.2.2.2.1=s.2.2.2.1):nmS (E,T,A++X) s=nmS (E,T,A++Y) s' :=by have e:O0 (A++X) s.2.1=O0 (A++Y) s.2.1:=Wn h;unfold nmS;rw[h1,h2,h3];simp only[e]
theorem Wu{s s' :H8}(h:MbI A.length s.2.1)(h1:s'.2.1=s.2.1):LY (E,T,A++X) s=LY (E,T,A++Y) s' :=by have e:O0 (A++X) s.2.1=O0 (A++Y) s.2.1:=Wn h;unfold LY meN;rw[h1];simp only[e]
theorem b1E(h:MbI A.length s.2.1):rW (E,T,A++X) s=rW (E,T,A++Y) s:=by
 unfold rW;rw[Wu (Y:=Y) h (rfl:s.2.1=s.2.1)];have hn:nmS (E,T,A++X) s=nmS (E,T,A++Y) s:=C_ h rfl rfl rfl;have hr:TL (E,T,A++X) s=TL (E,T,A++Y) s:=by funext r;unfold TL;rw[hn]
 rw[hr];rfl
theorem b1d{d1 d2:List ak}{r:ak}{N:D8}(h:MbI d1.length r.2.2.1):ruW (s.1,s.2.1,s.2.2.1,s.2.2.2.1,d1++d2) r N=ruW (s.1,s.2.1,s.2.2.1,s.2.2.2.1,d1) r N:=by
 have e:O0 (d1++d2) r.2.2.1=O0 d1 r.2.2.1:=by have:=Wn (A:=d1) (X:=d2) (Y:=[]) h;rw[E5]at this;exact this
 unfold ruW dnS ovS;simp only[e]
theorem VC{N0:D8}{t:List UInt8}{r:ak}(h:RuR s N0 t r):t=spW (ruW s r N0)/\MbI s.2.2.2.2.length r.2.2.1:=by
 obtain⟨g,ov,pr,h1,h2,h3,h4⟩:=h.ex;have hdn:dnS s r=g.1:=by unfold dnS;rw[h1];rfl
 have hov:ov=ovS s r:=by
  rcases h2 with⟨rfl,e⟩|⟨j,q,rfl,e,hq⟩
  .unfold ovS;rw[e];rfl
  .unfold ovS;rw[e,aS o5,U2,hq];rfl
 have hpr:pr=prS r:=by
  rcases h3 with⟨rfl,e⟩|⟨rfl,e⟩
  .unfold prS;rw[e];rfl
  .unfold prS;rw[bu o5];rfl
 refine⟨?_,?_⟩
 .rw[a6h,h4];unfold ruP;rw[hdn,hov,hpr]
 .rcases h2 with⟨-,e⟩|⟨j,q,-,e,hq⟩
  .exact .inl e
  .exact .inr ⟨j,e,(ai.1 hq).1⟩
end
end
section
def tbC(E:List P5)(t:V4):List (List UInt8):=lnW Eb [t.1,tyS t.2.1 E,tyS t.2.2.1 E]::t.2.2.2.map (λr=>lnW OX (Z_ t r E))
def liC(l:aG):List (List UInt8):=l.1.map d_++(l.2.1.flatMap (tbC l.1)++l.2.2.flatMap (rW l))
theorem We{α β:Type}{f g:α->List β} :∀{L:List α},(∀a∈L,f a=g a)->L.flatMap f=L.flatMap g
 |[],_=>rfl|a::L,h=>by rw[ae,ae,h a D5,We λx hx=>h x (by simp[hx])]
structure OrdI (S:List H8):Prop where
 mb:∀(i:Nat) s,S[i]? =some s->MbI i s.2.1
variable {p:Int}
theorem Qw{n m:Nat}(h:MbI n p)(hm:n<=m):MbI m p:=by
 rcases h with h|⟨j,e,hj⟩
 .exact .inl h
 .exact .inr ⟨j,e,o5⟩
variable {n:List UInt8}
section
variable {E:List P5} {T:List V4} {S0:List H8}
theorem a6E{X Y:List H8}(hO:OrdI S0):S0.flatMap (rW (E,T,S0++X))=S0.flatMap (rW (E,T,S0++Y)):=
 We λs hs=>by obtain⟨i,hi⟩:=KJ hs;have:=(ai.1 hi).1;exact b1E (Qw (hO.mb i s hi) o5)
theorem b3I{e:P5} :liC (E++[e],[],[])=liC (E,[],[])++[d_ e]:=by unfold liC;simp
theorem b3P{t u:Int×Int} :liC (E,T++[(n,t,u,[])],[])=liC (E,T,[])++[lnW Eb [n,tyS t E,tyS u E]]:=by unfold liC;simp[tbC]
theorem b3M{t:V4}{r:uC} :liC (E,T++[(t.1,t.2.1,t.2.2.1,t.2.2.2++[r])],[])=liC (E,T++[t],[])++[lnW OX (Z_ t r E)]:=by
 unfold liC;have:tbC E (t.1,t.2.1,t.2.2.1,t.2.2.2++[r])=tbC E t++[lnW OX (Z_ t r E)]:=by unfold tbC;simp only[ed,dL,jV,J9];rfl
 simp[this]
theorem Qv{s s' :H8}{w:List UInt8}(hO:OrdI S0)(h:rW (E,T,S0++[s']) s' =rW (E,T,S0++[s]) s++[w]):liC (E,T,S0++[s'])=liC (E,T,S0++[s])++[w]:=by unfold liC;simp only[gB,ae,List.flatMap_nil,E5];rw[h,a6E (X:=[s']) (Y:=[s]) hO];simp only[F7]
theorem b3O(hO:OrdI S0):liC (E,T,S0++[(n,-1,[],[],[])])=liC (E,T,S0)++[lnW CZ [n]]:=by unfold liC;simp only[gB,ae,List.flatMap_nil,E5];have h2:=a6E (E:=E) (T:=T) (X:=[(n,-1,[],[],[])]) (Y:=[]) hO;rw[E5]at h2;rw[h2];have:rW (E,T,S0++[(n,-1,[],[],[])]) (n,-1,[],[],[])=[lnW CZ [n]]:=rfl;rw[this];simp only[F7]
theorem b3L{p:Nat}{q:H8}(hO:OrdI S0)(hp:S0[p]? =some q):liC (E,T,S0++[(n,(p:Int),[],[],[])])=liC (E,T,S0++[(n,-1,[],[],[])])++[lnW wF [q.1]]:=by
 refine Qv hO ?_;have hl:=(ai.1 hp).1;have:LY (E,T,S0++[(n,(p:Int),[],[],[])]) (n,(p:Int),[],[],[])=[lnW wF [q.1]]:=by unfold LY meN;simp only;rw[aS o5,o7,U2,J5 hl,hp];rfl
 unfold rW;rw[this];rfl
theorem b3K{d:List dK}{f:dK}(hO:OrdI S0)(hm:MbI S0.length p):liC (E,T,S0++[(n,p,d++[f],[],[])])=liC (E,T,S0++[(n,p,d,[],[])])++[lnW xR [f.1,tyS f.2 E]]:=by refine Qv hO ?_;unfold rW;rw[Wu (E:=E) (T:=T) (X:=[(n,p,d++[f],[],[])]) (Y:=[(n,p,d,[],[])]) (s:=(n,p,d++[f],[],[])) (s' :=(n,p,d,[],[])) hm rfl];simp[a2C]
theorem b3H{i d:List dK}{f:dK}(hO:OrdI S0)(hm:MbI S0.length p):liC (E,T,S0++[(n,p,i,d++[f],[])])=liC (E,T,S0++[(n,p,i,d,[])])++[lnW Le [f.1,tyS f.2 E]]:=by refine Qv hO ?_;unfold rW;rw[Wu (E:=E) (T:=T) (X:=[(n,p,i,d++[f],[])]) (Y:=[(n,p,i,d,[])]) (s:=(n,p,i,d++[f],[])) (s' :=(n,p,i,d,[])) hm rfl];simp[a2C];rfl
theorem b3N{s:H8}{r:ak}{t:List UInt8}(hO:OrdI S0)(hm:MbI S0.length s.2.1)(hrp:∀(j:Nat) q,s.2.2.2.2[j]? =some q->MbI j q.2.2.1)(h:RuR s (nmS (E,T,S0++[s]) s) t r):liC (E,T,S0++[(s.1,s.2.1,s.2.2.1,s.2.2.2.1,s.2.2.2.2++[r])])=liC (E,T,S0++[s])++[DK++t]:=by
 obtain⟨h1,h2⟩:=VC h;refine Qv hO ?_;have hn:nmS (E,T,S0++[(s.1,s.2.1,s.2.2.1,s.2.2.2.1,s.2.2.2.2++[r])]) (s.1,s.2.1,s.2.2.1,s.2.2.2.1,s.2.2.2.2++[r])=nmS (E,T,S0++[s]) s:=C_ (s:=(s.1,s.2.1,s.2.2.1,s.2.2.2.1,s.2.2.2.2++[r])) hm rfl rfl rfl;have hru:∀q:ak,MbI s.2.2.2.2.length q.2.2.1->TL (E,T,S0++[(s.1,s.2.1,s.2.2.1,s.2.2.2.1,s.2.2.2.2++[r])]) (s.1,s.2.1,s.2.2.1,s.2.2.2.1,s.2.2.2.2++[r]) q=TL (E,T,S0++[s]) s q:=λq hq=>by unfold TL;rw[hn,b1d hq]
 unfold rW;rw[Wu (E:=E) (T:=T) (X:=[(s.1,s.2.1,s.2.2.1,s.2.2.2.1,s.2.2.2.2++[r])]) (Y:=[s]) (s:=(s.1,s.2.1,s.2.2.1,s.2.2.2.1,s.2.2.2.2++[r])) (s' :=s) hm rfl];have hmap:(s.2.2.2.2++[r]).map (TL (E,T,S0++[(s.1,s.2.1,s.2.2.1,s.2.2.2.1,s.2.2.2.2++[r])]) (s.1,s.2.1,s.2.2.1,s.2.2.2.1,s.2.2.2.2++[r]))=s.2.2.2.2.map (TL (E,T,S0++[s]) s)++[DK++t]:=by
  rw[ed];congr 1
  .refine eF λq hq=>?_;obtain⟨j,hj⟩:=KJ hq;have:=(ai.1 hj).1;exact hru q (Qw (hrp j q hj) o5)
  .rw[dL,jV,hru r h2,h1];rfl
 simp only;rw[hmap];simp only[J9,F7];rfl
end
end
section
structure InvR (pre:List (List UInt8)) (E:List P5) (T:List V4) (S:List H8) (k:Int) (N:D8) (b:Bool):Prop where
 li:pre=liC (E,T,S)
 kr:0<=k/\k<=6
 p0:k=0->T=[]
 p1:k<=1->S=[]
 pT:k=1->T≠[]
 p2:2<=k->∃S0 s,S=S0++[s]/\(k=2->s.2=(-1,[],[],[]))/\(k=3->s.2.2=([],[],[]))/\(k=4->s.2.2.2=([],[]))/\(k=5->s.2.2.2.2=[])/\(b=true->k=6/\N=nmS (E,T,S) s)
 mb:OrdI S
 rp:∀s∈S,∀(j:Nat) q,s.2.2.2.2[j]? =some q->MbI j q.2.2.1
 ty:∀t∈T,vty t.2.1 E=true/\vty t.2.2.1 E=true/\∀r∈t.2.2.2,UI r
 ru:∀s∈S,∀r∈s.2.2.2.2,(∀n∈r.2.2.2.2.2.1,fE n.2)/\∀n∈r.2.2.2.2.2.2.1,fE n.2
variable {S0:List H8}{s:H8}
theorem Ik(h:OrdI S0)(hm:MbI S0.length s.2.1):OrdI (S0++[s]):=⟨λi x hx=>by
 by_cases hi:i<S0.length
 .rw[J5 hi]at hx;exact h.mb i x hx
 .rw[G6 o5]at hx;have h0:i -S0.length=0:=by
   have:=(ai.1 hx).1;simp at this;omega
  rw[h0]at hx;cases hx;exact Qw hm o5⟩
theorem MJ(h:OrdI (S0++[s])):OrdI S0/\MbI S0.length s.2.1:=by
 refine⟨⟨λi x hx=>h.mb i x ?_⟩,h.mb S0.length s ?_⟩
 .rw[J5 (ai.1 hx).1];exact hx
 .rw[G6 (A7 _),bf];rfl
theorem a2N:InvR [] [] [] [] 0 nmZ false where
 li:=rfl
 kr:=⟨o5,o5⟩
 p0:=λ_=>rfl
 p1:=λ_=>rfl
 pT:=λh=>by omega
 p2:=λh=>by omega
 mb:=⟨λi s h=>by simp at h⟩
 rp:=λs h=>by cases h
 ty:=λt h=>by cases h
 ru:=λs h=>by cases h
variable {n:List UInt8}
section
variable {pre:List (List UInt8)} {E:List P5} {T:List V4} {S:List H8} {k:Int} {N:D8} {b:Bool} {w:List UInt8}
theorem b0H(h:InvR pre E T S k N b){ms:List (List UInt8)}(hk:k=0)(hw:w=lnW Nz (n::ms)):InvR (pre++[w]) (E++[(n,ms)]) T S k N b:=by have hT:=h.p0 hk;have hS:=h.p1 o5;have hli:=h.li;subst hT hS hw;exact⟨by rw[b3I,hli];rfl,h.kr,λ_=>rfl,λ_=>rfl,λh=>by omega,λh=>by omega,h.mb,h.rp,(λt ht=>by cases ht),h.ru⟩
theorem b0N(h:InvR pre E T S k N b){t u:Int×Int}(hk:k<=1)(ht:vty t E=true)(hu:vty u E=true)(hw:w=lnW Eb [n,tyS t E,tyS u E]):InvR (pre++[w]) E (T++[(n,t,u,[])]) S 1 N b:=by
 have hS:=h.p1 hk;have hli:=h.li;subst hS hw;refine⟨by rw[b3P,hli],⟨o5,o5⟩,λh=>by omega,λ_=>rfl,λ_=>by simp,λh=>by omega,h.mb,h.rp,λx hx=>?_,h.ru⟩;rcases F9.1 hx with hx|hx
 .exact h.ty x hx
 .rw[N9.1 hx];exact⟨ht,hu,λr hr=>by cases hr⟩
theorem b0K{T0:List V4}{t:V4}{r:uC}(h:InvR pre E (T0++[t]) S k N b)(hk:k=1)(hr:UI r)(hw:w=lnW OX (Z_ t r E)):InvR (pre++[w]) E (T0++[(t.1,t.2.1,t.2.2.1,t.2.2.2++[r])]) S k N b:=by
 have hS:=h.p1 o5;have hli:=h.li;subst hS hw;refine⟨by rw[b3M,hli],h.kr,λh=>by omega,λ_=>rfl,λ_=>by simp,λh=>by omega,h.mb,h.rp,λx hx=>?_,h.ru⟩;rcases F9.1 hx with hx|hx
 .exact h.ty x (by simp[hx])
 .rw[N9.1 hx];obtain⟨a1,a2,a3⟩:=h.ty t D5;refine⟨a1,a2,λq hq=>?_⟩;rcases F9.1 hq with hq|hq
  .exact a3 q hq
  .rw[N9.1 hq];exact hr
theorem b0M(h:InvR pre E T S k N b)(hw:w=lnW CZ [n]):InvR (pre++[w]) E T (S++[(n,-1,[],[],[])]) 2 nmZ false:=by
 have hli:=h.li;subst hw;refine⟨by rw[b3O h.mb,hli],⟨o5,o5⟩,λh=>by omega,λh=>by omega,λh=>by omega,λ_=>⟨S,_,rfl,λ_=>rfl,λ_=>rfl,λ_=>rfl,λ_=>rfl,λh=>by cases h⟩,Ik h.mb (.inl rfl),λs hs=>?_,h.ty,λs hs=>?_⟩
 .rcases F9.1 hs with hs|hs
  .exact h.rp s hs
  .rw[N9.1 hs];intro j q hq;simp at hq
 .rcases F9.1 hs with hs|hs
  .exact h.ru s hs
  .rw[N9.1 hs];intro r hr;cases hr
theorem b0L{r:ak}{t:List UInt8}(h:InvR pre E T (S0++[s]) k N b)(hk:2<=k)(hr:RuR s (nmS (E,T,S0++[s]) s) t r)(hw:w=DK++t):
  InvR (pre++[w]) E T (S0++[(s.1,s.2.1,s.2.2.1,s.2.2.2.1,s.2.2.2.2++[r])]) 6 (nmS (E,T,S0++[s]) s) true:=by
 have hli:=h.li;subst hw;obtain⟨m1,m2⟩:=MJ h.mb;have hrp:=h.rp s D5;obtain⟨-,hp⟩:=VC hr;refine⟨by rw[b3N m1 m2 hrp hr,hli],⟨o5,o5⟩,λh=>by omega,λh=>by omega,λh=>by omega,λ_=>⟨S0,_,rfl,λh=>by omega,λh=>by omega,λh=>by omega,λh=>by omega,λ_=>⟨rfl,C_ m2 rfl rfl rfl⟩⟩,Ik m1 m2,λx hx=>?_,h.ty,λx hx=>?_⟩
 .rcases F9.1 hx with hx|hx
  .exact h.rp x (by simp[hx])
  .rw[N9.1 hx];intro j q hq;by_cases hj:j<s.2.2.2.2.length
   .exact hrp j q (by rw[←hq];exact(J5 hj).symm)
   .have hq2:(s.2.2.2.2++[r])[j]? =some q:=hq;rw[G6 o5]at hq2;have h0:j -s.2.2.2.2.length=0:=by
     have:=(ai.1 hq2).1;simp at this;omega
    rw[h0]at hq2;cases hq2;exact Qw hp o5
 .rcases F9.1 hx with hx|hx
  .exact h.ru x (by simp[hx])
  .rw[N9.1 hx];intro q hq;rcases F9.1 hq with hq|hq
   .exact h.ru s D5 q hq
   .rw[N9.1 hq];exact⟨hr.ig,hr.iv⟩
end
end
section
theorem TV{α:Type}{A B:List α}{x y:α}(h:A++[x]=B++[y]):A=B/\x=y:=by obtain⟨h1,h2⟩:=List.append_inj' h rfl;exact⟨h1,by simpa using h2⟩
variable {S0:List H8}{s:H8}
section
variable {pre:List (List UInt8)} {E:List P5} {T:List V4} {S:List H8} {k:Int} {N:D8} {b:Bool} {w:List UInt8}
theorem b0J{s q:H8}{p:Nat}(h:InvR pre E T (S0++[s]) k N b)(hk:k=2)(hp:S0[p]? =some q)(hw:w=lnW wF [q.1]):InvR (pre++[w]) E T (S0++[(s.1,(p:Int),s.2.2)]) 3 N b:=by
 have hli:=h.li;subst hw;obtain⟨m1,m2⟩:=MJ h.mb;obtain⟨S1,s1,e,a2,-,-,-,a6⟩:=h.p2 o5;obtain⟨rfl,rfl⟩:=TV e;have hs:=a2 hk;obtain⟨n,sr⟩:=s;simp only at hs;subst hs;refine⟨by rw[b3L m1 hp,hli],⟨o5,o5⟩,λh=>by omega,λh=>by omega,λh=>by omega,λ_=>⟨S0,_,rfl,λh=>by omega,λ_=>rfl,λ_=>rfl,λ_=>rfl,λhb=>?_⟩,Ik m1 (.inr ⟨p,rfl,(ai.1 hp).1⟩),λx hx=>?_,h.ty,λx hx=>?_⟩
 .have:=(a6 hb).1;omega
 .rcases F9.1 hx with hx|hx
  .exact h.rp x (by simp[hx])
  .rw[N9.1 hx];intro j y hy;simp at hy
 .rcases F9.1 hx with hx|hx
  .exact h.ru x (by simp[hx])
  .rw[N9.1 hx];intro r hr;cases hr
theorem b0I{f:dK}(h:InvR pre E T (S0++[s]) k N b)(hk:2<=k)(hk4:k<=4)(hw:w=lnW xR [f.1,tyS f.2 E]):InvR (pre++[w]) E T (S0++[(s.1,s.2.1,s.2.2.1++[f],s.2.2.2)]) 4 N b:=by
 have hli:=h.li;subst hw;obtain⟨m1,m2⟩:=MJ h.mb;obtain⟨S1,s1,e,a2,a3,a4,-,a6⟩:=h.p2 hk;obtain⟨rfl,rfl⟩:=TV e;have hs:s.2.2.2=([],[]):=by
  have:k=2\/k=3\/k=4:=o5;rcases this with hk|hk|hk
  .rw[a2 hk]
  .rw[a3 hk]
  .exact a4 hk
 obtain⟨n,p,i,sr⟩:=s;simp only at hs;subst hs;refine⟨by rw[b3K m1 m2,hli],⟨o5,o5⟩,λh=>by omega,λh=>by omega,λh=>by omega,λ_=>⟨S0,_,rfl,λh=>by omega,λh=>by omega,λ_=>rfl,λ_=>rfl,λhb=>?_⟩,Ik m1 m2,λx hx=>?_,h.ty,λx hx=>?_⟩
 .have:=(a6 hb).1;omega
 .rcases F9.1 hx with hx|hx
  .exact h.rp x (by simp[hx])
  .rw[N9.1 hx];intro j y hy;simp at hy
 .rcases F9.1 hx with hx|hx
  .exact h.ru x (by simp[hx])
  .rw[N9.1 hx];intro r hr;cases hr
theorem b0G{f:dK}(h:InvR pre E T (S0++[s]) k N b)(hk:2<=k)(hk5:k<=5)(hw:w=lnW Le [f.1,tyS f.2 E]):InvR (pre++[w]) E T (S0++[(s.1,s.2.1,s.2.2.1,s.2.2.2.1++[f],s.2.2.2.2)]) 5 N b:=by
 have hli:=h.li;subst hw;obtain⟨m1,m2⟩:=MJ h.mb;obtain⟨S1,s1,e,a2,a3,a4,a5,a6⟩:=h.p2 hk;obtain⟨rfl,rfl⟩:=TV e;have hs:s.2.2.2.2=[]:=by
  have:k=2\/k=3\/k=4\/k=5:=o5;rcases this with hk|hk|hk|hk
  .rw[a2 hk]
  .rw[a3 hk]
  .rw[a4 hk]
  .exact a5 hk
 obtain⟨n,p,i,d,sr⟩:=s;simp only at hs;subst hs;refine⟨by rw[b3H m1 m2,hli],⟨o5,o5⟩,λh=>by omega,λh=>by omega,λh=>by omega,λ_=>⟨S0,_,rfl,λh=>by omega,λh=>by omega,λh=>by omega,λ_=>rfl,λhb=>?_⟩,Ik m1 m2,λx hx=>?_,h.ty,λx hx=>?_⟩
 .have:=(a6 hb).1;omega
 .rcases F9.1 hx with hx|hx
  .exact h.rp x (by simp[hx])
  .rw[N9.1 hx];intro j y hy;simp at hy
 .rcases F9.1 hx with hx|hx
  .exact h.ru x (by simp[hx])
  .rw[N9.1 hx];intro r hr;cases hr
theorem a4D{R:O6}(h:InvR pre E T S k N b)(hL:LineI E T S k N b w R):∃E' T' S' k' N' b',R=rdS E' T' S' k' N' b' /\InvR (pre++[w]) E' T' S' k' N' b' :=by
 cases hL with
 |en n ms h1 h2 h3=>exact⟨_,_,_,_,_,_,rfl,b0H h h1 h3⟩|tb n t u h1 h2 h3 h4=>exact⟨_,_,_,_,_,_,rfl,b0N h h1 h2 h3 h4⟩|ro T0 t r h1 h2 h3 h4=>subst h2;exact⟨_,_,_,_,_,_,rfl,b0K h h1 h4 h3⟩|sc n h1=>exact⟨_,_,_,_,_,_,rfl,b0M h h1⟩|me S0 s q p h1 h2 h3 h4=>subst h2;exact⟨_,_,_,_,_,_,rfl,b0J h h1 h3 h4⟩|inp S0 s f h1 h2 h3 h4 h5=>subst h3;exact⟨_,_,_,_,_,_,rfl,b0I h h1 h2 h5⟩|de S0 s f h1 h2 h3 h4 h5=>subst h3;exact⟨_,_,_,_,_,_,rfl,b0G h h1 h2 h5⟩|ru S0 s r t h1 h2 h3 h4=>subst h2;exact⟨_,_,_,_,_,_,rfl,b0L h h1 h3 h4⟩
end
end
section
def a3K:Prop:=∀(pre:List (List UInt8)) (E:List P5) (T:List V4) (S:List H8) (k:Int) (N:D8) (b:Bool),InvR pre E T S k N b->(mV pre).length<=20000->PreR E T S k N b
theorem a4K(hP:a3K){ls:List (List UInt8)}(hj:(mV ls).length<=20000)(hA:∀w∈ls,Asc w)(L0:aG):∀(r pre:List (List UInt8)) (E:List P5) (T:List V4) (S:List H8) (k:Int) (N:D8) (b:Bool) (m:Nat),ls=pre++r->InvR pre E T S k N b->
  (∃E' T' S' k' N' b',iT (ltF ls) (m+1+r.length) (L0,rdS E T S k N b,(pre.length:Int))=some (.inl (L0,rdS E' T' S' k' N' b'))/\InvR ls E' T' S' k' N' b')\/
  ∃(i:Nat) (e:Int),e≠0/\iT (ltF ls) (m+1+r.length) (L0,rdS E T S k N b,(pre.length:Int))=some (.inr (([],[],[]),(i:Int),e))
 |[],pre,E,T,S,k,N,b,m,h,hI=>by rw[E5]at h;subst h;refine .inl ⟨E,T,S,k,N,b,?_,hI⟩;rw[O7,Z8,jv];unfold ltF;simp only[Y6 ls,o6]|w::r,pre,E,T,S,k,N,b,m,h,hI=>by
  have hc:ls[pre.length]? =some w:=by rw[h,G6 (A7 _),bf];rfl
  have hm:w∈ls:=wJ hc;have hlen:ls.length<=20000:=P8 (BD ls) hj;have hjp:(mV pre).length<=20000:=by rw[h,qP,E8]at hj;omega
  have hwl:w.length<=20000:=by rw[h,qP,E8]at hj;simp only[mV,E8,D9]at hj;omega
  have hpl:pre.length<=20000:=by rw[h,E8]at hlen;omega
  obtain⟨e,R,q1,q2⟩:=a5U (hP pre E T S k N b hI hjp) (w:=w) o5 (hA w hm);rw[D9,show m+1+(r.length+1)=(m+1+r.length)+1 by omega,jv];by_cases he:e=0
  .obtain⟨E',T',S',k',N',b',rfl,hI'⟩:=a4D hI (q2 he);have st:ltF ls (L0,rdS E T S k N b,(pre.length:Int))=some (.nx (L0,rdS E' T' S' k' N' b',((pre.length+1:Nat):Int))):=by
    unfold ltF;simp only[X9 hc,o7,U2,hc,o9,eQ,bH,E9,q1,he,V5 (rfl:(0:Int)=0),F6,o6];rw[dC o5]
   rw[st];have:=a4K hP hj hA L0 r (pre++[w]) E' T' S' k' N' b' m (by rw[h];simp) hI';rw[show(pre++[w]).length=pre.length+1 by simp]at this;exact this
  .have st:ltF ls (L0,rdS E T S k N b,(pre.length:Int))=some (.rt (([],[],[]),(pre.length:Int),e)):=by
    unfold ltF;simp only[X9 hc,o7,U2,hc,o9,eQ,bH,E9,q1,N7 he,I7]
   rw[st];exact .inr ⟨pre.length,e,he,rfl⟩
end
section
theorem RI{α β:Type}{f:α->List β} :∀{L:List α},(∀a∈L,1<=(f a).length)->L.length<=(L.flatMap f).length
 |[],_=>by simp
 |a::L,h=>by have h1:=RI (f:=f) (L:=L) λx hx=>h x (by simp[hx]);have h2:=h a D5;rw[ae,E8,D9];omega
theorem a2a:∀ws:List (List UInt8),ws.length<=(spW ws).length
 |[]=>by simp|w::ws=>by have:=a2a ws;rw[uN,E8,D9,D9];omega
theorem a7w:∀{ws:List (List UInt8)} {w:List UInt8},w∈ws->w.length<=(spW ws).length
 |[],w,h=>by cases h|v::ws,w,h=>by
  rw[uN,E8,D9];rcases C9.1 h with rfl|h
  .omega
  .have:=a7w h;omega
theorem Pv{f w:List UInt8}{ws:List (List UInt8)}(h:w∈ws):w.length<=(lnW f ws).length:=by have:=a7w h;unfold lnW;rw[E8];omega
theorem a1q:∀(L:List (List UInt8)) (w:List UInt8),w∈L->w.length<=(mV L).length
 |[],w,hw=>by cases hw|v::L,w,hw=>by
  simp only[mV,E8,D9];rcases C9.1 hw with rfl|hw
  .omega
  .have:=a1q L w hw;omega
section
variable {E:List P5} {T:List V4} {S:List H8} {B:Nat} (h:(mV (liC (E,T,S))).length<=B)
include h
theorem a7D{w:List UInt8}(hw:w∈liC (E,T,S)):w.length<=B:=P8 (a1q _ _ hw) h
theorem a7C:E.length<=B/\T.length<=B/\S.length<=B:=by have h1:=P8 (BD (liC (E,T,S))) h;unfold liC at h1;simp only[E8,P6]at h1;have h2:=RI (f:=tbC E) (L:=T) (λt _=>by unfold tbC;simp);have h3:=RI (f:=rW (E,T,S)) (L:=S) (λs _=>by unfold rW;simp);exact⟨o5,o5,o5⟩
theorem Nq{e:P5}(he:e∈E):e.1.length<=B/\e.2.length<=B/\∀m∈e.2,m.length<=B:=by
 have hl:(d_ e).length<=B:=a7D h (by unfold liC;simp only[F9,az];exact .inl ⟨e,he,rfl⟩);have hc:=a2a (e.1::e.2);have hl2:(spW (e.1::e.2)).length<=(d_ e).length:=by unfold d_ lnW;rw[E8];omega
 refine⟨P8 (Pv (f:=Nz) (iy)) hl,?_,λm hm=>P8 (Pv (f:=Nz) (P7 _ hm)) hl⟩;simp only[D9]at hc;omega
theorem Nr{t:V4}(ht:t∈T):t.1.length<=B/\t.2.2.2.length<=B:=by
 have hin:∀w∈tbC E t,w∈liC (E,T,S):=λw hw=>by unfold liC;simp only[F9,uX];exact .inr (.inl ⟨t,ht,hw⟩)
 refine⟨P8 (Pv (f:=Eb) (ws:=[t.1,tyS t.2.1 E,tyS t.2.2.1 E]) D5) (a7D h (hin _ (by unfold tbC;simp))),?_⟩;have h1:=P8 (BD (liC (E,T,S))) h;have h2:t.2.2.2.length<=(T.flatMap (tbC E)).length:=by
  obtain⟨a,b,rfl⟩:=List.append_of_mem ht;simp only[gB,ae,E8];have:t.2.2.2.length<=(tbC E t).length:=by unfold tbC;simp
  omega
 unfold liC at h1;simp only[E8]at h1;omega
end
end
section
section
variable {E:List P5} {T:List V4} {S:List H8} {B:Nat} (h:(mV (liC (E,T,S))).length<=B)
include h
theorem Xm{s:H8}(hs:s∈S){w:List UInt8}(hw:w∈rW (E,T,S) s):w.length<=B:=a7D h (by unfold liC;simp only[F9,uX];exact .inr (.inr ⟨s,hs,hw⟩))
theorem IQ{s:H8}(hs:s∈S):s.1.length<=B/\s.2.2.1.length<=B/\s.2.2.2.1.length<=B/\s.2.2.2.2.length<=B/\(∀f∈s.2.2.1,f.1.length<=B)/\∀f∈s.2.2.2.1,f.1.length<=B:=by
 have h1:=P8 (BD (liC (E,T,S))) h;have h2:(rW (E,T,S) s).length<=(S.flatMap (rW (E,T,S))).length:=by obtain⟨a,b,e⟩:=List.append_of_mem hs;generalize rW (E,T,S)=F;rw[e];simp only[gB,ae,E8];omega
 have h3:(rW (E,T,S) s).length=1+((LY (E,T,S) s).length+(s.2.2.1.length+(s.2.2.2.1.length+s.2.2.2.2.length))):=by unfold rW;simp only[D9,E8,P6];omega
 unfold liC at h1;simp only[E8]at h1;refine⟨?_,o5,o5,o5,λf hf=>?_,λf hf=>?_⟩
 .exact P8 (Pv (f:=CZ) (ws:=[s.1]) D5) (Xm h hs (by unfold rW;simp))
 .exact P8 (Pv (f:=xR) (ws:=[f.1,tyS f.2 E]) D5) (Xm h hs (by unfold rW;simp only[C9,F9,az];exact .inr (.inr (.inl ⟨f,hf,rfl⟩))))
 .exact P8 (Pv (f:=Le) (ws:=[f.1,tyS f.2 E]) D5) (Xm h hs (by unfold rW;simp only[C9,F9,az];exact .inr (.inr (.inr (.inl ⟨f,hf,rfl⟩)))))
end
end
section
variable {E:List P5}{T:List V4}{S:List H8}
theorem b0T{B:Nat}(h:(mV (liC (E,T,S))).length<=B){s:H8}(hs:s∈S):(nmS (E,T,S) s).2.2.2.2.length<=B/\∀x∈(nmS (E,T,S) s).2.2.2.2,x.length<=B:=by
 unfold nmS;simp only;cases U6 0 s.2.1
 .exact⟨aU _,λx hx=>by cases hx⟩
 .simp only[o7];split
  .rename_i q hq;have hz:=IQ h (lX hq).2.2.1;refine⟨by rw[P6];exact hz.2.2.1,λx hx=>?_⟩;obtain⟨f,hf,rfl⟩:=az.1 hx;exact hz.2.2.2.2.2 f hf
  .exact⟨aU _,λx hx=>by cases hx⟩
theorem a8V:a3K:=by
 intro pre E T S k N b hI hj;rw[hI.li]at hj;obtain⟨c1,c2,c3⟩:=a7C hj;refine⟨o5,o5,o5,λe he=>by have:=(Nq hj he).2.1;omega,λhk=>?_,λhk=>?_,⟨by simp only;omega,by simp only;omega,λe he=>by have:=(Nq hj he).2.1;omega,λs hs=>by have:=IQ hj hs;omega⟩⟩
 .have hne:=hI.pT hk;refine⟨T.dropLast,T.getLast hne,(iY hne).symm,(hI.ty _ (List.getLast_mem hne)).1,?_⟩;have:=(Nr hj (List.getLast_mem hne)).2;omega
 .obtain⟨S0,s,rfl,-,-,-,-,a6⟩:=hI.p2 hk;have hs:s∈S0++[s]:=D5;obtain⟨z1,z2,z3,z4,z5,z6⟩:=IQ hj hs;obtain⟨m1,m2⟩:=b0T hj hs;refine⟨S0,s,rfl,o5,o5,o5,λhb=>(a6 hb).2,⟨⟨?_,λe he=>?_⟩,?_,?_,?_,o5⟩,⟨λe he=>?_,λx hx=>?_,λx hx=>?_,λx hx=>?_,λx hx=>by have:=m2 x hx;omega⟩⟩
  .show E.length<=100000;omega
  .have:=(Nq hj (show e∈E from he)).2.1;omega
  .show(T.map (·.1)).length<=100000;rw[P6];omega
  .show(s.2.2.1.map (·.1)).length<=100000;rw[P6];omega
  .show(s.2.2.2.1.map (·.1)).length<=100000;rw[P6];omega
  .obtain⟨q1,q2,q3⟩:=Nq hj (show e∈E from he);exact⟨o5,λm hm=>by have:=q3 m hm;omega⟩
  .obtain⟨t,ht,rfl⟩:=az.1 (show x∈T.map (·.1)from hx);have:=(Nr hj ht).1;omega
  .obtain⟨f,hf,rfl⟩:=az.1 (show x∈s.2.2.1.map (·.1)from hx);have:=z5 f hf;omega
  .obtain⟨f,hf,rfl⟩:=az.1 (show x∈s.2.2.2.1.map (·.1)from hx);have:=z6 f hf;omega
theorem a3l{s:List UInt8}(hl:s.length<=20000):(∃(i:Nat) (e:Int),e≠0/\kH s=some (([],[],[]),(i:Int),e))\/
  ∃(ls:List (List UInt8)) (E:List P5) (T:List V4) (S:List H8) (k:Int) (N:D8) (b:Bool),s=mV ls/\InvR ls E T S k N b/\
   kH s=l9 (uq (E,T,S)) λ(x_1:X4)=>l7 (G7 (D6 x_1.1 0)) (some (([],[],[]),x8 ls,x_1.1)) (some ((E,T,S),0,0)):=by
 obtain⟨ls,c,hs,hc⟩:=a3v s;unfold kH;rw[hs,o9];cases g:D6 c 0<;>simp only[g,F6,I7,o7,o6]
 .exact .inl ⟨0,c,iV.1 g,rfl⟩
 obtain⟨e,h6,hb⟩:=hc (X8.1 g);have hj:(mV ls).length<=20000:=by rw[←e];exact hl
 have hA:∀w∈ls,Asc w:=λw hw=>a8u (hb w hw);have hlen:ls.length<=20000:=P8 (BD ls) hj;have hlt:=a4K a8V hj hA ([],[],[]) ls [] [] [] [] 0 nmZ false (fQ -1 -ls.length) rfl a2N;rw[show fQ -1 -ls.length+1+ls.length=fQ by unfold fQ;omega]at hlt;rcases hlt with⟨E,T,S,k,N,b,q,hI⟩|⟨i,x,hx,q⟩
 .refine .inr ⟨ls,E,T,S,k,N,b,e,hI,?_⟩;have:S9 (ltF ls) (([],[],[]),(([],[],[]),0,([],[],[],[],[]),false),0)=some (.inl (([],[],[]),rdS E T S k N b)):=q;refine X7 this ?_;rw[o9,W9]
 .refine .inl ⟨i,x,hx,?_⟩;have:S9 (ltF ls) (([],[],[]),(([],[],[]),0,([],[],[],[],[]),false),0)=some (.inr (([],[],[]),(i:Int),x)):=q;refine X7 this ?_;rw[o9,cO]
section
variable {E:List P5} {T:List V4} {S:List H8} {B:Nat} (h:(mV (liC (E,T,S))).length<=B)
include h
theorem a9z{s:H8}(hs:s∈S){r:ak}(hr:r∈s.2.2.2.2):r.1.length<=B/\r.2.2.2.2.2.2.2.length<=B:=by
 have hl:(TL (E,T,S) s r).length<=B:=Xm h hs (by unfold rW;simp only[C9,F9,az];exact .inr (.inr (.inr (.inr ⟨r,hr,rfl⟩))))
 refine⟨P8 (Pv (f:=DK) (ws:=ruW s r (nmS (E,T,S) s)) (by unfold ruW;simp)) hl,?_⟩;cases hq:seq r.2.2.2.2.2.2.2 []with
 |true=>rw[dU.1 hq];simp|false=>
  have h1:(34::r.2.2.2.2.2.2.2++[34])∈ruW s r (nmS (E,T,S) s):=by unfold ruW soS;rw[hq];simp
  have h2:=P8 (Pv (f:=DK) h1) hl;simp at h2;omega
end
variable {ls:List (List UInt8)}{k:Int}{N:D8}{b:Bool}
theorem a4E(hI:InvR ls E T S k N b)(hj:(mV ls).length<=20000):SwL (E,T,S):=by
 rw[hI.li]at hj;obtain⟨c1,c2,c3⟩:=a7C hj;refine⟨⟨by simp only;omega,by simp only;omega,by simp only;omega⟩,λe he=>?_,λt ht=>?_,λs hs=>?_⟩
 .obtain⟨q1,q2,q3⟩:=Nq hj (show e∈E from he);exact⟨o5,λm hm=>by have:=q3 m hm;omega⟩
 .have:=(Nr hj (show t∈T from ht)).1;omega
 .obtain⟨z1,z2,z3,z4,z5,z6⟩:=IQ hj (show s∈S from hs);refine⟨o5,o5,o5,o5,⟨λf hf=>by have:=z5 f hf;omega,λf hf=>by have:=z6 f hf;omega⟩,λr hr=>?_⟩;obtain⟨r1,r2⟩:=a9z hj (show s∈S from hs) hr;obtain⟨i1,i2⟩:=hI.ru s hs r hr;exact⟨o5,o5,i1,i2⟩
theorem b0O(hI:InvR ls E T S k N b)(hj:(mV ls).length<=20000):WfL (E,T,S):=by
 rw[hI.li]at hj;refine⟨λt ht=>?_,λt ht r hr=>(hI.ty t ht).2.2 r hr,λs hs=>?_,λs hs=>hI.ru s hs⟩
 .have:=(Nr hj (show t∈T from ht)).2;omega
 .have:=(IQ hj (show s∈S from hs)).2.2.2.1;omega
theorem XX{ρ:Type}{n:Nat}{p:Nat->Option ρ}(h:∀i,i<n->p i=none):dF n p=none:=by unfold dF;exact mF.2 λi hi=>h i (dX.1 hi)
theorem Lp{α:Type}{L:List α}{a:α}(h:a∈L):∃i:Nat,L[i]? =some a:=by obtain⟨i,hi,e⟩:=aY h;exact⟨i,by rw[mW hi,e]⟩
variable {l:aG}
theorem b0s(hw:SwL l)(hv:(oH l).1=0):SmL l:=by refine⟨hw.few,hw.en,hw.tb,λs hs=>?_⟩;obtain⟨i,hi⟩:=Lp hs;have hV:=(BI hv).2 i s hi;refine Za (l:=l) (hw.sc s hs) hV.li hV.ld (XX λk hk=>?_);have e:=mW hk;have hr:=Ud hv hi e;unfold JR;rw[e];simp only[NT,hr];rfl
theorem Vd{n:List UInt8}(h:tC n=true):n.length<=80:=by
 cases n with
 |nil=>simp|cons c r=>rw[Vg]at h;simp only[A8,decide_eq_true_eq]at h;omega
theorem a4U(hw:SwL l)(hv:(oH l).1=0):NmL l:=by
 obtain⟨e1,e2⟩:=a3B hv;obtain⟨t1,t2⟩:=EI hv;obtain⟨s1,s2⟩:=BI hv;refine⟨o5,o5,λe he=>?_,λt ht=>?_,λs hs=>?_⟩
 .obtain⟨i,hi⟩:=Lp he;have hV:=e2 i e hi;refine⟨by have:=hV.le;omega,Vd hV.id,λm hm=>?_⟩;obtain⟨j,hj⟩:=Lp hm;exact Vd (hV.mem j m hj).1
 .obtain⟨i,hi⟩:=Lp ht;exact Vd (t2 i t hi).id
 .obtain⟨i,hi⟩:=Lp hs;have hV:=s2 i s hi;have hS:=(b0s hw hv).sc s hs;refine⟨hS.ni,hS.nd,hS.nr,λf hf=>?_,λf hf=>?_,λr hr=>?_⟩
  .obtain⟨j,hj⟩:=Lp hf;exact Vd (hV.ins j f hj).id
  .obtain⟨j,hj⟩:=Lp hf;exact Vd (hV.defs j f hj).id
  .obtain⟨j,hj⟩:=Lp hr;exact Vd (hV.rules j r hj).id
theorem b0F(hI:InvR ls E T S k N b)(hj:(mV ls).length<=20000)(hv:(oH (E,T,S)).1=0):FmL (E,T,S):=
 ⟨hv,a4U (a4E hI hj) hv,b0O hI hj⟩
theorem a7G(h:FmL l){t:V4}(ht:t∈l.2.1):tbC l.1 t=Zt l.1 t:=by obtain⟨i,hi⟩:=Lp ht;have hV:=(EI h.v).2 i t hi;unfold tbC Zt;congr 1;refine eF λr hr=>?_;unfold b1b;rw[a3s (a4s h) hV.vk hV.vv (c0c h ht hr)];rfl
theorem b3J(h:FmL l):liC l=liL l:=by unfold liC liL;rw[We (λt ht=>a7G h ht)]
theorem b3t:gU=some true:=ZI
theorem Ul(a:List UInt8):uo a=some true:=by
 unfold uo;simp only[b3t,o9];cases g:J4 20000 (x8 a)
 case true=>rfl
 rw[o6];have hl:a.length<=20000:=by have:=lg.1 g;unfold x8 at this;omega
 have hs0:EE ([],[],[]) ([],[],[])=some true:=UE ⟨⟨D5,D5⟩,⟨D5,D5⟩,⟨D5,D5⟩⟩;rcases a3l hl with⟨i,e,he,hp⟩|⟨ls,E,T,S,k,N,b,ha,hI,hp⟩
 .rw[hp,o9];simp only;rw[N7 he,hs0,o9,aS o5];rfl
 .have hj:(mV ls).length<=20000:=by rw[←ha];exact hl
  have hw:=a4E hI hj;rw[hp,Ny hw,o9];cases hz:D6 (oH (E,T,S)).1 0
  .simp only[I7,o7,o9];rw[hz,hs0,o9,aS (show(0:Int)<=x8 ls by unfold x8;omega)];rfl
  .have hv:=X8.1 hz;have hf:=b0F hI hj hv;have ht:txL (E,T,S)=a:=by rw[a7L,←b3J hf,←hI.li,ha]
   simp only[F6,o6,o9];rw[a2F (b0s hw hv) (λ_=>hf)];have hn:D6 (0:Int) 0=true:=rfl;simp only[hn,F6,o6,o9,foS,hz,o7];rw[ht,X3 (show x8 a<=65536 by unfold x8;omega)];simp only[o6,hn,o7];rw[dU.2 rfl];rfl
end
end Go.GP
namespace Go.GP
open Gt
theorem GI:∀x,ZA Gt.ps5 x->(Gt.s5.fn x:Option Bool)=some true:=λx h=>Ul x
end Go.GP
