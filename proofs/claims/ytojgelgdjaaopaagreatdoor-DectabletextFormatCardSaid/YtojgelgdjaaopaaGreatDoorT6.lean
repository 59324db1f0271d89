import Derived.Test.YtojgelgdjaaopaaGreatDoorT5
set_option linter.all false
namespace Go.GP
open Gt
set_option maxRecDepth 100000
section
variable {α:Type}
theorem lg0(a:α)(l:List α):eH (a::l) (dB 0)=some a:=rfl
theorem lg1(a b:α)(l:List α):eH (a::b::l) (dB 1)=some b:=rfl
theorem lg2(a b c:α)(l:List α):eH (a::b::c::l) (dB 2)=some c:=rfl
theorem hc0{P:Nat->Int->List UInt8->Prop} :∀(a:Nat) (o:Int) (s:List UInt8),([]:List Int)[a]? =some o->([]:List (List UInt8))[a]? =some s->P a o s:=by intro a o s h;cases a<;>cases h
theorem hc1{x:Int}{y:List UInt8}{P:Int->List UInt8->Prop}(h0:P x y):∀(a:Nat) (o:Int) (s:List UInt8),[x][a]? =some o->[y][a]? =some s->P o s:=by
 intro a o s h1 h2;match a with
 |0=>cases h1;cases h2;exact h0|a+1=>simp at h1
theorem hc2{x x' :Int}{y y' :List UInt8}{P:Int->List UInt8->Prop}(h0:P x y)(h1:P x' y'):∀(a:Nat) (o:Int) (s:List UInt8),[x,x'][a]? =some o->[y,y'][a]? =some s->P o s:=by
 intro a o s g1 g2;match a with
 |0=>cases g1;cases g2;exact h0|1=>cases g1;cases g2;exact h1|a+2=>simp at g1
section
variable {e:List (Int×Int)} {N:D9} {T:XT} (hN:NmOk N) (hT:jR e= .inr T) (hI:∀n∈e,lG n.2) (hz:∀n∈e,flS n N=0)
include hN hT hI hz
theorem a2L(n:Int×Int)(o k:Nat)(h:At e (T.sts 0) (.l0 n) o)(hw:(XT.l0 n).wf):(A7 (k+2)).1 (e,N) (rtI (.l0 n) o:Int)=some ((lV n N).1,(lV n N).2,(e,N)):=by
 have hr:=sS h;have ho:=yX hT h hw;have hx:L6 e ((rtI (.l0 n) o:Nat):Int)=some n:=by rw[J9];exact hr.1
 have hmem:=pg hr.1;have hi:=hI n hmem;have hf:=hz n hmem;rw[show a0A (.l0 n) o=[]from rfl]at ho;generalize ((rtI (.l0 n) o:Nat):Int)=i at hx ho;obtain⟨op,m⟩:=n;have ha:arF op=0:=hw;have lit:∀k:Nat,(op=1\/op=2\/op=3\/op=4\/op=5)->(A7 (k+2)).1 (e,N) i=some ((lV (op,m) N).1,(lV (op,m) N).2,(e,N)):=by intro k hk;obtain⟨t,ht,-⟩:=yM (B:=100) o5 o5 (v:=(op,0,m)) (en:=[]) hi (λe h=>by cases h);rw[yL [] hi]at ht;rw[Iu];unfold X8 bH lV;simp only[hx,ho,o8,ai (show(1:Int)<=op by omega),ai (show op<=(5:Int) by omega),o7,ht,cu];cases H6 m 0<;>rfl
 have lst:∀k:Nat,(op=36\/op=37\/op=38\/op=39)->(A7 (k+2)).1 (e,N) i=some ((lV (op,m) N).1,(lV (op,m) N).2,(e,N)):=by
  intro k hk;have e1:NV (op,m) N []=[gtN N.2.2.2.2 m]:=by rcases hk with rfl|rfl|rfl|rfl<;>rfl
  have e2:lV (op,m) N=(ru op++[40]++gtN N.2.2.2.2 m++[41],7):=by rcases hk with rfl|rfl|rfl|rfl<;>rfl
  have:=vO (j:=k) hx ho hi hf o5 hN (ops:=[]) (ts:=[]) (by rcases hk with rfl|rfl|rfl|rfl<;>exact⟨rfl,rfl,o5,o5,o5,o5,o5,o5,o5⟩) rfl x9 x9 (by rw[e1,Tv];have:=xw hN.m m;omega) hc0
  rw[this,e1,Tv,e2]
 rcases ar0 ha with rfl|rfl|rfl|rfl|rfl|rfl|rfl|rfl|rfl|rfl|rfl|rfl|rfl|rfl
 .exact lit k o5
 .exact lit k o5
 .exact lit k o5
 .exact lit k o5
 .exact lit k o5
 ·
  have hff:V4 (6,m) N=(l7 (H6 m 0) (some 6)
    (l7 (P7 (o9 N.1) (eU .i64 m 16)) (some 6)
     (l9 (L6 N.1 (eU .i64 m 16)) λ(x:dM)=>
      l7 (P7 (o9 x.2) (jP m 16)) (some 6) (some 0)))):=rfl
  unfold flS at hf;rw[hff]at hf;by_cases h0:m<0
  .rw[bn h0]at hf;cases hf
  by_cases h1:o9 N.1<=eU .i64 m 16
  .rw[au o5,ai h1]at hf;cases hf
  have hq:0<=eU .i64 m 16:=by rw[Ou hi 16 (.inr rfl),lX o5];omega
  have hr0:jP m 16=m % 16:=zU o5;obtain⟨en,he,hmem⟩:=pO (l:=N.1) hq o5;have hb:=hN.e en hmem;rw[au o5,aW o5,o6,o6,he,o8]at hf;by_cases h2:o9 en.2<=jP m 16
  .rw[ai h2]at hf;cases hf
  have hg:=IV (l:=en.2) (i:=jP m 16) o5 o5;have h3:=hb.2 _ hg.2;rw[Iu];unfold X8 lV;simp (disch:=decide) only[hx,ho,o8,show bH (6,m)=some ((0,0,0),false)from rfl,show dK 6=some ([],0)from rfl,o6,show seq ([]:List UInt8) []=true from rfl,I7,Z9,aW,o7,he,hg.1,cu];rw[G5 E5,o8,G5 E5,o8]
 .rw[Iu];unfold X8 lV mW;simp (disch:=decide) only[hx,ho,o8,show bH (7,m)=some ((0,0,0),false)from rfl,show dK 7=some ([],0)from rfl,o6,show seq ([]:List UInt8) []=true from rfl,I7,Z9,N9,aW,o7,Om (n:=(7,m)) (l:=N.2.2.1) rfl hf]
 .rw[Iu];unfold X8 lV mW;simp (disch:=decide) only[hx,ho,o8,show bH (8,m)=some ((0,0,0),false)from rfl,show dK 8=some ([],0)from rfl,o6,show seq ([]:List UInt8) []=true from rfl,I7,Z9,N9,aW,o7,Om (n:=(8,m)) (l:=N.2.2.2.1) rfl hf]
 .rw[Iu];unfold X8 lV;simp (disch:=decide) only[hx,ho,o8,show bH (9,m)=some ((0,0,0),false)from rfl,show dK 9=some ([],0)from rfl,o6,show seq ([]:List UInt8) []=true from rfl,I7,Z9,N9,aW,o7]
 .have:=vO (j:=k) hx ho hi hf o5 hN (ops:=[]) (ts:=[]) ⟨rfl,rfl,o5,o5,o5,o5,o5,o5,o5⟩ rfl x9 x9 (by rw[show NV (35,m) N []=[]from rfl];decide) hc0;rw[this];rfl
 .exact lst k o5
 .exact lst k o5
 .exact lst k o5
 .exact lst k o5
theorem a5u(n:Int×Int)(a:XT)(o k:Nat)(h:At e (T.sts 0) (.l1 n a) o)(hw:(XT.l1 n a).wf)(hla:(kY N a).1.length<=1000000)
  (ia:∀q,k<=q->(A7 q).1 (e,N) (rtI a o:Int)=some ((kY N a).1,(kY N a).2,(e,N))):(A7 (k+3)).1 (e,N) (rtI (.l1 n a) o:Int)=some ((Ce n N (EP a.node.1) (kY N a)).1,(Ce n N (EP a.node.1) (kY N a)).2,(e,N)):=by
 have hr:=sS h;have hra:=sS (ZF h);have ho:=yX hT h hw;have hx:L6 e ((rtI (.l1 n a) o:Nat):Int)=some n:=by rw[J9];exact hr.1
 have hxa:L6 e ((rtI a o:Nat):Int)=some a.node:=by rw[J9];exact hra.1
 have hmem:=pg hr.1;have hi:=hI n hmem;have hf:=hz n hmem;rw[show a0A (.l1 n a) o=[((rtI a o:Nat):Int)]from rfl]at ho;generalize ((rtI (.l1 n a) o:Nat):Int)=i at hx ho;obtain⟨op,m⟩:=n;have ha:arF op=1:=hw.1;have w0:(A7 (k+1)).2.2 (e,N) ((rtI a o:Nat):Int) 0=some ((kY N a).1,(e,N)):=by rw[qE 0 (ia k o5) hla,wi0 (MK N a)]
 have w6:(A7 (k+2)).2.2 (e,N) ((rtI a o:Nat):Int) 6=some (wiS (kY N a) 6,(e,N)):=qE 6 (ia (k+1) o5) hla;have n6:=ia (k+2) o5;generalize ((rtI a o:Nat):Int)=j at hxa ho w0 w6 n6;have hwl:=AC (kY N a) 6;have hml:=yu (jP m 8);have gl1:=xw hN.t m;have gl2:=xw hN.t (eU .i64 m 8);rcases ar1 ha with rfl|rfl|rfl|rfl|rfl|rfl
 .rw[Iu];unfold X8 Ce EP;simp (disch:=decide) only[hx,ho,o8,show bH (10,m)=some ((0,0,0),false)from rfl,show dK 10=some ([],0)from rfl,o6,show seq ([]:List UInt8) []=true from rfl,I7,Z9,N9,o7,lx0,lg0,hxa,n6,w6];rw[G5 E5,o8,G5 E5,o8,G5 E5,o8];cases C9 a.node.1 2
  .cases C9 a.node.1 3
   .cases C9 a.node.1 4<;>simp[l7]
   .simp[l7]
  .simp[l7]
 .rw[Iu];unfold X8 Ce;simp (disch:=decide) only[hx,ho,o8,show bH (25,m)=some ((0,0,0),false)from rfl,show dK 25=some ([],0)from rfl,o6,show seq ([]:List UInt8) []=true from rfl,I7,Z9,N9,o7,lx0,lg0,w6];rw[G5 E5,o8]
 .have e1:NV (31,m) N [(kY N a).1]=[(kY N a).1]:=rfl;rw[vO (j:=k+1) hx ho hi hf o5 hN (ts:=[(kY N a).1]) ⟨rfl,rfl,o5,o5,o5,o5,o5,o5,o5⟩ rfl x9 (by simpa using hla) (by rw[e1,Tv];omega) (hc1 w0),e1,Tv];rfl
 .have e1:NV (32,m) N [(kY N a).1]=[(kY N a).1]:=rfl;rw[vO (j:=k+1) hx ho hi hf o5 hN (ts:=[(kY N a).1]) ⟨rfl,rfl,o5,o5,o5,o5,o5,o5,o5⟩ rfl x9 (by simpa using hla) (by rw[e1,Tv];omega) (hc1 w0),e1,Tv];rfl
 .have e1:NV (33,m) N [(kY N a).1]=[gtN N.2.1 m,(kY N a).1]:=rfl;rw[vO (j:=k+1) hx ho hi hf o5 hN (ts:=[(kY N a).1]) ⟨rfl,rfl,o5,o5,o5,o5,o5,o5,o5⟩ rfl x9 (by simpa using hla) (by rw[e1,ZX];simp;omega) (hc1 w0),e1,ZX];simp[Ce,C9,l7]
 .have e1:NV (34,m) N [(kY N a).1]=[gtN N.2.1 (eU .i64 m 8),(kY N a).1,ug (jP m 8)]:=rfl;rw[vO (j:=k+1) hx ho hi hf o5 hN (ts:=[(kY N a).1]) ⟨rfl,rfl,o5,o5,o5,o5,o5,o5,o5⟩ rfl x9 (by simpa using hla) (by rw[e1,ZY];simp;omega) (hc1 w0),e1,ZY];simp[Ce,C9,l7]
theorem a5v(n:Int×Int)(a b:XT)(o k:Nat)(h:At e (T.sts 0) (.l2 n a b) o)(hw:(XT.l2 n a b).wf)(hla:(kY N a).1.length<=1000000)(hlb:(kY N b).1.length<=1000000)
  (ia:∀q,k<=q->(A7 q).1 (e,N) (rtI a o:Int)=some ((kY N a).1,(kY N a).2,(e,N))) (ib:∀q,k<=q->(A7 q).1 (e,N) (rtI b (o+a.size):Int)=some ((kY N b).1,(kY N b).2,(e,N))):
  (A7 (k+3)).1 (e,N) (rtI (.l2 n a b) o:Int)=some ((Gv n (kY N a) (kY N b)).1,(Gv n (kY N a) (kY N b)).2,(e,N)):=by
 have hr:=sS h;have ho:=yX hT h hw;have hx:L6 e ((rtI (.l2 n a b) o:Nat):Int)=some n:=by rw[J9];exact hr.1
 have hmem:=pg hr.1;have hi:=hI n hmem;have hf:=hz n hmem;rw[show a0A (.l2 n a b) o=[((rtI a o:Nat):Int),((rtI b (o+a.size):Nat):Int)]from rfl]at ho;generalize ((rtI (.l2 n a b) o:Nat):Int)=i at hx ho;obtain⟨op,m⟩:=n;have ha:arF op=2:=hw.1;have w0:(A7 (k+1)).2.2 (e,N) ((rtI a o:Nat):Int) 0=some ((kY N a).1,(e,N)):=by rw[qE 0 (ia k o5) hla,wi0 (MK N a)]
 have w1:(A7 (k+1)).2.2 (e,N) ((rtI b (o+a.size):Nat):Int) 0=some ((kY N b).1,(e,N)):=by rw[qE 0 (ib k o5) hlb,wi0 (MK N b)]
 have u1:∀c,(A7 (k+2)).2.2 (e,N) ((rtI a o:Nat):Int) c=some (wiS (kY N a) c,(e,N)):=λc=>qE c (ia (k+1) o5) hla;have u2:∀c,(A7 (k+2)).2.2 (e,N) ((rtI b (o+a.size):Nat):Int) c=some (wiS (kY N b) c,(e,N)):=λc=>qE c (ib (k+1) o5) hlb;generalize ((rtI a o:Nat):Int)=j at ho w0 u1;generalize ((rtI b (o+a.size):Nat):Int)=j' at ho w1 u2;have hml:=yu m;by_cases h1:op=17\/op=18\/op=27\/op=28\/op=29\/op=30
 .have e1:NV (op,m) N [(kY N a).1,(kY N b).1]=[(kY N a).1,(kY N b).1]:=by rcases h1 with rfl|rfl|rfl|rfl|rfl|rfl<;>rfl
  have e2:Gv (op,m) (kY N a) (kY N b)=(ru op++[40]++(kY N a).1++[44,32]++(kY N b).1++[41],7):=by rcases h1 with rfl|rfl|rfl|rfl|rfl|rfl<;>rfl
  rw[vO (j:=k+1) hx ho hi hf o5 hN (ts:=[(kY N a).1,(kY N b).1]) (by rcases h1 with rfl|rfl|rfl|rfl|rfl|rfl<;>exact⟨rfl,rfl,o5,o5,o5,o5,o5,o5,o5⟩) rfl x9 (by simp;exact⟨hla,hlb⟩) (by rw[e1,ZX];simp;omega) (hc2 w0 w1),e1,ZX,e2];simp
 by_cases h2:op=14\/op=15\/op=16
 .have e1:NV (op,m) N [(kY N a).1,(kY N b).1]=[(kY N a).1,(kY N b).1,ug m]:=by rcases h2 with rfl|rfl|rfl<;>rfl
  have e2:Gv (op,m) (kY N a) (kY N b)=(ru op++[40]++(kY N a).1++[44,32]++(kY N b).1++[44,32]++ug m++[41],7):=by rcases h2 with rfl|rfl|rfl<;>rfl
  rw[vO (j:=k+1) hx ho hi hf o5 hN (ts:=[(kY N a).1,(kY N b).1]) (by rcases h2 with rfl|rfl|rfl<;>exact⟨rfl,rfl,o5,o5,o5,o5,o5,o5,o5⟩) rfl x9 (by simp;exact⟨hla,hlb⟩) (by rw[e1,ZY];simp;omega) (hc2 w0 w1),e1,ZY,e2];simp
 have hk:op=11\/op=12\/op=13\/op=19\/op=20\/op=21\/op=22\/op=23\/op=24:=by have:=ar2 ha;omega
 have hl:=Vw op;have hc:1<=(xk op).2/\(xk op).2<=5:=by rcases hk with rfl|rfl|rfl|rfl|rfl|rfl|rfl|rfl|rfl<;>decide
 have hs:seq (xk op).1 []=false:=by rcases hk with rfl|rfl|rfl|rfl|rfl|rfl|rfl|rfl|rfl<;>rfl
 have hlit:bH (op,m)=some ((0,0,0),false):=by rcases hk with rfl|rfl|rfl|rfl|rfl|rfl|rfl|rfl|rfl<;>rfl
 have hb:XN op=false/\Hz op=false:=by rcases hk with rfl|rfl|rfl|rfl|rfl|rfl|rfl|rfl|rfl<;>exact⟨rfl,rfl⟩
 have v1:=AC (kY N a) 4;have v2:=AC (kY N a) (xk op).2;have v3:=AC (kY N b) ((xk op).2+1);rw[Iu];unfold X8 Gv;simp only[hx,ho,o8,hlit,a4s,hs,o6,o7,Z7,lx0,lg0,lx1,lg1,u1,u2,jS (show lG ((xk op).2+1) by unfold lG;omega),hb.1,hb.2];cases C9 (xk op).2 3
 .simp only[o6];rw[G5 E5,o8,G5 E5,o8,G5 E5,o8,G5 E5,o8]
 .simp only[o7];rw[G5 E5,o8,G5 E5,o8,G5 E5,o8,G5 E5,o8]
theorem a7r(n:Int×Int)(a b c:XT)(o k:Nat)(h:At e (T.sts 0) (.l3 n a b c) o)(hw:(XT.l3 n a b c).wf)(hla:(kY N a).1.length<=1000000)(hlb:(kY N b).1.length<=1000000)(hlc:(kY N c).1.length<=1000000)
  (ia:∀q,k<=q->(A7 q).1 (e,N) (rtI a o:Int)=some ((kY N a).1,(kY N a).2,(e,N))) (ib:∀q,k<=q->(A7 q).1 (e,N) (rtI b (o+a.size):Int)=some ((kY N b).1,(kY N b).2,(e,N)))
  (ic:∀q,k<=q->(A7 q).1 (e,N) (rtI c (o+a.size+b.size):Int)=some ((kY N c).1,(kY N c).2,(e,N))):
  (A7 (k+3)).1 (e,N) (rtI (.l3 n a b c) o:Int)=some ((ifX (kY N a) (kY N b) (kY N c)).1,(ifX (kY N a) (kY N b) (kY N c)).2,(e,N)):=by
 have hr:=sS h;have ho:=yX hT h hw;have hx:L6 e ((rtI (.l3 n a b c) o:Nat):Int)=some n:=by rw[J9];exact hr.1
 rw[show a0A (.l3 n a b c) o=[((rtI a o:Nat):Int),((rtI b (o+a.size):Nat):Int),((rtI c (o+a.size+b.size):Nat):Int)]from rfl]at ho;generalize ((rtI (.l3 n a b c) o:Nat):Int)=i at hx ho;obtain⟨op,m⟩:=n;have ha:op=26:=ar3 hw.1;subst ha;have u1:(A7 (k+2)).2.2 (e,N) ((rtI a o:Nat):Int) 0=some ((kY N a).1,(e,N)):=by rw[qE 0 (ia (k+1) o5) hla,wi0 (MK N a)]
 have u2:(A7 (k+2)).2.2 (e,N) ((rtI b (o+a.size):Nat):Int) 0=some ((kY N b).1,(e,N)):=by rw[qE 0 (ib (k+1) o5) hlb,wi0 (MK N b)]
 have u3:(A7 (k+2)).2.2 (e,N) ((rtI c (o+a.size+b.size):Nat):Int) 0=some ((kY N c).1,(e,N)):=by rw[qE 0 (ic (k+1) o5) hlc,wi0 (MK N c)]
 rw[Iu];unfold X8 ifX;simp (disch:=decide) only[hx,ho,o8,show bH (26,m)=some ((0,0,0),false)from rfl,show dK 26=some ([],0)from rfl,o6,show seq ([]:List UInt8) []=true from rfl,I7,Z9,N9,o7,lx0,lg0,lx1,lg1,lx2,lg2,u1,u2,u3];rw[G5 E5,o8,G5 E5,o8,G5 E5,o8,G5 E5,o8,G5 E5,o8]
theorem a2M:∀(t:XT) (o k:Nat),At e (T.sts 0) t o->t.wf->3*t.size<=k->(A7 k).1 (e,N) (rtI t o:Int)=some ((kY N t).1,(kY N t).2,(e,N)):=by
 have h48:=(sK hT).2;have hlen:∀(t:XT) (o:Nat),At e (T.sts 0) t o->(kY N t).1.length<=1000000:=by
  intro t o h;obtain⟨p,s,S1,S2,h1,-,-,-⟩:=h;have hl:=wY hN t (λn hn=>hI n (by rw[h1];simp[hn]));have:t.size<=e.length:=by rw[←t.post_len,h1];simp;omega
  omega
 intro t;induction t with
 |l0 n=>intro o k h hw hk;simp only[XT.size]at hk;obtain⟨k,rfl⟩:∃m,k=m+2:=⟨k -2,o5⟩;exact a2L hN hT hI hz n o k h hw
 |l1 n a iha=>intro o k h hw hk;simp only[XT.size]at hk;obtain⟨k,rfl⟩:∃m,k=m+3:=⟨k -3,o5⟩;exact a5u hN hT hI hz n a o k h hw (hlen a o (ZF h)) (λq hq=>iha o q (ZF h) hw.2 o5)
 |l2 n a b iha ihb=>intro o k h hw hk;simp only[XT.size]at hk;obtain⟨k,rfl⟩:∃m,k=m+3:=⟨k -3,o5⟩;exact a5v hN hT hI hz n a b o k h hw (hlen a o (SH h).1) (hlen b _ (SH h).2) (λq hq=>iha o q (SH h).1 hw.2.1 o5) (λq hq=>ihb _ q (SH h).2 hw.2.2 o5)
 |l3 n a b c iha ihb ihc=>intro o k h hw hk;simp only[XT.size]at hk;obtain⟨k,rfl⟩:∃m,k=m+3:=⟨k -3,o5⟩;exact a7r hN hT hI hz n a b c o k h hw (hlen a o (Jt h).1) (hlen b _ (Jt h).2.1) (hlen c _ (Jt h).2.2) (λq hq=>iha o q (Jt h).1 hw.2.1 o5) (λq hq=>ihb _ q (Jt h).2.1 hw.2.2.1 o5) (λq hq=>ihc _ q (Jt h).2.2 hw.2.2.2 o5)
end
end
section
variable {N:D9}
theorem a6X{n:Int×Int}(hN:NmOk N)(hI:lG n.2)(ha:0<=arF n.1):V4 n N=some (flS n N):=by
 obtain⟨k,m⟩:=n;have fin:∀{args:List H5} {x:Tx},AL (k,m) args N x->V4 (k,m) N=some (flS (k,m) N):=by rintro args x ⟨c,h1,-⟩;rw[Ux h1];exact h1
 by_cases h0:m=0\/aJ k=some true
 .have h3:arF k=0\/arF k=1\/arF k=2\/arF k=3:=by have:=(CG k).2.2;simp only at ha;omega
  rcases h3 with h|h|h|h
  .exact fin (z_ hN hI h h0)
  .exact fin (A_ hN hI h h0 ([],0,false) x9)
  .exact fin (B_ h h0 ([],0,false) ([],0,false) x9 x9)
  .have:=ar3 h;subst this;exact fin (C_ h0 ([],0,false) ([],0,false) ([],0,false) x9 x9 x9)
 .have h1:m≠0:=λh=>h0 (.inl h);have h2:aJ k=some false:=(L_ ha).resolve_left λh=>h0 (.inr h);have:=a6n (N:=N) ha h1 h2;rw[Ux this];exact this
theorem Ew:∀(t:XT),t.wf->∀n∈t.post,0<=arF n.1
 | .l0 n,h,m,hm=>by simp[XT.post]at hm;rw[hm];rw[show arF n.1=0 from h];decide| .l1 n a,h,m,hm=>by
  simp[XT.post]at hm;rcases hm with hm|hm
  .exact Ew a h.2 m hm
  .rw[hm,h.1];decide
 | .l2 n a b,h,m,hm=>by
  simp[XT.post]at hm;rcases hm with hm|hm|hm
  .exact Ew a h.2.1 m hm
  .exact Ew b h.2.2 m hm
  .rw[hm,h.1];decide
 | .l3 n a b c,h,m,hm=>by
  simp[XT.post]at hm;rcases hm with hm|hm|hm|hm
  .exact Ew a h.2.1 m hm
  .exact Ew b h.2.2.1 m hm
  .exact Ew c h.2.2.2 m hm
  .rw[hm,h.1];decide
theorem ZN{N:D9} :∀{l:List (Int×Int)},ffS N l=0->∀n∈l,flS n N=0
 |[],_,n,h=>by cases h|a::l,h,n,hn=>by
  unfold ffS at h;cases hf:C9 (flS a N) 0
  .rw[hf]at h;rw[o6]at h;exact absurd h (IR.1 hf)
  .rw[hf]at h;rw[o7]at h;rcases D6.1 hn with rfl|hn
   .exact mf.1 hf
   .exact ZN h n hn
theorem WX(e:List (Int×Int))(he:e.length<=1000)(hf:∀n∈e,V4 n N=some (flS n N)):
  U2 (λ(x:Int)=>
     l7 (H6 x (o9 e))
      (l9 (L6 e x) λ(x_1:J4)=>
       l9 (V4 x_1 N) λ(x_2:Int)=>
        l7 (G8 (C9 x_2 0)) (some (Out.rt (([]:List UInt8),x_2))) (some (Out.nx (F6 IntKind.i64 x 1))))
      (some (Out.ex PUnit.unit))) 0=some (l7 (C9 (ffS N e) 0) (.inl PUnit.unit) (.inr ([],ffS N e))):=by
 have key:∀(l pre:List (Int×Int)) (k:Nat),e=pre++l->l.length<k->
   jE (λ(x:Int)=>
     l7 (H6 x (o9 e))
      (l9 (L6 e x) λ(x_1:J4)=>
       l9 (V4 x_1 N) λ(x_2:Int)=>
        l7 (G8 (C9 x_2 0)) (some (Out.rt (([]:List UInt8),x_2))) (some (Out.nx (F6 IntKind.i64 x 1))))
      (some (Out.ex PUnit.unit))) k (pre.length:Int)=some (l7 (C9 (ffS N l) 0) (.inl PUnit.unit) (.inr ([],ffS N l))):=by
  intro l;induction l with
  |nil=>intro pre k h hk;obtain⟨k,rfl⟩:∃k',k=k' +1:=⟨k -1,by simp at hk;omega⟩;rw[Ea];rw[F7]at h;rw[←h,O6];rfl
  |cons n l ih=>
   intro pre k h hk;obtain⟨k,rfl⟩:∃k',k=k' +1:=⟨k -1,by simp at hk;omega⟩;have hn:e[pre.length]? =some n:=by rw[h,H8 (D8 _),fU];rfl
   have hlt:=(ax.1 hn).1;rw[Ea];simp only[O7 hn,o7,J9,hn,o8,hf n (pg hn)];unfold ffS;cases hg:C9 (flS n N) 0
   .simp only[Z7,o7,o6,hg]
   .simp only[I7,o7,o6];have:=ih (pre++[n]) k (by rw[h];simp) (by simp at hk;omega);rw[show(((pre++[n]).length:Nat):Int)=F6 .i64 (pre.length:Int) 1 by rw[dF o5];simp]at this;exact this
 have:=key e [] gy rfl (by unfold gy;omega);exact this
theorem a5C{e:List (Int×Int)}(hN:NmOk N)(hI:∀n∈e,lG n.2):oH e N=some (RI e N):=by
 unfold oH Eh RI;rw[Cf];unfold rf;cases h:jR e with
 |inl x=>simp only[o8,N9 (BJ h)];rfl|inr t=>
  obtain⟨h1,h2,h3,h4⟩:=VK h;obtain⟨hp,-⟩:=sK h;simp only[o8,Z9 (rfl:(0:Int)=0),I7,o6];have hw:=MH h;refine O9 (WX e o5 (λn hn=>a6X hN (hI n hn) (Ew t hw n (by rw[←hp];exact hn)))) ?_;rw[o8];cases hf:C9 (ffS N e) 0
  .rfl
  .simp only[o7,U3];rw[h4,show vk (e,N) ((rtI t 0:Nat):Int)=some ((kY N t).1,(kY N t).2,(e,N))from a2M hN h hI (ZN (mf.1 hf)) t 0 gy h1 hw (by unfold gy;omega)]<;>rfl
theorem a4S{e:List (Int×Int)}(hN:NmOk N)(hI:∀n∈e,lG n.2):(RI e N).1.length<=150000:=by
 unfold RI;cases h:jR e with
 |inl x=>simp|inr t=>
  obtain⟨hp,h48⟩:=sK h;have:=wY hN t (by rw[←hp];exact hI);rw[←t.post_len,←hp]at this;simp only;cases C9 (ffS N e) 0
  .simp[l7]
  .simp only[o7];omega
def clB(n:Int):Int:=l7 (H6 n 0) 0 (l7 (H6 8 n) 8 n)
theorem BQ(n:Int):0<=clB n/\clB n<=8:=by
 unfold clB;by_cases h:n<0
 .rw[bn h];simp[l7]
 by_cases h2:8<n
 .rw[au o5,bn h2];simp[l7]
 .rw[au o5,au o5];exact⟨by simp[l7];omega,by simp[l7];omega⟩
theorem Dz(n:Int):oK n=some (clB n):=by
 unfold oK clB wz ww;simp only[mZ,sV]
 repeat' split
 all_goals first|rfl|omega|(congr 1;omega)
theorem TR(n:Int):yA n=some (clB n):=by unfold yA clB;cases H6 n 0<;>cases H6 8 n<;>rfl
theorem QS:∀k:Fin 9,ZU .i64 1 (k.val:Int)=some (2^k.val)/\Je (k.val:Int)=some (2^k.val):=by decide+kernel
theorem a4C(p:Int×Int)(n:Int):qR p n=yz p n:=by unfold qR yz;rw[Dz,TR,o8,o8];obtain⟨k,hk⟩:∃k:Fin 9,clB n=(k.val:Int):=⟨⟨(clB n).toNat,by have:=BQ n;omega⟩,by have:=BQ n;simp;omega⟩;rw[hk,(QS k).1,(QS k).2]
def tvS(p:Int×Int)(n:Int):Bool:=l7 (P7 0 p.1) (l7 (H6 p.1 (2^(clB n).toNat)) (l7 (P7 0 p.2) (C9 (xx .i64 p.2 p.1) p.2) false) false) false
theorem a6N(p:Int×Int)(n:Int):qR p n=some (tvS p n):=by
 unfold qR tvS;rw[Dz,o8];obtain⟨k,hk⟩:∃k:Fin 9,clB n=(k.val:Int):=⟨⟨(clB n).toNat,by have:=BQ n;omega⟩,by have:=BQ n;simp;omega⟩;rw[hk,(QS k).1,o8,U7];cases P7 0 p.1
 .rfl
 cases H6 p.1 (2^k.val)
 .rfl
 cases P7 0 p.2<;>rfl
theorem VL:∀v:Fin 256,∀i:Fin 8,C9 (xx .i64 (Ym .i64 (v.val:Int) (i.val:Int)) 1) 0=C9 (xx .i64 (v.val:Int) (2^i.val)) 0/\C9 (xx .i64 (Ym .i64 (v.val:Int) (i.val:Int)) 1) 1=G8 (C9 (xx .i64 (v.val:Int) (2^i.val)) 0):=by decide+kernel
theorem a4J:∀a:Fin 256,∀b:Nat,b<9223372036854775808->(BitVec.ofInt 64 (b:Int)&&& BitVec.ofInt 64 (a.val:Int)).toNat<=a.val:=by
 intro a b hb;rw[BitVec.toNat_and];have h:(BitVec.ofInt 64 ((a.val:Nat):Int)).toNat=a.val:=by rw[BitVec.toNat_ofInt];have:=a.isLt;omega
 rw[h];exact Nat.and_le_right
variable {p:Int×Int}{n:Int}
theorem a4z(hI:lG p.2)(h:tvS p n=true):(0<=p.1/\p.1<2^(clB n).toNat/\p.1<=255)/\0<=p.2/\p.2<=p.1:=by
 unfold tvS at h;cases h1:P7 0 p.1<;>rw[h1]at h
 .cases h
 cases h2:H6 p.1 (2^(clB n).toNat)<;>rw[h2]at h
 .cases h
 cases h3:P7 0 p.2<;>rw[h3]at h
 .cases h
 rw[o7,o7,o7]at h;have h1:=qw.1 h1;have h2:=sV.1 h2;have h3:=qw.1 h3;have h4:=mf.1 h;have h255:p.1<=255:=by
  obtain⟨k,hk⟩:∃k:Fin 9,(clB n).toNat=k.val:=⟨⟨(clB n).toNat,by have:=BQ n;omega⟩,rfl⟩;rw[hk]at h2;have:∀k:Fin 9,(2:Int)^k.val<=256:=by decide
  have:=this k;omega
 refine⟨⟨h1,h2,h255⟩,h3,?_⟩;unfold lG at hI;have:=a4J ⟨p.1.toNat,o5⟩ p.2.toNat o5;rw[bC h3]at this;simp only at this;rw[bC h1]at this;have e:xx .i64 p.2 p.1=((BitVec.ofInt 64 p.2&&& BitVec.ofInt 64 p.1).toNat:Int):=by unfold xx;refine yD ?_;show lG ((BitVec.ofInt 64 p.2&&& BitVec.ofInt 64 p.1).toNat:Int);unfold lG;omega
 rw[e]at h4;omega
def XI(p:Int×Int)(i:Nat):Int:=l7 (C9 (xx .i64 p.1 (2^i)) 0) 45 (l7 (C9 (xx .i64 p.2 (2^i)) 0) 48 49)
def AV(p:Int×Int):Nat->List Int
 |0=>[]|k+1=>XI p k::AV p k
theorem KR(p:Int×Int):∀k,(AV p k).length=k
 |0=>rfl|k+1=>by unfold AV;simp[KR p k]
def YC(p:Int×Int)(n:Int):List UInt8:=EM (AV p (clB n).toNat)
theorem a4K(h1:0<=p.1/\p.1<=255)(h2:0<=p.2/\p.2<=255){i:Nat}(hi:i<8)(acc:List Int)(hacc:acc.length<=100):
  (l9 (Ik IntKind.i64 p.1 (i:Int)) λ(x_1:Int)=>
      l7 (C9 (xx IntKind.i64 x_1 1) 0)
       (l9 (bK acc [45]) λ(x_2:List Int)=>some (Sum.inl (x_2,Y1 IntKind.i64 (i:Int) 1)))
       (l9 (Ik IntKind.i64 p.2 (i:Int)) λ(x_2:Int)=>
        l7 (C9 (xx IntKind.i64 x_2 1) 1)
         (l9 (bK acc [49]) λ(x_3:List Int)=>some (Sum.inl (x_3,Y1 IntKind.i64 (i:Int) 1)))
         (l9 (bK acc [48]) λ(x_3:List Int)=>some (Sum.inl (x_3,Y1 IntKind.i64 (i:Int) 1)))))=(some (.inl (acc++[XI p i],(i:Int) -1)):Option ((List Int×Int)⊕List Int)):=by
 have a1:=VL ⟨p.1.toNat,o5⟩ ⟨i,hi⟩;have a2:=VL ⟨p.2.toNat,o5⟩ ⟨i,hi⟩;simp only[bC h1.1,bC h2.1]at a1 a2;have so:∀v:Int,Ik .i64 v (i:Int)=some (Ym .i64 v (i:Int)):=by intro v;unfold Ik;rw[if_neg o5]
 rw[so,so,o8,o8,a1.1,a2.2,fO (show lG ((i:Int) -1) by unfold lG;omega)];rw[kK _ o5,kK _ o5,kK _ o5,o8,o8,o8];unfold XI;cases C9 (xx .i64 p.1 (2^i)) 0<;>cases C9 (xx .i64 p.2 (2^i)) 0<;>rfl
theorem a7o(hI:lG p.2)(h:tvS p n=true):sO p n=some (YC p n):=by
 obtain⟨⟨b1,-,b2⟩,b3,b4⟩:=a4z hI h;obtain⟨k,hk⟩:∃k:Nat,clB n=(k:Int):=⟨(clB n).toNat,by have:=BQ n;omega⟩;have hk8:k<=8:=by have:=BQ n;omega
 unfold sO YC;rw[Dz,o8,hk,U7,fO iG];have key:∀(k m:Nat) (acc:List Int),k<=8->acc.length+k<=50->ul (λ(x:List Int×Int)=>
    l7 (P7 0 x.2)
     (l9 (Ik IntKind.i64 p.1 x.2) λ(x_1:Int)=>
      l7 (C9 (xx IntKind.i64 x_1 1) 0)
       (l9 (bK x.1 [45]) λ(x_2:List Int)=>some (Sum.inl (x_2,Y1 IntKind.i64 x.2 1)))
       (l9 (Ik IntKind.i64 p.2 x.2) λ(x_2:Int)=>
        l7 (C9 (xx IntKind.i64 x_2 1) 1)
         (l9 (bK x.1 [49]) λ(x_3:List Int)=>some (Sum.inl (x_3,Y1 IntKind.i64 x.2 1)))
         (l9 (bK x.1 [48]) λ(x_3:List Int)=>some (Sum.inl (x_3,Y1 IntKind.i64 x.2 1)))))
     (some (Sum.inr x.1))) (m+k+1) (acc,(k:Int) -1)=some (acc++AV p k):=by
  intro k;induction k with
  |zero=>intro m acc _ _;refine(zA (e:=acc) ?_).trans (by rw[show AV p 0=[]from rfl,F7]);rfl|succ k ih=>
   intro m acc hk ha;rw[show m+(k+1)+1=(m+k+1)+1 by omega,show(((k+1:Nat):Int) -1)=(k:Int) by omega];rw[vM (s' :=(acc++[XI p k],(k:Int) -1)) (by simp only[ai (show(0:Int)<=(k:Int) by omega),o7];exact a4K ⟨b1,b2⟩ ⟨b3,o5⟩ o5 acc o5)]
   rw[ih m _ o5 (by simp;have:=ha;omega)];rw[show AV p (k+1)=XI p k::AV p k from rfl];simp
 have:=key k (gy -k -1) [] hk8 E5;rw[show gy -k -1+k+1=gy by unfold gy;omega]at this;refine O9 this ?_;rfl
theorem a5r:∀i:Fin 8,DU .i64 (2^i.val) 2=2^(i.val+1):=by decide
theorem a5D(hI:lG p.2)(h:tvS p n=true):zh p n=some (YC p n):=by
 obtain⟨k,hk⟩:∃k:Nat,clB n=(k:Int):=⟨(clB n).toNat,by have:=BQ n;omega⟩;have hk8:k<=8:=by have:=BQ n;omega
 unfold zh YC;simp only[TR,o8];rw[hk,U7];have key:∀(m q i:Nat),i+m=k->ul (λ(x:jw)=>
    l7 (H6 x.2.2 (k:Int))
     (l7 (G8 (C9 (xx IntKind.i64 p.1 x.2.1) 0))
      (l7 (G8 (C9 (xx IntKind.i64 p.2 x.2.1) 0))
       (l9 (J5 [49] x.1) λ(x_2:List UInt8)=>
        some (Sum.inl (x_2,DU IntKind.i64 x.2.1 2,F6 IntKind.i64 x.2.2 1)))
       (l9 (J5 [48] x.1) λ(x_2:List UInt8)=>
        some (Sum.inl (x_2,DU IntKind.i64 x.2.1 2,F6 IntKind.i64 x.2.2 1))))
      (l9 (J5 [45] x.1) λ(x_2:List UInt8)=>
       some (Sum.inl (x_2,DU IntKind.i64 x.2.1 2,F6 IntKind.i64 x.2.2 1))))
     (some (Sum.inr x.1))) (q+m+1) (EM (AV p i),2^i,(i:Int))=some (EM (AV p k)):=by
  intro m;induction m with
  |zero=>intro q i hi;have:i=k:=o5;subst this;refine zA ?_;simp only[au (show(i:Int)<=(i:Int) by omega),o6]|succ m ih=>
   intro q i hi;rw[show q+(m+1)+1=(q+m+1)+1 by omega];rw[vM (s' :=(EM (AV p (i+1)),2^(i+1),((i+1:Nat):Int))) (by
    have hl:(EM (AV p i)).length<=8:=by unfold EM;rw[U5,KR];omega
    have hp:DU .i64 (2^i) 2=2^(i+1):=a5r ⟨i,o5⟩;simp only[bn (show(i:Int)<(k:Int) by omega),o7];rw[G5 E5,G5 E5,G5 E5,o8,o8,o8,hp,dF o5];rw[show EM (AV p (i+1))=a4A (XI p i)::EM (AV p i)from rfl];unfold XI;cases C9 (xx .i64 p.1 (2^i)) 0<;>cases C9 (xx .i64 p.2 (2^i)) 0<;>rfl)]
   exact ih q (i+1) o5
 have:=key k (gy -k -1) 0 o5;rw[show gy -k -1+k+1=gy by unfold gy;omega]at this;refine O9 this ?_;rfl
theorem a5o(p:Int×Int)(n:Int):(YC p n).length<=8:=by have:=BQ n;unfold YC EM;rw[U5,KR];omega
theorem a1q{a:List dM}(h:a.length<=1000000)(h2:∀e∈a,e.2.length<=1000000):rV a=some a:=by
 unfold rV;refine O9 (Yh a (λe=>e) h (F:=λx=>x) (λi e acc he hi=>?_) (λacc=>?_)) ?_
 rotate_left 2
 .rw[o8,List.map_id']
 .have hlt:=(ax.1 he).1;simp only[O7 he,o7,J9,he,o8,XP (h2 e (pg he))];rw[kK _ o5];rfl
 .simp only[O6 a,o6]
theorem Yg{l:List jw}(h:l.length<=1000000):jo l=some (l.map (·.1)):=by
 unfold jo;refine O9 (Yh l (λ(f:jw)=>f.1) h (F:=λx=>x) (λi e acc he hi=>?_) (λacc=>?_)) ?_
 rotate_left 2
 .rfl
 .have hlt:=(ax.1 he).1;simp only[O7 he,o7,J9,he,o8];rw[kK _ o5];rfl
 .simp only[O6 l,o6]
def nmS(l:dL)(s:J3):D9:=(l.1,l.2.1.map (·.1),s.2.2.1.map (·.1),s.2.2.2.1.map (·.1),l7 (P7 0 s.2.1) (match L6 l.2.2 s.2.1 with|some q=>q.2.2.2.1.map (·.1)|none=>[]) [])
structure NmL (l:dL):Prop where
 ne:l.1.length<=9
 nt:l.2.1.length<=9
 e:∀e∈l.1,e.2.length<=20/\e.1.length<=80/\∀m∈e.2,m.length<=80
 t:∀t∈l.2.1,t.1.length<=80
 s:∀s∈l.2.2,s.2.2.1.length<=14/\s.2.2.2.1.length<=14/\s.2.2.2.2.length<=60/\(∀f∈s.2.2.1,f.1.length<=80)/\(∀f∈s.2.2.2.1,f.1.length<=80)/\∀r∈s.2.2.2.2,r.1.length<=80
variable {l:dL}
theorem a7e(h:smL l=true)(hW:WfL l):NmL l:=by
 unfold smL at h;obtain⟨h1,h⟩:=zI h;obtain⟨h2,h⟩:=zI h;obtain⟨h3,h⟩:=zI h;obtain⟨h4,h⟩:=zI h;cases ht:gB tG l.2.1 0 with
 |inr r=>rw[ht]at h;cases h|inl b=>
  rw[ht]at h;simp only at h;cases hs:gB sG l.2.2 0 with
  |inr r=>rw[hs]at h;cases h|inl b' =>
   have T:=Zo l.2.1 0 b o5 o5 hW.rl ht;have S:=YY l.2.2 0 b' o5 o5 hW.sl hs;refine⟨bu (n:=9) h1,bu (n:=9) h2,λe he=>?_,λt ht=>(T t ht).1,λs hs=>?_⟩
   .have hl:=EU h4 e he;unfold TB at hl;cases g1:H6 80 (o9 e.1)<;>rw[g1]at hl
    case true=>cases hl
    cases g2:H6 20 (o9 e.2)<;>rw[g2]at hl
    case true=>cases hl
    refine⟨bu (n:=20) g2,bu (n:=80) g1,λm hm=>?_⟩;have:=EU (p:=λm=>H6 80 (o9 m)) hl m hm;exact bu (n:=80) this
   .have h:=S s hs;unfold smS at h;obtain⟨a1,h⟩:=zI h;obtain⟨a2,h⟩:=zI h;obtain⟨a3,h⟩:=zI h;obtain⟨a4,h⟩:=zI h;obtain⟨a5,h⟩:=zI h;obtain⟨a6,h⟩:=zI h;have a7:s.2.2.2.2.any Ip=false:=by revert h;cases s.2.2.2.2.any Ip<;>intro h<;>first|rfl|cases h
    refine⟨bu (n:=14) a2,bu (n:=14) a3,bu (n:=60) a4,λf hf=>bu (n:=80) (EU a5 f hf),λf hf=>bu (n:=80) (EU a6 f hf),λr hr=>?_⟩;have hl:=EU a7 r hr;unfold Ip at hl;cases g1:H6 80 (o9 r.1)<;>rw[g1]at hl
    case true=>cases hl
    exact bu (n:=80) g1
variable {s:J3}
theorem a7f(h:NmL l)(hs:s∈l.2.2):NmOk (nmS l s):=by
 obtain⟨s1,s2,s3,s4,s5,s6⟩:=h.s s hs;refine⟨λe he=>?_,λx hx=>?_,λx hx=>?_,λx hx=>?_,λx hx=>?_⟩
 .have:=h.e e he;exact⟨o5,λm hm=>by have:=this.2.2 m hm;omega⟩
 .obtain⟨t,ht,rfl⟩:=fQ.1 hx;have:=h.t t ht;omega
 .obtain⟨f,hf,rfl⟩:=fQ.1 hx;have:=s4 f hf;omega
 .obtain⟨f,hf,rfl⟩:=fQ.1 hx;have:=s5 f hf;omega
 .unfold nmS at hx;simp only at hx;cases g:P7 0 s.2.1<;>rw[g]at hx
  .cases hx
  .simp only[o7]at hx;split at hx
   .rename_i q hq;obtain⟨f,hf,rfl⟩:=fQ.1 hx;have:=(h.s q (jm hq).2.2.1).2.2.2.2.1 f hf;omega
   .cases hx
theorem TQ(h:NmL l){k:Int}(hs:L6 l.2.2 k=some s):jJ l k=some (nmS l s):=by
 obtain⟨k0,k1,hm,-⟩:=jm hs;obtain⟨s1,s2,-⟩:=h.s s hm;have nt:=h.nt;unfold jJ;rw[au k0,aW k1,o6,o6,o8,U3,hs,o8,Yg o5,o8,Yg o5,o8];refine nI l.2.1 (λ(b:D9) (t:kQ)=>((b.1,b.2.1++[t.1],b.2.2):D9)) (λb i=>(b,i)) (λb=>b) (λi b=>b.2.1.length=i) (l.1,[],s.2.2.1.map (·.1),s.2.2.2.1.map (·.1),[]) o5 rfl (λi t b hx hi hI=>?_) (λb _=>?_) (λ_=>?_)
 .have hlt:=(ax.1 hx).1;simp only[O7 hx,o7,J9,hx,o8];rw[kK _ o5,o8,dF o5];exact⟨rfl,by simp;omega⟩
 .simp only[O6 l.2.1,o6]
 .have e:∀(L:List kQ) (b:D9),L.foldl (λ(b:D9) (t:kQ)=>((b.1,b.2.1++[t.1],b.2.2):D9)) b=(b.1,b.2.1++L.map (·.1),b.2.2):=by
   intro L;induction L with
   |nil=>intro b;simp|cons t L ih=>intro b;rw[Y0,ih];simp
  rw[e];unfold nmS;cases g:P7 0 s.2.1
  .simp[l7]
  .by_cases g2:s.2.1<o9 l.2.2
   .obtain⟨q,hq,hmq⟩:=pO (qw.1 g) g2;have:=(h.s q hmq).2.1;rw[bn g2,hq];simp only[o7,o8];rw[Yg o5,o8];simp
   .rw[au (qL.1 g2)];have:L6 l.2.2 s.2.1=none:=by
     cases hq:L6 l.2.2 s.2.1 with
     |none=>rfl|some q=>exact absurd (jm hq).2.1 g2
    rw[this];simp[l7]
theorem a1U(h:NmL l){k:Int}(hs:L6 l.2.2 k=some s):nX l k=some (nmS l s):=by rw[QY (a1q (by have:=h.ne;omega) (λe he=>by have:=(h.e e he).1;omega)) k];exact TQ h hs
def smT(t:X6):Bool:=l7 (H6 10 (o9 t.2.1)) false (l7 (H6 20 (o9 t.2.2.1)) false (l7 (H6 60 (o9 t.2.2.2)) false (G8 (t.2.1.any λe=>H6 60 (o9 e)))))
theorem Zb(t:X6):BC t=some (smT t):=by
 unfold BC smT;cases h1:H6 10 (o9 t.2.1)
 case true=>rfl
 cases h2:H6 20 (o9 t.2.2.1)
 case true=>rfl
 cases h3:H6 60 (o9 t.2.2.2)
 case true=>rfl
 have l1:=bu (n:=10) h1;simp only[o6,o8,U3];refine O9 (yR t.2.1 (λe=>H6 60 (o9 e)) false PUnit.unit o5 (λi a ha=>?_) ?_) ?_
 rotate_left 2
 .cases t.2.1.any λe=>H6 60 (o9 e)<;>rfl
 .simp only[O7 ha,o7,J9,ha,o8];cases H6 60 (o9 a)<;>rfl
 .rw[O6];rfl
def SzT(t:X6):Prop:=t.2.1.length<=10/\t.2.2.1.length<=20/\t.2.2.2.length<=10000
theorem a7U{t:X6}(h:smT t=true):t.2.1.length<=10/\t.2.2.1.length<=20/\t.2.2.2.length<=60/\∀e∈t.2.1,e.length<=60:=by
 unfold smT at h;obtain⟨a1,h⟩:=zI h;obtain⟨a2,h⟩:=zI h;obtain⟨a3,h⟩:=zI h;have a4:(t.2.1.any λe=>H6 60 (o9 e))=false:=by revert h;cases (t.2.1.any λe=>H6 60 (o9 e))<;>intro h<;>first|rfl|cases h
 exact⟨bu (n:=10) a1,bu (n:=20) a2,bu (n:=60) a3,λe he=>bu (n:=60) (EU a4 e he)⟩
theorem a3x{t:X6}(h:smT t=true):SzT t:=by obtain⟨a,b,c,-⟩:=a7U h;exact⟨a,b,o5⟩
abbrev VC:Type:=List UInt8×Int
def ruB(s:J3)(r:Int):Bool:=l7 (P7 0 r) (H6 r (o9 s.2.2.2.2)) false
def ruN(s:J3)(r:Int):List UInt8:=((L6 s.2.2.2.2 r).map (·.1)).getD []
theorem F_{r:Int}(h:ruB s r=true):H6 r 0=false/\P7 (o9 s.2.2.2.2) r=false/\P7 0 r=true/\H6 r (o9 s.2.2.2.2)=true/\∃q,L6 s.2.2.2.2 r=some q/\q.1=ruN s r/\q∈s.2.2.2.2:=by
 unfold ruB at h;cases h1:P7 0 r<;>rw[h1]at h
 .cases h
 rw[o7]at h;have a:=qw.1 h1;have b:=sV.1 h;obtain⟨q,hq,hm⟩:=pO a b;exact⟨au a,aW b,rfl,h,q,hq,by unfold ruN;rw[hq];rfl,hm⟩
theorem a6t{r:Int}(h:ruB s r=false):H6 r 0=true\/(H6 r 0=false/\P7 (o9 s.2.2.2.2) r=true):=by
 unfold ruB at h;by_cases h1:0<=r
 .rw[ai h1,o7]at h;exact .inr ⟨au h1,ai (uk.1 h)⟩
 .exact .inl (bn o5)
def a4D(s:J3)(r:Int)(t:List UInt8):List UInt8:=[119,104,101,110,32]++ruN s r++[32]++t++[10]
abbrev FmF:Type:=List (Int×Int)->D9->List UInt8×Int
def Ht(F:FmF)(s:J3)(N:D9)(t:List UInt8)(x:List (Int×Int)×Int):List UInt8⊕VC:=
 l7 (ruB s x.2) (l7 (C9 (F x.1 N).2 0) (.inl (t++a4D s x.2 (F x.1 N).1)) (.inr ([],(F x.1 N).2))) (.inr ([],6))
def Nw(p:Int×Int)(n:Int):List UInt8:=l7 (H6 0 n) (YC p n) [46]
def UO(s:J3)(o:Int):List UInt8:=l7 (C9 o (-1)) [110,111,110,101] (l7 (C9 o (-2)) [99,111,110,102,108,105,99,116] ([114,117,108,101,32]++ruN s o))
def Vj(s:J3)(r:aA)(n:Int):List UInt8:=[114,111,119,32]++Nw r.1 n++[32]++UO s r.2++[10]
def Qq(s:J3)(o:Int):Bool:=l7 (C9 o (-1)) true (l7 (C9 o (-2)) true (ruB s o))
def QK(s:J3)(n:Int)(r:aA):Int:=l7 (tvS r.1 n) (l7 (Qq s r.2) 0 6) 3
def Vh(s:J3)(n:Int)(t:List UInt8)(r:aA):List UInt8⊕VC:=l7 (C9 (QK s n r) 0) (.inl (t++Vj s r n)) (.inr ([],QK s n r))
def YP(s:J3)(n:Int)(t:List UInt8)(r:aA):List UInt8⊕VC:=l7 (C9 (QK s n r) 0) (.inl (l7 (P7 (o9 t) 65536) (t++Vj s r n) t)) (.inr ([],QK s n r))
theorem Hm(h:∀r∈s.2.2.2.2,r.1.length<=80)(o:Int):(ruN s o).length<=80:=by
 unfold ruN;cases hq:L6 s.2.2.2.2 o with
 |none=>simp|some q=>exact h q (jm hq).2.2.1
theorem WL(h:∀r∈s.2.2.2.2,r.1.length<=80)(o:Int):(UO s o).length<=90:=by have:=Hm h o;unfold UO;cases C9 o (-1)<;>cases C9 o (-2)<;>simp[l7]<;>omega
theorem LH(p:Int×Int)(n:Int):(Nw p n).length<=8:=by
 have:=a5o p n;unfold Nw;cases H6 0 n
 .simp[l7]
 .exact this
theorem QL(h:∀r∈s.2.2.2.2,r.1.length<=80)(r:aA)(n:Int):1<=(Vj s r n).length/\(Vj s r n).length<=110:=by have h1:=WL h r.2;have h2:=LH r.1 n;unfold Vj;simp;omega
theorem YO(h:∀r∈s.2.2.2.2,r.1.length<=80){r:aA}(hI:lG r.1.2)(n:Int):kR s r n=some (l7 (C9 (QK s n r) 0) (Vj s r n,0) ([],QK s n r)):=by
 have hl:=LH r.1 n;have ho:=Hm h r.2;unfold kR QK;rw[a6N,o8];cases ht:tvS r.1 n
 .rfl
 have hp:(l7 (H6 0 n) (l9 (sO r.1 n) λ(x:List UInt8)=>some x) (some [46]))=some (Nw r.1 n):=by
  unfold Nw;cases H6 0 n
  .rfl
  .rw[a7o hI ht];rfl
 simp only[I7,o6,o7];rw[hp,o8];unfold Qq Vj UO;cases h1:C9 r.2 (-1)
 case true=>simp only[o7,Z9 (rfl:(0:Int)=0)];rw[G5 E5,o8,G5 E5,o8];simp
 cases h2:C9 r.2 (-2)
 case true=>simp only[o7,o6,Z9 (rfl:(0:Int)=0)];rw[G5 E5,o8,G5 E5,o8];simp
 simp only[o6];cases h3:ruB s r.2
 .unfold ruB at h3;cases h4:P7 0 r.2
  .rfl
  .rw[h4,o7]at h3;rw[h3];rfl
 .obtain⟨a1,a2,a3,a4,q,a5,a6,a7⟩:=F_ h3;rw[a3,a4,a5];simp only[o7,Z9 (rfl:(0:Int)=0),o8];rw[G5 E5,o8,G5 E5,o8,a6,G5 E5,o8,G5 E5,o8];simp
theorem WZ{s:J3}(h:∀r∈s.2.2.2.2,r.1.length<=80)(n:Int):∀(L:List aA) (a b:List UInt8),a=b\/(65536<o9 a/\65536<o9 b)->
  (∃c,gB (YP s n) L a= .inr c/\gB (Vh s n) L b= .inr c)\/∃x y,gB (YP s n) L a= .inl x/\gB (Vh s n) L b= .inl y/\(x=y\/(65536<o9 x/\65536<o9 y))
 |[],a,b,hr=> .inr ⟨a,b,rfl,rfl,hr⟩|r::L,a,b,hr=>by
  unfold gB YP Vh;cases C9 (QK s n r) 0
  .exact .inl ⟨_,rfl,rfl⟩
  simp only[o7];refine WZ h n L _ _ ?_;have hl:=QL h r n;rcases hr with rfl|⟨h1,h2⟩
  .by_cases g:o9 a<=65536
   .rw[ai g,o7];exact .inl rfl
   .rw[aW o5,o6];refine .inr ⟨o5,?_⟩;unfold o9 at g ⊢;simp;omega
  .rw[aW h1,o6];refine .inr ⟨h1,?_⟩;unfold o9 at h2 ⊢;simp;omega
end
section
def dfS(F:FmF)(l:dL)(k:Int)(t:X6):VC:=
 l7 (C9 (Cj l).1 0) (match L6 l.2.2 k with
  |none=>([],6)
  |some s=>match L6 s.2.2.2.1 t.1 with
   |none=>([],6)
   |some d=>l7 (H6 8 (o9 t.2.1)) ([],4) (l7 (C9 (o9 t.2.2.1) (o9 t.2.1)) (match gB (Ht F s (nmS l s)) (t.2.1.zip t.2.2.1) ([100,101,99,105,115,105,111,110,32]++d.1++[10])with
    | .inr r=>r
    | .inl b=>match gB (Vh s (o9 t.2.1)) t.2.2.2 b with
     | .inr r=>r
     | .inl y=>l7 (H6 65536 (o9 y)) ([],4) (y,0)) ([],2))) ([],1)
theorem UD{α:Type}{l:List α}{k:Int}(h:H6 k 0=true\/H6 k 0=false/\P7 (o9 l) k=true):L6 l k=none:=by
 cases hq:L6 l k with
 |none=>rfl|some q=>
  obtain⟨a,b,-,-⟩:=jm hq;rcases h with h|⟨-,h⟩
  .have:=sV.1 h;omega
  .have:=qw.1 h;omega
structure WfT (t:X6):Prop where
 n:∀e∈t.2.1,∀n∈e,lG n.2
 r:∀r∈t.2.2.2,lG r.1.2
def a4F(F:FmF)(N:D9)(t:X6):Prop:=∀e∈t.2.1,lJ e N=some (F e N)/\(F e N).1.length<=150000
theorem Rw{α β:Type}{a:List α}{b:List β}{i:Nat}{x:α×β}(h:(a.zip b)[i]? =some x):a[i]? =some x.1/\b[i]? =some x.2:=by rw[List.getElem?_zip_eq_some]at h;exact h
theorem Pj{F:FmF}{s:J3}{N:D9}(hs:∀r∈s.2.2.2.2,r.1.length<=80){t t' :List UInt8}{x:List (Int×Int)×Int}(h1:(F x.1 N).1.length<=150000)(h:Ht F s N t x= .inl t'):t'.length<=t.length+151000:=by
 unfold Ht at h;have h2:=Hm hs x.2;cases g1:ruB s x.2<;>rw[g1]at h
 .cases h
 cases g2:C9 (F x.1 N).2 0<;>rw[g2]at h
 .cases h
 simp only[o7]at h;cases h;unfold a4D;simp;omega
section
variable {F:FmF} {l:dL} {k:Int} {t:X6} {s:J3} (hL:NmL l) (hs:L6 l.2.2 k=some s) (hT:SzT t) (hF:a4F F (nmS l s) t) (hW:∀r∈t.2.2.2,lG r.1.2) (hlen:t.2.2.1.length=t.2.1.length)
include hL hs hT hF hW hlen
theorem a0D(b:List UInt8)(hb:b.length<=1000):U2
                  (λ(x_7:List UInt8×Int)=>
                   l7 (H6 x_7.2 (o9 t.2.1))
                    (l9 (L6 t.2.1 x_7.2) λ(x_8:List J4)=>
                     l9 (L6 t.2.2.1 x_7.2) λ(x_9:Int)=>
                      l7 (H6 x_9 0) (some (Out.rt (([]:List UInt8),(6:Int))))
                       (l7 (P7 (o9 s.2.2.2.2) x_9) (some (Out.rt ([],6)))
                        (l9 (lJ x_8 (nmS l s)) λ(x_10:List UInt8×Int)=>
                         l7 (G8 (C9 x_10.2 0)) (some (Out.rt ([],x_10.2)))
                          (l9 (L6 s.2.2.2.2 x_9) λ(x:gp)=>
                           l9 (J5 [119,104,101,110,32] x.1) λ(x:List UInt8)=>
                            l9 (J5 x [32]) λ(x:List UInt8)=>
                             l9 (J5 x x_10.1) λ(x:List UInt8)=>
                              l9 (J5 x [10]) λ(x:List UInt8)=>
                               l9 (jZ x_7.1 x)
                                λ(x:Int×PUnit×List UInt8)=>
                                some (Out.nx (x.2.2,F6 IntKind.i64 x_7.2 1))))))
                    (some (Out.ex x_7.1)))
                  (b,0)=some (gB (Ht F s (nmS l s)) (t.2.1.zip t.2.2.1) b):=by
 obtain⟨a1,a2,a3⟩:=hT;obtain⟨-,-,hm,-⟩:=jm hs;have hr:=(hL.s s hm).2.2.2.2.2;have hz:(t.2.1.zip t.2.2.1).length=t.2.1.length:=by rw[List.length_zip];omega
 refine Eq.trans (uX (t.2.1.zip t.2.2.1) (Ht F s (nmS l s)) (λb i=>(b,i)) (λb=>b) (λi b=>b.length<=1000+i*151000) o5 o5 (λi x b hx hi hI=>?_) (λb hI=>?_)).1 ?_
 .obtain⟨h1,h2⟩:=Rw hx;have hlt:=(ax.1 h1).1;obtain⟨hf1,hfl⟩:=hF x.1 (pg h1);refine⟨?_,λb' hb' =>by have:=Pj hr hfl hb';omega⟩;simp only[O7 h1,o7,J9,h1,h2,o8,hf1];unfold Ht;cases g1:ruB s x.2
  .rcases a6t g1 with g|⟨g,g'⟩
   .rw[g];rfl
   .rw[g,g'];rfl
  .obtain⟨b1,b2,b3,b4,q,b5,b6,b7⟩:=F_ g1;have hq:=Hm hr x.2;simp only[b1,b2,b5,b6,o6,o7,o8];cases C9 (F x.1 (nmS l s)).2 0
   .rfl
   .simp only[I7,o6,o7];rw[G5 E5,o8,G5 E5,o8,G5 E5,o8,G5 E5,o8];unfold jZ;rw[if_pos E5,o8,dF o5];rfl
 .simp only;rw[hz,O6];rfl
 .cases gB (Ht F s (nmS l s)) (t.2.1.zip t.2.2.1) b<;>rfl
theorem a1w(hF2:∀e∈t.2.1,oH e (nmS l s)=some (F e (nmS l s)))(b:List UInt8)(hb:b.length<=1000):U2
            (λ(x_5:List UInt8×Int)=>
             l7 (H6 x_5.2 (o9 t.2.1))
              (l9 (L6 t.2.2.1 x_5.2) λ(x_6:Int)=>
               l9 (rY s x_6) λ(x_7:Bool)=>
                l7 (G8 x_7) (some (Out.rt (([]:List UInt8),(6:Int))))
                 (l9 (L6 t.2.1 x_5.2) λ(x_8:List J4)=>
                  l9 (jJ l k) λ(x_9:D9)=>
                   l9 (oH x_8 x_9) λ(x_10:List UInt8×Int)=>
                    l7 (G8 (C9 x_10.2 0)) (some (Out.rt ([],x_10.2)))
                     (l9 (J5 x_5.1 [119,104,101,110,32]) λ(x_11:List UInt8)=>
                      l9 (L6 t.2.2.1 x_5.2) λ(x_12:Int)=>
                       l9 (L6 s.2.2.2.2 x_12) λ(x:gp)=>
                        l9 (J5 x_11 x.1) λ(x:List UInt8)=>
                         l9 (J5 x [32]) λ(x:List UInt8)=>
                          l9 (J5 x x_10.1) λ(x:List UInt8)=>
                           l9 (J5 x [10]) λ(x:List UInt8)=>
                            some (Out.nx (x,F6 IntKind.i64 x_5.2 1)))))
              (some (Out.ex x_5.1)))
            (b,0)=some (gB (Ht F s (nmS l s)) (t.2.1.zip t.2.2.1) b):=by
 obtain⟨a1,a2,a3⟩:=hT;obtain⟨-,-,hm,-⟩:=jm hs;have hr:=(hL.s s hm).2.2.2.2.2;have hz:(t.2.1.zip t.2.2.1).length=t.2.1.length:=by rw[List.length_zip];omega
 refine Eq.trans (uX (t.2.1.zip t.2.2.1) (Ht F s (nmS l s)) (λb i=>(b,i)) (λb=>b) (λi b=>b.length<=1000+i*151000) o5 o5 (λi x b hx hi hI=>?_) (λb hI=>?_)).1 ?_
 .obtain⟨h1,h2⟩:=Rw hx;have hlt:=(ax.1 h1).1;obtain⟨hf1,hfl⟩:=hF x.1 (pg h1);refine⟨?_,λb' hb' =>by have:=Pj hr hfl hb';omega⟩;simp only[O7 h1,o7,J9,h1,h2,o8,TQ hL hs,hF2 x.1 (pg h1)];unfold rY Ht;cases g1:ruB s x.2
  .rcases a6t g1 with g|⟨g,g'⟩
   .rw[aW (sV.1 g)];rfl
   .rw[ai (uk.1 g),o7,au (qw.1 g')];rfl
  .obtain⟨b1,b2,b3,b4,q,b5,b6,b7⟩:=F_ g1;have hq:=Hm hr x.2;simp only[b3,b4,b5,b6,I7,o6,o7,o8];cases C9 (F x.1 (nmS l s)).2 0
   .rfl
   .simp only[I7,o6,o7];rw[G5 E5,o8,G5 E5,o8,G5 E5,o8,G5 E5,o8,G5 E5,o8,dF o5];unfold a4D;simp
 .simp only;rw[hz,O6];rfl
 .cases gB (Ht F s (nmS l s)) (t.2.1.zip t.2.2.1) b<;>rfl
theorem VO{b b' :List UInt8}(hb:b.length<=1000)(h:gB (Ht F s (nmS l s)) (t.2.1.zip t.2.2.1) b= .inl b'):b'.length<=2000000:=by
 obtain⟨a1,a2,a3⟩:=hT;obtain⟨-,-,hm,-⟩:=jm hs;have hr:=(hL.s s hm).2.2.2.2.2;have key:∀(L:List (List (Int×Int)×Int)) (b:List UInt8),(∀x∈L,(F x.1 (nmS l s)).1.length<=150000)->gB (Ht F s (nmS l s)) L b= .inl b' ->b'.length<=b.length+L.length*151000:=by
  intro L;induction L with
  |nil=>intro b _ h;cases h;simp|cons x L ih=>
   intro b hx h;unfold gB at h;cases hg:Ht F s (nmS l s) b x with
   |inr r=>rw[hg]at h;cases h|inl c=>rw[hg]at h;have h1:=Pj hr (hx x x9) hg;have h2:=ih c (λy hy=>hx y (by simp[hy])) h;rw[G7,I4];omega
 have:=key _ b (λx hx=>by obtain⟨i,hi,rfl⟩:=bD hx;exact(hF _ (pg (Rw (lS hi)).1)).2) h
 have hz:(t.2.1.zip t.2.2.1).length<=10:=by rw[List.length_zip];omega
 have:(t.2.1.zip t.2.2.1).length*151000<=10*151000:=E9 _ hz;omega
theorem a0E(b:List UInt8)(hb:b.length<=2000000):U2
                     (λ(x_7:List UInt8×Int)=>
                      l7 (H6 x_7.2 (o9 t.2.2.2))
                       (l9 (L6 t.2.2.2 x_7.2) λ(x_8:aA)=>
                        l9 (kR s x_8 (o9 t.2.1))
                         λ(x:List UInt8×Int)=>
                         l7 (G8 (C9 x.2 0)) (some (Out.rt (([]:List UInt8),x.2)))
                          (l9 (zG x_7.1) λ(x_9:Int×List UInt8)=>
                           l7 (P7 x_9.1 65536)
                            (l9 (jZ x_9.2 x.1)
                             λ(x:Int×PUnit×List UInt8)=>
                             some (Out.nx (x.2.2,F6 IntKind.i64 x_7.2 1)))
                            (some (Out.nx (x_9.2,F6 IntKind.i64 x_7.2 1)))))
                       (some (Out.ex x_7.1)))
                     (b,0)=some (gB (YP s (o9 t.2.1)) t.2.2.2 b):=by
 obtain⟨a1,a2,a3⟩:=hT;obtain⟨-,-,hm,-⟩:=jm hs;have hr:=(hL.s s hm).2.2.2.2.2;refine Eq.trans (uX t.2.2.2 (YP s (o9 t.2.1)) (λb i=>(b,i)) (λb=>b) (λi b=>b.length<=2000000+i*200) o5 o5 (λi x b hx hi hI=>?_) (λb hI=>?_)).1 ?_
 .have hlt:=(ax.1 hx).1;have hrl:=QL hr x (o9 t.2.1);simp only[O7 hx,o7,J9,hx,o8,YO hr (hW x (pg hx)) (o9 t.2.1)];unfold YP;cases hc:C9 (QK s (o9 t.2.1) x) 0
  .simp only[o6,hc,Z7,o7];exact⟨trivial,λb' h=>by cases h⟩
  .simp only[o7,Z9 (rfl:(0:Int)=0),I7,o6];unfold zG;simp only[o8];rw[show((b.length:Nat):Int)=o9 b from rfl];cases P7 (o9 b) 65536
   .simp only[o6];rw[dF o5];exact⟨rfl,λb' h=>by cases h;omega⟩
   .simp only[o7];unfold jZ;rw[if_pos o5,o8,dF o5];exact⟨rfl,λb' h=>by cases h;simp;omega⟩
 .simp only[O6,o6]
 .cases gB (YP s (o9 t.2.1)) t.2.2.2 b<;>rfl
theorem a1x(b:List UInt8)(hb:b.length<=2000000):U2
               (λ(x_5:List UInt8×Int)=>
                l7 (H6 x_5.2 (o9 t.2.2.2))
                 (l9 (L6 t.2.2.2 x_5.2) λ(x_6:aA)=>
                  l9 (yz x_6.1 (o9 t.2.1)) λ(x_7:Bool)=>
                   l7 (G8 x_7) (some (Out.rt (([]:List UInt8),(3:Int))))
                    (l7 (G8 (C9 x_6.2 (-1)))
                     (l7 (G8 (C9 x_6.2 (-2)))
                      (l9 (rY s x_6.2) λ(x_8:Bool)=>
                       l7 (G8 x_8) (some (Out.rt ([],6)))
                        (l9 (J5 x_5.1 [114,111,119,32]) λ(x_9:List UInt8)=>
                         l9 (kP x_6.1 (o9 t.2.1)) λ(x_10:List UInt8)=>
                          l9 (J5 x_9 x_10) λ(x_11:List UInt8)=>
                           l9 (J5 x_11 [32]) λ(x_12:List UInt8)=>
                            l9 (fG s x_6.2) λ(x:List UInt8)=>
                             l9 (J5 x_12 x) λ(x:List UInt8)=>
                              l9 (J5 x [10]) λ(x:List UInt8)=>
                               some (Out.nx (x,F6 IntKind.i64 x_5.2 1))))
                      (l9 (J5 x_5.1 [114,111,119,32]) λ(x_8:List UInt8)=>
                       l9 (kP x_6.1 (o9 t.2.1)) λ(x_9:List UInt8)=>
                        l9 (J5 x_8 x_9) λ(x_10:List UInt8)=>
                         l9 (J5 x_10 [32]) λ(x_11:List UInt8)=>
                          l9 (fG s x_6.2) λ(x:List UInt8)=>
                           l9 (J5 x_11 x) λ(x:List UInt8)=>
                            l9 (J5 x [10]) λ(x:List UInt8)=>
                             some (Out.nx (x,F6 IntKind.i64 x_5.2 1))))
                     (l9 (J5 x_5.1 [114,111,119,32]) λ(x_8:List UInt8)=>
                      l9 (kP x_6.1 (o9 t.2.1)) λ(x_9:List UInt8)=>
                       l9 (J5 x_8 x_9) λ(x_10:List UInt8)=>
                        l9 (J5 x_10 [32]) λ(x_11:List UInt8)=>
                         l9 (fG s x_6.2) λ(x:List UInt8)=>
                          l9 (J5 x_11 x) λ(x:List UInt8)=>
                           l9 (J5 x [10]) λ(x:List UInt8)=>
                            some (Out.nx (x,F6 IntKind.i64 x_5.2 1)))))
                 (some (Out.ex x_5.1)))
               (b,0)=some (gB (Vh s (o9 t.2.1)) t.2.2.2 b):=by
 obtain⟨a1,a2,a3⟩:=hT;obtain⟨-,-,hm,-⟩:=jm hs;have hr:=(hL.s s hm).2.2.2.2.2;refine Eq.trans (uX t.2.2.2 (Vh s (o9 t.2.1)) (λb i=>(b,i)) (λb=>b) (λi b=>b.length<=2000000+i*200) o5 o5 (λi x b hx hi hI=>?_) (λb hI=>?_)).1 ?_
 .have hlt:=(ax.1 hx).1;have hxI:=hW x (pg hx);have hrl:=QL hr x (o9 t.2.1);have hpl:=LH x.1 (o9 t.2.1);have hol:=WL hr x.2;simp only[O7 hx,o7,J9,hx,o8,←a4C,a6N];unfold Vh;refine⟨?_,λb' h=>by
   cases hc:C9 (QK s (o9 t.2.1) x) 0<;>rw[hc]at h
   .cases h
   .cases h;simp;omega⟩
  unfold QK;cases ht:tvS x.1 (o9 t.2.1)
  .rfl
  have hp:kP x.1 (o9 t.2.1)=some (Nw x.1 (o9 t.2.1)):=by
   unfold kP Nw;by_cases h0:o9 t.2.1=0
   .rw[Z9 h0,au o5];rfl
   .have:=FK t.2.1;rw[N9 h0,bn o5,a5D hxI ht];rfl
  simp only[I7,o6,o7,hp,o8];have fin:∀o,o=UO s x.2->Qq s x.2=true->fG s x.2=some o->(l9 (J5 b [114,111,119,32]) λ(x_9:List UInt8)=>
                          l9 (J5 x_9 (Nw x.1 (o9 t.2.1))) λ(x_11:List UInt8)=>
                           l9 (J5 x_11 [32]) λ(x_12:List UInt8)=>
                            l9 (fG s x.2) λ(x:List UInt8)=>
                             l9 (J5 x_12 x) λ(x:List UInt8)=>
                              l9 (J5 x [10]) λ(x:List UInt8)=>
                               some (Out.nx (x,F6 IntKind.i64 (i:Int) 1)))=(some (.nx (b++Vj s x (o9 t.2.1),((i+1:Nat):Int))):Option (Out (List UInt8×Int) (List UInt8) VC)):=by
   intro o ho hb2 hro;rw[hro,ho,G5 E5,o8,G5 E5,o8,G5 E5,o8,o8,G5 E5,o8,G5 E5,o8,dF o5];unfold Vj;simp
  have fin2:Qq s x.2=true->fG s x.2=some (UO s x.2)->_:=λh1 h2=>fin _ rfl h1 h2;cases h1:C9 x.2 (-1)
  case true=>
   simp only[I7,o6];have hb2:Qq s x.2=true:=by unfold Qq;rw[h1];rfl
   refine(fin2 hb2 (by unfold fG UO;rw[h1];rfl)).trans ?_;rw[hb2];rfl
  cases h2:C9 x.2 (-2)
  case true=>
   simp only[I7,Z7,o6,o7];have hb2:Qq s x.2=true:=by unfold Qq;rw[h1,h2];rfl
   refine(fin2 hb2 (by unfold fG UO;rw[h1,h2];rfl)).trans ?_;rw[hb2];rfl
  simp only[Z7,o7];have hru:rY s x.2=some (ruB s x.2):=by unfold rY ruB;cases P7 0 x.2<;>rfl
  rw[hru,o8];cases h3:ruB s x.2
  .unfold Qq;rw[h1,h2,h3];rfl
  .obtain⟨a1,a2,a3,a4,q,a5,a6,a7⟩:=F_ h3;have hq:=Hm hr x.2;simp only[I7,o6];have hb2:Qq s x.2=true:=by unfold Qq;rw[h1,h2,h3];rfl
   refine(fin2 hb2 ?_).trans ?_
   .unfold fG UO;rw[h1,h2,a5];simp only[o6,o8,a6];rw[G5 E5];rfl
   .rw[hb2];rfl
 .simp only[O6,o6]
 .cases gB (Vh s (o9 t.2.1)) t.2.2.2 b<;>rfl
end
end
section
theorem GX{α:Type}(l:List α)(k:Int):(H6 k 0=true\/H6 k 0=false/\P7 (o9 l) k=true)\/(H6 k 0=false/\P7 (o9 l) k=false/\∃x,L6 l k=some x/\x∈l):=by
 by_cases h0:k<0
 .exact .inl (.inl (bn h0))
 by_cases h1:o9 l<=k
 .exact .inl (.inr ⟨au o5,ai h1⟩)
 .exact .inr ⟨au o5,aW o5,pO o5 o5⟩
variable {l:dL}
theorem b6X(h:(Cj l).1=0):Cj l=(0,0,0,0):=by
 unfold Cj at h ⊢;cases h1:C9 (IM l).1 0<;>rw[h1]at h
 .simp only[o6]at h;rw[Z9 h]at h1;cases h1
 cases h2:C9 (Et l).1 0<;>rw[h2]at h
 .simp only[o7,o6]at h;rw[Z9 h]at h2;cases h2
 simp only[o7]at h ⊢;unfold KF at h ⊢;cases h3:H6 4 (o9 l.2.2)<;>rw[h3]at h
 case true=>exact absurd (show(4:Int)=0 from h) V5
 simp only[o6]at h ⊢;cases hf:dR l.2.2.length (En l)with
 |none=>rfl|some r=>
  rw[hf]at h;simp only at h;obtain⟨j,hj,hp⟩:=oz hf;unfold En at hp;cases hq:l.2.2[j]? with
  |none=>rw[hq]at hp;cases hp|some q=>
   rw[hq]at hp;simp only at hp;unfold Oa at hp;exact absurd h (by cases he:C9 (Eo l j q).1 0<;>rw[he]at hp<;>cases hp;simp only;intro h4;rw[Z9 h4]at he;cases he)
variable {k:Int}{t:X6}
theorem a1y{F:FmF}(hS:SmL l)(hL:NmL l)(hT:SzT t)(hF:∀s,L6 l.2.2 k=some s->a4F F (nmS l s) t)(hW:∀r∈t.2.2.2,lG r.1.2):lN l k t=some (dfS F l k t):=by
 obtain⟨a1,a2,a3⟩:=id hT;unfold lN dfS;rw[Xy hS,o8];cases hv:C9 (Cj l).1 0
 case false=>rfl
 rw[b6X (mf.1 hv)];simp only[Z9 (rfl:(0:Int)=0),nP,I7,o6,o7];rcases GX l.2.2 k with h|⟨h1,h2,s,hs,hm⟩
 .rw[UD h];rcases h with h|⟨h,h'⟩
  .rw[h];rfl
  .rw[h,h'];rfl
 obtain⟨s1,s2,s3,s4,s5,s6⟩:=hL.s s hm;rw[h1,h2,hs];simp only[o6,o8,U3];rcases GX s.2.2.2.1 t.1 with h|⟨g1,g2,d,hd,hdm⟩
 .rw[UD h];rcases h with h|⟨h,h'⟩
  .rw[h];rfl
  .rw[h,h'];rfl
 have hdl:=s5 d hdm;rw[g1,g2,hd];simp only[o6,o8,U3];cases h8:H6 8 (o9 t.2.1)
 case true=>rfl
 simp only[o6];cases hq:C9 (o9 t.2.2.1) (o9 t.2.1)
 case false=>rfl
 have hlen:t.2.2.1.length=t.2.1.length:=by have:=mf.1 hq;unfold o9 at this;omega
 simp only[I7,o6,o7];rw[G5 E5,o8,G5 E5,o8];have e0:jZ [] ([100,101,99,105,115,105,111,110,32]++d.1++[10])=some (o9 ([100,101,99,105,115,105,111,110,32]++d.1++[10]),(),[100,101,99,105,115,105,111,110,32]++d.1++[10]):=by unfold jZ;rw[if_pos E5];rfl
 rw[e0,o8,a1U hL hs,o8];have hb0:([100,101,99,105,115,105,111,110,32]++d.1++[10]:List UInt8).length<=1000:=by simp;omega
 refine O9 (a0D hL hs hT (hF s hs) hW hlen _ hb0) ?_;rw[o8];cases hc:gB (Ht F s (nmS l s)) (t.2.1.zip t.2.2.1) ([100,101,99,105,115,105,111,110,32]++d.1++[10])with
 |inr r=>rfl|inl b=>
  have hb:=VO hL hs hT (hF s hs) hW hlen hb0 hc;simp only[U3];refine O9 (a0E hL hs hT (hF s hs) hW hlen b hb) ?_;rw[o8];rcases WZ s6 (o9 t.2.1) t.2.2.2 b b (.inl rfl)with⟨c,e1,e2⟩|⟨x,y,e1,e2,hr⟩
  .rw[e1,e2];rfl
  .rw[e1,e2];simp only[U3];unfold zG;simp only[o8];rcases hr with rfl|⟨r1,r2⟩
   .rw[show((x.length:Nat):Int)=o9 x from rfl];by_cases g:65536<o9 x
    .rw[bn g];rfl
    .rw[au o5];simp only[o6];unfold vF;rw[if_pos (by unfold o9 at g;omega)];rfl
   .rw[show((x.length:Nat):Int)=o9 x from rfl,bn r1,bn r2];rfl
theorem a4N{F:FmF}(hS:SmL l)(hL:NmL l)(hT:SzT t)(hF:∀s,L6 l.2.2 k=some s->a4F F (nmS l s) t)(hF2:∀s,L6 l.2.2 k=some s->∀e∈t.2.1,oH e (nmS l s)=some (F e (nmS l s)))(hW:∀r∈t.2.2.2,lG r.1.2):zi l k t=some (dfS F l k t):=by
 obtain⟨a1,a2,a3⟩:=id hT;unfold zi Ei dfS;rw[UU hS,o8];cases hv:C9 (Cj l).1 0
 case false=>rfl
 simp only[I7,o6,o7];rcases GX l.2.2 k with h|⟨h1,h2,s,hs,hm⟩
 .rw[UD h];rcases h with h|⟨h,h'⟩
  .rw[h];rfl
  .rw[h,h'];rfl
 obtain⟨s1,s2,s3,s4,s5,s6⟩:=hL.s s hm;rw[h1,h2,hs];simp only[o6,o8,Z9 (rfl:(0:Int)=0),I7];rcases GX s.2.2.2.1 t.1 with h|⟨g1,g2,d,hd,hdm⟩
 .rw[UD h];rcases h with h|⟨h,h'⟩
  .rw[h];rfl
  .rw[h,h'];rfl
 have hdl:=s5 d hdm;rw[g1,g2,hd];simp only[o6,o8,U3];cases h8:H6 8 (o9 t.2.1)
 case true=>rfl
 simp only[o6];cases hq:C9 (o9 t.2.2.1) (o9 t.2.1)
 case false=>rfl
 have hlen:t.2.2.1.length=t.2.1.length:=by have:=mf.1 hq;unfold o9 at this;omega
 simp only[I7,o6,o7];rw[G5 E5,o8,G5 E5,o8];have hb0:([100,101,99,105,115,105,111,110,32]++d.1++[10]:List UInt8).length<=1000:=by simp;omega
 refine O9 (a1w hL hs hT (hF s hs) hW hlen (hF2 s hs) _ hb0) ?_;rw[o8];cases hc:gB (Ht F s (nmS l s)) (t.2.1.zip t.2.2.1) ([100,101,99,105,115,105,111,110,32]++d.1++[10])with
 |inr r=>rfl|inl b=>
  have hb:=VO hL hs hT (hF s hs) hW hlen hb0 hc;simp only[U3];refine O9 (a1x hL hs hT (hF s hs) hW hlen b hb) ?_;rw[o8];cases gB (Vh s (o9 t.2.1)) t.2.2.2 b with
  |inr r=>rfl|inl y=>simp only[U3];cases H6 65536 (o9 y)<;>rfl
theorem Uy(hw:WfL l)(hW:WfT t):oQ l k t=some true:=by
 unfold oQ
 rw[Xe,o8,Zb];simp only[XG,o8];cases h1:smL l
 case false=>rfl
 cases h2:smT t
 case false=>rfl
 obtain⟨hS,-⟩:=a7S h1 hw;have hL:=a7e h1 hw;simp only[I7,o6];have hF:∀s,L6 l.2.2 k=some s->a4F RI (nmS l s) t:=λs hs e he=>⟨a6Y (a7f hL (jm hs).2.2.1) (hW.n e he),a4S (a7f hL (jm hs).2.2.1) (hW.n e he)⟩;have hF2:∀s,L6 l.2.2 k=some s->∀e∈t.2.1,oH e (nmS l s)=some (RI e (nmS l s)):=λs hs e he=>a5C (a7f hL (jm hs).2.2.1) (hW.n e he);rw[a1y hS hL (a3x h2) hF hW.r,o8,a4N hS hL (a3x h2) hF hF2 hW.r,o8];rw[show seq (dfS RI l k t).1 (dfS RI l k t).1=true from Vk.2 rfl,Z9 rfl];rfl
end
end Go.GP
namespace Go.GP
open Gt
theorem Dn:∀x,Xz Gt.ps3 x->(Gt.s3.fn x:Option Bool)=some true:=λx h=>
 Uy (l:=x.1) (k:=x.2.1) (t:=x.2.2) (b6u h.1) ⟨λe he n hn=>Jp ((h.2.2.2.1.2 e he).2 n hn).2,λr hr=>Jp (h.2.2.2.2.2.2 r hr).1.2⟩
end Go.GP
