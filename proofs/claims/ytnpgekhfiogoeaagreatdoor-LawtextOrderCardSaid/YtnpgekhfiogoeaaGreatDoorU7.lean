import Derived.Test.YtnpgekhfiogoeaaGreatDoorU5
import Derived.Test.YtnpgekhfiogoeaaGreatDoorU6
import Derived.Lib.IndexMore
set_option linter.all false
namespace Go.GP
open Gt
set_option maxRecDepth 100000
section
def SA(x:bU):X4:=(x.1,x.2.1,x.2.2.1)
abbrev pS(T:List bU)(E:Int)(N:D9)(i:Nat)(nd:List (Int×Int)):D7:=(T,(i:Int),E,N,nd,0,0)
def pk(T:List bU)(i:Nat):bU:=(T[i]?).getD (0,[],0,0)
def At3(T:List bU)(i:Nat)(L:List X4):Prop:=(T.map SA).drop i=L/\T.length<=1000000/\i<=T.length
def hd3(L:List X4):X4:=L.headD (0,[],0)
variable {i:Nat}{L:List X4}{T:List bU}
theorem zZ(h:At3 T i L):SA (pk T i)=hd3 L:=by
 obtain⟨h1,h2,h3⟩:=h;unfold pk hd3;by_cases hi:i<T.length
 .rw[←h1,aj (by simpa using hi),sF hi];simp
 .rw[←h1,X0 G8,fC o5];rfl
variable {k:X4}
theorem gz(h:At3 T i (k::L)):At3 T (i+1) L:=by
 obtain⟨h1,h2,h3⟩:=h;have hi:i<T.length:=by
  rcases kK i T.length with h|h
  .exact h
  .rw[X0 G8]at h1;cases h1
 refine⟨?_,h2,o5⟩;rw[←V6,h1];rfl
theorem vZ{A L:List X4}(h:At3 T i (A++L)):At3 T (i+A.length) L:=by
 induction A generalizing i with
 |nil=>exact h|cons k A ih=>have:=ih (gz h);rw[show i+(k::A).length=i+1+A.length by simp;omega];exact this
theorem MN(h:At3 T i (k::L)):i<T.length:=by have:=(gz h).2.2;omega
variable {nd:List (Int×Int)}
section
variable {T:List bU} {E:Int} {N:D9}
theorem KR(i a:Nat)(nd:List (Int×Int))(hT:T.length<=1000000)(hi:i<=T.length)(ha:a<=10):V4 (pS T E N i nd) (a:Int)=some (pk T (i+a),pS T E N i nd):=by
 unfold V4 pk;have e:H8 .i64 (i:Int) (a:Int)=((i+a:Nat):Int):=by rw[dw bg];omega
 simp only[e];by_cases h:i+a<T.length
 .rw[dY (by unfold x8;omega),o7,P5,sF h];rfl
 .rw[Y5 (by unfold x8;omega),o6,fC o5];rfl
theorem Iq(h:At3 T i L):V4 (pS T E N i nd) 0=some (pk T i,pS T E N i nd):=KR i 0 nd h.2.1 h.2.2 o5
theorem IW(h:At3 T i L)(k:Int)(w:List UInt8):jI (pS T E N i nd) k w=some (l7 (D8 (hd3 L).1 k) (seq (hd3 L).2.1 w) false,pS T E N i nd):=by
 have hs:=zZ h;unfold jI
 rw[Iq h,o9,←hs];unfold SA;cases D8 (pk T i).1 k<;>rfl
theorem pq(hn:nd.length<=1000000)(op n:Int):H5 (pS T E N i nd) op n=some (true,pS T E N i (nd++[(op,n)])):=by unfold H5;simp only;rw[zW _ hn];rfl
theorem Qm(h:At3 T i (k::L)):ed (pS T E N i nd) k.1 k.2.1=some (true,pS T E N (i+1) nd):=by
 unfold ed;rw[IW h,o9];have hi:=MN h;have hT:=h.2.1;rw[show(l7 (D8 (hd3 (k::L)).1 k.1) (seq (hd3 (k::L)).2.1 k.2.1) false)=true by rw[show hd3 (k::L)=k from rfl,O7 rfl,o7];exact pI.2 rfl]
 simp only[E8,o6];rw[eP o5]
theorem xN{c:UInt8}{n:Int}(h:At3 T i ((7,[c],n)::L)):U1 (pS T E N i nd) [c]=some (true,pS T E N (i+1) nd):=by unfold U1;rw[show ed (pS T E N i nd) 7 [c]=_ from Qm (k:=(7,[c],n)) h];rfl
end
def Vb(k:Int):Int:=l7 (D8 k 2) 2 (l7 (D8 k 3) 3 (l7 (D8 k 4) 4 0))
theorem KL(t:bU):lJ t=some (Vb t.1):=by unfold lJ Vb;cases D8 t.1 2<;>cases D8 t.1 3<;>cases D8 t.1 4<;>rfl
def a4T(k:Int):Prop:=k=11\/k=12\/k=13\/k=19\/k=20\/k=21\/k=22\/k=23\/k=24
def a9Y(t:X4):Prop:=t=(0,[],0)\/t=(7,[41],0)\/t=(7,[44],0)\/t=(1,[116,104,101,110],0)\/t=(1,[101,108,115,101],0)
theorem b1i{t:bU}(h:a9Y (SA t)):nG t=some (0,0):=by
 obtain⟨a,b,c,d⟩:=t;unfold SA at h;have key:∀(a:Int) (b:List UInt8),(a,b)∈([(0,[]),(7,[41]),(7,[44]),(1,[116,104,101,110]),(1,[101,108,115,101])]:List (Int×List UInt8))->nG (a,b,c,d)=some (0,0):=by intro a b h;simp only[x9,jO,List.mem_nil_iff,or_false]at h;rcases h with⟨rfl,rfl⟩|⟨rfl,rfl⟩|⟨rfl,rfl⟩|⟨rfl,rfl⟩|⟨rfl,rfl⟩<;>rfl
 apply key;rcases h with h|h|h|h|h<;>cases h<;>decide
theorem a7D{t:bU}{k:Int}(hk:a4T k)(h:SA t=opK k):nG t=some (k,(kw k).2):=by obtain⟨a,b,c,d⟩:=t;unfold SA at h;rcases hk with rfl|rfl|rfl|rfl|rfl|rfl|rfl|rfl|rfl<;>cases h<;>rfl
def Fe(R:List X4)(c:Int):Prop:=a9Y (hd3 R)\/∃k,a4T k/\hd3 R=opK k/\(kw k).2<c
def Fb(R:List X4):Prop:=a9Y (hd3 R)\/∃k,a4T k/\hd3 R=opK k
theorem a4o{R:List X4}{c:Int}(h:Fe R c):Fb R:=by
 rcases h with h|⟨k,h1,h2,-⟩
 .exact .inl h
 .exact .inr ⟨k,h1,h2⟩
theorem a0x{R:List X4}(h:Fb R):¬((hd3 R).1=7/\(hd3 R).2.1=[58])/\¬((hd3 R).1=7/\(hd3 R).2.1=[40]):=by
 rcases h with h|⟨k,h1,h2⟩
 .rcases h with h|h|h|h|h<;>rw[h]<;>decide
 .rw[h2];rcases h1 with rfl|rfl|rfl|rfl|rfl|rfl|rfl|rfl|rfl<;>decide
end
section
variable {w:List UInt8}
theorem YP(h:iU w=true):w.length<=16/\w≠[]/\(FZ.any λs=>seq w s)=false:=by
 cases w with
 |nil=>cases h|cons c r=>rw[Aj]at h;simp only[D5,decide_eq_true_eq,aO]at h;exact⟨h.1.1.1,A7,h.2⟩
theorem a3K{w s:List UInt8}(h:iU w=true)(hs:(FZ.any λx=>seq s x)=true):w≠s:=by rintro rfl;have:=(YP h).2.2;rw[hs]at this;cases this
theorem a1O{w s:List UInt8}(h:iU w=true)(hs:(FZ.any λx=>seq s x)=true):seq w s=false:=qX.2 (a3K h hs)
theorem Tu(h:iU w=true):dN w=some true:=by rw[pR (by have:=(YP h).1;omega),h]
theorem a3f:∀x:Fin 40,seq (dU (x.val:Int)) []=true\/(FZ.any λs=>seq (dU (x.val:Int)) s)=true:=by decide+kernel
def cwF(w:List UInt8)(x:Int):Option (Out Int PUnit Int):=
   l7 (U2 x 39)
    (l7 (I4 (seq w []))
     (l9 (iJ x) λ(x_1:List UInt8)=>
      l7 (seq x_1 w) (some (Out.rt x)) (some (Out.nx (H8 IntKind.i64 x 1))))
     (some (Out.nx (H8 IntKind.i64 x 1))))
    (some (Out.ex PUnit.unit))
theorem a4W(h:iU w=true):nH w=some 0:=by
 have key:∀(d x k:Nat),x+d=40->10<=x->d<k->gK (cwF w) k (x:Int)=(some (.inl PUnit.unit):Option (PUnit⊕Int)):=by
  intro d;induction d with
  |zero=>
   intro x k hx h10 hk;obtain⟨k,rfl⟩:∃m,k=m+1:=⟨k -1,o5⟩;have st:cwF w (x:Int)=some (.ex PUnit.unit):=by unfold cwF;rw[dF o5];rfl
   rw[bG,st]
  |succ d ih=>
   intro x k hx h10 hk;obtain⟨k,rfl⟩:∃m,k=m+1:=⟨k -1,o5⟩;have hne:seq w []=false:=qX.2 (YP h).2.1;have hs:seq (dU (x:Int)) w=false:=by
    rw[qX];intro e;rcases a3f ⟨x,o5⟩with g|g
    .rw[pI]at g;simp only at g;exact(YP h).2.1 (e.symm.trans g)
    .exact a3K h g e.symm
   have st:cwF w (x:Int)=some (.nx ((x+1:Nat):Int)):=by unfold cwF;rw[Z4 o5,o7,hne,Z5,o7,uu,o9,hs,o6,eP o5]
   rw[bG,st];exact ih (x+1) k o5 o5 o5
 unfold nH;refine X3 (show P7 (cwF w) 10=_ from key 30 10 aG o5 o5 (by unfold aG;omega)) ?_;rfl
theorem a4V{k:Int}(h:k=14\/k=15\/k=16\/k=17\/k=18\/k=27\/k=28\/k=29\/k=30\/k=31\/k=32\/k=33\/k=34\/k=35\/k=36\/k=37\/k=38\/k=39):nH (dU k)=some k:=by rcases h with rfl|rfl|rfl|rfl|rfl|rfl|rfl|rfl|rfl|rfl|rfl|rfl|rfl|rfl|rfl|rfl|rfl|rfl<;>rfl
theorem a5s:∀m:Fin 6,yl (kP (m.val:Int))=some (m.val:Int):=by decide+kernel
theorem a5t{m:Int}(h:0<=m/\m<=5):yl (kP m)=some m:=by obtain⟨j,rfl⟩:∃j:Fin 6,m=(j.val:Int):=⟨⟨m.toNat,o5⟩,by simp;omega⟩;exact a5s j
def a_(l:List (List UInt8))(j:Nat)(w:List UInt8):Prop:=l[j]? =some w/\∀x∈l.take j,x≠w
theorem I_{α:Type}(l:List α)(p:α->Bool)(hl:l.length<=1000000){f:Int->Option (Out Int PUnit Int)}
  (h1:∀(i:Nat) (a:α),l[i]? =some a->f (i:Int)=some (l7 (p a) (.rt (i:Int)) (.nx ((i+1:Nat):Int)))) (h2:f (l.length:Int)=some (.ex PUnit.unit)):
  (∀j a,l[j]? =some a->p a=true->(∀x∈l.take j,p x=false)->P7 f 0=some (.inr (j:Int)))/\((∀x∈l,p x=false)->P7 f 0=some (.inl PUnit.unit)):=by
 have step:∀(j i k:Nat),i<=j->j<=l.length->(∀x∈l.take j,p x=false)->gK f (k+(j -i)) (i:Int)=gK f k (j:Int):=by
  intro j i k hij hj hp;induction h:j -i generalizing i k with
  |zero=>rw[show i=j by omega];rfl|succ n ih=>
   have hi:i<l.length:=o5;have hg:=sF hi;have:=h1 i _ hg;rw[hp l[i] (by rw[List.mem_take_iff_getElem];exact⟨i,o5,rfl⟩),o6]at this
   rw[show k+(n+1)=(k+n)+1 by omega,bG,this];exact ih (i+1) k o5 o5
 constructor
 .intro j a ha hpa hp;have hj:=(ai.1 ha).1;have:=step j 0 (aG -j) o5 o5 hp;rw[show aG -j+(j -0)=aG by unfold aG;omega]at this;unfold P7;rw[show(0:Int)=((0:Nat):Int)from rfl,this,show aG -j=(aG -j -1)+1 by unfold aG;omega,bG,h1 j a ha,hpa];rfl
 .intro hp;have:=step l.length 0 (aG -l.length) o5 o5 (λx hx=>hp x (iT hx));rw[show aG -l.length+(l.length -0)=aG by unfold aG;omega]at this;unfold P7;rw[show(0:Int)=((0:Nat):Int)from rfl,this,show aG -l.length=(aG -l.length -1)+1 by unfold aG;omega,bG,h2]
theorem YQ{l:List (List UInt8)}(hl:l.length<=1000000)(w:List UInt8):(∀j,a_ l j w->dD l w=some (j:Int))/\((∀x∈l,x≠w)->dD l w=some (-1)):=by
 unfold dD;obtain⟨k1,k2⟩:=I_ l (λx=>seq w x) hl (f:=λ(x:Int)=>l7 (I9 x (x8 l)) (l9 (O0 l x) λ(x_1:List UInt8)=>l7 (seq w x_1) (some (Out.rt x)) (some (Out.nx (H8 IntKind.i64 x 1)))) (some (Out.ex PUnit.unit)))
  (λi a ha=>by have:=(ai.1 ha).1;simp only[U5 ha,o7,P5,ha,o9];rw[eP o5];cases seq w a<;>rfl) (by rw[Y6];rfl)
 constructor
 .intro j hj;refine X3 (k1 j w hj.1 (pI.2 rfl) (λx hx=>qX.2 (λe=>hj.2 x hx e.symm))) ?_;rfl
 .intro h;refine X3 (k2 (λx hx=>qX.2 (λe=>h x hx e.symm))) ?_;rfl
variable {j:Nat}
theorem a7c{l:List U6}(hl:l.length<=1000000)(t:bU){e:U6}(he:l[j]? =some e)(hw:e.1=t.2.1)(hf:∀x∈l.take j,x.1≠t.2.1):ik l t=some (j:Int):=by
 unfold ik uJ;obtain⟨k1,-⟩:=I_ l (λx=>seq x.1 t.2.1) hl (f:=λ(x:Int)=>l7 (I9 x (x8 l)) (l9 (O0 l x) λ(x_1:U6)=>l9 (some (seq x_1.1 t.2.1)) λ(x_2:Bool)=>l7 x_2 (some (Out.rt x)) (some (Out.nx (H8 IntKind.i64 x 1)))) (some (Out.ex PUnit.unit)))
  (λi a ha=>by have:=(ai.1 ha).1;simp only[U5 ha,o7,P5,ha,o9];rw[eP o5];cases seq a.1 t.2.1<;>rfl) (by rw[Y6];rfl)
 refine X3 (k1 j e he (pI.2 hw) (λx hx=>qX.2 (hf x hx))) ?_;rfl
variable {i:Nat}{R:List X4}{nd:List (Int×Int)}{n:Int}
section
variable {T:List bU} {E:Int} {N:D9}
theorem Oj(h:At3 T i ((1,w,n)::R))(hw:iU w=true){l:List (List UInt8)}(hl:l.length<=1000000)(hj:a_ l j w):gB (pS T E N i nd) l=some ((j:Int),true,pS T E N (i+1) nd):=by have hs:=zZ h;have hi:=MN h;have hT:=h.2.1;unfold gB;rw[Iq h,o9];have e1:(pk T i).1=1:=congrArg (λx:X4=>x.1) hs;have e2:(pk T i).2.1=w:=congrArg (λx:X4=>x.2.1) hs;simp only[e1,e2,O7 (rfl:(1:Int)=1),E8,o6,Tu hw,o9];rw[(YQ hl w).1 j hj,o9,Y5 o5,o6,eP o5]
theorem a4a{m n:Int}(h:At3 T i ((1,kP m,n)::R))(hm:0<=m/\m<=5):eG (pS T E N i nd)=some (m,true,pS T E N (i+1) nd):=by have hs:=zZ h;have hi:=MN h;have hT:=h.2.1;unfold eG;rw[Iq h,o9];have e1:(pk T i).1=1:=congrArg (λx:X4=>x.1) hs;have e2:(pk T i).2.1=kP m:=congrArg (λx:X4=>x.2.1) hs;simp only[e1,e2,O7 (rfl:(1:Int)=1),E8,o6,a5t hm,o9];rw[Y5 o5,o6,eP o5]
theorem OV{k:X4}(h:At3 T i (k::R)):SA (pk T (i+1))=hd3 R:=zZ (gz h)
theorem b0W(hnd:nd.length<=1000000)(h:At3 T i ((1,w,n)::R))(hR:Fb R)(hw:iU w=true)(hl:N.2.2.1.length<=1000000)(hj:a_ N.2.2.1 j w):eH (pS T E N i nd)=some (true,pS T E N (i+1) (nd++[(7,(j:Int))])):=by
 have hs:=zZ h;have hn:=OV h;have hi:=MN h;have hT:=h.2.1;unfold eH;rw[Iq h,o9];simp only;rw[show V4 (pS T E N i nd) 1=_ from KR i 1 nd hT h.2.2 o5,o9];have e1:(pk T i).1=1:=congrArg (λx:X4=>x.1) hs;have e2:(pk T i).2.1=w:=congrArg (λx:X4=>x.2.1) hs;have e3:(l7 (D8 (pk T (i+1)).1 7) (some (seq (pk T (i+1)).2.1 [58])) (some false))=some false:=by
  have q1:(pk T (i+1)).1=(hd3 R).1:=congrArg (λx:X4=>x.1) hn;have q2:(pk T (i+1)).2.1=(hd3 R).2.1:=congrArg (λx:X4=>x.2.1) hn;rw[q1,q2];by_cases g:(hd3 R).1=7
  .rw[O7 g,o7];congr 1;exact qX.2 (λe=>(a0x hR).1 ⟨g,e⟩)
  .rw[O5 g];rfl
 simp only[e2,Tu hw,o9,E8,o6,e3];rw[(YQ hl w).1 j hj,o9,Z4 o5,o7,eP o5];rw[show H5 (T,((i+1:Nat):Int),E,N,nd,0,0) 7 (j:Int)=_ from pq (i:=i+1) hnd 7 (j:Int),o9]
theorem a7t(hnd:nd.length<=1000000)(h:At3 T i ((1,w,n)::R))(hR:Fb R)(hw:iU w=true)(hl:N.2.2.1.length<=1000000)(hl2:N.2.2.2.1.length<=1000000)(hno:∀x∈N.2.2.1,x≠w)(hj:a_ N.2.2.2.1 j w):eH (pS T E N i nd)=some (true,pS T E N (i+1) (nd++[(8,(j:Int))])):=by
 have hs:=zZ h;have hn:=OV h;have hi:=MN h;have hT:=h.2.1;unfold eH;rw[Iq h,o9];simp only;rw[show V4 (pS T E N i nd) 1=_ from KR i 1 nd hT h.2.2 o5,o9];have e2:(pk T i).2.1=w:=congrArg (λx:X4=>x.2.1) hs;have e3:(l7 (D8 (pk T (i+1)).1 7) (some (seq (pk T (i+1)).2.1 [58])) (some false))=some false:=by
  have q1:(pk T (i+1)).1=(hd3 R).1:=congrArg (λx:X4=>x.1) hn;have q2:(pk T (i+1)).2.1=(hd3 R).2.1:=congrArg (λx:X4=>x.2.1) hn;rw[q1,q2];by_cases g:(hd3 R).1=7
  .rw[O7 g,o7];congr 1;exact qX.2 (λe=>(a0x hR).1 ⟨g,e⟩)
  .rw[O5 g];rfl
 simp only[e2,Tu hw,o9,E8,o6,e3];rw[(YQ hl w).2 hno,o9,dF o5,o6,show gB (T,(i:Int),E,N,nd,0,0) N.2.2.2.1=_ from Oj h hw hl2 hj,o9];simp only[o7];rw[pq hnd,o9]
theorem a5v(hnd:nd.length<=1000000){w v:List UInt8}{n n2 n3:Int}(h:At3 T i ((1,w,n)::(7,[58],n2)::(1,v,n3)::R))(hw:iU w=true)(hv:iU v=true)(hl:N.1.length<=1000000)
  {j k:Nat} {e:U6} (he:N.1[j]? =some e) (hj:e.1=w) (hf:∀x∈N.1.take j,x.1≠w) (hl2:e.2.length<=1000000) (hk:a_ e.2 k v):eH (pS T E N i nd)=some (true,pS T E N (i+3) (nd++[(6,16*(j:Int)+(k:Int))])):=by
 have hs:=zZ h;have hn:=OV h;have hi:=MN h;have hT:=h.2.1;have hjl:=(ai.1 he).1;have hkl:=(ai.1 hk.1).1;unfold eH;rw[Iq h,o9];simp only;rw[show V4 (pS T E N i nd) 1=_ from KR i 1 nd hT h.2.2 o5,o9];have e2:(pk T i).2.1=w:=congrArg (λx:X4=>x.2.1) hs;have q1:(pk T (i+1)).1=7:=congrArg (λx:X4=>x.1) hn;have q2:(pk T (i+1)).2.1=[58]:=congrArg (λx:X4=>x.2.1) hn;simp only[e2,Tu hw,o9,E8,o6,q1,q2,O7 (rfl:(7:Int)=7),o7,show seq ([58]:List UInt8) [58]=true from rfl];rw[a7c hl (pk T i) he (hj.trans e2.symm) (λx hx=>by rw[e2];exact hf x hx),o9,Y5 o5,o6,P5,he,o9];have hp2:H8 .i64 (i:Int) 2=((i+2:Nat):Int):=by rw[dw bg];omega
 rw[hp2,show gB (T,((i+2:Nat):Int),E,N,nd,0,0) e.2=_ from Oj (i:=i+2) (gz (gz h)) hv hl2 hk,o9];simp only[o7];rw[Jm bg,dw bg,pq hnd,o9]
end
end
section
theorem b7f(m:Nat)(p:D7):(o8 (m+1)).1 p=jE (o8 m).1 (o8 m).2.1 (o8 m).2.2.1 (o8 m).2.2.2.1 (o8 m).2.2.2.2 p:=rfl
theorem b1s(m:Nat)(p:D7):(o8 (m+1)).2.2.1 p=iC (o8 m).1 (o8 m).2.1 (o8 m).2.2.1 (o8 m).2.2.2.1 (o8 m).2.2.2.2 p:=rfl
theorem b1r(m:Nat)(p:D7):(o8 (m+1)).2.2.2.1 p=iR (o8 m).1 (o8 m).2.1 (o8 m).2.2.1 (o8 m).2.2.2.1 (o8 m).2.2.2.2 p:=rfl
theorem a2h(m:Nat)(p:D7)(op:Int):(o8 (m+1)).2.2.2.2 p op=bJ (o8 m).1 (o8 m).2.1 (o8 m).2.2.1 (o8 m).2.2.2.1 (o8 m).2.2.2.2 p op:=rfl
def biF(r207:D7->Int->Option (Bool×D7))(a1:Int)(x:D7×Int):Option (Out (D7×Int) PUnit (Bool×D7)):=
     l9 (V4 x.1 0) λ(x_1:bU×D7)=>
      l9 (nG x_1.1) λ(x_2:L6)=>
       l9
        (l7 (D8 x_2.1 0) (some (Sum.inr (true,x_1.2)))
         (l7 (I9 x_2.2 a1) (some (Sum.inr (true,x_1.2)))
          (l7 (I9 x.2 x_2.2) (some (Sum.inr (true,x_1.2))) (some (Sum.inl PUnit.unit)))))
        λ(o:PUnit⊕Bool×D7)=>
        aF o
         (λ(x:PUnit)=>
          l9 (r207 (x_1.2.1,H8 IntKind.i64 x_1.2.2.1 1,x_1.2.2.2) (H8 IntKind.i64 x_2.2 1))
           λ(x:Bool×D7)=>
           l7 (I4 x.1) (some (Out.rt (false,x.2)))
            (l9 (H5 x.2 x_2.1 0) λ(x:Bool×D7)=>
             l7 (D8 x_2.2 3) (some (Out.nx (x.2,N8 IntKind.i64 x_2.2 1)))
              (some (Out.nx (x.2,x_2.2)))))
         λ(r:Bool×D7)=>some (Out.rt r)
theorem b7e(m:Nat)(p:D7)(c:Int):(o8 (m+1)).2.1 p c=l9 ((o8 m).2.2.1 p) λ(x:Bool×D7)=>l7 (I4 x.1) (some (false,x.2)) (l9 (P7 (biF (o8 m).2.1 c) (x.2,5)) λ(o:PUnit⊕Bool×D7)=>aF o (λ(y:PUnit)=>none) λ(r:Bool×D7)=>some r):=rfl
section
variable (T:List bU) (E:Int) (N:D9)
def EOk(m:Nat)(W:List X4)(P:List (Int×Int))(R:List X4):Prop:=∀i nd,At3 T i (W++R)->nd.length+P.length<=100000->(o8 m).1 (pS T E N i nd)=some (true,pS T E N (i+W.length) (nd++P))
def UOk(m:Nat)(W:List X4)(P:List (Int×Int))(R:List X4):Prop:=∀i nd,At3 T i (W++R)->nd.length+P.length<=100000->(o8 m).2.2.1 (pS T E N i nd)=some (true,pS T E N (i+W.length) (nd++P))
def AOk(m:Nat)(W:List X4)(P:List (Int×Int))(R:List X4):Prop:=∀i nd,At3 T i (W++R)->nd.length+P.length<=100000->(o8 m).2.2.2.1 (pS T E N i nd)=some (true,pS T E N (i+W.length) (nd++P))
def b0r(m:Nat)(c:Int)(W:List X4)(P:List (Int×Int))(R:List X4):Prop:=∀i nd,At3 T i (W++R)->nd.length+P.length<=100000->(o8 m).2.1 (pS T E N i nd) c=some (true,pS T E N (i+W.length) (nd++P))
def COk(m:Nat)(op:Int)(W:List X4)(P:List (Int×Int))(R:List X4):Prop:=∀i nd,At3 T i (W++R)->nd.length+P.length<=100000->(o8 m).2.2.2.2 (pS T E N i nd) op=some (true,pS T E N (i+W.length) (nd++P))
def LOk(m:Nat)(c:Int)(W:List X4)(P:List (Int×Int))(g:Int)(R:List X4):Prop:=∀i nd,At3 T i (W++R)->nd.length+P.length<=100000->∃(p' :D7) (q:Nat),q<=W.length/\(o8 m).2.2.1 (pS T E N i nd)=some (true,p')/\
 ∀j,gK (biF (o8 m).2.1 c) (j+q) (p',5)=gK (biF (o8 m).2.1 c) j (pS T E N (i+W.length) (nd++P),g)
end
variable {R:List X4}{m:Nat}{W:List X4}{P:List (Int×Int)}
section
variable {T:List bU} {E:Int} {N:D9}
theorem a3c(c:Int)(h:UOk T E N m W P R):LOk T E N m c W P 5 R:=λi nd hA hn=>⟨_,0,o5,h i nd hA hn,λj=>rfl⟩
theorem BZ{i:Nat}(h:At3 T i (W++R)):i+W.length<=1000000:=by have:=vZ h;have h1:=this.2.1;have h2:=this.2.2;omega
theorem a7g{c g:Int}(h:LOk T E N m c W P g R)(hR:Fe R c):b0r T E N (m+1) c W P R:=by
 intro i nd hA hn;obtain⟨p',q,hq,h1,h2⟩:=h i nd hA hn;have hl:=BZ hA;have hB:=vZ hA;have hs:=zZ hB;rw[b7e,h1,o9];simp only[E8,o6];have lp:P7 (biF (o8 m).2.1 c) (p',5)=some (.inr (true,pS T E N (i+W.length) (nd++P))):=by
  unfold P7;rw[show aG=(aG -q -1+1)+q by unfold aG;omega,h2,bG];have st:biF (o8 m).2.1 c (pS T E N (i+W.length) (nd++P),g)=some (.rt (true,pS T E N (i+W.length) (nd++P))):=by
   unfold biF;simp only;rw[Iq hB,o9];simp only;rcases hR with hR|⟨k,hk,e,hc⟩
   .rw[b1i (t:=pk T (i+W.length)) (by rw[hs];exact hR),o9,O7 rfl,o7,o9,kD]
   .rw[a7D (t:=pk T (i+W.length)) hk (by rw[hs];exact e),o9];simp only;rw[O5 (by rcases hk with rfl|rfl|rfl|rfl|rfl|rfl|rfl|rfl|rfl<;>decide),o6,dY hc,o7,o9,kD]
  rw[st]
 rw[lp,o9,kD]
theorem b7c{c ga k:Int}{A B:List X4}{PA PB:List (Int×Int)}(hk:a4T k)(hA:LOk T E N m c A PA ga (opK k::(B++R)))(hB:b0r T E N m ((kw k).2+1) B PB R)(h1:c<=(kw k).2)(h2:(kw k).2<=ga):
  LOk T E N m c (A++opK k::B) (PA++PB++[(k,0)]) (l7 (D8 (kw k).2 3) 2 (kw k).2) R:=by
 intro i nd hAt hn;have hAt' :At3 T i (A++(opK k::(B++R))):=by rw[E9]at hAt;exact hAt
 simp only[D6,mM]at hn;obtain⟨p',q,hq,e1,e2⟩:=hA i nd hAt' o5;refine⟨p',q+1,by simp;omega,e1,λj=>?_⟩;have hO:=vZ hAt';have hs:=zZ hO;have hop:=a7D (t:=pk T (i+A.length)) hk hs;have hl:=BZ hAt;simp only[D6,A8]at hl;have hsy:1<=(kw k).2/\(kw k).2<=5:=by rcases hk with rfl|rfl|rfl|rfl|rfl|rfl|rfl|rfl|rfl<;>decide
 rw[show j+(q+1)=(j+1)+q by omega,e2,bG];have st:biF (o8 m).2.1 c (pS T E N (i+A.length) (nd++PA),ga)=some (.nx (pS T E N (i+(A++opK k::B).length) (nd++(PA++PB++[(k,0)])),l7 (D8 (kw k).2 3) 2 (kw k).2)):=by
  unfold biF;simp only;rw[Iq hO,o9];simp only;rw[hop,o9];simp only;rw[O5 (by rcases hk with rfl|rfl|rfl|rfl|rfl|rfl|rfl|rfl|rfl<;>decide),o6,Y5 h1,o6,Y5 h2,o6,o9,Y2,eP o5,dw bg];rw[show(o8 m).2.1 (T,((i+A.length+1:Nat):Int),E,N,nd++PA,0,0) ((kw k).2+1)=_ from hB (i+A.length+1) (nd++PA) (gz hO) G8,o9];simp only[E8,o6];rw[pq G8,o9];simp only;rw[cu bg];have e3:i+A.length+1+B.length=i+(A++opK k::B).length:=by simp;omega
  have e4:nd++PA++PB++[(k,0)]=nd++(PA++PB++[(k,0)]):=A7;rw[e3,e4];by_cases h3:(kw k).2=3
  .rw[O7 h3,o7,o7,h3];rfl
  .rw[O5 h3,o6,o6]
 rw[st]
theorem b3B(h:b0r T E N m 1 W P R)(hne:W≠[])(hif:¬((hd3 W).1=1/\(hd3 W).2.1=[105,102])):EOk T E N (m+1) W P R:=by
 intro i nd hA hn;have hh:hd3 (W++R)=hd3 W:=by cases W with|nil=>exact absurd rfl hne|cons a W=>rfl
 rw[b7f];unfold jE;rw[IW hA,o9,hh];have e:l7 (D8 (hd3 W).1 1) (seq (hd3 W).2.1 [105,102]) false=false:=by
  by_cases g:(hd3 W).1=1
  .rw[O7 g,o7];exact qX.2 (λe=>hif ⟨g,e⟩)
  .rw[O5 g];rfl
 rw[e];simp only[Z5,o7];rw[h i nd hA hn,o9]
theorem c2E{A B C:List X4}{PA PB PC:List (Int×Int)} (hA:EOk T E N m A PA ((1,[116,104,101,110],0)::(B++((1,[101,108,115,101],0)::(C++R))))) (hB:EOk T E N m B PB ((1,[101,108,115,101],0)::(C++R))) (hC:EOk T E N m C PC R):
  EOk T E N (m+1) ((1,[105,102],0)::(A++(1,[116,104,101,110],0)::(B++(1,[101,108,115,101],0)::C))) (PA++PB++PC++[(26,0)]) R:=by
 intro i nd hAt hn;have h0:At3 T i ((1,[105,102],0)::(A++((1,[116,104,101,110],0)::(B++((1,[101,108,115,101],0)::(C++R)))))):=by have e:((1,[105,102],0)::(A++(1,[116,104,101,110],0)::(B++(1,[101,108,115,101],0)::C)))++R=((1,[105,102],0):X4)::(A++((1,[116,104,101,110],0)::(B++((1,[101,108,115,101],0)::(C++R))))):=A7;rw[←e];exact hAt
 have hl:=BZ hAt;simp only[D6,A8,G9]at hl hn;have a1:=gz h0;have a2:=vZ a1;have a3:=gz a2;have a4:=vZ a3;have a5:=gz a4;rw[b7f];unfold jE;rw[IW h0,o9];rw[show(l7 (D8 (hd3 ((1,[105,102],0)::(A++((1,[116,104,101,110],0)::(B++((1,[101,108,115,101],0)::(C++R))))):List X4)).1 1) (seq (hd3 ((1,[105,102],0)::(A++((1,[116,104,101,110],0)::(B++((1,[101,108,115,101],0)::(C++R))))):List X4)).2.1 [105,102]) false)=true from rfl];simp only[E8,o6];rw[eP o5];rw[show(o8 m).1 (T,((i+1:Nat):Int),E,N,nd,0,0)=_ from hA (i+1) nd a1 o5,o9];simp only[o7];rw[show ed (pS T E N (i+1+A.length) (nd++PA)) 1 [116,104,101,110]=_ from Qm a2,o9];simp only[o7];rw[hB (i+1+A.length+1) (nd++PA) a3 G8,o9];simp only[o7];rw[show ed (pS T E N (i+1+A.length+1+B.length) (nd++PA++PB)) 1 [101,108,115,101]=_ from Qm a4,o9];simp only[o7];rw[hC (i+1+A.length+1+B.length+1) (nd++PA++PB) a5 G8,o9];simp only[o7];rw[pq G8,o9];have e3:i+1+A.length+1+B.length+1+C.length=i+((1,[105,102],0)::(A++(1,[116,104,101,110],0)::(B++(1,[101,108,115,101],0)::C)):List X4).length:=by simp;omega
 have e4:nd++PA++PB++PC++[(26,0)]=nd++(PA++PB++PC++[(26,0)]):=A7;rw[e3,e4]
theorem b0t(h:EOk T E N m W P ((7,[41],0)::R)):AOk T E N (m+1) ((7,[40],0)::(W++[(7,[41],0)])) P R:=by
 intro i nd hAt hn;have h0:At3 T i ((7,[40],0)::(W++((7,[41],0)::R))):=by have e:((7,[40],0)::(W++[(7,[41],0)]))++R=((7,[40],0):X4)::(W++((7,[41],0)::R)):=A7;rw[←e];exact hAt
 have hl:=BZ hAt;simp only[D6,A8,G9]at hl;have hs:=zZ h0;have e1:(pk T i).1=7:=congrArg (λx:X4=>x.1) hs;rw[b1r];unfold iR;rw[Iq h0,o9,KL,o9];simp only[e1,show Vb 7=0 from rfl,O7 (rfl:(0:Int)=0),E8,o6,O5 (show(7:Int)≠5 by omega)];rw[IW h0,o9];rw[show(l7 (D8 (hd3 ((7,[40],0)::(W++((7,[41],0)::R)):List X4)).1 7) (seq (hd3 ((7,[40],0)::(W++((7,[41],0)::R)):List X4)).2.1 [40]) false)=true from rfl];simp only[o7];rw[eP o5];rw[show(o8 m).1 (T,((i+1:Nat):Int),E,N,nd,0,0)=_ from h (i+1) nd (gz h0) hn,o9];simp only[o7];rw[xN (vZ (gz h0)),o9];have e3:i+1+W.length+1=i+((7,[40],0)::(W++[(7,[41],0)]):List X4).length:=by simp;omega
 rw[e3]
theorem a6u(h:AOk T E N m W P R)(hne:W≠[])(h1:¬((hd3 W).1=7/\(hd3 W).2.1=[45]))(h2:¬((hd3 W).1=1/\(hd3 W).2.1=[110,111,116])):UOk T E N (m+1) W P R:=by
 intro i nd hA hn;have hh:hd3 (W++R)=hd3 W:=by cases W with|nil=>exact absurd rfl hne|cons a W=>rfl
 rw[b1s];unfold iC;rw[IW hA,o9,hh];have e:l7 (D8 (hd3 W).1 7) (seq (hd3 W).2.1 [45]) false=false:=by
  by_cases g:(hd3 W).1=7
  .rw[O7 g,o7];exact qX.2 (λe=>h1 ⟨g,e⟩)
  .rw[O5 g];rfl
 have e' :l7 (D8 (hd3 W).1 1) (seq (hd3 W).2.1 [110,111,116]) false=false:=by
  by_cases g:(hd3 W).1=1
  .rw[O7 g,o7];exact qX.2 (λe=>h2 ⟨g,e⟩)
  .rw[O5 g];rfl
 rw[e];simp only[o6];rw[IW hA,o9,hh,e'];simp only[o6];rw[h i nd hA hn,o9]
theorem c2o(h:UOk T E N m W P R):UOk T E N (m+1) ((1,[110,111,116],0)::W) (P++[(25,0)]) R:=by
 intro i nd hAt hn;have h0:At3 T i ((1,[110,111,116],0)::(W++R)):=hAt;have hl:=BZ hAt;simp only[D6,A8,G9]at hl hn;rw[b1s];unfold iC;rw[IW h0,o9];rw[show(l7 (D8 (hd3 ((1,[110,111,116],0)::(W++R):List X4)).1 7) (seq (hd3 ((1,[110,111,116],0)::(W++R):List X4)).2.1 [45]) false)=false from rfl];simp only[o6];rw[IW h0,o9];rw[show(l7 (D8 (hd3 ((1,[110,111,116],0)::(W++R):List X4)).1 1) (seq (hd3 ((1,[110,111,116],0)::(W++R):List X4)).2.1 [110,111,116]) false)=true from rfl];simp only[o7];rw[eP o5];rw[show(o8 m).2.2.1 (T,((i+1:Nat):Int),E,N,nd,0,0)=_ from h (i+1) nd (gz h0) o5,o9];simp only[o7];rw[pq G8,o9];have e3:i+1+W.length=i+((1,[110,111,116],0)::W:List X4).length:=by simp;omega
 rw[e3,E9]
theorem b3n(h:UOk T E N m W P R)(hne:W≠[])(hlit:Vb (hd3 W).1=0):UOk T E N (m+1) ((7,[45],0)::W) (P++[(10,0)]) R:=by
 intro i nd hAt hn;have h0:At3 T i ((7,[45],0)::(W++R)):=hAt;have hl:=BZ hAt;have hh:hd3 (W++R)=hd3 W:=by cases W with|nil=>exact absurd rfl hne|cons a W=>rfl
 simp only[D6,A8,G9]at hl hn;have hn1:=OV h0;have e1:(pk T (i+1)).1=(hd3 W).1:=by rw[←hh];exact congrArg (λx:X4=>x.1) hn1
 rw[b1s];unfold iC;rw[IW h0,o9];rw[show(l7 (D8 (hd3 ((7,[45],0)::(W++R):List X4)).1 7) (seq (hd3 ((7,[45],0)::(W++R):List X4)).2.1 [45]) false)=true from rfl];simp only[o7];rw[show V4 (pS T E N i nd) 1=_ from KR i 1 nd h0.2.1 h0.2.2 o5,o9,KL,o9];simp only[e1,hlit,O7 (rfl:(0:Int)=0),E8,o6];rw[eP o5];rw[show(o8 m).2.2.1 (T,((i+1:Nat):Int),E,N,nd,0,0)=_ from h (i+1) nd (gz h0) o5,o9];simp only[o7];rw[pq G8,o9];have e3:i+1+W.length=i+((7,[45],0)::W:List X4).length:=by simp;omega
 rw[e3,E9]
theorem b0l{k u:Int}{w:List UInt8}(hk:k=2\/k=3\/k=4)(hu:0<=u/\u<=1000000000000000000):UOk T E N (m+1) [(7,[45],0),(k,w,u)] [(k,-u)] R:=by
 intro i nd hAt hn;have h0:At3 T i ((7,[45],0)::(k,w,u)::R):=hAt;have hl:=BZ hAt;simp only[A8,G9]at hl hn;have hn1:=OV h0;have e1:(pk T (i+1)).1=k:=congrArg (λx:X4=>x.1) hn1;have e2:(pk T (i+1)).2.2.1=u:=congrArg (λx:X4=>x.2.2) hn1;have hlit:Vb k=k:=by rcases hk with rfl|rfl|rfl<;>rfl
 rw[b1s];unfold iC;rw[IW h0,o9];rw[show(l7 (D8 (hd3 ((7,[45],0)::(k,w,u)::R:List X4)).1 7) (seq (hd3 ((7,[45],0)::(k,w,u)::R:List X4)).2.1 [45]) false)=true from rfl];simp only[o7];rw[show V4 (pS T E N i nd) 1=_ from KR i 1 nd h0.2.1 h0.2.2 o5,o9,KL,o9];simp only[e1,e2,hlit,O5 (show k≠0 by omega),Z5,o7];rw[o9];rw[show H8 .i64 (i:Int) 2=((i+2:Nat):Int) by rw[dw bg];omega,cu bg];rw[show H5 (T,((i+2:Nat):Int),E,N,nd,0,0) k (0 -u)=_ from pq (i:=i+2) o5 k (0 -u),o9,Int.zero_sub];rfl
end
end
section
structure NmD (N:D9):Prop where
 id:NmI N
 le:N.1.length<=1000/\N.2.1.length<=1000/\N.2.2.1.length<=1000/\N.2.2.2.1.length<=1000/\N.2.2.2.2.length<=1000
 e:∀(j:Nat) e,N.1[j]? =some e->(∀x∈N.1.take j,x.1≠e.1)/\e.2.length<=1000/\∀(k:Nat) v,e.2[k]? =some v->∀x∈e.2.take k,x≠v
 t:∀(j:Nat) w,N.2.1[j]? =some w->∀x∈N.2.1.take j,x≠w
 i:∀(j:Nat) w,N.2.2.1[j]? =some w->∀x∈N.2.2.1.take j,x≠w
 d:∀(j:Nat) w,N.2.2.2.1[j]? =some w->(∀x∈N.2.2.2.1.take j,x≠w)/\∀x∈N.2.2.1,x≠w
 m:∀(j:Nat) w,N.2.2.2.2[j]? =some w->∀x∈N.2.2.2.2.take j,x≠w
theorem BN{α:Type}{l:List α}{i:Int}{x:α}(h:O0 l i=some x):l[i.toNat]? =some x/\((i.toNat:Nat):Int)=i/\x∈l:=by obtain⟨h0,h1,h2,h3⟩:=pF h;exact⟨h3,o5,h2⟩
variable {m:Nat}{R:List X4}{v:Int}{k:Int}{W:List X4}{n:Int}{w:List UInt8}{P:List (Int×Int)}
section
variable {T:List bU} {E:Int} {N:D9}
theorem b6C{k u:Int}(hk:k=2\/k=3\/k=4):AOk T E N (m+1) [(k,w,u)] [(k,u)] R:=by
 intro i nd hAt hn;have h0:At3 T i ((k,w,u)::R):=hAt;have hl:=BZ hAt;simp only[A8,G9]at hl hn;have hs:=zZ h0;have e1:(pk T i).1=k:=congrArg (λx:X4=>x.1) hs;have e2:(pk T i).2.2.1=u:=congrArg (λx:X4=>x.2.2) hs;have hlit:Vb k=k:=by rcases hk with rfl|rfl|rfl<;>rfl
 rw[b1r];unfold iR;rw[Iq h0,o9,KL,o9];simp only[e1,e2,hlit,O5 (show k≠0 by omega),Z5,o7];rw[o9,eP o5,show H5 (T,((i+1:Nat):Int),E,N,nd,0,0) k u=_ from pq (i:=i+1) o5 k u,o9];rfl
theorem b3v{u:Int} :AOk T E N (m+1) [(5,w,u)] [(5,u)] R:=by intro i nd hAt hn;have h0:At3 T i ((5,w,u)::R):=hAt;have hl:=BZ hAt;simp only[A8,G9]at hl hn;have hs:=zZ h0;have e1:(pk T i).1=5:=congrArg (λx:X4=>x.1) hs;have e2:(pk T i).2.2.1=u:=congrArg (λx:X4=>x.2.2) hs;rw[b1r];unfold iR;rw[Iq h0,o9,KL,o9];simp only[e1,e2,show Vb 5=0 from rfl,O7 (rfl:(0:Int)=0),O7 (rfl:(5:Int)=5),E8,o6,o7];rw[eP o5,show H5 (T,((i+1:Nat):Int),E,N,nd,0,0) 5 u=_ from pq (i:=i+1) o5 5 u,o9];rfl
theorem TU{i:Nat}{nd:List (Int×Int)}(h0:At3 T i ((1,w,n)::(W++R))):(o8 (m+1)).2.2.2.1 (pS T E N i nd)=
  (l7 (seq w [116,114,117,101]) (H5 (pS T E N (i+1) nd) 1 1)
   (l7 (seq w [102,97,108,115,101]) (H5 (pS T E N (i+1) nd) 1 0)
    (l7 (seq w [116,111,100,97,121]) (H5 (pS T E N (i+1) nd) 9 0)
     (l9 (nH w) λ(x_3:Int)=>
           l7 (I4 (D8 x_3 0))
            (l9 (U1 (pS T E N (i+1) nd) [40])
             λ(x_4:Bool×D7)=>
             l7 x_4.1
              (l9 ((o8 m).2.2.2.2 x_4.2 x_3) λ(x:Bool×D7)=>
                l7 x.1 (l9 (U1 x.2 [41]) λ(x:Bool×D7)=>some x)
                 (some (false,x.2)))
              (some (false,x_4.2)))
            (eH (pS T E N i nd)))))):=by
 have hi:=MN h0;have hT:=h0.2.1;have hs:=zZ h0;have e1:(pk T i).1=1:=congrArg (λx:X4=>x.1) hs;have e2:(pk T i).2.1=w:=congrArg (λx:X4=>x.2.1) hs;rw[b1r];unfold iR;rw[Iq h0,o9,KL,o9];simp only[e1,e2,show Vb 1=0 from rfl,O7 (rfl:(0:Int)=0),E8,o6,O5 (show(1:Int)≠5 by omega)];rw[IW h0,o9,show(l7 (D8 (hd3 ((1,w,n)::(W++R):List X4)).1 7) (seq (hd3 ((1,w,n)::(W++R):List X4)).2.1 [40]) false)=false from rfl];simp only[o6,O7 (rfl:(1:Int)=1),E8];rw[eP o5];simp only[vG];cases hc:nH w<;>rfl
theorem b3x :AOk T E N (m+1) [(1,[116,114,117,101],n)] [(1,1)] R:=by intro i nd hAt hn;simp only[A8,G9]at hn;rw[TU (W:=[]) hAt,show seq ([116,114,117,101]:List UInt8) [116,114,117,101]=true from rfl,o7,pq o5];rfl
theorem b0s :AOk T E N (m+1) [(1,[102,97,108,115,101],n)] [(1,0)] R:=by intro i nd hAt hn;simp only[A8,G9]at hn;rw[TU (W:=[]) hAt,show seq ([102,97,108,115,101]:List UInt8) [116,114,117,101]=false from rfl,o6,show seq ([102,97,108,115,101]:List UInt8) [102,97,108,115,101]=true from rfl,o7,pq o5];rfl
theorem b0u :AOk T E N (m+1) [(1,[116,111,100,97,121],n)] [(9,0)] R:=by intro i nd hAt hn;simp only[A8,G9]at hn;rw[TU (W:=[]) hAt,show seq ([116,111,100,97,121]:List UInt8) [116,114,117,101]=false from rfl,o6,show seq ([116,111,100,97,121]:List UInt8) [102,97,108,115,101]=false from rfl,o6,show seq ([116,111,100,97,121]:List UInt8) [116,111,100,97,121]=true from rfl,o7,pq o5];rfl
theorem Yp{i:Nat}{nd:List (Int×Int)}(h0:At3 T i ((1,w,n)::(W++R)))(hw:iU w=true):(o8 (m+1)).2.2.2.1 (pS T E N i nd)=eH (pS T E N i nd):=by rw[TU h0,a1O hw (by decide+kernel),o6,a1O hw (by decide+kernel),o6,a1O hw (by decide+kernel),o6,a4W hw,o9,O7 rfl];rfl
theorem c2w(hN:NmD N)(hv:O0 N.2.2.1 v=some (gtN N.2.2.1 v))(hR:Fb R):AOk T E N (m+1) [(1,gtN N.2.2.1 v,0)] [(7,v)] R:=by intro i nd hAt hn;simp only[A8,G9]at hn;obtain⟨h1,h2,h3⟩:=BN hv;have hw:=hN.id.i _ h3;rw[Yp (W:=[]) hAt hw,b0W o5 hAt hR hw (by have:=hN.le;omega) ⟨h1,hN.i _ _ h1⟩,h2];rfl
theorem b6B(hN:NmD N)(hv:O0 N.2.2.2.1 v=some (gtN N.2.2.2.1 v))(hR:Fb R):AOk T E N (m+1) [(1,gtN N.2.2.2.1 v,0)] [(8,v)] R:=by intro i nd hAt hn;simp only[A8,G9]at hn;obtain⟨h1,h2,h3⟩:=BN hv;have hw:=hN.id.d _ h3;rw[Yp (W:=[]) hAt hw,a7t o5 hAt hR hw (by have:=hN.le;omega) (by have:=hN.le;omega) (hN.d _ _ h1).2 ⟨h1,(hN.d _ _ h1).1⟩,h2];rfl
theorem b3w(hN:NmD N)(hI:jh v)(hz:flS (6,v) N=0) :AOk T E N (m+1) [(1,((O0 N.1 (dA .i64 v 16)).getD ([],[])).1,0),(7,[58],0),(1,gtN ((O0 N.1 (dA .i64 v 16)).getD ([],[])).2 (jc v 16),0)] [(6,v)] R:=by intro i nd hAt hn;simp only[A8,G9]at hn;obtain⟨e,h1,h2,q1,q2,q3,q4⟩:=YI hI hz;rw[h1]at hAt ⊢;simp only[V5]at hAt ⊢;obtain⟨a1,a2,a3⟩:=BN h1;obtain⟨b1,b2,b3⟩:=BN h2;obtain⟨c1,c2,c3⟩:=hN.e _ _ a1;have hw:=(hN.id.e _ a3).1;have hv:=(hN.id.e _ a3).2 _ b3;rw[Yp (W:=[(7,[58],0),(1,gtN e.2 (jc v 16),0)]) hAt hw,a5v o5 hAt hw hv (by have:=hN.le;omega) a1 rfl c1 o5 ⟨b1,c3 _ _ b1⟩,a2,b2,←q4];rfl
def Uf(k:Int):Prop:=k=14\/k=15\/k=16\/k=17\/k=18\/k=27\/k=28\/k=29\/k=30\/k=31\/k=32\/k=33\/k=34\/k=35\/k=36\/k=37\/k=38\/k=39
theorem Yo(hk:Uf k)(h:COk T E N m k W P ((7,[41],0)::R)):AOk T E N (m+1) ((1,dU k,0)::(7,[40],0)::(W++[(7,[41],0)])) P R:=by
 intro i nd hAt hn;have h0:At3 T i ((1,dU k,0)::((7,[40],0)::(W++[(7,[41],0)])++R)):=hAt;have h2:At3 T (i+1) ((7,[40],0)::(W++((7,[41],0)::R))):=by have:=gz h0;have e:((7,[40],0)::(W++[(7,[41],0)])++R)=((7,[40],0):X4)::(W++((7,[41],0)::R)):=A7;rw[←e];exact this
 have hne:seq (dU k) [116,114,117,101]=false/\seq (dU k) [102,97,108,115,101]=false/\seq (dU k) [116,111,100,97,121]=false/\D8 k 0=false:=by rcases hk with rfl|rfl|rfl|rfl|rfl|rfl|rfl|rfl|rfl|rfl|rfl|rfl|rfl|rfl|rfl|rfl|rfl|rfl<;>exact⟨rfl,rfl,rfl,rfl⟩
 rw[TU h0,hne.1,hne.2.1,hne.2.2.1,o6,o6,o6,a4V hk,o9,hne.2.2.2,Z5,o7];rw[xN h2,o9];simp only[o7];rw[h (i+1+1) nd (gz h2) hn,o9];simp only[o7];rw[xN (vZ (gz h2)),o9];have e3:i+1+1+W.length+1=i+((1,dU k,0)::(7,[40],0)::(W++[(7,[41],0)]):List X4).length:=by simp;omega
 rw[e3]
theorem b0z :COk T E N (m+1) 35 [] [(35,0)] R:=by intro i nd hAt hn;simp only[A8,G9]at hn;rw[a2h];unfold bJ;simp (disch:=decide) only[O7,o7];rw[pq o5,o9];rfl
theorem b6P(hN:NmD N)(hk:k=36\/k=37\/k=38\/k=39)(hv:O0 N.2.2.2.2 v=some (gtN N.2.2.2.2 v)) :COk T E N (m+1) k [(1,gtN N.2.2.2.2 v,0)] [(k,v)] R:=by
 intro i nd hAt hn;simp only[A8,G9]at hn;obtain⟨h1,h2,h3⟩:=BN hv;have hf:=Oj (E:=E) (N:=N) (nd:=nd) hAt (hN.id.m _ h3) (l:=N.2.2.2.2) (by have:=hN.le;omega) ⟨h1,hN.m _ _ h1⟩;rw[h2]at hf;rw[a2h];unfold bJ;have e:(l7 (D8 k 36) (some (D8 k 36)) (l7 (D8 k 37) (some (D8 k 37)) (l7 (D8 k 38) (some (D8 k 38)) (some (D8 k 39)))))=some true:=by rcases hk with rfl|rfl|rfl|rfl<;>rfl
 rw[O5 (show k≠35 by omega),o6,e];simp only[o9,o7];rw[hf,o9];simp only[o7];rw[pq o5,o9];rfl
theorem b6R(hN:NmD N)(hv:O0 N.2.1 v=some (gtN N.2.1 v))(h:EOk T E N m W P R):COk T E N (m+1) 33 ((1,gtN N.2.1 v,0)::(7,[44],0)::W) (P++[(33,v)]) R:=by
 intro i nd hAt hn;simp only[D6,A8,G9]at hn;obtain⟨h1,h2,h3⟩:=BN hv;have h0:At3 T i ((1,gtN N.2.1 v,0)::(7,[44],0)::(W++R)):=hAt;have hf:=Oj (E:=E) (N:=N) (nd:=nd) h0 (hN.id.t _ h3) (l:=N.2.1) (by have:=hN.le;omega) ⟨h1,hN.t _ _ h1⟩;rw[h2]at hf;rw[a2h];unfold bJ;simp (disch:=decide) only[O7,O5,o7,o6,o9];rw[hf,o9];simp only[E8,o6];rw[xN (gz h0),o9];simp only[E8,o6];rw[h (i+1+1) nd (gz (gz h0)) o5,o9];simp only[E8,o6];rw[pq G8,o9,o9,kD];have e3:i+1+1+W.length=i+((1,gtN N.2.1 v,0)::(7,[44],0)::W:List X4).length:=by simp;omega
 rw[e3,E9]
theorem b3E(hN:NmD N)(hI:jh v)(hz:flS (34,v) N=0)(h:EOk T E N m W P ((7,[44],0)::(1,kP (jc v 8),0)::R)):
  COk T E N (m+1) 34 ((1,gtN N.2.1 (dA .i64 v 8),0)::(7,[44],0)::(W++[(7,[44],0),(1,kP (jc v 8),0)])) (P++[(34,v)]) R:=by
 intro i nd hAt hn;simp only[D6,A8,G9]at hn;obtain⟨hv,g1,g2⟩:=a3A hI hz;obtain⟨h1,h2,h3⟩:=BN hv;have h0:At3 T i ((1,gtN N.2.1 (dA .i64 v 8),0)::(7,[44],0)::(W++((7,[44],0)::(1,kP (jc v 8),0)::R))):=by have e:((1,gtN N.2.1 (dA .i64 v 8),0)::(7,[44],0)::(W++[(7,[44],0),(1,kP (jc v 8),0)]))++R=((1,gtN N.2.1 (dA .i64 v 8),0):X4)::(7,[44],0)::(W++((7,[44],0)::(1,kP (jc v 8),0)::R)):=A7;rw[←e];exact hAt
 have hf:=Oj (E:=E) (N:=N) (nd:=nd) h0 (hN.id.t _ h3) (l:=N.2.1) (by have:=hN.le;omega) ⟨h1,hN.t _ _ h1⟩;rw[h2]at hf;have hq:v=8*dA .i64 v 8+jc v 8:=by
  have hv0:0<=v:=by
   unfold flS at hz;rw[show U9 (34,v) N=l7 (I9 v 0) (some 6) (l7 (U2 (x8 N.2.1) (dA .i64 v 8)) (some 6) (l7 (I9 5 (jc v 8)) (some 3) (some 0)))from rfl]at hz;rcases Int.lt_or_le v 0 with h|h
   .rw[dY h]at hz;cases hz
   .exact h
  rw[OZ hI 8 (.inl rfl),oV hv0,Bh hv0];omega
 have hql:=(pF hv).2.1;have hle:=hN.le;unfold x8 at hql;have h4:=vZ (gz (gz h0));rw[a2h];unfold bJ;simp (disch:=decide) only[O7,O5,o7,o6,o9];rw[hf,o9];simp only[E8,o6];rw[xN (gz h0),o9];simp only[E8,o6];rw[h (i+1+1) nd (gz (gz h0)) o5,o9];simp only[E8,o6];rw[xN h4,o9];simp only[E8,o6];rw[a4a (gz h4) ⟨g1,g2⟩,o9];simp only[o7];rw[Jm bg,dw bg,←hq,pq G8,o9,o9,kD];have e3:i+1+1+W.length+1+1=i+((1,gtN N.2.1 (dA .i64 v 8),0)::(7,[44],0)::(W++[(7,[44],0),(1,kP (jc v 8),0)]):List X4).length:=by simp;omega
 rw[e3,E9]
theorem b2A(hk:k=31\/k=32)(h:EOk T E N m W P R):COk T E N (m+1) k W (P++[(k,0)]) R:=by
 intro i nd hAt hn;simp only[D6,A8,G9]at hn;rw[a2h];unfold bJ;rcases hk with rfl|rfl
 all_goals
  simp (disch:=decide) only[O7,O5,o7,o6,o9,Y2];rw[h i nd hAt o5,o9];simp only[E8,o6];rw[pq G8,o9,E9]
theorem b6S(hk:k=17\/k=18\/k=27\/k=28\/k=29\/k=30){A B:List X4}{PA PB:List (Int×Int)}(hA:EOk T E N m A PA ((7,[44],0)::(B++R)))(hB:EOk T E N m B PB R):COk T E N (m+1) k (A++(7,[44],0)::B) (PA++PB++[(k,0)]) R:=by
 intro i nd hAt hn;simp only[D6,A8,G9]at hn;have h0:At3 T i (A++((7,[44],0)::(B++R))):=by rw[E9]at hAt;exact hAt
 have e3:i+A.length+1+B.length=i+(A++(7,[44],0)::B:List X4).length:=by simp;omega
 have e4:nd++PA++PB++[(k,0)]=nd++(PA++PB++[(k,0)]):=A7;rw[a2h];unfold bJ;rcases hk with rfl|rfl|rfl|rfl|rfl|rfl
 all_goals
  simp (disch:=decide) only[O7,O5,o7,o6,o9,Y2];rw[hA i nd h0 o5,o9];simp only[E8,o6];rw[xN (vZ h0),o9];simp only[E8,o6];rw[hB (i+A.length+1) (nd++PA) (gz (vZ h0)) G8,o9];simp only[E8,o6];rw[pq G8,o9,e3,e4]
theorem b6Q(hk:k=14\/k=15\/k=16)(hv:0<=v/\v<=5){A B:List X4}{PA PB:List (Int×Int)} (hA:EOk T E N m A PA ((7,[44],0)::(B++((7,[44],0)::(1,kP v,0)::R)))) (hB:EOk T E N m B PB ((7,[44],0)::(1,kP v,0)::R)):
  COk T E N (m+1) k (A++(7,[44],0)::(B++[(7,[44],0),(1,kP v,0)])) (PA++PB++[(k,v)]) R:=by
 intro i nd hAt hn;simp only[D6,A8,G9]at hn;have h0:At3 T i (A++((7,[44],0)::(B++((7,[44],0)::(1,kP v,0)::R)))):=by have e:(A++(7,[44],0)::(B++[(7,[44],0),(1,kP v,0)]))++R=A++((7,[44],0)::(B++((7,[44],0)::(1,kP v,0)::R)):List X4):=A7;rw[←e];exact hAt
 have h4:=vZ (gz (vZ h0));have e3:i+A.length+1+B.length+1+1=i+(A++(7,[44],0)::(B++[(7,[44],0),(1,kP v,0)]):List X4).length:=by simp;omega
 have e4:nd++PA++PB++[(k,v)]=nd++(PA++PB++[(k,v)]):=A7;rw[a2h];unfold bJ;rcases hk with rfl|rfl|rfl
 all_goals
  simp (disch:=decide) only[O7,O5,o7,o6,o9,Y2];rw[hA i nd h0 o5,o9];simp only[E8,o6];rw[xN (vZ h0),o9];simp only[E8,o6];rw[hB (i+A.length+1) (nd++PA) (gz (vZ h0)) G8,o9];simp only[E8,o6];rw[xN h4,o9];simp only[E8,o6];rw[a4a (gz h4) hv,o9];simp only[o7];rw[pq G8,o9,e3,e4]
end
end
section
def gT(c:Int):Int:=l7 (U2 6 c) 5 (l7 (D8 c 3) 2 c)
def tkT(N:D9)(t:XT):List X4:=xn (itT N t)
def tkW(N:D9)(t:XT)(c:Int):List X4:=xn (wiI (itT N t) (txT N t).2 c)
theorem Wq(N:D9)(t:XT)(c:Int):tkW N t c=l7 (I9 (txT N t).2 c) ((7,[40],0)::(tkT N t++[(7,[41],0)])) (tkT N t):=by
 unfold tkW tkT wiI;cases I9 (txT N t).2 c
 .rfl
 .simp only[o7];rw[gU,gU];rfl
structure TrOk (T:List bU) (E:Int) (N:D9) (t:XT):Prop where
 ne:tkT N t≠[]
 nif:1<=(txT N t).2->¬((hd3 (tkT N t)).1=1/\(hd3 (tkT N t)).2.1=[105,102])
 neg:6<=(txT N t).2->Ar t.node.1=false->Vb (hd3 (tkT N t)).1=0
 U:6<=(txT N t).2->∀R,Fb R->∀m,10*t.size<=m->UOk T E N m (tkT N t) t.post R
 L:(txT N t).2<=5->∀R,Fe R ((txT N t).2+1)->∀c,1<=c->c<=(txT N t).2->∀m,10*t.size<=m->LOk T E N m c (tkT N t) t.post (gT (txT N t).2) R
 E:∀R,Fe R 1->∀m,10*t.size+2<=m->EOk T E N m (tkT N t) t.post R
variable {t:XT}{R:List X4}{m:Nat}{c:Int}
section
variable {T:List bU} {E:Int} {N:D9}
theorem NI{c d:Int}(h:Fe R c)(hcd:c<=d):Fe R d:=by
 rcases h with h|⟨k,h1,h2,h3⟩
 .exact .inl h
 .exact .inr ⟨k,h1,h2,o5⟩
theorem PG(R:List X4)(c:Int):Fe ((7,[41],0)::R) c:=.inl (.inr (.inl rfl))
theorem TL(R:List X4)(c:Int):Fe ((7,[44],0)::R) c:=.inl (.inr (.inr (.inl rfl)))
theorem c4y(h:TrOk T E N t)(h1:1<=c)(h2:c<=(txT N t).2)(hR:Fb R)(hR2:(txT N t).2<=5->Fe R ((txT N t).2+1))(hm:10*t.size<=m):LOk T E N m c (tkT N t) t.post (gT (txT N t).2) R:=by
 by_cases h6:6<=(txT N t).2
 .have:gT (txT N t).2=5:=by unfold gT;rw[Z4 h6];rfl
  rw[this];exact a3c c (h.U h6 R hR m hm)
 .exact h.L o5 R (hR2 o5) c h1 h2 m hm
theorem c2k(ne:tkT N t≠[])(nif:¬((hd3 (tkT N t)).1=1/\(hd3 (tkT N t)).2.1=[105,102]))(hc:1<=(txT N t).2)(hR:Fe R 1)(hm:2<=m)(hL:LOk T E N (m -2) 1 (tkT N t) t.post (gT (txT N t).2) R):EOk T E N m (tkT N t) t.post R:=by obtain⟨m,rfl⟩:∃q,m=q+2:=⟨m -2,o5⟩;exact b3B (a7g hL hR) ne nif
theorem Zh(h:TrOk T E N t)(hm:10*t.size+4<=m):UOk T E N m ((7,[40],0)::(tkT N t++[(7,[41],0)])) t.post R:=by obtain⟨m,rfl⟩:∃q,m=q+2:=⟨m -2,o5⟩;exact a6u (b0t (h.E _ (PG R 1) m o5)) A7 (by rintro⟨-,h⟩;cases h) (by rintro⟨h,-⟩;cases h)
theorem c2t(h:TrOk T E N t)(hR:Fb R)(hm:10*t.size+4<=m):UOk T E N m (tkW N t 6) t.post R:=by
 rw[Wq];by_cases h6:6<=(txT N t).2
 .rw[Y5 h6,o6];exact h.U h6 R hR m o5
 .rw[dY o5,o7];exact Zh h hm
theorem c2s(h:TrOk T E N t){c c' :Int}(h1:1<=c)(h2:c<=c')(hR:Fb R)(hR2:Fe R (c' +1))(hm:10*t.size+4<=m):∃g,LOk T E N m c (tkW N t c') t.post g R/\(g=5\/(c' <=(txT N t).2/\(txT N t).2<=5/\g=gT (txT N t).2)):=by
 rw[Wq];by_cases h6:c' <=(txT N t).2
 .rw[Y5 h6,o6];refine⟨_,c4y h h1 o5 hR (λ_=>NI hR2 o5) o5,?_⟩;by_cases h7:6<=(txT N t).2
  .left;unfold gT;rw[Z4 h7];rfl
  .right;exact⟨h6,o5,rfl⟩
 .rw[dY o5,o7];exact⟨5,a3c c (Zh h hm),.inl rfl⟩
theorem c4C(h:TrOk T E N t)(h1:1<=c)(hR:Fe R c)(hm:10*t.size+5<=m):b0r T E N m c (tkW N t c) t.post R:=by obtain⟨m,rfl⟩:∃q,m=q+1:=⟨m -1,o5⟩;obtain⟨g,hg,-⟩:=c2s h h1 (xB c) (a4o hR) (NI hR o5) (m:=m) o5;exact a7g hg hR
theorem b0g(t:XT)(h:TrOk T E N t)(c:Int):tkW N t c≠[]:=by
 rw[Wq];cases I9 (txT N t).2 c
 .exact h.ne
 .simp[l7]
theorem TN(ne:tkT N t≠[])(nif:¬((hd3 (tkT N t)).1=1/\(hd3 (tkT N t)).2.1=[105,102]))(hc:6<=(txT N t).2)(neg:Ar t.node.1=false->Vb (hd3 (tkT N t)).1=0)(U:∀R,Fb R->∀m,10*t.size<=m->UOk T E N m (tkT N t) t.post R):TrOk T E N t:=by
 have hg:gT (txT N t).2=5:=by unfold gT;rw[Z4 hc];rfl
 refine⟨ne,λ_=>nif,λ_=>neg,λ_=>U,λh=>by omega,λR hR m hm=>c2k ne nif o5 hR o5 ?_⟩;rw[hg];exact a3c 1 (U R (a4o hR) (m -2) o5)
theorem CV(ne:tkT N t≠[])(nif:¬((hd3 (tkT N t)).1=1/\(hd3 (tkT N t)).2.1=[105,102]))(n1:¬((hd3 (tkT N t)).1=7/\(hd3 (tkT N t)).2.1=[45]))(n2:¬((hd3 (tkT N t)).1=1/\(hd3 (tkT N t)).2.1=[110,111,116]))(hc:6<=(txT N t).2)(neg:Ar t.node.1=false->Vb (hd3 (tkT N t)).1=0)
  (A:∀R,Fb R->∀m,10*t.size<=m+1->AOk T E N m (tkT N t) t.post R):TrOk T E N t:=by
 refine TN ne nif hc neg (λR hR m hm=>?_);have hp:=t.size_pos;obtain⟨m,rfl⟩:∃q,m=q+1:=⟨m -1,o5⟩;exact a6u (A R hR m o5) ne n1 n2
theorem b2H{w:List UInt8}{n:Int}{L:List X4}(hw:iU w=true):¬((hd3 ((1,w,n)::L)).1=1/\(hd3 ((1,w,n)::L)).2.1=[105,102])/\¬((hd3 ((1,w,n)::L)).1=7/\(hd3 ((1,w,n)::L)).2.1=[45])/\¬((hd3 ((1,w,n)::L)).1=1/\(hd3 ((1,w,n)::L)).2.1=[110,111,116]):=by
 refine⟨?_,?_,?_⟩
 .rintro⟨-,h⟩;exact a3K hw (by decide+kernel) h
 .rintro⟨h,-⟩;exact absurd (show(1:Int)=7 from h) C9
 .rintro⟨-,h⟩;exact a3K hw (by decide+kernel) h
theorem b2m(hN:NmD N){n:Int×Int}(ha:arF n.1=0)(hI:jh n.2)(hz:flS n N=0):TrOk T E N (.l0 n):=by
 obtain⟨k,v⟩:=n;have ident:∀w:List UInt8,tkT N (.l0 (k,v))=[(1,w,0)]->iU w=true->6<=(txT N (.l0 (k,v))).2->(∀R,Fb R->∀m,AOk T E N (m+1) [(1,w,0)] [(k,v)] R)->TrOk T E N (.l0 (k,v)):=by intro w e hw hc hA;obtain⟨i1,i2,i3⟩:=b2H (n:=0) (L:=[]) hw;refine CV (by rw[e];simp) (by rw[e];exact i1) (by rw[e];exact i2) (by rw[e];exact i3) hc (λ_=>by rw[e];rfl) (λR hR m hm=>?_);simp only[XT.size]at hm;obtain⟨m,rfl⟩:∃q,m=q+1:=⟨m -1,o5⟩;rw[e];exact hA R hR m
 have word:∀w:List UInt8,tkT N (.l0 (k,v))=[(1,w,0)]->(w=[116,114,117,101]\/w=[102,97,108,115,101]\/w=[116,111,100,97,121])->6<=(txT N (.l0 (k,v))).2->(∀R m,AOk T E N (m+1) [(1,w,0)] [(k,v)] R)->TrOk T E N (.l0 (k,v)):=by
  intro w e hw hc hA;have hh:hd3 (tkT N (.l0 (k,v)))=(1,w,0):=by rw[e];rfl
  refine CV (by rw[e];simp) (by rw[hh];rcases hw with rfl|rfl|rfl<;>decide) (by rw[hh];rcases hw with rfl|rfl|rfl<;>decide) (by rw[hh];rcases hw with rfl|rfl|rfl<;>decide) hc (λ_=>by rw[hh];rfl) (λR hR m hm=>?_);simp only[XT.size]at hm;obtain⟨m,rfl⟩:∃q,m=q+1:=⟨m -1,o5⟩;rw[e];exact hA R m
 have num:(k=2\/k=3\/k=4)->-1000000000000000000<=v/\v<=1000000000000000000->TrOk T E N (.l0 (k,v)):=by
  intro hk hb;have e0:tkT N (.l0 (k,v))=l7 (I9 v 0) [(7,[45],0),(k,IL k v.natAbs,(v.natAbs:Int))] [(k,IL k v.natAbs,(v.natAbs:Int))]:=by
   have:itT N (.l0 (k,v))=OC k v:=by show FC (k,v) N=_;unfold FC;rw[Z4 (show k<=5 by omega)];rfl
   unfold tkT;rw[this];unfold OC;rw[O5 (show k≠1 by omega),O5 (show k≠5 by omega)];cases I9 v 0<;>rfl
  have hc:6<=(txT N (.l0 (k,v))).2:=by show 6<=(vC (k,v) N).2;unfold vC;rw[Z4 (show k<=5 by omega),o7];cases I9 v 0<;>simp[l7]
  have hnum:Ar k=true:=by rcases hk with rfl|rfl|rfl<;>rfl
  by_cases h0:v<0
  .rw[dY h0,o7]at e0;refine TN (by rw[e0];simp) (by rw[e0];rintro⟨h,-⟩;exact absurd (show(7:Int)=1 from h) C9) hc (λh=>by rw[show(XT.l0 (k,v)).node.1=k from rfl,hnum]at h;cases h) (λR hR m hm=>?_);simp only[XT.size]at hm;obtain⟨m,rfl⟩:∃q,m=q+1:=⟨m -1,o5⟩;rw[e0];have:=b0l (T:=T) (E:=E) (N:=N) (m:=m) (w:=IL k v.natAbs) (u:=(v.natAbs:Int)) (R:=R) hk o5;rw[show(-(v.natAbs:Int))=v by omega]at this;exact this
  .rw[Y5 o5,o6]at e0;have hh:hd3 (tkT N (.l0 (k,v)))=(k,IL k v.natAbs,(v.natAbs:Int)):=by rw[e0];rfl
   refine CV (by rw[e0];simp) (by rw[hh];rintro⟨h,-⟩;simp only at h;omega) (by rw[hh];rintro⟨h,-⟩;simp only at h;omega) (by rw[hh];rintro⟨h,-⟩;simp only at h;omega) hc (λh=>by rw[show(XT.l0 (k,v)).node.1=k from rfl,hnum]at h;cases h) (λR hR m hm=>?_);simp only[XT.size]at hm;obtain⟨m,rfl⟩:∃q,m=q+1:=⟨m -1,o5⟩;rw[e0];have:=b6C (T:=T) (E:=E) (N:=N) (m:=m) (w:=IL k v.natAbs) (u:=(v.natAbs:Int)) (R:=R) hk;rw[show((v.natAbs:Nat):Int)=v by omega]at this ⊢;exact this
 have call:(k=36\/k=37\/k=38\/k=39)->TrOk T E N (.l0 (k,v)):=by
  intro hk;have hg:O0 N.2.2.2.2 v=some (gtN N.2.2.2.2 v):=by rcases hk with rfl|rfl|rfl|rfl<;>exact Et rfl hz
  have e:tkT N (.l0 (k,v))=(1,dU k,0)::(7,[40],0)::([(1,gtN N.2.2.2.2 v,0)]++[(7,[41],0)]):=by rcases hk with rfl|rfl|rfl|rfl<;>rfl
  have hc:6<=(txT N (.l0 (k,v))).2:=by rcases hk with rfl|rfl|rfl|rfl<;>exact(show(6:Int)<=7 by decide)
  have hh:hd3 (tkT N (.l0 (k,v)))=(1,dU k,0):=by rw[e];rfl
  refine CV (by rw[e];simp) (by rw[hh];rcases hk with rfl|rfl|rfl|rfl<;>decide) (by rw[hh];rcases hk with rfl|rfl|rfl|rfl<;>decide) (by rw[hh];rcases hk with rfl|rfl|rfl|rfl<;>decide) hc (λ_=>by rw[hh];rfl) (λR hR m hm=>?_);simp only[XT.size]at hm;obtain⟨m,rfl⟩:∃q,m=q+2:=⟨m -2,o5⟩;rw[e];exact Yo (by unfold Uf;omega) (b6P hN hk hg)
 rcases ar0 ha with rfl|rfl|rfl|rfl|rfl|rfl|rfl|rfl|rfl|rfl|rfl|rfl|rfl|rfl
 .have hb:=DI (k:=1) o5 rfl hz;rcases(show v=0\/v=1 by omega)with rfl|rfl
  .exact word [102,97,108,115,101] rfl A7 (show(6:Int)<=7 by decide) (λR m=>b0s)
  .exact word [116,114,117,101] rfl A7 (show(6:Int)<=7 by decide) (λR m=>b3x)
 .have hb:=DI (k:=2) o5 rfl hz;exact num o5 o5
 .have hb:=DI (k:=3) o5 rfl hz;exact num o5 o5
 .have hb:=DI (k:=4) o5 rfl hz;exact num o5 o5
 .have hb:=DI (k:=5) o5 rfl hz;have e0:tkT N (.l0 (5,v))=[(5,bC v,v)]:=rfl;have hh:hd3 (tkT N (.l0 (5,v)))=(5,bC v,v):=rfl;have hc:6<=(txT N (.l0 (5,v))).2:=by
   show 6<=(l7 (I9 v 0) 6 7:Int);cases I9 v 0<;>simp[l7]
  refine CV (by rw[e0];simp) (by rw[hh];rintro⟨h,-⟩;exact absurd (show(5:Int)=1 from h) C9) (by rw[hh];rintro⟨h,-⟩;exact absurd (show(5:Int)=7 from h) C9) (by rw[hh];rintro⟨h,-⟩;exact absurd (show(5:Int)=1 from h) C9) hc (λ_=>by rw[hh];rfl) (λR hR m hm=>?_);simp only[XT.size]at hm;obtain⟨m,rfl⟩:∃q,m=q+1:=⟨m -1,o5⟩;rw[e0];exact b3v
 .obtain⟨e,h1,h2,q1,q2,q3,q4⟩:=YI hI hz;have ee:=hN.id.e e (ww h1);have e0:tkT N (.l0 (6,v))=[(1,((O0 N.1 (dA .i64 v 16)).getD ([],[])).1,0),(7,[58],0),(1,gtN ((O0 N.1 (dA .i64 v 16)).getD ([],[])).2 (jc v 16),0)]:=rfl;have hw:iU ((O0 N.1 (dA .i64 v 16)).getD ([],[])).1=true:=by rw[h1];exact ee.1
  obtain⟨i1,i2,i3⟩:=b2H (n:=0) (L:=[(7,[58],0),(1,gtN ((O0 N.1 (dA .i64 v 16)).getD ([],[])).2 (jc v 16),0)]) hw;refine CV (by rw[e0];simp) (by rw[e0];exact i1) (by rw[e0];exact i2) (by rw[e0];exact i3) (show(6:Int)<=7 by decide) (λ_=>by rw[e0];rfl) (λR hR m hm=>?_);simp only[XT.size]at hm;obtain⟨m,rfl⟩:∃q,m=q+1:=⟨m -1,o5⟩;rw[e0];exact b3w hN hI hz
 .have hg:=Et (n:=(7,v)) (l:=N.2.2.1) rfl hz;exact ident (gtN N.2.2.1 v) rfl (hN.id.i _ (ww hg)) (show(6:Int)<=7 by decide) (λR hR m=>c2w hN hg hR)
 .have hg:=Et (n:=(8,v)) (l:=N.2.2.2.1) rfl hz;exact ident (gtN N.2.2.2.1 v) rfl (hN.id.d _ (ww hg)) (show(6:Int)<=7 by decide) (λR hR m=>b6B hN hg hR)
 .have hv:v=0:=by
   unfold flS at hz;rw[show U9 (9,v) N=l7 (I4 (D8 v 0)) (some 2) (some 0)from rfl]at hz;by_cases h:v=0
   .exact h
   .rw[O5 h]at hz;cases hz
  subst hv;exact word [116,111,100,97,121] rfl A7 (show(6:Int)<=7 by decide) (λR m=>b0u)
 .have hv:v=0:=by
   unfold flS at hz;rw[show U9 (35,v) N=l7 (I4 (D8 v 0)) (some 2) (some 0)from rfl]at hz;by_cases h:v=0
   .exact h
   .rw[O5 h]at hz;cases hz
  subst hv;have e:tkT N (.l0 (35,0))=(1,dU 35,0)::(7,[40],0)::([]++[(7,[41],0)]):=rfl;have hh:hd3 (tkT N (.l0 (35,0)))=(1,dU 35,0):=rfl;refine CV (by rw[e];simp) (by rw[hh];decide) (by rw[hh];decide) (by rw[hh];decide) (show(6:Int)<=7 by decide) (λ_=>by rw[hh];rfl) (λR hR m hm=>?_);simp only[XT.size]at hm;obtain⟨m,rfl⟩:∃q,m=q+2:=⟨m -2,o5⟩;rw[e];exact Yo (by unfold Uf;omega) b0z
 .exact call o5
 .exact call o5
 .exact call o5
 .exact call o5
end
end
section
variable {N:D9}
theorem Ol{k v:Int}(ha:0<=arF k)(hu:dM k=some false)(h:flS (k,v) N=0):v=0:=by
 by_cases h0:v=0
 .exact h0
 .have:=YH (b2Q (N:=N) ha h0 hu);rw[h]at this;cases this
variable {n:Int×Int}{a:XT}
section
variable {T:List bU} {E:Int} {N:D9}
theorem b6t(hN:NmD N)(ha:arF n.1=1)(hI:jh n.2)(hz:flS n N=0)(h:TrOk T E N a):TrOk T E N (.l1 n a):=by
 obtain⟨k,v⟩:=n;have hsz:(XT.l1 (k,v) a).size=a.size+1:=rfl;have call:∀(W:List X4),Uf k->tkT N (.l1 (k,v) a)=(1,dU k,0)::(7,[40],0)::(W++[(7,[41],0)])->6<=(txT N (.l1 (k,v) a)).2->(∀m,10*a.size+3<=m->∀R,COk T E N m k W (a.post++[(k,v)]) ((7,[41],0)::R))->TrOk T E N (.l1 (k,v) a):=by
  intro W hk e hc hC;have hh:hd3 (tkT N (.l1 (k,v) a))=(1,dU k,0):=by rw[e];rfl
  refine CV (by rw[e];simp) ?_ ?_ ?_ hc (λ_=>by rw[hh];rfl) (λR hR m hm=>?_)
  .rw[hh];rcases hk with rfl|rfl|rfl|rfl|rfl|rfl|rfl|rfl|rfl|rfl|rfl|rfl|rfl|rfl|rfl|rfl|rfl|rfl<;>decide
  .rw[hh];rintro⟨h,-⟩;exact absurd (show(1:Int)=7 from h) C9
  .rw[hh];rcases hk with rfl|rfl|rfl|rfl|rfl|rfl|rfl|rfl|rfl|rfl|rfl|rfl|rfl|rfl|rfl|rfl|rfl|rfl<;>decide
  .rw[hsz]at hm;obtain⟨m,rfl⟩:∃q,m=q+1:=⟨m -1,o5⟩;rw[e];exact Yo hk (hC m o5 R)
 have v0:(k=10\/k=25\/k=31\/k=32)->v=0:=by intro hk;refine Ol (k:=k) (by rw[show arF k=1 from ha];decide) ?_ hz;rcases hk with rfl|rfl|rfl|rfl<;>decide
 rcases ar1 ha with rfl|rfl|rfl|rfl|rfl|rfl
 .rw[v0 o5]at hz hsz call ⊢;have e:tkT N (.l1 (10,0) a)=(7,[45],0)::l7 (Ar a.node.1) ((7,[40],0)::(tkT N a++[(7,[41],0)])) (tkW N a 6):=by
   have:tkT N (.l1 (10,0) a)=xn ([sy 45]++l7 (Ar a.node.1) ([sy 40]++itT N a++[sy 41]) (wiI (itT N a) (txT N a).2 6)):=rfl;rw[this,gU];cases Ar a.node.1
   .rfl
   .simp only[o7];rw[gU,gU];rfl
  refine TN (by rw[e];simp) (by rw[e];rintro⟨h,-⟩;exact absurd (show(7:Int)=1 from h) C9) (show(6:Int)<=6 by decide) (λ_=>by rw[e];rfl) (λR hR m hm=>?_);rw[hsz]at hm;obtain⟨m,rfl⟩:∃q,m=q+1:=⟨m -1,o5⟩;rw[e];cases hnb:Ar a.node.1
  .refine b3n (c2t h hR o5) (b0g a h 6) ?_;rw[Wq];by_cases h6:6<=(txT N a).2
   .rw[Y5 h6,o6];exact h.neg h6 hnb
   .rw[dY o5];rfl
  .exact b3n (Zh h o5) (by simp[l7]) rfl
 .rw[v0 o5]at hz hsz call ⊢;have e:tkT N (.l1 (25,0) a)=(1,[110,111,116],0)::tkW N a 6:=by
   have:tkT N (.l1 (25,0) a)=xn ([nm [110,111,116],none]++wiI (itT N a) (txT N a).2 6):=rfl;rw[this,gU];rfl
  refine TN (by rw[e];simp) (by rw[e];rintro⟨-,h⟩;exact absurd (show([110,111,116]:List UInt8)=[105,102]from h) C9) (show(6:Int)<=6 by decide) (λ_=>by rw[e];rfl) (λR hR m hm=>?_);rw[hsz]at hm;obtain⟨m,rfl⟩:∃q,m=q+1:=⟨m -1,o5⟩;rw[e];exact c2o (c2t h hR o5)
 .rw[v0 o5]at hz hsz call ⊢;refine call (tkT N a) (by unfold Uf;omega) ?_ (show(6:Int)<=7 by decide) (λm hm R=>?_)
  .have:tkT N (.l1 (31,0) a)=xn ([nm (dU 31),sy 40]++itT N a++[sy 41]):=rfl;rw[this,gU,gU];rfl
  .obtain⟨m,rfl⟩:∃q,m=q+1:=⟨m -1,o5⟩;exact b2A o5 (h.E _ (PG R 1) m o5)
 .rw[v0 o5]at hz hsz call ⊢;refine call (tkT N a) (by unfold Uf;omega) ?_ (show(6:Int)<=7 by decide) (λm hm R=>?_)
  .have:tkT N (.l1 (32,0) a)=xn ([nm (dU 32),sy 40]++itT N a++[sy 41]):=rfl;rw[this,gU,gU];rfl
  .obtain⟨m,rfl⟩:∃q,m=q+1:=⟨m -1,o5⟩;exact b2A o5 (h.E _ (PG R 1) m o5)
 .have hg:=Et (n:=(33,v)) (l:=N.2.1) rfl hz;refine call ((1,gtN N.2.1 v,0)::(7,[44],0)::tkT N a) (by unfold Uf;omega) ?_ (show(6:Int)<=7 by decide) (λm hm R=>?_)
  .have:tkT N (.l1 (33,v) a)=xn ([nm (dU 33),sy 40,nm (gtN N.2.1 v),sy 44,none]++itT N a++[sy 41]):=rfl;rw[this,gU,gU];rfl
  .obtain⟨m,rfl⟩:∃q,m=q+1:=⟨m -1,o5⟩;exact b6R hN hg (h.E _ (PG R 1) m o5)
 .refine call ((1,gtN N.2.1 (dA .i64 v 8),0)::(7,[44],0)::(tkT N a++[(7,[44],0),(1,kP (jc v 8),0)])) (by unfold Uf;omega) ?_ (show(6:Int)<=7 by decide) (λm hm R=>?_)
  .have:tkT N (.l1 (34,v) a)=xn ([nm (dU 34),sy 40,nm (gtN N.2.1 (dA .i64 v 8)),sy 44,none]++itT N a++[sy 44,none,nm (kP (jc v 8)),sy 41]):=rfl;rw[this,gU,gU];show _::_::(_::_::(xn (itT N a))++[_,_,_])=_;unfold tkT;simp
  .obtain⟨m,rfl⟩:∃q,m=q+1:=⟨m -1,o5⟩;exact b3E hN hI hz (h.E _ (TL _ 1) m o5)
theorem b6u(hN:NmD N){a b:XT}(ha:arF n.1=2)(hI:jh n.2)(hz:flS n N=0)(h:TrOk T E N a)(g:TrOk T E N b):TrOk T E N (.l2 n a b):=by
 obtain⟨k,v⟩:=n;have hsz:(XT.l2 (k,v) a b).size=a.size+b.size+1:=rfl;have call:∀(W:List X4),Uf k->tkT N (.l2 (k,v) a b)=(1,dU k,0)::(7,[40],0)::(W++[(7,[41],0)])->6<=(txT N (.l2 (k,v) a b)).2->(∀m,10*a.size+10*b.size+3<=m->∀R,COk T E N m k W (a.post++b.post++[(k,v)]) ((7,[41],0)::R))->TrOk T E N (.l2 (k,v) a b):=by
  intro W hk e hc hC;have hh:hd3 (tkT N (.l2 (k,v) a b))=(1,dU k,0):=by rw[e];rfl
  refine CV (by rw[e];simp) ?_ ?_ ?_ hc (λ_=>by rw[hh];rfl) (λR hR m hm=>?_)
  .rw[hh];rcases hk with rfl|rfl|rfl|rfl|rfl|rfl|rfl|rfl|rfl|rfl|rfl|rfl|rfl|rfl|rfl|rfl|rfl|rfl<;>decide
  .rw[hh];rintro⟨h,-⟩;exact absurd (show(1:Int)=7 from h) C9
  .rw[hh];rcases hk with rfl|rfl|rfl|rfl|rfl|rfl|rfl|rfl|rfl|rfl|rfl|rfl|rfl|rfl|rfl|rfl|rfl|rfl<;>decide
  .rw[hsz]at hm;obtain⟨m,rfl⟩:∃q,m=q+1:=⟨m -1,o5⟩;rw[e];exact Yo hk (hC m o5 R)
 by_cases h1:k=17\/k=18\/k=27\/k=28\/k=29\/k=30
 .have hv:v=0:=Ol (k:=k) (by rw[show arF k=2 from ha];decide) (by rcases h1 with rfl|rfl|rfl|rfl|rfl|rfl<;>decide) hz;subst hv;have hb:SE k=true:=by rcases h1 with rfl|rfl|rfl|rfl|rfl|rfl<;>rfl
  refine call (tkT N a++(7,[44],0)::tkT N b) (by unfold Uf;omega) ?_ ?_ (λm hm R=>?_)
  .have:tkT N (.l2 (k,0) a b)=xn ([nm (dU k),sy 40]++itT N a++[sy 44,none]++itT N b++[sy 41]):=by
    show xn (JU (k,0) (itT N a) (txT N a).2 (itT N b) (txT N b).2)=_;unfold JU;rw[hb];rfl
   rw[this,gU,gU,gU,gU];show _::_::_=_;unfold tkT;simp;rfl
  .show 6<=(Ih (k,0) (txT N a) (txT N b)).2;unfold Ih;rw[hb];simp[l7]
  .obtain⟨m,rfl⟩:∃q,m=q+1:=⟨m -1,o5⟩;exact b6S h1 (h.E _ (TL _ 1) m o5) (g.E _ (PG R 1) m o5)
 by_cases h2:k=14\/k=15\/k=16
 .have hb:SE k=false/\WZ k=true:=by rcases h2 with rfl|rfl|rfl<;>exact⟨rfl,rfl⟩
  refine call (tkT N a++(7,[44],0)::(tkT N b++[(7,[44],0),(1,kP v,0)])) (by unfold Uf;omega) ?_ ?_ (λm hm R=>?_)
  .have:tkT N (.l2 (k,v) a b)=xn ([nm (dU k),sy 40]++itT N a++[sy 44,none]++itT N b++[sy 44,none,nm (kP v),sy 41]):=by
    show xn (JU (k,v) (itT N a) (txT N a).2 (itT N b) (txT N b).2)=_;unfold JU;rw[hb.1,hb.2];rfl
   rw[this,gU,gU,gU,gU];show _::_::_=_;unfold tkT;simp;rfl
  .show 6<=(Ih (k,v) (txT N a) (txT N b)).2;unfold Ih;rw[hb.1,hb.2];simp[l7]
  .obtain⟨m,rfl⟩:∃q,m=q+1:=⟨m -1,o5⟩;have hC:=b6Q (T:=T) (E:=E) (N:=N) (R:=(7,[41],0)::R) h2 (a6Y h2 hz) (h.E _ (TL _ 1) m o5) (g.E _ (TL _ 1) m o5);exact hC
 have hk:a4T k:=by have:=ar2 ha;unfold a4T;omega
 have hv:v=0:=Ol (k:=k) (by rw[show arF k=2 from ha];decide) (by rcases hk with rfl|rfl|rfl|rfl|rfl|rfl|rfl|rfl|rfl<;>decide) hz;subst hv;have hb:SE k=false/\WZ k=false:=by rcases hk with rfl|rfl|rfl|rfl|rfl|rfl|rfl|rfl|rfl<;>exact⟨rfl,rfl⟩
 have hsy:1<=(kw k).2/\(kw k).2<=5:=by rcases hk with rfl|rfl|rfl|rfl|rfl|rfl|rfl|rfl|rfl<;>decide
 have hcl:(txT N (.l2 (k,0) a b)).2=(kw k).2:=by show(Ih (k,0) (txT N a) (txT N b)).2=_;unfold Ih;rw[hb.1,hb.2];rfl
 generalize hle:(l7 (D8 (kw k).2 3) 4 (kw k).2:Int)=le;have hle1:(kw k).2<=le/\((kw k).2=3->le=4)/\((kw k).2≠3->le=(kw k).2):=by
  rw[←hle];by_cases h3:(kw k).2=3
  .rw[O7 h3];exact⟨by rw[h3];decide,λ_=>rfl,λh=>absurd h3 h⟩
  .rw[O5 h3];exact⟨by simp[l7],λh=>absurd h h3,λ_=>rfl⟩
 have e:tkT N (.l2 (k,0) a b)=tkW N a le++opK k::tkW N b ((kw k).2+1):=by
  have:tkT N (.l2 (k,0) a b)=xn (wiI (itT N a) (txT N a).2 le++[none,some (opK k),none]++wiI (itT N b) (txT N b).2 ((kw k).2+1)):=by show xn (JU (k,0) (itT N a) (txT N a).2 (itT N b) (txT N b).2)=_;unfold JU;rw[hb.1,hb.2,hle];rfl
  rw[this,gU,gU];unfold tkW;rw[E9];rfl
 have hne:=b0g a h le;have hhd:hd3 (tkT N (.l2 (k,0) a b))=hd3 (tkW N a le):=by
  rw[e];cases hq:tkW N a le with
  |nil=>exact absurd hq hne|cons x y=>rfl
 have nif:¬((hd3 (tkT N (.l2 (k,0) a b))).1=1/\(hd3 (tkT N (.l2 (k,0) a b))).2.1=[105,102]):=by
  rw[hhd,Wq];by_cases h6:le<=(txT N a).2
  .rw[Y5 h6,o6];exact h.nif o5
  .rw[dY o5,o7];rintro⟨h,-⟩;exact absurd (show(7:Int)=1 from h) C9
 have hL:∀R,Fe R ((kw k).2+1)->∀c,1<=c->c<=(kw k).2->∀m,10*(a.size+b.size+1)<=m->LOk T E N m c (tkT N (.l2 (k,0) a b)) (XT.l2 (k,0) a b).post (gT (kw k).2) R:=by
  intro R hR c hc1 hc2 m hm;obtain⟨ga,hA,hga⟩:=c2s h (c:=c) (c' :=le) hc1 o5 (R:=opK k::(tkW N b ((kw k).2+1)++R)) (.inr ⟨k,hk,rfl⟩) (.inr ⟨k,hk,rfl,o5⟩) (m:=m) o5;have hB:=c4C g (c:=(kw k).2+1) o5 hR (m:=m) o5;have:=b7c hk hA hB hc2 (by
   rcases hga with rfl|⟨q1,q2,rfl⟩
   .omega
   .unfold gT;rw[dF o5,o6];by_cases h3:(txT N a).2=3
    .rw[O7 h3,o7];by_cases h4:(kw k).2=3
     .have:=hle1.2.1 h4;omega
     .have:=hle1.2.2 h4;omega
    .rw[O5 h3,o6];omega)
  rw[e];have hg:gT (kw k).2=l7 (D8 (kw k).2 3) 2 (kw k).2:=by unfold gT;rw[dF o5,o6]
  rw[hg];exact this
 refine⟨by rw[e];simp,λ_=>nif,λh6=>by rw[hcl]at h6;omega,λh6=>by rw[hcl]at h6;omega,λh5 R hR c hc1 hc2 m hm=>?_,λR hR m hm=>c2k (by rw[e];simp) nif (by rw[hcl];omega) hR o5 ?_⟩
 .rw[hcl]at hR hc2 ⊢;rw[hsz]at hm;exact hL R hR c hc1 hc2 m hm
 .rw[hcl];rw[hsz]at hm;exact hL R (NI hR o5) 1 o5 o5 (m -2) o5
theorem c2l{a b c:XT}(ha:arF n.1=3)(hz:flS n N=0)(h:TrOk T E N a)(g:TrOk T E N b)(f:TrOk T E N c):TrOk T E N (.l3 n a b c):=by
 obtain⟨k,v⟩:=n;have hk:k=26:=ar3 ha;subst hk;have hv:v=0:=Ol (k:=26) C9 C9 hz;subst hv;have e:tkT N (.l3 (26,0) a b c)=(1,[105,102],0)::(tkT N a++(1,[116,104,101,110],0)::(tkT N b++(1,[101,108,115,101],0)::tkT N c)):=by have:tkT N (.l3 (26,0) a b c)=xn ([nm [105,102],none]++itT N a++[none,nm [116,104,101,110],none]++itT N b++[none,nm [101,108,115,101],none]++itT N c):=rfl;rw[this,gU,gU,gU,gU,gU];show _::_=_;unfold tkT;simp;rfl
 refine⟨by rw[e];simp,λh6=>absurd (show(1:Int)<=0 from h6) C9,λh6=>absurd (show(6:Int)<=0 from h6) C9,λh6=>absurd (show(6:Int)<=0 from h6) C9,λ_ R hR c' h1 h2=>by have:c' <=(0:Int):=h2;omega,λR hR m hm=>?_⟩;rw[show(XT.l3 (26,0) a b c).size=a.size+b.size+c.size+1 from rfl]at hm;obtain⟨m,rfl⟩:∃q,m=q+1:=⟨m -1,o5⟩;rw[e];exact c2E (h.E _ (.inl (.inr (.inr (.inr (.inl rfl))))) m o5) (g.E _ (.inl (.inr (.inr (.inr (.inr rfl))))) m o5) (f.E R hR m o5)
theorem NS(hN:NmD N):∀(t:XT),t.wf->(∀n∈t.post,jh n.2)->(∀n∈t.post,flS n N=0)->TrOk T E N t
 | .l0 n,hw,hI,hz=>b2m hN hw (hI n (by simp[XT.post])) (hz n (by simp[XT.post]))| .l1 n a,hw,hI,hz=>b6t hN hw.1 (hI n (by simp[XT.post])) (hz n (by simp[XT.post])) (NS hN a hw.2 (λm hm=>hI m (by simp[XT.post,hm])) (λm hm=>hz m (by simp[XT.post,hm])))| .l2 n a b,hw,hI,hz=>b6u hN hw.1 (hI n (by simp[XT.post])) (hz n (by simp[XT.post])) (NS hN a hw.2.1 (λm hm=>hI m (by simp[XT.post,hm])) (λm hm=>hz m (by simp[XT.post,hm]))) (NS hN b hw.2.2 (λm hm=>hI m (by simp[XT.post,hm])) (λm hm=>hz m (by simp[XT.post,hm])))| .l3 n a b c,hw,hI,hz=>c2l hw.1 (hz n (by simp[XT.post])) (NS hN a hw.2.1 (λm hm=>hI m (by simp[XT.post,hm])) (λm hm=>hz m (by simp[XT.post,hm]))) (NS hN b hw.2.2.1 (λm hm=>hI m (by simp[XT.post,hm])) (λm hm=>hz m (by simp[XT.post,hm]))) (NS hN c hw.2.2.2 (λm hm=>hI m (by simp[XT.post,hm])) (λm hm=>hz m (by simp[XT.post,hm])))
end
theorem ZW:∀(L:List It) (R:List UInt8),WSR L R->L.length<=(bZ L).length
 |[],_,_=>by simp|none::L,R,h=>by have:=ZW L R h.2;simp[bZ];exact this|some k::L,R,h=>by have:=ZW L R h.2.2;obtain⟨c,t,e,-⟩:=h.1.ne;simp[bZ,e];omega
theorem a7O{e:List (Int×Int)}{s:List UInt8}(hN:NmOk N)(hD:NmD N)(hI:∀n∈e,jh n.2)(h:Bg e N=(s,0))(hs:s.length<=65536):tK s N=some (e,0,0):=by
 have hf:=a1G hN hI;have hfS:=h;unfold Bg at h;cases hst:oK e with
 |inl x=>rw[hst]at h;simp only at h;exact absurd (congrArg (λq:List UInt8×Int=>q.2) h) (BD hst)|inr t=>
  rw[hst]at h;simp only at h;obtain⟨hp,h48⟩:=rY hst;have hw:=Gj hst;cases hff:D8 (ffS N e) 0 with
  |false=>rw[hff,o6]at h;exact absurd (congrArg (λq:List UInt8×Int=>q.2) h) (wQ.1 hff)|true=>
   rw[hff,o7]at h;have hsx:s=(txT N t).1:=(congrArg (λq:List UInt8×Int=>q.1) h).symm;have hIt:∀n∈t.post,jh n.2:=by rw[←hp];exact hI
   have hzt:∀n∈t.post,flS n N=0:=by rw[←hp];exact YG (iK.1 hff)
   have hfl:=Cj t hw hIt hzt;have hws:=Ou hD.id t hw hIt hzt;have hsf:s=bZ (itT N t):=hsx.trans hfl.symm;have hW:=hws.ws [] a3H;have hlen:=ZW _ _ hW;have htk:=a0X (L:=itT N t) (by rw[←hsf];exact hs) hW (c2j hws.st) (by rw[←hsf]at hlen;omega);rw[←hsf]at htk;have hpl:=a5M (itT N t) 0;have htl:(xn (itT N t)).length<=(itT N t).length:=by unfold xn;exact List.length_filterMap_le _ _
   rw[←hsf]at hlen;have hAt:At3 (xR 0 (itT N t)) 0 (tkT N t++[]):=by refine⟨?_,o5,o5⟩;rw[bi,E5];exact Ez (itT N t) 0
   have hsz:t.size<=48:=by rw[←t.post_len,←hp];exact h48
   have hE:=(NS (T:=xR 0 (itT N t)) (E:=x8 s) hD t hw hIt hzt).E [] (.inl (.inl rfl)) aG (by unfold aG;omega) 0 [] hAt (by simp only[G9,t.post_len];omega);unfold tK;rw[htk,o9];simp only[O7 (rfl:(0:Int)=0),E8,o6];rw[show qL (xR 0 (itT N t),0,x8 s,N,[],0,0)=_ from hE,o9];simp only[o7];rw[Y5 (show x8 (xR 0 (itT N t))<=((0+(tkT N t).length:Nat):Int) by unfold x8 tkT;rw[hpl];omega),o6,o9];simp only[O7 (rfl:(0:Int)=0),E8,o6,G7];rw[←hp];unfold Bf;rw[Ic];unfold Ba;rw[hst];simp only[o9,O7 (rfl:(0:Int)=0),E8,o6];rw[hf,hfS,o9];simp only[O7 (rfl:(0:Int)=0),E8,o6];rw[show seq s s=true from pI.2 rfl];rfl
theorem b2G{ρ:Type}{n:Nat}{p:Nat->Option ρ}(h:∀r,dV n p≠some r):∀i,i<n->p i=none:=by
 cases hf:dV n p with
 |some r=>exact absurd hf (h r)|none=>exact rD hf
theorem a3y{k i:Int}{r:Int×Int}(h:MS k i r=none):r.1=0:=by
 unfold MS at h;cases he:D8 r.1 0<;>rw[he]at h
 .cases h
 .exact iK.1 he
variable {l:Z7}{j:Nat}
theorem Wy(h:(jA l).1=0){e:U6}(he:l.1[j]? =some e):iU e.1=true/\(∀x∈l.1.take j,x.1≠e.1)/\e.2.length<=16/\∀(i:Nat) m,e.2[i]? =some m->iU m=true/\∀x∈e.2.take i,x≠m:=by
 unfold jA at h;cases h1:D8 (Ae l).1 0<;>rw[h1]at h
 .simp only[o6]at h;rw[O7 h]at h1;cases h1
 have h1:=iK.1 h1;unfold Ae at h1;cases h2:I9 8 (x8 l.1)<;>rw[h2]at h1
 case true=>exact absurd (show(4:Int)=0 from h1) C9
 simp only[o6]at h1;have hn:=b2G (n:=l.1.length) (p:=Oh l) (λr hf=>by
  rw[hf]at h1;obtain⟨j,_,hj⟩:=mG hf;unfold Oh at hj;split at hj
  .exact KG hj h1
  .cases hj) j (ai.1 he).1
 unfold Oh at hn;rw[he]at hn;have hz:=a3y hn;unfold Xm at hz;cases g1:iU e.1<;>rw[g1]at hz
 .exact absurd (show(2:Int)=0 from hz) C9
 cases g2:zX l 1 j e.1<;>rw[g2]at hz
 case true=>exact absurd (show(7:Int)=0 from hz) C9
 cases g3:D8 (x8 e.2) 0<;>rw[g3]at hz
 case true=>exact absurd (show(5:Int)=0 from hz) C9
 cases g4:I9 16 (x8 e.2)<;>rw[g4]at hz
 case true=>exact absurd (show(4:Int)=0 from hz) C9
 simp only[o7,o6]at hz;have hmem:∀i<e.2.length,SN e.2 i=none:=by
  intro i hi;cases hf:(List.range e.2.length).findSome? (SN e.2)with
  |none=>exact List.findSome?_eq_none_iff.1 hf i (fU.2 hi)|some r=>
   exfalso;rw[hf]at hz;obtain⟨q,_,hq⟩:=List.exists_of_findSome?_eq_some hf;unfold SN at hq;cases hv:e.2[q]? with
   |none=>rw[hv]at hq;cases hq|some x=>
    rw[hv]at hq;simp only at hq;cases k1:iU x<;>rw[k1]at hq
    .cases hq;exact absurd (show(2:Int)=0 from hz) C9
    .cases k2:(e.2.take q).any λy=>seq x y<;>rw[k2]at hq
     .cases hq
     .cases hq;exact absurd (show(7:Int)=0 from hz) C9
 refine⟨rfl,λx hx e2=>?_,gG (n:=16) g4,λi m hm=>?_⟩
 .unfold zX at g2;simp only[dh]at g2;exact g2 x hx (pI.2 e2)
 have hi:=(ai.1 hm).1;have hp:=hmem i hi;unfold SN at hp;rw[hm]at hp;simp only at hp;cases k1:iU m<;>rw[k1]at hp
 .cases hp
 cases k2:(e.2.take i).any λy=>seq m y<;>rw[k2]at hp
 .refine⟨rfl,λx hx e=>?_⟩;have:=dh.1 k2 x hx;exact this (pI.2 e.symm)
 .cases hp
theorem b0o(h:(jA l).1=0){t:ax}(ht:l.2.1[j]? =some t):iU t.1=true/\∀x∈l.2.1.take j,x.1≠t.1:=by
 unfold jA at h;cases h1:D8 (Ae l).1 0<;>rw[h1]at h
 .simp only[o6]at h;rw[O7 h]at h1;cases h1
 cases h2:D8 (yD l).1 0<;>rw[h2]at h
 .simp only[o7,o6]at h;rw[O7 h]at h2;cases h2
 have h2:=iK.1 h2;unfold yD at h2;cases h3:I9 8 (x8 l.2.1)<;>rw[h3]at h2
 case true=>exact absurd (show(4:Int)=0 from h2) C9
 simp only[o6]at h2;have hn:=b2G (n:=l.2.1.length) (p:=Ie l) (λr hf=>by
  rw[hf]at h2;obtain⟨j,_,hj⟩:=mG hf;unfold Ie at hj;split at hj
  .exact KG hj h2
  .cases hj) j (ai.1 ht).1
 unfold Ie at hn;rw[ht]at hn;have hz:=a3y hn;unfold ZN at hz;cases g1:iU t.1<;>rw[g1]at hz
 .exact absurd (show(2:Int)=0 from hz) C9
 cases g2:zX l 2 j t.1<;>rw[g2]at hz
 case true=>exact absurd (show(7:Int)=0 from hz) C9
 refine⟨rfl,λx hx e=>?_⟩;unfold zX at g2;simp only[aX,dh]at g2;exact g2.2 x hx (pI.2 e)
variable {en:List U6}
theorem C_{f:dL}{a b:List dL}(h:ER en f a b=0):iU f.1=true/\(∀x∈a,x.1≠f.1)/\∀x∈b,x.1≠f.1:=by
 unfold ER at h;cases g1:iU f.1<;>rw[g1]at h
 .exact absurd (show(2:Int)=0 from h) C9
 cases g2:(a.any λx=>seq x.1 f.1)<;>rw[g2]at h
 case true=>exact absurd (show(7:Int)=0 from h) C9
 cases g3:(b.any λx=>seq x.1 f.1)<;>rw[g3]at h
 case true=>exact absurd (show(7:Int)=0 from h) C9
 rw[dh]at g2 g3;exact⟨rfl,λx hx e=>g2 x hx (pI.2 e),λx hx e=>g3 x hx (pI.2 e)⟩
theorem KF{c e:Int}(h:UC c e=none):c=0:=by
 unfold UC at h;cases he:D8 c 0<;>rw[he]at h
 .cases h
 .exact iK.1 he
variable {s:J8}{i:Nat}
theorem TP(h:(jA l).1=0)(hs:l.2.2[i]? =some s):(∀(j:Nat) f,s.2.2.1[j]? =some f->iU f.1=true/\∀x∈s.2.2.1.take j,x.1≠f.1)/\∀(j:Nat) f,s.2.2.2.1[j]? =some f->iU f.1=true/\(∀x∈s.2.2.1,x.1≠f.1)/\∀x∈s.2.2.2.1.take j,x.1≠f.1:=by
 have hp:=(Yh h hs).2;unfold QG at hp;cases h1:zl l s with
 |some q=>rw[h1]at hp;exact absurd hp (Ji h1)|none=>
  unfold zl at h1;cases h2:dV s.2.2.1.length (inP l s)with
  |some q=>rw[h2]at h1;cases h1|none=>
   rw[h2]at h1;refine⟨λj f hf=>?_,λj f hf=>?_⟩
   .have hn:=rD h2 j (ai.1 hf).1;unfold inP at hn;rw[hf]at hn;have:=C_ (KF hn);exact⟨this.1,this.2.1⟩
   .have hn:=rD h1 j (ai.1 hf).1;unfold t_ at hn;rw[hf]at hn;exact C_ (KF hn)
variable {r:aH}{k:Nat}
theorem b0m(h:(jA l).1=0)(hs:l.2.2[i]? =some s)(hr:s.2.2.2.2[k]? =some r):iU r.1=true/\∀q∈s.2.2.2.2.take k,q.1≠r.1:=by
 have he:=WB h hs hr;unfold PH at he;cases g1:iU r.1<;>rw[g1]at he
 .exact absurd (show(2:Int)=0 from he) C9
 simp only[o7]at he;cases g2:(s.2.2.2.2.take k).any λx=>seq x.1 r.1<;>rw[g2]at he
 case true=>exact absurd (show(7:Int)=0 from he) C9
 rw[dh]at g2;exact⟨rfl,λq hq e=>g2 q hq (pI.2 e)⟩
variable {α:Type}{w:List UInt8}
theorem Cm{g:α->List UInt8}{l:List α}(h:(l.map g)[j]? =some w)(H:∀a,l[j]? =some a->∀x∈l.take j,g x≠g a):∀x∈(l.map g).take j,x≠w:=by
 rw[eF]at h;cases ha:l[j]? with
 |none=>rw[ha]at h;cases h|some a=>rw[ha]at h;cases h;intro x hx;rw[←List.map_take]at hx;obtain⟨y,hy,rfl⟩:=X7.1 hx;exact H a ha y hy
theorem mW{l:List α}{a:α}(h:a∈l):∃j:Nat,l[j]? =some a:=by obtain⟨j,hj,e⟩:=eQ h;exact⟨j,by rw[sF hj,e]⟩
theorem a7w(hv:(jA l).1=0)(h:NmL l)(hs:s∈l.2.2):NmD (nmS l s):=by
 obtain⟨i,hi⟩:=mW hs;obtain⟨f1,f2⟩:=TP hv hi;obtain⟨s1,s2,s3,s4,s5,s6⟩:=h.s s hs;have hmem:(nmS l s).2.2.2.2=[]\/∃q,q∈l.2.2/\(nmS l s).2.2.2.2=q.2.2.2.1.map (·.1):=by
  unfold nmS;cases U2 0 s.2.1
  .exact .inl rfl
  .simp only[o7];cases hq:O0 l.2.2 s.2.1 with
   |none=>exact .inl rfl|some q=>exact .inr ⟨q,ww hq,rfl⟩
 refine⟨⟨λe he=>?_,λx hx=>?_,λx hx=>?_,λx hx=>?_,λx hx=>?_⟩,?_,λj e he=>?_,λj w hw=>?_,λj w hw=>?_,λj w hw=>?_,λj w hw=>?_⟩
 .obtain⟨j,hj⟩:=mW (show e∈l.1 from he);obtain⟨a,b,c,d⟩:=Wy hv hj;refine⟨a,λm hm=>?_⟩;obtain⟨i,hi⟩:=mW hm;exact(d i m hi).1
 .obtain⟨t,ht,rfl⟩:=X7.1 (show x∈l.2.1.map (·.1)from hx);obtain⟨j,hj⟩:=mW ht;exact(b0o hv hj).1
 .obtain⟨t,ht,rfl⟩:=X7.1 (show x∈s.2.2.1.map (·.1)from hx);obtain⟨j,hj⟩:=mW ht;exact(f1 j t hj).1
 .obtain⟨t,ht,rfl⟩:=X7.1 (show x∈s.2.2.2.1.map (·.1)from hx);obtain⟨j,hj⟩:=mW ht;exact(f2 j t hj).1
 .rcases hmem with e|⟨q,hq,e⟩
  .rw[e]at hx;cases hx
  .rw[e]at hx;obtain⟨t,ht,rfl⟩:=X7.1 hx;obtain⟨k,hk⟩:=mW hq;obtain⟨j,hj⟩:=mW ht;exact((TP hv hk).2 j t hj).1
 .have h1:=h.ne;have h2:=h.nt;refine⟨by show l.1.length<=1000;omega,by show(l.2.1.map (·.1)).length<=1000;simp;omega,by show(s.2.2.1.map (·.1)).length<=1000;simp;omega,by show(s.2.2.2.1.map (·.1)).length<=1000;simp;omega,?_⟩;rcases hmem with e|⟨q,hq,e⟩
  .rw[e];simp
  .rw[e];have:=(h.s q hq).2.1;simp;omega
 .obtain⟨a,b,c,d⟩:=Wy hv (show l.1[j]? =some e from he);exact⟨b,o5,λk v hk=>(d k v hk).2⟩
 .exact Cm (show(l.2.1.map (·.1))[j]? =some w from hw) (λa ha=>(b0o hv ha).2)
 .exact Cm (show(s.2.2.1.map (·.1))[j]? =some w from hw) (λa ha=>(f1 j a ha).2)
 .refine⟨Cm (show(s.2.2.2.1.map (·.1))[j]? =some w from hw) (λa ha=>(f2 j a ha).2.2),λx hx=>?_⟩;have hw2:(s.2.2.2.1.map (·.1))[j]? =some w:=hw;rw[eF]at hw2;cases ha:s.2.2.2.1[j]? with
  |none=>rw[ha]at hw2;cases hw2|some a=>rw[ha]at hw2;cases hw2;obtain⟨t,ht,rfl⟩:=X7.1 (show x∈s.2.2.1.map (·.1)from hx);exact(f2 j a ha).2.1 t ht
 .rcases hmem with e|⟨q,hq,e⟩
  .rw[e]at hw;cases hw
  .rw[e]at hw ⊢;obtain⟨k,hk⟩:=mW hq;exact Cm hw (λa ha=>((TP hv hk).2 j a ha).2.2)
def jm:List (List UInt8)->List UInt8
 |[]=>[]|w::L=>w++10::jm L
theorem vN:∀A B:List (List UInt8),jm (A++B)=jm A++jm B
 |[],B=>rfl|w::A,B=>by rw[H7];simp only[jm];rw[vN A B];simp
def spF(a0:List UInt8)(x:List (List UInt8)×Int×List UInt8×Int):Option (Out (List (List UInt8)×Int×List UInt8×Int) (List (List UInt8)×Int) (List (List UInt8)×Int)):=
     l7 (I9 x.2.2.2 (x8 x.2.2.1))
      (l7 (D8 (uA x.2.2.1 x.2.2.2) 10)
       (l9 (fP a0 x.2.1 x.2.2.2) λ(x_1:List UInt8)=>
        l9 (dE x.1 [x_1]) λ(x_2:List (List UInt8))=>
         some (Out.nx (x_2,H8 IntKind.i64 x.2.2.2 1,x.2.2.1,yf x.2.2.1 x.2.2.2)))
       (l7 (D8 (uA x.2.2.1 x.2.2.2) 9) (some (Out.nx (x.1,x.2.1,x.2.2.1,yf x.2.2.1 x.2.2.2)))
        (l7 (U2 32 (uA x.2.2.1 x.2.2.2))
         (l7 (U2 (uA x.2.2.1 x.2.2.2) 126) (some (Out.nx (x.1,x.2.1,x.2.2.1,yf x.2.2.1 x.2.2.2)))
          (some (Out.rt ([],2))))
         (some (Out.rt ([],2))))))
      (some (Out.ex (x.1,x.2.1)))
theorem b7h{c:UInt8}(h:prB c=true):32<=c.toNat/\c.toNat<=126:=by unfold prB at h;simpa using h
theorem a4C{s:List UInt8}(hs:s.length<=65536)(acc:List (List UInt8))(st:Int):∀(w pre suf:List UInt8) (m:Nat),s=pre++w++suf->(∀c∈w,prB c=true)->gK (spF s) (m+w.length) (acc,st,s,(pre.length:Int))=gK (spF s) m (acc,st,s,((pre.length+w.length:Nat):Int))
 |[],pre,suf,m,h,hw=>rfl|c::w,pre,suf,m,h,hw=>by
  have hc:s[pre.length]? =some c:=by rw[h,E9,F5 (F7 _),Y9];rfl
  have hb:=b7h (hw c A7);obtain⟨r1,r2⟩:=Di hc o5;have st:spF s (acc,st,s,(pre.length:Int))=some (.nx (acc,st,s,((pre.length+1:Nat):Int))):=by unfold spF;simp only[U5 hc,o7,r1,r2];rw[O5 o5,o6,O5 o5,o6,Z4 o5,o7,Z4 o5,o7]
  rw[A8,show m+(w.length+1)=(m+w.length)+1 by omega,bG,st];have:=a4C hs acc ‹Int› w (pre++[c]) suf m (by rw[h];simp) (λd hd=>hw d (by simp[hd]));rw[show(pre++[c]).length=pre.length+1 by simp]at this;rw[show pre.length+(w.length+1)=pre.length+1+w.length by omega];exact this
theorem a0O{s:List UInt8}(hs:s.length<=65536):∀(L:List (List UInt8)) (pre:List UInt8) (acc:List (List UInt8)) (m:Nat),s=pre++jm L->(∀w∈L,∀c∈w,prB c=true)->acc.length<=pre.length->
  gK (spF s) (m+(jm L).length+1) (acc,(pre.length:Int),s,(pre.length:Int))=some (.inl (acc++L,(s.length:Int)))
 |[],pre,acc,m,h,hw,ha=>by rw[jm,E5]at h;subst h;rw[bG];unfold spF;simp only[Y6 s,o6];simp|w::L,pre,acc,m,h,hw,ha=>by
  have hl:=congrArg List.length h;simp only[jm,D6,A8]at hl;have h' :s=pre++w++10::jm L:=by rw[h];simp[jm]
  have h10:s[(pre.length+w.length)]? =some 10:=by rw[h',←D6,F5 (F7 _),Y9];rfl
  obtain⟨r1,r2⟩:=Di h10 C9;have st:spF s (acc,(pre.length:Int),s,((pre.length+w.length:Nat):Int))=some (.nx (acc++[w],((pre.length+w.length+1:Nat):Int),s,((pre.length+w.length+1:Nat):Int))):=by
   unfold spF;have hsub:fP s (pre.length:Int) ((pre.length+w.length:Nat):Int)=some w:=by rw[Tz o5 o5 o5,I7,I7,h',←D6,cZ,Y3]
   simp only[U5 h10,o7,r1,r2,O7 (show((10:UInt8).toNat:Int)=10 from rfl),hsub,o9];rw[zW _ o5,o9,eP o5]
  rw[show m+(jm (w::L)).length+1=(m+(jm L).length+1+1)+w.length by simp[jm];omega,a4C hs acc _ w pre (10::jm L) _ h' (hw w A7),bG,st];have:=a0O hs L (pre++w++[10]) (acc++[w]) m (by rw[h'];simp) (λv hv=>hw v (by simp[hv])) G8;simp only[D6,mM]at this;simp only;rw[this];simp
theorem PO{L:List (List UInt8)}(hs:(jm L).length<=65536)(hw:∀w∈L,∀c∈w,prB c=true):gY (jm L)=some (L,0):=by
 unfold gY;rw[Y5 (show x8 (jm L)<=65536 by unfold x8;omega),o6];cases L with
 |nil=>rfl|cons w L=>rw[show seq (jm (w::L)) []=false from qX.2 (by simp[jm]),o6];have:=a0O hs (w::L) [] [] (aG -(jm (w::L)).length -1) rfl hw A7;rw[show aG -(jm (w::L)).length -1+(jm (w::L)).length+1=aG by unfold aG;omega]at this;refine X3 (show P7 (spF (jm (w::L))) ([],0,jm (w::L),0)=_ from this) ?_;rw[o9,Y2];rw[show D8 ((([]++w::L,(((jm (w::L)).length:Nat):Int)):List (List UInt8)×Int)).2 (x8 (jm (w::L)))=true from O7 rfl];rfl
theorem a6F(p x:List UInt8)(hl:(p++x).length<=1000000000):pM (p++x) p=some (x,true):=by
 unfold pM pz kW Lib.hasPrefix;have e:p.isPrefixOf (p++x)=true:=by rw[jH];exact List.prefix_append _ _
 rw[e,o9,E8,o6,qF (by unfold x8;omega) (by unfold x8;simp;omega),o9,o9];congr 2;unfold x8;rw[I7,Y3]
theorem a3L:∀(a b:List UInt8) (c:UInt8),(∀x∈a,x≠c)->Lib.indexByte (a++c::b) c=(a.length:Int)
 |[],b,c,h=>by simp[Lib.indexByte]|x::a,b,c,h=>by
  have ih:=a3L a b c (λy hy=>h y (by simp[hy]));have hx:=h x A7;rw[H7];unfold Lib.indexByte;rw[ih];have:(x==c)=false:=by simpa using hx
  rw[this];simp only[fK,if_false];have h2:(((a.length:Nat):Int)==-1)=false:=by rw[beq_eq_false_iff_ne];omega
  rw[h2];simp
theorem a1N(h:iU w=true):∀x∈w,x≠32:=by
 cases w with
 |nil=>cases h|cons c r=>rw[Aj]at h;simp only[D5]at h;intro x hx e;have:=ae.1 h.1.2 x hx;rw[e]at this;revert this;decide
theorem Ip(h:iU w=true):∀x∈w,prB x=true:=by
 cases w with
 |nil=>cases h
 |cons c r=>rw[Aj]at h;simp only[D5]at h;exact λx hx=>a4J (ae.1 h.1.2 x hx)
theorem Om{σ ρ ε α:Type}(l:List α)(p:α->Bool)(mk:Nat->σ)(g:Nat->ρ)(hl:l.length<=1000000){f:σ->Option (Out σ ε ρ)} (h1:∀(i:Nat) (a:α),l[i]? =some a->f (mk i)=some (l7 (p a) (.rt (g i)) (.nx (mk (i+1))))):
  ∀(j:Nat) (a:α),l[j]? =some a->p a=true->(∀x∈l.take j,p x=false)->P7 f (mk 0)=some (.inr (g j)):=by
 intro j a ha hpa hp;have hj:=(ai.1 ha).1;have step:∀(i k:Nat),i<=j->gK f (k+(j -i)) (mk i)=gK f k (mk j):=by
  intro i k hij;induction h:j -i generalizing i k with
  |zero=>rw[show i=j by omega];rfl|succ n ih=>
   have hi:i<l.length:=o5;have hg:=sF hi;have:=h1 i _ hg;rw[hp l[i] (by rw[List.mem_take_iff_getElem];exact⟨i,o5,rfl⟩),o6]at this
   rw[show k+(n+1)=(k+n)+1 by omega,bG,this];exact ih (i+1) k o5 o5
 have:=step 0 (aG -j) o5;rw[show aG -j+(j -0)=aG by unfold aG;omega]at this;unfold P7;rw[this,show aG -j=(aG -j -1)+1 by unfold aG;omega,bG,h1 j a ha,hpa];rfl
theorem Oe{l:List α}{a:α}{r:List α}(h:l.drop i=a::r):l[i]? =some a/\l.drop (i+1)=r:=by
 refine⟨?_,by rw[←V6,h];rfl⟩;have:(l.drop i)[0]? =some a:=by rw[h];rfl
 simpa using this
theorem b3I{e:List (Int×Int)}(hN:NmOk N)(hD:NmD N)(hI:∀n∈e,jh n.2)(h:(Bg e N).2=0):(Bg e N).1≠[]/\∀c∈(Bg e N).1,prB c=true:=by
 unfold Bg at h ⊢;cases hst:oK e with
 |inl x=>rw[hst]at h;exact absurd h (BD hst)|inr t=>
  rw[hst]at h;simp only at h ⊢;obtain⟨hp,h48⟩:=rY hst;have hw:=Gj hst;cases hff:D8 (ffS N e) 0 with
  |false=>rw[hff,o6]at h;exact absurd h (wQ.1 hff)|true=>
   simp only[o7];have hIt:∀n∈t.post,jh n.2:=by rw[←hp];exact hI
   have hzt:∀n∈t.post,flS n N=0:=by rw[←hp];exact YG (iK.1 hff)
   have hfl:=Cj t hw hIt hzt;have hws:=Ou hD.id t hw hIt hzt;rw[←hfl];refine⟨?_,a3g _ _ (hws.ws [] a3H)⟩;obtain⟨k,L',e1,hk⟩:=hws.st;obtain⟨c,r,e2,-⟩:=hk.ne;rw[e1];simp[bZ,e2]
theorem m_{b:Bool}{x y:Int}(h:l7 b x y=0)(hx:x≠0):b=false/\y=0:=by
 cases b
 .exact⟨rfl,h⟩
 .exact absurd h hx
theorem UJ{n:Nat}{p:Nat->Option (Int×Int×Int×Int)}{z:Int×Int×Int×Int}(h:(match dV n p with|some r=>r|none=>z).1=0)(hp:∀i r,p i=some r->r.1≠0):∀i,i<n->p i=none:=
 MW λr hf=>by rw[hf]at h;obtain⟨j,_,hj⟩:=mG hf;exact hp j r hj h
theorem b0p(h:(jA l).1=0):(Ae l).1=0:=by
 unfold jA at h;cases h1:D8 (Ae l).1 0<;>rw[h1]at h
 .exact h
 .exact iK.1 h1
theorem b3o(h:(jA l).1=0):(yD l).1=0:=by
 have h0:=b0p h;unfold jA at h;rw[O7 h0,o7]at h;cases h1:D8 (yD l).1 0<;>rw[h1]at h
 .exact h
 .exact iK.1 h1
structure EnV (l:Z7) (i:Nat) (e:U6):Prop where
 id:iU e.1=true
 tk:zX l 1 i e.1=false
 ne:e.2≠[]
 le:e.2.length<=16
 mem:∀j m,e.2[j]? =some m->iU m=true/\((e.2.take j).any λx=>seq m x)=false
theorem a6f(h:(jA l).1=0):l.1.length<=8/\∀i e,l.1[i]? =some e->EnV l i e:=by
 have h1:=b0p h;unfold Ae at h1;cases h2:I9 8 (x8 l.1)<;>rw[h2]at h1
 case true=>exact absurd (show(4:Int)=0 from h1) C9
 rw[o6]at h1;refine⟨by rw[oO]at h2;unfold x8 at h2;omega,λi e he=>?_⟩;have hn:=UJ h1 (λj r hj=>by
  unfold Oh at hj;split at hj
  .exact KG hj
  .cases hj) i (ai.1 he).1
 unfold Oh at hn;rw[he]at hn;have hz:=Xo hn;unfold Xm at hz;cases g1:iU e.1<;>rw[g1]at hz
 .exact absurd (show(2:Int)=0 from hz) C9
 cases g2:zX l 1 i e.1<;>rw[g2]at hz
 case true=>exact absurd (show(7:Int)=0 from hz) C9
 cases g3:D8 (x8 e.2) 0<;>rw[g3]at hz
 case true=>exact absurd (show(5:Int)=0 from hz) C9
 cases g4:I9 16 (x8 e.2)<;>rw[g4]at hz
 case true=>exact absurd (show(4:Int)=0 from hz) C9
 simp only[o7,o6]at hz;refine⟨g1,g2,λe0=>?_,by rw[oO]at g4;unfold x8 at g4;omega,λj m hm=>?_⟩
 .rw[e0]at g3;exact absurd g3 C9
 have hf:∀r,dV e.2.length (SN e.2)≠some r:=λr hf=>by
  have hz' :(match dV e.2.length (SN e.2)with|some r=>r|none=>(0,0)).1=0:=hz;rw[hf]at hz';obtain⟨q,_,hq⟩:=mG hf;unfold SN at hq;split at hq
  .rename_i m' _;cases a1:iU m'<;>rw[a1]at hq
   .cases hq;exact absurd (show(2:Int)=0 from hz') C9
   cases a2:(e.2.take q).any λx=>seq m' x<;>rw[a2]at hq
   .cases hq
   .cases hq;exact absurd (show(7:Int)=0 from hz') C9
  .cases hq
 have hj:=MW hf j (ai.1 hm).1;unfold SN at hj;rw[hm]at hj;simp only at hj;cases a1:iU m<;>rw[a1]at hj
 .cases hj
 cases a2:(e.2.take j).any λx=>seq m x<;>rw[a2]at hj
 .exact⟨rfl,rfl⟩
 .cases hj
structure RwV (t:ax) (en:List U6) (x:vU):Prop where
 dv:Fh x.1=true
 dn:x.1.1≠x.1.2
 lh:x.2.1<x.2.2.1
 lo:inB x.2.1 (bnd t.2.1 en)=true
 hi:inB (N8 .i64 x.2.2.1 1) (bnd t.2.1 en)=true
 n:inB x.2.2.2 (bnd t.2.2.1 en)=true
theorem b0q{t:ax}{x:vU}(h:NV x (bnd t.2.1 en) (bnd t.2.2.1 en)=false):RwV t en x:=by
 unfold NV at h;cases g1:Fh x.1<;>rw[g1]at h
 .cases h
 cases g2:D8 x.1.1 x.1.2<;>rw[g2]at h
 case true=>cases h
 cases g3:U2 x.2.2.1 x.2.1<;>rw[g3]at h
 case true=>cases h
 cases g4:inB x.2.1 (bnd t.2.1 en)<;>rw[g4]at h
 .cases h
 cases g5:inB (N8 .i64 x.2.2.1 1) (bnd t.2.1 en)<;>rw[g5]at h
 .cases h
 cases g6:inB x.2.2.2 (bnd t.2.2.1 en)<;>rw[g6]at h
 .cases h
 exact⟨g1,wQ.1 g2,Qs.1 g3,g4,g5,g6⟩
structure TbV (l:Z7) (i:Nat) (t:ax):Prop where
 id:iU t.1=true
 tk:zX l 2 i t.1=false
 le:t.2.2.2.length<=64
 vk:vty t.2.1 l.1=true
 vv:vty t.2.2.1 l.1=true
 rows:∀x∈t.2.2.2,RwV t l.1 x
theorem AQ(h:(jA l).1=0):l.2.1.length<=8/\∀i t,l.2.1[i]? =some t->TbV l i t:=by
 have h1:=b3o h;unfold yD at h1;cases h2:I9 8 (x8 l.2.1)<;>rw[h2]at h1
 case true=>exact absurd (show(4:Int)=0 from h1) C9
 rw[o6]at h1;refine⟨by rw[oO]at h2;unfold x8 at h2;omega,λi t he=>?_⟩;have hn:=UJ h1 (λj r hj=>by
  unfold Ie at hj;split at hj
  .exact KG hj
  .cases hj) i (ai.1 he).1
 unfold Ie at hn;rw[he]at hn;have hz:=Xo hn;unfold ZN at hz;cases g1:iU t.1<;>rw[g1]at hz
 .exact absurd (show(2:Int)=0 from hz) C9
 cases g2:zX l 2 i t.1<;>rw[g2]at hz
 case true=>exact absurd (show(7:Int)=0 from hz) C9
 have hc:(NR t l.1).2=0:=by
  cases g3:D8 (NR t l.1).2 0<;>rw[g3]at hz
  .exact hz
  .exact iK.1 g3
 unfold NR at hc;cases g4:I9 64 (x8 t.2.2.2)<;>rw[g4]at hc
 case true=>exact absurd (show(4:Int)=0 from hc) C9
 cases g5:vty t.2.1 l.1<;>rw[g5]at hc
 .exact absurd (show(8:Int)=0 from hc) C9
 cases g6:vty t.2.2.1 l.1<;>rw[g6]at hc
 .exact absurd (show(8:Int)=0 from hc) C9
 simp only[o7,o6]at hc;refine⟨g1,g2,by rw[oO]at g4;unfold x8 at g4;omega,g5,g6,λx hx=>?_⟩;obtain⟨j,hj,e1⟩:=eQ hx;have hf:∀r,dV t.2.2.2.length (VO t l.1)≠some r:=λr hf=>by
  have hc' :(match dV t.2.2.2.length (VO t l.1)with|some r=>r|none=>(0,0)).2=0:=hc;rw[hf]at hc';obtain⟨q,_,hq⟩:=mG hf;unfold VO at hq;split at hq
  .rename_i x' _;cases a1:NV x' (bnd t.2.1 l.1) (bnd t.2.2.1 l.1)<;>rw[a1]at hq
   .cases a2:(t.2.2.2.take q).any λy=>Du y x'<;>rw[a2]at hq
    .cases hq
    .cases hq;exact absurd (show(11:Int)=0 from hc') C9
   .cases hq;exact absurd (show(3:Int)=0 from hc') C9
  .cases hq
 have hj' :=MW hf j hj;unfold VO at hj';rw[sF hj,e1]at hj';simp only at hj';cases a1:NV x (bnd t.2.1 l.1) (bnd t.2.2.1 l.1)<;>rw[a1]at hj'
 .exact b0q a1
 .cases hj'
structure RuV (s:J8) (sg:S9) (k:Nat) (r:aH):Prop where
 id:iU r.1=true
 nm:((s.2.2.2.2.take k).any λx=>seq x.1 r.1)=false
 df:∃d,O0 s.2.2.2.1 r.2.1=some d/\UE r sg d.2=0
 pa:r.2.2.1=-1\/∃(p:Nat) (q:aH),r.2.2.1=(p:Int)/\p<k/\s.2.2.2.2[p]? =some q
 p0:0<=r.2.2.2.1
 p9:r.2.2.2.1<=9
 dv:Fh r.2.2.2.2.1=true
 dn:r.2.2.2.2.1.1≠r.2.2.2.2.1.2
 src:Tc r.2.2.2.2.2.2.2=true
theorem a2u{sg:S9}(h:PH s sg k r=0):RuV s sg k r:=by
 unfold PH at h;cases g1:iU r.1<;>rw[g1]at h
 .exact absurd (show(2:Int)=0 from h) C9
 cases g2:(s.2.2.2.2.take k).any λx=>seq x.1 r.1<;>rw[g2]at h
 case true=>exact absurd (show(7:Int)=0 from h) C9
 simp only[o7,o6]at h;cases g3:O0 s.2.2.2.1 r.2.1 with
 |none=>rw[g3]at h;exact absurd (show(6:Int)=0 from h) C9|some d=>
  rw[g3]at h;simp only at h;obtain⟨g4,h⟩:=m_ h C9;cases g5:I9 r.2.2.2.1 0<;>rw[g5]at h
  case true=>exact absurd (show(3:Int)=0 from h) C9
  cases g6:I9 9 r.2.2.2.1<;>rw[g6]at h
  case true=>exact absurd (show(3:Int)=0 from h) C9
  cases g7:Fh r.2.2.2.2.1<;>rw[g7]at h
  .exact absurd (show(3:Int)=0 from h) C9
  cases g8:D8 r.2.2.2.2.1.1 r.2.2.2.2.1.2<;>rw[g8]at h
  case true=>exact absurd (show(3:Int)=0 from h) C9
  cases g9:U2 8 (a1r (s.2.2.2.2.take k) r.2.1:Int)<;>rw[g9]at h
  case true=>exact absurd (show(4:Int)=0 from h) C9
  cases g10:Tc r.2.2.2.2.2.2.2<;>rw[g10]at h
  .exact absurd (show(2:Int)=0 from h) C9
  simp only[o7,o6]at h;refine⟨g1,g2,⟨d,g3,h⟩,?_,oO.1 g5,oO.1 g6,g7,wQ.1 g8,g10⟩;cases a1:D8 r.2.2.1 (-1)<;>rw[a1]at g4
  .rw[o6]at g4;cases a2:I9 r.2.2.1 0<;>rw[a2]at g4
   case true=>cases g4
   rw[o6]at g4;cases a3:U2 (k:Int) r.2.2.1<;>rw[a3]at g4
   case true=>cases g4
   rw[o6]at g4;have b2:=oO.1 a2;have b3:=Qs.1 a3;right;obtain⟨p,hp⟩:∃p:Nat,r.2.2.1=(p:Int):=⟨r.2.2.1.toNat,(gX b2).symm⟩;rw[hp,P5]at g4;cases hq:s.2.2.2.2[p]? with
   |none=>rw[hq]at g4;cases g4|some q=>exact⟨p,q,hp,Int.ofNat_lt.1 (by rw[hp]at b3;exact b3),hq⟩
  .exact .inl (iK.1 a1)
structure FdV (en:List U6) (f:dL) (a b:List dL):Prop where
 id:iU f.1=true
 a:(a.any λx=>seq x.1 f.1)=false
 b:(b.any λx=>seq x.1 f.1)=false
 ty:vty f.2 en=true
theorem Ro{f:dL}{a b:List dL}(h:ER en f a b=0):FdV en f a b:=by
 unfold ER at h;cases g1:iU f.1<;>rw[g1]at h
 .exact absurd (show(2:Int)=0 from h) C9
 cases g2:a.any λx=>seq x.1 f.1<;>rw[g2]at h
 case true=>exact absurd (show(7:Int)=0 from h) C9
 cases g3:b.any λx=>seq x.1 f.1<;>rw[g3]at h
 case true=>exact absurd (show(7:Int)=0 from h) C9
 cases g4:vty f.2 en<;>rw[g4]at h
 .exact absurd (show(8:Int)=0 from h) C9
 exact⟨g1,g2,g3,g4⟩
structure ScV (l:Z7) (i:Nat) (s:J8):Prop where
 id:iU s.1=true
 tk:zX l 3 i s.1=false
 mb:s.2.1=-1\/∃(p:Nat) (q:J8),s.2.1=(p:Int)/\p<i/\l.2.2[p]? =some q
 li:s.2.2.1.length<=12
 ld:s.2.2.2.1.length<=12
 ins:∀j f,s.2.2.1[j]? =some f->FdV l.1 f (s.2.2.1.take j) []
 defs:∀j f,s.2.2.2.1[j]? =some f->FdV l.1 f s.2.2.1 (s.2.2.2.1.take j)
 rules:∀k r,s.2.2.2.2[k]? =some r->RuV s (uT l s) k r
theorem oC(h:(jA l).1=0):l.2.2.length<=4/\∀i s,l.2.2[i]? =some s->ScV l i s:=by
 have h0:=h;refine⟨?_,λi s hs=>?_⟩
 .unfold jA at h;rw[O7 (b0p h0),o7,O7 (b3o h0),o7]at h;unfold Lh at h;cases h3:I9 4 (x8 l.2.2)<;>rw[h3]at h
  case true=>exact absurd (show(4:Int)=0 from h) C9
  rw[oO]at h3;unfold x8 at h3;omega
 have he:=a1a h hs;unfold EX at he;cases g1:iU s.1<;>rw[g1]at he
 .exact absurd (show(2:Int)=0 from he) C9
 cases g2:zX l 3 i s.1<;>rw[g2]at he
 case true=>exact absurd (show(7:Int)=0 from he) C9
 cases g3:Jt l i s.2.1<;>rw[g3]at he
 case true=>exact absurd (show(6:Int)=0 from he) C9
 cases g4:I9 12 (x8 s.2.2.1)<;>rw[g4]at he
 case true=>exact absurd (show(4:Int)=0 from he) C9
 cases g5:I9 12 (x8 s.2.2.2.1)<;>rw[g5]at he
 case true=>exact absurd (show(4:Int)=0 from he) C9
 simp only[o7,o6]at he;have hfs:zl l s=none:=by
  unfold QG at he;cases hf:zl l s with
  |none=>rfl|some q=>rw[hf]at he;exact absurd he (Ji hf)
 refine⟨g1,g2,?_,by rw[oO]at g4;unfold x8 at g4;omega,by rw[oO]at g5;unfold x8 at g5;omega,λj f hf=>?_,λj f hf=>?_,λk r hr=>a2u (WB h hs hr)⟩
 .unfold Jt at g3;cases a1:D8 s.2.1 (-1)<;>rw[a1]at g3
  .rw[o6]at g3;cases a2:I9 s.2.1 0<;>rw[a2]at g3
   case true=>cases g3
   rw[o6]at g3;cases a3:U2 (i:Int) s.2.1<;>rw[a3]at g3
   case true=>cases g3
   rw[o6]at g3;have b2:=oO.1 a2;have b3:=Qs.1 a3;right;obtain⟨p,hp⟩:∃p:Nat,s.2.1=(p:Int):=⟨s.2.1.toNat,(gX b2).symm⟩;rw[hp,P5]at g3;cases hq:l.2.2[p]? with
   |none=>rw[hq]at g3;cases g3|some q=>exact⟨p,q,hp,Int.ofNat_lt.1 (by rw[hp]at b3;exact b3),hq⟩
  .exact .inl (iK.1 a1)
 .unfold zl at hfs;have hin:dV s.2.2.1.length (inP l s)=none:=by
   cases hq:dV s.2.2.1.length (inP l s)with
   |none=>rfl|some q=>rw[hq]at hfs;cases hfs
  have hj:=rD hin j (ai.1 hf).1;unfold inP at hj;rw[hf]at hj;exact Ro (KF hj)
 .unfold zl at hfs;have hdf:dV s.2.2.2.1.length (t_ l s)=none:=by
   cases hq:dV s.2.2.1.length (inP l s)with
   |none=>rw[hq]at hfs;exact hfs|some q=>rw[hq]at hfs;cases hfs
  have hj:=rD hdf j (ai.1 hf).1;unfold t_ at hj;rw[hf]at hj;exact Ro (KF hj)
def spW(ws:List (List UInt8)):List UInt8:=ws.flatMap (λw=>32::w)
def lnS(first:List UInt8)(ws:List (List UInt8)):List UInt8:=first++spW ws++[10]
theorem vI(w:List UInt8)(ws:List (List UInt8)):spW (w::ws)=32::w++spW ws:=by simp[spW]
theorem a9W(ws:List (List UInt8))(w:List UInt8):spW (ws++[w])=spW ws++32::w:=by simp[spW]
theorem a4B(a b:List (List UInt8)):spW (a++b)=spW a++spW b:=by simp[spW]
theorem PN{B:Nat} :∀{ws:List (List UInt8)},(∀w∈ws,w.length<=B)->(spW ws).length<=ws.length*(B+1)
 |[],_=>by simp[spW]|w::ws,h=>by have h1:=PN (λv hv=>h v (U0 _ hv)) (ws:=ws);have h2:=h w A7;rw[vI];simp only[D6,A8,J6,au];omega
variable {ws:List (List UInt8)}
theorem GU{B:Nat}{f:List UInt8}(h:∀w∈ws,w.length<=B):(lnS f ws).length<=f.length+ws.length*(B+1)+1:=by have:=PN h;unfold lnS;simp;omega
theorem YX{B:Nat}(h:∀w∈ws,w.length<=B)(n:Nat):(spW (ws.take n)).length<=ws.length*(B+1):=by
 have h1:=PN (ws:=ws.take n) (λw hw=>h w (iT hw));have h2:(ws.take n).length<=ws.length:=by simp;omega
 exact aV h1 (F6 _ h2)
theorem Ew{f:List UInt8}(hf:f.length<=1000)(hl:ws.length<=1000)(h:∀w∈ws,w.length<=1000000):aB f ws=some (lnS f ws):=by
 unfold aB;refine wW ws (λb a=>b++(32::a)) (λb i=>(b,i)) id (λi b=>b=f++spW (ws.take i)) f o5 (by simp[spW]) (λi a b ha hi hb=>?_) (λb hb=>?_) ?_
 .have hlt:=(ai.1 ha).1;have hm:=h a (sV ha);have ht:=YX h i;have h3:ws.length*(1000000+1)<=1000*1000001:=F6 _ hl;subst hb;simp only[U5 ha,o7,P5,ha,o9];rw[O8 G8,o9,O8 G8,o9,eP o5];refine⟨rfl,?_⟩;rw[X8 hlt,a9W,(ai.1 ha).2];simp
 .simp only[Y6,o6,id]
 .have hfold:∀(l:List (List UInt8)) (b:List UInt8),l.foldl (λb a=>b++(32::a)) b=b++spW l:=by
   intro l;induction l with
   |nil=>intro b;simp[spW]|cons w l ih=>intro b;rw[az,ih,vI];simp
  have ht:=PN h;have h3:ws.length*(1000000+1)<=1000*1000001:=F6 _ hl;rw[hfold];simp only[id];rw[O8 G8,o9];simp[lnS]
def tyS(t:Int×Int)(en:List U6):List UInt8:=
 l7 (D8 t.1 1) [98,111,111,108] (l7 (D8 t.1 2) [105,110,116] (l7 (D8 t.1 3) [109,111,110,101,121] (l7 (D8 t.1 4) [114,97,116,101] (l7 (D8 t.1 5) [100,97,116,101] (((O0 en t.2).map (·.1)).getD [])))))
variable {t:Int×Int}
theorem KJ(h:vty t en=true)(h6:t.1=6):∃e,O0 en t.2=some e/\e∈en:=by
 unfold vty at h;rw[O7 h6,o7]at h;cases g1:U2 0 t.2<;>rw[g1]at h
 .cases h
 rw[o7]at h;exact tY (jF.1 g1) (xA.1 h)
theorem Dl(h:vty t en=true):(t.1=1/\t.2=0)\/(t.1=2/\t.2=0)\/(t.1=3/\t.2=0)\/(t.1=4/\t.2=0)\/(t.1=5/\t.2=0)\/t.1=6:=by
 unfold vty at h;cases g0:D8 t.1 6<;>rw[g0]at h
 case true=>have:=iK.1 g0;omega
 rw[o6]at h;cases g1:U2 1 t.1<;>rw[g1]at h
 .cases h
 cases g2:U2 t.1 5<;>rw[g2]at h
 .cases h
 have h1:=jF.1 g1;have h2:=jF.1 g2;have h3:=iK.1 h;omega
theorem a4G(h:vty t en=true):jY t en=some (tyS t en):=by
 unfold jY tyS;cases g1:D8 t.1 1
 case true=>rfl
 cases g2:D8 t.1 2
 case true=>rfl
 cases g3:D8 t.1 3
 case true=>rfl
 cases g4:D8 t.1 4
 case true=>rfl
 cases g5:D8 t.1 5
 case true=>rfl
 have h6:t.1=6:=by have:=Dl h;have a1:=wQ.1 g1;have a2:=wQ.1 g2;have a3:=wQ.1 g3;have a4:=wQ.1 g4;have a5:=wQ.1 g5;omega
 obtain⟨e,he,-⟩:=KJ h h6;simp only[o6];rw[he];rfl
theorem b6x(hn:∀e∈en,e.1.length<=80):(tyS t en).length<=80:=by
 unfold tyS;cases D8 t.1 1
 case true=>simp
 cases D8 t.1 2
 case true=>simp
 cases D8 t.1 3
 case true=>simp
 cases D8 t.1 4
 case true=>simp
 cases D8 t.1 5
 case true=>simp
 simp only[o6];cases hl:O0 en t.2 with
 |none=>simp|some e=>exact hn e (pF hl).2.2.1
def enS(d:Int):List UInt8:=l7 (D8 d 109573) [101,110,100] (bC d)
theorem a6R(d:Int):rf d=some (enS d):=by unfold rf enS;rw[qJ,o9];cases D8 d 109573<;>rfl
theorem a6Q(d:Int):(enS d).length<=100:=by
 unfold enS;cases D8 d 109573
 .exact Cb d
 .simp
def vaS(n:Int)(t:Int×Int)(en:List U6):List UInt8:=((gV (t.1,t.2,n) en).getD ([],0)).1
theorem Lm{n:Int}(h:jh n)(hm:∀e∈en,e.2.length<=100/\∀m∈e.2,m.length<=100):(vaS n t en).length<=100/\kL n t en=some (vaS n t en)/\∀l:Z7,l.1=en->rW n t l=some (vaS n t en):=by
 obtain⟨x,hx,hl⟩:=BU (B:=100) o5 o5 (v:=(t.1,t.2,n)) h hm;have e:vaS n t en=x.1:=by unfold vaS;rw[hx];rfl
 refine⟨by rw[e];exact hl,?_,λl hle=>?_⟩
 .unfold kL;rw[hx,o9,e]
 .unfold rW;subst hle;rw[←vJ _ h,hx,o9,e]
def hiS(t:ax)(r:vU)(en:List U6):List UInt8:=l7 (U2 r.2.2.1 (bnd t.2.1 en).2) (vaS r.2.2.1 t.2.1 en) [101,110,100]
def Eb(t:ax)(r:vU)(en:List U6):List (List UInt8):=[bC r.1.1,enS r.1.2,vaS r.2.1 t.2.1 en,hiS t r en,vaS r.2.2.2 t.2.2.1 en]
def PU:List UInt8:=[114,111,119]
structure EnL (en:List U6):Prop where
 n:∀e∈en,e.1.length<=80
 m:∀e∈en,e.2.length<=100/\∀m∈e.2,m.length<=100
theorem VP{t:ax}{r:vU}(hE:EnL en)(h1:jh r.2.1)(h2:jh r.2.2.1)(h3:jh r.2.2.2):∀w∈Eb t r en,w.length<=100:=by
 intro w hw;simp only[Eb,x9,J9,or_false]at hw;rcases hw with rfl|rfl|rfl|rfl|rfl
 .exact Cb _
 .exact a6Q _
 .exact(Lm h1 hE.m).1
 .unfold hiS;cases U2 r.2.2.1 (bnd t.2.1 en).2
  .simp
  .exact(Lm h2 hE.m).1
 .exact(Lm h3 hE.m).1
theorem b4h{t:ax}{r:vU}(hE:EnL en)(h1:jh r.2.1)(h2:jh r.2.2.1)(h3:jh r.2.2.2):vz t r en=some (lnS PU (Eb t r en)):=by have hl:=VP (t:=t) hE h1 h2 h3;unfold vz;rw[CX,o9,qJ,a6R,(Lm (t:=t.2.1) h1 hE.m).2.1,(Lm (t:=t.2.1) h2 hE.m).2.1,(Lm (t:=t.2.2.1) h3 hE.m).2.1];have hq:=Ew (f:=PU) (ws:=Eb t r en) C9 (by simp[Eb]) (λw hw=>aV (hl w hw) o5);unfold Eb hiS PU at hq;unfold Eb hiS PU;cases g:U2 r.2.2.1 (bnd t.2.1 en).2<;>rw[g]at hq<;>simp only[o7,o6,o9]at hq ⊢<;>rw[hq]<;>rfl
def dnS(s:J8)(r:aH):List UInt8:=((O0 s.2.2.2.1 r.2.1).map (·.1)).getD []
def ovS(s:J8)(r:aH):List (List UInt8):=l7 (U2 0 r.2.2.1) [[111,118,101,114],((O0 s.2.2.2.2 r.2.2.1).map (·.1)).getD []] []
def prS(r:aH):List (List UInt8):=l7 (I9 0 r.2.2.2.1) [[112,114,105,111],Lib.itoa r.2.2.2.1] []
def daS(r:aH):List (List UInt8):=[[102,114,111,109],bC r.2.2.2.2.1.1,[116,111],enS r.2.2.2.2.1.2]
def guS(r:aH)(N:D9):List (List UInt8):=l7 (I9 0 (x8 r.2.2.2.2.2.1)) [[119,104,101,110],(Bg r.2.2.2.2.2.1 N).1] []
def isS(r:aH)(N:D9):List (List UInt8):=[[105,115],(Bg r.2.2.2.2.2.2.1 N).1]
def soS(r:aH):List (List UInt8):=l7 (seq r.2.2.2.2.2.2.2 []) [] [[115,114,99],34::r.2.2.2.2.2.2.2++[34]]
def ruW(s:J8)(r:aH)(N:D9):List (List UInt8):=[r.1,[111,102],dnS s r]++ovS s r++prS r++daS r++guS r N++isS r N++soS r
def zY:List UInt8:=[114,117,108,101]
structure RuL (s:J8) (r:aH):Prop where
 n:r.1.length<=80
 d:∀d∈s.2.2.2.1,d.1.length<=80
 q:∀q∈s.2.2.2.2,q.1.length<=80
 g:∀n∈r.2.2.2.2.2.1,jh n.2
 v:∀n∈r.2.2.2.2.2.2.1,jh n.2
 s:r.2.2.2.2.2.2.2.length<=64
theorem Yr{b:Bool}{x y:List α}{P:α->Prop}(hx:∀w∈x,P w)(hy:∀w∈y,P w):∀w∈l7 b x y,P w:=by
 cases b
 .exact hy
 .exact hx
theorem a4s(h:RuL s r)(hN:NmOk N)(hp:jh r.2.2.2.1):∀w∈ruW s r N,w.length<=150000:=by
 have hdn:(dnS s r).length<=80:=by
  unfold dnS;cases hl:O0 s.2.2.2.1 r.2.1 with
  |none=>simp|some d=>exact h.d d (pF hl).2.2.1
 have hpn:(((O0 s.2.2.2.2 r.2.2.1).map (·.1)).getD []).length<=80:=by
  cases hl:O0 s.2.2.2.2 r.2.2.1 with
  |none=>simp|some d=>exact h.q d (pF hl).2.2.1
 have hit:=Jo hp;have hd1:=Cb r.2.2.2.2.1.1;have hd2:=a6Q r.2.2.2.2.1.2;have hg:=a3C hN h.g;have hv:=a3C hN h.v;have hn:=h.n;have hs:=h.s;unfold ruW;intro w hw;simp only[G5]at hw;rcases hw with(((((hw|hw)|hw)|hw)|hw)|hw)|hw
 .simp only[x9,J9,or_false]at hw;rcases hw with rfl|rfl|rfl
  .omega
  .simp
  .omega
 .refine Yr (P:=λw=>w.length<=150000) (λw hw=>?_) (λw hw=>by cases hw) w hw;simp only[x9,J9,or_false]at hw;rcases hw with rfl|rfl
  .simp
  .omega
 .refine Yr (P:=λw=>w.length<=150000) (λw hw=>?_) (λw hw=>by cases hw) w hw;simp only[x9,J9,or_false]at hw;rcases hw with rfl|rfl
  .simp
  .omega
 .simp only[daS,x9,J9,or_false]at hw;rcases hw with rfl|rfl|rfl|rfl
  .simp
  .omega
  .simp
  .omega
 .refine Yr (P:=λw=>w.length<=150000) (λw hw=>?_) (λw hw=>by cases hw) w hw;simp only[x9,J9,or_false]at hw;rcases hw with rfl|rfl
  .simp
  .omega
 .simp only[isS,x9,J9,or_false]at hw;rcases hw with rfl|rfl
  .simp
  .omega
 .refine Yr (P:=λw=>w.length<=150000) (λw hw=>by cases hw) (λw hw=>?_) w hw;simp only[x9,J9,or_false]at hw;rcases hw with rfl|rfl
  .simp
  .simp;omega
theorem a4r(s:J8)(r:aH)(N:D9):(ruW s r N).length<=20:=by unfold ruW ovS prS daS guS isS soS;cases U2 0 r.2.2.1<;>cases I9 0 r.2.2.2.1<;>cases I9 0 (x8 r.2.2.2.2.2.1)<;>cases seq r.2.2.2.2.2.2.2 []<;>simp
theorem a4x{s:List UInt8}(h:s.length<=64):(U4 [34] s)=some (34::s)/\U4 (34::s) [34]=some (34::s++[34]):=
 ⟨by rw[O8 G8];rfl,by rw[O8 G8]⟩
theorem YO{p:Int}(h0:0<=p)(h9:p<=9):jh p:=by unfold jh;omega
theorem a5N{p:Int}(h:0<=p):I4 (D8 p 0)=I9 0 p:=by
 cases g:I9 0 p
 .have:=oO.1 g;rw[O7 (show p=0 by omega)];rfl
 .have:=xA.1 g;rw[O5 (show p≠0 by omega)];rfl
theorem b1M{sg:S9}(hv:RuV s sg k r)(h:RuL s r)(hN:NmOk N):qC s r N=some (lnS zY (ruW s r N)):=by
 obtain⟨d,hd,-⟩:=hv.df;have hp:jh r.2.2.2.1:=YO hv.p0 hv.p9;have hw:=a4s (s:=s) (r:=r) (N:=N) h hN hp;have hc:=a4r s r N;have hq:=Ew (f:=zY) (ws:=ruW s r N) C9 o5 (λw hx=>aV (hw w hx) o5);unfold qC;rw[hd,o9,qJ,a6R,a1G hN h.g,a1G hN h.v,jQ hp];simp only[o9,(a4x h.s).1,(a4x h.s).2];have hdn:dnS s r=d.1:=by unfold dnS;rw[hd];rfl
 have hpr:I4 (D8 r.2.2.2.1 0)=I9 0 r.2.2.2.1:=a5N hv.p0;rw[hpr];unfold ruW ovS prS daS guS isS soS zY at hq;unfold ruW ovS prS daS guS isS soS zY;rw[hdn]at hq ⊢;have hpq:U2 0 r.2.2.1=true->∃q,O0 s.2.2.2.2 r.2.2.1=some q:=λg=>by
  rcases hv.pa with hm|⟨p,q,e,-,hq2⟩
  .rw[hm]at g;exact absurd g C9
  .exact⟨q,by rw[e,P5];exact hq2⟩
 cases g1:U2 0 r.2.2.1
 case true=>
  obtain⟨q,hq2⟩:=hpq g1;rw[g1,hq2]at hq;rw[hq2];cases g2:I9 0 r.2.2.2.1<;>cases g3:I9 0 (x8 r.2.2.2.2.2.1)<;>cases g4:seq r.2.2.2.2.2.2.2 []<;>rw[g2,g3,g4]at hq <;>
   simp only[o7,o6,E8,Z5,o9,aA,V5,E5,H7,G7]at hq ⊢ <;>
   simp only[uN,o9,H7,G7,A8,G9,Nat.reduceAdd,Nat.reduceLeDiff]<;>rw[hq]<;>rfl
 case false=>
  rw[g1]at hq;cases g2:I9 0 r.2.2.2.1<;>cases g3:I9 0 (x8 r.2.2.2.2.2.1)<;>cases g4:seq r.2.2.2.2.2.2.2 []<;>rw[g2,g3,g4]at hq <;>
   simp only[o7,o6,E8,Z5,o9,aA,V5,E5,H7,G7]at hq ⊢ <;>
   simp only[uN,o9,H7,G7,A8,G9,Nat.reduceAdd,Nat.reduceLeDiff]<;>rw[hq]<;>rfl
theorem b0F{g:α->List UInt8}{l:List α}{a:α}(ha:l[i]? =some a):(l.take (i+1)).flatMap g=(l.take i).flatMap g++g a/\((l.take i).flatMap g).length+(g a).length<=(l.flatMap g).length:=by
 have hlt:=(ai.1 ha).1;have e1:l.take (i+1)=l.take i++[a]:=by rw[X8 hlt,(ai.1 ha).2]
 have e2:l=l.take (i+1)++l.drop (i+1):=(fE _ _).symm;refine⟨by rw[e1];simp,?_⟩;have e3:(l.flatMap g).length=((l.take (i+1)).flatMap g).length+((l.drop (i+1)).flatMap g).length:=by
  conv=>lhs;rw[e2]
  rw[List.flatMap_append,D6]
 rw[e3,e1,List.flatMap_append,D6];simp only[gJ,List.flatMap_nil,E5];omega
theorem Dp{α γ:Type}(l:List α)(g:α->List UInt8)(hl:l.length<=1000000)(b:List UInt8)(hb:b.length+(l.flatMap g).length<=1000000000)
  {f:List UInt8×Int->Option ((List UInt8×Int)⊕List UInt8)} {K:List UInt8->Option γ} {r:Option γ}
  (hin:∀(i:Nat) (a:α) (acc:List UInt8),l[i]? =some a->i<=1000000->acc.length+(g a).length<=1000000000->f (acc,(i:Int))=some (.inl (acc++g a,((i+1:Nat):Int))))
  (hend:∀acc,f (acc,(l.length:Int))=some (.inr acc)) (hk:K (b++l.flatMap g)=r):l9 (dC f (b,0)) K=r:=by
 refine wW l (λb a=>b++g a) (λb i=>(b,i)) id (λi acc=>acc=b++(l.take i).flatMap g) b hl A7 (λi a acc ha hi hI=>?_) (λacc hI=>hend acc) (λ_=>?_)
 .obtain⟨h1,h2⟩:=b0F (g:=g) ha;subst hI;refine⟨hin i a _ ha hi (by rw[D6];omega),?_⟩;rw[h1,E9]
 .have hfold:∀(l:List α) (b:List UInt8),l.foldl (λb a=>b++g a) b=b++l.flatMap g:=by
   intro l;induction l with
   |nil=>intro b;simp|cons w l ih=>intro b;rw[az,ih];simp
  rw[hfold];exact hk
theorem IY{a x:List UInt8}(h:a.length+x.length<=1000000000):iy a x=some (x8 x,(),a++x):=by unfold iy;rw[if_pos o5];rfl
end
section
def MH:List UInt8:=[101,110,117,109]
def EY:List UInt8:=[116,97,98,108,101]
def Eh:List UInt8:=[115,99,111,112,101]
def vK:List UInt8:=[109,101,109,98,101,114,115]
def vY:List UInt8:=[105,110,112,117,116]
def IP:List UInt8:=[100,101,102]
def enT(e:U6):List UInt8:=lnS MH (e.1::e.2)
def roT(l:Z7)(t:ax)(r:vU):List UInt8:=lnS PU (Eb t r l.1)
def tbH(l:Z7)(t:ax):List UInt8:=lnS EY [t.1,tyS t.2.1 l.1,tyS t.2.2.1 l.1]
def tbT(l:Z7)(t:ax):List UInt8:=tbH l t++t.2.2.2.flatMap (roT l t)
def meN(l:Z7)(s:J8):List UInt8:=((O0 l.2.2 s.2.1).map (·.1)).getD []
def meT(l:Z7)(s:J8):List UInt8:=l7 (U2 0 s.2.1) (lnS vK [meN l s]) []
def fdT(w:List UInt8)(l:Z7)(f:dL):List UInt8:=lnS w [f.1,tyS f.2 l.1]
def ruT(l:Z7)(s:J8)(r:aH):List UInt8:=lnS zY (ruW s r (nmS l s))
def scH(s:J8):List UInt8:=lnS Eh [s.1]
def scT(l:Z7)(s:J8):List UInt8:=scH s++meT l s++s.2.2.1.flatMap (fdT vY l)++s.2.2.2.1.flatMap (fdT IP l)++s.2.2.2.2.flatMap (ruT l s)
def txL(l:Z7):List UInt8:=l.1.flatMap enT++l.2.1.flatMap (tbT l)++l.2.2.flatMap (scT l)
structure FmL (l:Z7):Prop where
 v:(jA l).1=0
 n:NmL l
 w:WfL l
theorem uz{α:Type}{g:α->List UInt8}{B:Nat} :∀{l:List α},(∀a∈l,(g a).length<=B)->(l.flatMap g).length<=l.length*B
 |[],_=>by simp|a::l,h=>by have h1:=uz (g:=g) (B:=B) (l:=l) (λx hx=>h x (U0 _ hx));have h2:=h a A7;rw[gJ,D6,A8,J6,au];omega
variable {s:J8}{t:ax}
section
variable {l:Z7} (h:FmL l)
include h
theorem YK:EnL l.1:=⟨λe he=>(h.n.e e he).2.1,λe he=>⟨by have:=(h.n.e e he).1;omega,λm hm=>by have:=(h.n.e e he).2.2 m hm;omega⟩⟩
theorem Xr{t:Int×Int} :(tyS t l.1).length<=80:=b6x (YK h).n
theorem YD{e:U6}(he:e∈l.1):(∀w∈e.1::e.2,w.length<=80)/\(e.1::e.2).length<=21/\(enT e).length<=1800:=by
 have h1:=h.n.e e he;have hw:∀w∈e.1::e.2,w.length<=80:=λw hw=>by
  rcases x9.1 hw with rfl|hw
  .exact h1.2.1
  .exact h1.2.2 w hw
 have hc:(e.1::e.2).length<=21:=by simp only[A8];omega
 have:=GU (f:=MH) hw;have h3:(e.1::e.2).length*(80+1)<=21*81:=F6 _ hc;exact⟨hw,hc,by unfold enT;simp only[MH,A8,G9]at this ⊢;simp only[A8]at h3;omega⟩
theorem TM(ht:t∈l.2.1){r:vU}(hr:r∈t.2.2.2):a6q r:=h.w.ri t ht r hr
theorem b1L(ht:t∈l.2.1){r:vU}(hr:r∈t.2.2.2):(roT l t r).length<=600:=by obtain⟨h1,h2,h3⟩:=TM h ht hr;have:=GU (f:=PU) (VP (t:=t) (YK h) h1 h2 h3);unfold roT;simp only[PU,Eb,A8,G9]at this ⊢;omega
theorem tb3(ht:t∈l.2.1):∀w∈[t.1,tyS t.2.1 l.1,tyS t.2.2.1 l.1],w.length<=80:=by
 intro w hw;simp only[x9,J9,or_false]at hw;rcases hw with rfl|rfl|rfl
 .exact h.n.t t ht
 .exact Xr h
 .exact Xr h
theorem b2j(ht:t∈l.2.1):(tbH l t).length<=300:=by have:=GU (f:=EY) (tb3 h ht);unfold tbH;simp only[EY,A8,G9]at this ⊢;omega
theorem a4F(ht:t∈l.2.1):t.2.2.2.length<=64:=by obtain⟨i,hi,e⟩:=eQ ht;exact((AQ h.v).2 i t (by rw[sF hi,e])).le
theorem b2k(ht:t∈l.2.1):(tbT l t).length<=40000:=by have h1:=b2j h ht;have h2:=uz (g:=roT l t) (B:=600) (l:=t.2.2.2) (λr hr=>b1L h ht hr);have h3:=F6 600 (a4F h ht);unfold tbT;rw[D6];omega
theorem b3b(hs:s∈l.2.2):∃i,l.2.2[i]? =some s/\ScV l i s:=by
 obtain⟨i,hi,e⟩:=eQ hs;have he:l.2.2[i]? =some s:=by rw[sF hi,e]
 exact⟨i,he,(oC h.v).2 i s he⟩
theorem ZA(hs:s∈l.2.2):s.1.length<=80:=by
 obtain⟨i,-,hv⟩:=b3b h hs;have:=hv.id;unfold iU at this;cases hc:s.1 with
 |nil=>simp|cons c r=>rw[hc]at this;simp only[D5,decide_eq_true_eq]at this;omega
theorem Tj{w:List UInt8}(hw:w.length<=10){f:dL}(hf:f.1.length<=80):(∀v∈[f.1,tyS f.2 l.1],v.length<=80)/\(fdT w l f).length<=200:=by
 have h2:∀v∈[f.1,tyS f.2 l.1],v.length<=80:=by
  intro v hv;simp only[x9,J9,or_false]at hv;rcases hv with rfl|rfl
  .exact hf
  .exact Xr h
 have:=GU (f:=w) h2;refine⟨h2,?_⟩;unfold fdT;simp only[A8,G9]at this ⊢;omega
theorem Zx(hs:s∈l.2.2){r:aH}(hr:r∈s.2.2.2.2):RuL s r/\NmOk (nmS l s)/\(∃k,RuV s (uT l s) k r)/\(ruT l s r).length<=3000100:=by
 obtain⟨i,hi,hv⟩:=b3b h hs;obtain⟨k,hk,e⟩:=eQ hr;have hru:=hv.rules k r (by rw[sF hk,e]);obtain⟨-,-,-,n4,n5,n6⟩:=h.n.s s hs;have hI:=h.w.si s hs r hr;have hsrc:r.2.2.2.2.2.2.2.length<=64:=by have:=hru.src;unfold Tc at this;simp only[D5,decide_eq_true_eq]at this;exact this.1
 have hL:RuL s r:=⟨n6 r hr,n5,n6,hI.1,hI.2,hsrc⟩;have hN:=c2G h.n hs;have h1:=GU (f:=zY) (a4s hL hN (YO hru.p0 hru.p9));have h2:=F6 150001 (a4r s r (nmS l s));refine⟨hL,hN,⟨k,hru⟩,?_⟩;unfold ruT;simp only[zY,A8,G9]at h1 ⊢;omega
theorem a7p(hs:s∈l.2.2):(meN l s).length<=80/\(meT l s).length<=100:=by
 have h1:(meN l s).length<=80:=by
  unfold meN;cases hl:O0 l.2.2 s.2.1 with
  |none=>simp|some q=>exact ZA h (pF hl).2.2.1
 refine⟨h1,?_⟩;unfold meT;cases U2 0 s.2.1
 .simp
 .have:=GU (f:=vK) (ws:=[meN l s]) (B:=80) (λw hw=>by rw[U8.1 hw];exact h1);simp only[o7,vK,A8,G9]at this ⊢;omega
theorem Zz(hs:s∈l.2.2):(∀w∈[s.1],w.length<=80)/\(scH s).length<=100:=by
 have h1:∀w∈[s.1],w.length<=80:=λw hw=>by rw[U8.1 hw];exact ZA h hs
 have:=GU (f:=Eh) h1;refine⟨h1,?_⟩;unfold scH;simp only[Eh,A8,G9]at this ⊢;omega
theorem a3z(hs:s∈l.2.2):(s.2.2.1.flatMap (fdT vY l)).length<=2800/\(s.2.2.2.1.flatMap (fdT IP l)).length<=2800:=by obtain⟨n1,n2,n3,n4,n5,n6⟩:=h.n.s s hs;have h1:=uz (g:=fdT vY l) (B:=200) (l:=s.2.2.1) (λf hf=>(Tj h C9 (n4 f hf)).2);have h2:=uz (g:=fdT IP l) (B:=200) (l:=s.2.2.2.1) (λf hf=>(Tj h C9 (n5 f hf)).2);have h3:=F6 200 n1;have h4:=F6 200 n2;omega
theorem a4v(hs:s∈l.2.2):(s.2.2.2.2.flatMap (ruT l s)).length<=180006000:=by obtain⟨n1,n2,n3,n4,n5,n6⟩:=h.n.s s hs;have h1:=uz (g:=ruT l s) (B:=3000100) (l:=s.2.2.2.2) (λr hr=>(Zx h hs hr).2.2.2);have h3:=F6 3000100 n3;omega
theorem b1X(hs:s∈l.2.2):(scT l s).length<=181000000:=by have h1:=(Zz h hs).2;have h2:=(a7p h hs).2;have h3:=a3z h hs;have h4:=a4v h hs;unfold scT;simp only[D6];omega
end
end
section
theorem l1k{w:List (List UInt8)}{B:Nat}(hB:B<=1000000)(h:∀v∈w,v.length<=B):∀v∈w,v.length<=1000000:=λv hv=>aV (h v hv) hB
variable {l:Z7}
theorem a5d(h:FmL l):(l.1.flatMap enT).length<=20000:=by have h1:=uz (g:=enT) (B:=1800) (l:=l.1) (λe he=>(YD h he).2.2);have h2:=F6 1800 h.n.ne;omega
theorem a2W(h:FmL l):(l.2.1.flatMap (tbT l)).length<=400000:=by have h1:=uz (g:=tbT l) (B:=40000) (l:=l.2.1) (λt ht=>b2k h ht);have h2:=F6 40000 h.n.nt;omega
theorem a2G(h:FmL l):(l.2.2.flatMap (scT l)).length<=724000000:=by have h1:=uz (g:=scT l) (B:=181000000) (l:=l.2.2) (λs hs=>b1X h hs);have h2:=F6 181000000 (oC h.v).1;omega
def foS(l:Z7):List UInt8×X6:=l7 (D8 (jA l).1 0) (l7 (I9 65536 (x8 (txL l))) ([],4,0,0,0) (txL l,0,0,0,0)) ([],jA l)
section
variable {l:Z7} (h:FmL l)
include h
theorem b6X{i:Nat}{s:J8}(hs:l.2.2[i]? =some s)(acc:List UInt8)(ha:acc.length+(scT l s).length<=1000000000)(hi:i<=1000000):
  (l9 (aB [115,99,111,112,101] [s.1]) λ(x_2:List UInt8)=>
          l9 (iy acc x_2) λ(x_3:Int×PUnit×List UInt8)=>
           l9
            (l7 (U2 0 s.2.1)
             (l9 (O0 l.2.2 s.2.1) λ(x:J8)=>
              l9 (aB [109,101,109,98,101,114,115] [x.1]) λ(x:List UInt8)=>
               l9 (iy x_3.2.2 x) λ(x:Int×PUnit×List UInt8)=>some x.2.2)
             (some x_3.2.2))
            λ(x_4:List UInt8)=>
            l9
             (dC
              (λ(x:List UInt8×Int)=>
               l7 (I9 x.2 (x8 s.2.2.1))
                (l9 (O0 s.2.2.1 x.2) λ(x_5:dL)=>
                 l9 (jY x_5.2 l.1) λ(x_6:List UInt8)=>
                  l9 (aB [105,110,112,117,116] [x_5.1,x_6])
                   λ(x_7:List UInt8)=>
                   l9 (iy x.1 x_7) λ(x_8:Int×PUnit×List UInt8)=>
                    some (Sum.inl (x_8.2.2,H8 IntKind.i64 x.2 1)))
                (some (Sum.inr x.1)))
              (x_4,0))
             λ(y:List UInt8)=>
             l9
              (dC
               (λ(x:List UInt8×Int)=>
                l7 (I9 x.2 (x8 s.2.2.2.1))
                 (l9 (O0 s.2.2.2.1 x.2) λ(x_5:dL)=>
                  l9 (jY x_5.2 l.1) λ(x_6:List UInt8)=>
                   l9 (aB [100,101,102] [x_5.1,x_6]) λ(x_7:List UInt8)=>
                    l9 (iy x.1 x_7) λ(x_8:Int×PUnit×List UInt8)=>
                     some (Sum.inl (x_8.2.2,H8 IntKind.i64 x.2 1)))
                 (some (Sum.inr x.1)))
               (y,0))
              λ(y:List UInt8)=>
              l9 (jV l (i:Int)) λ(x_5:D9)=>
               l9
                (dC
                 (λ(x:List UInt8×Int)=>
                  l7 (I9 x.2 (x8 s.2.2.2.2))
                   (l9 (O0 s.2.2.2.2 x.2) λ(x_6:aH)=>
                    l9 (qC s x_6 x_5) λ(x_7:List UInt8)=>
                     l9 (iy x.1 x_7) λ(x_8:Int×PUnit×List UInt8)=>
                      some (Sum.inl (x_8.2.2,H8 IntKind.i64 x.2 1)))
                   (some (Sum.inr x.1)))
                 (y,0))
                λ(y:List UInt8)=>some (Sum.inl (y,H8 IntKind.i64 (i:Int) 1)))
  =some ((Sum.inl (acc++scT l s,((i+1:Nat):Int)):(List UInt8×Int)⊕List UInt8)):=by
 have hm:=sV hs;have hV:=(oC h.v).2 i s hs;have hH:=Zz h hm;have hM:=a7p h hm;have hF:=a3z h hm;have hR:=a4v h hm;obtain⟨n1,n2,n3,n4,n5,n6⟩:=h.n.s s hm;have ha' :acc.length+((scH s).length+(meT l s).length+(s.2.2.1.flatMap (fdT vY l)).length+(s.2.2.2.1.flatMap (fdT IP l)).length+(s.2.2.2.2.flatMap (ruT l s)).length)<=1000000000:=by unfold scT at ha;simp only[D6]at ha;omega
 have e1:aB [115,99,111,112,101] [s.1]=some (scH s):=Ew (f:=Eh) C9 A7 (l1k o5 hH.1);rw[e1,o9,IY o5,o9];have e2:(l7 (U2 0 s.2.1)
             (l9 (O0 l.2.2 s.2.1) λ(x:J8)=>
              l9 (aB [109,101,109,98,101,114,115] [x.1]) λ(x:List UInt8)=>
               l9 (iy (acc++scH s) x) λ(x:Int×PUnit×List UInt8)=>some x.2.2)
             (some (acc++scH s)))=some (acc++scH s++meT l s):=by
  unfold meT;rcases hV.mb with hm1|⟨p,q,e,-,hq⟩
  .rw[hm1];simp[U2]
  .have e3:O0 l.2.2 s.2.1=some q:=by rw[e,P5];exact hq
   have e4:meN l s=q.1:=by unfold meN;rw[e3];rfl
   have e5:aB [109,101,109,98,101,114,115] [q.1]=some (lnS vK [q.1]):=Ew (f:=vK) C9 A7 (λw hw=>by rw[U8.1 hw,←e4];omega);have e6:U2 0 s.2.1=true:=by rw[e];exact Z4 o5
   have e7:(meT l s).length=(lnS vK [q.1]).length:=by unfold meT;rw[e6,e4];rfl
   rw[e6,o7,e3,o9,e5,o9,IY G8,o9,e4];rfl
 rw[e2,o9];refine Dp s.2.2.1 (fdT vY l) o5 _ (by simp only[D6];omega) (λj f b hf hj hb=>?_) (λb=>by simp only[Y6,o6]) ?_
 .have hfm:=sV hf;have hv:=(hV.ins j f hf).ty;have hl:=Tj h (w:=vY) C9 (n4 f hfm);have e3:aB [105,110,112,117,116] [f.1,tyS f.2 l.1]=some (fdT vY l f):=Ew (f:=vY) C9 A7 (l1k o5 hl.1);simp only[U5 hf,o7,P5,hf,o9,a4G hv,e3,IY hb,eP (show j<=9000000000000000000 by omega)]
 refine Dp s.2.2.2.1 (fdT IP l) o5 _ (by simp only[D6];omega) (λj f b hf hj hb=>?_) (λb=>by simp only[Y6,o6]) ?_
 .have hfm:=sV hf;have hv:=(hV.defs j f hf).ty;have hl:=Tj h (w:=IP) C9 (n5 f hfm);have e3:aB [100,101,102] [f.1,tyS f.2 l.1]=some (fdT IP l f):=Ew (f:=IP) C9 A7 (l1k o5 hl.1);simp only[U5 hf,o7,P5,hf,o9,a4G hv,e3,IY hb,eP (show j<=9000000000000000000 by omega)]
 rw[Y_ h.n (k:=(i:Int)) (by rw[P5];exact hs),o9];refine Dp s.2.2.2.2 (ruT l s) o5 _ (by simp only[D6];omega) (λj r b hr hj hb=>?_) (λb=>by simp only[Y6,o6]) ?_
 .obtain⟨a1,a2,⟨k,a3⟩,a4⟩:=Zx h hm (sV hr);have e3:qC s r (nmS l s)=some (ruT l s r):=b1M a3 a1 a2;simp only[U5 hr,o7,P5,hr,o9,e3,IY hb,eP (show j<=9000000000000000000 by omega)]
 rw[eP o5];unfold scT;simp only[E9]
end
end
section
variable {l:Z7}
theorem c4A(h:(jA l).1=0):jA l=(0,0,0,0):=c4B h
variable {a:List UInt8}
theorem b3D(h:a.length<=1000000000):wG a=some (a,a):=by unfold wG;rw[if_pos o5]
theorem Xw(hS:SmL l)(h:(jA l).1=0->FmL l):oQ l=some (foS l):=by
 unfold oQ foS;rw[JW hS,o9];cases g:D8 (jA l).1 0
 .simp only[Z5,o7,o6]
 simp only[E8,o7,o6];have h:=h (iK.1 g);have hE:=a5d h;have hT:=a2W h;have hC:=a2G h;refine Dp l.1 enT (by have:=h.n.ne;omega) _ (by simp only[G9];omega) (λj e b he hj hb=>?_) (λb=>by simp only[Y6,o6]) ?_
 .obtain⟨a1,a2,a3⟩:=YD h (sV he);have hle:dE [e.1] e.2=some (e.1::e.2):=by rw[uN (by simp only[A8,G9]at a2 ⊢;omega)];rfl
  have e3:aB [101,110,117,109] (e.1::e.2)=some (enT e):=Ew (f:=MH) C9 o5 (l1k o5 a1);simp only[U5 he,o7,P5,he,o9,hle,e3,IY hb,eP (show j<=9000000000000000000 by omega)]
 refine Dp l.2.1 (tbT l) (by have:=h.n.nt;omega) _ (by simp only[G7];omega) (λj t b ht hj hb=>?_) (λb=>by simp only[Y6,o6]) ?_
 .have hm:=sV ht;have hV:=(AQ h.v).2 j t ht;have h3:=tb3 h hm;have hl:(tbH l t).length+(t.2.2.2.flatMap (roT l t)).length=(tbT l t).length:=by unfold tbT;rw[D6]
  have e3:aB [116,97,98,108,101] [t.1,tyS t.2.1 l.1,tyS t.2.2.1 l.1]=some (tbH l t):=Ew (f:=EY) C9 A7 (l1k o5 h3);simp only[U5 ht,o7,P5,ht,o9,a4G hV.vk,a4G hV.vv,e3];rw[IY o5,o9];refine Dp t.2.2.2 (roT l t) (by have:=hV.le;omega) _ (by simp only[D6];omega) (λi r c hr hi hc=>?_) (λb=>by simp only[Y6,o6]) ?_
  .obtain⟨i1,i2,i3⟩:=TM h hm (sV hr);have e4:vz t r l.1=some (roT l t r):=b4h (YK h) i1 i2 i3;simp only[U5 hr,o7,P5,hr,o9,e4,IY hc,eP (show i<=9000000000000000000 by omega)]
  .rw[eP o5];unfold tbT;simp only[E9]
 refine Dp l.2.2 (scT l) (by have:=(oC h.v).1;omega) _ (by simp only[D6,G7];omega) (λj s b hs hj hb=>?_) (λb=>by simp only[Y6,o6]) ?_
 .simp only[U5 hs,o7,P5,hs,o9];exact b6X h hs b hb hj
 .have e5:[]++l.1.flatMap enT++l.2.1.flatMap (tbT l)++l.2.2.flatMap (scT l)=txL l:=rfl;rw[e5];have e6:(txL l).length<=1000000000:=by unfold txL;simp only[D6];omega
  unfold NW;rw[o9,b3D e6];simp only[o9];show l7 (I9 65536 (x8 (txL l))) _ _=_;cases I9 65536 (x8 (txL l))<;>rfl
theorem Uc:iQ=some true:=by decide+kernel
theorem a3B(h1:smL l=true)(hw:WfL l)(hv:(jA l).1=0):FmL l:=⟨hv,b3Q h1 hw,hw⟩
theorem FN{α β:Type}{o:Option α}{K:α->Option β}{r:β}(h:l9 o K=some r):∃a,o=some a/\K a=some r:=by
 cases o with
 |none=>cases h|some a=>exact⟨a,rfl,h⟩
variable {n:Int×Int}
theorem a5T{ops:List (Int×Int)}{sg:S9}(h:(Zv n ops sg).2=0)(hr:∃r,rU n ops sg=some r):
  (n.2=0\/eX n.1=some true)/\lH n sg=some true/\oU n sg=some true:=by
 obtain⟨r,e⟩:=hr;have h0:r.2=0:=by unfold Zv at h;rw[e]at h;exact h
 unfold rU at e;obtain⟨o,e1,e⟩:=FN e;cases o with
 |inr q=>
  cases (show some q=some r from e);cases g:D8 n.2 0
  .rw[g,Z5,o7]at e1;obtain⟨b,e2,e1⟩:=FN e1;cases b
   .cases e1;exact absurd (show(2:Int)=0 from h0) C9
   .cases e1
  .rw[g,E8,o6]at e1;cases e1
 |inl x=>
  have hm:n.2=0\/eX n.1=some true:=by
   cases g:D8 n.2 0
   .rw[g,Z5,o7]at e1;obtain⟨b,e2,e1⟩:=FN e1;cases b
    .cases e1
    .exact .inr e2
   .exact .inl (iK.1 g)
  have e:(l9 (lH n sg) λ(x:Bool)=>_)=some r:=e;obtain⟨b,e2,e⟩:=FN e;cases b
  .cases (show some (((0,0),3):(Int×Int)×Int)=some r from e);exact absurd (show(3:Int)=0 from h0) C9
  simp only[E8,o6]at e;obtain⟨b,e3,e⟩:=FN e;cases b
  .cases (show some (((0,0),6):(Int×Int)×Int)=some r from e);exact absurd (show(6:Int)=0 from h0) C9
  exact⟨hm,e2,e3⟩
theorem a6a(l:Z7)(s:J8):(uT l s).1=(nmS l s).1/\x8 (uT l s).2.1=x8 (nmS l s).2.1/\x8 (uT l s).2.2.1=x8 (nmS l s).2.2.1/\x8 (uT l s).2.2.2.1=x8 (nmS l s).2.2.2.1/\x8 (uT l s).2.2.2.2.1=x8 (nmS l s).2.2.2.2:=by
 have e:∀q:Option J8,(if 0<=s.2.1 then l.2.2[s.2.1.toNat]? else none)=q->(nmS l s).2.2.2.2=(match q with|some q=>q.2.2.2.1.map (·.1)|none=>[]):=by
  rintro q rfl;unfold nmS;by_cases h:0<=s.2.1
  .rw[Z4 h,o7,if_pos h];obtain⟨p,hp⟩:∃p:Nat,s.2.1=(p:Int):=⟨s.2.1.toNat,(gX h).symm⟩;rw[hp,P5,I7];rfl
  .rw[dF (qZ.1 h),o6,if_neg h]
 unfold uT;generalize hq:(if 0<=s.2.1 then l.2.2[s.2.1.toNat]? else none)=q;have e:=e q hq;cases q with
 |none=>rw[e];exact⟨rfl,by simp[nmS,x8],by simp[nmS,x8],by simp[nmS,x8],rfl⟩|some q=>rw[e];exact⟨rfl,by simp[nmS,x8],by simp[nmS,x8],by simp[nmS,x8],by simp[x8]⟩
theorem Zw{b c:Bool}(h:l7 b (some c) (some false)=some true):b=true/\c=true:=by
 cases b
 .cases h
 .exact⟨rfl,iP h⟩
theorem Tq{m n:Int}(h:l7 (U2 0 m) (some (I9 m n)) (some false)=some true):((l7 (I9 m 0) (some 6) (l7 (U2 n m) (some 6) (some 0))):Option Int)=some 0:=by obtain⟨h1,h2⟩:=Zw h;rw[Y5 (jF.1 h1),dF (xA.1 h2)];rfl
theorem Qv{lo hi m:Int}(h:l7 (U2 lo m) (some (U2 m hi)) (some false)=some true):((l7 (I9 m lo) (some 3) (l7 (I9 hi m) (some 3) (some 0))):Option Int)=some 0:=by obtain⟨h1,h2⟩:=Zw h;rw[Y5 (jF.1 h1),Y5 (jF.1 h2)];rfl
variable {s:J8}
theorem b6W(ha:0<=arF n.1)(hI:jh n.2)(h:(n.2=0\/eX n.1=some true)/\lH n (uT l s)=some true/\oU n (uT l s)=some true):flS n (nmS l s)=0:=by
 obtain⟨k,m⟩:=n;obtain⟨hm,hr,hf⟩:=h;obtain⟨s1,s2,s3,s4,s5⟩:=a6a l s;refine YH ?_;have zero:∀k:Int,(eX k=some true->False)->(m=0\/eX k=some true)->(U9 (k,m) (nmS l s)=l7 (I4 (D8 m 0)) (some 2) (some 0))->U9 (k,m) (nmS l s)=some 0:=by intro k h1 h2 h3;have:m=0:=h2.resolve_right λh=>h1 h;rw[h3,this];rfl
 have rou:∀k:Int,(lH (k,m) (uT l s)=l7 (U2 0 m) (some (U2 m 5)) (some false))->lH (k,m) (uT l s)=some true->(U9 (k,m) (nmS l s)=l7 (I9 m 0) (some 3) (l7 (I9 5 m) (some 3) (some 0)))->U9 (k,m) (nmS l s)=some 0:=by intro k h1 h2 h3;rw[h3];exact Qv (h1▸h2)
 have mem:∀k:Int,(oU (k,m) (uT l s)=l7 (uT l s).2.2.2.2.2 (l7 (U2 0 m) (some (I9 m (x8 (uT l s).2.2.2.2.1))) (some false)) (some false))->oU (k,m) (uT l s)=some true->(U9 (k,m) (nmS l s)=l7 (I9 m 0) (some 6) (l7 (U2 (x8 (nmS l s).2.2.2.2) m) (some 6) (some 0)))->U9 (k,m) (nmS l s)=some 0:=by
  intro k h1 h2 h3;rw[h3,←s5];rw[h1]at h2;cases hb:(uT l s).2.2.2.2.2<;>rw[hb]at h2
  .cases h2
  .exact Tq h2
 have h3:arF k=0\/arF k=1\/arF k=2\/arF k=3:=by have:=(Oa k).2.2;simp only at ha;omega
 rcases h3 with h|h|h|h
 .rcases ar0 h with rfl|rfl|rfl|rfl|rfl|rfl|rfl|rfl|rfl|rfl|rfl|rfl|rfl|rfl
  .exact Qv hr
  .exact Qv hr
  .exact Qv hr
  .exact Qv hr
  .exact Qv hr
  .have hr:some (U2 0 m)=some true:=hr;have hr:=jF.1 (iP hr);have hf:l7 (I9 (dA .i64 m 16) (x8 (uT l s).1)) (l9 (O0 (uT l s).1 (dA .i64 m 16)) λ(x:U6)=>some (I9 (jc m 16) (x8 x.2))) (some false)=some true:=hf;rw[s1]at hf;show(l7 (I9 m 0) (some 6) (l7 (U2 (x8 (nmS l s).1) (dA .i64 m 16)) (some 6) (l9 (O0 (nmS l s).1 (dA .i64 m 16)) λ(x:U6)=>l7 (U2 (x8 x.2) (jc m 16)) (some 6) (some 0))):Option Int)=some 0;rw[Y5 o5,o6];cases g:I9 (dA .i64 m 16) (x8 (nmS l s).1)<;>rw[g]at hf
   .cases hf
   rw[dF (xA.1 g),o6];rw[o7]at hf;obtain⟨e,e1,e2⟩:=FN hf;rw[e1,o9,dF (xA.1 (iP e2))];rfl
  .have:=Tq hf;rw[s3]at this;exact this
  .have:=Tq hf;rw[s4]at this;exact this
  .exact zero 9 C9 hm rfl
  .exact zero 35 C9 hm rfl
  .exact mem 36 rfl hf rfl
  .exact mem 37 rfl hf rfl
  .exact mem 38 rfl hf rfl
  .exact mem 39 rfl hf rfl
 .rcases ar1 h with rfl|rfl|rfl|rfl|rfl|rfl
  .exact zero 10 C9 hm rfl
  .exact zero 25 C9 hm rfl
  .exact zero 31 C9 hm rfl
  .exact zero 32 C9 hm rfl
  .have:=Tq hf;rw[s2]at this;exact this
  .have hr:l7 (U2 0 m) (some (U2 (jc m 8) 5)) (some false)=some true:=hr;obtain⟨r1,r2⟩:=Zw hr;have hf:some (I9 (dA .i64 m 8) (x8 (uT l s).2.1))=some true:=hf;have hf:=xA.1 (iP hf);rw[s2]at hf;show(l7 (I9 m 0) (some 6) (l7 (U2 (x8 (nmS l s).2.1) (dA .i64 m 8)) (some 6) (l7 (I9 5 (jc m 8)) (some 3) (some 0))):Option Int)=some 0;rw[Y5 (jF.1 r1),o6,dF hf,o6,Y5 (jF.1 r2)];rfl
 .rcases ar2 h with rfl|rfl|rfl|rfl|rfl|rfl|rfl|rfl|rfl|rfl|rfl|rfl|rfl|rfl|rfl|rfl|rfl|rfl
  .exact zero 11 C9 hm rfl
  .exact zero 12 C9 hm rfl
  .exact zero 13 C9 hm rfl
  .exact rou 14 rfl hr rfl
  .exact rou 15 rfl hr rfl
  .exact rou 16 rfl hr rfl
  all_goals exact zero _ C9 hm rfl
 .obtain rfl:=ar3 h;exact zero 26 C9 hm rfl
theorem OG{ops:List (Int×Int)}{i:Nat}{t:Int×Int}(hN:jh n.2)(hv:∀t∈ops,VT t)(hl:x8 ops=arF n.1)(h:DR (uT l s) n ops i= .inr t):flS n (nmS l s)=0:=by
 obtain⟨r,h1,h2,h3⟩:=Zb (uT l s) n hN ops hv hl;unfold DR at h;split at h
 .rename_i h0;exact b6W (by rw[←hl];unfold x8;omega) hN (a5T h0 ⟨r,h1⟩)
 .cases h
theorem Ii{l:Z7}{s:J8} :∀(T:XT) (o:Nat) (t:Int×Int),T.wf->(∀n∈T.post,jh n.2)->mf (uT l s) T o= .inr t->VT t/\∀n∈T.post,flS n (nmS l s)=0
 | .l0 n,o,t,hw,hI,h=>by
  have h:DR (uT l s) n [] o= .inr t:=h;have hi:=hI n (by simp[XT.post]);refine⟨Bj hi A7 (by rw[show arF n.1=0 from hw];rfl) h,λm hm=>?_⟩;obtain rfl:m=n:=by simpa[XT.post]using hm
  exact OG hi A7 (by rw[show arF m.1=0 from hw];rfl) h
 | .l1 n a,o,t,hw,hI,h=>by
  unfold mf at h;cases ha:mf (uT l s) a o with
  |inl x=>rw[ha]at h;cases h|inr ta=>
   rw[ha]at h;obtain⟨va,fa⟩:=Ii a o ta hw.2 (λm hm=>hI m (by simp[XT.post,hm])) ha;have hi:=hI n (by simp[XT.post]);have hl:x8 [ta]=arF n.1:=by rw[hw.1];rfl
   have hv:∀t∈[ta],VT t:=by simp[va]
   refine⟨Bj hi hv hl h,λm hm=>?_⟩;rcases G5.1 (show m∈a.post++[n]from hm)with hm|hm
   .exact fa m hm
   .obtain rfl:m=n:=by simpa using hm
    exact OG hi hv hl h
 | .l2 n a b,o,t,hw,hI,h=>by
  unfold mf at h;cases ha:mf (uT l s) a o with
  |inl x=>rw[ha]at h;cases h|inr ta=>
   rw[ha]at h;simp only at h;cases hb:mf (uT l s) b (o+a.size)with
   |inl x=>rw[hb]at h;cases h|inr tb=>
    rw[hb]at h;obtain⟨va,fa⟩:=Ii a o ta hw.2.1 (λm hm=>hI m (by simp[XT.post,hm])) ha;obtain⟨vb,fb⟩:=Ii b _ tb hw.2.2 (λm hm=>hI m (by simp[XT.post,hm])) hb;have hi:=hI n (by simp[XT.post]);have hl:x8 [ta,tb]=arF n.1:=by rw[hw.1];rfl
    have hv:∀t∈[ta,tb],VT t:=by simp[va,vb]
    refine⟨Bj hi hv hl h,λm hm=>?_⟩;rcases G5.1 (show m∈a.post++b.post++[n]from hm)with hm|hm
    .rcases G5.1 hm with hm|hm
     .exact fa m hm
     .exact fb m hm
    .obtain rfl:m=n:=by simpa using hm
     exact OG hi hv hl h
 | .l3 n a b c,o,t,hw,hI,h=>by
  unfold mf at h;cases ha:mf (uT l s) a o with
  |inl x=>rw[ha]at h;cases h|inr ta=>
   rw[ha]at h;simp only at h;cases hb:mf (uT l s) b (o+a.size)with
   |inl x=>rw[hb]at h;cases h|inr tb=>
    rw[hb]at h;simp only at h;cases hc:mf (uT l s) c (o+a.size+b.size)with
    |inl x=>rw[hc]at h;cases h|inr tc=>
     rw[hc]at h;obtain⟨va,fa⟩:=Ii a o ta hw.2.1 (λm hm=>hI m (by simp[XT.post,hm])) ha;obtain⟨vb,fb⟩:=Ii b _ tb hw.2.2.1 (λm hm=>hI m (by simp[XT.post,hm])) hb;obtain⟨vc,fc⟩:=Ii c _ tc hw.2.2.2 (λm hm=>hI m (by simp[XT.post,hm])) hc;have hi:=hI n (by simp[XT.post]);have hl:x8 [ta,tb,tc]=arF n.1:=by rw[hw.1];rfl
     have hv:∀t∈[ta,tb,tc],VT t:=by simp[va,vb,vc]
     refine⟨Bj hi hv hl h,λm hm=>?_⟩;rcases G5.1 (show m∈a.post++b.post++c.post++[n]from hm)with hm|hm
     .rcases G5.1 hm with hm|hm
      .rcases G5.1 hm with hm|hm
       .exact fa m hm
       .exact fb m hm
      .exact fc m hm
     .obtain rfl:m=n:=by simpa using hm
      exact OG hi hv hl h
theorem Rh{e:List (Int×Int)}{t:Int×Int}(hI:∀n∈e,jh n.2)(h:Gl e (uT l s) t=0):∃T,oK e= .inr T/\e=T.post/\T.wf/\(∀n∈T.post,flS n (nmS l s)=0):=by
 unfold Gl zQ at h;cases hs:oK e with
 |inl x=>rw[hs]at h;have hx:=BD hs;simp only at h;rw[O5 hx,o6]at h;exact absurd h hx|inr T=>
  rw[hs]at h;obtain⟨hp,-⟩:=rY hs;have hw:=Gj hs;have hI' :∀n∈T.post,jh n.2:=hp▸hI;simp only at h;cases ht:mf (uT l s) T 0 with
  |inl x=>rw[ht]at h;have hx:=AP T 0 ht;simp only at h;rw[O5 hx,o6]at h;exact absurd h hx|inr r=>exact⟨T,rfl,hp,hw,(Ii T 0 r hw hI' ht).2⟩
def zT(sub:List UInt8):List UInt8->List UInt8->Prop
 |[],r=>True|c::a,r=>sub.isPrefixOf (c::(a++r))=false/\zT sub a r
theorem E_(sub:List UInt8):∀(a b r:List UInt8),zT sub (a++b) r↔zT sub a (b++r)/\zT sub b r
 |[],b,r=>by simp[zT]|c::a,b,r=>by rw[H7];show(sub.isPrefixOf (c::((a++b)++r))=false/\zT sub (a++b) r)↔(sub.isPrefixOf (c::(a++(b++r)))=false/\zT sub a (b++r))/\zT sub b r;rw[E_ sub a b r,E9];exact and_assoc.symm
theorem a3E{sub:List UInt8}(h0:sub≠[]):∀{a x:List UInt8},zT sub a (sub++x)->Lib.index (a++(sub++x)) sub=(a.length:Int)
 |[],x,h=>by
  cases sub with
  |nil=>exact absurd rfl h0|cons c t=>show Lib.index (c::(t++x)) (c::t)=0;unfold Lib.index;rw[if_pos (by rw[jH];exact⟨x,rfl⟩)]
 |c::a,x,h=>by
  have ih:=a3E h0 h.2;rw[H7];unfold Lib.index;rw[h.1,ih];have:(((a.length:Nat):Int)==-1)=false:=by rw[beq_eq_false_iff_ne];omega
  rw[this];simp
theorem a3F{sub:List UInt8}(h0:sub≠[]):∀{a:List UInt8},zT sub a []->Lib.index a sub=-1
 |[],h=>by
  cases sub with
  |nil=>exact absurd rfl h0|cons c t=>rfl
 |c::a,h=>by have ih:=a3F h0 h.2;have h1:=h.1;rw[E5]at h1;unfold Lib.index;rw[h1,ih];rfl
theorem Yx{sub a x:List UInt8}(h0:sub≠[])(h:zT sub a (sub++x))(hl:(a++(sub++x)).length<=1000000000):AU (a++(sub++x)) sub=some (a,x,true):=by unfold AU Lib.cut;rw[if_pos o5,a3E h0 h,if_pos o5,I7,cZ];rw[show a.length+sub.length=(a++sub).length by simp,←E9,Y3]
theorem a6G{sub a:List UInt8}(h0:sub≠[])(h:zT sub a [])(hl:a.length<=1000000000):AU a sub=some (a,[],false):=by unfold AU Lib.cut;rw[if_pos o5,a3F h0 h,if_neg o5]
theorem UM{c:UInt8} :∀{a r:List UInt8},(∀x∈a,x≠c)->zT [c] a r
 |[],r,h=>trivial
 |x::a,r,h=>by refine⟨?_,UM λy hy=>h y (by simp[hy])⟩;have:=h x A7;simp only[List.isPrefixOf,Bool.and_true];simpa[beq_eq_false_iff_ne]using λe=>this e.symm
def oG:List (List UInt8)->G6
 |[]=>([],false)|w::ws=>(w++spW ws,true)
structure WdB (w:List UInt8):Prop where
 ne:w≠[]
 nb:∀x∈w,x≠32
variable {w:List UInt8}
theorem TQ(h:WdB w){R:List UInt8}(hl:(w++32::R).length<=1000000000):H9 (w++32::R,true)=some (w,true,(R,true)):=by unfold H9;have:=Yx (sub:=[32]) (a:=w) (x:=R) A7 (UM h.nb) hl;simp only[E8,o6];rw[show w++32::R=w++([32]++R)from rfl,this,o9,qX.2 h.ne];rfl
theorem a6i(h:WdB w)(hl:w.length<=1000000000):H9 (w,true)=some (w,true,([],false)):=by unfold H9;simp only[E8,o6];rw[a6G A7 (UM h.nb) hl,o9,qX.2 h.ne];rfl
variable {ws:List (List UInt8)}
theorem SB(h:WdB w)(hl:(w++spW ws).length<=1000000000):H9 (oG (w::ws))=some (w,true,oG ws):=by
 cases ws with
 |nil=>show H9 (w++spW [],true)=_;rw[show w++spW []=w by simp[spW]]at hl ⊢;exact a6i h hl|cons v vs=>show H9 (w++spW (v::vs),true)=_;rw[vI]at hl ⊢;exact TQ h (R:=v++spW vs) hl
theorem JZ(h:iU w=true):WdB w:=⟨λe=>(by rw[e]at h;cases h),a1N h⟩
def LnW(ws:List (List UInt8)):Prop:=(∀w∈ws,WdB w)/\(spW ws).length<=1000000
theorem zB(h:LnW (w::ws)):LnW ws:=by refine⟨λv hv=>h.1 v (by simp[hv]),?_⟩;have:=h.2;rw[vI]at this;simp only[D6,A8]at this;omega
theorem yE(h:LnW (w::ws)):H9 (oG (w::ws))=some (w,true,oG ws):=by refine SB (h.1 w A7) ?_;have:=h.2;rw[vI]at this;simp only[D6,A8]at this ⊢;omega
theorem a6E(w:List UInt8)(ws:List (List UInt8)):(oG (w::ws)).2=true:=rfl
theorem KD:iY (oG [])=some (0,oG []):=rfl
end
section
theorem Nb{w v:List UInt8}(h:iU w=true)(hv:v∈FZ):seq w v=false:=by
 cases w with
 |nil=>cases h|cons c r=>rw[Aj]at h;simp only[D5,aO]at h;have:=dh.1 h.2 v hv;simpa using this
theorem EW{α:Type}{S:List α}{s:α}(hl:S.length<=1000000):N8 .i64 (x8 (S++[s])) 1=(S.length:Int)/\bY (N8 .i64 (x8 (S++[s])) 1)=S.length/\inb (N8 .i64 (x8 (S++[s])) 1) (x8 (S++[s]))=true/\
  fO (S++[s]) S.length=some s/\(∀x,ug (S++[s]) S.length x=S++[x])/\O0 (S++[s]) (N8 .i64 (x8 (S++[s])) 1)=some s:=by
 have e:N8 .i64 (x8 (S++[s])) 1=(S.length:Int):=by rw[cu (by unfold jh x8;simp;omega)];unfold x8;simp
 have g:(S++[s])[S.length]? =some s:=by rw[F5 (F7 _),Y9];rfl
 refine⟨e,by rw[e];unfold bY;rw[I7],by rw[e];unfold inb x8;simp<;>omega,g,λx=>?_,by rw[e,P5];exact g⟩;unfold ug;rw[mP _ _ (F7 _),Y9];rfl
theorem Ap(n:Nat):Ju n n=true:=by unfold Ju;exact Nat.beq_refl n
abbrev rdS(E:List U6)(T:List ax)(S:List J8)(k:Int)(N:D9)(b:Bool):J3:=((E,T,S),k,N,b)
def nmZ:D9:=([],[],[],[],[])
variable {n:List UInt8}{t:Int×Int}{s:J8}
section
variable {E:List U6} {T:List ax} {S:List J8} {k:Int} {N:D9} {b:Bool}
theorem b1x{ms:List (List UInt8)}(h:LnW (n::ms))(h0:ms≠[])(hm:ms.length<=1000)(hE:E.length<=1000):lT (rdS E T S k N b) (oG (n::ms))=some (0,rdS (E++[(n,ms)]) T S k N b,oG []):=by
 unfold lT;rw[yE h,o9];have h2:(oG ms).2=true:=by
  cases ms with
  |nil=>exact absurd rfl h0|cons a l=>rfl
 simp only[E8,o6,h2,o9,Y2];have key:=DJ (f:=λ(x:G6×U6)=>
       l7 x.1.2
        (l9 (H9 x.1) λ(x_2:List UInt8×Bool×G6)=>
         l7 (I4 x_2.2.1) (some (Out.rt ((2,rdS E T S k N b,x_2.2.2):Int×J3×G6)))
          (l9 (dE x.2.2 [x_2.1]) λ(x_3:List (List UInt8))=>some (Out.nx (x_2.2.2,x.2.1,x_3))))
        (some (Out.ex x))) (s:=(oG ms,n,[]))
  (λx=>∃d r,ms=d++r/\x=(oG r,n,d)) (λx=>x=(oG [],n,ms)) (λ_=>False) (λx=>ms.length -x.2.2.length) ⟨[],ms,rfl,rfl⟩ G8 ?_
 .rcases key with⟨x,e,hx⟩|⟨r,-,hr⟩
  .refine X3 e ?_;rw[o9,Y2,hx];simp only;rw[uN G8,o9]
  .exact hr.elim
 .rintro x ⟨d,r,e,rfl⟩;cases r with
  |nil=>refine .inr (.inl ⟨_,rfl,?_⟩);rw[e,E5]|cons w r=>
   refine .inl ⟨(oG r,n,d++[w]),?_,⟨d++[w],r,by rw[e];simp,rfl⟩,by rw[e];simp;omega⟩;have hd:d.length<=1000:=by rw[e]at hm;simp at hm;omega
   have hw:LnW (w::r):=by refine⟨λv hv=>h.1 v (by rw[e];simp at hv ⊢;rcases hv with hv|hv<;>simp[hv]),?_⟩;have:=h.2;rw[vI,e,a4B]at this;simp only[D6,A8]at this;omega
   simp only[a6E,o7];rw[yE hw,o9];simp only[E8,o6];rw[uN G8,o9]
structure EnU (E:List U6):Prop where
 id:∀e∈E,iU e.1=true
 un:∀(j:Nat) e,E[j]? =some e->∀x∈E.take j,x.1≠e.1
 le:E.length<=1000
abbrev enR(E:List U6):(List U6×Unit×Unit)×Unit×(Unit×Unit×Unit×Unit×Unit)×Unit:=((E,PUnit.unit,PUnit.unit),PUnit.unit,(PUnit.unit,PUnit.unit,PUnit.unit,PUnit.unit,PUnit.unit),PUnit.unit)
theorem b0k(hU:EnU E)(h:vty t E=true):WdB (tyS t E):=by
 rcases Dl h with h1|h1|h1|h1|h1|h1
 .unfold tyS;rw[h1.1];exact(⟨C9,C9⟩:WdB [98,111,111,108])
 .unfold tyS;rw[h1.1];exact(⟨C9,C9⟩:WdB [105,110,116])
 .unfold tyS;rw[h1.1];exact(⟨C9,C9⟩:WdB [109,111,110,101,121])
 .unfold tyS;rw[h1.1];exact(⟨C9,C9⟩:WdB [114,97,116,101])
 .unfold tyS;rw[h1.1];exact(⟨C9,C9⟩:WdB [100,97,116,101])
 .obtain⟨e,he,hm⟩:=KJ h h1;have:tyS t E=e.1:=by unfold tyS;rw[h1,he];rfl
  rw[this];exact JZ (hU.id e hm)
theorem TF{ws:List (List UInt8)}(hU:EnU E)(h:vty t E=true)(hw:LnW (tyS t E::ws)):iH (enR E) (oG (tyS t E::ws))=some (t,0,oG ws):=by
 unfold iH;rw[yE hw,o9];simp only[E8,o6];have pr:t=(t.1,t.2):=rfl;rcases Dl h with h1|h1|h1|h1|h1|h1
 .rw[pr,h1.1,h1.2];rfl
 .rw[pr,h1.1,h1.2];rfl
 .rw[pr,h1.1,h1.2];rfl
 .rw[pr,h1.1,h1.2];rfl
 .rw[pr,h1.1,h1.2];rfl
 .obtain⟨e,he,hm⟩:=KJ h h1;have e1:tyS t E=e.1:=by unfold tyS;rw[h1,he];rfl
  have hi:=hU.id e hm;rw[e1];rw[Nb hi (by decide+kernel:([98,111,111,108]:List UInt8)∈FZ),Nb hi (by decide+kernel:([105,110,116]:List UInt8)∈FZ),Nb hi (by decide+kernel:([109,111,110,101,121]:List UInt8)∈FZ),Nb hi (by decide+kernel:([114,97,116,101]:List UInt8)∈FZ),Nb hi (by decide+kernel:([100,97,116,101]:List UInt8)∈FZ)];simp only[o6];obtain⟨c1,c2,c3⟩:=BN he;have:=Om E (λq=>seq q.1 e.1) (λi=>(((0:Int),(0:Int)),(i:Int))) (λi=>(((6:Int),(i:Int)),(0:Int),oG ws)) (ε:=L6) (by have:=hU.le;omega) (f:=λ(x_1:L6×Int)=>
          l7 (I9 x_1.2 (x8 E))
           (l9 (O0 E x_1.2) λ(x_2:U6)=>
            l7 (seq x_2.1 e.1) (some (Out.rt ((6,x_1.2),0,oG ws)))
             (some (Out.nx (x_1.1,H8 IntKind.i64 x_1.2 1))))
           (some (Out.ex x_1.1))) (λi a ha=>by
     have:=(ai.1 ha).1;have:=hU.le;simp only[U5 ha,o7,P5,ha,o9];rw[eP o5];cases seq a.1 e.1<;>rfl) t.2.toNat e c1 (pI.2 rfl) (λx hx=>qX.2 (hU.un _ _ c1 x hx))
  refine X3 this ?_;rw[o9,kD,c2,pr,h1]
theorem a8t{t u:Int×Int}(hU:EnU E)(ht:vty t E=true)(hu:vty u E=true)(h:LnW [n,tyS t E,tyS u E])(hT:T.length<=1000):lq (rdS E T S k N b) (oG [n,tyS t E,tyS u E])=some (0,rdS E (T++[(n,t,u,[])]) S k N b,oG []):=by unfold lq;rw[yE h,o9];simp only[E8,o6];rw[TF hU ht (zB h),o9];simp only[O7 (rfl:(0:Int)=0),E8,o6];rw[TF hU hu (zB (zB h)),o9];simp only[O7 (rfl:(0:Int)=0),E8,o6];rw[uN G8,o9,KD,o9]
theorem a8s(h:LnW [n])(hS:S.length<=1000):lm (rdS E T S k N b) (oG [n])=some (0,rdS E T (S++[(n,-1,[],[],[])]) k nmZ false,oG []):=by unfold lm;rw[yE h,o9];simp only[E8,o6];rw[uN G8,o9,KD,o9];rfl
theorem a2k{s q:J8}{p:Nat}(hS:S.length<=1000)(hp:S[p]? =some q)(hq:∀x∈S.take p,x.1≠q.1)(h:LnW [q.1]):jP (rdS E T (S++[s]) k N b) (oG [q.1])=some (0,rdS E T (S++[(s.1,(p:Int),s.2.2)]) k N b,oG []):=by
 obtain⟨e1,e2,e3,e4,e5,e6⟩:=EW (S:=S) (s:=s) o5;have hpl:=(ai.1 hp).1;unfold jP;rw[yE h,o9];simp only[E8,o6,e3,o7];have:=Om S (λx=>seq x.1 q.1) (λi=>(i:Int)) (λi=>((0:Int),rdS E T (S++[(s.1,(i:Int),s.2.2)]) k N b,oG [])) (ε:=PUnit) o5 (f:=λ(x_1:Int)=>
      l7 (I9 x_1 (N8 IntKind.i64 (x8 (S++[s])) 1))
       (l7 (inb x_1 (x8 (S++[s])))
        (l9 (fO (S++[s]) (bY x_1)) λ(x_2:J8)=>
         l7 (seq x_2.1 q.1)
          (l9 (fO (S++[s]) (bY (N8 IntKind.i64 (x8 (S++[s])) 1))) λ(x_3:J8)=>
           l9 (iY (oG [])) λ(x:Int×G6)=>
            some
             (Out.rt
              (x.1,
               ((E,T,
                 ug (S++[s]) (bY (N8 IntKind.i64 (x8 (S++[s])) 1)) (x_3.1,x_1,x_3.2.2)),
                k,N,b),
               x.2)))
          (some (Out.nx (H8 IntKind.i64 x_1 1))))
        none)
       (some (Out.ex PUnit.unit))) (λi a ha=>by
     have hi:=(ai.1 ha).1;have hin:inb ((i:Nat):Int) (x8 (S++[s]))=true:=by unfold inb x8;simp<;>omega
     have hg:fO (S++[s]) (bY ((i:Nat):Int))=some a:=by unfold fO bY;rw[I7,L8 hi];exact ha
     simp only[e1,dY (show((i:Nat):Int)<(S.length:Int) by omega),o7,hin,hg,o9];rw[←e1,e2,e4,o9,KD,o9,e5,eP o5];cases seq a.1 q.1<;>rfl) p q hp (pI.2 rfl) (λx hx=>qX.2 (hq x hx))
 refine X3 this ?_;rw[o9,kD]
theorem a8q{f:dL}(hU:EnU E)(hS:S.length<=1000)(ht:vty f.2 E=true)(h:LnW [f.1,tyS f.2 E])(hl:s.2.2.1.length<=1000):
  kZ (rdS E T (S++[s]) k N b) (oG [f.1,tyS f.2 E]) PUnit.unit=some (0,rdS E T (S++[(s.1,s.2.1,s.2.2.1++[f],s.2.2.2)]) k N b,oG []):=by
 obtain⟨e1,e2,e3,e4,e5,e6⟩:=EW (S:=S) (s:=s) o5;unfold kZ;rw[e3,o7,yE h,o9];simp only[E8,o6];rw[TF hU ht (zB h),o9];simp only[O7 (rfl:(0:Int)=0),E8,o6,e2,e4,o9];rw[uN G8,o9,Ap,o7,KD,o9];simp only[e5]
theorem b4c{f:dL}(hU:EnU E)(hS:S.length<=1000)(ht:vty f.2 E=true)(h:LnW [f.1,tyS f.2 E])(hl:s.2.2.2.1.length<=1000):
  jo (rdS E T (S++[s]) k N b) (oG [f.1,tyS f.2 E]) PUnit.unit=some (0,rdS E T (S++[(s.1,s.2.1,s.2.2.1,s.2.2.2.1++[f],s.2.2.2.2)]) k N b,oG []):=by
 obtain⟨e1,e2,e3,e4,e5,e6⟩:=EW (S:=S) (s:=s) o5;unfold jo;rw[e3,o7,yE h,o9];simp only[E8,o6];rw[TF hU ht (zB h),o9];simp only[O7 (rfl:(0:Int)=0),E8,o6,e2,e4,o9];rw[uN G8,o9,Ap,o7,KD,o9];simp only[e5]
end
end
section
theorem Z_{v:Nat}(h:1<=v)(hv:v<=100000000000000000):(l7 true
         (l7 (D8 (v:Int) 0)
          (l7 (I4 false) (some (0,2))
           (l7 false (some (0,3)) (l7 true (some (N8 IntKind.i64 0 (v:Int),0)) (some ((v:Int),0)))))
          (l7 false (some (0,3)) (l7 true (some (N8 IntKind.i64 0 (v:Int),0)) (some ((v:Int),0)))))
         (l7 false (some (0,3)) (l7 true (some (N8 IntKind.i64 0 (v:Int),0)) (some ((v:Int),0)))):Option (Int×Int))=some (-(v:Int),0):=by
 rw[O5 o5,cu bg,Int.zero_sub];rfl
theorem b1n{d:List UInt8}(hd:Dg d)(h1:d≠[])(hz:NoZ d)(hp:1<=oL 0 d)(hv:oL 0 d<=100000000000000000)(hl:d.length<=1000):lw (45::d) 0=some (-(oL 0 d:Int),0):=by
 have hne:1<=d.length:=by cases d with|nil=>exact absurd rfl h1|cons c t=>simp
 unfold lw;rw[show(45::d:List UInt8)=[45]++d from rfl,a6F [45] d G8,o9];simp only[Y5 (show(0:Int)<=0 by omega),o6,o9];rw[show x8 d=(d.length:Int)from rfl,Y5 o5,o6];have hz2:=Nw (r:=[]) hz h1 (Sum.inr (0,2):PUnit⊕(Int×Int)) (Sum.inl PUnit.unit);rw[E5]at hz2;refine X3 hz2 ?_;rw[o9,Y2];have lp:P7 (npF (d.length:Int)) (0,false,d,0)=some (.inl ((oL 0 d:Int),false)):=by unfold P7;rw[show aG=(aG -1 -d.length)+1+d.length by unfold aG;omega];have:=Aq (s:=d) (p:=d.length) d [] [] 0 (aG -1 -d.length+1) A7 hd (.inr A7) hv;rw[show(([]:List UInt8).length:Int)=0 from rfl,show((0:Nat):Int)=0 from rfl]at this;rw[this];have:=Zc (s:=d) (p:=(d.length:Int)) (v:=(oL 0 d:Int)) (aG -1 -d.length);rw[show(([]:List UInt8).length+d.length)=d.length by simp];exact this
 refine X3 lp ?_;rw[o9,Y2];exact Z_ hp hv
theorem b1o{d f:List UInt8}(hd:Dg d)(hf:Dg f)(h1:d≠[])(hz:NoZ d)(hk:1<=f.length)(hp1:1<=oL 0 (d++f))(hv:oL 0 (d++f)<=100000000000000000)(hl:d.length+f.length<=1000):lw (45::(d++46::f)) (f.length:Int)=some (-(oL 0 (d++f):Int),0):=by
 have hne:1<=d.length:=by cases d with|nil=>exact absurd rfl h1|cons c t=>simp
 unfold lw;rw[show(45::(d++46::f):List UInt8)=[45]++(d++46::f)from rfl,a6F [45] (d++46::f) G8,o9];have hp:(l7 (I9 0 (f.length:Int)) (some (N8 IntKind.i64 (x8 (d++46::f)) (H8 IntKind.i64 (f.length:Int) 1))) (some (x8 (d++46::f))))=some (d.length:Int):=by rw[dY o5,o7,dw bg,cu (by unfold jh x8;simp;omega)];congr 1;unfold x8;simp<;>omega
 refine X3 hp ?_;rw[o9,Y5 o5,o6];refine X3 (Nw hz h1 (Sum.inr (0,2):PUnit⊕(Int×Int)) (Sum.inl PUnit.unit)) ?_;rw[o9,Y2];have hv1:oL 0 d<=oL 0 (d++f):=by rw[BI];exact PS _ _
 have lp:P7 (npF (d.length:Int)) (0,false,d++46::f,0)=some (.inl ((oL 0 (d++f):Int),false)):=by
  unfold P7;rw[show aG=(aG -2 -d.length -f.length)+1+f.length+1+d.length by unfold aG;omega];have a1:=Aq (s:=d++46::f) (p:=d.length) d [] (46::f) 0 (aG -2 -d.length -f.length+1+f.length+1) A7 hd (.inr A7) o5;rw[show(([]:List UInt8).length:Int)=0 from rfl,show((0:Nat):Int)=0 from rfl,show(([]:List UInt8).length+d.length)=d.length by simp]at a1;rw[a1,bG];have h46:(d++46::f)[d.length]? =some 46:=by rw[F5 (F7 _),Y9];rfl
  obtain⟨r1,r2⟩:=Di h46 C9;have st:npF (d.length:Int) ((oL 0 d:Int),false,d++46::f,(d.length:Int))=some (.nx ((oL 0 d:Int),false,d++46::f,((d.length+1:Nat):Int))):=by unfold npF;simp only[U5 h46,o7,r1,r2,O7 (rfl:(d.length:Int)=(d.length:Int))];rfl
  rw[st];have a2:=Aq (s:=d++46::f) (p:=d.length) f (d++[46]) [] (oL 0 d) (aG -2 -d.length -f.length+1) A7 hf (.inl A7) (by rw[←BI];exact hv);rw[←BI]at a2;simp only[D6,mM]at a2;simp only;rw[a2];have:=Zc (s:=d++46::f) (p:=(d.length:Int)) (v:=(oL 0 (d++f):Int)) (aG -2 -d.length -f.length);rw[show(d++46::f).length=d.length+1+f.length by simp;omega]at this;exact this
 refine X3 lp ?_;rw[o9,Y2];exact Z_ hp1 hv
theorem YA(u:Nat)(hu:u<18446744073709551616):Lib.decDigits u≠[]/\NoZ (Lib.decDigits u)/\(Lib.decDigits u).length<=20:=by
 have hlen:=qx hu;refine⟨by intro e;rw[e]at hlen;simp at hlen,?_,o5⟩;intro h1 c t e;refine Yz u c t e ?_;rcases kK u 10 with h|h
 .rw[Lib.decDigits,dif_pos h]at h1;simp at h1
 .exact h
theorem b2T{n:Int}(h:-100000000000000000<=n/\n<=100000000000000000):nY (Lib.itoa n)=some (n,0):=by
 unfold nY Lib.itoa;split
 .rename_i h0;obtain⟨h1,h2,h3⟩:=YA n.natAbs o5;rw[b1n (Ad _) h1 h2 (by rw[BJ];omega) (by rw[BJ];omega) o5,o9,BJ,show -((n.natAbs:Nat):Int)=n by omega]
 .rename_i h0;obtain⟨h1,h2,h3⟩:=YA n.toNat o5;rw[a7N (Ad _) h1 h2 (by rw[BJ];omega) o5,o9,BJ,show((n.toNat:Nat):Int)=n by omega]
theorem b2S{n:Int}{k:Nat}(hk:1<=k/\k<=9)(h:-100000000000000000<=n/\n<=100000000000000000):fF (pY n k) (k:Int)=some (n,0):=by
 obtain⟨d,f,e,hd,hf,hne,hz,hfl,hv,hdl⟩:=qA (u:=n.natAbs) (k:=k) o5 hk;have hc:jg (k:Int)=some (k:Int):=by unfold jg Ag Ah;congr 1;omega
 unfold fF pY;rw[hc,o9];split
 .rename_i h0;have:=b1o hd hf hne hz o5 o5 o5 o5;rw[hfl,hv]at this;rw[e,this,o9,show -((n.natAbs:Nat):Int)=n by omega]
 .rename_i h0;have:=a2e hd hf hne hz o5 o5 o5;rw[hfl,hv]at this;rw[e,this,o9,show((n.natAbs:Nat):Int)=n by omega]
end
section
structure EnW (E:List U6):Prop extends EnU E where
 mid:∀e∈E,∀m∈e.2,iU m=true
 mun:∀e∈E,∀(j:Nat) v,e.2[j]? =some v->∀x∈e.2.take j,x≠v
 mle:∀e∈E,e.2.length<=1000
def vaT(n:Int)(t:Int×Int)(E:List U6):List UInt8:=
 l7 (D8 t.1 1) (l7 (D8 n 0) [102,97,108,115,101] [116,114,117,101]) (l7 (D8 t.1 2) (Lib.itoa n) (l7 (D8 t.1 3) (pY n 2) (l7 (D8 t.1 4) (pY n 4++[37]) (l7 (D8 t.1 5) (bC n) (gtN ((O0 E t.2).getD ([],[])).2 n)))))
theorem vV{n:Int}{b:Int×Int}(h:inB n b=true):b.1<=n/\n<=b.2:=by
 unfold inB at h;cases g:U2 b.1 n<;>rw[g]at h
 .cases h
 .exact⟨jF.1 g,jF.1 h⟩
theorem LK{k:Int}(E:List U6)(hk:k=1\/k=2\/k=3\/k=4\/k=5):bnd (k,0) E=l7 (D8 k 1) (0,1) (l7 (D8 k 2) (-1000000000000,1000000000000) (l7 (D8 k 3) (-1000000000000000,1000000000000000) (l7 (D8 k 4) (-1000000000,1000000000) (0,109572)))):=by rcases hk with rfl|rfl|rfl|rfl|rfl<;>rfl
theorem b2y{e:U6}{E:List U6}{i:Int}(h:vty (6,i) E=true)(he:O0 E i=some e):bnd (6,i) E=(0,N8 .i64 (x8 e.2) 1):=by
 have h1:=NE (6,i) E;have:bM (6,i) E=some (0,N8 .i64 (x8 e.2) 1):=by unfold bM;rw[oJ,h,o9];simp (disch:=decide) only[O5,E8,o6];rw[he];rfl
 rw[this]at h1;exact(iP h1).symm
section
variable {E:List U6} {t:Int×Int} {n:Int}
theorem PR(hv:vty t E=true)(hn:inB n (bnd t E)=true){P:Int×Int->Prop}(h1:0<=n->n<=1->P (1,0))(h2:-1000000000000<=n->n<=1000000000000->P (2,0))(h3:-1000000000000000<=n->n<=1000000000000000->P (3,0))
  (h4:-1000000000<=n->n<=1000000000->P (4,0)) (h5:0<=n->n<=109572->P (5,0)) (h6:∀e i,O0 E i=some e->e∈E->0<=n->n<=N8 .i64 (x8 e.2) 1->vty (6,i) E=true->P (6,i)):P t:=by
 obtain⟨k,i⟩:=t;rcases Dl hv with h|h|h|h|h|h
 .obtain⟨rfl,rfl⟩:k=1/\i=0:=h;rw[LK E A7]at hn;exact h1 (vV hn).1 (vV hn).2
 .obtain⟨rfl,rfl⟩:k=2/\i=0:=h;rw[LK E A7]at hn;exact h2 (vV hn).1 (vV hn).2
 .obtain⟨rfl,rfl⟩:k=3/\i=0:=h;rw[LK E A7]at hn;exact h3 (vV hn).1 (vV hn).2
 .obtain⟨rfl,rfl⟩:k=4/\i=0:=h;rw[LK E A7]at hn;exact h4 (vV hn).1 (vV hn).2
 .obtain⟨rfl,rfl⟩:k=5/\i=0:=h;rw[LK E A7]at hn;exact h5 (vV hn).1 (vV hn).2
 .obtain rfl:k=6:=h;obtain⟨e,he,hm⟩:=KJ hv rfl;rw[b2y hv he]at hn;exact h6 e i he hm (vV hn).1 (vV hn).2 hv
theorem a3e(hW:EnW E)(hv:vty t E=true)(hn:inB n (bnd t E)=true)(hI:jh n):vaS n t E=vaT n t E:=by
 have key:gV (t.1,t.2,n) E=some (vaT n t E,0):=by
  have hw:iZ n (t.1,t.2) E=some true:=by unfold iZ;rw[CX,o9];obtain⟨b1,b2⟩:=vV hn;rw[Z4 b1,Z4 b2];rfl
  have f2:=jQ hI;have f3:bn n 2=some (pY n 2):=gQ (k:=2) hI o5;have f4:bn n 4=some (pY n 4):=gQ (k:=4) hI o5;have l4:=Dc (k:=4) hI o5;have st:∀t:Int×Int,vty t E=true->iZ n t E=some true->gV (t.1,t.2,n) E=(l7 (D8 t.1 1) (l7 (D8 n 0) (some ([102,97,108,115,101],0)) (some ([116,114,117,101],0)))
     (l7 (D8 t.1 2) (some (Lib.itoa n,0)) (l7 (D8 t.1 3) (some (pY n 2,0)) (l7 (D8 t.1 4) (some (pY n 4++[37],0)) (l7 (D8 t.1 5) (some (bC n,0))
      (l9 (O0 E t.2) λ(x:U6)=>l9 (O0 x.2 n) λ(x:List UInt8)=>some (x,0))))))):=by
   intro t hv hw;unfold gV
   simp only[rZ,hv,hw,o9,E8,o6,f2,f3,f4,qJ];rw[O8 G8,o9]
  refine PR (P:=λt=>vty t E=true->iZ n t E=some true->gV (t.1,t.2,n) E=some (vaT n t E,0)) hv hn ?_ ?_ ?_ ?_ ?_ ?_ hv hw
  .intro g1 g2 hv hw;rw[st _ hv hw];unfold vaT;simp only[O7 (rfl:(1:Int)=1),o7];cases D8 n 0<;>rfl
  .intro g1 g2 hv hw;rw[st _ hv hw];rfl
  .intro g1 g2 hv hw;rw[st _ hv hw];rfl
  .intro g1 g2 hv hw;rw[st _ hv hw];rfl
  .intro g1 g2 hv hw;rw[st _ hv hw];rfl
  .intro e i he hm g1 g2 hv0 hv hw;have hml:=hW.mle e hm;have g2' :n<x8 e.2:=by rw[cu (by unfold jh x8;omega)]at g2;omega
   obtain⟨x,hx,-⟩:=tY g1 g2';rw[st _ hv hw];unfold vaT gtN;simp (disch:=decide) only[O5,o6];rw[he,o9,V5,hx];rfl
 unfold vaS;rw[key];rfl
theorem Uw{d:List UInt8}(h:Dg d):∀x∈d,x≠32:=λx hx e=>by have:=Je (h x hx);rw[e]at this;exact absurd this C9
theorem Za{a b:List UInt8}(ha:∀x∈a,x≠32)(hb:∀x∈b,x≠32):∀x∈a++b,x≠32:=λx hx=>(G5.1 hx).elim (ha x) (hb x)
theorem KO{c:UInt8}{b:List UInt8}(hc:c≠32)(hb:∀x∈b,x≠32):∀x∈c::b,x≠32:=λx hx=>(x9.1 hx).elim (λe=>e▸hc) (hb x)
theorem ZT{n:Int}(h:jh n):WdB (Lib.itoa n)/\∀c∈Lib.itoa n,prB c=true:=by
 unfold jh at h;unfold Lib.itoa;split
 .exact⟨⟨A7,KO C9 (Uw (Ad _))⟩,xw C9 λc hc=>yH (Ad _ c hc)⟩
 .exact⟨⟨(YA n.toNat o5).1,Uw (Ad _)⟩,λc hc=>yH (Ad _ c hc)⟩
theorem a1b{n:Int}{k:Nat}(h:jh n)(hk:1<=k/\k<=9):WdB (pY n k)/\∀c∈pY n k,prB c=true:=by
 unfold jh at h;obtain⟨d,f,e,hd,hf,hne,hz,hfl,hv,hdl⟩:=qA (u:=n.natAbs) (k:=k) o5 hk;have h1:∀x∈d++46::f,x≠32:=Za (Uw hd) (KO C9 (Uw hf));have h2:∀c∈d++46::f,prB c=true:=uG (λc hc=>yH (hd c hc)) (xw C9 λc hc=>yH (hf c hc));unfold pY;rw[e];split
 .exact⟨⟨A7,KO C9 h1⟩,xw C9 h2⟩
 .exact⟨⟨A7,h1⟩,h2⟩
theorem Lp{d:Int}(h0:0<=d)(h:d<=109572):WdB (bC d)/\∀c∈bC d,prB c=true:=by obtain⟨A,B,C,e,a1,a2,a3,a4,a5,a6⟩:=KA h0 h;rw[e];exact⟨⟨A7,Za (Uw a4) (KO C9 (Za (Uw a5) (KO C9 (Uw a6))))⟩,uG (λc hc=>yH (a4 c hc)) (xw C9 (uG (λc hc=>yH (a5 c hc)) (xw C9 λc hc=>yH (a6 c hc))))⟩
theorem a1c(hW:EnW E)(hv:vty t E=true)(hn:inB n (bnd t E)=true)(hI:jh n):WdB (vaT n t E)/\∀c∈vaT n t E,prB c=true:=by
 refine PR (P:=λt=>WdB (vaT n t E)/\∀c∈vaT n t E,prB c=true) hv hn ?_ ?_ ?_ ?_ ?_ ?_
 .intro g1 g2;unfold vaT;simp only[O7 (rfl:(1:Int)=1),o7];cases D8 n 0
  .exact⟨(⟨C9,C9⟩:WdB [116,114,117,101]),(by decide:∀c∈([116,114,117,101]:List UInt8),prB c=true)⟩
  .exact⟨(⟨C9,C9⟩:WdB [102,97,108,115,101]),(by decide:∀c∈([102,97,108,115,101]:List UInt8),prB c=true)⟩
 .intro g1 g2;exact ZT hI
 .intro g1 g2;exact a1b (k:=2) hI o5
 .intro g1 g2;obtain⟨⟨a1,a2⟩,a3⟩:=a1b (n:=n) (k:=4) hI o5;exact⟨(⟨A7,Za a2 (KO C9 (λx hx=>by cases hx))⟩:WdB (pY n 4++[37])),uG a3 (xw C9 (λc hc=>by cases hc))⟩
 .intro g1 g2;exact Lp g1 g2
 .intro e i he hm g1 g2 hv0;have hml:=hW.mle e hm;have g2' :n<x8 e.2:=by rw[cu (by unfold jh x8;omega)]at g2;omega
  obtain⟨x,hx,hxm⟩:=tY g1 g2';have e1:vaT n (6,i) E=x:=by unfold vaT gtN;simp (disch:=decide) only[O5,o6];rw[he,V5,hx];rfl
  rw[e1];have:=hW.mid e hm x hxm;exact⟨JZ this,Ip this⟩
theorem a4I(hW:EnW E)(hv:vty t E=true)(hn:inB n (bnd t E)=true)(hI:jh n):BK (vaT n t E) t E=some ((t.1,t.2,n),0):=by
 have hw:iZ n t E=some true:=by unfold iZ;rw[CX,o9];obtain⟨b1,b2⟩:=vV hn;rw[Z4 b1,Z4 b2];rfl
 have key:jv (vaT n t E) t E=some (n,0):=by
  refine PR (P:=λt=>jv (vaT n t E) t E=some (n,0)) hv hn ?_ ?_ ?_ ?_ ?_ ?_
  .intro g1 g2;have:n=0\/n=1:=o5;rcases this with rfl|rfl<;>rfl
  .intro g1 g2;unfold jv;rw[show vaT n (2,0) E=Lib.itoa n from rfl,b2T o5];rfl
  .intro g1 g2;unfold jv;rw[show vaT n (3,0) E=pY n 2 from rfl,show fF (pY n 2) 2=some (n,0)from b2S (k:=2) o5 o5];rfl
  .intro g1 g2;have l4:=Dc (n:=n) (k:=4) hI o5;have hc:wE (pY n 4++[37]) [37]=some (pY n 4,true):=by
    have e1:N8 .i64 (x8 (pY n 4++[37])) (x8 ([37]:List UInt8))=((pY n 4).length:Int):=by rw[cu (by unfold jh x8;simp;omega)];unfold x8;simp
    unfold wE tV tX;rw[Z4 (by unfold x8;simp<;>omega),o7,e1,qF o5 (by simp<;>omega),o9,I7,Y3,show seq [37] [37]=true from rfl,o9,E8,o6,zC o5 (by simp<;>omega),o9,I7,cZ];rfl
   unfold jv;rw[show vaT n (4,0) E=pY n 4++[37]from rfl,hc];simp (disch:=decide) only[O5,O7,o6,o7,o9,E8];rw[show fF (pY n 4) 4=some (n,0)from b2S (k:=4) o5 o5];rfl
  .intro g1 g2;unfold jv;rw[show vaT n (5,0) E=bC n from rfl,xx g1 g2];rfl
  .intro e i he hm g1 g2 hv0;have hml:=hW.mle e hm;have g2' :n<x8 e.2:=by rw[cu (by unfold jh x8;omega)]at g2;omega
   obtain⟨x,hx,hxm⟩:=tY g1 g2';have e1:vaT n (6,i) E=x:=by unfold vaT gtN;simp (disch:=decide) only[O5,o6];rw[he,V5,hx];rfl
   rw[e1];unfold jv;simp (disch:=decide) only[O5,o6];rw[he,o9];obtain⟨c1,c2,c3⟩:=BN hx;have:=Om e.2 (λv=>seq v x) (λi=>(i:Int)) (λi=>((i:Int),(0:Int))) (ε:=PUnit) o5 (f:=λ(x_1:Int)=>
         l7 (I9 x_1 (x8 e.2))
          (l9 (O0 e.2 x_1) λ(v:List UInt8)=>
           l7 (seq v x) (some (Out.rt (x_1,0))) (some (Out.nx (H8 IntKind.i64 x_1 1))))
          (some (Out.ex PUnit.unit))) (λi a ha=>by
     have:=(ai.1 ha).1;simp only[U5 ha,o7,P5,ha,o9];rw[eP o5];cases seq a x<;>rfl) n.toNat x c1 (pI.2 rfl) (λv hx=>qX.2 (hW.mun e hm _ _ c1 v hx))
   refine X3 this ?_;rw[o9,kD,c2]
 unfold BK;rw[rZ,hv,o9,E8,o6,key,o9];simp only[O7 (rfl:(0:Int)=0),E8,o6];rw[hw,o9];rfl
end
end
section
theorem Vq{w:List UInt8}(c:UInt8)(h:c∈w)(hc:c≠101/\c≠110/\c≠100):seq w [101,110,100]=false:=by
 refine qX.2 λe=>?_;rw[e]at h;simp only[x9,J9,or_false]at h;rcases h with h|h|h
 .exact hc.1 h
 .exact hc.2.1 h
 .exact hc.2.2 h
theorem b3G{d:List UInt8}(h:Dg d)(h0:d≠[]):∃c,c∈d/\c≠101/\c≠110/\c≠100:=by
 cases d with
 |nil=>exact absurd rfl h0|cons c t=>have:=Je (h c A7);refine⟨c,A7,?_,?_,?_⟩<;>(rintro rfl;exact absurd this C9)
variable {d:Int}
theorem Yy(h0:0<=d)(h:d<=109572):seq (bC d) [101,110,100]=false:=by obtain⟨A,B,C,e,a1,a2,a3,a4,a5,a6⟩:=KA h0 h;rw[e];exact Vq 45 A7 C9
theorem b0N{n:Int}(h:jh n):seq (Lib.itoa n) [101,110,100]=false:=by
 unfold jh at h;unfold Lib.itoa;split
 .exact Vq 45 A7 C9
 .obtain⟨c,h1,h2⟩:=b3G (Ad n.toNat) (YA n.toNat o5).1;exact Vq c h1 h2
theorem B_{n:Int}{k:Nat}(h:jh n)(hk:1<=k/\k<=9):(46:UInt8)∈pY n k:=by unfold jh at h;obtain⟨d,f,e,-⟩:=qA (u:=n.natAbs) (k:=k) o5 hk;unfold pY;rw[e];split<;>simp
variable {ws:List (List UInt8)}{lo:Int}{hi:Int}
section
variable {E:List U6} {t:Int×Int} {n:Int}
theorem c2r(hW:EnW E)(hv:vty t E=true)(hn:inB n (bnd t E)=true)(hI:jh n):seq (vaT n t E) [101,110,100]=false:=by
 refine PR (P:=λt=>seq (vaT n t E) [101,110,100]=false) hv hn ?_ ?_ ?_ ?_ ?_ ?_
 .intro g1 g2;have:n=0\/n=1:=o5;rcases this with rfl|rfl<;>rfl
 .intro g1 g2;exact b0N hI
 .intro g1 g2;exact Vq 46 (B_ (k:=2) hI o5) C9
 .intro g1 g2;exact Vq 46 (dP [37] (B_ (n:=n) (k:=4) hI o5)) C9
 .intro g1 g2;exact Yy g1 g2
 .intro e i he hm g1 g2 hv0;have hml:=hW.mle e hm;have g2' :n<x8 e.2:=by rw[cu (by unfold jh x8;omega)]at g2;omega
  obtain⟨x,hx,hxm⟩:=tY g1 g2';have e1:vaT n (6,i) E=x:=by unfold vaT gtN;simp (disch:=decide) only[O5,o6];rw[he,V5,hx];rfl
  rw[e1];exact Nb (hW.mid e hm x hxm) (by decide+kernel)
theorem b1w(h0:0<=d)(h:d<=109572)(hw:LnW (bC d::ws)):bW (oG (bC d::ws)) false=some (d,0,oG ws):=by unfold bW;rw[yE hw,o9];simp only[E8,o6];rw[xx h0 h];rfl
theorem b4d(h0:0<=d)(h:d<=109573)(hw:LnW (enS d::ws)):bW (oG (enS d::ws)) true=some (d,0,oG ws):=by
 unfold bW;rw[yE hw,o9];simp only[E8,o6,o7];unfold enS;by_cases hd:d=109573
 .subst hd;rfl
 .rw[O5 hd,o6,Yy h0 o5,o6,xx h0 o5];rfl
theorem a8r(hW:EnW E)(hv:vty t E=true)(hn:inB n (bnd t E)=true)(hI:jh n)(hw:LnW (vaT n t E::ws)):dR (enR E) (oG (vaT n t E::ws)) t false=some (n,0,oG ws):=by unfold dR;rw[yE hw,o9];simp only[E8,o6];rw[a4I hW hv hn hI];rfl
def hiT(n:Int)(t:Int×Int)(E:List U6):List UInt8:=l7 (U2 n (bnd t E).2) (vaT n t E) [101,110,100]
theorem b0x(hW:EnW E)(hv:vty t E=true):-1000000000000000<=(bnd t E).1/\(bnd t E).2<=1000000000000000/\-1<=(bnd t E).2:=by
 obtain⟨k,i⟩:=t;rcases Dl hv with h|h|h|h|h|h
 .obtain⟨rfl,rfl⟩:k=1/\i=0:=h;rw[LK E A7];decide
 .obtain⟨rfl,rfl⟩:k=2/\i=0:=h;rw[LK E A7];decide
 .obtain⟨rfl,rfl⟩:k=3/\i=0:=h;rw[LK E A7];decide
 .obtain⟨rfl,rfl⟩:k=4/\i=0:=h;rw[LK E A7];decide
 .obtain⟨rfl,rfl⟩:k=5/\i=0:=h;rw[LK E A7];decide
 .obtain rfl:k=6:=h;obtain⟨e,he,hm⟩:=KJ hv rfl;have hml:=hW.mle e hm;rw[b2y hv he,cu (by unfold jh x8;omega)];unfold x8;refine⟨A7,?_,?_⟩<;>simp only<;>omega
structure HiOk (E:List U6) (t:Int×Int) (lo hi:Int):Prop where
 l:inB lo (bnd t E)=true
 h:hi=(bnd t E).2+1\/inB hi (bnd t E)=true
 il:jh lo
 ih:jh hi
theorem b6Y(hW:EnW E)(hv:vty t E=true)(h1:lo<hi)(h2:inB lo (bnd t E)=true)(h3:inB (N8 .i64 hi 1) (bnd t E)=true)(i1:jh lo)(i2:jh hi):HiOk E t lo hi:=by
 refine⟨h2,?_,i1,i2⟩;obtain⟨b1,b2⟩:=vV h2;have e:N8 .i64 hi 1=hi -1:=cu (by unfold jh at*;omega);rw[e]at h3;obtain⟨c1,c2⟩:=vV h3;by_cases g:hi<=(bnd t E).2
 .right;unfold inB;rw[Z4 o5,Z4 g];rfl
 .left;omega
theorem b9x(hW:EnW E)(hv:vty t E=true)(h:HiOk E t lo hi)(hw:LnW (hiT hi t E::ws)):dR (enR E) (oG (hiT hi t E::ws)) t true=some (hi,0,oG ws):=by
 have hb:=b0x hW hv;unfold dR;rw[yE hw,o9];simp only[E8,o6,o7];rcases h.h with e|e
 .have:hiT hi t E=[101,110,100]:=by unfold hiT;rw[dF o5];rfl
  rw[this,show seq [101,110,100] [101,110,100]=true from rfl,o7,CX,o9,dw bg,e]
 .have:hiT hi t E=vaT hi t E:=by unfold hiT;rw[Z4 (vV e).2];rfl
  rw[this,c2r hW hv e h.ih,o6,a4I hW hv e h.ih];rfl
theorem b3p(hW:EnW E)(hv:vty t E=true)(h:HiOk E t lo hi):WdB (hiT hi t E)/\∀c∈hiT hi t E,prB c=true:=by
 rcases h.h with e|e
 .have:hiT hi t E=[101,110,100]:=by unfold hiT;rw[dF o5];rfl
  rw[this];exact⟨⟨C9,C9⟩,C9⟩
 .have:hiT hi t E=vaT hi t E:=by unfold hiT;rw[Z4 (vV e).2];rfl
  rw[this];exact a1c hW hv e h.ih
theorem ZR(h0:0<=d)(h:d<=109573):WdB (enS d)/\∀c∈enS d,prB c=true:=by
 unfold enS;by_cases hd:d=109573
 .subst hd;exact⟨(⟨C9,C9⟩:WdB [101,110,100]),(by decide:∀c∈([101,110,100]:List UInt8),prB c=true)⟩
 .rw[O5 hd,o6];exact Lp h0 o5
structure RwT (E:List U6) (t:ax) (r:vU):Prop where
 d0:0<=r.1.1
 d1:r.1.1<=109572
 d2:r.1.2<=109573
 d3:0<=r.1.2
 hi:HiOk E t.2.1 r.2.1 r.2.2.1
 v:inB r.2.2.2 (bnd t.2.2.1 E)=true
 iv:jh r.2.2.2
theorem QP{t:ax}{r:vU}(hW:EnW E)(hk:vty t.2.1 E=true)(hv:vty t.2.2.1 E=true)(h:RwT E t r):Eb t r E=[bC r.1.1,enS r.1.2,vaT r.2.1 t.2.1 E,hiT r.2.2.1 t.2.1 E,vaT r.2.2.2 t.2.2.1 E]:=by
 have e1:hiS t r E=hiT r.2.2.1 t.2.1 E:=by
  unfold hiS hiT;cases g:U2 r.2.2.1 (bnd t.2.1 E).2
  .rfl
  .rcases h.hi.h with e|e
   .have:=jF.1 g;omega
   .exact a3e hW hk e h.hi.ih
 unfold Eb;rw[e1,a3e hW hk h.hi.l h.hi.il,a3e hW hv h.v h.iv]
theorem b4e{T:List ax}{S:List J8}{k:Int}{N:D9}{b:Bool}{t:ax}{r:vU}(hW:EnW E)(hT:T.length<=1000)(hk:vty t.2.1 E=true)(hv:vty t.2.2.1 E=true)(h:RwT E t r)(hl:t.2.2.2.length<=1000)(hw:LnW (Eb t r E)):
  mQ (rdS E (T++[t]) S k N b) (oG (Eb t r E))=some (0,rdS E (T++[(t.1,t.2.1,t.2.2.1,t.2.2.2++[r])]) S k N b,oG []):=by
 obtain⟨e1,e2,e3,e4,e5,e6⟩:=EW (S:=T) (s:=t) o5;rw[QP hW hk hv h]at hw ⊢;have w1:=zB hw;have w2:=zB w1;have w3:=zB w2;have w4:=zB w3;unfold mQ;rw[e3,o7,b1w h.d0 h.d1 hw,o9];simp only[O7 (rfl:(0:Int)=0),E8,o6];rw[b4d h.d3 h.d2 w1,o9];simp only[O7 (rfl:(0:Int)=0),E8,o6,e2,e4,o9];rw[a8r hW hk h.hi.l h.hi.il w2,o9];simp only[O7 (rfl:(0:Int)=0),E8,o6,e4,o9];rw[b9x hW hk h.hi w3,o9];simp only[O7 (rfl:(0:Int)=0),E8,o6,e4,o9];rw[a8r hW hv h.v h.iv w4,o9];simp only[O7 (rfl:(0:Int)=0),E8,o6,e4,o9];rw[uN G8,o9,Ap,o7,KD,o9];simp only[e5]
end
end
section
def PtT(w:List UInt8):Prop:=(∀c∈w,c≠32/\c≠34)/\w≠[105,115]
def PtI(L:List It):Prop:=∀k,some k∈L->PtT k.2.1
theorem nZ{A B:List It}(ha:PtI A)(hb:PtI B):PtI (A++B):=λk hk=>(G5.1 hk).elim (ha k) (hb k)
variable {B:List It}
theorem aC{k:X4}(ha:PtT k.2.1)(hb:PtI B):PtI (some k::B):=λj hj=>by
 rcases x9.1 hj with e|hj
 .cases e;exact ha
 .exact hb j hj
theorem rM(hb:PtI B):PtI (none::B):=λj hj=>by
 rcases x9.1 hj with e|hj
 .cases e
 .exact hb j hj
theorem lC:PtI []:=λj hj=>by cases hj
theorem b2U{w:List UInt8}(h:iU w=true):PtT w:=by
 refine⟨λc hc=>?_,qX.1 (Nb h (by decide+kernel))⟩;cases w with
 |nil=>cases h|cons d r=>rw[Aj]at h;simp only[D5]at h;have:=ae.1 h.1.2 c hc;constructor<;>(rintro rfl;revert this;decide)
theorem Zj{d:List UInt8}(h:∀c∈d,wF c=true\/c=46\/c=37\/c=45):PtT d:=by
 refine⟨λc hc=>?_,?_⟩
 .rcases h c hc with h|rfl|rfl|rfl
  .have:=Je h;constructor<;>(rintro rfl;exact absurd this C9)
  .decide
  .decide
  .decide
 .rintro rfl;rcases h 105 A7 with h|h|h|h<;>exact absurd h C9
theorem uk{c:UInt8}(h:c≠32/\c≠34):PtT [c]:=⟨λx hx=>by rw[U8.1 hx];exact h,A7⟩
theorem b7s{b:Bool}{x y:Option (List UInt8)}(hx:∃s,x=some s/\PtT s)(hy:∃s,y=some s/\PtT s):∃s,l7 b x y=some s/\PtT s:=by cases b<;>assumption
instance (w:List UInt8):Decidable (PtT w):=inferInstanceAs (Decidable (_/\_))
theorem KW(k:Int):PtT (dU k):=by
 have:∃s,wZ k=some s/\PtT s:=by
  unfold wZ
  repeat (refine b7s ⟨_,rfl,C9⟩ ?_)
  exact⟨_,rfl,C9⟩
 obtain⟨s,h,h2⟩:=this;unfold dU;rw[h];exact h2
theorem a4i(k:Int):PtT (kP k):=by
 unfold kP fA;simp only[tC];repeat' split
 all_goals (simp only[V5,Option.getD_none];decide)
theorem b4a(k:Int):PtT (kw k).1:=by
 unfold kw lI;simp only[tC];repeat' split
 all_goals (simp only[V5,Option.getD_none];decide)
theorem a7V{k:Int}{u:Nat}(hu:u<18446744073709551616):PtT (IL k u):=by
 have hd:∀c∈Lib.decDigits u,wF c=true\/c=46\/c=37\/c=45:=λc hc=> .inl (Ad u c hc);have hf:∀j:Nat,1<=j/\j<=9->∀c∈uK u j,wF c=true\/c=46\/c=37\/c=45:=by
  intro j hj c hc;obtain⟨d,f,e,hd,hf,-⟩:=qA (u:=u) (k:=j) hu hj;rw[e]at hc;rcases G5.1 hc with hc|hc
  .exact .inl (hd c hc)
  .rcases x9.1 hc with rfl|hc
   .exact .inr (.inl rfl)
   .exact .inl (hf c hc)
 unfold IL;cases D8 k 2
 .rw[o6];cases D8 k 3
  .rw[o6];refine Zj λc hc=>?_;rcases G5.1 hc with hc|hc
   .exact hf 4 o5 c hc
   .exact .inr (.inr (.inl (U8.1 hc)))
  .exact Zj (hf 2 o5)
 .exact Zj hd
theorem b1t{d:Int}(h0:0<=d)(h:d<=109572):PtT (bC d):=by
 obtain⟨A,B,C,e,a1,a2,a3,a4,a5,a6⟩:=KA h0 h;rw[e];refine Zj λc hc=>?_;simp only[G5,x9]at hc;rcases hc with hc|rfl|hc|rfl|hc
 .exact .inl (a4 c hc)
 .simp
 .exact .inl (a5 c hc)
 .simp
 .exact .inl (a6 c hc)
theorem ND{l:List (List UInt8)}{i:Int}(h:∀s∈l,iU s=true):PtT (gtN l i):=by
 unfold gtN;cases hl:O0 l i with
 |none=>exact(by decide:PtT [])|some s=>exact b2U (h s (ww hl))
theorem b3Y{k m:Int}(hk:k=1\/k=2\/k=3\/k=4\/k=5)(hm:jh m)(hd:k=5->0<=m/\m<=109572):PtI (OC k m):=by
 unfold OC;have hu:m.natAbs<18446744073709551616:=by unfold jh at hm;omega
 cases g1:D8 k 1
 case true=>
  refine aC ?_ lC;cases D8 m 0
  .exact(by decide:PtT [116,114,117,101])
  .exact(by decide:PtT [102,97,108,115,101])
 simp only[o6];cases g5:D8 k 5
 case true=>have:=hd (iK.1 g5);exact aC (b1t this.1 this.2) lC
 simp only[o6];cases I9 m 0
 .exact aC (a7V hu) lC
 .exact aC (uk C9) (aC (a7V hu) lC)
theorem a4j{L:List It}(h:PtI L)(c d:Int):PtI (wiI L c d):=by
 unfold wiI;cases I9 c d
 .exact h
 .exact nZ (nZ (aC (uk C9) lC) h) (aC (uk C9) lC)
variable {n:Int×Int}
section
variable {N:D9} (hN:NmI N)
include hN
theorem b1u(ha:arF n.1=0)(hm:jh n.2)(h:flS n N=0):PtI (FC n N):=by
 obtain⟨k,m⟩:=n;unfold FC;cases g:U2 k 5
 case true=>
  have h5:=jF.1 g;have hk:k=1\/k=2\/k=3\/k=4\/k=5:=by rcases ar0 ha with h|h|h|h|h|h|h|h|h|h|h|h|h|h<;>simp only at h<;>omega
  refine b3Y hk hm λe=>?_;subst e;exact DI (N:=N) o5 rfl h
 simp only[o6];cases D8 k 6
 case true=>
  refine aC ?_ (aC (uk C9) (aC ?_ lC))
  .show PtT ((O0 N.1 (dA .i64 m 16)).getD ([],[])).1;cases hl:O0 N.1 (dA .i64 m 16)with
   |none=>exact(by decide:PtT [])|some e=>exact b2U (hN.e e (ww hl)).1
  .show PtT (gtN ((O0 N.1 (dA .i64 m 16)).getD ([],[])).2 (jc m 16));cases hl:O0 N.1 (dA .i64 m 16)with
   |none=>exact ND (λs hs=>by cases hs)|some e=>exact ND (hN.e e (ww hl)).2
 simp only[o6];cases D8 k 7
 case true=>exact aC (ND hN.i) lC
 simp only[o6];cases D8 k 8
 case true=>exact aC (ND hN.d) lC
 simp only[o6];cases D8 k 9
 case true=>exact aC (by decide:PtT [116,111,100,97,121]) lC
 simp only[o6];cases D8 k 35
 case true=>exact aC (by decide:PtT [99,111,117,110,116]) (aC (uk C9) (aC (uk C9) lC))
 exact aC (KW k) (aC (uk C9) (aC (ND hN.m) (aC (uk C9) lC)))
theorem b3Z{num:Bool}{L:List It}{c:Int}(h:PtI L):PtI (a5D n N num L c):=by
 unfold a5D;cases D8 n.1 33
 case true=>exact nZ (nZ (aC (KW _) (aC (uk C9) (aC (ND hN.t) (aC (uk C9) (rM lC))))) h) (aC (uk C9) lC)
 simp only[o6];cases D8 n.1 34
 case true=>exact nZ (nZ (aC (KW _) (aC (uk C9) (aC (ND hN.t) (aC (uk C9) (rM lC))))) h) (aC (uk C9) (rM (aC (a4i _) (aC (uk C9) lC))))
 simp only[o6];cases D8 n.1 25
 case true=>exact nZ (aC (by decide:PtT [110,111,116]) (rM lC)) (a4j h _ _)
 simp only[o6];cases D8 n.1 10
 case true=>
  refine nZ (aC (uk C9) lC) ?_;cases num
  .exact a4j h _ _
  .exact nZ (nZ (aC (uk C9) lC) h) (aC (uk C9) lC)
 exact nZ (nZ (aC (KW _) (aC (uk C9) lC)) h) (aC (uk C9) lC)
omit hN in
theorem b4b{A B:List It}{c d:Int}(h:PtI A)(g:PtI B):PtI (JU n A c B d):=by
 unfold JU;cases SE n.1
 case true=>exact nZ (nZ (nZ (nZ (aC (KW _) (aC (uk C9) lC)) h) (aC (uk C9) (rM lC))) g) (aC (uk C9) lC)
 simp only[o6];cases WZ n.1
 case true=>exact nZ (nZ (nZ (nZ (aC (KW _) (aC (uk C9) lC)) h) (aC (uk C9) (rM lC))) g) (aC (uk C9) (rM (aC (a4i _) (aC (uk C9) lC))))
 exact nZ (nZ (a4j h _ _) (rM (aC (b4a _) (rM lC)))) (a4j g _ _)
theorem Hf:∀(t:XT),t.wf->(∀n∈t.post,jh n.2)->(∀n∈t.post,flS n N=0)->PtI (itT N t)
 | .l0 n,hw,hI,hz=>b1u hN hw (hI n (by simp[XT.post])) (hz n (by simp[XT.post]))| .l1 n a,hw,hI,hz=>b3Z hN (Hf a hw.2 (λm hm=>hI m (by simp[XT.post,hm])) (λm hm=>hz m (by simp[XT.post,hm])))| .l2 n a b,hw,hI,hz=>b4b (Hf a hw.2.1 (λm hm=>hI m (by simp[XT.post,hm])) (λm hm=>hz m (by simp[XT.post,hm]))) (Hf b hw.2.2 (λm hm=>hI m (by simp[XT.post,hm])) (λm hm=>hz m (by simp[XT.post,hm])))| .l3 n a b c,hw,hI,hz=>by have ha:=Hf a hw.2.1 (λm hm=>hI m (by simp[XT.post,hm])) (λm hm=>hz m (by simp[XT.post,hm]));have hb:=Hf b hw.2.2.1 (λm hm=>hI m (by simp[XT.post,hm])) (λm hm=>hz m (by simp[XT.post,hm]));have hc:=Hf c hw.2.2.2 (λm hm=>hI m (by simp[XT.post,hm])) (λm hm=>hz m (by simp[XT.post,hm]));exact nZ (nZ (nZ (nZ (nZ (aC (by decide:PtT [105,102]) (rM lC)) ha) (rM (aC (by decide:PtT [116,104,101,110]) (rM lC)))) hb) (rM (aC (by decide:PtT [101,108,115,101]) (rM lC)))) hc
end
theorem a3D{x:UInt8}{sub:List UInt8} :∀{a r:List UInt8},(∀c∈a,c≠x)->zT (x::sub) a r
 |[],r,h=>trivial|c::a,r,h=>by
  refine⟨?_,a3D λy hy=>h y (by simp[hy])⟩;have:=h c A7;simp only[List.isPrefixOf];have:(x==c)=false:=by simpa[beq_eq_false_iff_ne]using λe=>this e.symm
  rw[this];rfl
def sIs:List UInt8:=[32,105,115,32]
theorem b6r{k:X4}{X:List UInt8}(hk:TokOk k)(hp:PtT k.2.1)(hs:D_ k\/HdS X):([105,115,32]:List UInt8).isPrefixOf (k.2.1++X)=false:=by
 cases hq:([105,115,32]:List UInt8).isPrefixOf (k.2.1++X)with
 |false=>rfl|true=>
  exfalso;obtain⟨r,hr⟩:=jH.1 hq;obtain⟨c,t,e,-⟩:=hk.ne;rw[e]at hr;simp only[H7,G7,F8]at hr;obtain⟨rfl,hr⟩:=hr;have hX:HdS X:=by
   rcases hs with⟨c,hc,e2⟩|h
   .rw[e2]at e;simp only[F8]at e;rcases hc with rfl|rfl|rfl|rfl|rfl|rfl|rfl<;>exact absurd e.1 C9
   .exact h
  cases t with
  |nil=>have:=hX 115 _ hr.symm;exact absurd this C9|cons d t=>
   simp only[H7,F8]at hr;obtain⟨rfl,hr⟩:=hr;cases t with
   |nil=>exact hp.2 e|cons b t=>simp only[H7,F8]at hr;obtain⟨rfl,hr⟩:=hr;exact(hp.1 32 (by rw[e];simp)).1 rfl
theorem YL:∀(L:List It) (x:List UInt8),WSR L (sIs++x)->PtI L->zT sIs (bZ L) (sIs++x)
 |[],x,h,hp=>trivial|none::L,x,h,hp=>by
  refine⟨?_,YL L x h.2 (λk hk=>hp k (by simp[hk]))⟩;show(([32,105,115,32]:List UInt8)).isPrefixOf (32::(bZ L++(sIs++x)))=false;show(([105,115,32]:List UInt8)).isPrefixOf (bZ L++(sIs++x))=false;cases L with
  |nil=>rfl|cons k L=>
   cases k with
   |none=>rfl|some k=>show(([105,115,32]:List UInt8)).isPrefixOf ((k.2.1++bZ L)++(sIs++x))=false;rw[E9];exact b6r h.2.1 (hp k A7) h.2.2.1
 |some k::L,x,h,hp=>by show zT sIs (k.2.1++bZ L) (sIs++x);rw[E_];exact⟨a3D λc hc=>((hp k A7).1 c hc).1,YL L x h.2.2 (λk hk=>hp k (by simp[hk]))⟩
theorem YJ:∀(L:List It),PtI L->∀c∈bZ L,c≠34
 |[],hp=>λc hc=>by cases hc
 |none::L,hp=>λc hc=>by
  rcases x9.1 hc with rfl|hc
  .decide
  .exact YJ L (λk hk=>hp k (by simp[hk])) c hc
 |some k::L,hp=>λc hc=>by
  rcases G5.1 hc with hc|hc
  .exact((hp k A7).1 c hc).2
  .exact YJ L (λk hk=>hp k (by simp[hk])) c hc
def Zy:List UInt8:=[32,115,114,99,32,34]
theorem UN:∀(a r:List UInt8),(∀c∈a,c≠34)->(r=[]\/∃x,r=Zy++x)->zT Zy a r
 |[],r,h,hr=>trivial|c::a,r,h,hr=>by
  refine⟨?_,UN a r (λy hy=>h y (by simp[hy])) hr⟩;cases hq:Zy.isPrefixOf (c::(a++r))with
  |false=>rfl|true=>
   exfalso;obtain⟨z,hz⟩:=jH.1 hq;have h5:((c::a)++r)[5]? =some 34:=by rw[H7,←hz];rfl
   by_cases hl:5<(c::a).length
   .rw[L8 hl]at h5;exact h 34 (sV h5) rfl
   .rw[F5 o5]at h5;rcases hr with rfl|⟨x,rfl⟩
    .simp at h5
    .have hj:5 -(c::a).length=0\/5 -(c::a).length=1\/5 -(c::a).length=2\/5 -(c::a).length=3\/5 -(c::a).length=4:=by simp only[A8]at hl ⊢;omega
     rcases hj with e|e|e|e|e<;>rw[e,L8 C9]at h5<;>exact absurd h5 C9
structure ExT (t:List UInt8) (e:List (Int×Int)) (N:D9):Prop where
 p:t.length<=65536->tK t N=some (e,0,0)
 n:t≠[]
 pr:∀c∈t,prB c=true
 is:∀x,zT sIs t (sIs++x)
 q:∀c∈t,c≠34
theorem KH{l:Z7}{s:J8}{e:List (Int×Int)}{t:Int×Int}(hN:NmOk (nmS l s))(hD:NmD (nmS l s))(hI:∀n∈e,jh n.2)(h:Gl e (uT l s) t=0):ExT (Bg e (nmS l s)).1 e (nmS l s):=by
 obtain⟨T,hs,hp,hw,hz⟩:=Rh hI h;have hI' :∀n∈T.post,jh n.2:=hp▸hI;have hff:ffS (nmS l s) e=0:=by
  rw[hp];have:∀L:List (Int×Int),(∀n∈L,flS n (nmS l s)=0)->ffS (nmS l s) L=0:=by
   intro L;induction L with
   |nil=>intro _;rfl
   |cons n L ih=>intro hL;show l7 (D8 (flS n (nmS l s)) 0) (ffS (nmS l s) L) (flS n (nmS l s))=0;rw[O7 (hL n A7),o7];exact ih λm hm=>hL m (by simp[hm])
  exact this _ hz
 have hf:Bg e (nmS l s)=((txT (nmS l s) T).1,0):=by unfold Bg;rw[hs];simp only;rw[O7 hff];rfl
 have hfl:=Cj T hw hI' hz;have hws:=Ou hD.id T hw hI' hz;have hpt:=Hf hD.id T hw hI' hz;have hpr:=b3I hN hD hI (by rw[hf]);rw[hf]at hpr;rw[hf];refine⟨λhl=>a7O hN hD hI (by rw[hf]) hl,hpr.1,hpr.2,λx=>?_,?_⟩
 .simp only;rw[←hfl];exact YL _ x (hws.ws _ (qU C9 _)) hpt
 .simp only;rw[←hfl];exact YJ _ hpt
end
section
def Dv:List (List UInt8)->List UInt8->G6
 |[],T=>(T,true)|w::ws,T=>(w++(spW ws++32::T),true)
structure LnT (ps:List (List UInt8)) (T:List UInt8):Prop where
 w:∀w∈ps,WdB w
 l:(spW ps).length+T.length<=1000000
variable {w:List UInt8}
theorem iI{ps:List (List UInt8)}{T:List UInt8}(h:LnT (w::ps) T):LnT ps T:=by refine⟨λv hv=>h.w v (by simp[hv]),?_⟩;have:=h.l;rw[vI]at this;simp only[D6,A8]at this;omega
theorem qw{ps:List (List UInt8)}{T:List UInt8}(h:LnT (w::ps) T):H9 (Dv (w::ps) T)=some (w,true,Dv ps T):=by
 have hl:=h.l;rw[vI]at hl;simp only[D6,A8]at hl;cases ps with
 |nil=>exact TQ (h.w w A7) (R:=T) G8|cons v vs=>rw[vI]at hl;simp only[D6,A8]at hl;have:=TQ (h.w w A7) (R:=v++(spW vs++32::T)) G8;show H9 (w++(spW (v::vs)++32::T),true)=some (w,true,(v++(spW vs++32::T),true));rw[vI,E9];exact this
abbrev scR(S:List J8):(Unit×Unit×List J8)×Unit×(Unit×Unit×Unit×Unit×Unit)×Unit:=((PUnit.unit,PUnit.unit,S),PUnit.unit,(PUnit.unit,PUnit.unit,PUnit.unit,PUnit.unit,PUnit.unit),PUnit.unit)
variable {d:Int}
section
variable {S:List J8} {s:J8} {ps:List (List UInt8)} {T:List UInt8}
theorem FT(h:LnT (w::ps) T):kU (Dv (w::ps) T) w=some (0,Dv ps T):=by unfold kU;rw[qw h,o9];simp only[E8,o6];rw[show seq w w=true from pI.2 rfl];rfl
theorem Pg(h0:0<=d)(h1:d<=109572)(h:LnT (bC d::ps) T):bW (Dv (bC d::ps) T) false=some (d,0,Dv ps T):=by unfold bW;rw[qw h,o9];simp only[E8,o6];rw[xx h0 h1];rfl
theorem TE(h0:0<=d)(h1:d<=109573)(h:LnT (enS d::ps) T):bW (Dv (enS d::ps) T) true=some (d,0,Dv ps T):=by
 unfold bW;rw[qw h,o9];simp only[E8,o6,o7];unfold enS;by_cases hd:d=109573
 .subst hd;rfl
 .rw[O5 hd,o6,Yy h0 o5,o6,xx h0 o5];rfl
theorem a4k{p:Int}(h0:1<=p)(h9:p<=9)(h:LnT (Lib.itoa p::ps) T):rH (Dv (Lib.itoa p::ps) T)=some (p,0,Dv ps T):=by unfold rH;rw[qw h,o9];simp only[E8,o6];rw[b2T o5,o9];simp only[O7 (rfl:(0:Int)=0),E8,o6];rw[dF o5,o6]
theorem a8p{f:dL}(hS:S.length<=1000)(hl:s.2.2.2.1.length<=1000)(hd:O0 s.2.2.2.1 d=some f)(hu:∀x∈s.2.2.2.1.take d.toNat,x.1≠f.1)(h:LnT (f.1::ps) T):qm (scR (S++[s])) (Dv (f.1::ps) T)=some (d,0,Dv ps T):=by
 obtain⟨e1,e2,e3,e4,e5,e6⟩:=EW (S:=S) (s:=s) o5;obtain⟨c1,c2,c3⟩:=BN hd;unfold qm;rw[qw h,o9];simp only[E8,o6];rw[e6,o9];have:=Om s.2.2.2.1 (λx=>seq x.1 f.1) (λi=>(i:Int)) (λi=>((i:Int),(0:Int),Dv ps T)) (ε:=PUnit) o5 (f:=λ(x_2:Int)=>
      l7 (I9 x_2 (x8 s.2.2.2.1))
       (l9 (O0 s.2.2.2.1 x_2) λ(x_3:dL)=>
        l7 (seq x_3.1 f.1) (some (Out.rt (x_2,0,Dv ps T))) (some (Out.nx (H8 IntKind.i64 x_2 1))))
       (some (Out.ex PUnit.unit))) (λi a ha=>by
     have:=(ai.1 ha).1;simp only[U5 ha,o7,P5,ha,o9];rw[eP o5];cases seq a.1 f.1<;>rfl) d.toNat f c1 (pI.2 rfl) (λx hx=>qX.2 (hu x hx))
 refine X3 this ?_;rw[o9,kD,c2]
theorem XP{p:Nat}{q:aH}(hS:S.length<=1000)(hl:s.2.2.2.2.length<=1000)(hp:s.2.2.2.2[p]? =some q)(hu:∀x∈s.2.2.2.2.take p,x.1≠q.1)(h:LnT (q.1::ps) T):nN (scR (S++[s])) (Dv (q.1::ps) T)=some ((p:Int),0,Dv ps T):=by
 obtain⟨e1,e2,e3,e4,e5,e6⟩:=EW (S:=S) (s:=s) o5;unfold nN;rw[qw h,o9];simp only[E8,o6];rw[e6,o9];have:=Om s.2.2.2.2 (λx=>seq x.1 q.1) (λi=>(i:Int)) (λi=>((i:Int),(0:Int),Dv ps T)) (ε:=PUnit) o5 (f:=λ(x_2:Int)=>
      l7 (I9 x_2 (x8 s.2.2.2.2))
       (l9 (O0 s.2.2.2.2 x_2) λ(x_3:aH)=>
        l7 (seq x_3.1 q.1) (some (Out.rt (x_2,0,Dv ps T))) (some (Out.nx (H8 IntKind.i64 x_2 1))))
       (some (Out.ex PUnit.unit))) (λi a ha=>by
     have:=(ai.1 ha).1;simp only[U5 ha,o7,P5,ha,o9];rw[eP o5];cases seq a.1 q.1<;>rfl) p q hp (pI.2 rfl) (λx hx=>qX.2 (hu x hx))
 refine X3 this ?_;rw[o9,kD]
def b3r(s:J8)(r:aH)(ov:List (List UInt8)):Prop:=(ov=[]/\r.2.2.1=-1)\/∃(p:Nat) (q:aH),ov=[[111,118,101,114],q.1]/\r.2.2.1=(p:Int)/\s.2.2.2.2[p]? =some q/\∀x∈s.2.2.2.2.take p,x.1≠q.1
def b3s(r:aH)(pr:List (List UInt8)):Prop:=(pr=[]/\r.2.2.2.1=0)\/(pr=[[112,114,105,111],Lib.itoa r.2.2.2.1]/\1<=r.2.2.2.1/\r.2.2.2.1<=9)
theorem b1y{r:aH}{f:dL}{ov pr:List (List UInt8)}{key:List UInt8}(hS:S.length<=1000)(h1:s.2.2.2.1.length<=1000)(h2:s.2.2.2.2.length<=1000)
  (hd:O0 s.2.2.2.1 r.2.1=some f) (hu:∀x∈s.2.2.2.1.take r.2.1.toNat,x.1≠f.1) (hov:b3r s r ov) (hpr:b3s r pr) (d0:0<=r.2.2.2.2.1.1) (d1:r.2.2.2.2.1.1<=109572) (d2:0<=r.2.2.2.2.1.2) (d3:r.2.2.2.2.1.2<=109573)
  (h:LnT ([r.1,[111,102],f.1]++(ov++(pr++[[102,114,111,109],bC r.2.2.2.2.1.1,[116,111],enS r.2.2.2.2.1.2,key]))) T):
  lW (scR (S++[s])) (Dv ([r.1,[111,102],f.1]++(ov++(pr++[[102,114,111,109],bC r.2.2.2.2.1.1,[116,111],enS r.2.2.2.2.1.2,key]))) T) ([],0,-1,0,(0,0),[],[],[])=some (key,0,(T,true),r.1,r.2.1,r.2.2.1,r.2.2.2.1,r.2.2.2.2.1,[],[],[]):=by
 have q1:seq [112,114,105,111] [111,118,101,114]=false:=rfl;have q2:seq [102,114,111,109] [111,118,101,114]=false:=rfl;have q3:seq [111,118,101,114] [111,118,101,114]=true:=rfl;have q4:seq [112,114,105,111] [112,114,105,111]=true:=rfl;have q5:seq [102,114,111,109] [112,114,105,111]=false:=rfl;have q6:seq [102,114,111,109] [102,114,111,109]=true:=rfl;have z:=O7 (rfl:(0:Int)=0);simp only[H7,G7]at h ⊢;have t1:=iI h;have t2:=iI t1;have t3:=iI t2;unfold lW;rw[qw h,o9];simp only[E8,o6];rw[FT t1,o9];simp only[z,E8,o6];rw[a8p hS h1 hd hu t2,o9];simp only[z,E8,o6];rcases hov with⟨rfl,ho⟩|⟨p,q,rfl,ho,hq,hqu⟩
 .rcases hpr with⟨rfl,hp⟩|⟨rfl,hp1,hp9⟩
  .simp only[H7,G7]at t3 ⊢;rw[qw t3,o9];simp only[q2,o6];rw[o9,Y2];simp only[q5,q6,E8,o6];have t4:=iI t3;have t5:=iI t4;have t6:=iI t5;have t7:=iI t6;rw[Pg d0 d1 t4,o9];simp only[z,E8,o6];rw[FT t5,o9];simp only[z,E8,o6];rw[TE d2 d3 t6,o9];simp only[z,E8,o6];rw[qw t7,o9];rw[ho,hp];rfl
  .simp only[H7,G7]at t3 ⊢;rw[qw t3,o9];simp only[q1,o6];rw[o9,Y2];have t4:=iI t3;simp only[q4,o7];rw[a4k hp1 hp9 t4,o9];simp only[z,E8,o6];have t5:=iI t4;rw[qw t5,o9];simp only[q6,E8,o6];have t6:=iI t5;have t7:=iI t6;have t8:=iI t7;have t9:=iI t8;rw[Pg d0 d1 t6,o9];simp only[z,E8,o6];rw[FT t7,o9];simp only[z,E8,o6];rw[TE d2 d3 t8,o9];simp only[z,E8,o6];rw[qw t9,o9];rw[ho];rfl
 .rcases hpr with⟨rfl,hp⟩|⟨rfl,hp1,hp9⟩
  .simp only[H7,G7]at t3 ⊢;rw[qw t3,o9];have t4:=iI t3;have t5:=iI t4;simp only[q3,o7];rw[XP hS h2 hq hqu t4,o9];simp only[z,E8,o6];rw[qw t5,o9,o9,Y2];simp only[q5,q6,E8,o6];have t6:=iI t5;have t7:=iI t6;have t8:=iI t7;have t9:=iI t8;rw[Pg d0 d1 t6,o9];simp only[z,E8,o6];rw[FT t7,o9];simp only[z,E8,o6];rw[TE d2 d3 t8,o9];simp only[z,E8,o6];rw[qw t9,o9];rw[ho,hp];rfl
  .simp only[H7,G7]at t3 ⊢;rw[qw t3,o9];have t4:=iI t3;have t5:=iI t4;simp only[q3,o7];rw[XP hS h2 hq hqu t4,o9];simp only[z,E8,o6];rw[qw t5,o9,o9,Y2];have t6:=iI t5;simp only[q4,o7];rw[a4k hp1 hp9 t6,o9];simp only[z,E8,o6];have t7:=iI t6;rw[qw t7,o9];simp only[q6,E8,o6];have t8:=iI t7;have t9:=iI t8;have t10:=iI t9;have t11:=iI t10;rw[Pg d0 d1 t8,o9];simp only[z,E8,o6];rw[FT t9,o9];simp only[z,E8,o6];rw[TE d2 d3 t10,o9];simp only[z,E8,o6];rw[qw t11,o9];rw[ho];rfl
end
end
section
def soT(s:List UInt8):List UInt8:=l7 (seq s []) [] (Zy++(s++[34]))
theorem b6l{s:List UInt8}(h:Tc s=true):∀c∈s,c≠34:=by unfold Tc at h;simp only[D5]at h;intro c hc e;have:=ae.1 h.2 c hc;rw[e]at this;exact absurd this C9
theorem a7a{G W:List UInt8}{e:List (Int×Int)}{N:D9}(hx:ExT G e N)(hl:(G++(sIs++W)).length<=65536):
  lg ((PUnit.unit,PUnit.unit,PUnit.unit),PUnit.unit,N,PUnit.unit) (G++(sIs++W),true)=some (e,0,(W,true)):=by
 unfold lg;have hc:=Yx (sub:=sIs) (a:=G) (x:=W) C9 (hx.is W) o5;unfold sIs at hc hl ⊢;simp only[E8,o6];rw[hc,o9];simp only[E8,o6];rw[hx.p (by simp at hl;omega),o9]
def YT(r:aH):List UInt8:=l7 (I9 0 (x8 r.2.2.2.2.2.1)) [119,104,101,110] [105,115]
def PE(r:aH)(N:D9):List UInt8:=l7 (I9 0 (x8 r.2.2.2.2.2.1)) ((Bg r.2.2.2.2.2.1 N).1++(sIs++((Bg r.2.2.2.2.2.2.1 N).1++soT r.2.2.2.2.2.2.2))) ((Bg r.2.2.2.2.2.2.1 N).1++soT r.2.2.2.2.2.2.2)
section
variable {E:List U6} {T:List ax} {S:List J8} {s:J8} {k:Int} {N N0:D9} {b:Bool}
theorem b1z{r:aH}{f:dL}{ov pr:List (List UInt8)}(hS:S.length<=1000)(h1:s.2.2.2.1.length<=1000)(h2:s.2.2.2.2.length<=1000)
  (hd:O0 s.2.2.2.1 r.2.1=some f) (hu:∀x∈s.2.2.2.1.take r.2.1.toNat,x.1≠f.1) (hov:b3r s r ov) (hpr:b3s r pr) (d0:0<=r.2.2.2.2.1.1) (d1:r.2.2.2.2.1.1<=109572) (d2:0<=r.2.2.2.2.1.2) (d3:r.2.2.2.2.1.2<=109573)
  (hn:b=true->N=N0) (hn2:b=false->jV (E,T,S++[s]) (N8 .i64 (x8 (S++[s])) 1)=some N0)
  (hg:r.2.2.2.2.2.1≠[]->ExT (Bg r.2.2.2.2.2.1 N0).1 r.2.2.2.2.2.1 N0) (hv:ExT (Bg r.2.2.2.2.2.2.1 N0).1 r.2.2.2.2.2.2.1 N0) (hs:Tc r.2.2.2.2.2.2.2=true) (hl:(PE r N0).length<=65536)
  (h:LnT ([r.1,[111,102],f.1]++(ov++(pr++[[102,114,111,109],bC r.2.2.2.2.1.1,[116,111],enS r.2.2.2.2.1.2,YT r]))) (PE r N0)):
  jD (rdS E T (S++[s]) k N b) (Dv ([r.1,[111,102],f.1]++(ov++(pr++[[102,114,111,109],bC r.2.2.2.2.1.1,[116,111],enS r.2.2.2.2.1.2,YT r]))) (PE r N0))
   =some (0,rdS E T (S++[(s.1,s.2.1,s.2.2.1,s.2.2.2.1,s.2.2.2.2++[r])]) k N0 true,((Bg r.2.2.2.2.2.2.1 N0).1++soT r.2.2.2.2.2.2.2,true)):=by
 obtain⟨e1,e2,e3,e4,e5,e6⟩:=EW (S:=S) (s:=s) o5;have z:=O7 (rfl:(0:Int)=0);unfold jD;rw[b1y hS h1 h2 hd hu hov hpr d0 d1 d2 d3 h,o9];simp only[z,E8,o6];have hnm:(l7 (I4 b)
    (l9 (jV (E,T,S++[s]) (N8 IntKind.i64 (x8 (S++[s])) 1)) λ(x:D9)=>
     some (((E,T,S++[s]),k,x,true):J3))
    (some ((E,T,S++[s]),k,N,b)))=some ((E,T,S++[s]),k,N0,true):=by
  cases b
  .rw[Z5,o7,hn2 rfl];rfl
  .rw[hn rfl];rfl
 refine X3 hnm ?_;rw[o9];simp only;have hgd:(l7 (seq (YT r) [119,104,101,110])
     (l9
      (lg ((PUnit.unit,PUnit.unit,PUnit.unit),PUnit.unit,N0,PUnit.unit) (PE r N0,true))
      λ(x_2:List L6×Int×G6)=>
      l7 (I4 (D8 x_2.2.1 0)) (some (Sum.inr (x_2.2.1,(((E,T,S++[s]),k,N0,true):J3),x_2.2.2)))
       (some
        (Sum.inl
         (x_2.2.2,r.1,r.2.1,r.2.2.1,r.2.2.2.1,r.2.2.2.2.1,x_2.1,([]:List L6),([]:List UInt8)))))
     (l7 (I4 (seq (YT r) [105,115])) (some (Sum.inr (2,((E,T,S++[s]),k,N0,true),(PE r N0,true)))) (some (Sum.inl ((PE r N0,true),r.1,r.2.1,r.2.2.1,r.2.2.2.1,r.2.2.2.2.1,[],[],[])))))
    =some ((Sum.inl (((Bg r.2.2.2.2.2.2.1 N0).1++soT r.2.2.2.2.2.2.2,true),r.1,r.2.1,r.2.2.1,r.2.2.2.1,r.2.2.2.2.1,r.2.2.2.2.2.1,[],[])):(G6×aH)⊕(Int×J3×G6)):=by
  unfold YT PE at*;cases gg:I9 0 (x8 r.2.2.2.2.2.1)
  .have he:r.2.2.2.2.2.1=[]:=by
    rw[oO]at gg;have:r.2.2.2.2.2.1.length=0:=by unfold x8 at gg;omega
    exact Y0.1 this
   rw[he];rfl
  .have he:r.2.2.2.2.2.1≠[]:=λe=>by rw[e]at gg;exact absurd gg C9
   rw[gg,o7]at hl;simp only[o7,show seq [119,104,101,110] [119,104,101,110]=true from rfl];rw[a7a (hg he) hl,o9];simp only[z,E8,o6]
 refine X3 hgd ?_;rw[o9,Y2];have hlv:((Bg r.2.2.2.2.2.2.1 N0).1++soT r.2.2.2.2.2.2.2).length<=65536:=by
  unfold PE at hl;cases gg:I9 0 (x8 r.2.2.2.2.2.1)<;>rw[gg]at hl
  .exact hl
  .rw[o7]at hl;rw[D6,D6]at hl;omega
 simp only[E8,o6];have hlr:dE s.2.2.2.2 [r]=some (s.2.2.2.2++[r]):=uN G8;unfold soT at hlv ⊢;cases gs:seq r.2.2.2.2.2.2.2 []
 .rw[gs,o6]at hlv;have hne:=qX.1 gs;rw[o6];have hl34:(r.2.2.2.2.2.2.2++[34]).length<=65536:=by simp only[D6]at hlv ⊢;omega
  have h1s:1<=r.2.2.2.2.2.2.2.length:=by
   cases hq:r.2.2.2.2.2.2.2 with
   |nil=>exact absurd hq hne|cons c t=>simp
  rw[show([32,115,114,99,32,34]:List UInt8)=Zy from rfl,Yx (sub:=Zy) C9 (UN _ _ hv.q (.inr ⟨_,rfl⟩)) (aV hlv C9),o9];simp only;rw[hv.p (by simp only[D6]at hlv ⊢;omega),o9];simp only[z,E8,o6,o7];have e7:N8 .i64 (x8 (r.2.2.2.2.2.2.2++[34])) 1=(r.2.2.2.2.2.2.2.length:Int):=by rw[cu (by unfold jh x8;simp at hl34 ⊢;omega)];unfold x8;simp
  have hix:rX (r.2.2.2.2.2.2.2++[34]) 34=some (r.2.2.2.2.2.2.2.length:Int):=by unfold rX AV;rw[show(Int.toNat 34).toUInt8=(34:UInt8)from rfl,a3L _ [] 34 (b6l hs),o9]
  rw[hix,o9,e7,O7 rfl,E8,o6,Y5 (by unfold x8;simp;omega),o6,zC o5 (by simp<;>omega),o9,I7,cZ,e3,o7];simp only[e2,e4,o9];rw[show((r.1,r.2.1,r.2.2.1,r.2.2.2.1,r.2.2.2.2.1,r.2.2.2.2.2.1,r.2.2.2.2.2.2.1,r.2.2.2.2.2.2.2):aH)=r from rfl,hlr,o9,Ap,o7];simp only[e5]
 .rw[gs,o7,E5]at hlv;have he:=pI.1 gs;rw[o7,E5];rw[show([32,115,114,99,32,34]:List UInt8)=Zy from rfl,a6G (sub:=Zy) C9 (UN _ _ hv.q (.inl rfl)) (aV hlv C9),o9];simp only;rw[hv.p hlv,o9];simp only[z,E8,o6];rw[e3,o7];simp only[e2,e4,o9];rw[show((r.1,r.2.1,r.2.2.1,r.2.2.2.1,r.2.2.2.2.1,r.2.2.2.2.2.1,r.2.2.2.2.2.2.1,[]):aH)=r from(by rw[←he]),hlr,o9,Ap,o7];simp only[e5]
end
end
section
def lnW(f:List UInt8)(ws:List (List UInt8)):List UInt8:=f++spW ws
theorem Nk{f:List UInt8}{ws:List (List UInt8)}(hf:f.length<=100)(h:(spW ws).length<=1000000):(f++spW ws).length<=1000000000:=by rw[D6];omega
variable {w:List UInt8}{n:List UInt8}{s:J8}{R':J3}
section
variable {E:List U6} {T:List ax} {S:List J8} {k:Int} {N:D9} {b:Bool}
theorem xU(h:w.all (λc=>I4 (decide (c=32)))=true)(h0:w≠[]):WdB w:=⟨h0,λx hx e=>by have:=ae.1 h x hx;rw[e]at this;exact absurd this C9⟩
theorem XR{ms:List (List UInt8)}(h:LnW (n::ms))(h0:ms≠[])(hm:ms.length<=1000)(hE:E.length<=1000):H6 (rdS E T S 0 N b) (lnW MH (n::ms))=some (0,rdS (E++[(n,ms)]) T S 0 N b):=by
 have hw:H9 (lnW MH (n::ms),true)=some (MH,true,oG (n::ms)):=SB (w:=MH) (ws:=n::ms) (by exact xU C9 C9) (Nk C9 h.2);have e:H6 (rdS E T S 0 N b) (lnW MH (n::ms))=l9 (lT (rdS E T S 0 N b) (oG (n::ms))) λ(x:Int×J3×G6)=>some (x.1,x.2.1):=by unfold H6;rw[hw];rfl
 rw[e,b1x h h0 hm hE];rfl
theorem a2o{t u:Int×Int}(hk:k=0\/k=1)(hU:EnU E)(ht:vty t E=true)(hu:vty u E=true)(h:LnW [n,tyS t E,tyS u E])(hT:T.length<=1000):H6 (rdS E T S k N b) (lnW EY [n,tyS t E,tyS u E])=some (0,rdS E (T++[(n,t,u,[])]) S 1 N b):=by
 have hw:H9 (lnW EY [n,tyS t E,tyS u E],true)=some (EY,true,oG [n,tyS t E,tyS u E]):=SB (w:=EY) (xU C9 C9) (Nk C9 h.2);have e:H6 (rdS E T S k N b) (lnW EY [n,tyS t E,tyS u E])=l9 (lq (rdS E T S 1 N b) (oG [n,tyS t E,tyS u E])) λ(x:Int×J3×G6)=>some (x.1,x.2.1):=by unfold H6;rw[hw];rcases hk with rfl|rfl<;>rfl
 rw[e,a8t hU ht hu h hT];rfl
theorem a8w{t:ax}{r:vU}(hW:EnW E)(hT:T.length<=1000)(hk:vty t.2.1 E=true)(hv:vty t.2.2.1 E=true)(h:RwT E t r)(hl:t.2.2.2.length<=1000)(hw:LnW (Eb t r E)):
  H6 (rdS E (T++[t]) S 1 N b) (lnW PU (Eb t r E))=some (0,rdS E (T++[(t.1,t.2.1,t.2.2.1,t.2.2.2++[r])]) S 1 N b):=by
 have hq:H9 (lnW PU (Eb t r E),true)=some (PU,true,oG (Eb t r E)):=SB (w:=PU) (xU C9 C9) (Nk C9 hw.2);have e:H6 (rdS E (T++[t]) S 1 N b) (lnW PU (Eb t r E))=l9 (mQ (rdS E (T++[t]) S 1 N b) (oG (Eb t r E))) λ(x:Int×J3×G6)=>some (x.1,x.2.1):=by unfold H6;rw[hq];rfl
 rw[e,b4e hW hT hk hv h hl hw];rfl
theorem a2n(h:LnW [n])(hS:S.length<=1000):H6 (rdS E T S k N b) (lnW Eh [n])=some (0,rdS E T (S++[(n,-1,[],[],[])]) 2 nmZ false):=by
 have hw:H9 (lnW Eh [n],true)=some (Eh,true,oG [n]):=SB (w:=Eh) (xU C9 C9) (Nk C9 h.2);have e:H6 (rdS E T S k N b) (lnW Eh [n])=l9 (lm (rdS E T S 2 N b) (oG [n])) λ(x:Int×J3×G6)=>some (x.1,x.2.1):=by unfold H6;rw[hw];rfl
 rw[e,a8s h hS];rfl
theorem Zm{s q:J8}{p:Nat}(hS:S.length<=1000)(hp:S[p]? =some q)(hq:∀x∈S.take p,x.1≠q.1)(h:LnW [q.1]):H6 (rdS E T (S++[s]) 2 N b) (lnW vK [q.1])=some (0,rdS E T (S++[(s.1,(p:Int),s.2.2)]) 3 N b):=by
 have hw:H9 (lnW vK [q.1],true)=some (vK,true,oG [q.1]):=SB (w:=vK) (xU C9 C9) (Nk C9 h.2);have e:H6 (rdS E T (S++[s]) 2 N b) (lnW vK [q.1])=l9 (jP (rdS E T (S++[s]) 3 N b) (oG [q.1])) λ(x:Int×J3×G6)=>some (x.1,x.2.1):=by unfold H6;rw[hw];rfl
 rw[e,a2k hS hp hq h];rfl
theorem a2m{f:dL}(hk:k=2\/k=3\/k=4)(hU:EnU E)(hS:S.length<=1000)(ht:vty f.2 E=true)(h:LnW [f.1,tyS f.2 E])(hl:s.2.2.1.length<=1000):
  H6 (rdS E T (S++[s]) k N b) (lnW vY [f.1,tyS f.2 E])=some (0,rdS E T (S++[(s.1,s.2.1,s.2.2.1++[f],s.2.2.2)]) 4 N b):=by
 obtain⟨e1,e2,e3,e4,e5,e6⟩:=EW (S:=S) (s:=s) o5;have hw:H9 (lnW vY [f.1,tyS f.2 E],true)=some (vY,true,oG [f.1,tyS f.2 E]):=SB (w:=vY) (xU C9 C9) (Nk C9 h.2);have e:H6 (rdS E T (S++[s]) k N b) (lnW vY [f.1,tyS f.2 E])=l9 (kZ (rdS E T (S++[s]) 4 N b) (oG [f.1,tyS f.2 E]) PUnit.unit) λ(x:Int×J3×G6)=>some (x.1,x.2.1):=by unfold H6;rw[hw];simp only[o9,e3,Ap,o7];rcases hk with rfl|rfl|rfl<;>rfl
 rw[e,a8q hU hS ht h hl];rfl
theorem a8v{f:dL}(hk:k=2\/k=3\/k=4\/k=5)(hU:EnU E)(hS:S.length<=1000)(ht:vty f.2 E=true)(h:LnW [f.1,tyS f.2 E])(hl:s.2.2.2.1.length<=1000):
  H6 (rdS E T (S++[s]) k N b) (lnW IP [f.1,tyS f.2 E])=some (0,rdS E T (S++[(s.1,s.2.1,s.2.2.1,s.2.2.2.1++[f],s.2.2.2.2)]) 5 N b):=by
 obtain⟨e1,e2,e3,e4,e5,e6⟩:=EW (S:=S) (s:=s) o5;have hw:H9 (lnW IP [f.1,tyS f.2 E],true)=some (IP,true,oG [f.1,tyS f.2 E]):=SB (w:=IP) (xU C9 C9) (Nk C9 h.2);have e:H6 (rdS E T (S++[s]) k N b) (lnW IP [f.1,tyS f.2 E])=l9 (jo (rdS E T (S++[s]) 5 N b) (oG [f.1,tyS f.2 E]) PUnit.unit) λ(x:Int×J3×G6)=>some (x.1,x.2.1):=by unfold H6;rw[hw];simp only[o9,e3,Ap,o7];rcases hk with rfl|rfl|rfl|rfl<;>rfl
 rw[e,b4c hU hS ht h hl];rfl
theorem a5Q{ps:List (List UInt8)}{W:List UInt8}{c:G6}(hk:k=2\/k=3\/k=4\/k=5\/k=6)(h:LnT ps W)(hps:ps≠[])(hr:jD (rdS E T S 6 N b) (Dv ps W)=some (0,R',c)):
  H6 (rdS E T S k N b) (zY++(spW ps++32::W))=some (0,R'):=by
 have hw:H9 (zY++(spW ps++32::W),true)=some (zY,true,Dv ps W):=by
  cases ps with
  |nil=>exact absurd rfl hps|cons v vs=>have hl:=h.l;rw[vI]at hl ⊢;simp only[D6,A8]at hl;have:=TQ (w:=zY) (xU C9 C9) (R:=v++(spW vs++32::W)) (by simp[zY];omega);show H9 (zY++((32::v++spW vs)++32::W),true)=some (zY,true,(v++(spW vs++32::W),true));rw[show(32::v++spW vs)++32::W=32::(v++(spW vs++32::W)) by simp];exact this
 have e:H6 (rdS E T S k N b) (zY++(spW ps++32::W))=l9 (jD (rdS E T S 6 N b) (Dv ps W)) λ(x:Int×J3×G6)=>some (x.1,x.2.1):=by unfold H6;rw[hw];rcases hk with rfl|rfl|rfl|rfl|rfl<;>rfl
 rw[e,hr];rfl
end
def yZ:J3->List (List UInt8)->Option J3
 |R,[]=>some R
 |R,w::ls=>match H6 R w with
  |some (c,R')=>if c=0 then yZ R' ls else none|none=>none
theorem CQ:∀(a b:List (List UInt8)) (R R' :J3),yZ R a=some R' ->yZ R (a++b)=yZ R' b
 |[],b,R,R',h=>by cases h;rfl|w::a,b,R,R',h=>by
  rw[H7];unfold yZ at h
  conv=>lhs;unfold yZ
  cases hr:H6 R w with
  |none=>rw[hr]at h;cases h|some p=>
   rw[hr]at h;obtain⟨c,R1⟩:=p;simp only at h ⊢;by_cases hc:c=0
   .rw[if_pos hc]at h;rw[if_pos hc];exact CQ a b R1 R' h
   .rw[if_neg hc]at h;cases h
theorem a4u{R R' :J3}(h:H6 R w=some (0,R')):yZ R [w]=some R' :=by unfold yZ;rw[h];rfl
theorem Ed{R R' :J3}{ls:List (List UInt8)}(h:H6 R w=some (0,R')):yZ R (w::ls)=yZ R' ls:=by
 conv=>lhs;unfold yZ
 rw[h];rfl
def ltF(ls:List (List UInt8))(x_1:Z7×J3×Int):Option (Out (Z7×J3×Int) (Z7×J3) (Z7×L6)):=
     l7 (I9 x_1.2.2 (x8 ls))
      (l9 (O0 ls x_1.2.2) λ(x_2:List UInt8)=>
       l9 (fO ls (bY x_1.2.2)) λ(x:List UInt8)=>
        l9 (H6 x_1.2.1 x) λ(x:Int×J3)=>
         l7 (I4 (D8 x.1 0)) (some (Out.rt (([],[],[]),x_1.2.2,x.1)))
          (some (Out.nx (x_1.1,x.2,H8 IntKind.i64 x_1.2.2 1))))
      (some (Out.ex (x_1.1,x_1.2.1)))
theorem a7m{ls:List (List UInt8)}(hl:ls.length<=1000000)(L0:Z7):∀(r:List (List UInt8)) (i:Nat) (R R' :J3) (m:Nat),ls.drop i=r->yZ R r=some R' ->gK (ltF ls) (m+1+r.length) (L0,R,(i:Int))=some (.inl (L0,R'))
 |[],i,R,R',m,h,hr=>by cases hr;have:ls.length<=i:=List.drop_eq_nil_iff.1 h;show gK (ltF ls) (m+1) (L0,R,(i:Int))=some (.inl (L0,R));rw[bG];unfold ltF;simp only[Y5 (show x8 ls<=(i:Int) by unfold x8;omega),o6]|w::r,i,R,R',m,h,hr=>by
  obtain⟨g1,g2⟩:=Oe h;have hlt:=(ai.1 g1).1;unfold yZ at hr;cases hq:H6 R w with
  |none=>rw[hq]at hr;cases hr|some p=>
   rw[hq]at hr;obtain⟨c,R1⟩:=p;simp only at hr;by_cases hc:c=0
   .rw[if_pos hc]at hr;subst hc;have st:ltF ls (L0,R,(i:Int))=some (.nx (L0,R1,((i+1:Nat):Int))):=by
     unfold ltF;simp only[U5 g1,o7,P5,g1,o9,fO,bY,I7,hq,O7 (rfl:(0:Int)=0),E8,o6];rw[eP o5]
    rw[A8,show m+1+(r.length+1)=(m+1+r.length)+1 by omega,bG,st];exact a7m hl L0 r (i+1) R1 R' m g2 hr
   .rw[if_neg hc]at hr;cases hr
theorem XL{s:List UInt8}{ls:List (List UInt8)}{l:Z7}{k:Int}{N:D9}{b:Bool}(hs:gY s=some (ls,0))(hl:ls.length<=1000000)(hr:yZ (rdS [] [] [] 0 nmZ false) ls=some (l,k,N,b)):
  fZ s=l9 (xC l) λ(x_1:X6)=>l7 (I4 (D8 x_1.1 0)) (some (([],[],[]),x8 ls,x_1.1)) (some (l,0,0)):=by
 unfold fZ;rw[hs,o9];simp only[O7 (rfl:(0:Int)=0),E8,o6];have:P7 (ltF ls) (([],[],[]),(([],[],[]),0,([],[],[],[],[]),false),0)=some (.inl (([],[],[]),(l,k,N,b))):=by unfold P7;rw[show aG=(aG -1 -ls.length)+1+ls.length by unfold aG;omega];exact a7m hl _ ls 0 _ _ _ rfl hr
 refine X3 this ?_;rw[o9,Y2]
end
section
theorem XB{ws:List (List UInt8)}{B:Nat}(h:∀w∈ws,w.length<=B)(hn:ws.length*(B+1)<=1000000):(spW ws).length<=1000000:=aV (PN h) hn
def a6P(e:U6):List UInt8:=lnW MH (e.1::e.2)
def b1K(E:List U6)(t:ax)(r:vU):List UInt8:=lnW PU (Eb t r E)
def Yf(E:List U6)(t:ax):List (List UInt8):=lnW EY [t.1,tyS t.2.1 E,tyS t.2.2.1 E]::t.2.2.2.map (b1K E t)
section
variable {l:Z7} (h:FmL l)
include h
theorem UK:EnW l.1:=by
 refine { id:=?_,un:=?_,le:=?_,mid:=?_,mun:=?_,mle:=?_ }
 .intro e he;obtain⟨j,hj⟩:=mW he;exact(Wy h.v hj).1
 .intro j e he;exact(Wy h.v he).2.1
 .have:=h.n.ne;omega
 .intro e he m hm;obtain⟨j,hj⟩:=mW he;obtain⟨i,hi⟩:=mW hm;exact((Wy h.v hj).2.2.2 i m hi).1
 .intro e he i v hi;obtain⟨j,hj⟩:=mW he;exact((Wy h.v hj).2.2.2 i v hi).2
 .intro e he;have:=(h.n.e e he).1;omega
theorem Qo:EnU l.1:=(UK h).toEnU
theorem b3H{e:U6}(he:e∈l.1):LnW (e.1::e.2)/\e.2≠[]/\e.2.length<=1000:=by
 obtain⟨j,hj⟩:=mW he;have hv:=Wy h.v hj;have hV:=(a6f h.v).2 j e hj;obtain⟨a1,a2,a3⟩:=YD h he;refine⟨⟨λw hw=>?_,XB a1 (by have:=F6 81 a2;omega)⟩,hV.ne,by have:=hV.le;omega⟩;rcases x9.1 hw with rfl|hw
 .exact JZ hv.1
 .obtain⟨i,hi⟩:=mW hw;exact JZ (hv.2.2.2 i w hi).1
theorem c2n{n:List UInt8}(hn:iU n=true)(hnl:n.length<=80){t u:Int×Int}(ht:vty t l.1=true)(hu:vty u l.1=true):LnW [n,tyS t l.1,tyS u l.1]:=by
 have hU:=Qo h;refine⟨λw hw=>?_,XB (B:=80) (λw hw=>?_) A7⟩
 .simp only[x9,J9,or_false]at hw;rcases hw with rfl|rfl|rfl
  .exact JZ hn
  .exact b0k hU ht
  .exact b0k hU hu
 .simp only[x9,J9,or_false]at hw;rcases hw with rfl|rfl|rfl
  .exact hnl
  .exact Xr h
  .exact Xr h
theorem b2F{n:List UInt8}(hn:iU n=true)(hnl:n.length<=80){t:Int×Int}(ht:vty t l.1=true):LnW [n,tyS t l.1]:=by
 have hU:=Qo h;refine⟨λw hw=>?_,XB (B:=80) (λw hw=>?_) A7⟩
 .simp only[x9,J9,or_false]at hw;rcases hw with rfl|rfl
  .exact JZ hn
  .exact b0k hU ht
 .simp only[x9,J9,or_false]at hw;rcases hw with rfl|rfl
  .exact hnl
  .exact Xr h
theorem b4i{t:ax}(ht:t∈l.2.1){r:vU}(hr:r∈t.2.2.2):RwT l.1 t r:=by
 obtain⟨j,hj⟩:=mW ht;have hV:=(AQ h.v).2 j t hj;have hR:=hV.rows r hr;obtain⟨i1,i2,i3⟩:=TM h ht hr;have hd:=hR.dv;unfold Fh at hd;cases g1:U2 0 r.1.1<;>rw[g1]at hd
 .cases hd
 cases g2:U2 r.1.1 r.1.2<;>rw[g2]at hd
 .cases hd
 have g3:=jF.1 hd;have g1:=jF.1 g1;have g2:=jF.1 g2;have hn:=hR.dn;refine⟨g1,?_,g3,Int.le_trans g1 g2,b6Y (UK h) hV.vk hR.lh hR.lo hR.hi i1 i2,hR.n,i3⟩;have:r.1.1<r.1.2:=by
  rcases Int.lt_or_le r.1.1 r.1.2 with h|h
  .exact h
  .exact absurd (rE g2 h) hn
 exact Int.le_of_lt_add_one (Int.lt_of_lt_of_le this g3)
theorem b4g{t:ax}(ht:t∈l.2.1){r:vU}(hr:r∈t.2.2.2):LnW (Eb t r l.1):=by
 obtain⟨j,hj⟩:=mW ht;have hV:=(AQ h.v).2 j t hj;obtain⟨i1,i2,i3⟩:=TM h ht hr;have hW:=UK h;have hR:=b4i h ht hr;refine⟨λw hw=>?_,XB (VP (t:=t) (YK h) i1 i2 i3) (by simp[Eb])⟩;rw[QP hW hV.vk hV.vv hR]at hw;simp only[x9,J9,or_false]at hw;rcases hw with rfl|rfl|rfl|rfl|rfl
 .exact(Lp hR.d0 hR.d1).1
 .exact(ZR hR.d3 hR.d2).1
 .exact(a1c hW hV.vk hR.hi.l hR.hi.il).1
 .exact(b3p hW hV.vk hR.hi).1
 .exact(a1c hW hV.vv hR.v hR.iv).1
theorem QQ{T:List ax}{S:List J8}{N:D9}{b:Bool} :∀(es E:List U6),(∀e∈es,e∈l.1)->E.length+es.length<=1000->yZ (rdS E T S 0 N b) (es.map a6P)=some (rdS (E++es) T S 0 N b)
 |[],E,_,_=>by rw[E5];rfl|e::es,E,he,hl=>by obtain⟨a1,a2,a3⟩:=b3H h (he e A7);simp only[A8]at hl;rw[bV,a6P,Ed (XR a1 a2 a3 o5),QQ es (E++[(e.1,e.2)]) (λx hx=>he x (by simp[hx])) G8];simp
theorem a0C{t:ax}(ht:t∈l.2.1){T:List ax}{S:List J8}{N:D9}{b:Bool}(hT:T.length<=1000):∀(rs d:List vU),(∀r∈rs,r∈t.2.2.2)->d.length+rs.length<=1000->yZ (rdS l.1 (T++[(t.1,t.2.1,t.2.2.1,d)]) S 1 N b) (rs.map (b1K l.1 t))=some (rdS l.1 (T++[(t.1,t.2.1,t.2.2.1,d++rs)]) S 1 N b)
 |[],d,_,_=>by rw[E5];rfl|r::rs,d,hr,hl=>by obtain⟨j,hj⟩:=mW ht;have hV:=(AQ h.v).2 j t hj;simp only[A8]at hl;have hq:=b4i h ht (hr r A7);have:H6 (rdS l.1 (T++[(t.1,t.2.1,t.2.2.1,d)]) S 1 N b) (lnW PU (Eb t r l.1))=some (0,rdS l.1 (T++[(t.1,t.2.1,t.2.2.1,d++[r])]) S 1 N b):=a8w (S:=S) (N:=N) (b:=b) (T:=T) (t:=(t.1,t.2.1,t.2.2.1,d)) (r:=r) (UK h) hT hV.vk hV.vv ⟨hq.d0,hq.d1,hq.d2,hq.d3,hq.hi,hq.v,hq.iv⟩ (by simp only;omega) (b4g h ht (hr r A7));rw[bV,b1K,Ed this,a0C ht hT rs (d++[r]) (λx hx=>hr x (by simp[hx])) G8];simp
theorem VV{S:List J8}{N:D9}{b:Bool} :∀(ts T:List ax) (k:Int),(∀t∈ts,t∈l.2.1)->T.length+ts.length<=1000->(k=0\/k=1)->∃k',(k≠0\/ts≠[]->k' ≠0)/\yZ (rdS l.1 T S k N b) (ts.flatMap (Yf l.1))=some (rdS l.1 (T++ts) S k' N b)
 |[],T,k,_,_,hk=>⟨k,λh=>h.elim id λh=>absurd rfl h,by rw[E5];rfl⟩|t::ts,T,k,ht,hl,hk=>by
  simp only[A8]at hl;obtain⟨j,hj⟩:=mW (ht t A7);have hV:=(AQ h.v).2 j t hj;have h1:=a2o (S:=S) (N:=N) (b:=b) hk (Qo h) hV.vk hV.vv (c2n h hV.id (h.n.t t (ht t A7)) hV.vk hV.vv) (T:=T) o5;have h2:=a0C h (ht t A7) (T:=T) (S:=S) (N:=N) (b:=b) o5 t.2.2.2 [] (λr hr=>hr) (by have:=hV.le;simp;omega);obtain⟨k',h0,h3⟩:=VV ts (T++[t]) 1 (λx hx=>ht x (by simp[hx])) G8 (.inr rfl);refine⟨k',λ_=>h0 (.inl C9),?_⟩;rw[gJ];have h4:yZ (rdS l.1 T S k N b) (Yf l.1 t)=some (rdS l.1 (T++[t]) S 1 N b):=by unfold Yf;rw[Ed h1,h2];rfl
  rw[CQ _ _ _ _ h4,h3];simp
end
end
section
def NJ(l:Z7)(s:J8)(r:aH):List UInt8:=lnW zY (ruW s r (nmS l s))
def XF(l:Z7)(s:J8):List (List UInt8):=l7 (U2 0 s.2.1) [lnW vK [meN l s]] []
def A_(w:List UInt8)(l:Z7)(f:dL):List UInt8:=lnW w [f.1,tyS f.2 l.1]
def VY(l:Z7)(s:J8):List (List UInt8):=lnW Eh [s.1]::(XF l s++(s.2.2.1.map (A_ vY l)++(s.2.2.2.1.map (A_ IP l)++s.2.2.2.2.map (NJ l s))))
theorem b2i:spW []=[]:=rfl
def ruP(s:J8)(r:aH):List (List UInt8):=[r.1,[111,102],dnS s r]++(ovS s r++(prS r++[[102,114,111,109],bC r.2.2.2.2.1.1,[116,111],enS r.2.2.2.2.1.2,YT r]))
theorem a0z(s:J8)(r:aH)(N:D9):spW (ruW s r N)=spW (ruP s r)++32::PE r N:=by unfold ruW ruP daS guS isS soS YT PE soT sIs Zy;generalize ovS s r=ov;generalize prS r=pr;cases I9 0 (x8 r.2.2.2.2.2.1)<;>cases seq r.2.2.2.2.2.2.2 []<;>simp only[o7,o6,a4B,vI,b2i,E5,H7,G7,E9]
theorem UF{r:aH}{sg:S9}{t:Int×Int}(h:UE r sg t=0):(r.2.2.2.2.2.1≠[]->Gl r.2.2.2.2.2.1 sg (1,0)=0)/\Gl r.2.2.2.2.2.2.1 sg t=0:=by
 unfold UE at h;cases g:I9 0 (x8 r.2.2.2.2.2.1)<;>rw[g]at h
 .refine⟨λhne=>?_,h⟩;rw[oO]at g;have:r.2.2.2.2.2.1.length=0:=by unfold x8 at g;omega
  exact absurd (Y0.1 this) hne
 .rw[o7]at h;cases g2:D8 (Gl r.2.2.2.2.2.1 sg (1,0)) 0<;>rw[g2]at h
  .exact absurd h (wQ.1 g2)
  .exact⟨λ_=>iK.1 g2,h⟩
theorem UA{a b:Int}(h:Fh (a,b)=true)(hn:a≠b):0<=a/\a<=109572/\0<=b/\b<=109573:=by
 unfold Fh at h;cases g1:U2 0 a<;>simp only[g1]at h
 .cases h
 cases g2:U2 a b<;>simp only[g2]at h
 .cases h
 have g3:=jF.1 h;have g1:=jF.1 g1;have g2:=jF.1 g2;omega
section
variable {l:Z7} (h:FmL l) {i:Nat} {s:J8} (hs:l.2.2[i]? =some s)
include h hs
theorem a2f{d:List aH}(hd:∀r∈d,r∈s.2.2.2.2)(hdl:d.length<=s.2.2.2.2.length):jV (l.1,l.2.1,l.2.2.take i++[(s.1,s.2.1,s.2.2.1,s.2.2.2.1,d)]) (N8 .i64 (x8 (l.2.2.take i++[(s.1,s.2.1,s.2.2.1,s.2.2.2.1,d)])) 1)=some (nmS l s):=by
 have hi:=(ai.1 hs).1;have h4:=(oC h.v).1;have hm:=sV hs;obtain⟨n1,n2,n3,n4,n5,n6⟩:=h.n.s s hm;have hV:=(oC h.v).2 i s hs;obtain⟨e1,e2,e3,e4,e5,e6⟩:=EW (S:=l.2.2.take i) (s:=((s.1,s.2.1,s.2.2.1,s.2.2.2.1,d):J8)) (by rw[aZ];omega);have hN:NmL (l.1,l.2.1,l.2.2.take i++[(s.1,s.2.1,s.2.2.1,s.2.2.2.1,d)]):=by
  refine⟨h.n.ne,h.n.nt,h.n.e,h.n.t,λq hq=>?_⟩;rcases G5.1 hq with hq|hq
  .exact h.n.s q (iT hq)
  .rw[U8.1 hq];exact⟨n1,n2,aV hdl n3,n4,n5,λr hr=>n6 r (hd r hr)⟩
 rw[Y_ hN (k:=N8 .i64 (x8 (l.2.2.take i++[(s.1,s.2.1,s.2.2.1,s.2.2.2.1,d)])) 1) e6];congr 1;unfold nmS;have:∀q:Option J8,O0 l.2.2 s.2.1=q->U2 0 s.2.1=true->O0 (l.2.2.take i++[(s.1,s.2.1,s.2.2.1,s.2.2.2.1,d)]) s.2.1=q:=by
  intro q hq g;rcases hV.mb with e|⟨p,q',e,hp,hq'⟩
  .rw[e]at g;exact absurd g C9
  .rw[e,P5]at hq ⊢;rw[L8 (by rw[aZ];omega),fM hp];exact hq
 cases g:U2 0 s.2.1
 .rfl
 .rw[this _ rfl g]
theorem a6L:∀(j:Nat) f,s.2.2.2.1[j]? =some f->iU f.1=true/\∀x∈s.2.2.2.1.take j,x.1≠f.1:=λj f hf=>by have:=(TP h.v hs).2 j f hf;exact⟨this.1,this.2.2⟩
theorem a5V{T:List ax}{d:List aH}{r:aH}{rs:List aH}{k:Int}{N:D9}{b:Bool}(hd:s.2.2.2.2=d++r::rs)(hk:k=2\/k=3\/k=4\/k=5\/k=6)(hb:b=true->N=nmS l s)(hT:T=l.2.1)(hl:(NJ l s r).length<=65536):
  H6 (rdS l.1 T (l.2.2.take i++[(s.1,s.2.1,s.2.2.1,s.2.2.2.1,d)]) k N b) (NJ l s r)=some (0,rdS l.1 T (l.2.2.take i++[(s.1,s.2.1,s.2.2.1,s.2.2.2.1,d++[r])]) 6 (nmS l s) true):=by
 subst hT;have hi:=(ai.1 hs).1;have h4:=(oC h.v).1;have hm:=sV hs;obtain⟨n1,n2,n3,n4,n5,n6⟩:=h.n.s s hm;have hV:=(oC h.v).2 i s hs;have hr:s.2.2.2.2[d.length]? =some r:=by rw[hd,F5 (F7 _),Y9];rfl
 have hrm:r∈s.2.2.2.2:=sV hr;have hR:=hV.rules d.length r hr;obtain⟨hL,hNm,-,-⟩:=Zx h hm hrm;have hD:=a7w h.v h.n hm;obtain⟨f,hf,hx⟩:=hR.df;obtain⟨x1,x2⟩:=UF hx;obtain⟨c1,c2,c3⟩:=BN hf;obtain⟨u1,u2⟩:=a6L h hs _ _ c1;have hdn:dnS s r=f.1:=by unfold dnS;rw[hf];rfl
 obtain⟨d0,d1,d2,d3⟩:=UA (a:=r.2.2.2.2.1.1) (b:=r.2.2.2.2.1.2) hR.dv hR.dn;have hdl:d.length<=s.2.2.2.2.length:=by rw[hd];simp
 have hdm:∀q∈d,q∈s.2.2.2.2:=λq hq=>by rw[hd];exact dP _ hq
 have hov:b3r (s.1,s.2.1,s.2.2.1,s.2.2.2.1,d) r (ovS s r):=by
  rcases hR.pa with e|⟨p,q,e,hp,hq⟩
  .left;refine⟨?_,e⟩;unfold ovS;rw[e];rfl
  .right;have hdq:d[p]? =some q:=by rw[hd,L8 hp]at hq;exact hq
   refine⟨p,q,?_,e,hdq,λx hx=>?_⟩
   .unfold ovS;rw[e,Z4 o5,P5,hq];rfl
   .refine(b0m h.v hs hq).2 x ?_;rw[hd,X5 o5];exact hx
 have hpr:b3s r (prS r):=by
  unfold prS;by_cases e:r.2.2.2.1=0
  .left;rw[e];exact⟨rfl,rfl⟩
  .right;have a0:=hR.p0;have a9:=hR.p9;have a1:0<r.2.2.2.1:=by
    rcases Int.lt_or_le 0 r.2.2.2.1 with h|h
    .exact h
    .exact absurd (rE h a0) e
   exact⟨by rw[dY a1];rfl,a1,a9⟩
 have hsp:NJ l s r=zY++(spW (ruP s r)++32::PE r (nmS l s)):=by unfold NJ lnW;rw[a0z]
 rw[hsp]at hl ⊢;simp only[D6,A8]at hl;have hLT:LnT (ruP s r) (PE r (nmS l s)):=by
  refine⟨λw hw=>?_,o5⟩;unfold ruP at hw;rw[hdn]at hw;simp only[G5,x9,J9,or_false]at hw;rcases hw with(rfl|rfl|rfl)|hw|hw|(rfl|rfl|rfl|rfl|rfl)
  .exact JZ hR.id
  .exact xU C9 C9
  .exact JZ u1
  .rcases hov with⟨e,-⟩|⟨p,q,e,-,hq,-⟩
   .rw[e]at hw;cases hw
   .rw[e]at hw;simp only[x9,J9,or_false]at hw;rcases hw with rfl|rfl
    .exact xU C9 C9
    .obtain⟨j,hj⟩:=mW (hdm q (sV hq));exact JZ (b0m h.v hs hj).1
  .rcases hpr with⟨e,-⟩|⟨e,-⟩
   .rw[e]at hw;cases hw
   .rw[e]at hw;simp only[x9,J9,or_false]at hw;rcases hw with rfl|rfl
    .exact xU C9 C9
    .exact(ZT (YO hR.p0 hR.p9)).1
  .exact xU C9 C9
  .exact(Lp d0 d1).1
  .exact xU C9 C9
  .exact(ZR d2 d3).1
  .unfold YT;cases I9 0 (x8 r.2.2.2.2.2.1)
   .exact xU C9 C9
   .exact xU C9 C9
 refine a5Q (c:=((Bg r.2.2.2.2.2.2.1 (nmS l s)).1++soT r.2.2.2.2.2.2.2,true)) hk hLT (by unfold ruP;simp) ?_;unfold ruP at hLT ⊢;rw[hdn]at hLT ⊢;exact b1z (S:=l.2.2.take i) (s:=(s.1,s.2.1,s.2.2.1,s.2.2.2.1,d)) (by rw[aZ];omega) (by simp only;omega) (by simp only;omega) hf u2 hov hpr d0 d1 d2 d3 hb (λ_=>a2f h hs hdm hdl)
  (λhne=>KH hNm hD hL.g (x1 hne)) (KH hNm hD hL.v x2) hR.src o5 hLT
theorem Ya{T:List ax}(hT:T=l.2.1)(hl:∀r∈s.2.2.2.2,(NJ l s r).length<=65536):∀(rs d:List aH) (k:Int) (N:D9) (b:Bool),s.2.2.2.2=d++rs->(k=2\/k=3\/k=4\/k=5\/k=6)->(b=true->N=nmS l s)->
  ∃k' N' b',k' ≠0/\yZ (rdS l.1 T (l.2.2.take i++[(s.1,s.2.1,s.2.2.1,s.2.2.2.1,d)]) k N b) (rs.map (NJ l s))=some (rdS l.1 T (l.2.2.take i++[(s.1,s.2.1,s.2.2.1,s.2.2.2.1,d++rs)]) k' N' b')
 |[],d,k,N,b,hd,hk,hb=>⟨k,N,b,o5,by rw[E5];rfl⟩|r::rs,d,k,N,b,hd,hk,hb=>by have h1:=a5V h hs hd hk hb hT (hl r (by rw[hd];simp));obtain⟨k',N',b',h0,h2⟩:=Ya hT hl rs (d++[r]) 6 (nmS l s) true (by rw[hd];simp) A7 (λ_=>rfl);refine⟨k',N',b',h0,?_⟩;rw[bV,Ed h1,h2];simp
omit hs in
theorem a4t{T:List ax}{S:List J8}{n:List UInt8}{mb:Int}{N:D9}{b:Bool}(hS:S.length<=1000):∀(fs d:List dL) (k:Int),(∀f∈fs,iU f.1=true/\f.1.length<=80/\vty f.2 l.1=true)->d.length+fs.length<=1000->(k=2\/k=3\/k=4)->
  ∃k',(k' =2\/k' =3\/k' =4)/\yZ (rdS l.1 T (S++[(n,mb,d,[],[])]) k N b) (fs.map (A_ vY l))=some (rdS l.1 T (S++[(n,mb,d++fs,[],[])]) k' N b)
 |[],d,k,_,_,hk=>⟨k,hk,by rw[E5];rfl⟩|f::fs,d,k,hf,hl,hk=>by obtain⟨a1,a2,a3⟩:=hf f A7;simp only[A8]at hl;have h1:H6 (rdS l.1 T (S++[(n,mb,d,[],[])]) k N b) (A_ vY l f)=some (0,rdS l.1 T (S++[(n,mb,d++[f],[],[])]) 4 N b):=a2m (s:=(n,mb,d,[],[])) hk (Qo h) hS a3 (b2F h a1 a2 a3) (by simp only;omega);obtain⟨k',hk',h2⟩:=a4t hS fs (d++[f]) 4 (λx hx=>hf x (by simp[hx])) G8 A7;refine⟨k',hk',?_⟩;rw[bV,Ed h1,h2];simp
omit hs in
theorem a0A{T:List ax}{S:List J8}{n:List UInt8}{mb:Int}{ins:List dL}{N:D9}{b:Bool}(hS:S.length<=1000):∀(fs d:List dL) (k:Int),(∀f∈fs,iU f.1=true/\f.1.length<=80/\vty f.2 l.1=true)->d.length+fs.length<=1000->(k=2\/k=3\/k=4\/k=5)->
  ∃k',(k' =2\/k' =3\/k' =4\/k' =5)/\yZ (rdS l.1 T (S++[(n,mb,ins,d,[])]) k N b) (fs.map (A_ IP l))=some (rdS l.1 T (S++[(n,mb,ins,d++fs,[])]) k' N b)
 |[],d,k,_,_,hk=>⟨k,hk,by rw[E5];rfl⟩|f::fs,d,k,hf,hl,hk=>by obtain⟨a1,a2,a3⟩:=hf f A7;simp only[A8]at hl;have h1:H6 (rdS l.1 T (S++[(n,mb,ins,d,[])]) k N b) (A_ IP l f)=some (0,rdS l.1 T (S++[(n,mb,ins,d++[f],[])]) 5 N b):=a8v (s:=(n,mb,ins,d,[])) hk (Qo h) hS a3 (b2F h a1 a2 a3) (by simp only;omega);obtain⟨k',hk',h2⟩:=a0A hS fs (d++[f]) 5 (λx hx=>hf x (by simp[hx])) G8 A7;refine⟨k',hk',?_⟩;rw[bV,Ed h1,h2];simp
end
end
section
structure LenL (l:Z7):Prop where
 e:l.1.length<=1000000/\∀e∈l.1,e.2.length<=1000000
 t:l.2.1.length<=1000000/\∀t∈l.2.1,t.2.2.2.length<=1000000
 s:l.2.2.length<=1000000/\∀s∈l.2.2,s.2.2.1.length<=1000000/\s.2.2.2.1.length<=1000000/\s.2.2.2.2.length<=1000000/\∀r∈s.2.2.2.2,r.2.2.2.2.2.1.length<=1000000/\r.2.2.2.2.2.2.1.length<=1000000
theorem Xt{α β ρ:Type}(b:β):∀l:List α,wP (λ(b:β) (_:α)=>(.inl b:β⊕ρ)) l b= .inl b
 |[]=>rfl|_::l=>Xt b l
theorem yV{α:Type}{a:List α}(hl:a.length<=1000000){f:Int->Option (Out Int PUnit Bool)}
  (hin:∀(i:Nat) x,a[i]? =some x->f (i:Int)=some (.nx (H8 .i64 (i:Int) 1))) (hend:f (a.length:Int)=some (.ex PUnit.unit)):
  (l7 (I4 (D8 (x8 a) (x8 a))) (some false) (l9 (P7 f 0) λo=>aF o (λ_=>some true) λr=>some r))=some true:=by
 rw[O7 rfl,E8,o6];refine Np a (λ(b:Unit) _=>(.inl b:Unit⊕Bool)) (λ_ i=>i) (λ_=>PUnit.unit) (λ_ _=>True) () hl trivial (λi x _ hx hi _=>⟨?_,λ_ _=>trivial⟩) (λ_ _=>hend) (λ_=>?_)
 .rw[hin i x hx,eP o5]
 .rw[Xt];rfl
theorem Gg(a:List UInt8):seq a a=true:=pI.2 rfl
theorem Fz(a:Int):D8 a a=true:=O7 rfl
theorem Kw:lX true true=true:=rfl
theorem PL{a:List (List UInt8)}(h:a.length<=1000000):CU a a=some true:=by unfold CU;refine yV h (λi x hx=>?_) (by simp only[Y6,o6]);simp only[U5 hx,o7,P5,hx,o9,Gg,E8,o6]
theorem II{a:List L6}(h:a.length<=1000000):Ef a a=some true:=by unfold Ef;refine yV h (λi x hx=>?_) (by simp only[Y6,o6]);simp only[U5 hx,o7,P5,hx,o9,Fz,Kw,E8,o6]
theorem VX{a:List vU}(h:a.length<=1000000):Ld a a=some true:=by unfold Ld;refine yV h (λi x hx=>?_) (by simp only[Y6,o6]);simp only[U5 hx,o7,P5,hx,o9,Fz,Kw,E8,o6]
theorem Gf{a:List dL}(h:a.length<=1000000):BB a a=some true:=by unfold BB;refine yV h (λi x hx=>?_) (by simp only[Y6,o6]);simp only[U5 hx,o7,P5,hx,o9,Fz,Gg,Kw,E8,o6]
theorem SX{a:List U6}(h:a.length<=1000000)(h2:∀e∈a,e.2.length<=1000000):Ht a a=some true:=by
 unfold Ht;refine yV h (λi x hx=>?_) (by simp only[Y6,o6]);have e:Lc x x=some true:=by unfold Lc;rw[Gg,o7,PL (h2 x (sV hx)),o9]
 simp only[U5 hx,o7,P5,hx,o9,e,E8,o6]
theorem QS{a:List ax}(h:a.length<=1000000)(h2:∀t∈a,t.2.2.2.length<=1000000):EG a a=some true:=by
 unfold EG;refine yV h (λi x hx=>?_) (by simp only[Y6,o6]);have e:Hy x x=some true:=by unfold Hy;simp only[Gg,Fz,Kw,o7];rw[VX (h2 x (sV hx)),o9]
 simp only[U5 hx,o7,P5,hx,o9,e,E8,o6]
theorem SY{a:List aH}(h:a.length<=1000000)(h2:∀r∈a,r.2.2.2.2.2.1.length<=1000000/\r.2.2.2.2.2.2.1.length<=1000000):Hu a a=some true:=by
 unfold Hu;refine yV h (λi x hx=>?_) (by simp only[Y6,o6]);have e:Le x x=some true:=by obtain⟨g1,g2⟩:=h2 x (sV hx);unfold Le;simp only[Gg,Fz,Kw,o7];rw[II g1,o9,o7,II g2,o9]
 simp only[U5 hx,o7,P5,hx,o9,e,E8,o6]
variable {l:Z7}
theorem Xa(h:LenL l):JR l l=some true:=by
 unfold JR;rw[SX h.e.1 h.e.2,o9,o7,QS h.t.1 h.t.2,o9,o7];have e:EF l.2.2 l.2.2=some true:=by
  unfold EF;refine yV h.s.1 (λi x hx=>?_) (by simp only[Y6,o6]);have e:Hw x x=some true:=by obtain⟨g1,g2,g3,g4⟩:=h.s.2 x (sV hx);unfold Hw;simp only[Gg,Fz,o7];rw[Gf g1,o9,o7,Gf g2,o9,o7,SY g3 g4,o9]
  simp only[U5 hx,o7,P5,hx,o9,e,E8,o6]
 rw[e,o9]
theorem a4w(h:(jA l).1=0){p:Nat}{q:J8}(hq:l.2.2[p]? =some q):iU q.1=true/\∀x∈l.2.2.take p,x.1≠q.1:=by have hV:=(oC h).2 p q hq;refine⟨hV.id,λx hx e=>?_⟩;have:=hV.tk;unfold zX at this;simp only[aX]at this;exact absurd (pI.2 e) (by simpa using dh.1 this.2 x hx)
variable {i:Nat}{s:J8}
section
variable {l:Z7} (h:FmL l)
include h
theorem a5W(hs:l.2.2[i]? =some s)(hl:∀r∈s.2.2.2.2,(NJ l s r).length<=65536)(k:Int)(N:D9)(b:Bool):
  ∃k' N' b',k' ≠0/\yZ (rdS l.1 l.2.1 (l.2.2.take i) k N b) (VY l s)=some (rdS l.1 l.2.1 (l.2.2.take (i+1)) k' N' b'):=by
 have hi:=(ai.1 hs).1;have h4:=(oC h.v).1;have hm:=sV hs;obtain⟨n1,n2,n3,n4,n5,n6⟩:=h.n.s s hm;have hV:=(oC h.v).2 i s hs;have hSl:(l.2.2.take i).length<=1000:=by rw[aZ];omega
 have hid:=(a4w h.v hs).1;have w1:LnW [s.1]:=⟨λw hw=>by rw[U8.1 hw];exact JZ hid,XB (B:=80) (Zz h hm).1 A7⟩;have r1:=a2n (E:=l.1) (T:=l.2.1) (k:=k) (N:=N) (b:=b) w1 hSl;have r2:∃k',(k' =2\/k' =3\/k' =4)/\yZ (rdS l.1 l.2.1 (l.2.2.take i++[(s.1,-1,[],[],[])]) 2 nmZ false) (XF l s)=some (rdS l.1 l.2.1 (l.2.2.take i++[(s.1,s.2.1,[],[],[])]) k' nmZ false):=by
  unfold XF;rcases hV.mb with e|⟨p,q,e,hp,hq⟩
  .refine⟨2,A7,?_⟩;rw[e];rfl
  .refine⟨3,A7,?_⟩;obtain⟨u1,u2⟩:=a4w h.v hq;have hq2:(l.2.2.take i)[p]? =some q:=by rw[fM hp];exact hq
   have em:meN l s=q.1:=by unfold meN;rw[e,P5,hq];rfl
   have w2:LnW [q.1]:=⟨λw hw=>by rw[U8.1 hw];exact JZ u1,XB (B:=80) (λw hw=>by rw[U8.1 hw];exact ZA h (sV hq)) A7⟩;have:=Zm (E:=l.1) (T:=l.2.1) (N:=nmZ) (b:=false) (s:=((s.1,-1,[],[],[]):J8)) hSl hq2 (λx hx=>u2 x (by rw[fV,bD o5]at hx;exact hx)) w2;rw[e,Z4 o5,o7,em];exact a4u this
 obtain⟨k2,hk2,r2⟩:=r2;have fI:∀f∈s.2.2.1,iU f.1=true/\f.1.length<=80/\vty f.2 l.1=true:=λf hf=>by obtain⟨j,hj⟩:=mW hf;exact⟨(hV.ins j f hj).id,n4 f hf,(hV.ins j f hj).ty⟩
 have fD:∀f∈s.2.2.2.1,iU f.1=true/\f.1.length<=80/\vty f.2 l.1=true:=λf hf=>by obtain⟨j,hj⟩:=mW hf;exact⟨(hV.defs j f hj).id,n5 f hf,(hV.defs j f hj).ty⟩
 obtain⟨k3,hk3,r3⟩:=a4t h (T:=l.2.1) (S:=l.2.2.take i) (n:=s.1) (mb:=s.2.1) (N:=nmZ) (b:=false) hSl s.2.2.1 [] k2 fI G8 hk2;obtain⟨k4,hk4,r4⟩:=a0A h (T:=l.2.1) (S:=l.2.2.take i) (n:=s.1) (mb:=s.2.1) (ins:=s.2.2.1) (N:=nmZ) (b:=false) hSl s.2.2.2.1 [] k3 fD G8 (by rcases hk3 with h|h|h<;>simp[h]);obtain⟨k5,N5,b5,h5,r5⟩:=Ya h hs (T:=l.2.1) rfl hl s.2.2.2.2 [] k4 nmZ false rfl (by rcases hk4 with h|h|h|h<;>simp[h]) (λe=>by cases e);refine⟨k5,N5,b5,h5,?_⟩;unfold VY;rw[G7]at r3 r4 r5;rw[Ed r1,CQ _ _ _ _ r2,CQ _ _ _ _ r3,CQ _ _ _ _ r4,r5,X8 hi,(ai.1 hs).2]
theorem VU(hl:∀s∈l.2.2,∀r∈s.2.2.2.2,(NJ l s r).length<=65536):∀(ss:List J8) (i:Nat) (k:Int) (N:D9) (b:Bool),l.2.2.drop i=ss->
  ∃k' N' b',(k≠0\/ss≠[]->k' ≠0)/\yZ (rdS l.1 l.2.1 (l.2.2.take i) k N b) (ss.flatMap (VY l))=some (rdS l.1 l.2.1 l.2.2 k' N' b')
 |[],i,k,N,b,hd=>⟨k,N,b,λh=>h.elim id λh=>absurd rfl h,by rw[P9 (List.drop_eq_nil_iff.1 hd)];rfl⟩|s::ss,i,k,N,b,hd=>by obtain⟨g1,g2⟩:=Oe hd;obtain⟨k1,N1,b1,h1,r1⟩:=a5W h g1 (hl s (sV g1)) k N b;obtain⟨k2,N2,b2,h2,r2⟩:=VU hl ss (i+1) k1 N1 b1 g2;exact⟨k2,N2,b2,λ_=>h2 (.inl h1),by rw[gJ,CQ _ _ _ _ r1,r2]⟩
omit h in
def liL(l:Z7):List (List UInt8):=l.1.map a6P++(l.2.1.flatMap (Yf l.1)++l.2.2.flatMap (VY l))
theorem b1O(hl:∀s∈l.2.2,∀r∈s.2.2.2.2,(NJ l s r).length<=65536):∃k N b,(l.2.1≠[]\/l.2.2≠[]->k≠0)/\yZ (rdS [] [] [] 0 nmZ false) (liL l)=some (l,k,N,b):=by have r1:=QQ h (T:=[]) (S:=[]) (N:=nmZ) (b:=false) l.1 [] (λe he=>he) (by have:=h.n.ne;simp;omega);obtain⟨k2,h2,r2⟩:=VV h (S:=[]) (N:=nmZ) (b:=false) l.2.1 [] 0 (λt ht=>ht) (by have:=h.n.nt;simp;omega) (.inl rfl);obtain⟨k3,N3,b3,h3,r3⟩:=VU h hl l.2.2 0 k2 nmZ false rfl;refine⟨k3,N3,b3,λhq=>h3 (hq.elim (λhq=> .inl (h2 (.inr hq))) .inr),?_⟩;unfold liL;rw[G7]at r1 r2;rw[CQ _ _ _ _ r1,CQ _ _ _ _ r2];exact r3
end
theorem a5m(w:List UInt8):jm [w]=w++[10]:=rfl
theorem Dh{α:Type}(g:α->List UInt8)(f:α->List UInt8)(h:∀a,f a=g a++[10]):∀L:List α,jm (L.map g)=L.flatMap f
 |[]=>rfl|a::L=>by rw[bV,gJ,h,←Dh g f h L];simp[jm]
theorem Nc{α:Type}(g:α->List (List UInt8))(f:α->List UInt8)(h:∀a,f a=jm (g a)):∀L:List α,jm (L.flatMap g)=L.flatMap f
 |[]=>rfl|a::L=>by rw[gJ,gJ,vN,h,Nc g f h L]
theorem Wx(l:Z7):txL l=jm (liL l):=by
 unfold txL liL;rw[vN,vN,Dh a6P enT (λe=>rfl),Nc (Yf l.1) (tbT l) (λt=>?_),Nc (VY l) (scT l) (λs=>?_),E9]
 .unfold scT VY;rw[show ∀(a:List UInt8) (b:List (List UInt8)),a::b=[a]++b from λa b=>rfl,vN,vN,vN,vN,Dh (A_ vY l) (fdT vY l) (λr=>rfl),Dh (A_ IP l) (fdT IP l) (λr=>rfl),Dh (NJ l s) (ruT l s) (λr=>rfl)];have:jm (XF l s)=meT l s:=by
   unfold XF meT;cases U2 0 s.2.1<;>rfl
  rw[this,a5m,show lnW Eh [s.1]++[10]=scH s from rfl];simp only[E9]
 .unfold tbT Yf;rw[show ∀(a:List UInt8) (b:List (List UInt8)),a::b=[a]++b from λa b=>rfl,vN,Dh (b1K l.1 t) (roT l t) (λr=>rfl)];rfl
theorem a9V{ws:List (List UInt8)}(h:∀w∈ws,∀c∈w,prB c=true):∀c∈spW ws,prB c=true:=by
 intro c hc;unfold spW at hc;obtain⟨w,hw,hc⟩:=nS.1 hc;rcases x9.1 hc with rfl|hc
 .decide
 .exact h w hw c hc
theorem Vd{f:List UInt8}{ws:List (List UInt8)}(hf:∀c∈f,prB c=true)(h:∀w∈ws,∀c∈w,prB c=true):∀c∈lnW f ws,prB c=true:=uG hf (a9V h)
theorem a4H{E:List U6}{t:Int×Int}(hU:EnU E)(h:vty t E=true):∀c∈tyS t E,prB c=true:=by
 rcases Dl h with h1|h1|h1|h1|h1|h1
 .unfold tyS;rw[h1.1];exact(by decide:∀c∈([98,111,111,108]:List UInt8),prB c=true)
 .unfold tyS;rw[h1.1];exact(by decide:∀c∈([105,110,116]:List UInt8),prB c=true)
 .unfold tyS;rw[h1.1];exact(by decide:∀c∈([109,111,110,101,121]:List UInt8),prB c=true)
 .unfold tyS;rw[h1.1];exact(by decide:∀c∈([114,97,116,101]:List UInt8),prB c=true)
 .unfold tyS;rw[h1.1];exact(by decide:∀c∈([100,97,116,101]:List UInt8),prB c=true)
 .obtain⟨e,he,hm⟩:=KJ h h1;have:tyS t E=e.1:=by unfold tyS;rw[h1,he];rfl
  rw[this];exact Ip (hU.id e hm)
theorem sH(w:List UInt8)(h:w.all prB=true):∀c∈w,prB c=true:=λc hc=>ae.1 h c hc
theorem b6m{s:List UInt8}(h:Tc s=true):∀c∈s,prB c=true:=by unfold Tc at h;simp only[D5]at h;intro c hc;have:=ae.1 h.2 c hc;unfold Xc at this;unfold prB;simp only[D5]at this ⊢;exact this.1
section
variable {l:Z7} (h:FmL l)
include h
theorem a8G(hs:l.2.2[i]? =some s){r:aH}(hr:r∈s.2.2.2.2):(r.2.2.2.2.2.1≠[]->ExT (Bg r.2.2.2.2.2.1 (nmS l s)).1 r.2.2.2.2.2.1 (nmS l s))/\ExT (Bg r.2.2.2.2.2.2.1 (nmS l s)).1 r.2.2.2.2.2.2.1 (nmS l s)/\r.2.2.2.2.2.1.length<=48/\r.2.2.2.2.2.2.1.length<=48:=by
 have hm:=sV hs;obtain⟨j,hj⟩:=mW hr;have hR:=((oC h.v).2 i s hs).rules j r hj;obtain⟨hL,hNm,-,-⟩:=Zx h hm hr;have hD:=a7w h.v h.n hm;obtain⟨f,hf,hx⟩:=hR.df;obtain⟨x1,x2⟩:=UF hx;refine⟨λhne=>KH hNm hD hL.g (x1 hne),KH hNm hD hL.v x2,?_,?_⟩
 .by_cases e:r.2.2.2.2.2.1=[]
  .rw[e];simp
  .obtain⟨T,hs,-⟩:=Rh hL.g (x1 e);exact(rY hs).2
 .obtain⟨T,hs,-⟩:=Rh hL.v x2;exact(rY hs).2
theorem b1N(hs:l.2.2[i]? =some s){r:aH}(hr:r∈s.2.2.2.2):∀c∈NJ l s r,prB c=true:=by
 have hm:=sV hs;obtain⟨j,hj⟩:=mW hr;have hV:=(oC h.v).2 i s hs;have hR:=hV.rules j r hj;obtain⟨f,hf,hx⟩:=hR.df;obtain⟨c1,c2,c3⟩:=BN hf;obtain⟨u1,u2⟩:=a6L h hs _ _ c1;have hdn:dnS s r=f.1:=by unfold dnS;rw[hf];rfl
 obtain⟨d0,d1,d2,d3⟩:=UA (a:=r.2.2.2.2.1.1) (b:=r.2.2.2.2.1.2) hR.dv hR.dn;obtain⟨x1,x2,-,-⟩:=a8G h hs hr;have hso:∀c∈soT r.2.2.2.2.2.2.2,prB c=true:=by
  unfold soT;cases seq r.2.2.2.2.2.2.2 []
  .exact uG (sH _ C9) (uG (b6m hR.src) (sH _ C9))
  .exact λc hc=>by cases hc
 have hsp:NJ l s r=zY++(spW (ruP s r)++32::PE r (nmS l s)):=by unfold NJ lnW;rw[a0z]
 rw[hsp];refine uG (sH _ C9) (uG (a9V λw hw=>?_) (xw C9 ?_))
 .unfold ruP at hw;rw[hdn]at hw;simp only[G5,x9,J9,or_false]at hw;rcases hw with(rfl|rfl|rfl)|hw|hw|(rfl|rfl|rfl|rfl|rfl)
  .exact Ip hR.id
  .exact sH _ C9
  .exact Ip u1
  .unfold ovS at hw;rcases hR.pa with e|⟨p,q,e,hp,hq⟩
   .rw[e]at hw;cases hw
   .rw[e,Z4 o5,P5,hq]at hw;simp only[o7,aA,V5,x9,J9,or_false]at hw;rcases hw with rfl|rfl
    .exact sH _ C9
    .exact Ip (b0m h.v hs hq).1
  .unfold prS at hw;cases g:I9 0 r.2.2.2.1<;>rw[g]at hw
   .cases hw
   .simp only[o7,x9,J9,or_false]at hw;rcases hw with rfl|rfl
    .exact sH _ C9
    .exact(ZT (YO hR.p0 hR.p9)).2
  .exact sH _ C9
  .exact(Lp d0 d1).2
  .exact sH _ C9
  .exact(ZR d2 d3).2
  .unfold YT;cases I9 0 (x8 r.2.2.2.2.2.1)
   .exact sH _ C9
   .exact sH _ C9
 .unfold PE;cases g:I9 0 (x8 r.2.2.2.2.2.1)
  .exact uG x2.pr hso
  .have he:r.2.2.2.2.2.1≠[]:=λe=>by rw[e]at g;exact absurd g C9
   exact uG (x1 he).pr (uG (sH _ C9) (uG x2.pr hso))
theorem P_:∀w∈liL l,∀c∈w,prB c=true:=by
 have hU:=Qo h;have hW:=UK h;intro w hw;unfold liL at hw;rcases G5.1 hw with hw|hw
 .obtain⟨e,he,rfl⟩:=X7.1 hw;refine Vd (sH _ C9) λv hv=>?_;rcases x9.1 hv with rfl|hv
  .exact Ip (hU.id e he)
  .exact Ip (hW.mid e he v hv)
 rcases G5.1 hw with hw|hw
 .obtain⟨t,ht,hw⟩:=nS.1 hw;obtain⟨j,hj⟩:=mW ht;have hV:=(AQ h.v).2 j t hj;rcases x9.1 hw with rfl|hw
  .refine Vd (sH _ C9) λv hv=>?_;simp only[x9,J9,or_false]at hv;rcases hv with rfl|rfl|rfl
   .exact Ip hV.id
   .exact a4H hU hV.vk
   .exact a4H hU hV.vv
  .obtain⟨r,hr,rfl⟩:=X7.1 hw;have hR:=b4i h ht hr;refine Vd (sH _ C9) λv hv=>?_;rw[QP hW hV.vk hV.vv hR]at hv;simp only[x9,J9,or_false]at hv;rcases hv with rfl|rfl|rfl|rfl|rfl
   .exact(Lp hR.d0 hR.d1).2
   .exact(ZR hR.d3 hR.d2).2
   .exact(a1c hW hV.vk hR.hi.l hR.hi.il).2
   .exact(b3p hW hV.vk hR.hi).2
   .exact(a1c hW hV.vv hR.v hR.iv).2
 .obtain⟨s,hs,hw⟩:=nS.1 hw;obtain⟨i,hi⟩:=mW hs;have hV:=(oC h.v).2 i s hi;rcases x9.1 hw with rfl|hw
  .refine Vd (sH _ C9) λv hv=>?_;rw[U8.1 hv];exact Ip (a4w h.v hi).1
  rcases G5.1 hw with hw|hw
  .unfold XF at hw;rcases hV.mb with e|⟨p,q,e,hp,hq⟩
   .rw[e]at hw;cases hw
   .have em:meN l s=q.1:=by unfold meN;rw[e,P5,hq];rfl
    rw[e,Z4 o5,o7]at hw;rw[U8.1 hw];refine Vd (sH _ C9) λv hv=>?_;rw[U8.1 hv,em];exact Ip (a4w h.v hq).1
  rcases G5.1 hw with hw|hw
  .obtain⟨f,hf,rfl⟩:=X7.1 hw;obtain⟨j,hj⟩:=mW hf;refine Vd (sH _ C9) λv hv=>?_;simp only[x9,J9,or_false]at hv;rcases hv with rfl|rfl
   .exact Ip (hV.ins j f hj).id
   .exact a4H hU (hV.ins j f hj).ty
  rcases G5.1 hw with hw|hw
  .obtain⟨f,hf,rfl⟩:=X7.1 hw;obtain⟨j,hj⟩:=mW hf;refine Vd (sH _ C9) λv hv=>?_;simp only[x9,J9,or_false]at hv;rcases hv with rfl|rfl
   .exact Ip (hV.defs j f hj).id
   .exact a4H hU (hV.defs j f hj).ty
  .obtain⟨r,hr,rfl⟩:=X7.1 hw;exact b1N h hi hr
theorem a7h:LenL l:=by refine⟨⟨by have:=h.n.ne;omega,λe he=>by have:=(h.n.e e he).1;omega⟩,⟨by have:=h.n.nt;omega,λt ht=>by have:=a4F h ht;omega⟩,⟨by have:=(oC h.v).1;omega,λs hs=>?_⟩⟩;obtain⟨n1,n2,n3,n4,n5,n6⟩:=h.n.s s hs;refine⟨o5,o5,o5,λr hr=>?_⟩;obtain⟨i,hi⟩:=mW hs;obtain⟨-,-,a1,a2⟩:=a8G h hi hr;omega
theorem a3Q:∀(L:List (List UInt8)) (w:List UInt8),w∈L->w.length<=(jm L).length
 |[],w,hw=>by cases hw|v::L,w,hw=>by
  simp only[jm,D6,A8];rcases x9.1 hw with rfl|hw
  .omega
  .have:=a3Q L w hw;omega
theorem UX:∀(L:List (List UInt8)),L.length<=(jm L).length
 |[]=>by simp|v::L=>by simp only[jm,D6,A8];have:=UX L;omega
theorem a3S(hl:(txL l).length<=65536):∃k N b,(l.2.1≠[]\/l.2.2≠[]->k≠0)/\yZ (rdS [] [] [] 0 nmZ false) (liL l)=some (l,k,N,b):=by rw[Wx]at hl;refine b1O h λs hs r hr=>aV (a3Q h (liL l) (NJ l s r) ?_) hl;unfold liL VY;simp only[G5,nS,x9,X7];exact .inr (.inr ⟨s,hs,.inr (.inr (.inr (.inr ⟨r,hr,rfl⟩)))⟩)
theorem a5n(hS:SmL l)(hl:(txL l).length<=65536):fZ (txL l)=some (l,0,0):=by
 obtain⟨k,N,b,-,hr⟩:=a3S h hl;have hls:=Wx l;have hcnt:=UX h (liL l);rw[←hls]at hcnt;have hsp:gY (txL l)=some (liL l,0):=by rw[hls]at hl ⊢;exact PO hl (P_ h)
 rw[XL hsp o5 hr,JW hS,o9,c4A h.v];rfl
end
theorem Jp(hw:WfL l):uP l=some true:=by
 unfold uP;rw[Sv,o9];simp only[Uc,o9];cases h1:smL l
 case false=>rfl
 obtain⟨hS,-⟩:=a9g h1 hw;simp only[E8,o6];rw[Xw hS (a3B h1 hw),o9];unfold foS;cases hv:D8 (jA l).1 0
 .simp only[o6,hv];rfl
 simp only[o7];have h:=a3B h1 hw (iK.1 hv);cases hl:I9 65536 (x8 (txL l))
 case true=>rfl
 have hl:(txL l).length<=65536:=by have:=oO.1 hl;unfold x8 at this;omega
 simp only[o6];rw[a5n h hS hl];simp only[o9];rw[Xa (a7h h)];rfl
theorem a7l{ls:List (List UInt8)}(hl:ls.length<=1000000)(L0:Z7){w:List UInt8}{post:List (List UInt8)}{R1 R2:J3}{c:Int}(hw:H6 R1 w=some (c,R2))(hc:c≠0):∀(pre:List (List UInt8)) (i:Nat) (R:J3) (m:Nat),ls.drop i=pre++w::post->yZ R pre=some R1->
  gK (ltF ls) (m+1+pre.length) (L0,R,(i:Int))=some (.inr (([],[],[]),((i+pre.length:Nat):Int),c))
 |[],i,R,m,h,hr=>by
  cases hr;obtain⟨g1,g2⟩:=Oe h;show gK (ltF ls) (m+1) (L0,R1,(i:Int))=some (.inr (([],[],[]),(i:Int),c));have st:ltF ls (L0,R1,(i:Int))=some (.rt (([],[],[]),(i:Int),c)):=by unfold ltF;simp only[U5 g1,o7,P5,g1,o9,fO,bY,I7,hw,O5 hc,Z5]
  rw[bG,st]
 |v::pre,i,R,m,h,hr=>by
  obtain⟨g1,g2⟩:=Oe h;have hlt:=(ai.1 g1).1;unfold yZ at hr;cases hq:H6 R v with
  |none=>rw[hq]at hr;cases hr|some p=>
   rw[hq]at hr;obtain⟨d,R3⟩:=p;simp only at hr;by_cases hd:d=0
   .rw[if_pos hd]at hr;subst hd;have st:ltF ls (L0,R,(i:Int))=some (.nx (L0,R3,((i+1:Nat):Int))):=by
     unfold ltF;simp only[U5 g1,o7,P5,g1,o9,fO,bY,I7,hq,O7 (rfl:(0:Int)=0),E8,o6];rw[eP o5]
    rw[A8,show m+1+(pre.length+1)=(m+1+pre.length)+1 by omega,bG,st];have:=a7l hl L0 hw hc pre (i+1) R3 m g2 hr;rw[show i+(pre.length+1)=i+1+pre.length by omega];exact this
   .rw[if_neg hd]at hr;cases hr
theorem QF{s:List UInt8}{pre post:List (List UInt8)}{w:List UInt8}{R1 R2:J3}{c:Int}(hs:gY s=some (pre++w::post,0))(hl:(pre++w::post).length<=1000000)(hr:yZ (rdS [] [] [] 0 nmZ false) pre=some R1)(hw:H6 R1 w=some (c,R2))(hc:c≠0):
  fZ s=some (([],[],[]),(pre.length:Int),c):=by
 unfold fZ;rw[hs,o9];simp only[O7 (rfl:(0:Int)=0),E8,o6];have:P7 (ltF (pre++w::post)) (([],[],[]),(([],[],[]),0,([],[],[],[],[]),false),0)=some (.inr (([],[],[]),(pre.length:Int),c)):=by unfold P7;rw[show aG=(aG -1 -pre.length)+1+pre.length by simp only[D6,A8]at hl;unfold aG;omega];have:=a7l hl ([],[],[]) hw hc pre 0 (rdS [] [] [] 0 nmZ false) (aG -1 -pre.length) rfl hr;rw[dJ]at this;exact this
 refine X3 this ?_;rw[o9,kD]
def wA:List UInt8:=[105,110,112,117,116,32,120,32,105,110,116]
def wB:List UInt8:=[114,111,119,32,50,48,50,48,45,48,49,45,48,49,32,101,110,100,32,49,32,101,110,100,32,49]
def wC:List UInt8:=[101,110,117,109,32,111,116,104,101,114,32,97]
theorem b6L:H6 (rdS [] [] [] 0 nmZ false) wA=some (2,rdS [] [] [] 0 nmZ false):=by kernel_rfl
theorem b6M:H6 (rdS [] [] [] 0 nmZ false) wB=some (2,rdS [] [] [] 0 nmZ false):=by kernel_rfl
theorem b6N{k:Int}{N:D9}{b:Bool}(hk:k≠0):H6 (l,k,N,b) wC=some (2,(l,k,N,b)):=by
 have hw:H9 (wC,true)=some ([101,110,117,109],true,[111,116,104,101,114,32,97],true):=by kernel_rfl
 unfold H6;rw[hw];simp only[o9,O5 hk];rfl
theorem Xl:∀(L:List (List UInt8)) (n:Int),(∀w∈L,∀c∈w,prB c=true)->(jm L).foldl (λ(b:Int) c=>if c=10 then b+1 else b) n=n+(L.length:Int)
 |[],n,h=>by simp[jm]|w::L,n,h=>by
  have hw:∀(w:List UInt8) (n:Int),(∀c∈w,prB c=true)->w.foldl (λ(b:Int) c=>if c=10 then b+1 else b) n=n:=by
   intro w;induction w with
   |nil=>intro n _;rfl|cons c w ih=>
    intro n h;have hc:c≠10:=by rintro rfl;exact absurd (h 10 A7) C9
    rw[az,if_neg hc];exact ih n λd hd=>h d (by simp[hd])
  simp only[jm];rw[List.foldl_append,hw w n (h w A7),az,if_pos rfl,Xl L (n+1) (λv hv=>h v (by simp[hv]))];simp only[A8];omega
theorem a6C{γ:Type}{s:List UInt8}(hl:s.length<=1000000){K:Int->Option γ}{r:Option γ}(hk:K (s.foldl (λ(b:Int) c=>if c=10 then b+1 else b) 0)=r):
  l9 (dC
        (λ(x_2:L6)=>
         l7 (I9 x_2.2 (x8 s))
          (l9 (sat s x_2.2) λ(x:Int)=>
           l7 (D8 x 10) (some (Sum.inl (H8 IntKind.i64 x_2.1 1,H8 IntKind.i64 x_2.2 1)))
            (some (Sum.inl (x_2.1,H8 IntKind.i64 x_2.2 1))))
          (some (Sum.inr x_2.1)))
        (0,0)) K=r:=by
 refine wW s (λ(b:Int) c=>if c=10 then b+1 else b) (λb i=>(b,i)) id (λi b=>0<=b/\b<=(i:Int)) 0 hl ⟨o5,o5⟩ (λi a b ha hi hI=>?_) (λb hI=>by simp only[Y6,o6];rfl) (λ_=>hk);have e10:D8 (a.toNat:Int) 10=decide (a=10):=JV a 10 o5;simp only[U5 ha,o7,xK,ha,aA,o9,e10];by_cases h:a=10
 .rw[if_pos h];simp only[h,decide_true,o7];rw[dw bg,eP o5];exact⟨rfl,o5,o5⟩
 .rw[if_neg h];simp only[h,decide_false,o6];rw[eP o5];exact⟨rfl,o5,o5⟩
theorem Qy(hw:WfL l):yJ l=some true:=by
 unfold yJ;rw[Sv,o9];simp only[Uc,o9];cases h1:smL l
 case false=>rfl
 obtain⟨hS,-⟩:=a9g h1 hw;simp only[E8,o6];rw[Xw hS (a3B h1 hw),o9];unfold foS;cases hv:D8 (jA l).1 0
 .simp only[o6,hv];rfl
 simp only[o7];have h:=a3B h1 hw (iK.1 hv);cases hl:I9 65536 (x8 (txL l))
 case true=>rfl
 simp only[o6];cases hl2:I9 65436 (x8 (txL l))
 case true=>rfl
 have hl:(txL l).length<=65436:=by have:=oO.1 hl2;unfold x8 at this;omega
 obtain⟨k,N,b,hk,hr⟩:=a3S h o5;have hls:=Wx l;have hpr:=P_ h;have hcnt:=UX h (liL l);rw[←hls]at hcnt;simp only[O7 (rfl:(0:Int)=0),Kw,E8,o6,o9,Y2];refine a6C (s:=txL l) o5 ?_;have hy:(txL l).foldl (λ(b:Int) c=>if c=10 then b+1 else b) 0=((liL l).length:Int):=by rw[hls,Xl _ 0 hpr];omega
 rw[hy];have pA:fZ (wA++[10]++txL l)=some (([],[],[]),0,2):=by
  have e:wA++[10]++txL l=jm (wA::liL l):=by rw[hls];simp[jm]
  have hsp:gY (wA++[10]++txL l)=some ([]++wA::liL l,0):=by
   have hlen:(jm (wA::liL l)).length<=65536:=by rw[←e];simp[wA];omega
   rw[e];refine PO hlen λw hw=>?_;rcases x9.1 hw with rfl|hw
   .exact sH _ C9
   .exact hpr w hw
  exact QF (pre:=[]) hsp G8 rfl b6L C9
 have pB:fZ (wB++[10]++txL l)=some (([],[],[]),0,2):=by
  have e:wB++[10]++txL l=jm (wB::liL l):=by rw[hls];simp[jm]
  have hsp:gY (wB++[10]++txL l)=some ([]++wB::liL l,0):=by
   have hlen:(jm (wB::liL l)).length<=65536:=by rw[←e];simp[wB];omega
   rw[e];refine PO hlen λw hw=>?_;rcases x9.1 hw with rfl|hw
   .exact sH _ C9
   .exact hpr w hw
  exact QF (pre:=[]) hsp G8 rfl b6M C9
 have hspC:gY (txL l++(wC++[10]))=some (liL l++wC::[],0):=by
  have e:txL l++(wC++[10])=jm (liL l++[wC]):=by rw[hls,vN];rfl
  have hlen:(jm (liL l++[wC])).length<=65536:=by rw[←e];simp[wC];omega
  rw[e];refine PO hlen λw hw=>?_;rcases G5.1 hw with hw|hw
  .exact hpr w hw
  .rw[U8.1 hw];exact sH _ C9
 rw[O8 G8,o9,show([105,110,112,117,116,32,120,32,105,110,116,10]:List UInt8)=wA++[10]from rfl,pA,o9];rw[O8 G8,o9,show([114,111,119,32,50,48,50,48,45,48,49,45,48,49,32,101,110,100,32,49,32,101,110,100,32,49,10]:List UInt8)=wB++[10]from rfl,pB,o9];rw[O8 G8,o9,show([101,110,117,109,32,111,116,104,101,114,32,97,10]:List UInt8)=wC++[10]from rfl];by_cases hq:l.2.1≠[]\/l.2.2≠[]
 .rw[QF hspC G8 hr (b6N (hk hq)) C9,o9];simp only[O7 (rfl:(0:Int)=0),O7 (rfl:(2:Int)=2),O7 (rfl:((liL l).length:Int)=((liL l).length:Int)),o7,E8,o6];cases I9 0 (x8 l.2.1)<;>simp only[o7,o6];cases I9 0 (x8 l.2.2)<;>rfl
 .have e1:l.2.1=[]:=jX λg=>hq (.inl g);have e2:l.2.2=[]:=jX λg=>hq (.inr g);have hp:∃v,fZ (txL l++(wC++[10]))=some v:=by
   have r1:=QQ h (T:=[]) (S:=[]) (N:=nmZ) (b:=false) l.1 [] (λe he=>he) (by have:=h.n.ne;simp;omega);rw[G7]at r1;have el:liL l=l.1.map a6P:=by unfold liL;rw[e1,e2];simp
   have r2:H6 (rdS l.1 [] [] 0 nmZ false) wC=some (0,rdS (l.1++[([111,116,104,101,114],[[97]])]) [] [] 0 nmZ false):=
    XR (n:=[111,116,104,101,114]) (ms:=[[97]]) ⟨λw hw=>by simp only[x9,J9,or_false]at hw;rcases hw with rfl|rfl<;>exact xU C9 C9,C9⟩ C9 C9 (by have:=h.n.ne;omega)
   have r3:yZ (rdS [] [] [] 0 nmZ false) (liL l++[wC])=some ((l.1++[([111,116,104,101,114],[[97]])],[],[]),0,nmZ,false):=by rw[el,CQ _ _ _ _ r1];exact a4u r2
   have hS2:SmL (l.1++[([111,116,104,101,114],[[97]])],[],[]):=by
    refine⟨⟨(by have:=h.n.ne;simp;omega),A7,A7⟩,?_,(λt ht=>by cases ht),(λs hs=>by cases hs)⟩;intro e he;rcases G5.1 he with he|he
    .exact hS.en e he
    .rw[U8.1 he];decide
   rw[XL hspC G8 r3,JW hS2,o9];cases I4 (D8 (jA (l.1++[([111,116,104,101,114],[[97]])],[],[])).1 0)
   .exact⟨_,rfl⟩
   .exact⟨_,rfl⟩
  obtain⟨v,hp⟩:=hp;rw[hp,o9,e1,e2];rfl
end
end Go.GP
namespace Go.GP
open Gt
theorem IM:∀x,WE Gt.ps4 x->(Gt.s4.fn x:Option Bool)=some true:=λx h=>Jp (l:=x) (b3q h)
theorem OX:∀x,WE Gt.ps6 x->(Gt.s6.fn x:Option Bool)=some true:=λx h=>Qy (l:=x) (b3q h)
end Go.GP
