import Derived.Test.YtgmlbmcajglngaaGreatDoorV3
import Derived.Test.YtgmlbmcajglngaaGreatDoorV5
set_option linter.all false
namespace Go.GP
open Gt
set_option maxRecDepth 100000
section
abbrev Nd:Type:=Int×Int
def isJ(k:Int):Bool:=l9 (S9 50 k) (S9 k 53) false
theorem F_(k:Int):tC k=some (isJ k):=by unfold tC isJ;cases S9 50 k<;>rfl
theorem RH(k:Int):nP k=some (isJ k):=F_ k
variable {k:Int}
theorem GK :isJ k=true↔50<=k/\k<=53:=by grind [isJ,S9,l9]
theorem TU :isJ k=false↔k<50\/53<k:=by grind [GK]
def Op(k:Int):Prop:=k≠23/\k≠24/\k≠26/\0<=lG k/\lG k<=3/\k<50/\0<k
theorem a2S(h0:0<=lG k)(h:k≠23/\k≠24/\k≠26):Op k:=by
 have h1:1<=k/\k<=39:=by
  grind [c2p]
 have:=(LY k).2.2;exact⟨h.1,h.2.1,h.2.2,h0,l7,l7,l7⟩
def StV(m:Nat)(D:Nat->Int)(i:Nat)(n:Nd):Prop:=
 (n.1=51/\∃t:Nat,n.2=t/\i<t/\t<=m/\D t=D i)\/
 ((n.1=50\/n.1=52\/n.1=53)/\∃t:Nat,n.2=t/\i<t/\t<=m/\1<=D i/\D (i+1)=D i -1/\D t=l9 (x8 n.1 50) (D i -1) (D i))\/
 (Op n.1/\lG n.1<=D i/\D i -lG n.1+1<=12/\D (i+1)=D i -lG n.1+1)
structure Vf (c:List Nd) (D:Nat->Int):Prop where
 l0:0<c.length
 l1:c.length<=128
 d0:D 0=0
 dn:D c.length=1
 bd:∀i,D i<=100
 st:∀i n,c[i]? =some n->0<=D i->StV c.length D i n
 iN:∀n∈c,iq n.2
structure Lb (D:Nat->Int) (m:Nat) (y:d4D):Prop where
 len:y.length=m+1
 at_:∀j,j<=m->y[j]? =some (-1)\/(y[j]? =some (D j)/\0<=D j)
variable {D:Nat->Int}{m:Nat}{t:Nat}{y:d4D}
theorem Lb.set(h:Lb D m y)(ht:t<=m)(h0:0<=D t):Lb D m (y.set t (D t)):=by
 refine⟨by simp[h.len],λj hj=>?_⟩;by_cases e:t=j
 .subst e;exact .inr ⟨ax (by have:=h.len;omega),h0⟩
 .rw[List.getElem?_set_ne e];exact h.at_ j hj
theorem Vz(h:Lb D m y)(ht:t<=m)(h0:0<=D t):gJ y (t:Int) (D t)=some (0,y.set t (D t)):=by
 unfold gJ;rcases h.at_ t ht with e|⟨e,_⟩<;>simp[G8,P7,V8,O9,D9,e,o8]
 .rfl
 simp_all [ae,L8]
theorem Xb(h:Lb D m y)(ht:t<=m):(y.set t (D t))[t]? =some (D t):=ax (by have:=h.len;omega)
theorem E_(k:Int)(h:isJ k=true\/Op k):uj k=some true:=by
 unfold uj;rw[F_,o8,Kr,o8];rcases h with h|⟨h1,h2,h3,h4,_⟩
 .have:=GK.1 h;rw[I4 l7,I4 l7,I4 l7,h];rfl
 .rw[I4 h1,I4 h2,I4 h3,ae h4];cases isJ k<;>rfl
variable {c:List Nd}{n:Nd}{i:Nat}
theorem c1S(hv:Vf c D)(h:Lb D c.length y)(hn:c[i]? =some n)(hy:y[i]? =some (D i))(h0:0<=D i):
  ∃y',pq y c (i:Int) n=some (0,y')/\Lb D c.length y' /\∃j,i<j/\j<=c.length/\y'[j]? =some (D j)/\0<=D j:=by
 have hi:=(U8.1 hn).1;have hb:=hv.bd i;have hl:=hv.l1;have hs:=hv.st i n hn h0;unfold pq;have hJ:n.1=51\/n.1=50\/n.1=52\/n.1=53->isJ n.1=true:=λh=>GK.2 l7;have hg:∀{γ:Type} (K:Int->Option γ),(o5 (H9 y (i:Int)) λ_=>o5 (P7 y (O9 (i:Int))) K)=K (D i):=λK=>by simp_all [G8,P7,O9]
 have i1:A8 .i64 (i:Int) 1=((i+1:Nat):Int):=by grind [U5,iq]
 rcases hs with⟨h1,t,h2,h3,h4,h5⟩|⟨h1,t,h2,h3,h4,h5,h6,h7⟩|⟨h1,h2,h3,h4⟩
 .rw[E_ _ (.inl (hJ (.inl h1))),h1,h2];rw[aC l7,L6 (by simp_all [o9])];simp[o6,o8,V4,hg];rw[L8 rfl,←h5,Vz h h4 l7];exact⟨_,rfl,h.set h4 l7,t,h3,h4,Xb h h4,l7⟩
 .have hj:=hJ l7;rw[E_ _ (.inl hj),F_,hj];rw[aC l7,L6 (by simp_all [o9])];simp[o6,o8,V4,hg];rw[I4 l7,L6 h5];have hq:(l9 (x8 n.1 50) (some (x8 n.1 50)) (l9 (x8 n.1 52) (some (x8 n.1 52)) (some (x8 n.1 53))))=some true:=by
   rcases h1 with e|e|e<;>rw[e]<;>rfl
  rw[hq,o8,i1,U7 (by grind [iq]),←h6,Vz h l7 l7];simp[o8,L8 (rfl:(0:Int)=0),E8,o6];have h' :=h.set (t:=i+1) l7 l7;have hr:=Vz h' h4 (by grind [x8,o7,o6]);have hpos:0<=D t:=by grind [x8,o7,o6]
  refine⟨(y.set (i+1) (D (i+1))).set t (D t),?_,h'.set h4 hpos,t,h3,h4,Xb h' h4,hpos⟩;cases h50:x8 n.1 50<;>rw[h50]at h7<;>simp at h7 ⊢
  all_goals simp_all
 .obtain⟨g1,g2,g3,g4,g5,g6,g7⟩:=h1;have hnj:=TU.2 (.inl g6);rw[E_ _ (.inr ⟨g1,g2,g3,g4,g5,g6,g7⟩),F_,hnj];simp[E8,o6,o8,V4,hg];rw[I4 l7,I4 l7,I4 l7,I4 l7];simp;rw[Kr,o8,L6 h2,U7 (by grind [iq]),U5 (by grind [iq]),L6 h3,i1,←h4,Vz h l7 l7];exact⟨_,rfl,h.set l7 l7,i+1,l7,l7,Xb h l7,l7⟩
theorem c0l(hm:m<=1000){f:d4D×Int->Option ((d4D×Int)⊕d4D)}(x:d4D)(hx:x.length=m)
  (h1:∀y (i:Nat),y.length=m->i<m->f (y,(i:Int))=some (.inl (y.set i (-1),((i+1:Nat):Int)))) (h2:∀y,f (y,(m:Int))=some (.inr y)):
  ∃y,X8 f (x,0)=some y/\y.length=m/\∀j,j<m->y[j]? =some (-1):=by
 refine cu (λs=>s.1.length=m/\∃i:Nat,s.2=(i:Int)/\i<=m/\∀j,j<i->s.1[j]? =some (-1)) _ (λs=>m -s.2.toNat) ⟨hx,0,rfl,l7,λj h=>by omega⟩ l7 ?_;rintro⟨y,k⟩ ⟨hy,i,rfl,hi,hj⟩;by_cases hl:i<m
 .refine .inl ⟨_,h1 y i hy hl,⟨by simpa using hy,i+1,rfl,l7,λj hj2=>?_⟩,l7⟩<;>grind
 grind
theorem obx{α β:Type}{o:Option α}{f:α->Option β}{P:α->Prop}{Q:β->Prop}(h:∃a,o=some a/\P a)(k:∀a,P a->∃b,f a=some b/\Q b):∃b,o5 o f=some b/\Q b:=by obtain⟨a,rfl,ha⟩:=h<;>simp_all
theorem a3z(hv:Vf c D):∃r,zk c=some r/\r.2=0:=by
 have l0:=hv.l0;have l1:=hv.l1;unfold zk;rw[L6 (by grind [o9]),I4 (by grind [o9]),U5 (by grind [iq,o9]),BI (by grind [o9]) (by grind [o9]),o8];obtain⟨y,e,hy,hj⟩:=c0l (m:=c.length+1) l7 (f:=λ(x_1:d4D×Int)=>
      l9 (F7 x_1.2 (o9 (List.replicate (o9 c+1).toNat (0:Int))))
       (o5 (H9 x_1.1 x_1.2) λ(x:Int)=>
        o5 (P7 x_1.1 (O9 x_1.2)) λ(x:Int)=>
         some (Sum.inl (V8 x_1.1 (O9 x_1.2) (-1),A8 IntKind.i64 x_1.2 1)))
       (some (Sum.inr x_1.1))) (List.replicate (o9 c+1).toNat (0:Int)) (by simp[o9]) (λy i hy hi=>by
   grind [U0,o9,o7,G8,P7,O9,o8,V8,U5,iq]) (λy=>by simp[L6,o9])
 rw[e];have hL:=by have:=(Lb.mk (D:=D) hy (λj h=> .inl (hj j l7))).set (t:=0) l7 (by rw[hv.d0];omega);rwa[hv.d0]at this
 have hy0:=hj 0 l7;simp only[show H9 y 0=some (-1)from hy0,P7,O9,show y[(0:Int).toNat]? =some (-1)from hy0,o8];refine obx (P:=λo=>∃z:d4D×Int,o= .inl z/\Lb D c.length z.1/\z.1[c.length]? =some 1) ?_ ?_
 .refine Or.elim (AO (s:=(y.set 0 0,0,0))
   (λs=>Lb D c.length s.1/\∃i:Nat,s.2.2=(i:Int)/\i<=c.length/\∃j,i<=j/\j<=c.length/\s.1[j]? =some (D j)/\0<=D j)
   (λz=>Lb D c.length z.1/\z.1[c.length]? =some 1) (λ_=>False) (λs=>c.length -s.2.2.toNat)
   ⟨hL,0,rfl,l7,0,l7,l7,by rw[hv.d0];simp_all,by rw[hv.d0];omega⟩ l7 ?_) (λ⟨z,e1,e2⟩=>⟨_,e1,z,rfl,e2⟩) (λ⟨r,_,h⟩=>h.elim)
  rintro⟨y,g,k⟩ ⟨hL,i,rfl,hi,j,j1,j2,j3,j4⟩;by_cases hlt:i<c.length
  .have hc:=dE hlt;have i1:A8 .i64 (i:Int) 1=((i+1:Nat):Int):=by grind [U5,iq]
   rw[U0 (by simp_all [o9]),G8,hc,i1];rcases hL.at_ i hi with e|⟨e,h0⟩<;>simp only[G8,P7,O9,D9,e,o8]
   .refine .inl ⟨_,rfl,⟨hL,i+1,rfl,l7,j,?_,j2,j3,j4⟩,by simp;omega⟩<;>grind
   .rw[L6 h0];obtain⟨y',e1,e2,j',k1,k2,k3,k4⟩:=c1S hv hL hc e h0;rw[e1];exact .inl ⟨_,rfl,⟨e2,i+1,rfl,l7,j',l7,k2,k3,k4⟩,by grind⟩
  .have:i=c.length:=l7;subst this;have hjc:j=c.length:=l7;subst hjc;rw[L6 (by simp[o9])];exact .inr (.inl ⟨_,rfl,hL,by rw[j3,hv.dn]⟩)
 .rintro o ⟨z,rfl,hz,h1⟩;simp only[V4,o9,G8,P7,O9,D9,h1,o8];exact⟨_,rfl,rfl⟩
def b2Z(v:V3):Bool:=l9 (x8 v.1 1) (l9 (x8 v.2.2 0) false (G6 (x8 v.2.2 1))) true
abbrev z3:V3:=(0,0,0)
def Uo(s:List V3):V3:=s.getLast?.getD z3
def a9b(n:Nd)(v:V3):Bool:=ji (x8 v.2.2 1) (x8 n.1 53)
def opr(env:aA)(n:Nd)(s:List V3):V3×Int:=mY n (s.drop (s.length -(lG n.1).toNat)) env
def br(env:aA)(n:Nd)(s:List V3):(Bool×List V3)⊕(V3×Int):=
 l9 (isJ n.1) (l9 (x8 n.1 51) (.inl (true,s)) (l9 (b2Z (Uo s)) (.inr (z3,8)) (.inl (a9b n (Uo s),l9 (fF (a9b n (Uo s)) (G6 (x8 n.1 50))) s s.dropLast))))
  (l9 (x8 (opr env n s).2 0) (.inl (false,s.take (s.length -(lG n.1).toNat)++[(opr env n s).1])) (.inr (z3,(opr env n s).2)))
inductive Rn (env:aA) (c:List Nd):Nat->List V3->V3×Int->Prop
 |fin (s:List V3):Rn env c c.length s (s.head?.getD z3,0)
 |err {p:Nat} {n:Nd} {s:List V3} {e:V3×Int} (h:c[p]? =some n) (hb:br env n s= .inr e):Rn env c p s e
 |go {p q:Nat} {n:Nd} {s s' :List V3} {b:Bool} {r:V3×Int} (h:c[p]? =some n) (hb:br env n s= .inl (b,s')) (hq:q=l9 b n.2.toNat (p+1)) (hlt:p<q) (hr:Rn env c q s' r):Rn env c p s r
theorem c4u(k:Int):BP k=some (l9 (isJ k) (G6 (x8 k 51)) false):=by
 unfold BP;by_cases h:isJ k=true
 .have:=GK.1 h;rw[h,o7];have:k=50\/k=51\/k=52\/k=53:=l7;rcases this with e|e|e|e<;>subst e<;>rfl
 .have h2:=Bool.eq_false_iff.2 h;have:=TU.1 h2;rw[h2,I4 (show k≠50 by omega),I4 (show k≠52 by omega),I4 (show k≠53 by omega)];rfl
theorem c7C{s:List V3}(h:0<s.length)(h2:s.length<=100):H9 s ((s.length -1:Nat):Int)=some (Uo s)/\P7 s (O9 ((s.length -1:Nat):Int))=some (Uo s)/\I8 .i64 (o9 s) 1=((s.length -1:Nat):Int):=by
 have e:I8 .i64 (o9 s) 1=((s.length -1:Nat):Int):=by rw[U7 (by unfold iq o9;omega)];unfold o9;omega
 have:s[s.length -1]? =some (Uo s):=by unfold Uo;rw[List.getLast?_eq_getElem?,dE l7];rfl
 rw[G8];exact⟨this,this,e⟩
variable {α:Type}
theorem b9Y(v:V3)(x y:α):l9 (G6 (x8 v.1 1)) x (l9 (G6 (x8 v.2.2 0)) (l9 (G6 (x8 v.2.2 1)) x y) y)=l9 (b2Z v) x y:=by unfold b2Z;cases x8 v.1 1<;>cases x8 v.2.2 0<;>cases x8 v.2.2 1<;>rfl
variable {env:aA}
theorem c4i{p:Nat}{s s' :List V3}{b:Bool}(hs:StV m D p n)(hd:D p=s.length)(h:br env n s= .inl (b,s')):
  p<l9 b n.2.toNat (p+1)/\D (l9 b n.2.toNat (p+1))=s'.length:=by
 unfold br at h;rcases hs with⟨h1,t,h2,h3,h4,h5⟩|⟨h1,t,h2,h3,h4,h5,h6,h7⟩|⟨⟨g1,g2,g3,g4,g5,g6,g7⟩,h2,h3,h4⟩
 .rw[h1]at h;simp only[show isJ 51=true from rfl,show x8 51 51=true from rfl,o7,Sum.inl.injEq,aH]at h;obtain⟨rfl,rfl⟩:=h;simp only[o7,h2,D9];omega
 .rw[GK.2 l7,o7,I4 (show n.1≠51 by omega),o6]at h;cases hb:b2Z (Uo s)<;>rw[hb]at h<;>simp only[o7,o6,Sum.inl.injEq,aH,reduceCtorEq]at h;obtain⟨rfl,rfl⟩:=h;rw[h2,D9];cases a9b n (Uo s)<;>cases h5:x8 n.1 50<;>rw[h5]at h7<;>simp only[o7,o6,fF,G6,lu,Bool.not_false,Bool.and_true,Bool.and_false,qO,Bool.false_and,List.length_dropLast]at h7 ⊢<;>omega
 .rw[TU.2 (.inl g6),o6]at h;cases hr:x8 (opr env n s).2 0<;>rw[hr]at h<;>simp only[o7,o6,Sum.inl.injEq,aH,reduceCtorEq]at h;obtain⟨rfl,rfl⟩:=h;simp only[o6,J9,bH,List.length_singleton];omega
theorem c2a(hv:Vf c D){f:V3×List V3×Int×Int->Option (Out (V3×List V3×Int×Int) (V3×List V3×Int) (V3×Int×Int))}
  (hf:∀z s k p n,c[p]? =some n->StV c.length D p n->D p=s.length->f (z,s,k,(p:Int))=some (match br env n s with| .inl x=> .nx (z,x.2,A8 .i64 k 1,((l9 x.1 n.2.toNat (p+1):Nat):Int))| .inr e=> .rt (e.1,0,e.2)))
  (he:∀z s k,f (z,s,k,(c.length:Int))=some (.ex (z,s,k))) {p:Nat} {s:List V3} {r:V3×Int} (h:Rn env c p s r):
  D p=s.length->∀z k fl,c.length -p<fl->∃o,qi f fl (z,s,k,(p:Int))=some o/\((∃z s' k',o= .inl (z,s',k')/\s'.length=1/\r=(s'.head?.getD z3,0))\/o= .inr (r.1,0,r.2)):=by
 induction h with
 |fin s=>intro hd z k fl hfl;obtain⟨fl,rfl⟩:∃n,fl=n+1:=⟨fl -1,l7⟩;rw[qi,he];rw[hv.dn]at hd;exact⟨_,rfl,.inl ⟨z,s,k,rfl,l7,rfl⟩⟩
 |err h hb=>intro hd z k fl hfl;obtain⟨fl,rfl⟩:∃n,fl=n+1:=⟨fl -1,l7⟩;rw[qi,hf _ _ _ _ _ h (hv.st _ _ h l7) hd,hb];exact⟨_,rfl,.inr rfl⟩
 |go h hb hq hlt hr ih=>intro hd z k fl hfl;obtain⟨fl,rfl⟩:∃n,fl=n+1:=⟨fl -1,l7⟩;have hs:=hv.st _ _ h l7;have:=c4i hs hd hb;rw[qi,hf _ _ _ _ _ h hs hd,hb];simp only[←hq];rw[←hq]at this;have hl:=(U8.1 h).1;exact ih this.2 _ _ fl l7
theorem d3U(hE:EvOk env)(hv:Vf c D){r:V3×Int}(h:Rn env c 0 [] r):∃q:V3×Int×Int,QM c env=some q/\q.1=r.1/\q.2.2=r.2:=by
 unfold QM;obtain⟨k,e,hk⟩:=a3z hv;rw[e,o8,L8 hk];simp only[E8,o6];refine obx (c2a hv (D:=D) (λz s k p n hn hs hd=>?_) (λz s k=>?_) h (by rw[hv.d0];rfl) z3 0 kK (by have:=hv.l1;unfold kK;omega)) ?_
 rotate_left
 .simp only[L6 (show o9 c<=(c.length:Int)from aW _),o6]
 .rintro o (⟨z,s',k',rfl,h1,rfl⟩|rfl)
  .obtain⟨v,rfl⟩:=List.length_eq_one_iff.1 h1;exact⟨_,rfl,rfl,rfl⟩
  .exact⟨_,rfl,rfl,rfl⟩
 have hl:=(U8.1 hn).1;have hl1:=hv.l1;have hb:=hv.bd p;have i1:A8 .i64 (p:Int) 1=((p+1:Nat):Int):=by rw[U5 O6];omega
 simp only;rw[U0 (by unfold o9;omega),o7,G8,hn,o8,c4u,o8,i1];unfold br;rcases hs with⟨h1,t,h2,h3,h4,h5⟩|⟨h1,t,h2,h3,h4,h5,h6,h7⟩|⟨⟨g1,g2,g3,g4,g5,g6,g7⟩,h2,h3,h4⟩
 .rw[h1,h2];rfl
 .rw[GK.2 l7,I4 (show n.1≠51 by omega),h2];obtain⟨e1,e2,e3⟩:=c7C (s:=s) l7 l7;have e4:nG 0 ((s.length -1:Nat):Int) (o9 s)=true:=by simp[nG,o9]
  have e5:lJ s (O9 0) (O9 ((s.length -1:Nat):Int))=s.dropLast:=by simp[lJ,O9,List.dropLast_eq_take]
  simp only[o7,o6,E8,bY,e1,e2,o8,b9Y,e3,e4,e5];cases b2Z (Uo s)
  .simp only[o6,o8,V4,show ji (x8 (Uo s).2.2 1) (x8 n.1 53)=a9b n (Uo s)from rfl,D9];cases a9b n (Uo s)<;>cases x8 n.1 50<;>rfl
  .rfl
 .rw[TU.2 (.inl g6),I4 (show n.1≠51 by omega)];simp only[o6,bY,o7,Kr,o8];have e0:I8 .i64 (o9 s) (lG n.1)=((s.length -(lG n.1).toNat:Nat):Int):=by rw[U7 (by unfold iq o9;omega)];unfold o9;omega
  have e1:lJ s (O9 ((s.length -(lG n.1).toNat:Nat):Int)) (O9 (o9 s))=s.drop (s.length -(lG n.1).toNat):=by simp[lJ,O9,o9]
  have e2:lJ s (O9 0) (O9 ((s.length -(lG n.1).toNat:Nat):Int))=s.take (s.length -(lG n.1).toNat):=by simp[lJ,O9]
  rw[e0,show nG ((s.length -(lG n.1).toNat:Nat):Int) (o9 s) (o9 s)=true by simp[nG,o9],show nG 0 ((s.length -(lG n.1).toNat:Nat):Int) (o9 s)=true by simp[nG,o9],e1,e2,o7,
   (IZ _ hE (hv.iN n (lM hn)) ⟨g1,g2,g3⟩ U3).2,o8,o7,kU _ U3]
  simp only[opr];cases x8 (mY n (s.drop (s.length -(lG n.1).toNat)) env).2 0<;>rfl
def lgB(k:Int):Bool:=l9 (x8 k 23) true (x8 k 24)
def cL:XT->Nat
 | .l0 _=>1| .l1 _ a=>cL a+1| .l2 _ a b=>cL a+cL b+1| .l3 _ a b c=>cL a+cL b+cL c+2
def cT:XT->Nat->List Nd
 | .l0 n,_=>[n]| .l1 n a,o=>cT a o++[n]| .l2 n a b,o=>l9 (lgB n.1) (cT a o++(l9 (x8 n.1 24) 53 52,((o+cL a+1+cL b:Nat):Int))::cT b (o+cL a+1)) (cT a o++cT b (o+cL a)++[n])| .l3 n a b c,o=>cT a o++(50,((o+cL a+cL b+2:Nat):Int))::(cT b (o+cL a+1)++(51,((o+cL a+cL b+2+cL c:Nat):Int))::cT c (o+cL a+cL b+2))
theorem vK(t:XT):∀o,(cT t o).length=cL t:=by
 induction t with
 |l0 n=>intro o;rfl|l1 n a ha=>simp_all [cT,cL]|l2 n a b ha hb=>unfold cT cL;cases lgB n.1<;>simp[l9,ha,hb]<;>omega|l3 n a b c ha hb hc=>grind [cT,cL]
theorem Xy(t:XT):1<=cL t/\cL t<=2*t.size:=by induction t<;>grind [cL,XT.size]
variable {e:List Nd}
theorem IW{T t:XT}{o:Nat}(hT:kX e= .inr T)(h:At e (T.sts 0) t o)(hw:t.wf):GH e (rtI t o:Int)=some (Vq t o):=by
 obtain⟨hp,he⟩:=wS hT;have hr:=vW h;have ha:=c3F hw;unfold GH Au;rw[IP,o8];unfold Fa;rw[hT];simp only[G8,hr.1,o8,Kr,L8 (rfl:(0:Int)=0),E8,o6];rw[L6 l7,aC (by simp_all [o9])];simp;rw[BI ha.1 l7,o8,dL];rw[show I8 .i64 ((rtI t o:Nat):Int) 1=(rtI t o:Int) -1 from U7 (by grind [iq])];rw[show I8 .i64 (o9 (List.replicate (lG t.node.1).toNat (0:Int))) 1=lG t.node.1 -1 by
  grind [o9,U7,iq]]
 refine a6Z ⟨λl c j x hj hl hx hx2=>?_,λl c=>?_⟩ h he hw
 .grind [ae,o7,G8,o8,P7,O9,Int.toNat_natCast,V8,U7,iq]
 .rfl
theorem a0j{f:List Nd×Int->Option ((List Nd×Int)⊕List Nd)}(g:Nat->List Nd)(m:Nat)(hm:m<=100) (hs:∀i,i<m->f (g i,(i:Int))=some (.inl (g (i+1),((i+1:Nat):Int)))) (he:f (g m,(m:Int))=some (.inr (g m))):X8 f (g 0,0)=some (g m):=by
 obtain⟨r,h,rfl⟩:=cu (λs=>∃i:Nat,s=(g i,(i:Int))/\i<=m) (λr=>r=g m) (λs=>m -s.2.toNat) ⟨0,rfl,l7⟩ l7 (by
  rintro s ⟨i,rfl,hi⟩;by_cases hl:i<m
  .exact .inl ⟨_,hs i hl,⟨i+1,rfl,l7⟩,l7⟩
  grind)
 omega
theorem Sl(a:List α)(x y:α)(b:List α):(a++x::b).set a.length y=a++y::b:=x9
theorem Di(a:List α)(x:α)(b:List α):(a++x::b)[a.length]? =some x:=x9
theorem a8C{T:XT}(hT:kX e= .inr T):∀(t:XT) (o k:Nat) (c:List Nd),At e (T.sts 0) t o->t.wf->t.size<=k->c.length+2*t.size<=1000->
  aJ k c e (rtI t o:Int)=some (c++cT t c.length):=by
 intro t;induction t with
 |l0 n=>intro o k c h hw hk hc;obtain⟨k,rfl⟩:∃m,k=m+1:=⟨k -1,by simp_all [XT.size]⟩;have hr:=vW h;have hz:=PI (.inl (show lG n.1=0 from hw));show fB (aJ k) c e _=_;unfold fB;rw[IW hT h hw,o8,G8,hr.1,o8];simp only[XT.node];rw[I4 hz.1,I4 hz.2.1,I4 hz.2.2];simp only[o6,o8];refine cZ (a0j (λ_=>c) 0 l7 l7 rfl) ?_;rw[o8,kU _ l7,o8];rfl
 |l1 n a iha=>
  intro o k c h hw hk hc;simp only[XT.size]at hk hc;obtain⟨k,rfl⟩:∃m,k=m+1:=⟨k -1,l7⟩;have hr:=vW h;have hz:=PI (.inr (show lG n.1=1 from hw.1));show fB (aJ k) c e _=_;unfold fB;rw[IW hT h hw,o8,G8,hr.1,o8];simp only[XT.node];rw[I4 hz.1,I4 hz.2.1,I4 hz.2.2];simp only[o6,o8];have ca:=Xy a;have:=vK a c.length;refine cZ (a0j (λi=>match i with|0=>c|_=>c++cT a c.length) 1 l7 (λi hi=>by obtain rfl:i=0:=l7;show o5 (aJ k c e (rtI a o:Int)) _=_;rw[iha o k c (b5f h) hw.2 l7 l7];rfl) rfl) ?_<;>grind [cT,o8,kU]
 |l2 n a b iha ihb=>
  intro o k c h hw hk hc;simp only[XT.size]at hk hc;obtain⟨k,rfl⟩:∃m,k=m+1:=⟨k -1,l7⟩;have hr:=vW h;have hz:=Zv (show lG n.1=2 from hw.1);show fB (aJ k) c e _=_;unfold fB;rw[IW hT h hw,o8,G8,hr.1,o8];simp only[XT.node,Vq];have ca:=Xy a;have cb:=Xy b;have la:=vK a c.length;have eA:=iha o k c (Uz h).1 hw.2.1 l7 l7;have hlg:l9 (x8 n.1 23) (some (x8 n.1 23)) (some (x8 n.1 24))=some (lgB n.1):=by unfold lgB;cases x8 n.1 23<;>rfl
  rw[hlg,o8];unfold cT;cases hl:lgB n.1
  .have eB:=ihb (o+a.size) k (c++cT a c.length) (Uz h).2 hw.2.2 l7 (by grind);rw[show(c++cT a c.length).length=c.length+cL a by grind]at eB;have lb:=vK b (c.length+cL a);simp only[o6,I4 hz];refine cZ (a0j (λi=>match i with|0=>c|1=>c++cT a c.length|_=>c++cT a c.length++cT b (c.length+cL a)) 2 l7 (λi hi=>by
    have:i=0\/i=1:=l7;rcases this with rfl|rfl
    .show o5 (aJ k c e (rtI a o:Int)) _=_;rw[eA];rfl
    .show o5 (aJ k (c++cT a c.length) e (rtI b (o+a.size):Int)) _=_;rw[eB];rfl) rfl) ?_<;>grind [kU,o8]
  .have go:∀op:Int,o5 (aJ k c e (rtI a o:Int)) (λ(x_6:List D7)=>
         o5 (fE x_6 [(op,0)]) λ(x_7:List D7)=>
          o5 (aJ k x_7 e (rtI b (o+a.size):Int)) λ(x:List D7)=>
             o5 (H9 x (o9 x_6)) λ(x_9:D7)=>
              o5 (P7 x (O9 (o9 x_6))) λ(x_10:D7)=>
               some (V8 x (O9 (o9 x_6)) (x_10.1,o9 x)))=some (c++(cT a c.length++(op,((c.length+cL a+1+cL b:Nat):Int))::cT b (c.length+cL a+1))):=by
    intro op;have eB:=ihb (o+a.size) k (c++cT a c.length++[(op,0)]) (Uz h).2 hw.2.2 l7 (by grind);rw[show(c++cT a c.length++[((op,0):Nd)]).length=c.length+cL a+1 by grind]at eB;have lb:=vK b (c.length+cL a+1);rw[eA,o8,kU _ (by grind),o8,eB,o8]
    grind [o9,G8,P7,O9,Int.toNat_natCast,V8,Di,o8]
   simp only[o7,show ∀x y:Int,H9 [x,y] 0=some x from λ_ _=>rfl,show ∀x y:Int,H9 [x,y] 1=some y from λ_ _=>rfl,show ∀x y:Int,P7 [x,y] (O9 0)=some x from λ_ _=>rfl,show ∀x y:Int,P7 [x,y] (O9 1)=some y from λ_ _=>rfl,o8];cases h4:x8 n.1 24<;>simp_all
 |l3 n a b d iha ihb ihd=>
  intro o k c h hw hk hc;simp only[XT.size]at hk hc;obtain⟨k,rfl⟩:∃m,k=m+1:=⟨k -1,l7⟩;have hr:=vW h;have hz:=a8o (show lG n.1=3 from hw.1);show fB (aJ k) c e _=_;unfold fB;rw[IW hT h hw,o8,G8,hr.1,o8];simp only[XT.node,Vq,hz];have ca:=Xy a;have cb:=Xy b;have cd:=Xy d;have la:=vK a c.length;have lb:=vK b (c.length+cL a+1);have ld:=vK d (c.length+cL a+cL b+2);have eA:=iha o k c (UA h).1 hw.2.1 l7 l7;have eB:=ihb (o+a.size) k (c++cT a c.length++[(50,0)]) (UA h).2.1 hw.2.2.1 l7 (by grind);rw[show(c++cT a c.length++[((50:Int),(0:Int))]).length=c.length+cL a+1 by grind]at eB;have eD:=ihd (o+a.size+b.size) k (c++cT a c.length++(50,((c.length+cL a+cL b+2:Nat):Int))::(cT b (c.length+cL a+1)++[(51,0)])) (UA h).2.2 hw.2.2.2 l7 (by grind);rw[show(c++cT a c.length++((50:Int),((c.length+cL a+cL b+2:Nat):Int))::(cT b (c.length+cL a+1)++[((51:Int),(0:Int))])).length=c.length+cL a+cL b+2 by grind]at eD;simp only[show x8 26 23=false from rfl,show x8 26 24=false from rfl,show x8 26 26=true from rfl,o7,o6,o8,show ∀x y z:Int,H9 [x,y,z] 0=some x from λ_ _ _=>rfl,show ∀x y z:Int,H9 [x,y,z] 1=some y from λ_ _ _=>rfl,show ∀x y z:Int,H9 [x,y,z] 2=some z from λ_ _ _=>rfl,
   show ∀x y z:Int,P7 [x,y,z] (O9 0)=some x from λ_ _ _=>rfl,show ∀x y z:Int,P7 [x,y,z] (O9 1)=some y from λ_ _ _=>rfl,show ∀x y z:Int,P7 [x,y,z] (O9 2)=some z from λ_ _ _=>rfl]
  rw[eA,o8,kU _ (by grind),o8,eB,o8,kU _ (by grind),o8];have e1:c++cT a c.length++[((50:Int),(0:Int))]++cT b (c.length+cL a+1)++[(51,0)]=(c++cT a c.length)++(50,0)::(cT b (c.length+cL a+1)++[(51,0)]):=x9;have e3:((((c++cT a c.length)++((50:Int),(0:Int))::(cT b (c.length+cL a+1)++[((51:Int),(0:Int))])).length:Nat):Int)=((c.length+cL a+cL b+2:Nat):Int):=by grind
  simp only[e1,o9,G8,P7,O9,D9,V8,Di,o8,Sl,e3,eD];have e4:c++cT a c.length++((50:Int),((c.length+cL a+cL b+2:Nat):Int))::(cT b (c.length+cL a+1)++[((51:Int),(0:Int))])++cT d (c.length+cL a+cL b+2)=(c++cT a c.length++((50:Int),((c.length+cL a+cL b+2:Nat):Int))::cT b (c.length+cL a+1))++(51,0)::cT d (c.length+cL a+cL b+2):=x9;have e5:(c++cT a c.length++[((50:Int),(0:Int))]++cT b (c.length+cL a+1)).length=(c++cT a c.length++((50:Int),((c.length+cL a+cL b+2:Nat):Int))::cT b (c.length+cL a+1)).length:=x9;simp only[e5,e4,Di,Sl,o8]
  grind [cT]
def dep:XT->Nat
 | .l0 _=>1| .l1 _ a=>dep a| .l2 _ a b=>max (dep a) (dep b+1)| .l3 _ a b c=>max (dep a) (max (dep b+1) (dep c+2))
theorem a3V(t:XT):1<=dep t:=by induction t<;>simp[dep]<;>omega
def b4N:List XT->Prop
 |[]=>True|t::r=>dep t+r.length<=12/\b4N r
theorem b7b{ts ts' :List XT}(h:push n ts= .inr ts')(hd:b4N ts)(hl:ts'.length<=12):b4N ts' :=by
 unfold push at h;split at h
 .cases h;exact⟨by grind [dep],hd⟩
 split at h
 .split at h
  .cases h;exact hd
  grind
 split at h
 .split at h
  .cases h;obtain⟨h1,h2,h3⟩:=hd;exact⟨by grind [dep],h3⟩
  grind
 split at h
 .split at h
  .cases h;obtain⟨h1,h2,h3,h4⟩:=hd;exact⟨by grind [dep],h4⟩
  grind
 grind
theorem a2W:∀(e:List Nd) (i:Nat) (ts ts' :List XT),zO i e ts= .inr ts' ->b4N ts->b4N ts'
 |[],i,ts,ts',h,hd=>by cases h;omega|n::e,i,ts,ts',h,hd=>by
  unfold zO at h;split at h
  .cases h
  .rename_i u hu;split at h
   .cases h
   .exact a2W e _ _ _ h (b7b hu hd l7)
theorem a0Y{t:XT}(h:kX e= .inr t):dep t<=12:=by
 unfold kX at h;split at h
 .grind
 split at h
 .grind
 split at h
 .grind
 .cases h;rename_i hp;exact(a2W _ _ _ _ hp trivial).1
 grind
def dT:XT->Nat->d4D
 | .l0 _,d=>[(d:Int)]| .l1 _ a,d=>dT a d++[((d+1:Nat):Int)]| .l2 n a b,d=>l9 (lgB n.1) (dT a d++((d+1:Nat):Int)::dT b d) (dT a d++dT b (d+1)++[((d+2:Nat):Int)])| .l3 n a b c,d=>dT a d++((d+1:Nat):Int)::(dT b d++((d+1:Nat):Int)::dT c d)
theorem PT(t:XT):∀d,(dT t d).length=cL t:=by
 induction t with
 |l0 n=>intro o;rfl|l1 n a ha=>simp_all [dT,cL]|l2 n a b ha hb=>unfold dT cL;cases lgB n.1<;>simp[l9,ha,hb]<;>omega|l3 n a b c ha hb hc=>grind [dT,cL]
theorem UG(t:XT):∀d,∃l,dT t d=(d:Int)::l:=by
 induction t with
 |l0 n=>intro d;exact⟨_,rfl⟩|l1 n a ha=>intro d;obtain⟨l,h⟩:=ha d<;>simp_all [dT]
 |l2 n a b ha hb=>intro d;obtain⟨l,h⟩:=ha d;unfold dT;rw[h];cases lgB n.1<;>exact⟨_,rfl⟩
 |l3 n a b c ha hb hc=>intro d;obtain⟨l,h⟩:=ha d<;>simp_all [dT]
theorem c8c(t:XT):∀d x,x∈dT t d->x<=d+2*t.size:=by
 induction t with
 |l0 n=>grind [dT]|l1 n a ha=>
  grind [dT,XT.size]
 |l2 n a b ha hb=>
  intro d x h;unfold dT at h;simp[XT.size];cases hl:lgB n.1<;>rw[hl]at h<;>simp at h
  .grind
  grind
 |l3 n a b c ha hb hc=>
  grind [dT,XT.size]
def DD(L:d4D)(i:Nat):Int:=L[i]?.getD (-1)
theorem BX{X Z:d4D}{y:Int}(h:X.length=i):DD (X++y::Z) i=y:=by simp_all [DD]
theorem b8m{L:d4D} :∀(t:XT) (o d:Nat) (X Z:d4D),X.length=o->t.wf->dep t+d<=12->o+cL t<=m->L=X++(dT t d++((d+1:Nat):Int)::Z)->
  ∀j n,(cT t o)[j]? =some n->StV m (DD L) (o+j) n:=by
 intro t;induction t with
 |l0 n=>
  intro o d X Z hX hw hd hm hL j n' hj;obtain⟨rfl,rfl⟩:j=0/\n=n' :=by
   cases j with
   |zero=>exact⟨rfl,by simpa[cT]using hj⟩|succ j=>simp[cT]at hj
  have e0:DD L (o+0)=d:=by rw[hL];exact BX hX
  have e1:DD L (o+1)=((d+1:Nat):Int):=by rw[hL,show X++(dT (.l0 n) d++((d+1:Nat):Int)::Z)=(X++[(d:Int)])++((d+1:Nat):Int)::Z by simp[dT]];exact BX (by simp[hX])
  have ha:lG n.1=0:=hw;simp only[dep]at hd;exact .inr (.inr ⟨a2S l7 (PI (.inl ha)),by rw[e0,ha];omega,by rw[e0,ha];omega,by rw[e0,show o+0+1=o+1 from rfl,e1,ha];omega⟩)
 |l1 n a iha=>
  intro o d X Z hX hw hd hm hL j n' hj;simp only[cL,dep]at hm hd;have la:=vK a o;have da:=PT a d;unfold cT at hj;by_cases h1:j<cL a
  .rw[G5 l7]at hj;exact iha o d X (((d+1:Nat):Int)::Z) hX hw.2 hd l7 (by rw[hL];simp[dT]) j n' hj
  .rw[F6 l7,la]at hj;obtain⟨e,rfl⟩:j=cL a/\n=n' :=by
    grind
   subst e;have e0:DD L (o+cL a)=((d+1:Nat):Int):=by grind [dT,BX]
   have e1:DD L (o+cL a+1)=((d+1:Nat):Int):=by grind [dT,BX]
   have ha:lG n.1=1:=hw.1;have hda:=a3V a;exact .inr (.inr ⟨a2S l7 (PI (.inr ha)),l7,l7,l7⟩)
 |l2 n a b iha ihb=>
  intro o d X Z hX hw hd hm hL j n' hj;simp only[cL,dep]at hm hd;have la:=vK a o;have da:=PT a d;have hda:=a3V a;have hdb:=a3V b;unfold cT at hj;unfold dT at hL;cases hl:lgB n.1<;>rw[hl]at hj hL<;>simp only[o7,o6]at hj hL
  .have lb:=vK b (o+cL a);have db:=PT b (d+1);rw[G7]at hj;obtain⟨l,hh⟩:=UG b (d+1);by_cases h1:j<cL a
   .rw[G5 l7]at hj;exact iha o d X (l++((d+2:Nat):Int)::((d+1:Nat):Int)::Z) hX hw.2.1 l7 l7 (by simp_all) j n' hj
   rw[F6 l7,la]at hj;by_cases h2:j -cL a<cL b
   .rw[G5 l7]at hj;have:=ihb (o+cL a) (d+1) (X++dT a d) (((d+1:Nat):Int)::Z) (by simp_all) hw.2.2 l7 l7 (by grind) _ n' hj
    grind
   .rw[F6 l7,lb]at hj;obtain⟨e,rfl⟩:j=cL a+cL b/\n=n' :=by
     grind
    subst e;have e0:DD L (o+(cL a+cL b))=((d+2:Nat):Int):=by grind [BX]
    have e1:DD L (o+(cL a+cL b)+1)=((d+1:Nat):Int):=by grind [BX]
    have ha:lG n.1=2:=hw.1;have hz:n.1≠23/\n.1≠24:=by unfold lgB at hl;constructor<;>(intro e;rw[e]at hl;cases hl)
    exact .inr (.inr ⟨a2S l7 ⟨hz.1,hz.2,Zv ha⟩,l7,l7,l7⟩)
  .have lb:=vK b (o+cL a+1);have db:=PT b d;obtain⟨l,hh⟩:=UG b d;by_cases h1:j<cL a
   .rw[G5 l7]at hj;exact iha o d X (dT b d++((d+1:Nat):Int)::Z) hX hw.2.1 l7 l7 (by simp_all) j n' hj
   rw[F6 l7,la]at hj;cases h2:j -cL a with
   |zero=>
    rw[h2]at hj;have e:j=cL a:=l7;subst e;simp only[di,E9]at hj;subst hj;have e0:DD L (o+cL a)=((d+1:Nat):Int):=by grind [BX]
    have e1:DD L (o+cL a+1)=d:=by rw[hL,hh,show X++(dT a d++((d+1:Nat):Int)::(d:Int)::l++((d+1:Nat):Int)::Z)=(X++dT a d++[((d+1:Nat):Int)])++(d:Int)::(l++((d+1:Nat):Int)::Z) by simp];grind [BX]
    have e2:DD L (o+cL a+1+cL b)=((d+1:Nat):Int):=by grind [BX]
    refine .inr (.inl ⟨?_,o+cL a+1+cL b,rfl,l7,l7,by rw[e0];omega,by rw[e0,e1];omega,?_⟩)<;>grind [x8,l9]
   |succ k=>
    rw[h2,ku]at hj;have:=ihb (o+cL a+1) d (X++dT a d++[((d+1:Nat):Int)]) Z (by grind) hw.2.2 l7 l7 (by simp_all) _ n' hj
    grind
 |l3 n a b c iha ihb ihc=>
  intro o d X Z hX hw hd hm hL j n' hj;simp only[cL,dep]at hm hd;have la:=vK a o;have da:=PT a d;have lb:=vK b (o+cL a+1);have db:=PT b d;have dc:=PT c d;obtain⟨l,hh⟩:=UG b d;obtain⟨l2,hh2⟩:=UG c d;unfold cT at hj;unfold dT at hL;by_cases h1:j<cL a
  .rw[G5 l7]at hj;exact iha o d X (dT b d++((d+1:Nat):Int)::dT c d++((d+1:Nat):Int)::Z) hX hw.2.1 l7 l7 (by simp_all) j n' hj
  rw[F6 l7,la]at hj;cases h2:j -cL a with
  |zero=>
   rw[h2]at hj;have e:j=cL a:=l7;subst e;simp only[di,E9]at hj;subst hj;have e0:DD L (o+cL a)=((d+1:Nat):Int):=by grind [BX]
   have e1:DD L (o+cL a+1)=d:=by rw[hL,hh,show X++(dT a d++((d+1:Nat):Int)::((d:Int)::l++((d+1:Nat):Int)::dT c d)++((d+1:Nat):Int)::Z)=(X++dT a d++[((d+1:Nat):Int)])++(d:Int)::(l++((d+1:Nat):Int)::dT c d++((d+1:Nat):Int)::Z) by simp];grind [BX]
   have e2:DD L (o+cL a+cL b+2)=d:=by rw[hL,hh2,show X++(dT a d++((d+1:Nat):Int)::(dT b d++((d+1:Nat):Int)::(d:Int)::l2)++((d+1:Nat):Int)::Z)=(X++dT a d++((d+1:Nat):Int)::(dT b d++[((d+1:Nat):Int)]))++(d:Int)::(l2++((d+1:Nat):Int)::Z) by simp];grind [BX]
   refine .inr (.inl ⟨.inl rfl,o+cL a+cL b+2,rfl,l7,l7,l7,l7,?_⟩);rw[e0,e2];show(d:Int)=l9 true _ _;simp
  |succ k=>
   rw[h2,ku]at hj;by_cases h3:k<cL b
   .rw[G5 l7]at hj;have:=ihb (o+cL a+1) d (X++dT a d++[((d+1:Nat):Int)]) (dT c d++((d+1:Nat):Int)::Z) (by grind) hw.2.2.1 l7 l7 (by simp_all) _ n' hj
    grind
   rw[F6 l7,lb]at hj;cases h4:k -cL b with
   |zero=>
    rw[h4]at hj;simp only[di,E9]at hj;subst hj;have ej:o+j=o+cL a+cL b+1:=l7;have e0:DD L (o+cL a+cL b+1)=((d+1:Nat):Int):=by grind [BX]
    have e2:DD L (o+cL a+cL b+2+cL c)=((d+1:Nat):Int):=by grind [BX]
    exact .inl ⟨rfl,_,rfl,l7,l7,by simp_all⟩
   |succ i=>
    rw[h4,ku]at hj;have:=ihc (o+cL a+cL b+2) d (X++dT a d++((d+1:Nat):Int)::(dT b d++[((d+1:Nat):Int)])) Z (by grind) hw.2.2.2 l7 l7 (by simp_all) _ n' hj
    grind
theorem c4j(t:XT):∀o n,n∈cT t o->o+cL t<=1000->(∀n∈t.post,iq n.2)->iq n.2:=by
 induction t with
 |l0 m=>simp[cT,XT.post]|l1 m a ha=>
  intro o n h ho hp;simp[cT,cL,XT.post,D6,I7]at h ho hp
  grind
 |l2 m a b ha hb=>
  intro o n h ho hp;unfold cT at h;simp[cL,XT.post,D6,I7]at ho hp;cases hl:lgB m.1<;>rw[hl]at h<;>simp at h
  .grind
  grind [iq]
 |l3 m a b c ha hb hc=>
  intro o n h ho hp;simp[cT,cL,XT.post,D6,C9,jy,or_false]at h ho hp
  grind [iq]
theorem c8a{t:XT}(h:kX e= .inr t)(hI:∀n∈e,iq n.2):Vf (cT t 0) (DD (dT t 0++[1])):=by
 obtain⟨hp,h48⟩:=wS h;have hsz:e.length=t.size:=by rw[hp,XT.post_len]
 have hc:=Xy t;have hl:=vK t 0;have hd:=PT t 0;obtain⟨l,hh⟩:=UG t 0;refine⟨l7,l7,by rw[hh];rfl,by grind [BX],λi=>?_,λi n hn _=>?_,λn hn=>c4j t 0 n hn l7 (by grind)⟩
 .unfold DD;cases hx:(dT t 0++[1])[i]? with
  |none=>decide|some x=>
   have:=lM hx;simp at this;rcases this with h|h
   .have:=c8c t 0 x h;grind
   simp_all
 .have:=b8m (m:=(cT t 0).length) t 0 0 [] [] rfl (Jg h) (by grind [a0Y]) l7 rfl i n hn;simp_all
def Bo(v:V3):Prop:=v=(1,0,0)\/v=(1,0,1)
def Bd(env:aA):XT->Prop
 | .l0 _=>True| .l1 _ a=>Bd env a| .l2 n a b=>Bd env a/\Bd env b/\(lgB n.1=true->n.2=0/\((evT env a).2=0->Bo (evT env a).1)/\((evT env b).2=0->Bo (evT env b).1))| .l3 n a b c=>Bd env a/\Bd env b/\Bd env c/\n.2=0/\((evT env a).2=0->Bo (evT env a).1)
variable {args:List V3}{v:V3}
section
variable {env:aA} {c:List Nd} {s:List V3} {p:Nat} {n:Nd} {r:V3×Int}
theorem JL(h:(args.length:Int)=lG n.1):opr env n (s++args)=mY n args env/\(s++args).take ((s++args).length -(lG n.1).toNat)=s:=by
 unfold opr;have e:(s++args).length -(lG n.1).toNat=s.length:=by grind
 simp_all
theorem b7G(hc:c[p]? =some n)(ho:Op n.1)(h:(args.length:Int)=lG n.1)(h0:(mY n args env).2=0)(hr:Rn env c (p+1) (s++[(mY n args env).1]) r):Rn env c p (s++args) r:=by refine .go (b:=false) hc ?_ rfl x9 hr;unfold br;rw[TU.2 (.inl ho.2.2.2.2.2.1),(JL h).1,(JL (env:=env) h).2,L8 h0];rfl
theorem a9R(hc:c[p]? =some n)(ho:Op n.1)(h:(args.length:Int)=lG n.1)(h0:(mY n args env).2≠0):Rn env c p (s++args) (z3,(mY n args env).2):=by refine .err hc ?_;unfold br;rw[TU.2 (.inl ho.2.2.2.2.2.1),(JL h).1,I4 h0];rfl
theorem c1j(hc:c[p]? =some (51,(t:Int)))(ht:p<t)(hr:Rn env c t s r):Rn env c p s r:=.go (b:=true) hc rfl rfl ht hr
theorem b2t{op:Int}(hc:c[p]? =some (op,(t:Int)))(ho:op=50\/op=52\/op=53)(hv:Bo v)(ht:p<t)
  (hr:Rn env c (l9 (ji (x8 v.2.2 1) (x8 op 53)) t (p+1)) (l9 (fF (ji (x8 v.2.2 1) (x8 op 53)) (G6 (x8 op 50))) (s++[v]) s) r):Rn env c p (s++[v]) r:=by
 have hb:b2Z v=false:=by rcases hv with rfl|rfl<;>rfl
 have htop:Uo (s++[v])=v:=by unfold Uo;simp
 refine .go (q:=l9 (ji (x8 v.2.2 1) (x8 op 53)) t (p+1)) (b:=ji (x8 v.2.2 1) (x8 op 53)) hc ?_ x9 (by cases ji (x8 v.2.2 1) (x8 op 53)<;>simp[l9]<;>omega) hr;unfold br;rw[htop,hb,show isJ ((op,(t:Int)):Nd).1=true by rcases ho with rfl|rfl|rfl<;>rfl,show x8 ((op,(t:Int)):Nd).1 51=false by rcases ho with rfl|rfl|rfl<;>rfl];simp[a9b,o7,o6]
end
theorem ZC{r:V3×Int}(h:r.2=0->Bo r.1):yu r=l9 (x8 r.2 0) (r.1,0) (z3,r.2):=by
 unfold yu;by_cases h0:r.2=0
 .rcases h h0 with e|e<;>rw[e]<;>rfl
 simp_all [I4]
theorem c4k :∀(t:XT) (pre suf:List Nd) (s:List V3),c=pre++(cT t pre.length++suf)->t.wf->Bd env t->
  (∀r,(evT env t).2=0->Rn env c (pre.length+cL t) (s++[(evT env t).1]) r->Rn env c pre.length s r)/\((evT env t).2≠0->Rn env c pre.length s (z3,(evT env t).2)):=by
 intro t;induction t with
 |l0 n=>
  intro pre suf s hc hw hb;have ha:lG n.1=0:=hw;have ho:=a2S l7 (PI (.inl ha));have hn:c[pre.length]? =some n:=by rw[hc];simp[cT]
  refine⟨λr h0 hr=>?_,λh0=>?_⟩
  .have:=b7G (args:=[]) hn ho (by simp[ha]) h0 hr;rwa[G9]at this
  .have:=a9R (s:=s) (args:=[]) hn ho (by simp[ha]) h0;rwa[G9]at this
 |l1 n a iha=>
  intro pre suf s hc hw hb;have ha:lG n.1=1:=hw.1;have ho:=a2S l7 (PI (.inr ha));have la:=vK a pre.length;have hn:c[pre.length+cL a]? =some n:=by rw[hc,show pre++(cT (.l1 n a) pre.length++suf)=(pre++cT a pre.length)++n::suf by simp[cT],show pre.length+cL a=(pre++cT a pre.length).length by simp[la]];exact Di _ _ _
  obtain⟨h1,h2⟩:=iha pre ([n]++suf) s (by rw[hc];simp[cT]) hw.2 hb;simp only[evT];by_cases ea:(evT env a).2=0
  .rw[L8 ea,o7];exact⟨λr h0 hr=>h1 r ea (b7G hn ho (by simp[ha]) h0 (by simpa only[cL,jm]using hr)),λh0=>h1 _ ea (a9R hn ho (by simp[ha]) h0)⟩
  .rw[I4 ea,o6];exact⟨λr h0=>absurd h0 ea,λh0=>h2 ea⟩
 |l2 n a b iha ihb=>
  intro pre suf s hc hw hb;have ha:lG n.1=2:=hw.1;have la:=vK a pre.length;obtain⟨hb1,hb2,hb3⟩:=hb;unfold cT at hc;simp only[evT];cases hl:lgB n.1<;>rw[hl]at hc<;>simp only[o7,o6]at hc
  .have lb:=vK b (pre.length+cL a);have hz:n.1≠23/\n.1≠24:=by unfold lgB at hl;constructor<;>(intro e;rw[e]at hl;cases hl)
   have ho:=a2S l7 ⟨hz.1,hz.2,Zv ha⟩;rw[show lzB n.1=false by unfold lzB;rw[I4 hz.1,I4 hz.2,I4 (Zv ha)];rfl,o6];have hn:c[pre.length+cL a+cL b]? =some n:=by rw[hc,show pre++(cT a pre.length++cT b (pre.length+cL a)++[n]++suf)=(pre++cT a pre.length++cT b (pre.length+cL a))++n::suf by simp,show pre.length+cL a+cL b=(pre++cT a pre.length++cT b (pre.length+cL a)).length by simp[la,lb];omega];exact Di _ _ _
   obtain⟨h1,h2⟩:=iha pre (cT b (pre.length+cL a)++[n]++suf) s (by rw[hc];simp) hw.2.1 hb1;obtain⟨h3,h4⟩:=ihb (pre++cT a pre.length) ([n]++suf) (s++[(evT env a).1]) (by rw[hc];simp[la]) hw.2.2 hb2;rw[show(pre++cT a pre.length).length=pre.length+cL a by simp[la]]at h3 h4;have e2:∀x y:V3,s++[x]++[y]=s++[x,y]:=λx y=>by simp
   simp only[e2]at h3;by_cases ea:(evT env a).2=0
   .rw[L8 ea,o7];by_cases eb:(evT env b).2=0
    .rw[L8 eb,o7];exact⟨λr h0 hr=>h1 r ea (h3 r eb (b7G hn ho (by simp[ha]) h0 (by simpa only[cL,jm]using hr))),λh0=>h1 _ ea (h3 _ eb (a9R hn ho (by simp[ha]) h0))⟩
    .rw[I4 eb,o6];exact⟨λr h0=>absurd h0 eb,λh0=>h1 _ ea (h4 eb)⟩
   .rw[I4 ea,o6];exact⟨λr h0=>absurd h0 ea,λh0=>h2 ea⟩
  .have lb:=vK b (pre.length+cL a+1);obtain⟨hn0,hba,hbb⟩:=hb3 hl;have hk:n.1=23\/n.1=24:=by
    unfold lgB at hl;cases h:x8 n.1 23<;>rw[h]at hl
    .exact .inr (U4.1 hl)
    .exact .inl (U4.1 h)
   rw[show lzB n.1=true by rcases hk with e|e<;>rw[e]<;>rfl,o7];have hn:c[pre.length+cL a]? =some (l9 (x8 n.1 24) 53 52,((pre.length+cL a+1+cL b:Nat):Int)):=by rw[hc,show ∀(x:Nd) (y:List Nd),pre++(cT a pre.length++x::y++suf)=(pre++cT a pre.length)++x::(y++suf) by simp,show pre.length+cL a=(pre++cT a pre.length).length by simp[la]];exact Di _ _ _
   obtain⟨h1,h2⟩:=iha pre ((l9 (x8 n.1 24) 53 52,((pre.length+cL a+1+cL b:Nat):Int))::cT b (pre.length+cL a+1)++suf) s (by rw[hc];simp) hw.2.1 hb1;obtain⟨h3,h4⟩:=ihb (pre++cT a pre.length++[(l9 (x8 n.1 24) 53 52,((pre.length+cL a+1+cL b:Nat):Int))]) suf s (by rw[hc];simp[la];rfl) hw.2.2 hb2;rw[show(pre++cT a pre.length++[((l9 (x8 n.1 24) 53 52,((pre.length+cL a+1+cL b:Nat):Int)):Nd)]).length=pre.length+cL a+1 by simp[la];omega]at h3 h4;unfold a2E;rw[L8 hn0,o7,ZC hba,ZC hbb];by_cases ea:(evT env a).2=0
   .have hva:=hba ea;have step:=λ(r:V3×Int) hr=>b2t (env:=env) (s:=s) (r:=r) hn (by cases x8 n.1 24<;>simp[l9]) hva l7 hr;have eL:pre.length+cL (.l2 n a b)=pre.length+cL a+1+cL b:=by simp only[cL];omega
    rw[eL];simp only[L8 ea,o7,L8 (rfl:(0:Int)=0)];by_cases hj:ji (x8 n.1 23) (x8 (evT env a).1.2.2 0)=true
    .rw[hj,o7];refine⟨λr _ hr=>h1 r ea (step r ?_),λh=>absurd rfl h⟩;rcases hk with e|e<;>rcases hva with v|v<;>rw[e,v]at hj<;>first|(exact absurd hj E5)|(rw[e,v];rw[v]at hr;exact hr)
    .rw[Bool.eq_false_iff.2 hj,o6];have st2:∀r,Rn env c (pre.length+cL a+1) s r->Rn env c (pre.length+cL a) (s++[(evT env a).1]) r:=λr hr=>step r (by
      rcases hk with e|e<;>rcases hva with v|v<;>rw[e,v]at hj<;>first|(exact absurd rfl hj)|(rw[e,v];exact hr))
     by_cases eb:(evT env b).2=0
     .grind [L8,o7]
     .simp_all [I4]
   .simp_all [I4]
 |l3 n a b d iha ihb ihd=>
  intro pre suf s hc hw hb;have la:=vK a pre.length;have lb:=vK b (pre.length+cL a+1);obtain⟨hb1,hb2,hb3,hn0,hba⟩:=hb;unfold cT at hc;simp only[evT];have hn:c[pre.length+cL a]? =some (50,((pre.length+cL a+cL b+2:Nat):Int)):=by simp_all
  have hn2:c[pre.length+cL a+cL b+1]? =some (51,((pre.length+cL a+cL b+2+cL d:Nat):Int)):=by rw[hc,show ∀(x z:Nd) (y w:List Nd),pre++(cT a pre.length++x::(y++z::w)++suf)=(pre++cT a pre.length++x::y)++z::(w++suf) by simp,show ∀x:Nd,pre.length+cL a+cL b+1=(pre++cT a pre.length++x::cT b (pre.length+cL a+1)).length by grind];exact Di _ _ _
  obtain⟨h1,h2⟩:=iha pre ((50,((pre.length+cL a+cL b+2:Nat):Int))::(cT b (pre.length+cL a+1)++(51,((pre.length+cL a+cL b+2+cL d:Nat):Int))::cT d (pre.length+cL a+cL b+2))++suf) s (by simp_all) hw.2.1 hb1;obtain⟨h3,h4⟩:=ihb (pre++cT a pre.length++[(50,((pre.length+cL a+cL b+2:Nat):Int))]) ((51,((pre.length+cL a+cL b+2+cL d:Nat):Int))::cT d (pre.length+cL a+cL b+2)++suf) s (by rw[hc];simp[la];rfl) hw.2.2.1 hb2;obtain⟨h5,h6⟩:=ihd (pre++cT a pre.length++(50,((pre.length+cL a+cL b+2:Nat):Int))::(cT b (pre.length+cL a+1)++[(51,((pre.length+cL a+cL b+2+cL d:Nat):Int))])) suf s (by rw[hc,show(pre++cT a pre.length++((50:Int),((pre.length+cL a+cL b+2:Nat):Int))::(cT b (pre.length+cL a+1)++[((51:Int),((pre.length+cL a+cL b+2+cL d:Nat):Int))])).length=pre.length+cL a+cL b+2 by grind];simp) hw.2.2.2 hb3
  rw[show(pre++cT a pre.length++[((50:Int),((pre.length+cL a+cL b+2:Nat):Int))]).length=pre.length+cL a+1 by simp[la];omega]at h3 h4;rw[show(pre++cT a pre.length++((50:Int),((pre.length+cL a+cL b+2:Nat):Int))::(cT b (pre.length+cL a+1)++[((51:Int),((pre.length+cL a+cL b+2+cL d:Nat):Int))])).length=pre.length+cL a+cL b+2 by simp[la,lb];omega]at h5 h6;unfold a6B;rw[L8 hn0,o7,ZC hba];have eL:pre.length+cL (.l3 n a b d)=pre.length+cL a+cL b+2+cL d:=by grind [cL]
  rw[eL];by_cases ea:(evT env a).2=0
  .have hva:=hba ea;have step:=λ(r:V3×Int) hr=>b2t (env:=env) (s:=s) (r:=r) hn (.inl rfl) hva l7 hr;simp only[L8 ea,o7,L8 (rfl:(0:Int)=0)];have eb1:pre.length+cL a+1+cL b=pre.length+cL a+cL b+1:=l7;rw[eb1]at h3;rcases hva with v|v<;>rw[v]at step<;>rw[v]
   .exact⟨λr h0 hr=>h1 r ea (by rw[v];exact step r (h5 r h0 hr)),λh=>h1 _ ea (by rw[v];exact step _ (h6 h))⟩
   .exact⟨λr h0 hr=>h1 r ea (by rw[v];exact step r (h3 r h0 (c1j hn2 l7 hr))),λh=>h1 _ ea (by rw[v];exact step _ (h4 h))⟩
  simp_all [I4]
theorem b5w{t:XT}(hw:t.wf)(hb:Bd env t):Rn env (cT t 0) 0 [] (l9 (x8 (evT env t).2 0) ((evT env t).1,0) (z3,(evT env t).2)):=by
 obtain⟨h1,h2⟩:=c4k (c:=cT t 0) t [] [] [] x9 hw hb;by_cases e:(evT env t).2=0
 .rw[L8 e,o7];refine h1 _ e ?_;have:=Rn.fin (env:=env) (c:=cT t 0) [(evT env t).1];rw[vK]at this;simpa using this
 .rw[I4 e,o6];exact h2 e
theorem b4Z(hl:args.length<=1000000)(h:pz n args env=some (v,0)):
  nI n=some true/\lG n.1=o9 args/\jd n env=some true/\args.all plB=true/\aK n args env=some true/\aN n args env=some (v,0)/\plB v=true:=by
 unfold pz at h;rw[Kr,Zm args hl]at h;cases h1:nI n with
 |none=>simp_all|some b1=>
 rw[h1]at h;cases b1
 .cases h
 simp at h;cases h2:x8 (o9 args) (lG n.1)<;>rw[h2]at h;simp at h;cases h3:jd n env with
 |none=>simp_all|some b3=>
 rw[h3,o8]at h;cases b3
 .simp_all
 cases h4:args.all plB<;>rw[h4]at h
 .simp_all
 cases h5:aK n args env with
 |none=>simp_all|some b5=>
 rw[h5,o8]at h;cases b5;simp at h;cases h6:aN n args env with
 |none=>simp_all|some x=>
 rw[h6,o8,wM]at h;cases h7:x8 x.2 0<;>rw[h7]at h
 .simp at h;rw[h.2]at h7;cases h7
 cases h8:plB x.1<;>rw[h8]at h
 .simp_all
 obtain⟨rfl,_⟩:=h;have e:x=(x.1,0):=by rw[←U4.1 h7]
 exact⟨rfl,(U4.1 h2).symm,rfl,rfl,rfl,by grind,h8⟩
theorem a3K(hl:args.length<=1000000)(h1:nI n=some true)(h2:lG n.1=o9 args)(h3:jd n env=some true)(h4:args.all plB=true)
  (h5:aK n args env=some true) (h6:aN n args env=some (v,0)) (h7:plB v=true):pz n args env=some (v,0):=by
 unfold pz;rw[Kr,Zm args hl,h4,h6];simp_all [wM,L8]
abbrev b3n:aA:=(0,[],[],[],[],[])
theorem IB:EvOk b3n:=⟨x9,x9⟩
theorem Zr(hE:EvOk env)(ho:Op n.1)(hI:iq n.2)(hl:args.length<=3):mY n args env=(v,0)↔pz n args env=some (v,0):=by rw[(IZ args hE hI ⟨ho.1,ho.2.1,ho.2.2.1⟩ hl).2];simp
theorem a5H(hE:EvOk env)(ho:Op n.1)(hI:iq n.2)(hl:args.length<=3)(ha:args≠[])(h:mY n args b3n=(v,0)):mY n args env=(v,0)/\args.all plB=true/\plB v=true:=by
 obtain⟨k,N⟩:=n;rw[Zr IB ho hI hl]at h;obtain⟨h1,h2,h3,h4,h5,h6,h7⟩:=b4Z l7 h;refine⟨?_,h4,h7⟩;rw[Zr hE ho hI hl];have hpos:0<o9 args:=by cases args with|nil=>exact absurd rfl ha|cons _ _=>simp[o9]
 have hk:∀j:Int,lG j=0->k≠j:=λj hj e=>by rw[show(k,N).1=k from rfl,e,hj]at h2;omega
 have n33:k≠33:=by
  rintro rfl;have h3:l9 (S9 0 N) (some (F7 N 0)) (some false)=some true:=h3;cases h0:S9 0 N<;>rw[h0]at h3
  .cases h3
  .have:=jV.1 (F8 h3);have:=pF.1 h0;omega
 have n34:k≠34:=by
  rintro rfl;rw[QO E5]at h1;have hf:Yt 34 N=true:=F8 h1;have hN:0<=N:=by
   unfold Yt at hf;cases h0:x8 N 0<;>rw[h0]at hf
   .have:l9 (S9 0 N) (S9 (fC N 8) 5) false=true:=hf;cases h2:S9 0 N<;>rw[h2]at this
    .cases this
    .exact pF.1 h2
   .have:=U4.1 h0;omega
  have h3:some (F7 (eH .i64 N 8) 0)=some true:=h3;have:=jV.1 (F8 h3);rw[zo (by rw[jw hN];unfold iq at*;simp only at hI;omega),jw hN]at this;omega
 have n1:=I4 (hk 1 E5);have n2:=I4 (hk 2 E5);have n3:=I4 (hk 3 E5);have n4:=I4 (hk 4 E5);have n5:=I4 (hk 5 E5);have n6:=I4 (hk 6 E5);have n7:=I4 (hk 7 E5);have n8:=I4 (hk 8 E5);have n9:=I4 (hk 9 E5);have n35:=I4 (hk 35 E5);have n36:=I4 (hk 36 E5);have n37:=I4 (hk 37 E5);have n38:=I4 (hk 38 E5);have n39:=I4 (hk 39 E5);have m33:=I4 n33;have m34:=I4 n34;refine a3K l7 h1 h2 ?_ h4 ?_ ?_ h7
 .unfold jd;simp only[n7,n8,m33,m34,n36,n37,n38,n39,o6,o8]<;>rfl
 .rw[←h5];unfold aK;simp only[n7,n8,m33,m34,n36,n37,n38,n39,o6,o8]
 .rw[←h6];unfold aN;simp only[n1,n2,n3,n4,n5,n6,n7,n8,n9,n35,m33,m34,n36,n37,n38,n39,o6,o8]
def a1y(n:Nd):Option V3:=l9 (l9 (S9 1 n.1) (S9 n.1 5) false) (some (n.1,0,n.2)) (l9 (l9 (x8 n.1 6) (l9 (S9 0 n.2) (F7 n.2 128) false) false) (some (6,n.2 / 16,n.2 % 16)) none)
theorem c2w(h:¬(1<=k/\k<=5)):l9 (S9 1 k) (S9 k 5) false=false:=by by_cases h1:1<=k<;>simp_all [ae,aC]
theorem c0C(n:Nd):vH n=some (match a1y n with|some v=>(v,true)|none=>((0,0,0),false)):=by
 obtain⟨k,N⟩:=n;unfold vH a1y;by_cases h:1<=k/\k<=5
 .have:k=1\/k=2\/k=3\/k=4\/k=5:=l7;rcases this with rfl|rfl|rfl|rfl|rfl<;>rfl
 .simp[c2w h,o6];rw[I4 l7,I4 l7,I4 l7,I4 l7,I4 l7];simp;cases x8 k 6
  .rfl
  cases h0:S9 0 N
  .rfl
  cases h1:F7 N 128
  .rfl
  have h0:=pF.1 h0;have h1:=jV.1 h1;simp only[o7];rw[zo (by grind [iq]),jw h0,zq h0]
theorem UX(hE:EvOk env)(hI:iq n.2)(h:a1y n=some v)(hp:plB v=true):Op n.1/\lG n.1=0/\mY n [] env=(v,0):=by
 obtain⟨k,N⟩:=n;have hk:(1<=k/\k<=5/\v=(k,0,N))\/(k=6/\0<=N/\N<128/\v=(6,N / 16,N % 16)):=by
  grind [a1y,S9,o7,o6,x8,F7]
 have ho:Op k/\lG k=0:=by have:k=1\/k=2\/k=3\/k=4\/k=5\/k=6:=l7;rcases this with rfl|rfl|rfl|rfl|rfl|rfl<;>exact⟨⟨E5,E5,E5,E5,E5,E5,E5⟩,E5⟩
 refine⟨ho.1,ho.2,?_⟩;rw[Zr hE ho.1 hI x9];rcases hk with⟨h1,h2,rfl⟩|⟨rfl,h1,h2,rfl⟩
 .have:k=1\/k=2\/k=3\/k=4\/k=5:=l7;rcases this with rfl|rfl|rfl|rfl|rfl<;>exact a3K x9 (by rw[QO E5];unfold Yt;cases x8 N 0<;>rfl) ho.2 rfl rfl rfl rfl hp
 .exact a3K x9 (by rw[QO E5];unfold Yt;rw[show a8R 6 N=S9 0 N from rfl,ae h1];cases x8 N 0<;>rfl) ho.2 rfl rfl rfl (by show some ((6,eH .i64 N 16,fC N 16),(0:Int))=_;rw[zo (by grind [iq]),jw h1,zq h1]) hp
def TY(v:V3):Nd:=l9 (l9 (S9 1 v.1) (S9 v.1 5) false) (v.1,v.2.2) (6,16*v.2.1+v.2.2)
theorem UW(hp:plB v=true):Cb v=some (TY v)/\a1y (TY v)=some v/\iq (TY v).2:=by
 have h:=Uf hp;have h6:v.1=6->0<=v.2.1/\v.2.1<8:=λe=>by
  obtain⟨k,en,n⟩:=v;subst e;unfold plB at hp;cases h1:S9 (Es (6,en,n).1).1 n<;>simp[h1]at hp<;>try (cases hp)
  cases h2:S9 n (Es (6,en,n).1).2<;>simp[h2]at hp<;>try (cases hp)
  cases h3:S9 0 en<;>rw[h3]at hp
  .cases hp
  .exact⟨pF.1 h3,jV.1 hp⟩
 rcases h with⟨n,rfl,hn⟩|⟨n,rfl,hn⟩|⟨n,rfl,hn⟩|⟨n,rfl,hn⟩|⟨n,rfl,hn⟩|⟨en,n,rfl,hn⟩
 .exact⟨rfl,rfl,by show iq n;grind [iq]⟩
 .exact⟨rfl,rfl,by show iq n;grind [iq]⟩
 .exact⟨rfl,rfl,by show iq n;grind [iq]⟩
 .exact⟨rfl,rfl,by show iq n;grind [iq]⟩
 .exact⟨rfl,rfl,by show iq n;grind [iq]⟩
 .refine⟨?_,?_,by show iq (16*en+n);grind [iq]⟩
  .show some ((6:Int),A8 .i64 (aP .i64 16 en) n)=some (6,16*en+n)
   grind [oH,iq,U5]
  .show l9 (l9 (S9 0 (16*en+n)) (F7 (16*en+n) 128) false) (some ((6:Int),(16*en+n) / 16,(16*en+n) % 16)) none=_
   grind [ae,U0,o7]
theorem Qg{σ ε ρ:Type}{f:σ->Option (Out σ ε ρ)}{s:σ}(Inv:σ->Prop)(Q:ε->Prop)(Qr:ρ->Prop)(meas:σ->Nat)(hi:Inv s)(hm:meas s<18446744073709551616)
  (h:∀s,Inv s->(∃s',f s=some (.nx s')/\Inv s' /\meas s' <meas s)\/(∃e,f s=some (.ex e)/\Q e)\/(∃r,f s=some (.rt r)/\Qr r)):
  ∃o,bD f s=some o/\((∃e,o= .inl e/\Q e)\/∃r,o= .inr r/\Qr r):=
 (AO Inv Q Qr meas hi hm h).elim (λ⟨e,h,q⟩=>⟨_,h,.inl ⟨e,rfl,q⟩⟩) (λ⟨e,h,q⟩=>⟨_,h,.inr ⟨e,rfl,q⟩⟩)
structure Cd (c:List Nd):Prop where
 al:∀(i:Nat) (n:Nd),c[i]? =some n->Op n.1\/(isJ n.1=true/\∃t:Nat,n.2=(t:Int)/\i<t/\t<=c.length)
def Gd(c:List Nd):Prop:=(∃D,Vf c D)/\Cd c
def Imp(c c' :List Nd):Prop:=∀env r,EvOk env->Rn env c 0 [] r->Rn env c' 0 [] r
theorem Imp.rfl' :Imp c c:=λ_ _ _ h=>h
theorem Imp.trans{a b c:List Nd}(h:Imp a b)(k:Imp b c):Imp a c:=λe r he hr=>k e r he (h e r he hr)
structure FoldAt (c:List Nd) (i:Nat) (args:List V3) (v:V3) (n:Nd):Prop where
 at_:c[i]? =some n
 op:Op n.1
 ar:lG n.1=args.length
 ne:args≠[]
 le:args.length<=i
 lits:∀(j:Nat) (a:V3),args[j]? =some a->∃m:Nd,c[i -args.length+j]? =some m/\a1y m=some a
 noj:∀(p:Nat) (m:Nd),c[p]? =some m->isJ m.1=true->¬(((i -args.length:Nat):Int)<m.2/\m.2<=i)
 app:mY n args b3n=(v,0)
theorem c0q(hc:Cd c)(hl:c.length<=128)(hI:∀n∈c,iq n.2)(hi:i<c.length):
  ∃x,CO c (i:Int)=some x/\(x.2.2=true->∃args v n,FoldAt c i args v n/\x=(TY v,(args.length:Int),true)):=by
 have hn:c[i]? =some c[i]:=dE hi;generalize hne:c[i]=n at hn;unfold CO;rw[G8,hn,o8,RH,o8];cases hj:isJ n.1
 rotate_left
 .exact⟨_,rfl,λh=>by cases h⟩
 have ho:Op n.1:=by
  rcases hc.al i n hn with h|⟨h,_⟩
  .exact h
  .rw[hj]at h;cases h
 have hIn:=hI n (lM hn);simp only[o6,Kr,o8];have hk4:=ho.2.2.2;cases h1:F7 (lG n.1) 1
 rotate_left
 .exact⟨_,rfl,λh=>by cases h⟩
 cases h2:F7 (i:Int) (lG n.1)
 rotate_left
 .exact⟨_,rfl,λh=>by cases h⟩
 have h1:=jW.1 h1;have h2:=jW.1 h2;obtain⟨k,hk⟩:∃k:Nat,lG n.1=k:=⟨(lG n.1).toNat,l7⟩;rw[hk]at h1 h2 ⊢;simp only[o6,o8,V4];have e1:I8 .i64 (i:Int) (k:Int)=((i -k:Nat):Int):=by rw[U7 O6];omega
 rw[e1,a4j l7 l7 l7];simp only[o8,D9];have hol:((c.take i).drop (i -k)).length=k:=by simp;omega
 have hog:∀j,j<k->((c.take i).drop (i -k))[j]? =c[i -k+j]?:=λj hj=>by rw[O8,aj l7]
 generalize (c.take i).drop (i -k)=ops at hol hog;refine obx (Qg (λs=>s.1=(0,0)/\∃j:Nat,s.2.2=(j:Int)/\j<=k/\s.2.1.length=j/\∀(q:Nat) (a:V3),s.2.1[q]? =some a->∃m:Nd,c[i -k+q]? =some m/\a1y m=some a)
  (λe=>e.1=(0,0)/\e.2.length=k/\∀(q:Nat) (a:V3),e.2[q]? =some a->∃m:Nd,c[i -k+q]? =some m/\a1y m=some a) (λr=>r.2.2=false) (λs=>k -s.2.2.toNat) ⟨rfl,0,rfl,l7,rfl,λq a h=>by simp at h⟩ U3 ?_) ?_
 .rintro⟨z,vs,_⟩ ⟨rfl,j,rfl,hjk,hvl,hv⟩;simp only at hvl hv ⊢;by_cases hlt:j<k
  .have hg:=hog j hlt;rw[dE (show i -k+j<c.length by omega)]at hg;rw[U0 (by unfold o9;omega),o7,G8,hg,o8,c0C,o8];cases hlv:a1y c[i -k+j]with
   |none=>exact .inr (.inr ⟨_,rfl,rfl⟩)|some v=>
    simp only[E8,o6];rw[kU _ l7,o8,U5 O6];refine .inl ⟨_,rfl,⟨rfl,j+1,rfl,l7,by simp[hvl],λq a hq=>?_⟩,by simp;omega⟩;by_cases hqj:q<j
    .rw[G5 l7]at hq;exact hv q a hq
    .rw[F6 l7]at hq;have:q=j:=by
      have:=(U8.1 hq).1;simp at this;omega
     subst this;rw[hvl,aU]at hq;cases hq;exact⟨_,dE l7,hlv⟩
  .have:j=k:=l7;subst this;rw[L6 (by unfold o9;omega)];exact .inr (.inl ⟨_,rfl,rfl,hvl,hv⟩)
 rintro o (⟨⟨z,args⟩,rfl,rfl,hal,hlit⟩|⟨r,rfl,hr⟩)
 rotate_left
 .exact⟨r,rfl,λh=>by rw[hr]at h;cases h⟩
 simp only[V4]at hal hlit ⊢;refine obx (Qg (λs=>s.1=(0,0)/\∃j:Nat,s.2=(j:Int)/\j<=c.length/\∀(p:Nat) (m:Nd),p<j->c[p]? =some m->isJ m.1=true->¬(((i -k:Nat):Int)<m.2/\m.2<=i))
  (λe=>∀(p:Nat) (m:Nd),c[p]? =some m->isJ m.1=true->¬(((i -k:Nat):Int)<m.2/\m.2<=i)) (λr=>r.2.2=false) (λs=>c.length -s.2.toNat) ⟨rfl,0,rfl,l7,λp m h=>by omega⟩ U3 ?_) ?_
 .rintro⟨z,_⟩ ⟨rfl,j,rfl,hjk,hv⟩;simp only at hv ⊢;by_cases hlt:j<c.length
  .have hg:c[j]? =some c[j]:=dE hlt;rw[U0 (by unfold o9;omega),o7,G8,hg,o8,RH,o8,U5 O6];have nx:(isJ c[j].1=true->¬(((i -k:Nat):Int)<c[j].2/\c[j].2<=i))->∀(p:Nat) (m:Nd),p<j+1->c[p]? =some m->isJ m.1=true->¬(((i -k:Nat):Int)<m.2/\m.2<=i):=λh p m hp hm hj=>by
    by_cases e:p=j
    .subst e;rw[hg]at hm;cases hm;exact h hj
    .exact hv p m l7 hm hj
   cases hjm:isJ c[j].1
   .exact .inl ⟨_,rfl,⟨rfl,j+1,rfl,l7,nx λh=>by rw[hjm]at h;cases h⟩,by simp;omega⟩
   .rw[o7];cases h5:F7 ((i -k:Nat):Int) c[j].2
    .exact .inl ⟨_,rfl,⟨rfl,j+1,rfl,l7,nx λ_ h=>by have:=jW.1 h5;omega⟩,by simp;omega⟩
    .rw[o7];cases h6:S9 c[j].2 i
     .exact .inl ⟨_,rfl,⟨rfl,j+1,rfl,l7,nx λ_ h=>by have:=LH.1 h6;omega⟩,by simp;omega⟩
     .exact .inr (.inr ⟨_,rfl,rfl⟩)
  .have:j=c.length:=l7;subst this;rw[L6 (by unfold o9;omega)];exact .inr (.inl ⟨_,rfl,λp m hm=>hv p m (U8.1 hm).1 hm⟩)
 rintro o (⟨z,rfl,hnoj⟩|⟨r,rfl,hr⟩)
 rotate_left
 .exact⟨r,rfl,λh=>by rw[hr]at h;cases h⟩
 simp only[V4];rw[(IZ args IB hIn ⟨ho.1,ho.2.1,ho.2.2.1⟩ l7).2,o8];cases h7:x8 (mY n args b3n).2 0
 .exact⟨_,rfl,λh=>by cases h⟩
 have h7:=U4.1 h7;have happ:mY n args b3n=((mY n args b3n).1,0):=by rw[←h7]
 have hne:args≠[]:=λe=>by rw[e]at hal;simp at hal;omega
 obtain⟨_,_,hp⟩:=a5H IB ho hIn l7 hne happ;simp only[E8,o6];rw[(UW hp).1,o8];refine⟨_,rfl,λ_=>⟨args,_,n,⟨hn,ho,l7,hne,l7,λj a ha=>?_,?_,happ⟩,by rw[hal]⟩⟩
 .rw[hal];exact hlit j a ha
 .rw[hal];exact hnoj
end
section
theorem U_{α:Type}{f:List α×Int->Option ((List α×Int)⊕List α)}(l:List α)(g:α->α)(hl:l.length<=1000000)
  (hin:∀(i:Nat) (a:α) (p:List α),l[i]? =some a->p.length=i->f (p++a::l.drop (i+1),(i:Int))=some (.inl (p++g a::l.drop (i+1),((i+1:Nat):Int))))
  (hend:∀p,p.length=l.length->f (p,(l.length:Int))=some (.inr p)):X8 f (l,0)=some (l.map g):=by
 obtain⟨r,h,rfl⟩:=cu (f:=f) (s:=(l,0)) (λs=>∃i:Nat,s=((l.take i).map g++l.drop i,(i:Int))/\i<=l.length) (λr=>r=l.map g) (λs=>l.length -s.2.toNat) ⟨0,x9,l7⟩ l7 (by
  rintro s ⟨i,rfl,hi⟩;by_cases hlt:i<l.length
  .have hg:=dE hlt;rw[aG hlt,hin i _ _ hg (by simp_all)];refine .inl ⟨_,rfl,⟨i+1,?_,l7⟩,l7⟩;simp only[P9 hlt,aY,aS,List.map_nil,G7,List.singleton_append]
  grind)
 omega
def shf(i k:Nat)(n:Nd):Nd:=l9 (isJ n.1) (l9 (F7 i n.2) (n.1,n.2 -k) n) n
def KE(c:List Nd)(i k:Nat)(lit:Nd):List Nd:=(c.take (i -k)++lit::c.drop (i+1)).map (shf i k)
variable {i:Nat}{k:Nat}{c:List Nd}
theorem c1f(hl:c.length<=128)(hi:i<c.length)(hk:k<=i)(lit:Nd)(hI:∀n∈c,iq n.2)(hI2:iq lit.2):nC c (i:Int) (k:Int) lit=some (KE c i k lit):=by
 unfold nC;rw[show I8 .i64 (i:Int) (k:Int)=((i -k:Nat):Int) by grind [U7,iq],show A8 .i64 (i:Int) 1=((i+1:Nat):Int) by grind [U5,iq],
  b1K l7 l7,o8,vG (by grind),o8,kU _ (by grind),o8,b3D l7 l7,o8,vG (by grind),o8,dL]
 simp;have hm:∀n∈c.take (i -k)++lit::c.drop (i+1),iq n.2:=λn hn=>by
  grind
 have hll:(c.take (i -k)++lit::c.drop (i+1)).length<=200:=by grind
 unfold KE;generalize c.take (i -k)++lit::c.drop (i+1)=l at hm hll;refine U_ l (shf i k) l7 (λj a p hj hp=>?_) (λp hp=>?_)
 .have hlt:=(U8.1 hj).1;subst hp;simp[U0 (show(p.length:Int)<o9 l by simp_all [o9]),o7,G8,Di,o8,P7,O9,D9,RH,V8,Sl,U5 (show iq ((p.length:Int)+1) by grind [iq])];unfold shf;cases isJ a.1
  .rfl
  .cases h:F7 (i:Int) a.2
   .rfl
   .have:=jV.1 h
    grind [o7,U7,iq]
 simp[L6,o9]
theorem Ri(hi:i<c.length)(hk:k<=i)(lit:Nd)(p:Nat):
  (KE c i k lit)[p]? =if p<i -k then(c[p]?).map (shf i k)else if p=i -k then some (shf i k lit)else(c[p+k]?).map (shf i k):=by
 grind [KE]
theorem Rj(hi:i<c.length)(hk:k<=i)(lit:Nd):(KE c i k lit).length=c.length -k:=by
 grind [KE]
variable {env:aA}{n:Nd}
theorem c4h(t:Int)(s:List V3)(h:isJ n.1=true):br env (n.1,t) s=br env n s:=by simp_all [br,a9b]
theorem a4U(s:List V3):br env (shf i k n) s=br env n s:=by
 unfold shf;cases h:isJ n.1
 .rfl
 .cases F7 (i:Int) n.2<;>simp_all [c4h]
theorem b1q{s s' :List V3}{b:Bool}(h:isJ n.1=false)(hb:br env n s= .inl (b,s')):b=false:=by
 grind [br,x8,l9]
theorem a4V(h:isJ n.1=false):shf i k n=n:=by simp_all [shf]
theorem Ip{k:Int}(h:Op k):isJ k=false:=TU.2 (.inl h.2.2.2.2.2.1)
theorem b5o(hE:EvOk env){v:V3}(hI:iq n.2)(h:a1y n=some v)(hp:plB v=true)(s:List V3):br env n s= .inl (false,s++[v]):=by obtain⟨h1,h2,h3⟩:=UX hE hI h hp;unfold br;have e:=JL (env:=env) (s:=s) (n:=n) (args:=[]) (by simp_all);rw[G9]at e;rw[Ip h1,e.1,e.2,h3];rfl
section
variable {c:List Nd} {i:Nat} {args:List V3} {v:V3} {n:Nd}
theorem FoldAt.lt(h:FoldAt c i args v n):i<c.length:=(U8.1 h.at_).1
theorem FoldAt.pos(h:FoldAt c i args v n):0<args.length:=by
 cases args with
 |nil=>exact absurd rfl h.ne|cons _ _=>simp
theorem FoldAt.pl(h:FoldAt c i args v n)(hI:∀n∈c,iq n.2):(∀a∈args,plB a=true)/\plB v=true/\∀env,EvOk env->mY n args env=(v,0):=by have hk:=h.ar▸h.op.2.2.2.2.1;have:=λenv (hE:EvOk env)=>a5H hE h.op (hI n (lM h.at_)) l7 h.ne h.app;exact⟨λa ha=>kG.1 (this _ IB).2.1 a ha,(this _ IB).2.2,λenv hE=>(this env hE).1⟩
theorem c0r(hc:Cd c)(hI:∀n∈c,iq n.2)(hf:FoldAt c i args v n)(hE:EvOk env){p:Nat}{s:List V3}{r:V3×Int}(h:Rn env c p s r):
  (p<=i -args.length->Rn env (KE c i args.length (TY v)) p s r)/\(i<p->Rn env (KE c i args.length (TY v)) (p -args.length) s r)/\
  ∀j,p=i -args.length+j->0<j->j<=args.length->∀s0,s=s0++args.take j->Rn env (KE c i args.length (TY v)) (i -args.length) s0 r:=by
 have hlt:=hf.lt;have hpos:=hf.pos;have hle:=hf.le;obtain⟨pa,pv,pall⟩:=hf.pl hI;obtain⟨_,lv1,lv2⟩:=UW pv;have hlv:=UX IB lv2 lv1 pv;have hget:=Ri hlt hle (TY v);have hlitAt:(KE c i args.length (TY v))[i -args.length]? =some (TY v):=by rw[hget,if_neg l7,if_pos rfl,a4V (Ip hlv.1)]
 have hat:∀j,j<args.length->∃m,c[i -args.length+j]? =some m/\∀s,br env m s= .inl (false,s++[args.getD j z3])/\args.take (j+1)=args.take j++[args.getD j z3]:=λj hj=>by have ha:args[j]? =some args[j]:=dE hj;obtain⟨m,h1,h2⟩:=hf.lits j _ ha;refine⟨m,h1,λs=>?_⟩;rw[show args.getD j z3=args[j] by rw[BG,ha];rfl];exact⟨b5o hE (hI m (lM h1)) h2 (pa _ (P8 hj)) s,P9 hj⟩
 induction h with
 |fin s=>refine⟨λh=>by omega,λ_=>?_,λj hj h1 h2=>by omega⟩;have:=Rn.fin (env:=env) (c:=KE c i args.length (TY v)) s;rwa[Rj hlt hle]at this|@err p m s e h hb=>
  refine⟨λhp=>?_,λhp=>?_,λj hj h1 h2 s0 hs=>?_⟩
  .by_cases hpe:p=i -args.length
   .obtain⟨m',k1,k2⟩:=hat 0 hpos;rw[bI,←hpe,h]at k1;cases k1;rw[(k2 s).1]at hb;cases hb
   .exact .err (n:=shf i args.length m) (by rw[hget,if_pos l7,h];rfl) (by rw[a4U];exact hb)
  .exact .err (n:=shf i args.length m) (by rw[hget,if_neg l7,if_neg l7,show p -args.length+args.length=p by omega,h];rfl) (by rw[a4U];exact hb)
  .by_cases hjk:j<args.length
   .obtain⟨m',k1,k2⟩:=hat j hjk;rw[←hj,h]at k1;cases k1;rw[(k2 s).1]at hb;cases hb
   .obtain rfl:j=args.length:=l7;obtain rfl:p=i:=l7;rw[hf.at_]at h;cases h;rw[V7]at hs;unfold br at hb;rw[Ip hf.op,o6,hs,(JL (env:=env) hf.ar.symm).1,pall env hE]at hb;cases hb
 |@go p q m s s' b r h hb hq hpq hr ih=>
  obtain⟨ih1,ih2,ih3⟩:=ih;have hnx:∀p',(p<i -args.length/\p' =p)\/(i<p/\p' =p -args.length)->∃q',q' =l9 b (shf i args.length m).2.toNat (p' +1)/\p' <q' /\Rn env (KE c i args.length (TY v)) q' s' r:=by
   intro p' hp';rcases hc.al p m h with ho|⟨hj,t,h1,h2,h3⟩
   .have hbf:=b1q (Ip ho) hb;subst hbf;simp only[o6]at hq ⊢;refine⟨p' +1,rfl,l7,?_⟩;rcases hp' with⟨g1,g2⟩|⟨g1,g2⟩
    .rw[g2,←hq];exact ih1 l7
    .rw[g2,show p -args.length+1=q -args.length by omega];exact ih2 l7
   .have hn:=hf.noj p m h hj;cases b
    .simp only[o6]at hq ⊢;refine⟨p' +1,rfl,l7,?_⟩;rcases hp' with⟨g1,g2⟩|⟨g1,g2⟩
     .rw[g2,←hq];exact ih1 l7
     .rw[g2,show p -args.length+1=q -args.length by omega];exact ih2 l7
    .grind [shf,l9,U0,L6]
  refine⟨λhp=>?_,λhp=>?_,λj hj h1 h2 s0 hs=>?_⟩
  .by_cases hpe:p=i -args.length
   .obtain⟨m',k1,k2⟩:=hat 0 hpos;rw[bI,←hpe,h]at k1;cases k1;have k3:=k2 s
    grind [o6]
   .obtain⟨q',g1,g2,g3⟩:=hnx p (.inl ⟨l7,rfl⟩);exact .go (n:=shf i args.length m) (by grind) (by simp_all [a4U]) g1 g2 g3
  .obtain⟨q',g1,g2,g3⟩:=hnx (p -args.length) (.inr ⟨hp,rfl⟩);exact .go (n:=shf i args.length m) (by rw[hget,if_neg l7,if_neg l7,show p -args.length+args.length=p by omega,h];rfl) (by simp_all [a4U]) g1 g2 g3
  .by_cases hjk:j<args.length
   .obtain⟨m',k1,k2⟩:=hat j hjk;rw[←hj,h]at k1;cases k1;have k3:=k2 s
    grind [o6]
   .obtain rfl:j=args.length:=l7;obtain rfl:p=i:=l7;rw[hf.at_]at h;cases h;rw[V7]at hs;unfold br at hb;rw[Ip hf.op,o6,hs,(JL (env:=env) hf.ar.symm).1,(JL (env:=env) (s:=s0) hf.ar.symm).2,pall env hE]at hb;cases hb;simp only[o6]at hq;exact .go (b:=false) hlitAt (b5o hE lv2 lv1 pv s0) (q:=p+1 -args.length) (by grind [o6]) l7 (by grind)
end
end
section
theorem StV.map{m m' :Nat}{D D' :Nat->Int}{q p:Nat}{n n' :Nd}(h:StV m D q n)(h0:0<=D q)(h1:n'.1=n.1)(hp:D' p=D q)(hs:n.1≠51->D' (p+1)=D (q+1))
  (ht:∀t:Nat,isJ n.1=true->n.2=(t:Int)->q<t->t<=m->0<=D t->∃t' :Nat,n'.2=(t' :Int)/\p<t' /\t' <=m' /\D' t' =D t):StV m' D' p n' :=by
 rcases h with⟨e,t,h2,h3,h4,h5⟩|⟨e,t,h2,h3,h4,h5,h6,h7⟩|⟨ho,h2,h3,h4⟩
 .obtain⟨t',g1,g2,g3,g4⟩:=ht t (GK.2 l7) h2 h3 h4 l7;exact .inl ⟨l7,t',g1,g2,g3,l7⟩
 .obtain⟨t',g1,g2,g3,g4⟩:=ht t (GK.2 l7) h2 h3 h4 (by grind [x8,o7,o6]);exact .inr (.inl ⟨l7,t',g1,g2,g3,l7,l7,by simp_all⟩)
 .have:n.1≠51:=by have:=ho.2.2.2.2.2.1;omega
  exact .inr (.inr ⟨by simp_all,by simp_all,by simp_all,by simp_all⟩)
theorem VP(i k:Nat)(n:Nd):(shf i k n).1=n.1:=by unfold shf;cases isJ n.1<;>cases F7 (i:Int) n.2<;>rfl
section
variable {c:List Nd} {i:Nat} {args:List V3} {v:V3} {n:Nd}
theorem b0i(hf:FoldAt c i args v n){p:Nat}{m:Nd}(hm:c[p]? =some m)(hj:isJ m.1=true){t:Nat}(h1:m.2=(t:Int)):
  (t<=i -args.length/\(shf i args.length m).2=(t:Int))\/(i<t/\(shf i args.length m).2=((t -args.length:Nat):Int)):=by
 have hn:=hf.noj p m hm hj;have hle:=hf.le;have hs:shf i args.length m=l9 (F7 (i:Int) t) (m.1,(t:Int) -args.length) m:=by unfold shf;rw[hj,o7,h1]
 rw[h1]at hn;by_cases hti:i<t
 .rw[hs,U0 l7];exact .inr ⟨hti,by simp only[o7];omega⟩
 .rw[hs,L6 l7];exact .inl ⟨l7,h1⟩
theorem c0p(hc:Cd c)(hI:∀n∈c,iq n.2)(hf:FoldAt c i args v n):Cd (KE c i args.length (TY v)):=by
 have hlt:=hf.lt;have hpos:=hf.pos;have hle:=hf.le;obtain⟨_,pv,_⟩:=hf.pl hI;obtain⟨_,lv1,lv2⟩:=UW pv;have hlv:=UX IB lv2 lv1 pv;refine⟨λp n' hn' =>?_⟩;rw[Ri hlt hle]at hn';rw[Rj hlt hle];have go:∀q m,c[q]? =some m->shf i args.length m=n' ->(q<i -args.length/\p=q)\/(i<q/\p=q -args.length)->Op n'.1\/(isJ n'.1=true/\∃t:Nat,n'.2=(t:Int)/\p<t/\t<=c.length -args.length):=by
  rintro q m hm rfl hq;rcases hc.al q m hm with ho|⟨hj,t,h1,h2,h3⟩
  .simp_all [VP]
  .right;refine⟨by simp_all [VP],?_⟩;rcases b0i hf hm hj h1 with⟨g1,g2⟩|⟨g1,g2⟩<;>grind
 split at hn'<;>grind [VP]
theorem c0s{D:Nat->Int}(hv:Vf c D)(hc:Cd c)(hf:FoldAt c i args v n):∃D',Vf (KE c i args.length (TY v)) D' :=by
 have hlt:=hf.lt;have hpos:=hf.pos;have hle:=hf.le;have l1:=hv.l1;obtain⟨pa,pv,_⟩:=hf.pl hv.iN;obtain⟨_,lv1,lv2⟩:=UW pv;have hlv:=UX IB lv2 lv1 pv;have hlen:=Rj hlt hle (TY v);refine⟨λp=>if p<=i -args.length then D p else D (p+args.length),l7,l7,by simp[hv.d0],?_,λp=>?_,λp n' hn' h0=>?_,λn' hn' =>?_⟩
 .rw[hlen];rw[if_neg l7,show c.length -args.length+args.length=c.length by omega];exact hv.dn
 .split<;>exact hv.bd _
 .rw[Ri hlt hle]at hn';rw[hlen];split at hn'
  .obtain⟨m,h1,rfl⟩:=X6.1 hn';rw[if_pos l7]at h0;refine(hv.st p m h1 h0).map h0 (VP _ _ _) (if_pos l7) (λ_=>if_pos l7) λt hj h2 h3 h4 _=>?_;rcases b0i hf h1 hj h2 with⟨g1,g2⟩|⟨g1,g2⟩
   .grind
   .exact⟨t -args.length,g2,l7,l7,by grind⟩
  split at hn'
  .rename_i hp;subst hp;cases hn';rw[if_pos l7]at h0;rw[a4V (Ip hlv.1)];have chain:∀j,j<=args.length->D (i -args.length+j)=D (i -args.length)+j/\(0<j->D (i -args.length)+1<=12):=by
    intro j;induction j with
    |zero=>simp
    |succ j ih=>intro hj;obtain⟨e,_⟩:=ih l7;obtain⟨m,k1,k2⟩:=hf.lits j _ (dE l7);have hm:=hv.iN m (lM k1);obtain⟨o1,o2,_⟩:=UX IB hm k2 (pa _ (P8 _));have hs:=hv.st _ m k1 l7;have o1' :=o1.2.2.2.2.2.1;rcases hs with⟨e1,_⟩|⟨e1,_⟩|⟨_,e2,e3,e4⟩<;>grind
   obtain⟨e,e12⟩:=chain args.length (D5 _);rw[show i -args.length+args.length=i by omega]at e;have o1' :=hf.op.2.2.2.2.2.1;have har:=hf.ar;rcases hv.st i n hf.at_ l7 with⟨e1,_⟩|⟨e1,_⟩|⟨_,e2,e3,e4⟩
   .omega
   .omega
   .refine .inr (.inr ⟨hlv.1,?_,?_,?_⟩)<;>simp only<;>rw[hlv.2.1]
    .omega
    .omega
    .rw[if_neg l7,show i -args.length+1+args.length=i+1 by omega];omega
  .rename_i hp1 hp2;obtain⟨m,h1,rfl⟩:=X6.1 hn';rw[if_neg l7]at h0;refine(hv.st _ m h1 h0).map h0 (VP _ _ _) (if_neg l7) (λ_=>by grind) λt hj h2 h3 h4 _=>?_;rcases b0i hf h1 hj h2 with⟨g1,g2⟩|⟨g1,g2⟩
   .omega
   .exact⟨t -args.length,g2,l7,l7,by grind⟩
 .obtain⟨p,hp⟩:=dJ hn';have ga:∀m,m∈c->iq (shf i args.length m).2:=λm hm=>by
   have:=hv.iN m hm;unfold shf;cases isJ m.1
   .simp_all
   .cases hh:F7 (i:Int) m.2
    .simp_all
    .have:=jV.1 hh;grind [o7,iq]
  rw[Ri hlt hle]at hp
  grind [a4V,Ip]
end
variable {c:List Nd}
theorem Gd.len(h:Gd c):0<c.length/\c.length<=128:=by obtain⟨⟨D,hv⟩,_⟩:=h;exact⟨hv.l0,hv.l1⟩
theorem PH(h:Gd c):sV c=some true:=by obtain⟨⟨D,hv⟩,_⟩:=h<;>grind [a3z,sV,o8,L8]
theorem ZN(h:c.length<=1000):jR c=some c:=by grind [jR,vG]
theorem a8Q(hG:Gd c):∃y,uB c=some y/\Gd y/\Imp c y:=by
 unfold uB;have hl:=hG.len;rw[ZN l7,PH hG];simp[E8,o6,dL];refine cu (λx=>Gd x/\Imp c x) (λx=>Gd x/\Imp c x) (λx=>x.length) ⟨hG,Imp.rfl'⟩ l7 ?_;rintro x ⟨hx,hi⟩;have hxl:=hx.len;obtain⟨o,e,ho⟩:=Qg (f:=λ(x_2:List Nd×Int)=>
         l9 (F7 x_2.2 (o9 x))
          (o5 (CO x_2.1 x_2.2) λ(x:D7×Int×Bool)=>
           l9 x.2.2
            (o5 (nC x_2.1 x_2.2 x.2.1 x.1) λ(x:List D7)=>
             some (Out.rt (Sum.inl x:List D7⊕List D7)))
            (some (Out.nx (x_2.1,A8 IntKind.i64 x_2.2 1))))
          (some (Out.ex x_2.1))) (s:=(x,0)) (λs=>s.1=x/\∃j:Nat,s.2=(j:Int)/\j<=x.length) (λe=>e=x) (λr=>∃x',r= .inl x' /\Gd x' /\Imp x x' /\x'.length<x.length) (λs=>x.length -s.2.toNat)
   ⟨rfl,0,rfl,l7⟩ l7 (by
  rintro⟨z,_⟩ ⟨rfl,j,rfl,hj⟩;simp only;by_cases hlt:j<z.length
  .rw[U0 (by simp_all [o9])];obtain⟨⟨D,hv⟩,hc⟩:=hx;obtain⟨r,e,hr⟩:=c0q hc hxl.2 hv.iN hlt;rw[e,o8];cases hb:r.2.2
   .rw[U5 (by grind [iq])];exact .inl ⟨_,rfl,⟨rfl,j+1,rfl,l7⟩,l7⟩
   .obtain⟨args,v,n,hf,rfl⟩:=hr hb;obtain⟨_,pv,_⟩:=hf.pl hv.iN;rw[c1f hxl.2 hlt hf.le _ hv.iN (UW pv).2.2];exact .inr (.inr ⟨_,rfl,_,rfl,⟨c0s hv hc hf,c0p hc hv.iN hf⟩,λenv r hE hr=>(c0r hc hv.iN hf hE hr).1 l7,by rw[Rj hlt hf.le];have:=hf.pos;omega⟩)
  simp_all [L6,o9])
 rw[e];rcases ho with⟨_,rfl,rfl⟩|⟨_,rfl,x',rfl,h1,h2,h3⟩
 .simp_all
 .exact .inl ⟨_,rfl,⟨h1,hi.trans h2⟩,h3⟩
end
section
def thr(c:List Nd):Nat->Nat->Nat
 |0,t=>t
 |f+1,t=>match c[t]? with
  |some n=>l9 (x8 n.1 51) (thr c f n.2.toNat) t|none=>t
variable {env:aA}
section
variable {c:List Nd}
theorem Cd.jump(hc:Cd c){t:Nat}{n:Nd}(h:c[t]? =some n)(h51:x8 n.1 51=true):∃u:Nat,n.2=(u:Int)/\n.2.toNat=u/\t<u/\u<=c.length:=by
 have e:=U4.1 h51;rcases hc.al t n h with ho|⟨_,u,h1,h2,h3⟩
 .have:=ho.2.2.2.2.2.1;omega
 .exact⟨u,h1,by rw[h1];rfl,h2,h3⟩
theorem a1b(hc:Cd c):∀(f t:Nat),t<=c.length->t<=thr c f t/\thr c f t<=c.length
 |0,t,h=>⟨D5 _,h⟩|f+1,t,h=>by
  unfold thr;cases hn:c[t]? with
  |none=>exact⟨D5 _,h⟩|some n=>
   simp only;cases h51:x8 n.1 51
   .exact⟨D5 _,h⟩
   .obtain⟨u,_,e,h2,h3⟩:=hc.jump hn h51;rw[o7,e];have:=a1b hc f u h3;omega
theorem b2H(hc:Cd c){D:Nat->Int}(hv:Vf c D):∀(f t:Nat),0<=D t->D (thr c f t)=D t
 |0,t,h=>rfl|f+1,t,h=>by
  unfold thr;cases hn:c[t]? with
  |none=>rfl|some n=>
   simp only;cases h51:x8 n.1 51
   .rfl
   .obtain⟨u,e0,e,h2,h3⟩:=hc.jump hn h51;have e1:=U4.1 h51;rw[o7,e];have hd:D u=D t:=by
     rcases hv.st t n hn h with⟨_,w,g1,g2,g3,g4⟩|⟨g,_⟩|⟨g,_⟩
     .rw[show u=w by omega];exact g4
     .omega
     .have:=g.2.2.2.2.2.1;omega
    rw[b2H hc hv f u l7,hd]
def thn(c:List Nd)(n:Nd):Nd:=l9 (isJ n.1) (n.1,(thr c c.length n.2.toNat:Int)) n
theorem b2G(n:Nd):(thn c n).1=n.1:=by unfold thn;cases isJ n.1<;>rfl
theorem b0J{n:Nd}(s:List V3):br env (thn c n) s=br env n s:=by
 unfold thn;cases h:isJ n.1
 .rfl
 .exact c4h _ s h
theorem a5h{p:Nat}{s:List V3}{r:V3×Int}(h1:Rn env (c.map (thn c)) p s r)(h2:∀n,c[p]? =some n->x8 n.1 51=true->∀f,Rn env (c.map (thn c)) (thr c f n.2.toNat) s r)(f:Nat):Rn env (c.map (thn c)) (thr c f p) s r:=by
 cases f with
 |zero=>exact h1|succ f=>
  unfold thr;cases hn:c[p]? with
  |none=>exact h1|some n=>
   simp only;cases h51:x8 n.1 51
   .exact h1
   .exact h2 n hn h51 f
theorem c7B(hc:Cd c){p:Nat}{s:List V3}{r:V3×Int}(h:Rn env c p s r):Rn env (c.map (thn c)) p s r/\∀f,Rn env (c.map (thn c)) (thr c f p) s r:=by
 induction h with
 |fin s=>
  have h1:Rn env (c.map (thn c)) c.length s (s.head?.getD z3,0):=by have:=Rn.fin (env:=env) (c:=c.map (thn c)) s;rwa[J4]at this
  exact⟨h1,a5h h1 λn hn=>by rw[List.getElem?_eq_none (D5 _)]at hn;cases hn⟩
 |@err p m s e h hb=>have h1:Rn env (c.map (thn c)) p s e:=.err (n:=thn c m) (by rw[H6,h];rfl) (by rw[b0J];exact hb);refine⟨h1,a5h h1 λn hn h51=>?_⟩;rw[h]at hn;cases hn;unfold br at hb;rw[U4.1 h51]at hb;cases hb|@go p q m s s' b r h hb hq hpq hr ih=>
  have h1:Rn env (c.map (thn c)) p s r:=by
   have hm:(c.map (thn c))[p]? =some (thn c m):=by rw[H6,h];rfl
   cases b
   .exact .go hm (by rw[b0J];exact hb) hq hpq ih.1
   .rcases hc.al p m h with ho|⟨hj,t,h1,h2,h3⟩
    .have:=b1q (Ip ho) hb;cases this
    .have hqt:q=t:=by rw[hq,h1];rfl
     have hb2:=a1b hc c.length t h3;refine .go (q:=thr c c.length t) hm (by rw[b0J];exact hb) ?_ l7 (by rw[←hqt];exact ih.2 _);unfold thn;rw[hj,h1];rfl
  refine⟨h1,a5h h1 λn hn h51 f=>?_⟩;rw[h]at hn;cases hn;unfold br at hb;rw[U4.1 h51]at hb;cases hb;simp only[o7]at hq;rw[←hq];exact ih.2 f
theorem b9x(hc:Cd c)(hl:c.length<=128){t:Nat}(ht:t<=c.length){f:Int->Option (Int⊕Int)}
  (hf:∀u:Nat,u<=c.length->f (u:Int)=match c[u]? with|some n=>l9 (x8 n.1 51) (some (.inl n.2)) (some (.inr (u:Int)))|none=>some (.inr (u:Int))):X8 f (t:Int)=some (thr c c.length t:Int):=by
 generalize hT:thr c c.length t=T;obtain⟨r,h,rfl⟩:=cu (f:=f) (s:=(t:Int)) (λx=>∃u g:Nat,x=(u:Int)/\u<=c.length/\c.length -u<=g/\thr c g u=T) (λr=>r=(T:Int)) (λx=>c.length -x.toNat) ⟨t,c.length,rfl,ht,l7,hT⟩ U3 (by
  rintro _ ⟨u,g,rfl,hu,hg,he⟩;rw[hf u hu];cases hn:c[u]? with
  |none=>
   have:thr c g u=u:=by cases g<;>simp[thr,hn]
   exact .inr ⟨_,rfl,l7⟩
  |some n=>
   have hlt:=(U8.1 hn).1;obtain⟨g,rfl⟩:∃k,g=k+1:=⟨g -1,l7⟩;unfold thr at he;simp only[hn]at he ⊢;cases h51:x8 n.1 51<;>rw[h51]at he
   .exact .inr ⟨_,rfl,by rw[o6]at he;omega⟩
   .obtain⟨w,e0,e,h2,h3⟩:=hc.jump hn h51;rw[o7,e]at he;exact .inl ⟨_,rfl,⟨w,g,e0,h3,l7,he⟩,by rw[e0];simp;omega⟩)
 exact h
theorem b4A(hG:Gd c):∃y,wL c=some y/\Gd y/\Imp c y:=by
 have hl:=hG.len;obtain⟨⟨D,hv⟩,hc⟩:=hG;refine⟨c.map (thn c),?_,⟨⟨D,?_⟩,?_⟩,λenv r _ h=>(c7B hc h).1⟩
 .unfold wL;rw[ZN l7,o8,PH ⟨⟨D,hv⟩,hc⟩,o8];simp only[E8,o6,dL];refine U_ c (thn c) l7 (λj a p hj hp=>?_) (λp hp=>?_)
  .have hlt:=(U8.1 hj).1;subst hp;simp only[U0 (show(p.length:Int)<o9 c by unfold o9;omega),o7,G8,hj,Di,o8,P7,O9,D9,RH,V8,Sl,U5 (show iq ((p.length:Int)+1) by unfold iq;omega)];cases hJ:isJ a.1
   .simp only[bY,o7];rw[show thn c a=a by unfold thn;rw[hJ];rfl];rfl
   .rcases hc.al _ a hj with ho|⟨_,t,h1,h2,h3⟩
    .rw[Ip ho]at hJ;cases hJ
    simp only[E8,o6];rw[h1,b9x hc hl.2 h3 (λu hu=>?_),o8]
    .rw[show thn c a=(a.1,(thr c c.length t:Int)) by unfold thn;rw[hJ,h1];rfl];rfl
    .rw[ae l7,o7,G8];by_cases hul:u<c.length
     .rw[U0 (by unfold o9;omega),o7,dE hul];simp only[o8];cases h51:x8 c[u].1 51
      .rfl
      .obtain⟨w,e0,e,h2,h3⟩:=hc.jump (dE hul) h51;rw[o7,U0 l7]
     .rw[L6 (by unfold o9;omega),List.getElem?_eq_none l7];rfl
  .simp only[L6 (show o9 c<=(c.length:Int)from aW _),o6]
 .refine⟨by simpa using hl.1,by simpa using hl.2,hv.d0,by rw[J4];exact hv.dn,hv.bd,λi n' hn h0=>?_,λn' hn=>?_⟩
  .rw[H6]at hn;obtain⟨n,h1,rfl⟩:=X6.1 hn;rw[J4];refine(hv.st i n h1 h0).map h0 (b2G n) rfl (λ_=>rfl) λt hj h2 h3 h4 h5=>?_;have:=a1b hc c.length t h4;exact⟨thr c c.length t,by unfold thn;rw[hj,h2];rfl,l7,this.2,b2H hc hv _ _ h5⟩
  .obtain⟨n,h1,rfl⟩:=J6.1 hn;obtain⟨i,hi⟩:=dJ h1;unfold thn;rcases hc.al i n hi with ho|⟨hj,t,h2,h3,h4⟩
   .rw[Ip ho];exact hv.iN n h1
   .have:=a1b hc c.length t h4;rw[hj,h2,o7];show iq ((thr c c.length t:Nat):Int);unfold iq;omega
 .refine⟨λi n' hn=>?_⟩;rw[H6]at hn;obtain⟨n,h1,rfl⟩:=X6.1 hn;rw[b2G,J4];rcases hc.al i n h1 with ho|⟨hj,t,h2,h3,h4⟩
  .exact .inl ho
  .have:=a1b hc c.length t h4;exact .inr ⟨hj,thr c c.length t,by unfold thn;rw[hj,h2];rfl,l7,this.2⟩
end
end
section
def rmv{α:Type} :List Bool->List α->List α
 |b::K,x::l=>l9 b (x::rmv K l) (rmv K l)|_,_=>[]
def pos(K:List Bool)(p:Nat):Nat:=(K.take p).countP id
variable {p:Nat}{K:List Bool}
section
variable {α:Type}
theorem a4R:∀{K:List Bool} {l:List α} (p:Nat),K[p]? =some true->(rmv K l)[pos K p]? =l[p]?
 |[],_,p,h=>by grind|b::K,[],p,h=>by simp[rmv]|b::K,x::l,0,h=>by cases h;rfl|b::K,x::l,p+1,h=>by have:=a4R (l:=l) p (by simpa using h);cases b<;>simpa[rmv,pos]using this
theorem KU:∀{K:List Bool} {l:List α},K.length=l.length->(rmv K l).length=K.countP id
 |[],[],_=>rfl|b::K,x::l,h=>by have:=KU (by simpa using h);cases b<;>simp[rmv,l9,this]
theorem Oh:∀{K:List Bool} {l:List α} {j:Nat} {x:α},(rmv K l)[j]? =some x->∃p,K[p]? =some true/\pos K p=j/\l[p]? =some x
 |[],_,j,x,h=>by grind [rmv]|b::K,[],j,x,h=>by grind [rmv]|true::K,y::l,0,x,h=>⟨0,rfl,rfl,h⟩|true::K,y::l,j+1,x,h=>by obtain⟨p,h1,h2,h3⟩:=Oh (by simpa[rmv]using h);exact⟨p+1,by simpa using h1,by simp[pos]at h2 ⊢;exact h2,by simpa using h3⟩
 |false::K,y::l,j,x,h=>by obtain⟨p,h1,h2,h3⟩:=Oh (by simpa[rmv]using h);exact⟨p+1,by simpa using h1,by exact h2,by simpa using h3⟩
theorem Qs{b:Bool}(h:K[p]? =some b):pos K (p+1)=pos K p+l9 b 1 0:=by obtain⟨h1,rfl⟩:=U8.1 h;unfold pos;rw[P9 h1,List.countP_append];cases K[p]<;>rfl
theorem MS(K:List Bool){p q:Nat}(h:p<=q):pos K p<=pos K q:=by
 grind [pos,List.take_append_drop]
theorem a7A:∀{K:List Bool} {l:List α} (b:Bool) (x:α),K.length=l.length->rmv (K++[b]) (l++[x])=rmv K l++l9 b [x] []
 |[],[],b,x,_=>by cases b<;>rfl|c::K,y::l,b,x,h=>by have:=a7A b x (by simpa using h);cases c<;>simp[rmv,l9]at this ⊢<;>exact this
theorem b5y(h:(K.any λx=>ji false x)=true):K.countP id<K.length:=by induction K<;>grind [ji]
end
def jnx(i:Nat)(n:Nd):Bool:=fF (x8 n.1 51) (x8 n.2 ((i+1:Nat):Int))
structure Cl (c:List Nd) (y:List Bool):Prop where
 len:y.length=c.length+1
 z:y[0]? =some true
 cl:∀(i:Nat) (n:Nd),c[i]? =some n->y[i]? =some true->(n.1≠51->y[i+1]? =some true)/\∀t:Nat,isJ n.1=true->n.2=(t:Int)->y[t]? =some true
structure Kp (c:List Nd) (y K:List Bool):Prop where
 len:K.length=c.length
 at_:∀(i:Nat) (n:Nd),c[i]? =some n->∃b,y[i]? =some b/\K[i]? =some (b&&!jnx i n)
def rmn(K:List Bool)(n:Nd):Nd:=l9 (isJ n.1) (n.1,(pos K n.2.toNat:Int)) n
theorem b2r(K:List Bool)(n:Nd):(rmn K n).1=n.1:=by unfold rmn;cases isJ n.1<;>rfl
variable {n:Nd}
theorem a9Q{env:aA}(s:List V3):br env (rmn K n) s=br env n s:=by unfold rmn;cases h:isJ n.1<;>simp_all [c4h]
def rmC(K:List Bool)(c:List Nd):List Nd:=(rmv K c).map (rmn K)
section
variable {c:List Nd} {y K:List Bool}
theorem Kp.keep(hk:Kp c y K){i:Nat}(h:c[i]? =some n)(hy:y[i]? =some true):(K[i]? =some true/\jnx i n=false)\/(K[i]? =some false/\n.1=51/\n.2=((i+1:Nat):Int)):=by
 obtain⟨b,h1,h2⟩:=hk.at_ i n h;rw[hy]at h1;cases h1;cases hj:jnx i n<;>rw[hj]at h2
 .simp_all
 .refine .inr ⟨h2,?_⟩;unfold jnx at hj;cases h5:x8 n.1 51<;>rw[h5]at hj
  .cases hj
  .exact⟨U4.1 h5,U4.1 hj⟩
theorem Kp.reached(hk:Kp c y K){i:Nat}(h:c[i]? =some n)(h2:K[i]? =some true):y[i]? =some true:=by obtain⟨b,h1,h3⟩:=hk.at_ i n h<;>simp_all
theorem a4A(hk:Kp c y K):pos K c.length=(rmC K c).length:=by unfold rmC pos;rw[J4,KU hk.len,←hk.len,V7]
theorem b7F(hk:Kp c y K)(h:c[p]? =some n)(h2:K[p]? =some true):(rmC K c)[pos K p]? =some (rmn K n):=by simp_all [rmC,a4R]
theorem d0J(hc:Cd c)(hy:Cl c y)(hk:Kp c y K){env:aA}{s:List V3}{r:V3×Int}(h:Rn env c p s r):y[p]? =some true->Rn env (rmC K c) (pos K p) s r:=by
 induction h with
 |fin s=>intro _;rw[a4A hk];exact .fin s|@err p m s e h hb=>
  intro hp;rcases hk.keep h hp with⟨h1,_⟩|⟨_,h51,_⟩
  .exact .err (b7F hk h h1) (by simp_all [a9Q])
  .unfold br at hb;rw[h51]at hb;cases hb
 |@go p q m s s' b r h hb hq hpq hr ih=>
  intro hp;have hcl:=hy.cl p m h hp;rcases hk.keep h hp with⟨h1,_⟩|⟨h1,h51,hN⟩
  .have hs:=Qs h1;simp at hs;have hm:=b7F hk h h1;cases b
   .have hn51:m.1≠51:=λe=>by unfold br at hb;rw[e]at hb;cases hb
    exact .go hm (by rw[a9Q];omega) rfl x9 (by simp_all)
   .rcases hc.al p m h with ho|⟨hj,t,h2,h3,h4⟩
    .grind [b1q,Ip]
    .have hqt:q=t:=by simp_all
     subst hqt;have hmono:=MS K (show p+1<=q by omega);exact .go hm (by rw[a9Q];omega) (by unfold rmn;rw[hj,h2];rfl) l7 (ih (hcl.2 q hj h2))
  .unfold br at hb;rw[h51]at hb;cases hb;simp at hq;have hs:=Qs h1;have:=ih (hcl.2 q (by rw[h51];rfl) l7);simp_all
theorem d0I(hc:Cd c)(hy:Cl c y)(hk:Kp c y K):Cd (rmC K c):=by
 refine⟨λj n' hn=>?_⟩;have he:=a4A hk;unfold rmC at hn;rw[H6]at hn;obtain⟨n,h1,rfl⟩:=X6.1 hn;obtain⟨p,k1,rfl,k3⟩:=Oh h1;rw[b2r,←he];rcases hc.al p n k3 with ho|⟨hj,t,h2,h3,h4⟩
 .simp_all
 .have hs:=Qs k1;simp at hs;have h5:=MS K (show p+1<=t by omega);have h6:=MS K h4;exact .inr ⟨hj,pos K t,by simp_all [rmn],l7,h6⟩
theorem d0K{D:Nat->Int}(hv:Vf c D)(hc:Cd c)(hy:Cl c y)(hk:Kp c y K):∃D',Vf (rmC K c) D' :=by
 have l1:=hv.l1;have he:=a4A hk;let L:=rmv K ((List.range c.length).map D)++[D c.length];have hrl:(rmv K ((List.range c.length).map D)).length=pos K c.length:=by rw[KU (by simp[hk.len]),pos,←hk.len,V7]
 have hat:∀p,K[p]? =some true->DD L (pos K p)=D p:=λp hp=>by
  have hlt:=(U8.1 hp).1;rw[hk.len]at hlt
  grind [a4R,DD,List.getElem?_append_left]
 have hend:DD L (pos K c.length)=D c.length:=by grind [BX]
 have hall:∀k p,c.length -p=k->p<=c.length->y[p]? =some true->0<=D p->DD L (pos K p)=D p:=by
  intro k;induction k with
  |zero=>grind|succ k ih=>
   intro p h1 h2 h3 h4;have hn:c[p]? =some c[p]:=dE l7;rcases hk.keep hn h3 with⟨g1,_⟩|⟨g1,h51,hN⟩
   .simp_all
   .have hs:=Qs g1;simp only[o6,bI]at hs;have hd:D (p+1)=D p:=by
     rcases hv.st p _ hn h4 with⟨_,w,e1,e2,e3,e4⟩|⟨g,_⟩|⟨g,_⟩
     .grind
     .omega
     .have:=g.2.2.2.2.2.1;omega
    rw[←hs,ih (p+1) l7 l7 ((hy.cl p _ hn h3).2 (p+1) (by rw[h51];rfl) hN) l7,hd]
 have h0:DD L 0=0:=by have:=hall c.length 0 l7 l7 hy.z (by rw[hv.d0];omega);rwa[show pos K 0=0 from rfl,hv.d0]at this
 have hn1:DD L (rmC K c).length=1:=by rw[←he,hend,hv.dn]
 have hle:(rmC K c).length<=c.length:=by unfold rmC;rw[J4,KU hk.len];have:=List.countP_le_length (p:=id) (l:=K);rw[hk.len]at this;omega
 refine⟨DD L,?_,l7,h0,hn1,λj=>?_,λj n' hn hd=>?_,λn' hn=>?_⟩
 .grind
 .unfold DD;cases hx:L[j]? with
  |none=>decide|some x=>
   rcases D6.1 (lM hx)with h|h
   .obtain⟨i,hi⟩:=dJ h;obtain⟨p,_,_,k3⟩:=Oh hi;rw[H6]at k3;obtain⟨q,_,rfl⟩:=X6.1 k3;exact hv.bd q
   grind
 .unfold rmC at hn;rw[H6]at hn;obtain⟨n,h1,rfl⟩:=X6.1 hn;obtain⟨p,k1,rfl,k3⟩:=Oh h1;have hlt:=(U8.1 k3).1;have hyp:=hk.reached k3 k1;rw[hat p k1]at hd;have hs:=Qs k1;simp only[o7]at hs;have hcl:=hy.cl p n k3 hyp;have hst:=hv.st p n k3 hd;refine hst.map hd (b2r _ _) (hat p k1) (λh51=>?_) λt hj h2 h3 h4 h5=>?_
  .rw[←hs];refine hall _ (p+1) rfl l7 (hcl.1 h51) ?_;rcases hst with⟨g,_⟩|⟨_,_,_,_,_,_,g,_⟩|⟨_,g1,_,g⟩<;>omega
  .have:=MS K (show p+1<=t by omega);exact⟨pos K t,by simp_all [rmn],l7,by rw[←he];exact MS K h4,hall _ t rfl h4 (hcl.2 t hj h2) h5⟩
 .obtain⟨n,h1,rfl⟩:=J6.1 hn;obtain⟨i,hi⟩:=dJ h1;obtain⟨p,k1,_,k3⟩:=Oh hi;unfold rmn;rcases hc.al p n k3 with ho|⟨hj,t,h2,h3,h4⟩
  .rw[Ip ho];exact hv.iN n (lM k3)
  .have:=MS K h4
   grind [o7,iq]
end
end
section
theorem Yj{y:List Bool}{k m:Nat}(hk:k<y.length)(h:y[m]? =some true\/m=k):(y.set k true)[m]? =some true:=by
 grind
section
variable {c:List Nd}
theorem b4l(hc:Cd c)(hl:c.length<=128):∃z,yN c=some z/\∃y,Cl c y/\z=y.take c.length:=by
 unfold yN;have l1:A8 .i64 (o9 c) 1=((c.length+1:Nat):Int):=by grind [o9,U5,iq]
 rw[l1,BI l7 l7,o8];simp only[D9];have h0:(List.replicate (c.length+1) false)[0]? =some false:=x9;rw[show H9 (List.replicate (c.length+1) false) 0=some false from h0,o8,show P7 (List.replicate (c.length+1) false) (O9 0)=some false from h0,o8];let P:=λ(y:List Bool) (i:Nat)=>y.length=c.length+1/\y[0]? =some true/\∀(j:Nat) (n:Nd),j<i->c[j]? =some n->y[j]? =some true->(n.1≠51->y[j+1]? =some true)/\∀t:Nat,isJ n.1=true->n.2=(t:Int)->y[t]? =some true;have hset:∀y i k,P y i->i<=k->k<c.length+1->0<k->P (y.set k true) i:=λy i k ⟨h1,h2,h3⟩ hk hk2 hk3=>by
  grind [Yj,List.getElem?_set_ne]
 refine obx (cu (λs=>∃i:Nat,s.2=(i:Int)/\i<=c.length/\P s.1 i) (λy=>P y c.length) (λs=>c.length -s.2.toNat) ⟨0,rfl,l7,by simp[V8],by simp[V8,O9],λj n h=>by omega⟩ l7 ?_) ?_
 .rintro⟨y,_⟩ ⟨i,rfl,hi,hP⟩;simp only at hP ⊢;obtain⟨h1,h2,h3⟩:=hP;by_cases hlt:i<c.length
  .have hn:c[i]? =some c[i]:=dE hlt;have hy:y[i]? =some y[i]:=dE l7;generalize hcn:c[i]=n at hn;have i1:A8 .i64 (i:Int) 1=((i+1:Nat):Int):=by rw[U5 (by grind [iq])];omega
   rw[U0 (by simp_all [o9]),o7,i1];have hy1:y[i+1]? =some y[i+1]:=dE l7;simp only[G8,hn,hy,hy1,o8,P7,O9,D9,RH,V8];cases hb:y[i]
   .refine .inl ⟨_,rfl,⟨i+1,rfl,l7,h1,h2,λj m hj hm hym=>?_⟩,l7⟩;by_cases e:j=i
    .simp_all
    .exact h3 j m l7 hm hym
   .simp only[E8,o6];have fin:∀y2,P y2 i->((n.1≠51->y2[i+1]? =some true)/\∀t:Nat,isJ n.1=true->n.2=(t:Int)->y2[t]? =some true)->∃k:Nat,(((i+1:Nat):Int))=(k:Int)/\k<=c.length/\P y2 k:=λy2 ⟨g1,g2,g3⟩ hh=>
     ⟨i+1,rfl,l7,g1,g2,λj m hj hm hym=>by
      by_cases e:j=i
      .simp_all
      .exact g3 j m l7 hm hym⟩
    have h51:∀x:Int,x8 x 51=false->x≠51:=λx h=>zN.1 h;have s1:=hset y i (i+1) ⟨h1,h2,h3⟩ l7 l7 l7;cases h5:x8 n.1 51
    .simp only[bY,o7];cases hJ:isJ n.1
     .exact .inl ⟨_,rfl,fin _ s1 ⟨λ_=>Yj l7 (.inr rfl),λt h=>by simp_all⟩,l7⟩
     .rcases hc.al i n hn with ho|⟨_,t,e1,e2,e3⟩
      .simp_all [Ip]
      have hyt:(y.set (i+1) true)[t]? =some (y.set (i+1) true)[t]:=dE l7;simp only[o7,e1,G8,hyt,o8,D9];exact .inl ⟨_,rfl,fin _ (hset _ i t s1 l7 l7 l7) ⟨λ_=>Yj l7 (.inl (Yj l7 (.inr rfl))),λu _ hu=>Yj l7 (.inr l7)⟩,l7⟩
    .have h5' :=U4.1 h5;have hJ:isJ n.1=true:=by rw[h5'];rfl
     rcases hc.al i n hn with ho|⟨_,t,e1,e2,e3⟩
     .simp_all [Ip]
     have hyt:y[t]? =some y[t]:=dE l7;simp only[E8,o6,hJ,o7,e1,G8,hyt,o8,D9];exact .inl ⟨_,rfl,fin _ (hset _ i t ⟨h1,h2,h3⟩ l7 l7 l7) ⟨λh=>absurd h5' h,λu _ hu=>Yj l7 (.inr l7)⟩,l7⟩
  .have:i=c.length:=l7;subst this;rw[L6 (by simp[o9]),o6];exact .inr ⟨_,rfl,h1,h2,h3⟩
 .rintro y ⟨h1,h2,h3⟩;rw[show nG 0 (o9 c) (o9 y)=true by grind [nG,o9],o7];exact⟨_,rfl,y,⟨h1,h2,λi n hn hy=>h3 i n (U8.1 hn).1 hn hy⟩,by simp[lJ,O9,o9]⟩
theorem c0A(hl:c.length<=128){y:List Bool}(hy:Cl c y){f:List Bool×Int->Option ((List Bool×Int)⊕List Bool)}
  (hf:∀(K:List Bool) (i:Nat) (n:Nd) (b:Bool),c[i]? =some n->K[i]? =some b->f (K,(i:Int))=some (.inl (l9 (jnx i n) (K.set i false) K,((i+1:Nat):Int)))) (he:∀K,f (K,(c.length:Int))=some (.inr K)):
  ∃K,X8 f (y.take c.length,0)=some K/\Kp c y K:=by
 refine cu (λs=>∃i:Nat,s.2=(i:Int)/\i<=c.length/\s.1.length=c.length/\∀(j:Nat) (n:Nd),c[j]? =some n->∃b,y[j]? =some b/\s.1[j]? =some (b&&!(decide (j<i)&&jnx j n))) (λK=>Kp c y K) (λs=>c.length -s.2.toNat)
  ⟨0,rfl,l7,by simp[hy.len],λj n hn=>?_⟩ l7 ?_
 .have hlt:=(U8.1 hn).1;have hyl:=hy.len;simp_all
 .rintro⟨K,_⟩ ⟨i,rfl,hi,hK,hat⟩;simp only at hK hat
  by_cases hlt:i<c.length
  .have hn:c[i]? =some c[i]:=dE hlt;rw[hf K i _ _ hn (dE l7)];refine .inl ⟨_,rfl,⟨i+1,rfl,l7,by cases jnx i c[i]<;>simp[l9,hK],λj n hj=>?_⟩,l7⟩;obtain⟨b,b1,b2⟩:=hat j n hj;refine⟨b,b1,?_⟩;by_cases e:j=i
   .subst e;rw[hn]at hj;cases hj;simp[qP,decide_false,Bool.false_and,Bool.not_false,Bool.and_true]at b2;cases jnx j c[j]<;>simp_all
   .have e2:decide (j<i+1)=decide (j<i):=by grind
    rw[e2];cases jnx i c[i]
    .exact b2
    grind [o7]
  .have:i=c.length:=l7;subst this;rw[he];refine .inr ⟨K,rfl,hK,λj n hj=>?_⟩<;>grind
theorem b3W(hc:Cd c)(hl:c.length<=128){K:List Bool}(hK:K.length=c.length):vI c K=some (rmC K c):=by
 unfold vI;have l1:A8 .i64 (o9 c) 1=((c.length+1:Nat):Int):=by unfold o9;rw[U5 O6];omega
 rw[l1,BI l7 l7,o8];simp only[D9];have htl:∀i,i<=c.length->(rmv (K.take i) (c.take i)).length=pos K i:=λi hi=>by rw[KU U3];rfl
 have hpl:∀i,pos K i<=200:=λi=>by unfold pos;have:=List.countP_le_length (p:=id) (l:=K.take i);rw[bH]at this;omega
 have key:=cu (f:=λ(x:d4D×List Nd×Int)=>
    l9 (F7 x.2.2 (o9 c))
     (o5 (H9 c x.2.2) λ(x_1:D7)=>
      o5 (H9 x.1 x.2.2) λ(x_2:Int)=>
       o5 (P7 x.1 (O9 x.2.2)) λ(x_3:Int)=>
        o5 (H9 K x.2.2) λ(x_4:Bool)=>
         l9 x_4
          (o5 (fE x.2.1 [x_1]) λ(x_5:List D7)=>
           some (Sum.inl (V8 x.1 (O9 x.2.2) (o9 x.2.1),x_5,A8 IntKind.i64 x.2.2 1)))
          (some (Sum.inl (V8 x.1 (O9 x.2.2) (o9 x.2.1),x.2.1,A8 IntKind.i64 x.2.2 1))))
     (some (Sum.inr (x.1,x.2.1)))) (s:=(List.replicate (c.length+1) 0,[],0))
  (λs=>∃i:Nat,s.2.2=(i:Int)/\i<=c.length/\s.1.length=c.length+1/\s.2.1=rmv (K.take i) (c.take i)/\∀j,j<i->s.1[j]? =some (pos K j:Int))
  (λe=>e.1.length=c.length+1/\e.2=rmv K c/\∀j,j<c.length->e.1[j]? =some (pos K j:Int)) (λs=>c.length -s.2.2.toNat) ⟨0,rfl,l7,x9,rfl,λj h=>by omega⟩ U3 (by
  rintro⟨ps,ac,_⟩ ⟨i,rfl,hi,hp,hac,hj⟩;simp only at hp hac hj ⊢;subst hac;by_cases hlt:i<c.length
  .have hn:c[i]? =some c[i]:=dE hlt;have hk:K[i]? =some K[i]:=dE l7;have hpi:ps[i]? =some ps[i]:=dE l7;rw[U0 (by unfold o9;omega),o7];simp only[G8,hn,hk,hpi,o8,P7,O9,D9,V8];have e0:o9 (rmv (K.take i) (c.take i))=(pos K i:Int):=by unfold o9;rw[htl i hi]
   have e1:rmv (K.take (i+1)) (c.take (i+1))=rmv (K.take i) (c.take i)++l9 K[i] [c[i]] []:=by
    rw[P9 (show i<K.length by omega),P9 hlt]
    grind [a7A]
   have hj2:∀j,j<i+1->(ps.set i (pos K i:Int))[j]? =some (pos K j:Int):=λj h=>by
    grind
   have:=hpl i;rw[e0,U5 (by grind [iq])];cases hb:K[i]<;>rw[hb]at e1
   .exact .inl ⟨_,rfl,⟨i+1,rfl,l7,by grind,by simp_all,hj2⟩,by grind⟩
   .rw[o7,kU _ (by grind),o8];exact .inl ⟨_,rfl,⟨i+1,rfl,l7,by grind,by simp_all,hj2⟩,by grind⟩
  .have:i=c.length:=l7;subst this;rw[L6 (by simp[o9]),o6]
   grind)
 obtain⟨⟨ps,ac⟩,e,hp,rfl,hj⟩:=key;simp only at hp hj;rw[e,o8];have hpi:ps[c.length]? =some ps[c.length]:=dE l7;have hrl:o9 (rmv K c)=(pos K c.length:Int):=by grind [o9]
 simp only[o9,G8,hpi,o8,P7,O9,D9,V8,dL];have hps:∀t,t<=c.length->(ps.set c.length ((rmv K c).length:Int))[t]? =some (pos K t:Int):=λt ht=>by
  grind
 have hrc:∀n∈rmv K c,∃i,c[i]? =some n:=λn hn=>by obtain⟨i,hi⟩:=dJ hn;obtain⟨p,_,_,h3⟩:=Oh hi;exact⟨p,h3⟩
 have hll:(rmv K c).length<=200:=by grind
 unfold rmC;refine U_ (rmv K c) (rmn K) l7 (λj a p ha hpl=>?_) (λp hpl=>?_)
 .have hlt:=(U8.1 ha).1;subst hpl;obtain⟨i,hi⟩:=hrc a (lM ha);simp only[U0 (show(p.length:Int)<((rmv K c).length:Int) by omega),o7,G8,Di,o8,P7,O9,D9,RH,V8,Sl,U5 (show iq ((p.length:Int)+1) by grind [iq])];cases hJ:isJ a.1
  .simp_all [rmn]
  .rcases hc.al i a hi with ho|⟨_,t,h2,h3,h4⟩<;>simp_all [Ip,G8,rmn]
 .simp[L6]
end
theorem a8V{l:List Bool}(s:Bool)(h:l.length<=1000000):qH l s=some (l.any λx=>ji s x):=by refine DW l (λx=>ji s x) h (λi a ha=>?_) (by rw[ak];rfl);rw[au ha,G8,ha,o8];cases ji s a<;>rfl
theorem b4o{c:List Nd}(hG:Gd c):∃y,pO c=some y/\Gd y/\Imp c y:=by
 unfold pO;have hl:=hG.len;rw[ZN l7,PH hG];simp[E8,o6,dL];refine cu (λx=>Gd x/\Imp c x) (λx=>Gd x/\Imp c x) (λx=>x.length) ⟨hG,Imp.rfl'⟩ l7 ?_;rintro x ⟨hx,hi⟩;have hxl:=hx.len;obtain⟨⟨D,hv⟩,hc⟩:=hx;obtain⟨_,e,y,hy,rfl⟩:=b4l hc hxl.2;rw[e,o8];obtain⟨K,e2,hK⟩:=c0A hxl.2 hy (f:=λ(x_3:List Bool×Int)=>
          l9 (F7 x_3.2 (o9 x))
           (o5 (H9 x x_3.2) λ(x_4:D7)=>
            o5 (P7 x (O9 x_3.2)) λ(x:D7)=>
             l9 (x8 x.1 51)
              (l9 (x8 x.2 (A8 IntKind.i64 x_3.2 1))
               (o5 (H9 x_3.1 x_3.2) λ(x:Bool)=>
                o5 (P7 x_3.1 (O9 x_3.2)) λ(x:Bool)=>
                 some (Sum.inl (V8 x_3.1 (O9 x_3.2) false,A8 IntKind.i64 x_3.2 1)))
               (some (Sum.inl (x_3.1,A8 IntKind.i64 x_3.2 1))))
              (some (Sum.inl (x_3.1,A8 IntKind.i64 x_3.2 1))))
           (some (Sum.inr x_3.1))) (λK i n b hn hb=>by
  have hlt:=(U8.1 hn).1;have i1:A8 .i64 (i:Int) 1=((i+1:Nat):Int):=by grind [U5,iq]
  simp only[U0 (show(i:Int)<o9 x by simp_all [o9]),o7,G8,hn,hb,o8,P7,O9,D9,V8,i1];unfold jnx;cases x8 n.1 51<;>cases x8 n.2 ((i+1:Nat):Int)<;>rfl) (λK=>by simp[L6,o9])
 rw[e2,o8,a8V _ (by rw[hK.len];omega),o8];cases hb:K.any λx=>ji false x
 .exact .inr ⟨x,rfl,⟨⟨D,hv⟩,hc⟩,hi⟩
 .rw[b3W hc hxl.2 hK.len];refine .inl ⟨_,rfl,⟨⟨d0K hv hc hy hK,d0I hc hy hK⟩,hi.trans λenv r hE hr=>d0J hc hy hK hr hy.z⟩,?_⟩;unfold rmC;rw[J4,KU hK.len,←hK.len]
  grind [b5y]
theorem a7a{c:List Nd}(hG:Gd c):∃y,zY c=some y/\Gd y/\Imp c y:=by unfold zY;obtain⟨x,e,hx,h1⟩:=a8Q hG;obtain⟨y,e2,hy,h2⟩:=b4A hx;obtain⟨z,e3,hz,h3⟩:=b4o hy;rw[e,o8,e2,o8,e3];exact⟨z,rfl,hz,(h1.trans h2).trans h3⟩
variable {e:List Nd}
section
variable {env:aA} {sg:L9}
theorem a8d{k N:Int}{a b ty:Int×Int}(hk:k=23\/k=24)(ha:VT a)(hb:VT b)(ht:IL (k,N) [a,b] sg=(ty,0)):N=0/\a=(1,0)/\b=(1,0):=by
 have hm:fA k=some false:=by rcases hk with rfl|rfl<;>rfl
 obtain⟨hN,ht2⟩:=a3i hm ht;refine⟨hN,?_⟩;clear ht;subst hN;rcases hk with rfl|rfl<;>rcases ha with rfl|rfl|rfl|rfl|rfl|⟨e,rfl⟩<;>rcases hb with rfl|rfl|rfl|rfl|rfl|⟨f,rfl⟩ <;>
  first
  |exact absurd (congrArg Prod.snd ht2) (by show(8:Int)≠0;decide)
  |exact⟨rfl,rfl⟩
theorem b9J{N:Int}{a b c ty:Int×Int}(ha:VT a)(ht:IL (26,N) [a,b,c] sg=(ty,0)):N=0/\a=(1,0):=by obtain⟨hN,ht2⟩:=a3i rfl ht;refine⟨hN,?_⟩;have hr:RR (26,0) [a,b,c] sg=l9 (x8 a.1 1) (l9 (G6 (fF (x8 b.1 c.1) (x8 b.2 c.2))) (some ((0,0),8)) (some (b,0))) (some ((0,0),8)):=rfl;rw[hr]at ht2;rcases ha with rfl|rfl|rfl|rfl|rfl|⟨e,rfl⟩<;>first|rfl|exact absurd (congrArg Prod.snd ht2) (by show(8:Int)≠0;decide)
theorem a9J{en:List gX}{v:V3}(h:PVV en (1,0) v):Bo v:=by
 obtain⟨h1,_,h3,_⟩:=h;rcases Uf h3 with⟨n,rfl,hn⟩|⟨n,rfl,_⟩|⟨n,rfl,_⟩|⟨n,rfl,_⟩|⟨n,rfl,_⟩|⟨e,n,rfl,_⟩
 .rcases hn with rfl|rfl
  .exact .inl rfl
  .exact .inr rfl
 all_goals (simp at h1)
theorem Zz(hE:EvOk env)(hS:TOk sg env)(hL:∀e∈sg.1,e.2.length<=1000000):∀(t:XT) (o:Nat) {ty:Int×Int},t.wf->(∀n∈t.post,iq n.2)->fJ sg t o= .inr ty->Bd env t
 | .l0 n,o,ty,hw,hI,ht=>trivial| .l1 n a,o,ty,hw,hI,ht=>by
  unfold fJ at ht;cases h1:fJ sg a o with
  |inl e=>rw[h1]at ht;cases ht|inr ta=>exact Zz hE hS hL a o hw.2 (λm hm=>hI m (by simp[XT.post,hm])) h1
 | .l2 n a b,o,ty,hw,hI,ht=>by
  unfold fJ at ht;have ia:∀m∈a.post,iq m.2:=λm hm=>hI m (by simp[XT.post,hm]);have ib:∀m∈b.post,iq m.2:=λm hm=>hI m (by simp[XT.post,hm]);cases h1:fJ sg a o with
  |inl e=>rw[h1]at ht;cases ht|inr ta=>
   rw[h1]at ht;simp only at ht;cases h2:fJ sg b (o+a.size)with
   |inl e=>rw[h2]at ht;cases ht|inr tb=>
    rw[h2]at ht;refine⟨Zz hE hS hL a o hw.2.1 ia h1,Zz hE hS hL b _ hw.2.2 ib h2,λhl=>?_⟩;have hk:n.1=23\/n.1=24:=by
     unfold lgB at hl;cases h:x8 n.1 23<;>rw[h]at hl
     .exact .inr (U4.1 hl)
     .exact .inl (U4.1 h)
    obtain⟨g1,rfl,rfl⟩:=a8d (k:=n.1) (N:=n.2) hk (Bj a o hw.2.1 ia h1) (Bj b _ hw.2.2 ib h2) (Ec ht);exact⟨g1,λh=>a9J (ED hE hS hL a o hw.2.1 ia h1 (Z7 rfl h)).1,λh=>a9J (ED hE hS hL b _ hw.2.2 ib h2 (Z7 rfl h)).1⟩
 | .l3 n a b c,o,ty,hw,hI,ht=>by
  unfold fJ at ht;have ia:∀m∈a.post,iq m.2:=λm hm=>hI m (by simp[XT.post,hm]);have ib:∀m∈b.post,iq m.2:=λm hm=>hI m (by simp[XT.post,hm]);have ic:∀m∈c.post,iq m.2:=λm hm=>hI m (by simp[XT.post,hm]);cases h1:fJ sg a o with
  |inl e=>rw[h1]at ht;cases ht|inr ta=>
   rw[h1]at ht;simp only at ht;cases h2:fJ sg b (o+a.size)with
   |inl e=>rw[h2]at ht;cases ht|inr tb=>
    rw[h2]at ht;simp only at ht;cases h3:fJ sg c (o+a.size+b.size)with
    |inl e=>rw[h3]at ht;cases ht|inr tc=>rw[h3]at ht;have hn:n=(26,n.2):=Z7 (a8o hw.1) rfl;rw[hn]at ht;obtain⟨g1,rfl⟩:=b9J (Bj a o hw.2.1 ia h1) (Ec ht);exact⟨Zz hE hS hL a o hw.2.1 ia h1,Zz hE hS hL b _ hw.2.2.1 ib h2,Zz hE hS hL c _ hw.2.2.2 ic h3,g1,λh=>a9J (ED hE hS hL a o hw.2.1 ia h1 (Z7 rfl h)).1⟩
theorem Sz{t:Int×Int}(ht:Fq e sg t=0):∃q,kX e= .inr q/\fJ sg q 0= .inr t:=by
 have hw:=SA ht;unfold sZ at hw;cases hs:kX e with
 |inl x=>rw[hs]at hw;exact absurd (congrArg (λq=>q.2.2) hw) (Eh hs)|inr q=>
  rw[hs]at hw;simp only at hw;cases hy:fJ sg q 0 with
  |inl x=>rw[hy]at hw;exact absurd (congrArg (λq=>q.2.2) hw) (BO q 0 hy)|inr ty=>rw[hy]at hw;have e1:ty=t:=congrArg Prod.fst hw;subst e1;exact⟨q,rfl,hy⟩
end
def b4L(e y:List Nd):Prop:=0<y.length/\∀(sg:L9) (t:Int×Int) (env:aA),Fq e sg t=0->EvOk env->TOk sg env->(∀e∈sg.1,e.2.length<=1000000)->
 ∃q:V3×Int×Int,QM y env=some q/\q.2.2=(iW e env).2/\((iW e env).2=0->q.1=(iW e env).1)
def Eo(sg:L9)(e y:List Nd):Prop:=(∃t,Fq e sg t=0)/\b4L e y
theorem Eo.ne{sg:L9}{e y:List Nd}(h:Eo sg e y):e.length≠0/\y.length≠0:=by obtain⟨⟨t,ht⟩,hy,_⟩:=h;obtain⟨q,hq,_⟩:=Sz ht;have h2:=(Zy hq).2.2.1;have:=q.size_pos;omega
variable {env:aA}
theorem Eo.run{sg:L9}{e y:List Nd}(h:Eo sg e y)(hE:EvOk env)(hS:TOk sg env)(hL:∀e∈sg.1,e.2.length<=1000000):
  ∃q:V3×Int×Int,QM y env=some q/\q.2.2=(iW e env).2/\((iW e env).2=0->q.1=(iW e env).1):=by
 obtain⟨⟨t,ht⟩,_,hy⟩:=h;exact hy sg t env ht hE hS hL
theorem a5X(hI:∀n∈e,iq n.2){t:XT}(hs:kX e= .inr t):∃y,iL e=some y/\b4L e y:=by
 obtain⟨h1,h48,hlen,hroot⟩:=Zy hs;have hpos:=t.size_pos;have hc:=Xy t;have hcl:=vK t 0;have hw:=Jg hs;have hv:=c8a hs hI;have hcd:Cd (cT t 0):=⟨λi n hn=>by
  have:=b8m (m:=(cT t 0).length) (L:=dT t 0++[1]) t 0 0 [] [] rfl hw (by have:=a0Y hs;omega) l7 rfl i n hn;rw[gQ]at this;rcases this with⟨g,w,k1,k2,k3,_⟩|⟨g,w,k1,k2,k3,_⟩|⟨g,_⟩
  .exact .inr ⟨GK.2 l7,w,k1,k2,k3⟩
  .exact .inr ⟨GK.2 l7,w,k1,k2,k3⟩
  .exact .inl g⟩
 have hG:Gd (cT t 0):=⟨⟨_,hv⟩,hcd⟩;obtain⟨y,e1,hy,himp⟩:=a7a hG;refine⟨y,?_,hy.len.1,λsg ty env hwant hE hS hL=>?_⟩
 .unfold iL FI Au;rw[I4 (show o9 e≠0 by unfold o9;omega),o6,IP];unfold Fa;rw[hs];simp only[o8,L8 (rfl:(0:Int)=0),E8,o6];rw[hroot,show Aj [] e ((rtI t 0:Nat):Int)=some (cT t 0)from a8C hs t 0 kK [] h1 hw (by unfold kK;omega) U3,o8,o8,e1];rfl
 .obtain⟨q,k1,k2⟩:=Sz hwant;rw[hs]at k1;cases k1;have hb:=Zz hE hS hL t 0 hw (λn hn=>hI n (by rw[(wS hs).1];exact hn)) k2;obtain⟨⟨D,hyv⟩,_⟩:=hy;obtain⟨x,g1,g2,g3⟩:=d3U hE hyv (himp env _ hE (b5w hw hb));refine⟨x,g1,?_,?_⟩<;>rw[show iW e env=evT env t by unfold iW;rw[hs]]
  .rw[g3];by_cases h0:(evT env t).2=0
   .rw[L8 h0,h0];rfl
   .rw[I4 h0];rfl
  .intro h0;rw[g2,L8 h0];rfl
def TyE(l:aZ)(s:F9)(env:aA):Prop:=∀ds,OI l s ds->TOk (yV l s) (uk env ds)
variable {vs:List V3}
theorem b0V{en:List gX}{F:List oZ}(g3:(Ib en F vs).2=0):∀i t v,H9 (F.map (·.2)) i=some t->H9 vs i=some v->PVW en t v:=by
 intro i t v ht hv;unfold Ib at g3;cases g4:F7 (o9 vs) (o9 F)<;>rw[g4]at g3
 case true=>exact absurd (show(5:Int)=0 from g3) E5
 cases g5:F7 (o9 F) (o9 vs)<;>rw[g5]at g3
 case true=>exact absurd (show(4:Int)=0 from g3) E5
 simp only[o6]at g3;have hvl:=(bQ hv).2.2.2;have htl:=(bQ ht).2.2.2;rw[H6]at htl;obtain⟨f,hf,rfl⟩:=X6.1 htl;have hn:=FV (n:=vs.length) (p:=a1Q en F vs) (λr hf=>by rw[hf]at g3;obtain⟨j,_,hj⟩:=je hf;exact a3x hj g3) i.toNat (U8.1 hvl).1
 unfold a1Q at hn;rw[hvl,hf]at hn;simp only at hn;cases d1:x8 v.1 f.2.1<;>rw[d1]at hn
 .cases hn
 cases d2:x8 v.2.1 f.2.2<;>rw[d2]at hn
 .cases hn
 cases d3:inB v.2.2 (bnd f.2 en)<;>rw[d3]at hn
 .cases hn
 exact⟨U4.1 d1,U4.1 d2,λ_=>d3⟩
variable {s:F9}{l:aZ}{k:Int}{c:kY}
theorem b3d(h:(Ci l k c false 0).1=0)(hs:H9 l.2.2 k=some s){j:Nat}(hj:c.2.2[j]? =some vs):(Ib l.1 (AP l s).1 vs).2=0:=by
 unfold Ci at h;cases h0:x8 (eX l).1 0<;>rw[h0]at h
 .exact absurd (show(1:Int)=0 from h) E5
 rw[hs]at h;simp only[o7,o6]at h;cases h1:x8 (Et l k c).2.2 0<;>rw[h1]at h
 .simp only[o6]at h;rw[L8 h]at h1;cases h1
 have h1:=U4.1 h1;unfold Et at h1;rw[hs]at h1;simp only at h1;cases g1:F7 c.1 0<;>rw[g1]at h1
 case true=>exact absurd (show(3:Int)=0 from h1) E5
 cases g2:F7 109572 c.1<;>rw[g2]at h1
 case true=>exact absurd (show(3:Int)=0 from h1) E5
 cases g3:x8 (Ib l.1 s.2.2.1 c.2.1).2 0<;>rw[g3]at h1
 .simp only[o6]at h1;rw[L8 h1]at g3;cases g3
 cases g4:F7 (AP l s).2 (o9 c.2.2)<;>rw[g4]at h1
 case true=>exact absurd (show(4:Int)=0 from h1) E5
 simp only[o7,o6]at h1;have hn:=FV (n:=c.2.2.length) (p:=a9f l.1 (AP l s).1 c.2.2) (λr hf=>by
  rw[hf]at h1;obtain⟨i,_,hi⟩:=je hf;unfold a9f at hi;split at hi
  .rename_i us _;cases h5:x8 (Ib l.1 (AP l s).1 us).2 0<;>rw[h5]at hi
   .cases hi;exact(zN.1 h5) h1
   .cases hi
  .cases hi) j (U8.1 hj).1
 unfold a9f at hn;rw[hj]at hn;simp only at hn;cases h5:x8 (Ib l.1 (AP l s).1 vs).2 0<;>rw[h5]at hn
 .cases hn
 .exact U4.1 h5
theorem a8c{b:List DB}(hA:(Ci l k c false 0).1=0)(h:(eX l).1=0)(hs:H9 l.2.2 k=some s):TyE l s (CP l s c b):=λ_ hD=>b9C hA h hs hD
theorem b2K(hA:(Ci l k c false 0).1=0)(h:(eX l).1=0)(hs:H9 l.2.2 k=some s)(hm:H9 l.2.2 s.2.1=some (aI l s)){j:Nat}(hj:c.2.2[j]? =some vs):TyE l (aI l s) (Yv l c vs):=by
 intro ds hD;obtain⟨g1,g2,g3⟩:=VQ l (aI l s);have hv:=b3d hA hs hj;unfold AP at hv;rw[hm]at hv;refine⟨λi t v ht hw=>?_,λi t v ht hw h0=>?_,λi t u ht hu=>?_,g2.symm,λt ht r hr=>?_⟩
 .rw[g3]at ht;rw[g1];exact b0V hv i t v ht hw
 .rw[a0S]at ht;rw[g1];exact hD i t v ht hw h0
 .have hu:H9 ([]:List (Int×Int)) i=some u:=hu;have:=(bQ hu).2.2.1;cases this
 .rw[g2]at ht;rw[g1];exact a3y h t ht r hr
section
variable {l:aZ} {k:Int} {s:F9} {env:aA} {ds:List V3} {m d:Int} {v:V3} {r:Int}
theorem b3j(hL:SmL l)(h:(eX l).1=0)(hs:H9 l.2.2 k=some s)(hE:EvOk env)(hTy:TyE l s env)(hD:OI l s ds)(hd:yC s (uk env ds) m d= .inl (v,r)){t:Int×Int}(ht:H9 (s.2.2.2.1.map (·.2)) d=some t):PVV l.1 t v:=by
 obtain⟨_,d2,q,q1,q2⟩:=a6a hd;obtain⟨q',e1,e2,e3⟩:=Nk d2;rw[q1]at e1;cases e1;obtain⟨_,f,f1,f2⟩:=Em h (bQ hs).2.2.2 e2;rw[e3]at f1;have ht2:f.2=t:=by
  unfold H9 at ht f1;split at ht
  .rename_i h0;rw[if_pos h0]at f1;rw[H6,f1]at ht;exact F8 ht
  .cases ht
 have g1:=(VQ l s).1;rw[←g1,←ht2];have hS:=hL.sc s (bQ hs).2.2.1;exact TQ (KA hE ds) (hTy ds hD) (λe he=>by rw[g1]at he;have:=OD h e he;omega) (hS.ro q e2).1.2.2.2 f2 q2
theorem a6c(hL:SmL l)(h:(eX l).1=0)(hs:H9 l.2.2 k=some s)(hE:EvOk env)(hTy:TyE l s env)(hD:OI l s ds)(hd:yC s (uk env ds) m d= .inl (v,r))(h0:0<=d):OI l s (ds.set d.toNat v):=by
 intro i t w ht hw hw0;by_cases hi:i=d
 .subst hi;by_cases hlt:i<o9 ds
  .rw[TW _ h0 hlt]at hw;cases hw;have p:=b3j hL h hs hE hTy hD hd ht;exact⟨p.1,p.2.1,p.2.2.2⟩
  .rw[xO (.inr (L6 (by simp only[o9,List.length_set]at hlt ⊢;omega)))]at hw;cases hw
 .rw[JC _ h0 hi]at hw;exact hD i t w ht hw hw0
end
theorem ZU(l:aZ)(s:F9)(n:Nat):OI l s (List.replicate n (0,0,0)):=by
 intro i t v ht hv h0;have:=(bQ hv).2.2.2;simp only[eQ]at this;split at this
 .cases this;exact absurd rfl h0
 .cases this
theorem a8y(a b:Int):Eu a b=some (F7 a b):=by simp[Eu,wX,L8]
theorem c4A{a:Nat}(h:a<=100000):wrap .i64 (dR .u64 (wrap .u64 (a:Int)) 1)=((a / 2:Nat):Int):=by
 unfold wrap dR;rw[a1n (by grind [U64])];have e:(2:Int)^(min (1:Int).toNat IntKind.u64.bits)=2:=by decide
 grind [lY,iq]
theorem c7Z{K:d4F}(hs:K.Pairwise (·< ·))(hl:K.length<=1000){k r:Nat}(hr:K[k]? =some r):kP (castL K) (r:Int)=some ((k:Int),true):=by
 obtain⟨hk,hkr⟩:=U8.1 hr;have hcl:o9 (castL K)=(K.length:Int):=by simp[o9,zB]
 have hp:=lQ.1 hs;refine cZ (o' :=some (k:Int)) ?_ ?_
 .rw[hcl];obtain⟨y,e,rfl⟩:=cu (f:=λ(x:Int×Int)=>
   l9 (F7 x.1 x.2)
    (o5 (H9 (castL K) (wrap IntKind.i64 (dR IntKind.u64 (wrap IntKind.u64 (A8 IntKind.i64 x.1 x.2)) 1)))
     λ(x_1:Int)=>
     o5 (Eu x_1 (r:Int)) λ(x_2:Bool)=>
      l9 x_2
       (some
        (Sum.inl
         (A8 IntKind.i64
           (wrap IntKind.i64 (dR IntKind.u64 (wrap IntKind.u64 (A8 IntKind.i64 x.1 x.2)) 1)) 1,
          x.2)))
       (some
        (Sum.inl (x.1,wrap IntKind.i64 (dR IntKind.u64 (wrap IntKind.u64 (A8 IntKind.i64 x.1 x.2)) 1)))))
    (some (Sum.inr x.1))) (λs=>∃lo hi:Nat,s=((lo:Int),(hi:Int))/\lo<=k/\k<=hi/\hi<=K.length) (λy=>y=(k:Int)) (λs=>s.2.toNat -s.1.toNat)
   ⟨0,K.length,rfl,l7,l7,l7⟩ l7 (by
   rintro _ ⟨lo,hi,rfl,h1,h2,h3⟩;by_cases hlt:lo<hi
   .have hm:(lo+hi) / 2<K.length:=l7;rw[U0 l7,U5 (by grind [iq]),show(lo:Int)+(hi:Int)=((lo+hi:Nat):Int) by omega,c4A l7,G8,QX (dE hm),o8,a8y,o8];have h4:(lo+hi) / 2<k->K[(lo+hi) / 2]<r:=λh=>by grind
    have h5:k<(lo+hi) / 2->r<K[(lo+hi) / 2]:=λh=>by grind
    by_cases hkm:(lo+hi) / 2<k
    .rw[U0 l7,U5 (by grind [iq])];exact .inl ⟨_,rfl,⟨(lo+hi) / 2+1,hi,rfl,l7,h2,h3⟩,l7⟩
    .have:r<=K[(lo+hi) / 2]:=by
      rcases Nat.lt_or_ge k ((lo+hi) / 2)with h|h
      .omega
      .have e:(lo+hi) / 2=k:=l7;simp_all
     rw[L6 l7];exact .inl ⟨_,rfl,⟨lo,(lo+hi) / 2,rfl,h1,l7,l7⟩,l7⟩
   grind [L6,o6])
  omega
 simp_all [U0,G8,QX,L8]
def Jy(s:F9)(T:Int)(n:Nat):d4F:=(List.range n).flatMap λ(d:Nat)=>dB s (d:Int) T
theorem TS(s:F9)(T:Int)(n:Nat):Jy s T (n+1)=Jy s T n++dB s (n:Int) T:=by simp[Jy,gq]
variable {T:Int}{i:Nat}{d:Int}
theorem NP :i∈dB s d T↔∃r,s.2.2.2.2[i]? =some r/\r.2.1=d/\Iy r.2.2.2.2.1 T=true:=by
 grind [dB,onL,onR,x8,l9]
variable {n:Nat}
theorem a2K :i∈Jy s T n↔∃r,s.2.2.2.2[i]? =some r/\Iy r.2.2.2.2.1 T=true/\∃d:Nat,r.2.1=(d:Int)/\d<n:=by
 unfold Jy;rw[List.mem_flatMap];constructor
 .rintro⟨d,h1,h2⟩;obtain⟨r,g1,g2,g3⟩:=NP.1 h2<;>grind
 .rintro⟨r,g1,g2,d,g3,g4⟩;exact⟨d,Y7.2 g4,NP.2 ⟨r,g1,g3,g2⟩⟩
theorem XD(s:F9)(T:Int):∀n,(Jy s T n).Nodup
 |0=>by simp[Jy]|n+1=>by rw[TS,H8];refine⟨XD s T n,(WU _ _).imp (λh=>by omega),λa ha b hb e=>?_⟩;obtain⟨r,g1,_,d,g3,g4⟩:=a2K.1 ha;obtain⟨q,k1,k2,_⟩:=NP.1 hb<;>grind
theorem WR :i∈oQ s T↔∃r,s.2.2.2.2[i]? =some r/\Iy r.2.2.2.2.1 T=true:=by
 grind [oQ,onL,onA]
theorem b4w(hd:∀r∈s.2.2.2.2,∃d:Nat,r.2.1=(d:Int)/\d<n)(hl:s.2.2.2.2.length<=1000):Cf (castL (Jy s T n))=some (castL (oQ s T)):=by
 have hkn:(oQ s T).Nodup:=(WU _ _).imp (λh=>by omega);have hp:=(kW (XD s T n) hkn).2 λi=>by rw[a2K,WR];exact⟨λ⟨r,h1,h2,_⟩=>⟨r,h1,h2⟩,λ⟨r,h1,h2⟩=>⟨r,h1,h2,hd r (lM h1)⟩⟩
 have hk:=UT s T;have hlen:(castL (Jy s T n)).length=(oQ s T).length:=by rw[zB,hp.length_eq]
 unfold Cf;rw[show Nat.blt (castL (Jy s T n)).length 4611686018427387904=true by simp;omega];refine congrArg some (rP (λa b _ _ h1 h2=>Int.le_antisymm h1 h2) (EG _) ?_ ((FY _).trans (hp.map _)));unfold castL;rw[List.pairwise_map];exact(WU _ _).imp (λh=>by omega)
structure Mach (l:aZ) (s:F9) (T:Int) (M:iG):Prop where
 sc:M.1=s
 ord:M.2.1.1=(qE s).1
 ix:M.2.2=castL (oQ s T)
 code:∀(j i:Nat),(oQ s T)[j]? =some i->∃r g v,s.2.2.2.2[i]? =some r/\M.2.1.2.2.1[j]? =some g/\M.2.1.2.2.2[j]? =some v/\((r.2.2.2.2.2.1=[]/\g=[])\/Eo (yV l s) r.2.2.2.2.2.1 g)/\Eo (yV l s) r.2.2.2.2.2.2.1 v
theorem a3j(hL:SmL l)(h:(eX l).1=0)(hs:H9 l.2.2 k=some s){r:iT}(hr:r∈s.2.2.2.2):
  (∃g,iL r.2.2.2.2.2.1=some g/\((r.2.2.2.2.2.1=[]/\g=[])\/Eo (yV l s) r.2.2.2.2.2.1 g))/\(∃v,iL r.2.2.2.2.2.2.1=some v/\Eo (yV l s) r.2.2.2.2.2.2.1 v)/\∃d:Nat,r.2.1=(d:Int)/\d<s.2.2.2.1.length:=by
 have hS:=hL.sc s (bQ hs).2.2.1;have hI:=(hS.ro r hr).1.2.2;obtain⟨h1,d,h2,h3⟩:=Em h (bQ hs).2.2.2 hr;obtain⟨q,k1,_⟩:=Sz h3;obtain⟨g0,g1,_,_⟩:=bQ h2;refine⟨?_,(a5X hI.2 k1).imp λv hv=>⟨hv.1,⟨_,h3⟩,hv.2⟩,Int.toNat r.2.1,(Y4 g0).symm,by
  grind⟩
 rcases h1 with h1|h1
 .exact⟨[],by rw[h1];rfl,.inl ⟨h1,rfl⟩⟩
 .obtain⟨q,k1,_⟩:=Sz h1;obtain⟨g,e1,e2⟩:=a5X hI.1 k1;exact⟨g,e1,.inr ⟨⟨_,h1⟩,e2⟩⟩
theorem Tj(hL:SmL l)(hT:∀t∈l.2.1,BV t)(h:(eX l).1=0)(hs:H9 l.2.2 k=some s)(T:Int):∃M,tX l k T=some M/\Mach l s T M:=by
 obtain⟨s0,s1,sm,s2⟩:=bQ hs;have hS:=hL.sc s sm;have hnr:=hS.nr;have hnd:=hS.nd;have hkl:=UT s T;have hrl:(sOn T s).2.2.2.2.length=(oQ s T).length:=by simp[sOn]
 have hprog:∃P:PG,vC l k T=some P/\P.1=(qE s).1/\∀(j i:Nat),(oQ s T)[j]? =some i->∃r g v,s.2.2.2.2[i]? =some r/\P.2.2.1[j]? =some g/\P.2.2.2[j]? =some v/\((r.2.2.2.2.2.1=[]/\g=[])\/Eo (yV l s) r.2.2.2.2.2.1 g)/\Eo (yV l s) r.2.2.2.2.2.2.1 v:=by
  unfold vC;rw[hs,o8,a0l hS,o8,b5V hL hT (λe he=>by have:=OD h e he;omega),o8,
   show H9 (lOn T l).2.2 k=some (sOn T s) by unfold H9;rw[if_pos s0];show(l.2.2.map (sOn T))[k.toNat]? =_;rw[H6,s2];rfl,o8,dL]
  refine(cu (λ(x:PG×Int)=>∃i:Nat,x.2=(i:Int)/\i<=(oQ s T).length/\x.1.1=(qE s).1/\x.1.2.2.1.length=i/\x.1.2.2.2.length=i/\
    ∀(j i' :Nat),j<i->(oQ s T)[j]? =some i' ->∃r g v,s.2.2.2.2[i']? =some r/\x.1.2.2.1[j]? =some g/\x.1.2.2.2[j]? =some v/\((r.2.2.2.2.2.1=[]/\g=[])\/Eo (yV l s) r.2.2.2.2.2.1 g)/\Eo (yV l s) r.2.2.2.2.2.2.1 v)
   (λ(P:PG)=>P.1=(qE s).1/\∀(j i:Nat),(oQ s T)[j]? =some i->∃r g v,s.2.2.2.2[i]? =some r/\P.2.2.1[j]? =some g/\P.2.2.2[j]? =some v/\((r.2.2.2.2.2.1=[]/\g=[])\/Eo (yV l s) r.2.2.2.2.2.1 g)/\Eo (yV l s) r.2.2.2.2.2.2.1 v)
   (λx=>(oQ s T).length -x.2.toNat) ⟨0,rfl,l7,rfl,rfl,rfl,λj i' hj=>by omega⟩ U3 ?_)
  rintro⟨⟨O,R,G,V⟩,_⟩ ⟨i,rfl,hi,hO,hG,hV,hat⟩;simp only at hO hG hV hat ⊢;by_cases hlt:i<(oQ s T).length
  .have hki:(oQ s T)[i]? =some (oQ s T)[i]:=dE hlt;have hri:(sOn T s).2.2.2.2[i]? =some (rOn s T (oQ s T)[i]):=by show((oQ s T).map (rOn s T))[i]? =_;simp_all
   obtain⟨r,hr,_⟩:=WR.1 (lM hki);have e1:(rOn s T (oQ s T)[i]).2.2.2.2.2.1=r.2.2.2.2.2.1/\(rOn s T (oQ s T)[i]).2.2.2.2.2.2.1=r.2.2.2.2.2.2.1:=by simp_all [rOn]
   obtain⟨⟨g,g1,g2⟩,⟨v,v1,v2⟩,_⟩:=a3j hL h hs (lM hr);rw[U0 (by simp_all [o9]),o7,G8,hri,o8,e1.1,g1,o8,kU _ l7,o8,e1.2,v1,o8,kU _ l7,o8,U5 (by grind [iq])];refine .inl ⟨_,rfl,⟨i+1,rfl,l7,hO,by grind,by grind,λj i' hj hk=>?_⟩,l7⟩;by_cases e:j=i
   .grind
   grind
  .have:i=(oQ s T).length:=l7;subst this;rw[L6 (by simp_all [o9]),o6]
   grind
 obtain⟨P,e,hP1,hP2⟩:=hprog;unfold tX;rw[hs,o8,e,o8];have key:=cu (f:=λ(x_2:iG×Int)=>
     l9 (F7 x_2.2 (o9 s.2.2.2.1))
      (o5 (vX x_2.1.1 x_2.2 T) λ(x:d4D)=>
       o5 (fE x_2.1.2.2 x) λ(x:d4D)=>
        some (Sum.inl ((x_2.1.1,x_2.1.2.1,x),A8 IntKind.i64 x_2.2 1)))
      (some (Sum.inr x_2.1))) (s:=((s,P,[]),0))
  (λ(x:iG×Int)=>∃i:Nat,x=((s,P,castL (Jy s T i)),(i:Int))/\i<=s.2.2.2.1.length) (λ(M:iG)=>M=(s,P,castL (Jy s T s.2.2.2.1.length))) (λx=>s.2.2.2.1.length -x.2.toNat) ⟨0,rfl,l7⟩ l7 (by
  rintro _ ⟨i,rfl,hi⟩;simp only;by_cases hlt:i<s.2.2.2.1.length
  .have hfl:∀n,(Jy s T n).length<=n*96:=by
    intro n;induction n<;>grind [Jy,TS,GN,dB]
   have h1:=hfl i;have h2:=GN (onR s (i:Int) T) s.2.2.2.2.length;rw[U0 (by simp_all [o9]),o7,a9Z l7,o8,vG (by grind [zB,dB]),o8,U5 (by grind [iq])];exact .inl ⟨_,rfl,⟨i+1,by simp[TS,castL],l7⟩,l7⟩
  grind [L6,o9,o6])
 obtain⟨M,e2,rfl⟩:=key;rw[e2,o8,b4w (λr hr=>(a3j hL h hs hr).2.2) l7,o8];exact⟨_,rfl,rfl,hP1,rfl,hP2⟩
variable {M:iG}
theorem Yb(hM:Mach l s T M)(hl:s.2.2.2.2.length<=1000)(hi:i∈oQ s T):∃j:Nat,(oQ s T)[j]? =some i/\gY M (i:Int)=some (j:Int):=by obtain⟨j,hj⟩:=dJ hi;have:=UT s T;refine⟨j,hj,?_⟩;unfold gY;rw[hM.ix,show kP (castL (oQ s T)) (i:Int)=_ from c7Z (WU _ _) (by grind [oQ]) hj];rfl
theorem a0T(h:(eX l).1=0)(s:F9):∀e∈(yV l s).1,e.2.length<=1000000:=λe he=>by rw[(VQ l s).1]at he;have:=OD h e he;omega
def d3Y(s:F9)(T:Int)(m d:Int)(c:Int×E4)(q:Int×E4):Prop:=
 (c.2.1≠0/\q.2=c.2)\/(c.2.1=0/\c.1=-1/\q.2=(10,m,d,-1))\/(c.2.1=0/\c.1=-2/\q.2=(11,m,d,-1))\/(c.2.1=0/\c.1≠-1/\c.1≠-2/\∃j i:Nat,c.1=(i:Int)/\(oQ s T)[j]? =some i/\q=((j:Int),0,0,0,0))
theorem a3s{d T i:Int}(h:i∈(Y2 s d T).1):∃k:Nat,i=(k:Int)/\k∈oQ s T:=by have h:i∈castL (dB s d T):=h;obtain⟨k,hk,rfl⟩:=J6.1 h;obtain⟨r,h1,_,h3⟩:=NP.1 hk;exact⟨k,rfl,WR.2 ⟨r,h1,h3⟩⟩
theorem b0h(hL:SmL l)(h:(eX l).1=0)(hs:H9 l.2.2 k=some s)(hM:Mach l s env.1 M)(hE:EvOk env)(hS:TOk (yV l s) env)(m d:Int):
  ∃q,oL M env m d=some q/\d3Y s env.1 m d (dF s env m d) q:=by
 have hSm:=hL.sc s (bQ hs).2.2.1;have hnr:=hSm.nr;have hlen:=(Ia s d env.1).1;unfold oL;rw[hM.sc,Xt l7,o8];rw[show lI (o9 (Y2 s d env.1).1) false=some (a0m (Y2 s d env.1).1.length []) by rw[show o9 (Y2 s d env.1).1=((Y2 s d env.1).1.length:Int)from rfl,BI l7 l7];rfl,o8];have key:=(O_ (Y2 s d env.1).1 (GZ s env m d) (λb i=>(((0,0,0,0),a0m (Y2 s d env.1).1.length b,i):E4×List Bool×Int)) (λb=>(((0,0,0,0),b):E4×List Bool)) (λi b=>b.length=i) (b:=[])
  (f:=λ(x_2:V9×List Bool×Int)=>
     l9 (F7 x_2.2.2 (o9 (Y2 s d env.1).1))
      (o5 (H9 (Y2 s d env.1).1 x_2.2.2) λ(x_3:Int)=>
       o5 (P7 (Y2 s d env.1).1 (O9 x_2.2.2)) λ(x:Int)=>
        o5 (gY M x) λ(x_4:Int)=>
         o5 (H9 M.2.1.2.2.1 x_4) λ(x_5:List D7)=>
          l9 (x8 (o9 x_5) 0)
           (o5 (H9 x_2.2.1 x_2.2.2) λ(x:Bool)=>
            o5 (P7 x_2.2.1 (O9 x_2.2.2)) λ(x:Bool)=>
             some (Out.nx (x_2.1,V8 x_2.2.1 (O9 x_2.2.2) true,A8 IntKind.i64 x_2.2.2 1)))
           (o5 (QM x_5 env) λ(x_6:F5×D7)=>
            l9 (G6 (x8 x_6.2.2 0)) (some (Out.rt ((0,x_6.2.2,m,d,x):Int×V9)))
             (o5 (H9 x_2.2.1 x_2.2.2) λ(x:Bool)=>
              o5 (P7 x_2.2.1 (O9 x_2.2.2)) λ(x:Bool)=>
               some
                (Out.nx
                 (x_2.1,V8 x_2.2.1 (O9 x_2.2.2) (x8 x_6.1.2.2 1),A8 IntKind.i64 x_2.2.2 1)))))
      (some (Out.ex (x_2.1,x_2.2.1)))) l7 rfl (λi a b hi hi' hb=>by
  obtain⟨r,hr,hm⟩:=VY (lM hi);obtain⟨a',rfl,hk⟩:=a3s (lM hi);obtain⟨j,hj,hpos⟩:=Yb hM l7 hk;obtain⟨r',g,v,k1,k2,k3,k4,k5⟩:=hM.code j a' hj;rw[G8,k1]at hr;cases hr;have hlt:=(U8.1 hi).1;subst hb;simp only[au hi,o7,G8,hi,o8,P7,O9,D9,hpos,k2,a7c hlt,V8,a7d _ hlt];unfold GZ;rw[G8,k1];simp only;rcases k4 with⟨e1,e2⟩|hc
  .rw[e1,e2];simp only[show x8 (o9 ([]:List Nd)) 0=true from rfl,o7];rw[ja l7];exact⟨rfl,λ_ h=>by cases h;simp⟩
  .obtain⟨n1,n2⟩:=hc.ne;obtain⟨q,q1,q2,q3⟩:=hc.run hE hS (a0T h s);rw[I4 (show o9 g≠0 by unfold o9;omega),I4 (show o9 r.2.2.2.2.2.1≠0 by unfold o9;omega)];simp only[o6,q1,o8,q2];cases h0:x8 (iW r.2.2.2.2.2.1 env).2 0
   .exact⟨rfl,λ_ h=>by cases h⟩
   .simp only[E8,o6,o7,q3 (U4.1 h0)];rw[ja l7];exact⟨rfl,λ_ h=>by cases h;simp⟩) (λb hb=>by rw[ak,a2V hb];rfl)).1
 unfold dF;cases hf:eG (GZ s env m d) (Y2 s d env.1).1 []with
 |inr e=>rw[hf]at key;exact⟨e,cZ key rfl,.inl ⟨xM (GZ s env m d) (λr=>r.2.1≠0) (λb i r h=>UM b i r h) _ _ _ hf,rfl⟩⟩|inl ap=>
  rw[hf]at key;simp only;have hlo:=VO (Y2 s d env.1).2.1 (Y2 s d env.1).2.2 ap;have hbd:=Sj (Y2 s d env.1).2.1 (Y2 s d env.1).2.2 ap;rw[(Ia s d env.1).2]at hbd;generalize hse:Bg (Y2 s d env.1).2.1 (Y2 s d env.1).2.2 ap=at_ at hlo hbd;have e1:∀q,(l9 (x8 at_ (-1)) (some (0,10,m,d,-1)) (l9 (x8 at_ (-2)) (some (0,11,m,d,-1)) (o5 (H9 (Y2 s d env.1).1 at_) λ(x_3:Int)=>o5 (P7 (Y2 s d env.1).1 (O9 at_)) λ(x:Int)=>o5 (gY M x) λ(x:Int)=>some (x,0,0,0,0))):Option (Int×E4))=some q->
    ∃q',(o5 (bD _ _) λ(o:V9×List Bool⊕Int×V9)=>bn o (λ(y:V9×List Bool)=>o5 (qo (Y2 s d env.1).2.1 (Y2 s d env.1).2.2 y.2) λ(x_2:Int)=>
      l9 (x8 x_2 (-1)) (some (0,10,m,d,-1)) (l9 (x8 x_2 (-2)) (some (0,11,m,d,-1)) (o5 (H9 (Y2 s d env.1).1 x_2) λ(x_3:Int)=>o5 (P7 (Y2 s d env.1).1 (O9 x_2)) λ(x:Int)=>o5 (gY M x) λ(x:Int)=>some (x,0,0,0,0))))
     λ(r:Int×V9)=>some r)=some q' /\q' =q:=λq hq=>⟨q,cZ key (by simp only[o8,V4];rw[Xl,o8,hse];exact hq),rfl⟩
  by_cases h1:at_=-1
  .obtain⟨q',g1,rfl⟩:=e1 _ (by rw[L8 h1];rfl);exact⟨_,g1,.inr (.inl ⟨by rw[U0 l7];rfl,by rw[U0 l7];exact h1,rfl⟩)⟩
  by_cases h2:at_=-2
  .obtain⟨q',g1,rfl⟩:=e1 _ (by rw[I4 h1,L8 h2];rfl);exact⟨_,g1,.inr (.inr (.inl ⟨by rw[U0 l7];rfl,by rw[U0 l7];exact h2,rfl⟩))⟩
  obtain⟨u,rfl⟩:∃u:Nat,at_=(u:Int):=⟨at_.toNat,l7⟩;have hg:(Y2 s d env.1).1[u]? =some (Y2 s d env.1).1[u]:=dE l7;generalize (Y2 s d env.1).1[u]'l7=ru at hg;obtain⟨i,rfl,hk⟩:=a3s (lM hg);obtain⟨j,hj,hpos⟩:=Yb hM l7 hk;obtain⟨q',g1,rfl⟩:=e1 ((j:Int),0,0,0,0) (by rw[I4 h1,I4 h2,G8,hg];simp only[o6,o8,P7,O9,D9,hg,hpos]);refine⟨_,g1,.inr (.inr (.inr ?_))⟩;rw[L6 l7,o6,D9,BG,hg];exact⟨rfl,by simp only[Z9];omega,by simp only[Z9];omega,j,i,rfl,hj,rfl⟩
theorem a3t(h:i<n):(H9 (gZ n) (i:Int)).getD false=true:=by rw[G8];unfold gZ;rw[eQ,if_pos h];rfl
theorem b1W(hL:SmL l)(h:(eX l).1=0)(hs:H9 l.2.2 k=some s)(hM:Mach l s env.1 M)(hE:EvOk env)(hTy:TyE l s env)(m:Int):
  kZ M env m=some (match scS s env m (gZ s.2.2.2.1.length)with| .inl b=>(b.2,(0,0,0,0),uk env b.1)| .inr r=>([],r.1,uk env r.2)):=by
 have hSm:=hL.sc s (bQ hs).2.2.1;obtain⟨o1,o2⟩:=KL s;unfold kZ;rw[hM.sc,CV s hSm,o8,CV s hSm,o8,hM.ord];have hfold:=FW (scG s env m (gZ s.2.2.2.1.length)) (λb d=>Pn (scP env) (scG s env m (gZ s.2.2.2.1.length) b d)) (scP env) (λ_ _=>rfl) (qE s).1 (List.replicate s.2.2.2.1.length (0,0,0),List.replicate s.2.2.2.1.length 0);unfold scS;apply pM (qE s).1 (λb d=>Pn (scP env) (scG s env m (gZ s.2.2.2.1.length) b d)) (λb i=>((uk env b.1,(0,0,0,0),b.2,i):aA×E4×d4D×Int)) (λb=>((uk env b.1,(0,0,0,0),b.2):aA×E4×d4D)) (λi b=>b.1.length=s.2.2.2.1.length/\b.2.length=s.2.2.2.1.length/\OI l s b.1) (List.replicate s.2.2.2.1.length (0,0,0),List.replicate s.2.2.2.1.length 0) l7 ⟨x9,x9,ZU l s _⟩
 .intro i d b hi hi' hb;have hr:=o1 d (lM hi);have hnd:nD s=(s.2.2.2.1.length:Int):=rfl;obtain⟨kd,rfl⟩:∃k:Nat,d=(k:Int):=⟨d.toNat,l7⟩;have hk:kd<s.2.2.2.1.length:=l7;have e2:=dE (show kd<b.1.length by omega);have e3:=dE (show kd<b.2.length by omega);have hEb:=KA hE b.1;have hSb:=hTy b.1 hb.2.2;obtain⟨q,q1,q2⟩:=b0h hL h hs (env:=uk env b.1) hM hEb hSb m (kd:Int);have hdef:∀x,scG s env m (gZ s.2.2.2.1.length) b (kd:Int)=x↔(match yC s (uk env b.1) m (kd:Int)with| .inl v=>(.inl (b.1.set (kd:Int).toNat v.1,b.2.set (kd:Int).toNat v.2):DB⊕(E4×List V3))| .inr e=> .inr (e,b.1))=x:=λx=>by unfold scG;rw[a3t hk,o7];exact Iff.rfl
  have hG:=(hdef _).2 rfl;simp only[au hi,o7,G8,hi,o8,q1];rw[hG];rcases q2 with⟨c1,c2⟩|⟨c1,c2,c3⟩|⟨c1,c2,c3⟩|⟨c1,c2,c3,j,iu,c4,c5,rfl⟩
  .rw[c2,I4 c1,show yC s (uk env b.1) m (kd:Int)= .inr (dF s (uk env b.1) m (kd:Int)).2 by unfold yC;rw[I4 c1];rfl];exact⟨rfl,λ_ h=>by cases h⟩
  .rw[c3,show yC s (uk env b.1) m (kd:Int)= .inr (10,m,(kd:Int),-1) by unfold yC;rw[L8 c1,L8 c2];rfl];exact⟨rfl,λ_ h=>by cases h⟩
  .rw[c3,show yC s (uk env b.1) m (kd:Int)= .inr (11,m,(kd:Int),-1) by unfold yC;rw[L8 c1,c2];rfl];exact⟨rfl,λ_ h=>by cases h⟩
  .obtain⟨r,g,v,k1,k2,k3,k4,k5⟩:=hM.code j iu c5;obtain⟨x,x1,x2,x3⟩:=k5.run hEb hSb (a0T h s);have hds:yC s (uk env b.1) m (kd:Int)=l9 (x8 (iW r.2.2.2.2.2.2.1 (uk env b.1)).2 0) (.inl ((iW r.2.2.2.2.2.2.1 (uk env b.1)).1,(iu:Int))) (.inr ((iW r.2.2.2.2.2.2.1 (uk env b.1)).2,m,(kd:Int),(iu:Int))):=by
    unfold yC;rw[L8 c1,I4 c2,I4 c3,c4,G8,k1];rfl
   have hix:M.2.2[j]? =some (iu:Int):=by rw[hM.ix];exact QX c5
   simp only[L8 (rfl:(0:Int)=0),E8,o6,G8,k3,x1,o8,x2,hix];cases h3:x8 (iW r.2.2.2.2.2.2.1 (uk env b.1)).2 0
   .rw[hds,h3];exact⟨rfl,λ_ h=>by cases h⟩
   .have hv:=x3 (U4.1 h3);rw[h3,o7]at hds;rw[hds];simp only[E8,o6];refine⟨?_,λ_ h' =>by cases h';exact⟨by simp[hb.1],by simp[hb.2.1],a6c hL h hs hE hTy hb.2.2 hds l7⟩⟩;rw[ja l7,hv];have e2' :(uk env b.1).2.2.1[kd]? =some (b.1[kd]'l7):=e2;simp only[e2',e3,o8,P7,O9,D9];rfl
 .intro b hb;rw[ak];rfl
 .intro _;rw[hfold];cases eG (scG s env m (gZ s.2.2.2.1.length)) (qE s).1 (List.replicate s.2.2.2.1.length (0,0,0),List.replicate s.2.2.2.1.length 0)<;>rfl
theorem b2a(h:(Ci l k c false 0).1=0)(hs:H9 l.2.2 k=some s)(hn:S9 0 s.2.1=false):c.2.2=[]:=by
 unfold Ci at h;cases h0:x8 (eX l).1 0<;>rw[h0]at h
 .exact absurd (show(1:Int)=0 from h) E5
 rw[hs]at h;simp only[o7,o6]at h;cases h1:x8 (Et l k c).2.2 0<;>rw[h1]at h
 .simp only[o6]at h;rw[L8 h]at h1;cases h1
 have h1:=U4.1 h1;unfold Et at h1;rw[hs]at h1;simp only at h1;cases g1:F7 c.1 0<;>rw[g1]at h1
 case true=>exact absurd (show(3:Int)=0 from h1) E5
 cases g2:F7 109572 c.1<;>rw[g2]at h1
 case true=>exact absurd (show(3:Int)=0 from h1) E5
 cases g3:x8 (Ib l.1 s.2.2.1 c.2.1).2 0<;>rw[g3]at h1
 .simp only[o6]at h1;rw[L8 h1]at g3;cases g3
 cases g4:F7 (AP l s).2 (o9 c.2.2)<;>rw[g4]at h1
 case true=>exact absurd (show(4:Int)=0 from h1) E5
 have:=jW.1 g4;unfold AP at this;rw[xO (.inl hn)]at this;exact P5.1 (by simp only[o9]at this;omega)
theorem Zw(h:(Ci l k c false 0).1=0):(eX l).1=0/\(Et l k c).2.2=0:=by
 unfold Ci at h;cases h0:x8 (eX l).1 0<;>rw[h0]at h
 .exact absurd (show(1:Int)=0 from h) E5
 refine⟨U4.1 h0,?_⟩;cases hs:H9 l.2.2 k with
 |none=>rw[hs]at h;exact absurd (show(6:Int)=0 from h) E5|some s=>
  rw[hs]at h;simp only[o7,o6]at h;cases h1:x8 (Et l k c).2.2 0<;>rw[h1]at h
  .simp only[o6]at h;rw[L8 h]at h1;cases h1
  .exact U4.1 h1
abbrev YT:Type:=Int×List V3×PUnit×List (List V3)×List (Int×Int)×List dM
theorem a8z(hL:SmL l)(hC:SmC c)(hT:∀t∈l.2.1,BV t):Bv l k c=some (if(Ci l k c false 0).1=0 then(match H9 l.2.2 k with|some s=>a1J l s c|none=>(([],[],[]),0,0,0,0))else(([],[],[]),Ci l k c false 0)):=by
 by_cases hA:(Ci l k c false 0).1=0
 case neg=>
  rw[if_neg hA];unfold Bv Ci at*;rw[En hL,o8,UD l k hC];cases h0:x8 (eX l).1 0
  .rfl
  simp only[E8,o6,o7];rcases J_ l.2.2 k with⟨h1,h2⟩|⟨h1,h2,h3⟩|⟨h1,h2,s,h3,_⟩
  .rw[h1,h2];rfl
  .rw[h1,h2,h3];rfl
  .rw[h0,h3]at hA;rw[h1,h2,h3];simp only[o6,o7,o8,V4]at hA ⊢;cases h4:x8 (Et l k c).2.2 0
   .rfl
   .rw[h4]at hA;exact absurd rfl hA
 rw[if_pos hA];obtain⟨hv,hcs⟩:=Zw hA;obtain⟨_,s,hs⟩:=LZ hA;obtain⟨s0,s1,sm,s2⟩:=bQ hs;have hS:=hL.sc s sm;have hM:=Ql hL hv hs;have hnm:=hC.nm;rw[hs];unfold Bv;rw[En hL,o8,UD l k hC,L8 hv];simp only[E8,o6];rw[L6 s0,aC s1];simp only[o6,o8,V4,hcs,L8 (rfl:(0:Int)=0),E8,hs];refine cZ (o' :=some (match mS l c (aI l s) (gZ (aI l s).2.2.2.1.length)with
  | .inr e=>(.inr (([],[],[]),e):bT×V9×bT×YT⊕bT×V9)
  | .inl b=> .inl ((([],[],[]),(0,0,0,0),([],[],b),(c.1,c.2.1,PUnit.unit,b.map (·.1),(aI l s).2.2.2.1.map (·.2),l.2.1))))) ?_ ?_
 .rcases Lh hv hs with⟨g1,_,g3⟩|⟨g1,_,_,g4,g5⟩
  .rw[g1,g3,show mS l c yL (gZ yL.2.2.2.1.length)= .inl [] by unfold mS;rw[b2a hA hs g1];rfl];rfl
  .rw[g1,o7];obtain⟨M,e1,hMa⟩:=Tj hL hT hv g4 c.1;have hnd:=hM.nd;rw[e1,o8,hMa.sc];refine cZ (o' :=some (c.1,c.2.1,PUnit.unit,PUnit.unit,(aI l s).2.2.2.1.map (·.2),l.2.1)) ?_ ?_
   .refine Np (λL i=>(((c.1,c.2.1,PUnit.unit,PUnit.unit,L,l.2.1),i):(Int×List V3×PUnit×PUnit×List (Int×Int)×List dM)×Int)) (λL=>((c.1,c.2.1,PUnit.unit,PUnit.unit,L,l.2.1):Int×List V3×PUnit×PUnit×List (Int×Int)×List dM)) (aI l s).2.2.2.1 (·.2) l7 (λi a L hi hLl=>?_) (λL=>?_)
    .have:=(U8.1 hi).1;simp only[au hi,o7,G8,hi,o8];rw[kU _ l7,o8,ja l7]
    .rw[ak];rfl
   rw[o8];have hfold:=FW (mG l c (aI l s) (gZ (aI l s).2.2.2.1.length)) (λb a=>Pn (λe=>((([],[],[]),e):bT×E4)) (mG l c (aI l s) (gZ (aI l s).2.2.2.1.length) b a)) (λe=>((([],[],[]),e):bT×E4)) (λ_ _=>rfl) c.2.2.zipIdx [];have hzl:c.2.2.zipIdx.length=c.2.2.length:=x9;unfold mS;apply pM c.2.2.zipIdx (λb a=>Pn (λe=>((([],[],[]),e):bT×E4)) (mG l c (aI l s) (gZ (aI l s).2.2.2.1.length) b a))
    (λb i=>((([],[],[]),(0,0,0,0),([],[],b),(c.1,c.2.1,PUnit.unit,b.map (·.1),(aI l s).2.2.2.1.map (·.2),l.2.1),i):bT×V9×bT×YT×Int))
    (λb=>((([],[],[]),(0,0,0,0),([],[],b),(c.1,c.2.1,PUnit.unit,b.map (·.1),(aI l s).2.2.2.1.map (·.2),l.2.1)):bT×V9×bT×YT))
    (λi b=>b.length=i) [] l7 rfl
   .intro i a b hi hi' hb;obtain⟨z1,z2⟩:=a5r hi;have hil:=(U8.1 z1).1;unfold mG;simp only[au z1,o7,G8,z1,o8];rw[show kZ M (c.1,a.1,[],[],[],l.2.1) (i:Int)=_ from b1W hL hv g4 (env:=Yv l c a.1) hMa (a4k hT c a.1) (b2K hA hv hs g4 z1) (i:Int),o8,z2];cases hq:scS (aI l s) (Yv l c a.1) (i:Int) (gZ (aI l s).2.2.2.1.length)with
    |inr e=>simp only[I4 (La hq)];exact⟨rfl,λ_ h=>by cases h⟩|inl x=>simp only[L8 (rfl:(0:Int)=0),E8,o6];rw[kU _ U3,o8,kU _ l7,o8,ja l7];refine⟨?_,λ_ h=>by cases h;simp[hb]⟩;simp only[Pn,aY,aS,List.map_nil];rfl
   .intro b hb;rw[show(c.2.2.zipIdx.length:Int)=(c.2.2.length:Int) by rw[hzl]];simp only[ak];rfl
   .intro _;rw[hfold];cases eG (mG l c (aI l s) (gZ (aI l s).2.2.2.1.length)) c.2.2.zipIdx []<;>rfl
 .rw[o8];unfold a1J;cases hq:mS l c (aI l s) (gZ (aI l s).2.2.2.1.length)with
  |inr e=>rfl|inl b=>
   have hbl:=T_ hq;obtain⟨M,e1,hMa⟩:=Tj hL hT hv hs c.1;simp only[V4];rw[e1,o8,show kZ M (c.1,c.2.1,[],b.map (·.1),(aI l s).2.2.2.1.map (·.2),l.2.1) (-1)=_ from b1W hL hv hs (env:=CP l s c b) hMa (Qv hT s c l7) (a8c hA hv hs) (-1),o8];cases hr:scS s (CP l s c b) (-1) (gZ s.2.2.2.1.length)with
   |inr e=>simp only[I4 (La hr)];rfl|inl x=>rfl
structure TbOk (s:F9) (d T:Int) (X:N8) (bs:d4D):Prop where
 cn:CnOk s (castL (dB s d T)) (castL (dB s d T)).length X.2.1 X.2.2.1 bs
 lc:X.2.1.length<=8
 out:∀v:Nat,v<2^X.2.1.length->xH X (v:Int)=some (coS (castL (dB s d T)) (Y2 s d T).2.1 (Y2 s d T).2.2 bs v,true)
variable {X:N8}
theorem a9u(hl:X.2.2.2.length<=1000000){n v:Nat}(hn:n<=8)(hv:v<2^n){a0:d4D}{o:Int}(ho:a0[v]? =some o)(hr:∀r∈X.2.2.2,a8i n a0 r)(hx:∃r∈X.2.2.2,∃q:Pt,r.1=ptI q/\v&&& q.1=q.2):
  xH X (v:Int)=some (o,true):=by
 have hp:2^n<=256:=fD (n:=2) E5 hn;unfold xH;have hmt:∀q:Pt,PD n q->nV (ptI q) (v:Int)=some (decide (v&&& q.1=q.2)):=λq hq=>by
  have hM:nV (ptI q) (v:Int)=some (x8 ((v&&& q.1:Nat):Int) (q.2:Int)):=by show some (x8 (dI IntKind.i64 (v:Int) (q.1:Int)) (q.2:Int))=_;rw[c3K l7 (uZ hn hq).1]
  rw[hM];exact congrArg some (by unfold x8;exact decide_eq_decide.2 ⟨λh=>Int.ofNat.inj h,λh=>congrArg _ h⟩)
 obtain⟨r0,hr0,q0,hq0,hm0⟩:=hx;obtain⟨p0,hp0⟩:=dJ hr0;have key:=Qg (f:=λ(x:Int)=>
   l9 (F7 x (o9 X.2.2.2))
    (o5 (H9 X.2.2.2 x) λ(x_1:bK)=>
     o5 (nV x_1.1 (v:Int)) λ(x_2:Bool)=>
      l9 x_2 (some (Out.rt ((x_1.2,true):Int×Bool))) (some (Out.nx (A8 IntKind.i64 x 1))))
    (some (Out.ex PUnit.unit))) (s:=0) (λx=>∃i:Nat,x=(i:Int)/\i<=p0) (λ_=>False) (λr=>r=(o,true)) (λx=>X.2.2.2.length -x.toNat) ⟨0,rfl,l7⟩ U3 (by
  rintro _ ⟨i,rfl,hi⟩;have hlt:=(U8.1 hp0).1;have hg:X.2.2.2[i]? =some X.2.2.2[i]:=dE l7;obtain⟨q,e1,e2,e3⟩:=hr _ (P8 (show i<X.2.2.2.length by omega));rw[U0 (by unfold o9;omega),o7,G8,hg,o8,e1,hmt q e2,o8];by_cases hm:v&&& q.1=q.2
  .rw[decide_eq_true hm,o7];have:=e3 v hv hm;rw[ho]at this;exact .inr (.inr ⟨_,rfl,by rw[F8 this]⟩)
  .rw[decide_eq_false hm,o6,U5 O6];refine .inl ⟨_,rfl,⟨i+1,rfl,?_⟩,by simp;omega⟩;rcases Nat.lt_or_ge i p0 with h|h
   .exact h
   .have:i=p0:=l7;subst this;rw[hg]at hp0;rw[F8 hp0]at e1;have:q=q0:=by
     have:=e1.symm.trans hq0;unfold ptI at this;exact Z7 (Int.ofNat.inj (congrArg Prod.fst this)) (Int.ofNat.inj (congrArg Prod.snd this))
    subst this;exact absurd hm0 hm)
 obtain⟨_,e,⟨_,_,h⟩|⟨r,rfl,rfl⟩⟩:=key
 .exact h.elim
 .exact cZ e rfl
theorem b3b(hL:SmL l)(hv:(eX l).1=0)(hs:H9 l.2.2 k=some s){d:Nat}(hd:d<s.2.2.2.1.length){t:Int}(ht0:0<=t)(ht1:t<=109572):
  ∃X bs,Ey l k (d:Int) t=some (X,0)/\TbOk s (d:Int) t X bs:=by
 obtain⟨s0,s1,sm,s2⟩:=bQ hs;have hS:=hL.sc s sm;have hnr:=hS.nr;rw[b5q,En hL,o8,d3V hv];simp only[L8 (rfl:(0:Int)=0),fF,E8,o6,o7];rw[L6 s0,aC s1,hs];simp only[o6,o8,V4];rw[L6 (show(0:Int)<=(d:Int) by omega),aC (show(d:Int)<o9 s.2.2.2.1 by unfold o9;omega)];simp only[o6,o8,V4];rw[L6 ht0,L6 ht1];simp only[o6,o8,V4];have h8:=c5e hv s2 (d:Int) t;have hc8:(castL (dB s (d:Int) t)).length=(dB s (d:Int) t).length:=by unfold castL;simp
 have hex:∀r∈castL (dB s (d:Int) t),∃q,H9 s.2.2.2.2 r=some q/\q.2.2.2.2.2.1.length<=1000000:=λr hr=>by unfold castL at hr;obtain⟨i,hi,rfl⟩:=J6.1 hr;have hlt:=(RZ hi).1;refine⟨s.2.2.2.2[i],by rw[G8];exact dE hlt,?_⟩;have:=(hS.ro _ (P8 hlt)).2.1;omega
 rw[Xt l7,o8];show ∃X bs,o5 (lI (o9 (castL (dB s (d:Int) t))) 0) _=_/\_;rw[show lI (o9 (castL (dB s (d:Int) t))) (0:Int)=some (List.replicate (castL (dB s (d:Int) t)).length 0)from by unfold lI o9;rw[if_pos l7,D9],o8];obtain⟨cs,fr,bs,e3,hcn⟩:=c4f (s:=s) (ru:=castL (dB s (d:Int) t)) l7 hex (d:Int);rw[show X8 (bdA s (Y2 s (d:Int) t).1) (((d:Int),[],[],[]),List.replicate (castL (dB s (d:Int) t)).length 0,0)=_ from e3,o8];have hcl:cs.length<=8:=by have:=hcn.lc;omega
 have hb8:∀b∈bs,b<8:=λb hb=>by
  obtain⟨j,hj,e⟩:=Y5 hb;have hj2:j<(castL (dB s (d:Int) t)).length:=by rw[←hcn.lb];exact hj
  obtain⟨q,hq,_⟩:=hex _ (P8 hj2);obtain⟨b',b1,b2,b3⟩:=hcn.bt j _ q hj2 (dE hj2) hq;rw[dE hj,e]at b1;cases b1;by_cases hg:q.2.2.2.2.2.1=[]
  .have:=b2 hg;omega
  .obtain⟨c,rfl,hc⟩:=b3 hg;have:=(U8.1 hc).1;omega
 have e4:=c0e (a0:=castL (dB s (d:Int) t)) (a1:=(Y2 s (d:Int) t).2.1) (a2:=(Y2 s (d:Int) t).2.2) (a3:=bs) hcl hcn.lb l7 hb8;rw[show jb (Y2 s (d:Int) t).1 (Y2 s (d:Int) t).2.1 (Y2 s (d:Int) t).2.2 (((d:Int),cs,fr,[]),bs).2 (o9 (((d:Int),cs,fr,[]),bs).1.2.1)=_ from e4,o8];obtain⟨rs,e5,r1,r2,r3⟩:=c1m (a0:=(List.range (2^cs.length)).map (coS (castL (dB s (d:Int) t)) (Y2 s (d:Int) t).2.1 (Y2 s (d:Int) t).2.2 bs)) (a1:=castL (dB s (d:Int) t)) hcl x9 l7;rw[show uN ((List.range (2^cs.length)).map (coS (castL (dB s (d:Int) t)) (Y2 s (d:Int) t).2.1 (Y2 s (d:Int) t).2.2 bs)) (Y2 s (d:Int) t).1 (o9 (((d:Int),cs,fr,[]),bs).1.2.1)=_ from e5,o8];refine⟨((d:Int),cs,fr,rs),bs,rfl,hcn,hcl,λv hv2=>?_⟩;have hv2:v<2^cs.length:=hv2;have ho:((List.range (2^cs.length)).map (coS (castL (dB s (d:Int) t)) (Y2 s (d:Int) t).2.1 (Y2 s (d:Int) t).2.2 bs))[v]? =some (coS (castL (dB s (d:Int) t)) (Y2 s (d:Int) t).2.1 (Y2 s (d:Int) t).2.2 bs v):=by rw[H6,List.getElem?_range hv2];rfl
 have hmem:coS (castL (dB s (d:Int) t)) (Y2 s (d:Int) t).2.1 (Y2 s (d:Int) t).2.2 bs v∈[-2,-1]++castL (dB s (d:Int) t):=by
  unfold coS;have h1:=VO (Y2 s (d:Int) t).2.1 (Y2 s (d:Int) t).2.2 (apS bs v);have h2:=Sj (Y2 s (d:Int) t).2.1 (Y2 s (d:Int) t).2.2 (apS bs v);rw[(Ia s (d:Int) t).2]at h2;have h2:Bg (Y2 s (d:Int) t).2.1 (Y2 s (d:Int) t).2.2 (apS bs v)<((castL (dB s (d:Int) t)).length:Int):=h2;generalize Bg (Y2 s (d:Int) t).2.1 (Y2 s (d:Int) t).2.2 (apS bs v)=z at h1 h2;by_cases h0:0<=z
  .rw[ae h0,o7,U0 (by unfold o9;omega),o7];obtain⟨x,hx,hxm⟩:=qA (l:=castL (dB s (d:Int) t)) h0 (by unfold o9;omega);rw[hx];simp[hxm]
  .rw[aC l7,o6];have:z=-1\/z=-2:=l7;rcases this with rfl|rfl<;>simp
 obtain⟨r,g1,_,q,g2,g3⟩:=r3 v _ ho hmem;exact a9u (X:=((d:Int),cs,fr,rs)) (by show rs.length<=_;omega) hcl hv2 ho (λr hr=>(r2 r hr).1) ⟨r,g1,q,g2,g3⟩
theorem orN{a b:Nat}(ha:a<256)(hb:b<256):ior .i64 (a:Int) (b:Int)=((a ||| b:Nat):Int):=by unfold ior;rw[show IntKind.i64.bits=64 from rfl,BitVec.toNat_or,bvN ha,bvN hb,b2L];exact Nat.or_lt_two_pow (n:=8) ha hb
theorem b8o:∀i:Fin 8,zt .i64 1 (i.val:Int)=some ((2^i.val:Nat):Int):=by decide+kernel
theorem a1u(hl:X.2.1.length<=8)(hE:EvOk env)(hc:∀g∈X.2.1,(∀n∈g,iq n.2)/\((iW g env).2=0->(iW g env).1.1=1)):
  (∃(j:Nat) (g:List Nd),X.2.1[j]? =some g/\(iW g env).2≠0/\(∀(j' :Nat) g',j' <j->X.2.1[j']? =some g' ->(iW g' env).2=0)/\sD X env=some (0,(j:Int),(iW g env).2))\/
  ((∀(j:Nat) g,X.2.1[j]? =some g->(iW g env).2=0)/\∃v:Nat,v<2^X.2.1.length/\(∀(j:Nat) g,X.2.1[j]? =some g->v.testBit j=x8 (iW g env).1.2.2 1)/\sD X env=some ((v:Int),-1,0)):=by
 unfold sD;rw[L6 (show o9 X.2.1<=8 by grind [o9]),o6];have key:=Qg (f:=λ(x:D7)=>
    l9 (F7 x.2 (o9 X.2.1))
     (o5 (H9 X.2.1 x.2) λ(x_1:List D7)=>
      o5 (DU x_1 env) λ(x_2:F5×Int)=>
       l9 (G6 (x8 x_2.2 0)) (some (Out.rt ((0,x.2,x_2.2):F5)))
        (l9 (G6 (x8 x_2.1.1 1)) (some (Out.rt (0,x.2,8)))
         (l9 (x8 x_2.1.2.2 1)
          (o5 (zt IntKind.i64 1 x.2) λ(x_3:Int)=>
           some (Out.nx (ior IntKind.i64 x.1 x_3,A8 IntKind.i64 x.2 1)))
          (some (Out.nx (x.1,A8 IntKind.i64 x.2 1))))))
     (some (Out.ex x.1)))
  (λx=>∃i v:Nat,x=((v:Int),(i:Int))/\i<=X.2.1.length/\v<2^i/\∀(j:Nat) g,j<i->X.2.1[j]? =some g->(iW g env).2=0/\v.testBit j=x8 (iW g env).1.2.2 1)
  (λe=>(∀(j:Nat) g,X.2.1[j]? =some g->(iW g env).2=0)/\∃v:Nat,e=(v:Int)/\v<2^X.2.1.length/\(∀(j:Nat) g,X.2.1[j]? =some g->v.testBit j=x8 (iW g env).1.2.2 1))
  (λr=>∃(j:Nat) (g:List Nd),X.2.1[j]? =some g/\(iW g env).2≠0/\(∀(j' :Nat) g',j' <j->X.2.1[j']? =some g' ->(iW g' env).2=0)/\r=(0,(j:Int),(iW g env).2)) (λx=>X.2.1.length -x.2.toNat)
  ⟨0,0,rfl,l7,E5,λj g h=>by omega⟩ l7 (by
  rintro _ ⟨i,v,rfl,hi,hv,hat⟩;simp only;by_cases hlt:i<X.2.1.length
  .have hg:X.2.1[i]? =some X.2.1[i]:=dE hlt;obtain⟨c1,c2⟩:=hc _ (P8 hlt);generalize X.2.1[i]=g at hg c1 c2;rw[U0 (by simp_all [o9]),o7,G8,hg,o8,YH hE c1,o8];cases h0:x8 (iW g env).2 0
   .exact .inr (.inr ⟨_,rfl,i,g,hg,zN.1 h0,λj' g' hj hg' =>(hat j' g' hj hg').1,rfl⟩)
   have h0:=U4.1 h0;simp only[E8,o6,L8 (c2 h0)];have i1:A8 .i64 (i:Int) 1=((i+1:Nat):Int):=by grind [U5,iq]
   rw[i1];have hp:2^i<256:=b2n l7 l7;have hp2:2^(i+1)=2^i*2:=Nat.pow_succ 2 i;have hvi:v.testBit i=false:=uy hv;cases h1:x8 (iW g env).1.2.2 1
   .refine .inl ⟨_,rfl,⟨i+1,v,rfl,l7,l7,λj g' hj hg' =>?_⟩,by simp;omega⟩<;>grind
   .rw[o7,show zt IntKind.i64 1 (i:Int)=some ((2^i:Nat):Int)from b8o ⟨i,l7⟩,o8,orN l7 hp];refine .inl ⟨_,rfl,⟨i+1,v ||| 2^i,rfl,l7,Nat.or_lt_two_pow l7 l7,λj g' hj hg' =>?_⟩,l7⟩<;>grind
  .have:i=X.2.1.length:=l7;subst this;rw[L6 (by simp[o9])];exact .inr (.inl ⟨_,rfl,λj g hg=>(hat j g (U8.1 hg).1 hg).1,v,rfl,hv,λj g hg=>(hat j g (U8.1 hg).1 hg).2⟩))
 obtain⟨_,e,⟨_,rfl,h1,v,rfl,h2⟩|⟨_,rfl,j,g,h1,h2,h3,rfl⟩⟩:=key
 .exact .inr ⟨h1,v,h2.1,h2.2,cZ e rfl⟩
 .exact .inl ⟨j,g,h1,h2,h3,cZ e rfl⟩
def gB(s:F9)(env:aA)(i:Int):Bool:=match H9 s.2.2.2.2 i with
 |some r=>l9 (x8 (o9 r.2.2.2.2.2.1) 0) true (x8 (iW r.2.2.2.2.2.1 env).1.2.2 1)|none=>true
theorem YL{α:Type}{l:List α} :x8 (o9 l) 0=true↔l=[]:=by simp[U4,o9]
theorem u_{s:F9}{env:aA}{m d:Int} :∀(ru:d4D) (b:List Bool),(∀i∈ru,∃r,H9 s.2.2.2.2 i=some r/\(r.2.2.2.2.2.1=[]\/(iW r.2.2.2.2.2.1 env).2=0))->eG (GZ s env m d) ru b= .inl (b++ru.map (gB s env))
 |[],b,_=>by simp[eG]|i::ru,b,h=>by
  obtain⟨r,h1,h2⟩:=h i x9;have hg:GZ s env m d b i= .inl (b++[gB s env i]):=by unfold GZ gB;rw[h1];simp only;cases h3:x8 (o9 r.2.2.2.2.2.1) 0<;>simp_all [x8,o9]
  unfold eG;rw[hg];simp only;rw[u_ ru _ λi hi=>h i (by grind)];simp
theorem c0u{m d:Int}{pre suf:d4D}{i:Int}{r:iT}(b:List Bool)(hp:∀i∈pre,∃r,H9 s.2.2.2.2 i=some r/\(r.2.2.2.2.2.1=[]\/(iW r.2.2.2.2.2.1 env).2=0))(h1:H9 s.2.2.2.2 i=some r)(h2:r.2.2.2.2.2.1≠[])(h3:(iW r.2.2.2.2.2.1 env).2≠0):
  eG (GZ s env m d) (pre++i::suf) b= .inr (0,(iW r.2.2.2.2.2.1 env).2,m,d,i):=by
 rw[WL,u_ pre b hp];simp_all [eG,GZ,o9,I4]
theorem b4y(hL:SmL l)(h:(eX l).1=0)(hs:H9 l.2.2 k=some s)(hE:EvOk env)(hS:TOk (yV l s) env){d:Nat}{bs:d4D}(hX:TbOk s (d:Int) env.1 X bs)
  {p:qf} (p1:p.1=s) (p2:p.2.2.1[d]? =some X) (p3:p.2.2.2[d]? =some 0) (m:Int):
  ∃q,uG p (d:Int) env=some q/\(match yC s env m (d:Int)with| .inl v=>q=(v.1,v.2,0)| .inr e=>q.2.2≠0/\e=(q.2.2,m,(d:Int),q.2.1)):=by
 obtain⟨hcn,hlc,hout⟩:=hX;have hSm:=hL.sc s (bQ hs).2.2.1;have hru:∀i∈castL (dB s (d:Int) env.1),∃r,H9 s.2.2.2.2 i=some r/\r∈s.2.2.2.2:=λi hi=>VY (s:=s) (d:=(d:Int)) (t:=env.1) hi;have hgd:∀r∈s.2.2.2.2,r.2.2.2.2.2.1≠[]->(∀n∈r.2.2.2.2.2.1,iq n.2)/\((iW r.2.2.2.2.2.1 env).2=0->(iW r.2.2.2.2.2.1 env).1.1=1):=λr hr hne=>by
  have hI:=(hSm.ro r hr).1.2.2.1;refine⟨hI,λh0=>?_⟩;rcases(Em h (bQ hs).2.2.2 hr).1 with h1|h1
  .exact absurd h1 hne
  .exact(TQ hE hS (a0T h s) hI h1 (Z7 rfl h0)).1
 have hcond:∀(j:Nat) g,X.2.1[j]? =some g->∃r,X.2.2.1[j]? =some r/\∃q,H9 s.2.2.2.2 r=some q/\q∈s.2.2.2.2/\q.2.2.2.2.2.1=g/\g≠[]:=λj g hg=>by have hj:=(U8.1 hg).1;have hlf:=hcn.lf;have hf:X.2.2.1[j]? =some (X.2.2.1[j]'l7):=dE l7;obtain⟨g1,q,g2,g3,g4⟩:=hcn.cf j g _ hg hf;obtain⟨q',e1,e2⟩:=hru _ g1;rw[g2]at e1;cases e1;exact⟨_,hf,q,g2,e2,g3,g4⟩
 unfold uG;rw[G8,p3,o8,L8 rfl,G8,p2];simp only[E8,o6,o8];have hsel:dF s env m (d:Int)=match eG (GZ s env m (d:Int)) (castL (dB s (d:Int) env.1)) []with
  | .inr e=>e| .inl ap=>l9 (F7 (Bg (Y2 s (d:Int) env.1).2.1 (Y2 s (d:Int) env.1).2.2 ap) 0) (Bg (Y2 s (d:Int) env.1).2.1 (Y2 s (d:Int) env.1).2.2 ap,0,0,0,0) (((castL (dB s (d:Int) env.1)).getD (Bg (Y2 s (d:Int) env.1).2.1 (Y2 s (d:Int) env.1).2.2 ap).toNat 0),0,0,0,0):=rfl
 rcases a1u hlc hE (λg hg=>by obtain⟨j,hj⟩:=dJ hg;obtain⟨r,_,q,_,q2,rfl,q4⟩:=hcond j g hj;exact hgd q q2 q4)with⟨j,g,h1,h2,h3,h4⟩|⟨h1,v,h2,h3,h4⟩
 ·
  obtain⟨r,r1,q,q1,q2,rfl,q4⟩:=hcond j g h1;obtain⟨pp,_,o2,o3⟩:=hcn.od j r r1;have hj:=(U8.1 h1).1;have hlt:=(U8.1 o2).1;have hspl:castL (dB s (d:Int) env.1)=(castL (dB s (d:Int) env.1)).take pp++r::(castL (dB s (d:Int) env.1)).drop (pp+1):=by rw[←(U8.1 o2).2,←aG hlt,gu]
  have hfold:=c0u (s:=s) (env:=env) (m:=m) (d:=(d:Int)) (pre:=(castL (dB s (d:Int) env.1)).take pp) (suf:=(castL (dB s (d:Int) env.1)).drop (pp+1)) [] (λi hi=>by
   obtain⟨p',hp'⟩:=dJ hi;have hp2:=(U8.1 hp').1;rw[bH]at hp2;rw[aj l7]at hp';obtain⟨q',e1,_⟩:=hru i (lM hp');refine⟨q',e1,?_⟩;rcases o3 p' i q' l7 hp' e1 with h|⟨j',a,b⟩
   .exact .inl h
   .exact .inr (h3 j' _ a b)) q1 q4 h2
  rw[←hspl]at hfold;rw[hfold]at hsel;rw[h4,o8,I4 h2];have hrof:BN X (j:Int)=some r:=by unfold BN;have hlf:=hcn.lf;rw[L6 l7,aC (by unfold o9;omega),G8,r1];rfl
  rw[hrof];refine⟨_,rfl,?_⟩;have:yC s env m (d:Int)= .inr ((iW q.2.2.2.2.2.1 env).2,m,(d:Int),r):=by unfold yC;rw[hsel,I4 h2];rfl
  rw[this];exact⟨h2,rfl⟩
 ·
  have hap:apS bs v=(castL (dB s (d:Int) env.1)).map (gB s env):=by
   refine aB λi=>?_;unfold apS;rw[H6,H6];have hlb:=hcn.lb;by_cases hi:i<(castL (dB s (d:Int) env.1)).length
   .have hri:=dE hi;obtain⟨q,e1,_⟩:=hru _ (P8 hi);obtain⟨b,b1,b2,b3⟩:=hcn.bt i _ q hi hri e1;rw[b1,hri];simp only[iC];unfold gB;rw[e1];simp only;by_cases he:q.2.2.2.2.2.1=[]
    .rw[b2 he,YL.2 he];rfl
    .obtain⟨c,rfl,hc⟩:=b3 he<;>simp_all [L6,x8,o9]
   simp_all
  have hfold:=u_ (s:=s) (env:=env) (m:=m) (d:=(d:Int)) (castL (dB s (d:Int) env.1)) [] (λi hi=>by obtain⟨q,e1,_⟩:=hru i hi;refine⟨q,e1,?_⟩;obtain⟨p',hp'⟩:=dJ hi;obtain⟨b,b1,b2,b3⟩:=hcn.bt p' i q (U8.1 hp').1 hp' e1<;>grind)
  rw[P6,←hap]at hfold;rw[hfold]at hsel;simp only at hsel;rw[h4,o8,L8 rfl];simp only[E8,o6];rw[hout v h2,o8];simp only[E8,o6];unfold coS;have hlo:=VO (Y2 s (d:Int) env.1).2.1 (Y2 s (d:Int) env.1).2.2 (apS bs v);have hbd:=Sj (Y2 s (d:Int) env.1).2.1 (Y2 s (d:Int) env.1).2.2 (apS bs v);rw[(Ia s (d:Int) env.1).2]at hbd;have hbd:Bg (Y2 s (d:Int) env.1).2.1 (Y2 s (d:Int) env.1).2.2 (apS bs v)<((castL (dB s (d:Int) env.1)).length:Int):=hbd;generalize Bg (Y2 s (d:Int) env.1).2.1 (Y2 s (d:Int) env.1).2.2 (apS bs v)=z at hlo hbd hsel;by_cases h0:0<=z
  .obtain⟨u,rfl⟩:∃u:Nat,z=(u:Int):=⟨z.toNat,l7⟩;have hg:=dE (show u<(castL (dB s (d:Int) env.1)).length by omega);obtain⟨r,e1,e2⟩:=hru _ (P8 (show u<(castL (dB s (d:Int) env.1)).length by omega));generalize (castL (dB s (d:Int) env.1))[u]'l7=ri at hg e1;have hri:=(bQ e1).1;rw[L6 l7,o6,D9,BG,hg]at hsel;rw[ae h0,U0 (by simp_all [o9]),G8,hg];simp only[o7,Z9]at hsel ⊢;rw[I4 (show ri≠-1 by omega),I4 (show ri≠-2 by omega),p1];simp only[o6];rw[e1,o8,YH hE (hSm.ro r e2).1.2.2.2,o8];have hd:yC s env m (d:Int)=l9 (x8 (iW r.2.2.2.2.2.2.1 env).2 0) (.inl ((iW r.2.2.2.2.2.2.1 env).1,ri)) (.inr ((iW r.2.2.2.2.2.2.1 env).2,m,(d:Int),ri)):=by
    unfold yC;rw[hsel,L8 rfl,I4 (show ri≠-1 by omega),I4 (show ri≠-2 by omega),e1];rfl
   rw[hd];cases h5:x8 (iW r.2.2.2.2.2.2.1 env).2 0
   .exact⟨_,rfl,zN.1 h5,rfl⟩
   .simp
  .rw[U0 l7,o7]at hsel;rw[aC l7,o6];have:z=-1\/z=-2:=l7;rcases this with rfl|rfl
   .refine⟨_,rfl,?_⟩;rw[show yC s env m (d:Int)= .inr (10,m,(d:Int),-1) by unfold yC;rw[hsel];rfl];simp
   .refine⟨_,rfl,?_⟩;rw[show yC s env m (d:Int)= .inr (11,m,(d:Int),-1) by unfold yC;rw[hsel];rfl];simp
structure PlOk (s:F9) (T:Int) (P:qf):Prop where
 sc:P.1=s
 ord:P.2.1=(qE s).1
 tb:∀d:Nat,d<s.2.2.2.1.length->∃X bs,P.2.2.1[d]? =some X/\P.2.2.2[d]? =some 0/\TbOk s (d:Int) T X bs
theorem a2Y(hL:SmL l)(hv:(eX l).1=0)(hs:H9 l.2.2 k=some s){t:Int}(ht0:0<=t)(ht1:t<=109572):∃P,yf l k t=some P/\PlOk s t P:=by
 have hSm:=hL.sc s (bQ hs).2.2.1;have hnd:=hSm.nd;unfold yf;rw[hs,o8,CV s hSm,o8,CV s hSm,o8,a0l hSm,o8,dL];refine cu (λ(x:qf×Int)=>∃i:Nat,x.2=(i:Int)/\i<=s.2.2.2.1.length/\x.1.1=s/\x.1.2.1=(qE s).1/\x.1.2.2.1.length=s.2.2.2.1.length/\x.1.2.2.2.length=s.2.2.2.1.length/\
   ∀d:Nat,d<i->∃X bs,x.1.2.2.1[d]? =some X/\x.1.2.2.2[d]? =some 0/\TbOk s (d:Int) t X bs)
  (PlOk s t) (λx=>s.2.2.2.1.length -x.2.toNat) ⟨0,rfl,l7,rfl,rfl,x9,x9,λj hj=>by omega⟩ l7 ?_
 rintro⟨⟨S,O,X,C⟩,_⟩ ⟨i,rfl,hi,hS,hO,hX,hC,hat⟩;simp only at hS hO hX hC hat ⊢;by_cases hlt:i<s.2.2.2.1.length
 .obtain⟨Y,bs,e1,e2⟩:=b3b hL hv hs hlt ht0 ht1;have g1:=dE (show i<X.length by omega);have g2:=dE (show i<C.length by omega);rw[U0 (by simp_all [o9]),o7,e1,o8,G8,g1,o8,show P7 X (O9 (i:Int))=some X[i]from g1,o8,G8,g2,o8,show P7 C (O9 (i:Int))=some C[i]from g2,o8,U5 (by grind [iq])];refine .inl ⟨_,rfl,⟨i+1,rfl,l7,hS,hO,by grind [V8],by grind [V8],λd hd=>?_⟩,l7⟩;show ∃Z bs,(X.set i Y)[d]? =some Z/\(C.set i 0)[d]? =some 0/\_;by_cases e:d=i
  .grind
  .obtain⟨Z,bs,z1,z2,z3⟩:=hat d l7<;>grind
 .have:i=s.2.2.2.1.length:=l7;subst this;rw[L6 (by simp[o9]),o6];exact .inr ⟨_,rfl,hS,hO,hat⟩
abbrev PR:Type:=List V3×d4D×E4
theorem b2i(hL:SmL l)(h:(eX l).1=0)(hs:H9 l.2.2 k=some s){P:qf}(hP:PlOk s env.1 P)(hE:EvOk env)(hTy:TyE l s env)(m:Int):
  oh P env m=some (match scS s env m (gZ s.2.2.2.1.length)with| .inl b=>(b.1,b.2,0,0,0,0)| .inr r=>([],[],r.1)):=by
 have hSm:=hL.sc s (bQ hs).2.2.1;obtain⟨o1,o2⟩:=KL s;unfold oh;rw[hP.sc,CV s hSm,CV s hSm,hP.ord];have hfold:=FW (scG s env m (gZ s.2.2.2.1.length)) (λb d=>Pn (λr=>(([],[],r.1):PR)) (scG s env m (gZ s.2.2.2.1.length) b d)) (λr=>(([],[],r.1):PR)) (λ_ _=>rfl) (qE s).1 (List.replicate s.2.2.2.1.length (0,0,0),List.replicate s.2.2.2.1.length 0);unfold scS;apply pM (qE s).1 (λb d=>Pn (λr=>(([],[],r.1):PR)) (scG s env m (gZ s.2.2.2.1.length) b d)) (λb i=>((uk env b.1,(0,0,0,0),b.2,i):aA×E4×d4D×Int)) (λb=>((uk env b.1,(0,0,0,0),b.2):aA×E4×d4D)) (λi b=>b.1.length=s.2.2.2.1.length/\b.2.length=s.2.2.2.1.length/\OI l s b.1) (List.replicate s.2.2.2.1.length (0,0,0),List.replicate s.2.2.2.1.length 0) l7 ⟨x9,x9,ZU l s _⟩
 .intro i d b hi hi' hb;have hr:=o1 d (lM hi);have hnd:nD s=(s.2.2.2.1.length:Int):=rfl;obtain⟨kd,rfl⟩:∃k:Nat,d=(k:Int):=⟨d.toNat,l7⟩;have e2:=dE (show kd<b.1.length by omega);have e3:=dE (show kd<b.2.length by omega);obtain⟨X,bs,t1,t2,t3⟩:=hP.tb kd l7;obtain⟨q,q1,q2⟩:=b4y hL h hs (KA hE b.1) (hTy b.1 hb.2.2) t3 hP.sc t1 t2 m;have hG:scG s env m (gZ s.2.2.2.1.length) b (kd:Int)=(match yC s (uk env b.1) m (kd:Int)with| .inl v=>(.inl (b.1.set (kd:Int).toNat v.1,b.2.set (kd:Int).toNat v.2):DB⊕(E4×List V3))| .inr e=> .inr (e,b.1)):=by grind [scG,a3t,o7]
  simp only[au hi,o7,G8,hi,o8,q1];rw[hG];cases hd:yC s (uk env b.1) m (kd:Int)with
  |inr e=>rw[hd]at q2;rw[q2.2,I4 q2.1];exact⟨rfl,λ_ h=>by cases h⟩|inl v=>rw[hd]at q2;rw[q2];refine⟨?_,λ_ h' =>by cases h';exact⟨by grind,by grind,a6c hL h hs hE hTy hb.2.2 hd l7⟩⟩;rw[ja l7];have e2' :(uk env b.1).2.2.1[kd]? =some (b.1[kd]'l7):=e2;simp only[L8 (rfl:(0:Int)=0),E8,o6,e2',e3,o8,P7,O9,D9];rfl
 .simp[ak]
 .intro _;rw[hfold];cases eG (scG s env m (gZ s.2.2.2.1.length)) (qE s).1 (List.replicate s.2.2.2.1.length (0,0,0),List.replicate s.2.2.2.1.length 0)<;>rfl
theorem vzB(l:aZ):fF (x8 (eX l).1 0) (fF (x8 (eX l).2.1 0) (fF (x8 (eX l).2.2.1 0) (x8 (eX l).2.2.2 0)))=x8 (eX l).1 0:=by
 cases h:x8 (eX l).1 0
 .rfl
 .rw[d3V (U4.1 h)];rfl
theorem b3e(hs:H9 l.2.2 k=some s)(h:(Et l k c).2.2=0):0<=c.1/\c.1<=109572:=by
 unfold Et at h;rw[hs]at h;simp only at h;cases g1:F7 c.1 0<;>rw[g1]at h
 case true=>exact absurd (show(3:Int)=0 from h) E5
 cases g2:F7 109572 c.1<;>rw[g2]at h
 case true=>exact absurd (show(3:Int)=0 from h) E5
 exact⟨jW.1 g1,jW.1 g2⟩
theorem a3r(hL:SmL l)(hC:SmC c)(hT:∀t∈l.2.1,BV t):xq l k c=some (if(Ci l k c false 0).1=0 then(match H9 l.2.2 k with|some s=>a1J l s c|none=>(([],[],[]),0,0,0,0))else(([],[],[]),Ci l k c false 0)):=by
 by_cases hA:(Ci l k c false 0).1=0
 case neg=>
  unfold xq Ci at*;rw[En hL,o8,vzB,UD l k hC];cases h0:x8 (eX l).1 0
  .rfl
  rcases J_ l.2.2 k with⟨h1,h2⟩|⟨h1,h2,h3⟩|⟨h1,h2,s,h3,_⟩
  .simp_all
  .simp_all
  .rw[h0,h3]at hA;simp only[o6,o7,o8,V4]at hA ⊢;cases h4:x8 (Et l k c).2.2 0<;>simp_all
 rw[if_pos hA];obtain⟨hv,hcs⟩:=Zw hA;obtain⟨_,s,hs⟩:=LZ hA;obtain⟨s0,s1,sm,s2⟩:=bQ hs;obtain⟨c0,c1⟩:=b3e hs hcs;have hS:=hL.sc s sm;have hM:=Ql hL hv hs;have hnm:=hC.nm;rw[hs];unfold xq;rw[En hL,o8,vzB,UD l k hC,L8 hv];rw[L6 s0,aC s1];simp only[o6,o8,V4,hcs,L8 (rfl:(0:Int)=0),E8,hs];obtain⟨P,e1,hP⟩:=a2Y hL hv hs c0 c1;refine cZ (o' :=some (match mS l c (aI l s) (gZ (aI l s).2.2.2.1.length)with
  | .inr e=>(.inr (([],[],[]),e):bT×V9×bT×aA⊕bT×V9)
  | .inl b=> .inl ((([],[],[]),(0,0,0,0),([],[],b),(c.1,c.2.1,[],b.map (·.1),(aI l s).2.2.2.1.map (·.2),l.2.1))))) ?_ ?_
 .rcases Lh hv hs with⟨g1,_,g3⟩|⟨g1,_,g3,g4,g5⟩
  .rw[g1,g3,show mS l c yL (gZ yL.2.2.2.1.length)= .inl [] by unfold mS;rw[b2a hA hs g1];rfl];rfl
  .have hnd:=hM.nd;rw[g1,o7,U0 (LH.1 g3),o8,o7,g4,o8];refine cZ (o' :=some (c.1,c.2.1,PUnit.unit,PUnit.unit,(aI l s).2.2.2.1.map (·.2),l.2.1)) ?_ ?_
   .refine Np (λL i=>(((c.1,c.2.1,PUnit.unit,PUnit.unit,L,l.2.1),i):(Int×List V3×PUnit×PUnit×List (Int×Int)×List dM)×Int)) (λL=>((c.1,c.2.1,PUnit.unit,PUnit.unit,L,l.2.1):Int×List V3×PUnit×PUnit×List (Int×Int)×List dM)) (aI l s).2.2.2.1 (·.2) l7 (λi a L hi hLl=>?_) (λL=>?_)
    .grind [au,o7,G8,o8,kU,ja]
    simp[ak]
   rw[o8];cases hlen:F7 0 (o9 c.2.2)
   .have:c.2.2=[]:=P5.1 (by have:=jW.1 hlen;simp_all [o9]);rw[o6,show mS l c (aI l s) (gZ (aI l s).2.2.2.1.length)= .inl [] by unfold mS;rw[this];rfl];rfl
   rw[o7];obtain⟨Q,e2,hQ⟩:=a2Y hL hv g4 c0 c1;rw[e2,o8];have hfold:=FW (mG l c (aI l s) (gZ (aI l s).2.2.2.1.length)) (λb a=>Pn (λe=>((([],[],[]),e):bT×E4)) (mG l c (aI l s) (gZ (aI l s).2.2.2.1.length) b a)) (λe=>((([],[],[]),e):bT×E4)) (λ_ _=>rfl) c.2.2.zipIdx [];have hzl:c.2.2.zipIdx.length=c.2.2.length:=x9;unfold mS;apply pM c.2.2.zipIdx (λb a=>Pn (λe=>((([],[],[]),e):bT×E4)) (mG l c (aI l s) (gZ (aI l s).2.2.2.1.length) b a))
    (λb i=>((([],[],[]),(0,0,0,0),([],[],b),(c.1,c.2.1,PUnit.unit,b.map (·.1),(aI l s).2.2.2.1.map (·.2),l.2.1),i):bT×V9×bT×YT×Int))
    (λb=>((([],[],[]),(0,0,0,0),([],[],b),(c.1,c.2.1,PUnit.unit,b.map (·.1),(aI l s).2.2.2.1.map (·.2),l.2.1)):bT×V9×bT×YT))
    (λi b=>b.length=i) [] l7 rfl
   .intro i a b hi hi' hb;obtain⟨z1,z2⟩:=a5r hi;have hil:=(U8.1 z1).1;unfold mG;simp only[au z1,o7,G8,z1,o8];rw[show oh Q (c.1,a.1,[],[],[],l.2.1) (i:Int)=_ from b2i hL hv g4 hQ (a4k hT c a.1) (b2K hA hv hs g4 z1) (i:Int),o8,z2];cases hq:scS (aI l s) (Yv l c a.1) (i:Int) (gZ (aI l s).2.2.2.1.length)with
    |inr e=>simp only[I4 (La hq)];exact⟨rfl,λ_ h=>by cases h⟩|inl x=>
     grind [L8,a3L,E8,o6,kU,o8,ja,Pn]
   .simp[ak]
   .intro _;rw[hfold];cases eG (mG l c (aI l s) (gZ (aI l s).2.2.2.1.length)) c.2.2.zipIdx []<;>rfl
 .rw[o8];unfold a1J;cases hq:mS l c (aI l s) (gZ (aI l s).2.2.2.1.length)with
  |inr e=>rfl|inl b=>
   have hbl:=T_ hq;simp only[V4];rw[e1,o8,show oh P (c.1,c.2.1,[],b.map (·.1),(aI l s).2.2.2.1.map (·.2),l.2.1) (-1)=_ from b2i hL hv hs hP (Qv hT s c l7) (a8c hA hv hs) (-1),o8];cases hr:scS s (CP l s c b) (-1) (gZ s.2.2.2.1.length)with
   |inr e=>simp only[I4 (La hr)];rfl|inl x=>rfl
def VW:aZ:=([],[],[([104,111,117,115,101],-1,[([97],3,0)],[([100],3,0)],[([98,97,115,101],0,-1,0,(0,109573),[],[(7,0)],[])])])
theorem c1V:Fj=some VW:=by rfl
theorem c1W:WfL VW:=by refine⟨by simp[VW],by simp[VW],by simp[VW],λs hs r hr=>?_⟩;simp only[VW,I7]at hs;subst hs;simp only[I7]at hr;subst hr;exact⟨x9,by simp[iq]⟩
theorem b4B:zK=some true:=by obtain⟨hL,hT⟩:=b8s (l:=VW) (by decide+kernel) c1W;have hC:SmC (0,[(3,0,500)],[]):=b8r (by decide+kernel);have e:xq VW 0 (0,[(3,0,500)],[])=FX VW 0 (0,[(3,0,500)],[]):=(a3r hL hC hT).trans (b7P hL hC hT).symm;unfold zK;rw[c1V,show CY 500=some (0,[(3,0,500)],[])from rfl];simp only[o8];rw[e];decide+kernel
theorem a7Z(l:aZ)(c:kY):Sr l c=some (l9 (smL l) (smC c) false):=by unfold Sr;rw[a7H,o8,a4Z];cases smL l<;>rfl
theorem VX(hW:WfL l)(k:Int)(c:kY):DK l k c=some true:=by
 unfold DK;rw[a7Z,o8,b4B];cases hl:smL l
 .rfl
 cases hc:smC c
 .rfl
 obtain⟨hL,hT⟩:=b8s hl hW;have hC:=b8r hc;have hcm:=hC.nm;rw[b7P hL hC hT,a8z hL hC hT,a3r hL hC hT];generalize hR:(if(Ci l k c false 0).1=0 then(match H9 l.2.2 k with|some s=>a1J l s c|none=>(([],[],[]),0,0,0,0))else(([],[],[]),Ci l k c false 0))=R;have hRes:b0Z R.1:=by
  rw[←hR];by_cases hA:(Ci l k c false 0).1=0
  .rw[if_pos hA];obtain⟨h,s,hs⟩:=LZ hA;rw[hs];exact b7O (hL.sc s (bQ hs).2.2.1) (Ql hL h hs) hC
  .rw[if_neg hA];exact a9j
 have hI:∀x:Int,x8 x x=true:=λx=>L8 rfl;simp only[o7,E8,o6,o8,hI,a3L,a7z hRes,V4];by_cases hA:(Ci l k c false 0).1=0
 case neg=>rw[if_neg hA]at hR;rw[←hR,I4 hA];rfl
 rw[if_pos hA]at hR;obtain⟨h,s,hs⟩:=LZ hA;obtain⟨s0,s1,sm,s2⟩:=bQ hs;have hS:=hL.sc s sm;have hM:=Ql hL h hs;have hnd:=hS.nd;rw[hs]at hR ⊢;rw[←hR];dsimp only;unfold a1J;cases hq:mS l c (aI l s) (gZ (aI l s).2.2.2.1.length)with
 |inr e=>simp only[I4 (xM _ (λr=>r.1≠0) c4y _ _ _ hq)];rfl|inl b=>
  have hbl:=T_ hq;have hb:b.length<=1000:=l7;have hEb:=Qv hT s c (b:=b) hb;simp only;cases hr:scS s (CP l s c b) (-1) (gZ s.2.2.2.1.length)with
  |inr e=>simp only[I4 (La hr)];rfl|inl X=>
   obtain⟨x1,x2⟩:=YX hr;simp only[L8 (rfl:(0:Int)=0),E8,o6];rw[L6 s0,aC s1];simp only[o6,o8];rw[L8 (YM x1)];simp only[E8,o6,o8,V4];obtain⟨ot,oi⟩:=a9t hS (b0U h s2);have hD:=b3k hL hT hb hA h hs hr;refine cZ (o' :=some (.inl PUnit.unit)) ?_ rfl;refine(Kq X.1 (λ_=>false) false PUnit.unit l7 (λi a ha=>?_) ?_).trans (by rw[show(X.1.any λ_=>false)=false by rw[ut];simp];rfl)
   .have hi:=(U8.1 ha).1;have hf:s.2.2.2.1[i]? =some s.2.2.2.1[i]:=dE l7;obtain⟨v,r,k1,k2,k3⟩:=c4r hEb ot hr (oi (i:Int) l7 (by unfold nD o9;omega)) (b9G l7 l7) (a8H h s2 (i:Int));rw[G8,ha]at k1;cases k1;have ht:H9 (s.2.2.2.1.map (·.2)) (i:Int)=some s.2.2.2.1[i].2:=by rw[G8,H6,hf];rfl
    have hp:=a6b hL hT hb hA h hs hD k3 ht;have hvt:=a8f h s2 hf;simp only[au ha,o7,G8,ha,hf,o8];rw[b9O hvt hp,L8 hp.1,L8 hp.2.1];rfl
   .rw[ak];rfl
end
end Go.GP
namespace Go.GP
open Gt
theorem SH:∀x,a8g Gt.ps3 x->(Gt.s3.fn x:d4G)=some true:=λx h=>VX (l:=x.1) (d3W h.1) x.2.1 x.2.2
end Go.GP
