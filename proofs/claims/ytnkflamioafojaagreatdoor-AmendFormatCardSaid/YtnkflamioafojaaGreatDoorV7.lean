import Derived.Test.YtnkflamioafojaaGreatDoorV5
import Derived.Test.YtnkflamioafojaaGreatDoorV6
set_option linter.all false
namespace Go.GP
open Gt
set_option maxRecDepth 100000
section
theorem a5o{a:List dh}(h:a.length<=1000000)(h2:∀e∈a,e.2.length<=1000000):qJ a=some a:=by
 unfold qJ;refine U8 (a0S a (λe=>e) h (F:=λx=>x) (λi e acc he hi=>?_) (λacc=>?_)) ?_
 rotate_left 2
 .rw[o8,List.map_id']
 .have hlt:=(aK.1 he).1;simp only[P6 he,o7,L9,he,o8,a0B (h2 e (rH he))];rw[mP _ o5];rfl
 .simp only[P5 a,o6]
theorem a0R{l:List iV}(h:l.length<=1000000):jD l=some (l.map (·.1)):=by
 unfold jD;refine U8 (a0S l (λ(f:iV)=>f.1) h (F:=λx=>x) (λi e acc he hi=>?_) (λacc=>?_)) ?_
 rotate_left 2
 .rfl
 .have hlt:=(aK.1 he).1;simp only[P6 he,o7,L9,he,o8];rw[mP _ o5];rfl
 .simp only[P5 l,o6]
def nmS(l:X6)(s:V6):F9:=(l.1,l.2.1.map (·.1),s.2.2.1.map (·.1),s.2.2.2.1.map (·.1),l7 (O7 0 s.2.1) (match J4 l.2.2 s.2.1 with|some q=>q.2.2.2.1.map (·.1)|none=>[]) [])
structure NmL (l:X6):Prop where
 ne:l.1.length<=9
 nt:l.2.1.length<=9
 e:∀e∈l.1,e.2.length<=20/\e.1.length<=80/\∀m∈e.2,m.length<=80
 t:∀t∈l.2.1,t.1.length<=80
 s:∀s∈l.2.2,s.2.2.1.length<=14/\s.2.2.2.1.length<=14/\s.2.2.2.2.length<=96/\(∀f∈s.2.2.1,f.1.length<=80)/\(∀f∈s.2.2.2.1,f.1.length<=80)/\∀r∈s.2.2.2.2,r.1.length<=80
variable {l:X6}
theorem b2j(h:smL l=true)(hW:WfL l):NmL l:=by
 unfold smL at h;obtain⟨h1,h⟩:=Bg h;obtain⟨h2,h⟩:=Bg h;obtain⟨h3,h⟩:=Bg h;obtain⟨h4,h⟩:=Bg h;cases ht:mJ tG l.2.1 0 with
 |inr r=>rw[ht]at h;cases h|inl b=>
  rw[ht]at h;simp only at h;cases hs:mJ sG l.2.2 0 with
  |inr r=>rw[hs]at h;cases h|inl b' =>
   have T:=a2q l.2.1 0 b o5 o5 hW.rl ht;have S:=a1M l.2.2 0 b' o5 o5 hW.sl hs;refine⟨dL (n:=9) h1,dL (n:=9) h2,λe he=>?_,λt ht=>(T t ht).1,λs hs=>?_⟩
   .have hl:=LD h4 e he;unfold Xf at hl;cases g1:G5 80 (o9 e.1)<;>rw[g1]at hl
    case true=>cases hl
    cases g2:G5 20 (o9 e.2)<;>rw[g2]at hl
    case true=>cases hl
    refine⟨dL (n:=20) g2,dL (n:=80) g1,λm hm=>?_⟩;have:=LD (p:=λm=>G5 80 (o9 m)) hl m hm;exact dL (n:=80) this
   .have h:=S s hs;unfold smS at h;obtain⟨a1,h⟩:=Bg h;obtain⟨a2,h⟩:=Bg h;obtain⟨a3,h⟩:=Bg h;obtain⟨a4,h⟩:=Bg h;obtain⟨a5,h⟩:=Bg h;obtain⟨a6,h⟩:=Bg h;have a7:s.2.2.2.2.any LX=false:=by revert h;cases s.2.2.2.2.any LX<;>intro h<;>first|rfl|cases h
    refine⟨dL (n:=14) a2,dL (n:=14) a3,ak (dL (n:=60) a4) o5,λf hf=>dL (n:=80) (LD a5 f hf),λf hf=>dL (n:=80) (LD a6 f hf),λr hr=>?_⟩;have hl:=LD a7 r hr;unfold LX at hl;cases g1:G5 80 (o9 r.1)<;>rw[g1]at hl
    case true=>cases hl
    exact dL (n:=80) g1
variable {s:V6}
theorem b7e(h:NmL l)(hs:s∈l.2.2):NmOk (nmS l s):=by
 obtain⟨s1,s2,s3,s4,s5,s6⟩:=h.s s hs;refine⟨λe he=>?_,λx hx=>?_,λx hx=>?_,λx hx=>?_,λx hx=>?_⟩
 .have:=h.e e he;exact⟨o5,λm hm=>by have:=this.2.2 m hm;omega⟩
 .obtain⟨t,ht,rfl⟩:=gK.1 hx;have:=h.t t ht;omega
 .obtain⟨f,hf,rfl⟩:=gK.1 hx;have:=s4 f hf;omega
 .obtain⟨f,hf,rfl⟩:=gK.1 hx;have:=s5 f hf;omega
 .unfold nmS at hx;simp only at hx;cases g:O7 0 s.2.1<;>rw[g]at hx
  .cases hx
  .simp only[o7]at hx;split at hx
   .rename_i q hq;obtain⟨f,hf,rfl⟩:=gK.1 hx;have:=(h.s q (xK hq).2.2.1).2.2.2.2.1 f hf;omega
   .cases hx
theorem Xr(h:NmL l){k:Int}(hs:J4 l.2.2 k=some s):lU l k=some (nmS l s):=by
 obtain⟨k0,k1,hm,-⟩:=xK hs;obtain⟨s1,s2,-⟩:=h.s s hm;have nt:=h.nt;unfold lU;rw[bU k0,dE k1,o6,o6,o8,X0,hs,o8,a0R o5,o8,a0R o5,o8];refine oL l.2.1 (λ(b:F9) (t:dw)=>((b.1,b.2.1++[t.1],b.2.2):F9)) (λb i=>(b,i)) (λb=>b) (λi b=>b.2.1.length=i) (l.1,[],s.2.2.1.map (·.1),s.2.2.2.1.map (·.1),[]) o5 rfl (λi t b hx hi hI=>?_) (λb _=>?_) (λ_=>?_)
 .have hlt:=(aK.1 hx).1;simp only[P6 hx,o7,L9,hx,o8];rw[mP _ o5,o8,eY o5];exact⟨rfl,by simp;omega⟩
 .simp only[P5 l.2.1,o6]
 .have e:∀(L:List dw) (b:F9),L.foldl (λ(b:F9) (t:dw)=>((b.1,b.2.1++[t.1],b.2.2):F9)) b=(b.1,b.2.1++L.map (·.1),b.2.2):=by
   intro L;induction L with
   |nil=>intro b;simp|cons t L ih=>intro b;rw[ah,ih];simp
  rw[e];unfold nmS;cases g:O7 0 s.2.1
  .simp[l7]
  .by_cases g2:s.2.1<o9 l.2.2
   .obtain⟨q,hq,hmq⟩:=tC (yu.1 g) g2;have:=(h.s q hmq).2.1;rw[dP g2,hq];simp only[o7,o8];rw[a0R o5,o8];simp
   .rw[bU (sK.1 g2)];have:J4 l.2.2 s.2.1=none:=by
     cases hq:J4 l.2.2 s.2.1 with
     |none=>rfl|some q=>exact absurd (xK hq).2.1 g2
    rw[this];simp[l7]
theorem a5Q(h:NmL l){k:Int}(hs:J4 l.2.2 k=some s):pI l k=some (nmS l s):=by rw[VD (a5o (by have:=h.ne;omega) (λe he=>by have:=(h.e e he).1;omega)) k];exact Xr h hs
theorem c7Y(h:(vY l).1=0):vY l=(0,0,0,0):=by
 unfold vY at h ⊢;cases h1:x8 (MQ l).1 0<;>rw[h1]at h
 .simp only[o6]at h;rw[bF h]at h1;cases h1
 cases h2:x8 (Ik l).1 0<;>rw[h2]at h
 .simp only[o7,o6]at h;rw[bF h]at h2;cases h2
 simp only[o7]at h ⊢;unfold OX at h ⊢;cases h3:G5 4 (o9 l.2.2)<;>rw[h3]at h
 case true=>exact absurd (show(4:Int)=0 from h) U9
 simp only[o6]at h ⊢;cases hf:dD l.2.2.length (Ie l)with
 |none=>rfl|some r=>
  rw[hf]at h;simp only at h;obtain⟨j,hj,hp⟩:=nC hf;unfold Ie at hp;cases hq:l.2.2[j]? with
  |none=>rw[hq]at hp;cases hp|some q=>
   rw[hq]at hp;simp only at hp;unfold SB at hp;exact absurd h (by cases he:x8 (Ig l j q).1 0<;>rw[he]at hp<;>cases hp;simp only;intro h4;rw[bF h4]at he;cases he)
structure EnL (en:List dh):Prop where
 n:∀e∈en,e.1.length<=80
 m:∀e∈en,e.2.length<=100/\∀m∈e.2,m.length<=100
theorem a4H{p:Int}(h:0<=p):D9 (x8 p 0)=G5 0 p:=by
 cases g:G5 0 p
 .have:=ql.1 g;rw[bF (show p=0 by omega)];rfl
 .have:=Bo.1 g;rw[O9 (show p≠0 by omega)];rfl
theorem b1W{a x:List UInt8}(h:a.length+x.length<=1000000000):xe a x=some (o9 x,(),a++x):=by unfold xe;rw[if_pos o5];rfl
end
section
structure FmL (l:X6):Prop where
 v:(vY l).1=0
 n:NmL l
 w:WfL l
section
variable {l:X6} (h:FmL l)
include h
theorem b2c:EnL l.1:=⟨λe he=>(h.n.e e he).2.1,λe he=>⟨by have:=(h.n.e e he).1;omega,λm hm=>by have:=(h.n.e e he).2.2 m hm;omega⟩⟩
end
end
section
variable {l:X6}
theorem c7X(h:(vY l).1=0):vY l=(0,0,0,0):=c7Y h
theorem b1V{a:List UInt8}(h:a.length<=1000000000):tZ a=some (a,a):=by unfold tZ;rw[if_pos o5]
theorem b1t(h1:smL l=true)(hw:WfL l)(hv:(vY l).1=0):FmL l:=⟨hv,b2j h1 hw,hw⟩
theorem Uw{n:List UInt8}(h:oV n=true):n.length<=80:=by
 cases n with
 |nil=>simp|cons c r=>rw[PV]at h;simp only[A7,decide_eq_true_eq]at h;omega
theorem b1T{a:List UInt8}(h:a.length+1<=1000000000):zt a 10=some ((),a++[10]):=by
 unfold zt;rw[show(Nat.ble (a.length+1) 1073741824&&decide ((0:Int)<=10)&&decide ((10:Int)<=255))=true by rw[A7,A7];exact⟨⟨by rw[Nat.ble_eq];omega,U9⟩,U9⟩]
 rfl
variable {α:Type}
def nmP(L:List α)(f:α->List UInt8)(n:List UInt8)(i:Nat):Option Int:=match L[i]? with|some a=>l7 (seq (f a) n) (some (i:Int)) none|none=>none
def nmI(L:List α)(f:α->List UInt8)(n:List UInt8):Int:=match dD L.length (nmP L f n)with|some r=>r|none=>-1
theorem Qb(L:List α)(f:α->List UInt8)(n:List UInt8):nmI L f n=-1\/∃(i:Nat) (a:α),nmI L f n=(i:Int)/\L[i]? =some a/\f a=n/\J4 L (nmI L f n)=some a/\a∈L:=by
 unfold nmI;cases h:dD L.length (nmP L f n)with
 |none=>exact .inl rfl|some r=>
  right;obtain⟨i,hi,hp⟩:=nC h;unfold nmP at hp;have e:=kN hi;rw[e]at hp;simp only at hp;cases g:seq (f L[i]) n<;>rw[g]at hp
  .cases hp
  .rw[o7]at hp;cases hp;exact⟨i,L[i],rfl,e,OY.1 g,by simp only;rw[L9];exact e,O0 hi⟩
theorem SY(L:List α)(fl:α->List UInt8)(n:List UInt8)(hl:L.length<=1000000){f:Int->Option (Out Int PUnit Int)}
  (h1:∀(i:Nat) (a:α),L[i]? =some a->f (i:Int)=some (l7 (seq (fl a) n) (.rt (i:Int)) (.nx (D8 .i64 (i:Int) 1)))) (h2:f (L.length:Int)=some (.ex PUnit.unit)):
  (l9 (O6 f 0) λ(o:PUnit⊕Int)=>U3 o (λ(y:PUnit)=>some (-1)) λ(r:Int)=>some r)=some (nmI L fl n):=by
 refine U8 (FT (p:=nmP L fl n) L.length hl PUnit.unit (λi hi=>?_) h2) ?_
 .have e:=kN hi;rw[h1 i _ e];unfold nmP;rw[e];simp only;cases seq (fl L[i]) n<;>rfl
 .unfold nmI;cases dD L.length (nmP L fl n)<;>rfl
theorem Wy(n:List UInt8)(h:l.2.2.length<=1000000):kJ l n=some (nmI l.2.2 (λ(s:V6)=>s.1) n):=by unfold kJ;refine SY l.2.2 (λ(s:V6)=>s.1) n h (λi a ha=>?_) (by rw[P5];rfl);simp only[P6 ha,o7,L9,ha,o8];cases seq a.1 n<;>rfl
theorem D_(n:List UInt8)(h:l.2.2.length<=1000000):zZ l n=some (nmI l.2.2 (λ(s:V6)=>s.1) n):=by unfold zZ;refine SY l.2.2 (λ(s:V6)=>s.1) n h (λi a ha=>?_) (by rw[P5];rfl);simp only[P6 ha,o7,L9,ha,o8];cases seq a.1 n<;>rfl
theorem WB(n:List UInt8)(h:l.2.1.length<=1000000):kK l n=some (nmI l.2.1 (λ(s:dw)=>s.1) n):=by unfold kK;refine SY l.2.1 (λ(s:dw)=>s.1) n h (λi a ha=>?_) (by rw[P5];rfl);simp only[P6 ha,o7,L9,ha,o8];cases seq a.1 n<;>rfl
theorem E_(n:List UInt8)(h:l.2.1.length<=1000000):Aa l n=some (nmI l.2.1 (λ(s:dw)=>s.1) n):=by unfold Aa;refine SY l.2.1 (λ(s:dw)=>s.1) n h (λi a ha=>?_) (by rw[P5];rfl);simp only[P6 ha,o7,L9,ha,o8];cases seq a.1 n<;>rfl
variable {s:List UInt8}
theorem Z_(h:s.length<=1000000){f:Int->Option (Out Int PUnit Bool)}{r:Bool}
  (h1:∀(i:Nat) (x:UInt8),s[i]? =some x->f (i:Int)=some (l7 (Gm x) (.nx (D8 .i64 (i:Int) 1)) (.rt false))) (h2:f (s.length:Int)=some (.ex PUnit.unit)):
  (l9 (O6 f 0) λ(o:PUnit⊕Bool)=>U3 o (λ(y:PUnit)=>some r) λ(r:Bool)=>some r)=some (s.all Gm&&r):=by
 refine U8 (xN s (λi a=>Gm a) false PUnit.unit _ o5 (λi x hx=>?_) h2) ?_
 .have hi:=(aK.1 hx).1;rw[h1 i x hx,eY o5];cases Gm x<;>rfl
 .by_cases hw:s.all Gm=true
  .rw[if_pos ((KJ s Gm).2 hw),hw,o8,X0,iw]
  .rw[if_neg (λh=>hw ((KJ s Gm).1 h))];simp only[oQ]at hw;rw[hw,Bool.false_and];rfl
theorem ZJ(h:s.length<=1000000):qF s=some (QE s):=by
 unfold qF;have h5:G5 64 (o9 s)= !decide (s.length<=64):=by simp only[G5,o9];rw[←decide_not];congr 1;simp;omega
 rw[h5];unfold QE;cases decide (s.length<=64)
 .rfl
 .show(l9 _ _)=_;refine(Z_ (r:=true) h (λi x hx=>?_) ?_).trans (by rw[Bool.and_true,iw])
  .simp only[P6 hx,o7,Le,hx,aV,o8];rw[Pg];cases G5 (x.toNat:Int) 32<;>cases G5 126 (x.toNat:Int)<;>cases x8 (x.toNat:Int) 34<;>rfl
  .rw[P5];rfl
theorem a1w(h:s.length<=1000000):yQ s=some (QE s):=by
 unfold yQ;have h5:O7 (o9 s) 64=decide (s.length<=64):=by simp only[O7,o9];congr 1;simp;omega
 rw[h5];unfold QE;refine(Z_ (r:=decide (s.length<=64)) h (λi x hx=>?_) ?_).trans (by rw[Bool.and_comm])
 .simp only[P6 hx,o7,Le,hx,aV,o8];rw[Pg];cases G5 (x.toNat:Int) 32<;>cases G5 126 (x.toNat:Int)<;>cases x8 (x.toNat:Int) 34<;>rfl
 .rw[P5];rfl
structure AmW (a:G6):Prop where
 d:I64 a.2.1
 s:a.2.2.1.length<=4611686018427387904
 n:a.2.2.2.1.length<=4611686018427387904
 f:a.2.2.2.2.1.length<=4611686018427387904
 p:a.2.2.2.2.2.1.length<=4611686018427387904
 pr:I64 a.2.2.2.2.2.2.1
 g:∀n∈a.2.2.2.2.2.2.2.1,I64 n.2
 v:∀n∈a.2.2.2.2.2.2.2.2.1,I64 n.2
 t:a.2.2.2.2.2.2.2.2.2.2.1.length<=4611686018427387904
 lo:I64 a.2.2.2.2.2.2.2.2.2.2.2.2.1
 hi:I64 a.2.2.2.2.2.2.2.2.2.2.2.2.2.1
 rn:I64 a.2.2.2.2.2.2.2.2.2.2.2.2.2.2
structure AmF (a:G6):Prop where
 g:a.2.2.2.2.2.2.2.1.length<=60
 v:a.2.2.2.2.2.2.2.2.1.length<=60
 s:a.2.2.2.2.2.2.2.2.2.1.length<=200
def rlS(a:G6):Bool:=!(seq a.2.2.2.2.1 []&&seq a.2.2.2.2.2.1 []&&x8 a.2.2.2.2.2.2.1 0&&x8 (o9 a.2.2.2.2.2.2.2.1) 0&&x8 (o9 a.2.2.2.2.2.2.2.2.1) 0&&seq a.2.2.2.2.2.2.2.2.2.1 [])
def snS(a:G6):Bool:=!(seq a.2.2.1 []&&seq a.2.2.2.1 [])
def vdS(a:G6):Bool:=!(x8 a.2.2.2.2.2.2.2.2.2.2.2.1.1 0&&x8 a.2.2.2.2.2.2.2.2.2.2.2.1.2 0)
def rwS(a:G6):Bool:=!(seq a.2.2.2.2.2.2.2.2.2.2.1 []&&(x8 a.2.2.2.2.2.2.2.2.2.2.2.1.1 0&&(x8 a.2.2.2.2.2.2.2.2.2.2.2.1.2 0&&(x8 a.2.2.2.2.2.2.2.2.2.2.2.2.1 0&&(x8 a.2.2.2.2.2.2.2.2.2.2.2.2.2.1 0&&x8 a.2.2.2.2.2.2.2.2.2.2.2.2.2.2 0)))))
def unS(a:G6):Bool:=l7 (x8 a.1 1) (rwS a) (l7 (x8 a.1 2) (rlS a || rwS a) (l7 (x8 a.1 3) (rlS a || snS a || vdS a) (rlS a || snS a || vdS a || !(x8 a.2.2.2.2.2.2.2.2.2.2.2.2.2.2 0))))
theorem ZH(l:List α):G5 0 (o9 l)= !(x8 (o9 l) 0):=by
 cases l with
 |nil=>rfl|cons a l=>rw[dP (by unfold o9;simp only[H5];omega),O9 (by unfold o9;simp only[H5];omega)];rfl
theorem Yc(a:G6):wG a=some (unS a):=by
 unfold wG unS rlS snS vdS rwS;rw[ZH,ZH];generalize seq a.2.2.2.2.1 []=b1;generalize seq a.2.2.2.2.2.1 []=b2;generalize x8 a.2.2.2.2.2.2.1 0=b3;generalize x8 (o9 a.2.2.2.2.2.2.2.1) 0=b4;generalize x8 (o9 a.2.2.2.2.2.2.2.2.1) 0=b5;generalize seq a.2.2.2.2.2.2.2.2.2.1 []=b6;generalize seq a.2.2.1 []=c1;generalize seq a.2.2.2.1 []=c2;generalize seq a.2.2.2.2.2.2.2.2.2.2.1 []=d0;generalize x8 a.2.2.2.2.2.2.2.2.2.2.2.1.1 0=d1;generalize x8 a.2.2.2.2.2.2.2.2.2.2.2.1.2 0=d2;generalize x8 a.2.2.2.2.2.2.2.2.2.2.2.2.1 0=d3;generalize x8 a.2.2.2.2.2.2.2.2.2.2.2.2.2.1 0=d4;generalize x8 a.2.2.2.2.2.2.2.2.2.2.2.2.2.2 0=d5;generalize x8 a.1 1=k1;generalize x8 a.1 2=k2;generalize x8 a.1 3=k3;have e1:l7 (D9 b1) (some true) (l7 (D9 b2) (some true) (l7 (D9 b3) (some true) (l7 (!b4) (some true) (l7 (!b5) (some true) (some (D9 b6))))))=some (!(b1&&b2&&b3&&b4&&b5&&b6)):=by cases b1<;>cases b2<;>cases b3<;>cases b4<;>cases b5<;>cases b6<;>rfl
 have e2:l7 (D9 c1) (some true) (some (D9 c2))=some (!(c1&&c2)):=by cases c1<;>cases c2<;>rfl
 have e3:l7 (D9 d0) (some true) (some (D9 (dA d1 (dA d2 (dA d3 (dA d4 d5))))))=some (!(d0&&(d1&&(d2&&(d3&&(d4&&d5)))))):=by cases d0<;>rfl
 rw[e1,o8,e2,o8,e3,o8];generalize (!(b1&&b2&&b3&&b4&&b5&&b6))=R;generalize (!(c1&&c2))=S;generalize (!(d0&&(d1&&(d2&&(d3&&(d4&&d5))))))=W;have e4:D9 (dA d1 d2)= !(d1&&d2):=rfl;rw[e4];generalize (!(d1&&d2))=V;cases k1<;>cases k2<;>cases k3<;>cases R<;>cases S<;>cases V<;>cases W<;>rfl
variable {a:G6}
theorem a7f(h1:1<=a.1)(h4:a.1<=4):Hz a=some (!(unS a)):=by
 have hk:a.1=1\/a.1=2\/a.1=3\/a.1=4:=by
  have h1:(1:Int)<=a.1:=h1;have h4:a.1<=(4:Int):=h4;generalize a.1=k at h1 h4;have:∀k:Int,1<=k->k<=4->k=1\/k=2\/k=3\/k=4:=λk a b=>by omega
  exact this k h1 h4
 unfold Hz qw unS rlS snS vdS rwS;generalize seq a.2.2.2.2.1 []=b1;generalize seq a.2.2.2.2.2.1 []=b2;generalize x8 a.2.2.2.2.2.2.1 0=b3;generalize x8 (o9 a.2.2.2.2.2.2.2.1) 0=b4;generalize x8 (o9 a.2.2.2.2.2.2.2.2.1) 0=b5;generalize seq a.2.2.2.2.2.2.2.2.2.1 []=b6;generalize seq a.2.2.1 []=c1;generalize seq a.2.2.2.1 []=c2;generalize seq a.2.2.2.2.2.2.2.2.2.2.1 []=d0;generalize x8 a.2.2.2.2.2.2.2.2.2.2.2.1.1 0=d1;generalize x8 a.2.2.2.2.2.2.2.2.2.2.2.1.2 0=d2;generalize x8 a.2.2.2.2.2.2.2.2.2.2.2.2.1 0=d3;generalize x8 a.2.2.2.2.2.2.2.2.2.2.2.2.2.1 0=d4;generalize x8 a.2.2.2.2.2.2.2.2.2.2.2.2.2.2 0=d5;have e1:l7 b1 (l7 b2 (l7 b3 (l7 b4 (l7 b5 (some b6) (some false)) (some false)) (some false)) (some false)) (some false)=some (b1&&b2&&b3&&b4&&b5&&b6):=by cases b1<;>cases b2<;>cases b3<;>cases b4<;>cases b5<;>rfl
 rw[e1,o8];generalize (b1&&b2&&b3&&b4&&b5&&b6)=R;have j11:x8 1 1=true:=rfl;have j12:x8 1 2=false:=rfl;have j13:x8 1 3=false:=rfl;have j14:x8 1 4=false:=rfl;have j21:x8 2 1=false:=rfl;have j22:x8 2 2=true:=rfl;have j23:x8 2 3=false:=rfl;have j24:x8 2 4=false:=rfl;have j31:x8 3 1=false:=rfl;have j32:x8 3 2=false:=rfl;have j33:x8 3 3=true:=rfl;have j34:x8 3 4=false:=rfl;have j41:x8 4 1=false:=rfl;have j42:x8 4 2=false:=rfl;have j43:x8 4 3=false:=rfl;have j44:x8 4 4=true:=rfl;rcases hk with e|e|e|e<;>rw[e]
 .simp only[j11,j12,j13,j14,o7,o6,o8];cases d0<;>cases d1<;>cases d2<;>cases d3<;>cases d4<;>cases d5<;>rfl
 .simp only[j21,j22,j23,j24,o7,o6,o8];cases R<;>cases d0<;>cases d1<;>cases d2<;>cases d3<;>cases d4<;>cases d5<;>rfl
 .simp only[j31,j32,j33,j34,o7,o6,o8];cases R<;>cases c1<;>cases c2<;>cases d1<;>cases d2<;>rfl
 .simp only[j41,j42,j43,j44,o7,o6,o8];cases R<;>cases c1<;>cases c2<;>cases d1<;>cases d2<;>cases d5<;>rfl
def wnS(a:G6):Bool:=l7 (x8 a.1 1) (oV a.2.2.1&&oV a.2.2.2.1&&oV a.2.2.2.2.1&&(seq a.2.2.2.2.2.1 [] || oV a.2.2.2.2.2.1)&&QE a.2.2.2.2.2.2.2.2.2.1)
 (l7 (x8 a.1 2) (oV a.2.2.1&&oV a.2.2.2.1) (oV a.2.2.2.2.2.2.2.2.2.2.1))
theorem Zc(hw:AmW a)(hf:AmF a):wH a=some (wnS a):=by
 unfold wH wnS;rw[kH hw.s,kH hw.n,kH hw.f,kH hw.p,kH hw.t,ZJ (by have:=hf.s;omega)];simp only[o8];cases x8 a.1 1
 .cases x8 a.1 2
  .rfl
  .cases oV a.2.2.1<;>rfl
 .cases oV a.2.2.1<;>cases oV a.2.2.2.1<;>cases oV a.2.2.2.2.1<;>cases seq a.2.2.2.2.2.1 []<;>cases oV a.2.2.2.2.2.1<;>rfl
theorem Wx(hw:AmW a)(hf:AmF a)(h1:1<=a.1)(h4:a.1<=4):wW a=some (wnS a):=by
 have hk:a.1=1\/a.1=2\/a.1=3\/a.1=4:=by
  have h1:(1:Int)<=a.1:=h1;have h4:a.1<=(4:Int):=h4;generalize a.1=k at h1 h4;have:∀k:Int,1<=k->k<=4->k=1\/k=2\/k=3\/k=4:=λk a b=>by omega
  exact this k h1 h4
 unfold wW qw wnS;rw[jS hw.s,jS hw.n,jS hw.f,jS hw.p,jS hw.t,a1w (by have:=hf.s;omega)];simp only[o8];rcases hk with e|e|e|e<;>rw[e]
 .cases oV a.2.2.1<;>cases oV a.2.2.2.1<;>cases oV a.2.2.2.2.1<;>cases seq a.2.2.2.2.2.1 []<;>cases oV a.2.2.2.2.2.1<;>rfl
 .cases oV a.2.2.1<;>cases oV a.2.2.2.1<;>rfl
 .rfl
 .rfl
end
section
def vfS(n:Int)(t:Int×Int)(en:List dh):List UInt8×Int:=(jW (t.1,t.2,n) en).getD ([],0)
theorem a9y{l:X6}(hE:EnL l.1){n:Int}{t:Int×Int}(h:I64 n):pz l t n=some (vfS n t l.1)/\vM n t l=some (vfS n t l.1)/\(vfS n t l.1).1.length<=100:=by
 obtain⟨x,hx,hl⟩:=wZ (B:=100) o5 o5 (v:=(t.1,t.2,n)) h hE.m;have e:vfS n t l.1=x:=by unfold vfS;rw[hx];rfl
 refine⟨?_,?_,by rw[e];exact hl⟩
 .unfold pz;rw[hx,o8,e]
 .unfold vM;rw[←wY _ h,hx,o8,e]
def ovT(a:G6):List UInt8:=l7 (D9 (seq a.2.2.2.2.2.1 [])) ([32,111,118,101,114,32]++a.2.2.2.2.2.1) []
def prT(a:G6):List UInt8:=l7 (D9 (x8 a.2.2.2.2.2.2.1 0)) ([32,112,114,105,111,32]++Lib.itoa a.2.2.2.2.2.2.1) []
def hdT(a:G6):List UInt8:=[105,110,115,101,114,116,32]++a.2.2.1++[32]++a.2.2.2.1++[32,111,102,32]++a.2.2.2.2.1++ovT a++prT a++[32,102,114,111,109,32]++sF a.2.1
def srT(a:G6):List UInt8:=l7 (D9 (seq a.2.2.2.2.2.2.2.2.2.1 [])) ([32,115,114,99,32,34]++a.2.2.2.2.2.2.2.2.2.1++[34]) []
def isT(a:G6)(p:List UInt8)(N:F9):List UInt8×Int:=
 l7 (D9 (x8 (Lr a.2.2.2.2.2.2.2.2.1 N).2 0)) ([],(Lr a.2.2.2.2.2.2.2.2.1 N).2) (p++[32,105,115,32]++(Lr a.2.2.2.2.2.2.2.2.1 N).1++srT a,0)
def a4k(l:X6)(a:G6):List UInt8×Int:=
 match J4 l.2.2 (nmI l.2.2 (λ(s:V6)=>s.1) a.2.2.1)with
 |none=>([],6)|some s=>l7 (G5 0 (o9 a.2.2.2.2.2.2.2.1))
   (l7 (D9 (x8 (Lr a.2.2.2.2.2.2.2.1 (nmS l s)).2 0)) ([],(Lr a.2.2.2.2.2.2.2.1 (nmS l s)).2) (isT a (hdT a++[32,119,104,101,110,32]++(Lr a.2.2.2.2.2.2.2.1 (nmS l s)).1) (nmS l s)))
   (isT a (hdT a) (nmS l s))
structure AmI (a:G6):Prop where
 s:a.2.2.1.length<=80
 n:a.2.2.2.1.length<=80
 f:a.2.2.2.2.1.length<=80
 p:a.2.2.2.2.2.1.length<=80
variable {a:G6}
theorem a2P(hw:AmW a)(hi:AmI a):(hdT a).length<=1000:=by have h1:=hi.s;have h2:=hi.n;have h3:=hi.f;have h4:=hi.p;have h5:=uU a.2.1;have h6:=CV hw.pr;unfold hdT ovT prT;cases seq a.2.2.2.2.2.1 []<;>cases x8 a.2.2.2.2.2.2.1 0<;>simp<;>omega
theorem b1d(hf:AmF a):(srT a).length<=300:=by have:=hf.s;unfold srT;cases seq a.2.2.2.2.2.2.2.2.2.1 []<;>simp<;>omega
section
variable {l:X6} (hS:SmL l) (hF:FmL l)
include hS hF
theorem a4l(hw:AmW a)(hf:AmF a)(hi:AmI a):rD l a=some (a4k l a)/\(a4k l a).1.length<=400000:=by
 have hd5:=uU a.2.1;have h6:=CV hw.pr;have hh:=a2P hw hi;have hsr:=b1d hf;have h1:=hi.s;have h2:=hi.n;have h3:=hi.f;have h4:=hi.p;have hs2:=hf.s;unfold rD a4k;rw[Wy _ (by have:=hS.few.2.2;omega),o8];rcases Qb l.2.2 (λ(s:V6)=>s.1) a.2.2.1 with e|⟨i,s,e,-,-,ZF,hm⟩
 .rw[e];have:J4 l.2.2 (-1)=none:=CW (.inl rfl);rw[this];exact⟨rfl,A8⟩
 .rw[ZF,bU (by rw[e];omega),o6,a5Q hF.n ZF,o8];have hN:=b7e hF.n hm;simp only;rw[a5B hN hw.g,a5B hN hw.v,jC hw.pr,oC];have lg:=SV hN hw.g;have lv:=SV hN hw.v;generalize Lr a.2.2.2.2.2.2.2.1 (nmS l s)=G at*;obtain⟨gt,gc⟩:=G;generalize hV:Lr a.2.2.2.2.2.2.2.2.1 (nmS l s)=V at*;obtain⟨vt,vc⟩:=V;simp only at lg lv;have hov:(l7 (D9 (seq a.2.2.2.2.2.1 [])) (l9 (J8 [32,111,118,101,114,32] a.2.2.2.2.2.1) λ(x:List UInt8)=>l9 (J8 ([105,110,115,101,114,116,32]++a.2.2.1++[32]++a.2.2.2.1++[32,111,102,32]++a.2.2.2.2.1) x) λ(x:List UInt8)=>some x)
    (some ([105,110,115,101,114,116,32]++a.2.2.1++[32]++a.2.2.2.1++[32,111,102,32]++a.2.2.2.2.1)))=some ([105,110,115,101,114,116,32]++a.2.2.1++[32]++a.2.2.2.1++[32,111,102,32]++a.2.2.2.2.1++ovT a):=by
   unfold ovT;cases seq a.2.2.2.2.2.1 []
   .simp only[af,o7];rw[F8 F5,o8,F8 F5,o8]
   .simp
  have lov:(ovT a).length<=90:=by unfold ovT;cases seq a.2.2.2.2.2.1 []<;>simp<;>omega
  have lpr:(prT a).length<=30:=by unfold prT;cases x8 a.2.2.2.2.2.2.1 0<;>simp<;>omega
  rw[F8 F5,o8,F8 F5,o8,F8 F5,o8,F8 F5,o8,F8 F5,o8,hov,o8];generalize hA:[105,110,115,101,114,116,32]++a.2.2.1++[32]++a.2.2.2.1++[32,111,102,32]++a.2.2.2.2.1++ovT a=A at*;have lA:A.length<=500:=by rw[←hA];simp;omega
  have hpr:(l7 (D9 (x8 a.2.2.2.2.2.2.1 0)) (l9 (some (Lib.itoa a.2.2.2.2.2.2.1)) λ(x:List UInt8)=>l9 (J8 [32,112,114,105,111,32] x) λ(x:List UInt8)=>l9 (J8 A x) λ(x:List UInt8)=>some x) (some A))=some (A++prT a):=by
   unfold prT;cases x8 a.2.2.2.2.2.2.1 0
   .simp only[af,o7,o8];rw[F8 F5,o8,F8 F5,o8]
   .simp
  rw[hpr,o8,o8,F8 F5,o8,F8 F5,o8];have hB:A++prT a++([32,102,114,111,109,32]++sF a.2.1)=hdT a:=by rw[←hA];unfold hdT;simp only[E5]
  rw[hB];have tail:∀p:List UInt8,p.length<=200000->(l9 (some (vt,vc)) λ(x:List UInt8×Int)=>
                   l7 (D9 (x8 x.2 0)) (some (([]:List UInt8),x.2))
                    (l9 (J8 [32,105,115,32] x.1) λ(x:List UInt8)=>
                     l9 (J8 p x) λ(x:List UInt8)=>
                      l7 (D9 (seq a.2.2.2.2.2.2.2.2.2.1 []))
                       (l9 (J8 [32,115,114,99,32,34] a.2.2.2.2.2.2.2.2.2.1)
                        λ(x_14:List UInt8)=>
                        l9 (J8 x_14 [34]) λ(x_15:List UInt8)=>
                         l9 (J8 x x_15) λ(x:List UInt8)=>some (x,(0:Int)))
                       (some (x,0))))=some (isT a p (nmS l s))/\(isT a p (nmS l s)).1.length<=400000:=λp hp=>by
   unfold isT;rw[hV];simp only[o8];cases x8 vc 0
   .exact⟨rfl,A8⟩
   .simp only[J7,o6];rw[F8 F5,o8,F8 F5,o8];refine⟨?_,by simp;omega⟩;unfold srT;cases seq a.2.2.2.2.2.2.2.2.2.1 []
    .simp only[af,o7];rw[F8 F5,o8,F8 F5,o8,F8 F5,o8];simp only[E5]
    .simp
  cases G5 0 (o9 a.2.2.2.2.2.2.2.1)
  .simp only[o6];exact tail _ o5
  .simp only[o7,o8];cases x8 gc 0
   .exact⟨rfl,A8⟩
   .simp only[J7,o6];rw[F8 F5,o8,F8 F5,o8];rw[show hdT a++([32,119,104,101,110,32]++gt)=hdT a++[32,119,104,101,110,32]++gt from(E5 _ _ _).symm];exact tail _ F5
theorem a1v(hw:AmW a)(hf:AmF a)(hi:AmI a)(hp0:0<=a.2.2.2.2.2.2.1):vK l a=some (a4k l a):=by
 have hd5:=uU a.2.1;have h6:=CV hw.pr;have hh:=a2P hw hi;have h1:=hi.s;have h2:=hi.n;have h3:=hi.f;have h4:=hi.p;have hs2:=hf.s;unfold vK a4k;rw[D_ _ (by have:=hS.few.2.2;omega),o8];rcases Qb l.2.2 (λ(s:V6)=>s.1) a.2.2.1 with e|⟨i,s,e,-,-,ZF,hm⟩
 .rw[e];have:J4 l.2.2 (-1)=none:=CW (.inl rfl);rw[this];rfl
 .rw[ZF,bU (by rw[e];omega),o6,Xr hF.n ZF,o8];have hN:=b7e hF.n hm;simp only;rw[a3A hN hw.g,a3A hN hw.v,rO hw.pr,wP];have lg:=SV hN hw.g;have lv:=SV hN hw.v;generalize Lr a.2.2.2.2.2.2.2.1 (nmS l s)=G at*;obtain⟨gt,gc⟩:=G;generalize hV:Lr a.2.2.2.2.2.2.2.2.1 (nmS l s)=V at*;obtain⟨vt,vc⟩:=V;simp only at lg lv;have hov:(l7 (D9 (seq a.2.2.2.2.2.1 [])) (l9 (J8 ([105,110,115,101,114,116,32]++a.2.2.1++[32]++a.2.2.2.1++[32,111,102,32]++a.2.2.2.2.1) [32,111,118,101,114,32]) λ(x:List UInt8)=>l9 (J8 x a.2.2.2.2.2.1) λ(x:List UInt8)=>some x)
    (some ([105,110,115,101,114,116,32]++a.2.2.1++[32]++a.2.2.2.1++[32,111,102,32]++a.2.2.2.2.1)))=some ([105,110,115,101,114,116,32]++a.2.2.1++[32]++a.2.2.2.1++[32,111,102,32]++a.2.2.2.2.1++ovT a):=by
   unfold ovT;cases seq a.2.2.2.2.2.1 []
   .simp only[af,o7];rw[F8 F5,o8,F8 F5,o8];simp only[E5]
   .simp
  have lov:(ovT a).length<=90:=by unfold ovT;cases seq a.2.2.2.2.2.1 []<;>simp<;>omega
  have lpr:(prT a).length<=30:=by unfold prT;cases x8 a.2.2.2.2.2.2.1 0<;>simp<;>omega
  rw[F8 F5,o8,F8 F5,o8,F8 F5,o8,F8 F5,o8,F8 F5,o8,hov,o8];generalize hA:[105,110,115,101,114,116,32]++a.2.2.1++[32]++a.2.2.2.1++[32,111,102,32]++a.2.2.2.2.1++ovT a=A at*;have lA:A.length<=500:=by rw[←hA];simp;omega
  have hpr:(l7 (G5 0 a.2.2.2.2.2.2.1) (l9 (J8 A [32,112,114,105,111,32]) λ(x:List UInt8)=>l9 (some (Lib.itoa a.2.2.2.2.2.2.1)) λ(x_7:List UInt8)=>l9 (J8 x x_7) λ(x:List UInt8)=>some x) (some A))=some (A++prT a):=by
   unfold prT;rw[a4H hp0];cases G5 0 a.2.2.2.2.2.2.1
   .simp
   .simp only[o7,o8];rw[F8 F5,o8,F8 F5,o8];simp only[E5]
  rw[hpr,o8,F8 F5,o8,o8,F8 F5,o8];have hB:A++prT a++[32,102,114,111,109,32]++sF a.2.1=hdT a:=by rw[←hA];unfold hdT;simp only[E5]
  rw[hB];have tail:∀p:List UInt8,p.length<=200000->(l9 (some (vt,vc)) λ(x:List UInt8×Int)=>
                   l7 (D9 (x8 x.2 0)) (some (([]:List UInt8),x.2))
                    (l9 (J8 p [32,105,115,32]) λ(x_14:List UInt8)=>
                     l9 (J8 x_14 x.1) λ(x:List UInt8)=>
                      l7 (D9 (seq a.2.2.2.2.2.2.2.2.2.1 []))
                       (l9 (J8 x [32,115,114,99,32,34]) λ(x:List UInt8)=>
                        l9 (J8 x a.2.2.2.2.2.2.2.2.2.1) λ(x:List UInt8)=>
                         l9 (J8 x [34]) λ(x:List UInt8)=>some (x,(0:Int)))
                       (some (x,0))))=some (isT a p (nmS l s)):=λp hp=>by
   unfold isT;rw[hV];simp only[o8];cases x8 vc 0
   .rfl
   .simp only[J7,o6];rw[F8 F5,o8,F8 F5,o8];unfold srT;cases seq a.2.2.2.2.2.2.2.2.2.1 []
    .simp only[af,o7];rw[F8 F5,o8,F8 F5,o8,F8 F5,o8];simp only[E5]
    .simp
  cases G5 0 (o9 a.2.2.2.2.2.2.2.1)
  .simp only[o6];exact tail _ o5
  .simp only[o7,o8];cases x8 gc 0
   .rfl
   .simp only[J7,o6];rw[F8 F5,o8,F8 F5,o8];exact tail _ F5
end
end
section
def rwT(a:G6)(lo hi:List UInt8):List UInt8:=a.2.2.2.2.2.2.2.2.2.2.1++[32,102,114,111,109,32]++sF a.2.1++[32]++lo++[32]++hi
def rwE(l:X6)(t:dw)(a:G6)(lo hi:List UInt8):List UInt8×Int:=
 l7 (x8 a.1 4) ([114,101,112,101,97,108,114,111,119,32]++rwT a lo hi,0)
  (l7 (D9 (x8 (vfS a.2.2.2.2.2.2.2.2.2.2.2.2.2.2 t.2.2.1 l.1).2 0)) ([],(vfS a.2.2.2.2.2.2.2.2.2.2.2.2.2.2 t.2.2.1 l.1).2)
   ([105,110,115,101,114,116,114,111,119,32]++rwT a lo hi++[32]++(vfS a.2.2.2.2.2.2.2.2.2.2.2.2.2.2 t.2.2.1 l.1).1,0))
def Vo(l:X6)(a:G6):List UInt8×Int:=
 match J4 l.2.1 (nmI l.2.1 (λ(s:dw)=>s.1) a.2.2.2.2.2.2.2.2.2.2.1)with
 |none=>([],6)|some t=>l7 (D9 (x8 (vfS a.2.2.2.2.2.2.2.2.2.2.2.2.1 t.2.1 l.1).2 0)) ([],(vfS a.2.2.2.2.2.2.2.2.2.2.2.2.1 t.2.1 l.1).2)
   (l7 (D9 (x8 a.2.2.2.2.2.2.2.2.2.2.2.2.2.1 (D8 .i64 (bnd t.2.1 l.1).2 1)))
    (l7 (D9 (x8 (vfS a.2.2.2.2.2.2.2.2.2.2.2.2.2.1 t.2.1 l.1).2 0)) ([],(vfS a.2.2.2.2.2.2.2.2.2.2.2.2.2.1 t.2.1 l.1).2) (rwE l t a (vfS a.2.2.2.2.2.2.2.2.2.2.2.2.1 t.2.1 l.1).1 (vfS a.2.2.2.2.2.2.2.2.2.2.2.2.2.1 t.2.1 l.1).1))
    (rwE l t a (vfS a.2.2.2.2.2.2.2.2.2.2.2.2.1 t.2.1 l.1).1 [101,110,100]))
def c2w(a:G6):List UInt8:=[114,101,112,101,97,108,32]++a.2.2.1++[32]++a.2.2.2.1++[32,102,114,111,109,32]++sF a.2.1
def yE(l:X6)(a:G6):List UInt8×Int:=
 l7 (G5 a.1 1) ([],1) (l7 (G5 4 a.1) ([],1) (l7 (unS a) ([],2) (l7 (D9 (wnS a)) ([],2)
  (l7 (G5 a.2.1 0) ([],3) (l7 (G5 109572 a.2.1) ([],3) (l7 (G5 a.2.2.2.2.2.2.1 0) ([],3) (l7 (G5 9 a.2.2.2.2.2.2.1) ([],3)
   (l7 (x8 a.1 1) (a4k l a) (l7 (x8 a.1 2) (c2w a,0) (Vo l a))))))))))
variable {a:G6}
section
variable {l:X6} (hS:SmL l) (hF:FmL l)
include hS hF
theorem a7i(hw:AmW a)(ht:a.2.2.2.2.2.2.2.2.2.2.1.length<=80):wF l a=some (Vo l a)/\zY l a=some (Vo l a)/\(Vo l a).1.length<=400000:=by
 have hd5:=uU a.2.1;have hE:=b2c hF;unfold wF zY Vo;rw[WB _ (by have:=hS.few.2.1;omega),E_ _ (by have:=hS.few.2.1;omega),o8,o8];rcases Qb l.2.1 (λ(s:dw)=>s.1) a.2.2.2.2.2.2.2.2.2.2.1 with e|⟨i,t,e,-,-,ZF,hm⟩
 .rw[e];have:J4 l.2.1 (-1)=none:=CW (.inl rfl);rw[this];exact⟨rfl,rfl,A8⟩
 .rw[ZF,bU (by rw[e];omega),o6,o6,o8,o8];simp only;obtain⟨p1,r1,l1⟩:=a9y (l:=l) hE (t:=t.2.1) hw.lo;obtain⟨p2,r2,l2⟩:=a9y (l:=l) hE (t:=t.2.1) hw.hi;obtain⟨p3,r3,l3⟩:=a9y (l:=l) hE (t:=t.2.2.1) hw.rn;rw[p1,p2,p3,r1,r2,r3,Pz,Hr];unfold rwE;generalize vfS a.2.2.2.2.2.2.2.2.2.2.2.2.1 t.2.1 l.1=A at*;generalize vfS a.2.2.2.2.2.2.2.2.2.2.2.2.2.1 t.2.1 l.1=B at*;generalize vfS a.2.2.2.2.2.2.2.2.2.2.2.2.2.2 t.2.2.1 l.1=C at*;obtain⟨A1,A2⟩:=A;obtain⟨B1,B2⟩:=B;obtain⟨C1,C2⟩:=C;simp only at l1 l2 l3;simp only[o8];cases x8 A2 0
  .exact⟨rfl,rfl,A8⟩
  simp only[J7,o6];have tailP:∀hi:List UInt8,hi.length<=100->
    (l9 (J8 a.2.2.2.2.2.2.2.2.2.2.1 [32,102,114,111,109,32]) λ(x_3:List UInt8)=>
         l9 (pV a.2.1) λ(x_4:List UInt8)=>
          l9 (J8 x_3 x_4) λ(x_5:List UInt8)=>
           l9 (J8 x_5 [32]) λ(x_6:List UInt8)=>
            l9 (J8 x_6 A1) λ(x_7:List UInt8)=>
             l9 (J8 x_7 [32]) λ(x_8:List UInt8)=>
              l9 (J8 x_8 hi) λ(x_9:List UInt8)=>
               l7 (x8 a.1 4)
                (l9 (J8 [114,101,112,101,97,108,114,111,119,32] x_9)
                 λ(x:List UInt8)=>some (x,(0:Int)))
                (l7 (D9 (x8 C2 0)) (some ([],C2))
                  (l9 (J8 [105,110,115,101,114,116,114,111,119,32] x_9)
                   λ(x_10:List UInt8)=>
                   l9 (J8 x_10 [32]) λ(x_11:List UInt8)=>
                    l9 (J8 x_11 C1) λ(x:List UInt8)=>some (x,(0:Int)))))=
    some (l7 (x8 a.1 4) ([114,101,112,101,97,108,114,111,119,32]++rwT a A1 hi,0) (l7 (D9 (x8 C2 0)) ([],C2) ([105,110,115,101,114,116,114,111,119,32]++rwT a A1 hi++[32]++C1,0)))/\
    (l7 (x8 a.1 4) ([114,101,112,101,97,108,114,111,119,32]++rwT a A1 hi,(0:Int)) (l7 (D9 (x8 C2 0)) ([],C2) ([105,110,115,101,114,116,114,111,119,32]++rwT a A1 hi++[32]++C1,0))).1.length<=400000:=λhi hh=>by
   have lr:(rwT a A1 hi).length<=500:=by unfold rwT;simp;omega
   rw[F8 F5,o8,oC,o8,F8 F5,o8,F8 F5,o8,F8 F5,o8,F8 F5,o8,F8 F5,o8];rw[show a.2.2.2.2.2.2.2.2.2.2.1++[32,102,114,111,109,32]++sF a.2.1++[32]++A1++[32]++hi=rwT a A1 hi from rfl];cases x8 a.1 4
   .simp only[o6];cases x8 C2 0
    .exact⟨rfl,A8⟩
    .simp only[J7,o6];rw[F8 F5,o8,F8 F5,o8,F8 F5,o8];exact⟨rfl,by simp;omega⟩
   .simp only[o7];rw[F8 F5,o8];exact⟨rfl,by simp;omega⟩
  have hdf:pV a.2.1=qc a.2.1:=by rw[oC,wP]
  cases x8 a.2.2.2.2.2.2.2.2.2.2.2.2.2.1 (D8 .i64 (bnd t.2.1 l.1).2 1)
  .simp only[af,o7];cases x8 B2 0
   .exact⟨rfl,rfl,A8⟩
   .simp only[J7,o6,o8,X0];obtain⟨q1,q2⟩:=tailP B1 l2;refine⟨q1,?_,q2⟩;rw[←hdf];exact q1
  .simp only[J7,o6,o8,X0];obtain⟨q1,q2⟩:=tailP [101,110,100] A8;refine⟨q1,?_,q2⟩;rw[←hdf];exact q1
theorem Xe(hw:AmW a)(hf:AmF a):uS l a=some (yE l a)/\HY l a=some (yE l a)/\(yE l a).1.length<=400000:=by
 have hd5:=uU a.2.1;unfold uS HY yE;rw[Yc,Zc hw hf];cases g1:G5 a.1 1
 case true=>exact⟨rfl,rfl,A8⟩
 cases g2:G5 4 a.1
 case true=>exact⟨rfl,rfl,A8⟩
 have k1:=ql.1 g1;have k4:=ql.1 g2;rw[a7f k1 k4,Wx hw hf k1 k4];simp only[o6,o8,X0];cases unS a
 case true=>exact⟨rfl,rfl,A8⟩
 simp only[o6,Bool.not_false,J7,o8];cases hn:wnS a
 .exact⟨rfl,rfl,A8⟩
 simp only[J7,o6,o8,X0];cases G5 a.2.1 0
 case true=>exact⟨rfl,rfl,A8⟩
 cases G5 109572 a.2.1
 case true=>exact⟨rfl,rfl,A8⟩
 cases g3:G5 a.2.2.2.2.2.2.1 0
 case true=>exact⟨rfl,rfl,A8⟩
 cases G5 9 a.2.2.2.2.2.2.1
 case true=>exact⟨rfl,rfl,A8⟩
 have hp0:=ql.1 g3;simp only[o6,o8,X0];unfold wnS at hn;unfold qw;cases h1:x8 a.1 1
 .cases h2:x8 a.1 2
  .rw[h1,h2]at hn;have hid:oV a.2.2.2.2.2.2.2.2.2.2.1=true:=hn;obtain⟨r1,r2,r3⟩:=a7i hS hF hw (Uw hid);have hk:(l7 (x8 a.1 3) (some true) (some (x8 a.1 4)))=some true:=by
    have e1:=CQ.1 h1;have e2:=CQ.1 h2;have:∀k:Int,1<=k->k<=4->k≠1->k≠2->k=3\/k=4:=λk a b c d=>by omega
    rcases this a.1 k1 k4 e1 e2 with e|e<;>rw[e]<;>rfl
   rw[hk];simp only[o8,o7,o6,r1,r2];exact⟨by first|trivial|rfl,by first|trivial|rfl,r3⟩
  .rw[h1,h2]at hn;have hk:(l7 (x8 a.1 3) (some true) (some (x8 a.1 4)))=some false:=by rw[kX.1 h2];rfl
   rw[hk];simp only[o7,o6,A7]at hn;have i1:=Uw hn.1;have i2:=Uw hn.2;simp only[o8,o7,o6];refine⟨?_,?_,by unfold c2w;simp;omega⟩
   .rw[F8 F5,o8,F8 F5,o8,F8 F5,o8,F8 F5,o8,oC,o8,F8 F5,o8];rfl
   .rw[F8 F5,o8,F8 F5,o8,F8 F5,o8,F8 F5,o8,wP,o8,F8 F5,o8];rfl
 .rw[h1]at hn;have hk:(l7 (x8 a.1 3) (some true) (some (x8 a.1 4)))=some false:=by rw[kX.1 h1];rfl
  rw[hk];simp only[o7,A7,jB]at hn;obtain⟨⟨⟨⟨n1,n2⟩,n3⟩,n4⟩,n5⟩:=hn;have hi:AmI a:=⟨Uw n1,Uw n2,Uw n3,n4.elim (λe=>by rw[OY.1 e];simp) Uw⟩;obtain⟨p1,p2⟩:=a4l hS hF hw hf hi;simp only[o8,o7,o6,p1,a1v hS hF hw hf hi hp0];exact⟨by first|trivial|rfl,by first|trivial|rfl,p2⟩
end
def a3R(l:X6)(b:List UInt8)(a:G6):List UInt8⊕(List UInt8×Int):=l7 (x8 (yE l a).2 0) (.inl (b++(yE l a).1++[10])) (.inr ([],(yE l a).2))
def a9B(l:X6)(act:List G6):List UInt8×Int:=l7 (x8 (vY l).1 0) (match mJ (a3R l) act []with| .inl y=>l7 (G5 65536 (o9 y)) ([],4) (y,0)| .inr r=>r) ([],1)
theorem WR{l:X6} :∀(act:List G6) (b c:List UInt8),(b=c\/(65536<b.length/\65536<c.length))->
  (match mJ (λ(b:List UInt8) (a:G6)=>(l7 (x8 (yE l a).2 0) (.inl (l7 (O7 (o9 b) 65536) (b++(yE l a).1++[10]) b)) (.inr ([],(yE l a).2)):List UInt8⊕(List UInt8×Int))) act b with| .inl y=>l7 (G5 65536 (o9 y)) ([],4) (y,0)| .inr r=>r)=
  (match mJ (a3R l) act c with| .inl y=>l7 (G5 65536 (o9 y)) ([],4) (y,0)| .inr r=>r)
 |[],b,c,h=>by
  rcases h with rfl|⟨h1,h2⟩
  .rfl
  .unfold mJ;simp only;rw[dP (by unfold o9;omega),dP (by unfold o9;omega)];rfl
 |a::act,b,c,h=>by
  unfold mJ a3R;cases x8 (yE l a).2 0
  .rfl
  .simp only[o7];refine WR act _ _ ?_;rcases h with rfl|⟨h1,h2⟩
   .cases g:O7 (o9 b) 65536
    .right;have:=MX.1 g;unfold o9 at this;simp only[o6,H9,H5,ai];omega
    .exact .inl rfl
   .right;rw[dE (by unfold o9;omega)];simp only[o6,H9,H5,ai];omega
section
variable {l:X6} (hS:SmL l) (h:(vY l).1=0->FmL l) {act:List G6} (hl:act.length<=8) (hw:∀a∈act,AmW a) (hf:∀a∈act,AmF a)
include hS h hl hw hf
theorem a0p:uQ l act=some (a9B l act):=by
 unfold uQ a9B;rw[a0j hS,o8];cases g:x8 (vY l).1 0
 .rfl
 .have hv:=kX.1 g;rw[c7X hv];have hF:=h hv;show(l9 _ _)=_;rw[o7];refine Hg act (λ(b:List UInt8) (a:G6)=>(l7 (x8 (yE l a).2 0) (.inl (l7 (O7 (o9 b) 65536) (b++(yE l a).1++[10]) b)) (.inr ([],(yE l a).2)):List UInt8⊕(List UInt8×Int))) (λb i=>(b,i)) (λb=>b) (λi b=>b.length<=i*400001) [] o5 A8 (λi a b ha hi hb=>?_) (λb hb=>by simp only[P5,o6]) (λhq=>?_)
  .have hlt:=(aK.1 ha).1;obtain⟨p1,-,p3⟩:=Xe hS hF (hw a (rH ha)) (hf a (rH ha));simp only[P6 ha,o7,L9,ha,o8,p1];cases x8 (yE l a).2 0
   .exact⟨rfl,λb' e=>by cases e⟩
   .simp only[J7,o6,o7];unfold Fh;rw[o8];have hm:i*400001<=8*400001:=G8 _ o5;refine⟨?_,λb' e=>?_⟩
    .simp only[show((b.length:Nat):Int)=o9 b from rfl];cases O7 (o9 b) 65536
     .simp only[o6];rw[eY o5]
     .simp only[o7];rw[b1W o5,o8];simp only;rw[b1T F5,o8,eY o5]
    .have e:=Sum.inl.inj e;rw[←e];cases O7 (o9 b) 65536
     .rw[o6,I9,Z7];exact ak hb (gB _ _)
     .rw[o7,I9,Z7,H9,H9,show([10]:List UInt8).length=1 from rfl,dH];exact Nat.add_le_add hb o5
  .have hc:=WR (l:=l) act [] [] (.inl rfl);rw[←hc];generalize hz:mJ (λ(b:List UInt8) (a:G6)=>(l7 (x8 (yE l a).2 0) (.inl (l7 (O7 (o9 b) 65536) (b++(yE l a).1++[10]) b)) (.inr ([],(yE l a).2)):List UInt8⊕(List UInt8×Int))) act []=z at*;cases z with
   |inr r=>rfl|inl y=>have hy:=hq y rfl;have hm:act.length*400001<=8*400001:=G8 _ hl;simp only[X0,o8];unfold Fh;rw[o8];simp only[show((y.length:Nat):Int)=o9 y from rfl];rw[b1V o5];cases G5 65536 (o9 y)<;>rfl
theorem p_:BC l act=some (a9B l act):=by
 unfold BC Fg a9B;rw[Yt hS,o8,o8];cases g:x8 (vY l).1 0
 .rfl
 .have hF:=h (kX.1 g);simp only[J7,o6,o7];refine Hg act (a3R l) (λb i=>(b,i)) (λb=>b) (λi b=>b.length<=i*400001) [] o5 A8 (λi a b ha hi hb=>?_) (λb hb=>by simp only[P5,o6]) (λhq=>?_)
  .have hlt:=(aK.1 ha).1;obtain⟨-,p2,p3⟩:=Xe hS hF (hw a (rH ha)) (hf a (rH ha));simp only[P6 ha,o7,L9,ha,o8,p2];have hm:i*400001<=8*400001:=G8 _ o5;unfold a3R;cases x8 (yE l a).2 0
   .exact⟨rfl,λb' e=>by cases e⟩
   .simp only[J7,o6,o7];rw[F8 o5,o8,F8 F5,o8,eY o5];exact⟨rfl,λb' e=>by cases e;simp only[H9,H5,ai];omega⟩
  .cases mJ (a3R l) act []with
   |inr r=>rfl|inl y=>simp only[X0,o8];cases G5 65536 (o9 y)<;>rfl
end
def a0q(a:G6):Bool:=l7 (G5 60 (o9 a.2.2.2.2.2.2.2.1)) false (l7 (G5 60 (o9 a.2.2.2.2.2.2.2.2.1)) false (D9 (G5 200 (o9 a.2.2.2.2.2.2.2.2.2.1))))
theorem a9D(h:a0q a=true):AmF a:=by
 unfold a0q at h;obtain⟨h1,h⟩:=Bg h;obtain⟨h2,h⟩:=Bg h;have h3:G5 200 (o9 a.2.2.2.2.2.2.2.2.2.1)=false:=by revert h;cases G5 200 (o9 a.2.2.2.2.2.2.2.2.2.1)<;>intro h<;>first|rfl|cases h
 exact⟨dL (n:=60) h1,dL (n:=60) h2,dL (n:=200) h3⟩
theorem b1Z(act:List G6):∃b,BO act=some b/\(b=true->act.length<=8/\∀a∈act,AmF a):=by
 unfold BO;have key:=xn (f:=λ(x:Int)=>
   l7 (G5 x (o9 act))
    (l7 (G5 x 12)
     (l9 (J4 act x) λ(x_1:G6)=>
      l7 (G5 60 (o9 x_1.2.2.2.2.2.2.2.1)) (some (Out.rt false))
       (l9 (J4 act x) λ(x_2:G6)=>
        l7 (G5 60 (o9 x_2.2.2.2.2.2.2.2.2.1)) (some (Out.rt false))
         (l9 (J4 act x) λ(x_3:G6)=>
          l7 (G5 200 (o9 x_3.2.2.2.2.2.2.2.2.2.1)) (some (Out.rt false))
           (some (Out.nx (D8 IntKind.i64 x 1))))))
     (some (Out.ex PUnit.unit)))
    (some (Out.ex PUnit.unit))) (s:=0) (λx=>∃i:Nat,x=(i:Int)/\i<=12/\i<=act.length/\∀a∈act.take i,a0q a=true) (λ_=>act.length<=8->∀a∈act,a0q a=true) (λr=>r=false) (λx=>12 -x.toNat)
  ⟨0,rfl,o5,o5,A8⟩ A8 ?_
 .rcases key with⟨e,k1,k2⟩|⟨r,k1,k2⟩
  .refine⟨O7 (o9 act) 8,U8 k1 rfl,λhb=>?_⟩;have hl:act.length<=8:=by have:=yu.1 hb;unfold o9 at this;omega
   exact⟨hl,λa ha=>a9D (k2 hl a ha)⟩
  .exact⟨r,U8 k1 rfl,λhb=>by rw[k2]at hb;cases hb⟩
 .rintro x ⟨i,rfl,h1,h2,h3⟩;by_cases hi:i<act.length
  .by_cases h12:i<12
   .have e:=kN hi;simp only[P6 e,o7,dP (show(i:Int)<12 by omega),L9,e,o8];cases g:a0q act[i]
    .right;right;refine⟨false,?_,rfl⟩;unfold a0q at g;cases g1:G5 60 (o9 act[i].2.2.2.2.2.2.2.1)<;>rw[g1]at g
     .cases g2:G5 60 (o9 act[i].2.2.2.2.2.2.2.2.1)<;>rw[g2]at g
      .cases g3:G5 200 (o9 act[i].2.2.2.2.2.2.2.2.2.1)<;>rw[g3]at g
       .cases g
       .rfl
      .rfl
     .rfl
    .left;refine⟨((i+1:Nat):Int),?_,⟨i+1,rfl,h12,hi,λa ha=>?_⟩,by simp;omega⟩
     .unfold a0q at g;obtain⟨g1,g⟩:=Bg g;obtain⟨g2,g⟩:=Bg g;have g3:G5 200 (o9 act[i].2.2.2.2.2.2.2.2.2.1)=false:=by revert g;cases G5 200 (o9 act[i].2.2.2.2.2.2.2.2.2.1)<;>intro g<;>first|rfl|cases g
      rw[g1,g2,g3,eY o5];rfl
     .rw[X5 hi]at ha;rcases N8.1 ha with ha|ha
      .exact h3 a ha
      .rw[lT.1 ha];exact g
   .right;left;refine⟨PUnit.unit,?_,λhl=>by omega⟩;rw[dP (show(i:Int)<o9 act by unfold o9;omega),bU (show(12:Int)<=(i:Int) by omega)];rfl
  .right;left;have:i=act.length:=o5;subst this;rw[bu]at h3;exact⟨PUnit.unit,by rw[P5];rfl,λ_=>h3⟩
theorem a0s:gq=some true:=by decide+kernel
theorem Sr{l:X6}{act:List G6}(hW:WfL l)(hw:∀a∈act,AmW a):yx l act=some true:=by
 unfold yx
 rw[L_,o8];simp only[a0s,o8];cases h1:smL l
 case false=>rfl
 obtain⟨hS,-⟩:=b3p h1 hW;simp only[J7,o6];obtain⟨b,hb,hb2⟩:=b1Z act;rw[hb,o8];cases b with
 |false=>rfl|true=>obtain⟨hl,hf⟩:=hb2 rfl;simp only[J7,o6];rw[a0p hS (b1t h1 hW) hl hw hf,o8,p_ hS (b1t h1 hW) hl hw hf,o8];rw[OY.2 rfl,bF rfl];rfl
end
end Go.GP
namespace Go.GP
open Gt
abbrev yAm:Ty:=(.prod (.int .i64) (.prod (.int .i64) (.prod .str (.prod .str (.prod .str (.prod .str (.prod (.int .i64) (.prod (.sl (.prod (.int .i64) (.int .i64))) (.prod (.sl (.prod (.int .i64) (.int .i64))) (.prod .str (.prod .str (.prod (.prod (.int .i64) (.int .i64)) (.prod (.int .i64) (.prod (.int .i64) (.int .i64)))))))))))))))
theorem c7Z{a:G6}(h:wf yAm a):AmW a:=by
 refine⟨AP h.2.1,ak h.2.2.1 Dp,ak h.2.2.2.1 Dp,ak h.2.2.2.2.1 Dp,ak h.2.2.2.2.2.1 Dp,AP h.2.2.2.2.2.2.1,λn hn=>?_,λn hn=>?_,?_,?_,?_,?_⟩
 .exact AP (h.2.2.2.2.2.2.2.1.2 n hn).2
 .exact AP (h.2.2.2.2.2.2.2.2.1.2 n hn).2
 .exact ak h.2.2.2.2.2.2.2.2.2.2.1 Dp
 .exact AP h.2.2.2.2.2.2.2.2.2.2.2.2.1
 .exact AP h.2.2.2.2.2.2.2.2.2.2.2.2.2.1
 .exact AP h.2.2.2.2.2.2.2.2.2.2.2.2.2.2
theorem c7h{l:List G6}(h:wf (.sl yAm) l):∀a∈l,AmW a:=λa ha=>c7Z (h.2 a ha)
theorem Qg:∀x,a0k Gt.ps3 x->(Gt.s3.fn x:Option Bool)=some true:=λx h=>Sr (l:=x.1) (act:=x.2) (c7i h.1) (c7h h.2)
end Go.GP
