import Derived.Test.YtnkflamioafojaaGreatDoorV5
import Derived.Test.YtnkflamioafojaaGreatDoorV6
import Derived.Lib.IndexMore
set_option linter.all false
namespace Go.GP
open Gt
set_option maxRecDepth 100000
section
theorem b5A{d r:d2g}(hd:Dg d)(h:d≠[]):∃c t,d++r=c::t/\vM c=true/\sat (d++r) 0=some (c.toNat:Int):=by
 cases d with
 |nil=>exact absurd rfl h|cons c t=>exact⟨c,t++r,rfl,hd c A7,rfl⟩
theorem RI{d r:d2g}(hd:Dg d)(h:d≠[]):uj (d++r)=nT (d++r):=by
 obtain⟨c,t,-,hc,hs⟩:=b5A (r:=r) hd h;have hb:=LJ hc;have hlow:FI c=false:=by unfold FI;simp;omega
 unfold uj;rw[hs,o9,O5 o5,o6,FK,hlow,o9,o6,IK,hc,o9,o7,uS]
variable {r:d2g}{u:Nat}
theorem b7Q(hu:u<=1000000000000)(hr:HdN Wj r)(hr2:HdN (λc=>decide (c=45)) r)(hl:(Lib.decDigits u++r).length<=1000000):vI (2,Lib.decDigits u,(u:Int)) (Lib.decDigits u) r:=by
 have hd:=Cc u;have hlen:=qQ (u:=u) o5;have hne:Lib.decDigits u≠[]:=by intro e;rw[e]at hlen;simp at hlen
 have hz:NoZ (Lib.decDigits u):=by
  intro h1 c t e;refine ZZ u c t e ?_;rcases kK u 10 with h|h
  .rw[Lib.decDigits,dif_pos h]at h1;simp at h1
  .exact h
 have hv:=DJ u;generalize Lib.decDigits u=d at*;have hrd:HdN vM r:=λc t e=>by have:=hr c t e;unfold Wj at this;simp only[cu]at this;exact this.1.1.2
 have hr46:HdN (λc=>decide (c=46)) r:=λc t e=>by have:=hr c t e;unfold Wj at this;simp only[cu]at this;exact this.2
 unfold vI;rw[RI hd hne];unfold nT;rw[Xb hd hrd hr2 hl,o9,V7,o7];have e0:=qR hl 0 o5;rw[bJ,Ky hd hrd,show((0:Nat):Int)=0 from rfl]at e0;have hs:gm (d++r) (d.length:Int) (x8 (d++r))=some r:=by rw[pK o5 F9,J7,X4]
 have hdec:∀k,lZ r k=some false:=by
  intro k;unfold lZ bI kT Lib.hasPrefix;have:[46].isPrefixOf r=false:=by
   cases r with
   |nil=>rfl
   |cons c t=>have:=hr46 c t rfl;simp only[decide_eq_false_iff_not]at this;simp[List.isPrefixOf];exact λh=>this h.symm
  rw[this];rfl
 rw[e0,o9,hs,o9,hdec,o9,o6,o9,hdec,o9,o6,o9];refine V5 (PS hz hne _ _) ?_;rw[o9,X8];have hn:kw 2 d=some ((u:Int),0):=by unfold kw nU;simp (disch:=decide) only[O5,o6];rw[a9M hd hne hz o5 o5,o9,o9,hv,O9 rfl,o7,X5 (by simp only;omega)];rfl
 exact Vo hr hl hn
theorem qU{u k:Nat}(hu:u<18446744073709551616)(hk:1<=k/\k<=9):∃d f,vO u k=d++46::f/\Dg d/\Dg f/\d≠[]/\NoZ d/\f.length=k/\oI 0 (d++f)=u/\d.length<=20:=by
 have hl:=qQ hu;generalize hD:List.replicate (k+1 -(Lib.decDigits u).length) 48++Lib.decDigits u=D;have hDl:k+1<=D.length/\D.length<=31:=by rw[←hD];simp;omega
 have hDg:Dg D:=by
  rw[←hD];intro c hc;rcases J6.1 hc with hc|hc
  .have:=List.eq_of_mem_replicate hc;subst this;decide
  .exact Cc u c hc
 refine⟨D.take (D.length -k),D.drop (D.length -k),?_,λc hc=>hDg c (su hc),λc hc=>hDg c (List.mem_of_mem_drop hc),?_,?_,by simp;omega,?_,?_⟩
 .unfold vO;simp only[hD]
 .intro e;have:=congrArg List.length e;simp at this;omega
 .intro h1 c t e;have h1' :k+1<D.length:=by simp at h1;omega
  have hz0:k+1 -(Lib.decDigits u).length=0:=by rw[←hD]at h1';simp at h1';omega
  rw[hz0,List.replicate_zero,G9]at hD;have h10:10<=u:=by
   rcases kK u 10 with h|h
   .rw[←hD,Lib.decDigits,dif_pos h]at h1';simp at h1'
   .exact h
  cases hDD:D with
  |nil=>rw[hDD]at h1';simp at h1'|cons c' t' =>
   rw[hDD]at e;have:c' =c:=by rw[show(c' ::t').length -k=((c' ::t').length -k -1)+1 by rw[hDD]at h1';omega,List.take_succ_cons]at e;exact(P8 e).1
   rw[←this];exact ZZ u c' t' (hD.trans hDD) h10
 .rw[iG,←hD,DI];have:∀z,oI 0 (List.replicate z 48)=0:=by
   intro z;induction z with
   |zero=>rfl|succ z ih=>rw[kV];show oI (10*0+0) (List.replicate z 48)=0;exact ih
  rw[this,DJ]
 .simp;rw[←hD];simp;omega
theorem c1c(x:d2g):bI (46::x) [46]=some true:=by unfold bI kT Lib.hasPrefix;simp[List.isPrefixOf]
theorem a3t{f r:d2g}(hf:Dg f)(hr:HdN vM r)(k:Int)(hl:(46::(f++r)).length<=1000000):lZ (46::(f++r)) k=some (x9 (f.length:Int) k):=by unfold lZ;have e:=qR hl 1 o5;rw[show(46::(f++r)).drop 1=f++r from rfl,Ky hf hr,show((1:Nat):Int)=1 from rfl]at e;rw[c1c,o9,o7,e,o9]
theorem b1r(hu:u<=1000000000000000)(hr:HdN Wj r)(hl:(vO u 2++r).length<=1000000):vI (3,vO u 2,(u:Int)) (vO u 2) r:=by
 obtain⟨d,f,e,hd,hf,hne,hz,hfl,hv,hdl⟩:=qU (u:=u) (k:=2) o5 o5;rw[e]at hl ⊢;have hrd:HdN vM r:=λc t e=>by have:=hr c t e;unfold Wj at this;simp only[cu]at this;exact this.1.1.2
 have hs46:HdN vM (46::f++r):=λc t e=>by cases e;rfl
 have hs45:HdN (λc=>decide (c=45)) (46::f++r):=λc t e=>by cases e;rfl
 have hl' :(d++(46::f++r)).length<=1000000:=by rw[←E5];exact hl
 unfold vI;rw[E5,RI hd hne];unfold nT;rw[Xb hd hs46 hs45 hl',o9,V7,o7];have e0:=qR hl' 0 o5;rw[bJ,Ky hd hs46,show((0:Nat):Int)=0 from rfl]at e0;have hs:gm (d++(46::f++r)) (d.length:Int) (x8 (d++(46::f++r)))=some (46::(f++r)):=by rw[pK o5 F9,J7,X4];rfl
 have hl2:(46::(f++r)).length<=1000000:=by simp at hl' ⊢;omega
 rw[e0,o9,hs,o9,a3t hf hrd 2 hl2,o9,hfl,show x9 ((2:Nat):Int) 2=true from rfl,o7,o9];refine V5 (PS hz hne _ _) ?_;rw[o9,X8];have hn:kw 3 (d++46::f)=some ((u:Int),0):=by unfold kw fH;simp (disch:=decide) only[O5,O9,o6,o7];have hp:=a4g hd hf hne hz o5 o5 o5;rw[hfl,hv]at hp;rw[show jf 2=some ((2:Nat):Int)from rfl,o9,hp,o9,o9,O9 rfl,o7,X5 (by simp only;omega)];rfl
 have hlen:E9 .i64 (d.length:Int) 3=((d++46::f).length:Int):=by rw[dP bn];simp;omega
 have:=Vo (w:=d++46::f) hr hl hn;rw[E5]at this;simp only[hlen];exact this
theorem b4V(hu:u<=1000000000)(hr:HdN Wj r)(hl:(vO u 4++[37]++r).length<=1000000):vI (4,vO u 4++[37],(u:Int)) (vO u 4++[37]) r:=by
 obtain⟨d,f,e,hd,hf,hne,hz,hfl,hv,hdl⟩:=qU (u:=u) (k:=4) o5 o5;rw[e]at hl ⊢;have hs46:HdN vM (46::f++[37]++r):=λc t e=>by cases e;rfl
 have hs45:HdN (λc=>decide (c=45)) (46::f++[37]++r):=λc t e=>by cases e;rfl
 have hre:HdN vM ([37]++r):=λc t e=>by cases e;rfl
 have hq:d++46::f++[37]++r=d++(46::f++[37]++r):=A7;have hl' :(d++(46::f++[37]++r)).length<=1000000:=by rw[←hq];exact hl
 unfold vI;rw[hq,RI hd hne];unfold nT;rw[Xb hd hs46 hs45 hl',o9,V7,o7];have e0:=qR hl' 0 o5;rw[bJ,Ky hd hs46,show((0:Nat):Int)=0 from rfl]at e0;have hs:gm (d++(46::f++[37]++r)) (d.length:Int) (x8 (d++(46::f++[37]++r)))=some (46::(f++([37]++r))):=by rw[pK o5 F9,J7,X4];simp
 have hs5:gm (d++(46::f++[37]++r)) (E9 .i64 (d.length:Int) 5) (x8 (d++(46::f++[37]++r)))=some (37::r):=by rw[show E9 .i64 (d.length:Int) 5=((d.length+5:Nat):Int) by rw[dP bn];omega];rw[pK o5 F9,J7,show d.length+5=(d++46::f).length by simp;omega,show d++(46::f++[37]++r)=(d++46::f)++(37::r) by simp,X4]
 have hl2:(46::(f++([37]++r))).length<=1000000:=by simp at hl' ⊢;omega
 have h37:bI (37::r) [37]=some true:=by unfold bI kT Lib.hasPrefix;simp[List.isPrefixOf]
 rw[e0,o9,hs,o9,a3t hf hre 2 hl2,o9,hfl,show x9 ((4:Nat):Int) 2=false from rfl,o6,o9,a3t hf hre 4 hl2,o9,hfl,show x9 ((4:Nat):Int) 4=true from rfl,o7,hs5,o9,h37,o9,o7,o9];refine V5 (PS hz hne _ _) ?_;rw[o9,X8];have hn:kw 4 (d++46::f++[37])=some ((u:Int),0):=by
  unfold kw fH;simp (disch:=decide) only[O5,O9,o6,o7];have hp:=a4g hd hf hne hz o5 o5 o5;rw[hfl,hv]at hp;have hcut:gm (d++46::f++[37]) 0 (N7 .i64 (x8 (d++46::f++[37])) 1)=some (d++46::f):=by rw[di (by unfold jg x8;simp;omega),Bg (by unfold x8;simp;omega) (by unfold x8;simp;omega)];congr 1;rw[show(x8 (d++46::f++[37]) -1).toNat=(d++46::f).length by unfold x8;simp;omega,aI]
  rw[hcut,o9,show jf 4=some ((4:Nat):Int)from rfl,o9,hp,o9,o9,O9 rfl,o7,X5 (by simp only;omega)];rfl
 have hlen:E9 .i64 (d.length:Int) 6=((d++46::f++[37]).length:Int):=by rw[dP bn];simp;omega
 have:=Vo (w:=d++46::f++[37]) hr hl hn;rw[hq]at this;simp only[hlen];exact this
theorem b5I(y:Int):∀(n:Nat) (d:Int),n<=12->0<=d->d<rem y n->
  JJ y (12 -n)+d=JJ y ((mo y n d).2 -1).toNat+(mo y n d).1
 |0,d,_,h0,h=>by simp[rem]at h;omega|n+1,d,hn,h0,h=>by
  have e:dim y (12 -(n:Int))=dim y (((12 -(n+1):Nat):Int)+1):=by congr 1;omega
  have hs:JJ y (12 -n)=JJ y (12 -(n+1))+dim y (12 -(n:Int)):=by rw[e,show 12 -n=(12 -(n+1))+1 by omega];rfl
  rw[D_];by_cases hd:d<dim y (12 -(n:Int))
  .rw[if_pos hd];show JJ y (12 -(n+1))+d=JJ y (12 -(n:Int) -1).toNat+d;congr 2;omega
  .rw[if_neg hd];have h2:d -dim y (12 -(n:Int))<rem y n:=by
    have e2:rem y (n+1)=dim y (12 -(n:Int))+rem y n:=rfl;omega
   have:=b5I y n (d -dim y (12 -(n:Int))) o5 o5 h2;omega
variable {d:Int}
theorem c0r(h0:0<=d)(h:d<=109572):(ymd d).2.2<=dim (ymd d).1 (ymd d).2.1:=by
 have hy:=NH h0 h;have hr:d -ys (yOf d)<rem (yOf d) 12:=by rw[a1W];have:=Ib (yOf d);omega
 have:=a6e (yOf d) 12 (d -ys (yOf d)) o5 o5 hr;show(mo (yOf d) 12 (d -ys (yOf d))).1+1<=dim (yOf d) (mo (yOf d) 12 (d -ys (yOf d))).2;omega
theorem b3x(h0:0<=d)(h:d<=109572):c0P (ymd d).1 (ymd d).2.1 (ymd d).2.2=d:=by
 have hy:=NH h0 h;have hr:d -ys (yOf d)<rem (yOf d) 12:=by rw[a1W];have:=Ib (yOf d);omega
 have:=b5I (yOf d) 12 (d -ys (yOf d)) o5 o5 hr;have e0:JJ (yOf d) (12 -12)=0:=rfl;show ys (yOf d)+JJ (yOf d) ((mo (yOf d) 12 (d -ys (yOf d))).2 -1).toNat+((mo (yOf d) 12 (d -ys (yOf d))).1+1) -1=d;omega
variable {n:Int}
theorem x_(h:0<=n):Lib.itoa n=Lib.decDigits n.toNat:=by unfold Lib.itoa;rw[if_neg o5]
theorem c0o:∀k:Fin 32,(Lib.decDigits k.val).length=if k.val<10 then 1 else 2:=by
 intro k;rcases kK k.val 10 with h|h
 .rw[Lib.decDigits,dif_pos h,if_pos h];rfl
 .rw[Lib.decDigits,dif_neg o5,if_neg o5,Lib.decDigits,dif_pos (show k.val / 10<10 by omega)];rfl
theorem b3A(u:Nat)(h1:1000<=u)(h2:u<10000):(Lib.decDigits u).length=4:=by rw[Lib.decDigits,dif_neg o5,Lib.decDigits,dif_neg o5,Lib.decDigits,dif_neg o5,Lib.decDigits,dif_pos o5];rfl
theorem d2b(z:Nat)(l:d2g):oI 0 (List.replicate z 48++l)=oI 0 l:=by
 induction z with
 |zero=>rfl|succ z ih=>rw[kV,I7];show oI (10*0+0) _=_;exact ih
theorem Oa(w:Nat)(h0:0<=n):oI 0 (Jd n w)=n.toNat/\Dg (Jd n w):=by
 unfold Jd;rw[x_ h0];refine⟨by rw[d2b,DJ],λc hc=>?_⟩;rcases J6.1 hc with hc|hc
 .have:=List.eq_of_mem_replicate hc;subst this;decide
 .exact Cc _ c hc
theorem a6k(h0:0<=n)(h1:n<=31):(Jd n 2).length=2:=by unfold Jd;rw[x_ h0];have hl:=c0o ⟨n.toNat,o5⟩;dsimp only at hl;rw[C9,xI,hl];split<;>omega
theorem b5J(h0:1000<=n)(h1:n<10000):(Jd n 4).length=4:=by unfold Jd;rw[x_ o5];rw[C9,xI,b3A _ o5 o5]
def ddF(x:Int×d2g×Int):Option (Out (Int×d2g×Int) Int (Int×Bool)):=
   l7 (H5 x.2.2 (x8 x.2.1))
    (l7 (H5 (vF x.2.1 x.2.2) 48) (some (Out.rt (0,false)))
     (l7 (H5 57 (vF x.2.1 x.2.2)) (some (Out.rt (0,false)))
      (some
       (Out.nx
        (E9 IntKind.i64 (nN IntKind.i64 x.1 10)
          (wrap IntKind.i64 (N7 IntKind.i32 (vF x.2.1 x.2.2) 48)),
         x.2.1,zi x.2.1 x.2.2)))))
    (some (Out.ex x.1))
theorem a8J{s:d2g} :∀(g pre:d2g) (v m:Nat),s=pre++g->Dg g->oI v g<=100000000000000000->iy ddF (m+1+g.length) ((v:Int),s,(pre.length:Int))=some (.inl (oI v g:Int))
 |[],pre,v,m,h,hg,hv=>by rw[F6]at h;subst h;rw[I8,bH,dM];unfold ddF;simp only[af s,o6];rfl|c::g,pre,v,m,h,hg,hv=>by
  have hc:s[pre.length]? =some c:=by rw[h,F8 (G5 _),aN];rfl
  have hb:=LJ (hg c A7);obtain⟨r1,r2⟩:=EL hc o5;have hv1:=RU g (10*v+(c.toNat -48));rw[show oI v (c::g)=oI (10*v+(c.toNat -48)) g from rfl]at hv;have hw:wrap .i64 (N7 .i32 (c.toNat:Int) 48)=((c.toNat -48:Nat):Int):=by
   have h1:N7 .i32 (c.toNat:Int) 48=((c.toNat -48:Nat):Int):=by unfold N7 IntKind.wrap;simp[IntKind.signed,IntKind.bits];omega
   rw[h1];exact BI bn
  have st:ddF ((v:Int),s,(pre.length:Int))=some (.nx (((10*v+(c.toNat -48):Nat):Int),s,((pre.length+1:Nat):Int))):=by unfold ddF;simp only[X9 hc,o7,r1,r2,hw];rw[X5 o5,o6,X5 o5,o6,LX bn,dP bn];congr 3;omega
  rw[D5,show m+1+(g.length+1)=(m+1+g.length)+1 by omega,dM,st];have:=a8J (s:=s) g (pre++[c]) (10*v+(c.toNat -48)) m (by rw[h];simp) (λd hd=>hg d (by simp[hd])) hv;rw[show(pre++[c]).length=pre.length+1 by simp]at this;exact this
theorem SB{g:d2g}(hg:Dg g)(hv:oI 0 g<=100000000000000000)(hl:g.length<=1000):Ae g=some ((oI 0 g:Int),true):=by
 unfold Ae;have:O6 ddF (0,g,0)=some (.inl (oI 0 g:Int)):=by unfold O6;rw[show aH=(aH -1 -g.length)+1+g.length by unfold aH;omega];exact a8J (s:=g) g [] 0 _ rfl hg hv
 refine V5 this ?_;rfl
theorem Jr(h0:0<=d)(h:d<=109572):BZ (W9 d)=some (d,0):=by
 have hb:=XU h0 h;have l1:=b5J (n:=(ymd d).1) o5 o5;have l2:=a6k (n:=(ymd d).2.1) o5 o5;have l3:=a6k (n:=(ymd d).2.2) o5 o5;obtain⟨v1,g1⟩:=Oa (n:=(ymd d).1) 4 o5;obtain⟨v2,g2⟩:=Oa (n:=(ymd d).2.1) 2 o5;obtain⟨v3,g3⟩:=Oa (n:=(ymd d).2.2) 2 o5;unfold W9;rw[if_pos ⟨h0,h⟩];have hfr:yz (ymd d).1 (ymd d).2.1 (ymd d).2.2=some (d,0):=by rw[a3K o5 o5 o5 (c0r h0 h),b3x h0 h]
 generalize Jd (ymd d).1 4=A at*;generalize Jd (ymd d).2.1 2=B at*;generalize Jd (ymd d).2.2 2=C at*;unfold BZ;have hs:A++45::B++45::C=A++(45::(B++(45::C))):=A7;rw[hs];have e4:sat (A++(45::(B++(45::C)))) 4=some 45:=by rw[show(4:Int)=((4:Nat):Int)from rfl,vX,F8 o5,l1];rfl
 have e7:sat (A++(45::(B++(45::C)))) 7=some 45:=by rw[show(7:Int)=((7:Nat):Int)from rfl,vX,F8 o5,l1,show 7 -4=2+1 from rfl,lq,F8 o5,l2];rfl
 have q1:gm (A++(45::(B++(45::C)))) 0 4=some A:=by rw[Bg o5 F9,show(4:Int).toNat=A.length by omega,aI]
 have q2:gm (A++(45::(B++(45::C)))) 5 7=some B:=by rw[Vl o5 o5 F9];rw[show A++(45::(B++(45::C)))=(A++[45])++(B++(45::C)) by simp,show(7:Int).toNat=(A++[45]).length+B.length by simp;omega,List.take_length_add_append,show(5:Int).toNat=(A++[45]).length by simp;omega,X4,aI]
 have q3:gm (A++(45::(B++(45::C)))) 8 (x8 (A++(45::(B++(45::C)))))=some C:=by rw[pK o5 F9];rw[show A++(45::(B++(45::C)))=(A++[45]++B++[45])++C by simp,show(8:Int).toNat=(A++[45]++B++[45]).length by simp;omega,X4]
 rw[show x9 (x8 (A++(45::(B++(45::C))))) 10=true from O9 (by unfold x8;simp;omega),G8,o6,e4,o9,O9 rfl,G8,o6,e7,o9,O9 rfl,G8,o6,o9,X8];rw[q1,o9,SB g1 o5 o5,o9,q2,o9,SB g2 o5 o5,o9,q3,o9,SB g3 o5 o5,o9,G8,o6,o6,o6,v1,v2,v3];rw[show(((ymd d).1.toNat:Nat):Int)=(ymd d).1 by omega,show(((ymd d).2.1.toNat:Nat):Int)=(ymd d).2.1 by omega,show(((ymd d).2.2.toNat:Nat):Int)=(ymd d).2.2 by omega,hfr,o9]
theorem NQ(h0:0<=d)(h:d<=109572):∃A B C:d2g,W9 d=A++(45::(B++(45::C)))/\A.length=4/\B.length=2/\C.length=2/\Dg A/\Dg B/\Dg C:=by have hb:=XU h0 h;refine⟨Jd (ymd d).1 4,Jd (ymd d).2.1 2,Jd (ymd d).2.2 2,?_,b5J o5 o5,a6k o5 o5,a6k o5 o5,(Oa 4 o5).2,(Oa 2 o5).2,(Oa 2 o5).2⟩;unfold W9;rw[if_pos ⟨h0,h⟩];simp
theorem b4U(h0:0<=n)(h:n<=109572)(hr:HdN Wj r)(hl:(W9 n++r).length<=1000000):vI (5,W9 n,n) (W9 n) r:=by
 obtain⟨A,B,C,e,a1,a2,a3,a4,a5,a6⟩:=NQ h0 h;have hp:=Jr h0 h;rw[e]at hl hp ⊢;have hne:A≠[]:=by intro e;rw[e]at a1;simp at a1
 have hrd:HdN vM r:=λc t e=>by have:=hr c t e;unfold Wj at this;simp only[cu]at this;exact this.1.1.2
 have hq:A++(45::(B++(45::C)))++r=A++(45::(B++(45::(C++r)))):=A7;unfold vI;have hl' :(A++(45::(B++(45::(C++r))))).length<=1000000:=by rw[←hq];exact hl
 rw[hq,RI a4 hne];unfold nT;have hdf:qY (A++(45::(B++(45::(C++r)))))=some true:=by
  unfold qY;have e0:=qR hl' 0 o5;rw[bJ,Ky a4 (λc t e=>by cases e;rfl),show((0:Nat):Int)=0 from rfl]at e0;have d5:(A++(45::(B++(45::(C++r))))).drop 5=B++(45::(C++r)):=by rw[show A++(45::(B++(45::(C++r))))=(A++[45])++(B++(45::(C++r))) by simp];exact List.drop_left' F9
  have d8:(A++(45::(B++(45::(C++r))))).drop 8=C++r:=by rw[show A++(45::(B++(45::(C++r))))=(A++[45]++B++[45])++(C++r) by simp];exact List.drop_left' F9
  have e5:kW (A++(45::(B++(45::(C++r))))) 5=some (B.length:Int):=by have t:=qR hl' 5 o5;rw[d5,Ky a5 (λc t e=>by cases e;rfl)]at t;exact t
  have e8:kW (A++(45::(B++(45::(C++r))))) 8=some (C.length:Int):=by have t:=qR hl' 8 o5;rw[d8,Ky a6 hrd]at t;exact t
  have s4:sat (A++(45::(B++(45::(C++r))))) 4=some 45:=by rw[show(4:Int)=((4:Nat):Int)from rfl,vX,F8 o5,a1];rfl
  have s7:sat (A++(45::(B++(45::(C++r))))) 7=some 45:=by rw[show(7:Int)=((7:Nat):Int)from rfl,vX,F8 o5,a1,show 7 -4=2+1 from rfl,lq,F8 o5,a2];rfl
  rw[e0,o9,a1,show x9 ((4:Nat):Int) 4=true from rfl,o7,e5,o9,a2,show x9 ((2:Nat):Int) 2=true from rfl,o7,e8,o9,a3,show P7 2 ((2:Nat):Int)=true from rfl,o7,s4,o9,O9 rfl,o7,s7,o9,O9 rfl]
 rw[hdf,o9,G8,o6,o9,X8];have hn:kw 5 (A++(45::(B++(45::C))))=some (n,0):=by unfold kw;simp (disch:=decide) only[O9,o7];rw[hp,o9,O9 rfl,o7,X5 (by simp only;omega)];rfl
 have:=Vo (w:=A++(45::(B++(45::C)))) hr hl hn;rw[hq]at this;have hlen:((A++(45::(B++(45::C)))).length:Int)=10:=by simp;omega
 rw[hlen]at this ⊢;exact this
abbrev It:Type:=Option Y3
def dB:List It->d2g
 |[]=>[]|none::L=>32::dB L|some k::L=>k.2.1++dB L
theorem qy:∀A B:List It,dB (A++B)=dB A++dB B
 |[],B=>rfl|none::A,B=>by rw[I7];simp only[dB];rw[qy A B];rfl|some k::A,B=>by rw[I7];simp only[dB];rw[qy A B,E5]
def yg(L:List It):List Y3:=L.filterMap id
theorem gU(A B:List It):yg (A++B)=yg A++yg B:=List.filterMap_append
def b4Y(c:UInt8):Bool:=decide (c=32) || decide (c=40) || decide (c=41) || decide (c=44) || decide (c=58)
def HdS(r:d2g):Prop:=∀c t,r=c::t->b4Y c=true
variable {c:UInt8}
theorem a8d(h:b4Y c=true):c=32\/c=40\/c=41\/c=44\/c=58:=by unfold b4Y at h;simp only[gJ,decide_eq_true_eq]at h;rcases h with(((h|h)|h)|h)|h<;>simp[h]
theorem a5M{P:UInt8->Bool}(h:HdS r)(h1:P 32=false)(h2:P 40=false)(h3:P 41=false)(h4:P 44=false)(h5:P 58=false):HdN P r:=by intro c t e;rcases a8d (h c t e)with rfl|rfl|rfl|rfl|rfl<;>assumption
theorem a8X(h:HdS r):HdN uz r:=a5M h D9 D9 D9 D9 D9
theorem Vg(h:HdS r):HdN Wj r:=a5M h D9 D9 D9 D9 D9
theorem b6y(h:HdS r):HdN (λc=>decide (c=45)) r:=a5M h D9 D9 D9 D9 D9
theorem b6z(h:HdS r):HdN (λc=>decide (c=61)) r:=a5M h D9 D9 D9 D9 D9
def a1h(k:Y3):Prop:=∃c:UInt8,(c=40\/c=41\/c=44\/c=58\/c=43\/c=45\/c=42)/\k=(7,[c],0)
def prB(c:UInt8):Bool:=decide (32<=c.toNat)&&decide (c.toNat<=126)
structure TokOk (k:Y3):Prop where
 pr:∀c∈k.2.1,prB c=true
 ne:∃c t,k.2.1=c::t/\Sl c=false
 sc:a1h k\/∀r,HdS r->(k.2.1++r).length<=1000000->vI k k.2.1 r
def WSR:List It->d2g->Prop
 |[],_=>True|none::L,R=>HdN Sl (dB L++R)/\WSR L R|some k::L,R=>TokOk k/\(a1h k\/HdS (dB L++R))/\WSR L R
theorem a0D:∀(A B:List It) (R:d2g),WSR A (dB B++R)->WSR B R->WSR (A++B) R
 |[],B,R,_,h=>h|none::A,B,R,h,h2=>by refine⟨?_,a0D A B R h.2 h2⟩;show HdN Sl (dB (A++B)++R);rw[qy,E5];exact h.1|some k::A,B,R,h,h2=>by refine⟨h.1,?_,a0D A B R h.2.2 h2⟩;show a1h k\/HdS (dB (A++B)++R);rw[qy,E5];exact h.2.1
def yU:Nat->List It->List dw
 |_,[]=>[]|o,none::L=>yU (o+1) L|o,some k::L=>(k.1,k.2.1,k.2.2,(o:Int))::yU (o+k.2.1.length) L
theorem He:∀(L:List It) (o:Nat),(yU o L).map (λx=>((x.1,x.2.1,x.2.2.1):Y3))=yg L
 |[],o=>rfl|none::L,o=>by show(yU (o+1) L).map _=_;rw[He L (o+1)];rfl|some k::L,o=>by show _::(yU (o+k.2.1.length) L).map _=_;rw[He L];rfl
theorem a7R:∀(L:List It) (o:Nat),(yU o L).length=(yg L).length:=λL o=>by rw[←He L o,U0]
def tkF(a0:d2g)(x:List dw×Int):Option (Out (List dw×Int) (List dw) (List dw×Int×Int)):=
     l7 (H5 x.2 (x8 a0))
      (l9 (gm a0 x.2 (x8 a0)) λ(x_1:d2g)=>
       l9 (uj x_1) λ(x_2:dw×rf)=>
        l7 (G6 (x9 x_2.2.2 0)) (some (Out.rt ([],x.2,x_2.2.2)))
         (l9 (bF x.1 [(x_2.1.1,x_2.1.2.1,x_2.1.2.2.1,x.2)]) λ(x_3:List dw)=>
          l9 (uk a0 (E9 IntKind.i64 x.2 x_2.2.1)) λ(x:Int)=>some (Out.nx (x_3,x))))
      (some (Out.ex x.1))
variable {L:List It}
theorem a6N(h:WSR L [])(hn:∀M,L≠none::M):HdN Sl (dB L):=by
 cases L with
 |nil=>intro c t e;cases e|cons a L=>
  cases a with
  |none=>exact absurd rfl (hn L)|some k=>obtain⟨c,t,e,hb⟩:=h.1.ne;intro x y e2;simp only[dB,e,I7,G7]at e2;rw[←e2.1];exact hb
theorem b2W{k:Y3}(h:TokOk k)(h2:a1h k\/HdS r)(hl:(k.2.1++r).length<=1000000):vI k k.2.1 r:=by
 rcases h.sc with⟨c,hc,rfl⟩|hs
 .exact a2n hc r
 .rcases h2 with⟨c,hc,rfl⟩|h2
  .exact a2n hc r
  .exact hs r h2 hl
theorem RQ{s:d2g}(hs:s.length<=65536):∀(L:List It) (pre:d2g) (acc:List dw) (m:Nat),s=pre++dB L->WSR L []->(∀M,L≠none::M)->acc.length+L.length<=1000000->
  iy (tkF s) (m+L.length+1) (acc,(pre.length:Int))=some (.inl (acc++yU pre.length L))
 |[],pre,acc,m,h,hw,hn,ha=>by rw[dB,F6]at h;subst h;rw[dM];unfold tkF;simp only[af s,o6];rw[show yU s.length []=[]from rfl,F6]|none::L,pre,acc,m,h,hw,hn,ha=>absurd rfl (hn L)|some k::L,pre,acc,m,h,hw,hn,ha=>by
  have hlen:=congrArg List.length h;simp only[dB,C9]at hlen;obtain⟨h1,h2,h3⟩:=hw;rw[F6]at h2;have hkl:1<=k.2.1.length:=by obtain⟨c,t,e,-⟩:=h1.ne;rw[e];simp
  have hsc:=b2W h1 h2 F9;unfold vI at hsc;have hsub:gm s (pre.length:Int) (x8 s)=some (k.2.1++dB L):=by rw[pK o5 o5,J7,h,X4];rfl
  simp only[D5]at ha;have hat:E9 .i64 (pre.length:Int) (k.2.1.length:Int)=((pre.length+k.2.1.length:Nat):Int):=by rw[dP bn];omega
  rw[show m+(some k::L).length+1=(m+L.length+1)+1 by simp;omega,dM];have key:∀j:Nat,uk s ((pre.length+k.2.1.length:Nat):Int)=some (j:Int)->tkF s (acc,(pre.length:Int))=some (.nx (acc++[(k.1,k.2.1,k.2.2,(pre.length:Int))],(j:Int))):=by intro j hj;unfold tkF;simp only[bT (show(pre.length:Int)<x8 s by unfold x8;omega),o7,hsub,o9,hsc,O9 (rfl:(0:Int)=0),G8,o6];rw[qV _ o5,o9,hat,hj,o9]
  have hfin:∀M:List It,yU pre.length (some k::L)=(k.1,k.2.1,k.2.2,(pre.length:Int))::yU (pre.length+k.2.1.length) L:=λ_=>rfl;rw[hfin L];have hpk:s=(pre++k.2.1)++dB L:=by rw[h];simp[dB]
  cases L with
  |nil=>
   rw[key (pre.length+k.2.1.length) (XE o5 (by rw[hpk,←C9,X4];intro c t e;cases e) o5)]
   have:=RQ hs [] (pre++k.2.1) (acc++[(k.1,k.2.1,k.2.2,(pre.length:Int))]) m (by rw[hpk]) trivial (λM e=>by cases e) F9;rw[C9]at this;simp only;rw[show m+([]:List It).length+1=m+([]:List It).length+1 from rfl,this];simp
  |cons a L=>
   cases a with
   |some k' =>
    rw[key (pre.length+k.2.1.length) (XE o5 (by rw[hpk,←C9,X4];exact a6N h3 (λM e=>by cases e)) o5)]
    have:=RQ hs (some k' ::L) (pre++k.2.1) (acc++[(k.1,k.2.1,k.2.2,(pre.length:Int))]) m hpk h3 (λM e=>by cases e) (by simp at ha ⊢;omega);rw[C9]at this;simp only;rw[this];simp
   |none=>
    have hb:HdN Sl (dB L):=by have:=h3.1;rw[F6]at this;exact this
    have hnb:∀M,L≠none::M:=λM e=>by rw[e]at hb;have:=hb 32 (dB M) rfl;revert this;decide
    have hp2:s=(pre++k.2.1++[32])++dB L:=by rw[hpk];simp[dB]
    have hpl:(pre++k.2.1++[32]).length=pre.length+k.2.1.length+1:=by simp;omega
    rw[key (pre.length+k.2.1.length+1) (b1w o5 (by
     rw[hpk,F8 A7,←C9,aN];rfl) (by
     rw[←hpl,hp2,X4];exact hb))]
    have:=RQ hs L (pre++k.2.1++[32]) (acc++[(k.1,k.2.1,k.2.2,(pre.length:Int))]) (m+1) hp2 h3.2 hnb (by simp at ha ⊢;omega);rw[hpl]at this;simp only;rw[show m+(none::L).length+1=m+1+L.length+1 by simp;omega,this];simp[yU]
theorem a2K(hs:(dB L).length<=65536)(h:WSR L [])(hn:∀M,L≠none::M)(hl:L.length<=1000000):Bc (dB L)=some (yU 0 L,0,0):=by unfold Bc;have h0:uk (dB L) ((0:Nat):Int)=some ((0:Nat):Int):=XE o5 (by rw[bJ];exact a6N h hn) o5;rw[show((0:Nat):Int)=0 from rfl]at h0;rw[X5 (show x8 (dB L)<=65536 by unfold x8;omega),o6,h0,o9];have:=RQ hs L [] [] (aH -L.length -1) rfl h hn F9;rw[show aH -L.length -1+L.length+1=aH by unfold aH;omega]at this;rw[G9]at this;refine V5 (show O6 (tkF (dB L)) ([],0)=_ from this) ?_;rfl
def nm(w:d2g):It:=some (1,w,0)
def sy(c:UInt8):It:=some (7,[c],0)
def Le(k:Int)(u:Nat):d2g:=l7 (x9 k 2) (Lib.decDigits u) (l7 (x9 k 3) (vO u 2) (vO u 4++[37]))
def QN(k m:Int):List It:=
 l7 (x9 k 1) [nm (l7 (x9 m 0) [102,97,108,115,101] [116,114,117,101])]
 (l7 (x9 k 5) [some (5,W9 m,m)] (l7 (H5 m 0) [sy 45,some (k,Le k m.natAbs,(m.natAbs:Int))] [some (k,Le k m.natAbs,(m.natAbs:Int))]))
def IY(n:Int×Int)(N:E8):List It:=
 l7 (P7 n.1 5) (QN n.1 n.2)
 (l7 (x9 n.1 6) [nm ((J9 N.1 (Z7 .i64 n.2 16)).getD ([],[])).1,sy 58,nm (gtN ((J9 N.1 (Z7 .i64 n.2 16)).getD ([],[])).2 (dJ n.2 16))]
 (l7 (x9 n.1 7) [nm (gtN N.2.2.1 n.2)]
 (l7 (x9 n.1 8) [nm (gtN N.2.2.2.1 n.2)]
 (l7 (x9 n.1 9) [nm [116,111,100,97,121]]
 (l7 (x9 n.1 35) [nm [99,111,117,110,116],sy 40,sy 41] [nm (dG n.1),sy 40,nm (gtN N.2.2.2.2 n.2),sy 41])))))
def wiI(L:List It)(cls c:Int):List It:=l7 (H5 cls c) ([sy 40]++L++[sy 41]) L
def a7H(n:Int×Int)(N:E8)(num:Bool)(L:List It)(cls:Int):List It:=
 l7 (x9 n.1 33) ([nm (dG n.1),sy 40,nm (gtN N.2.1 n.2),sy 44,none]++L++[sy 41])
 (l7 (x9 n.1 34) ([nm (dG n.1),sy 40,nm (gtN N.2.1 (Z7 .i64 n.2 8)),sy 44,none]++L++[sy 44,none,nm (iM (dJ n.2 8)),sy 41])
 (l7 (x9 n.1 25) ([nm [110,111,116],none]++wiI L cls 6)
 (l7 (x9 n.1 10) ([sy 45]++l7 num ([sy 40]++L++[sy 41]) (wiI L cls 6)) ([nm (dG n.1),sy 40]++L++[sy 41]))))
def opK(k:Int):Y3:=(l7 (x9 k 24) 1 (l7 (x9 k 23) 1 7),(iY k).1,0)
def ND(n:Int×Int)(A:List It)(ca:Int)(B:List It)(cb:Int):List It:=
 l7 (Qs n.1) ([nm (dG n.1),sy 40]++A++[sy 44,none]++B++[sy 41])
 (l7 (Gq n.1) ([nm (dG n.1),sy 40]++A++[sy 44,none]++B++[sy 44,none,nm (iM n.2),sy 41])
 (wiI A ca (l7 (x9 (iY n.1).2 3) 4 (iY n.1).2)++[none,some (opK n.1),none]++wiI B cb ((iY n.1).2+1)))
def ifI(A B C:List It):List It:=[nm [105,102],none]++A++[none,nm [116,104,101,110],none]++B++[none,nm [101,108,115,101],none]++C
def itT(N:E8):XT->List It
 | .l0 n=>IY n N| .l1 n a=>a7H n N (AB a.node.1) (itT N a) (gW N a).2| .l2 n a b=>ND n (itT N a) (gW N a).2 (itT N b) (gW N b).2| .l3 n a b c=>ifI (itT N a) (itT N b) (itT N c)
variable {N:E8}
theorem Fz{k m lo hi:Int}(hk:1<=k/\k<=5)(hb:cO (k,0) []=some (lo,hi))(h:flS (k,m) N=0):lo<=m/\m<=hi:=by
 unfold flS V9 dX at h;simp only[Z9 hk.1,Z9 hk.2,o7,o9,hb]at h;by_cases h1:m<lo
 .rw[bT h1]at h;cases h
 by_cases h2:hi<m
 .rw[X5 o5,bT h2]at h;cases h
 omega
variable {k:Int}{m:Int}
theorem b3O(hk:k=1\/k=2\/k=3\/k=4\/k=5)(hm:jg m)(h:flS (k,m) N=0):dU (k,0,m) []=some (dB (QN k m),0):=by
 have f4:=EI (k:=4) hm o5;have key:∀lo hi:Int,cO (k,0) []=some (lo,hi)->Y7 (k,0) []=some true->dU (k,0,m) []=(l7 (x9 k 1) (l7 (x9 m 0) (some ([102,97,108,115,101],0)) (some ([116,114,117,101],0)))
   (l7 (x9 k 2) (some (Lib.itoa m,0)) (l7 (x9 k 3) (some (qx m 2,0)) (l7 (x9 k 4) (some (qx m 4++[37],0)) (some (W9 m,0)))))):=by
  intro lo hi hb hv;obtain⟨h1,h2⟩:=Fz o5 hb h;rw[qm [] hm];unfold qN xN Dx Dw;simp only[xN,o9,hv,G8,o6,o7,hb,Z9 h1,Z9 h2];rw[rU hm,show jo m 2=_ from tV (k:=2) hm o5,show jo m 4=_ from tV (k:=4) hm o5,wH];simp only[o9];rw[H7 F9,o9];rcases hk with rfl|rfl|rfl|rfl|rfl<;>rfl
 rcases hk with rfl|rfl|rfl|rfl|rfl
 .rw[key 0 1 rfl rfl];simp (disch:=decide) only[O9,o7,QN,nm,dB,F6];cases x9 m 0<;>rfl
 .rw[key _ _ rfl rfl];simp (disch:=decide) only[O9,O5,o7,o6,QN,Le];unfold Lib.itoa;by_cases h0:m<0
  .rw[if_pos h0,bT h0];simp[dB,sy,l7]
  .rw[if_neg h0,X5 o5];simp only[o6,dB,F6];rw[show m.toNat=m.natAbs by omega]
 .rw[key _ _ rfl rfl];simp (disch:=decide) only[O9,O5,o7,o6,QN,Le];unfold qx;by_cases h0:m<0
  .rw[if_pos h0,bT h0];simp[dB,sy,l7]
  .rw[if_neg h0,X5 o5];simp only[o6,dB,F6]
 .rw[key _ _ rfl rfl];simp (disch:=decide) only[O9,O5,o7,o6,QN,Le];unfold qx;by_cases h0:m<0
  .rw[if_pos h0,bT h0];simp[dB,sy,l7]
  .rw[if_neg h0,X5 o5];simp only[o6,dB,F6]
 .rw[key _ _ rfl rfl];simp (disch:=decide) only[O9,O5,o7,o6,QN,dB,F6]
theorem a7u{n:Int×Int}(ha:qp n.1=0)(hm:jg n.2)(h:flS n N=0):dB (IY n N)=(lY n N).1:=by
 obtain⟨k,m⟩:=n;have lit:(k=1\/k=2\/k=3\/k=4\/k=5)->dB (IY (k,m) N)=(lY (k,m) N).1:=by intro hk;have:=b3O hk hm h;unfold IY lY;simp only[Z9 (show k<=5 by omega),o7];rw[←qm [] hm,this];rfl
 rcases ar0 ha with rfl|rfl|rfl|rfl|rfl|rfl|rfl|rfl|rfl|rfl|rfl|rfl|rfl|rfl
 .exact lit o5
 .exact lit o5
 .exact lit o5
 .exact lit o5
 .exact lit o5
 all_goals
  unfold IY lY;simp (disch:=decide) only[O9,O5,dO,o7,o6,nm,sy,dB];simp
theorem a0C(L:List It)(t:Tx)(c:Int)(h:dB L=t.1):dB (wiI L t.2 c)=wiS t c:=by
 unfold wiI wiS;cases H5 t.2 c
 .exact h
 .simp only[o7];rw[qy,qy,h];rfl
theorem En{N:E8} :∀(t:XT),t.wf->(∀n∈t.post,jg n.2)->(∀n∈t.post,flS n N=0)->dB (itT N t)=(gW N t).1
 | .l0 n,hw,hI,hz=>a7u hw (hI n (by simp[XT.post])) (hz n (by simp[XT.post]))| .l1 n a,hw,hI,hz=>by
  have ia:=En a hw.2 (λm hm=>hI m (by simp[XT.post,hm])) (λm hm=>hz m (by simp[XT.post,hm]));have w:=a0C (itT N a) (gW N a) 6 ia;show dB (a7H n N (AB a.node.1) (itT N a) (gW N a).2)=(FU n N (AB a.node.1) (gW N a)).1;unfold a7H FU;cases x9 n.1 33
  case true=>simp only[o7,qy,ia];simp[dB,nm,sy]
  cases x9 n.1 34
  case true=>simp only[o7,o6,qy,ia];simp[dB,nm,sy]
  cases x9 n.1 25
  case true=>simp only[o7,o6,qy,w];simp[dB,nm,sy]
  cases x9 n.1 10
  case true=>
   simp only[o7,o6,qy];cases AB a.node.1
   .simp only[o6,w];simp[dB,nm,sy]
   .simp only[o7,qy,ia];simp[dB,nm,sy]
  .simp only[o6,qy,ia];simp[dB,nm,sy]
 | .l2 n a b,hw,hI,hz=>by
  have ia:=En a hw.2.1 (λm hm=>hI m (by simp[XT.post,hm])) (λm hm=>hz m (by simp[XT.post,hm]));have ib:=En b hw.2.2 (λm hm=>hI m (by simp[XT.post,hm])) (λm hm=>hz m (by simp[XT.post,hm]));have w1:=a0C (itT N a) (gW N a) (l7 (x9 (iY n.1).2 3) 4 (iY n.1).2) ia;have w2:=a0C (itT N b) (gW N b) ((iY n.1).2+1) ib;show dB (ND n (itT N a) (gW N a).2 (itT N b) (gW N b).2)=(DW n (gW N a) (gW N b)).1;unfold ND DW;cases Qs n.1
  case true=>simp only[o7,qy,ia,ib];simp[dB,nm,sy]
  cases Gq n.1
  case true=>simp only[o7,o6,qy,ia,ib];simp[dB,nm,sy]
  .simp only[o6,qy,w1,w2];simp[dB,opK]
 | .l3 n a b c,hw,hI,hz=>by have ia:=En a hw.2.1 (λm hm=>hI m (by simp[XT.post,hm])) (λm hm=>hz m (by simp[XT.post,hm]));have ib:=En b hw.2.2.1 (λm hm=>hI m (by simp[XT.post,hm])) (λm hm=>hz m (by simp[XT.post,hm]));have ic:=En c hw.2.2.2 (λm hm=>hI m (by simp[XT.post,hm])) (λm hm=>hz m (by simp[XT.post,hm]));show dB (ifI (itT N a) (itT N b) (itT N c))=(ifX (gW N a) (gW N b) (gW N c)).1;unfold ifI ifX;simp only[qy,ia,ib,ic];simp[dB,nm]
def wOk(w:d2g):Bool:=match w with|[]=>false|c::t=>FI c&&(c::t).all uz&&decide ((c::t).length<=16)
theorem NF{s:d2g}(h:gz s=true):wOk s=true:=by
 cases s with
 |nil=>cases h|cons c r=>rw[yE]at h;simp only[A8]at h;unfold wOk;simp only[A8];exact⟨⟨h.1.1.2,h.1.2⟩,h.1.1.1⟩
theorem a6L(h:uz c=true):prB c=true:=by unfold uz FI at h;unfold prB;simp only[gJ,A8,decide_eq_true_eq]at h ⊢;omega
theorem zQ(h:vM c=true):prB c=true:=by have:=LJ h;unfold prB;simp only[A8,decide_eq_true_eq];omega
theorem uK{a b:d2g}(ha:∀c∈a,prB c=true)(hb:∀c∈b,prB c=true):∀c∈a++b,prB c=true:=by
 intro c hc;rcases J6.1 hc with h|h
 .exact ha c h
 .exact hb c h
theorem zt{x:UInt8}{b:d2g}(ha:prB x=true)(hb:∀c∈b,prB c=true):∀c∈x::b,prB c=true:=by
 intro c hc;rcases D6.1 hc with rfl|h
 .exact ha
 .exact hb c h
theorem mJ{w:d2g}(h:wOk w=true):TokOk (1,w,0):=by
 cases w with
 |nil=>cases h|cons c t=>unfold wOk at h;simp only[A8]at h;obtain⟨⟨h1,h2⟩,h3⟩:=h;have hb:=a9j h1;refine⟨λx hx=>a6L (ax.1 h2 x hx),⟨c,t,rfl,?_⟩,.inr λr hr hl=>a8c ⟨c,t,rfl,h1⟩ (ax.1 h2) (by simpa using h3) (a8X hr) hl⟩;unfold Sl;simp only[cu,decide_eq_false_iff_not];refine⟨⟨?_,?_⟩,?_⟩<;>rintro rfl<;>revert hb<;>decide
theorem DF(hc:c=40\/c=41\/c=44\/c=58\/c=43\/c=45\/c=42):TokOk (7,[c],0):=by
 refine⟨λx hx=>?_,⟨c,[],rfl,?_⟩,.inl ⟨c,hc,rfl⟩⟩
 .simp at hx;subst hx;rcases hc with rfl|rfl|rfl|rfl|rfl|rfl|rfl<;>decide
 rcases hc with rfl|rfl|rfl|rfl|rfl|rfl|rfl<;>decide
theorem b_{d r:d2g}(hd:Dg d)(h:d≠[]):∃c t,d++r=c::t/\Sl c=false:=by obtain⟨c,t,e,hc,-⟩:=b5A (r:=r) hd h;refine⟨c,t,e,?_⟩;have:=LJ hc;unfold Sl;simp only[cu,decide_eq_false_iff_not];refine⟨⟨?_,?_⟩,?_⟩<;>rintro rfl<;>revert this<;>decide
theorem b5h(h:(k=2/\u<=1000000000000)\/(k=3/\u<=1000000000000000)\/(k=4/\u<=1000000000)):TokOk (k,Le k u,(u:Int)):=by
 rcases h with⟨rfl,hu⟩|⟨rfl,hu⟩|⟨rfl,hu⟩
 .have e:Le 2 u=Lib.decDigits u:=rfl;have hlen:=qQ (u:=u) o5;refine⟨by rw[e];exact λc hc=>zQ (Cc u c hc),?_,.inr λr hr hl=>?_⟩
  .rw[e];have:=b_ (r:=[]) (Cc u) (by intro e;rw[e]at hlen;simp at hlen);rw[F6]at this;exact this
  .simp only[e]at hl ⊢;exact b7Q hu (Vg hr) (b6y hr) hl
 .have e:Le 3 u=vO u 2:=rfl;refine⟨by
   rw[e];obtain⟨d,f,e2,hd,hf,hne,-⟩:=qU (u:=u) (k:=2) o5 o5;rw[e2];exact uK (λc hc=>zQ (hd c hc)) (zt D9 (λc hc=>zQ (hf c hc))),?_,.inr λr hr hl=>?_⟩
  .rw[e];obtain⟨d,f,e2,hd,hf,hne,-⟩:=qU (u:=u) (k:=2) o5 o5;simp only[e2];exact b_ hd hne
  .simp only[e]at hl ⊢;exact b1r hu (Vg hr) hl
 .have e:Le 4 u=vO u 4++[37]:=rfl;refine⟨by
   rw[e];obtain⟨d,f,e2,hd,hf,hne,-⟩:=qU (u:=u) (k:=4) o5 o5;rw[e2];exact uK (uK (λc hc=>zQ (hd c hc)) (zt D9 (λc hc=>zQ (hf c hc)))) (zt D9 (λc hc=>by cases hc)),?_,.inr λr hr hl=>?_⟩
  .rw[e];obtain⟨d,f,e2,hd,hf,hne,-⟩:=qU (u:=u) (k:=4) o5 o5;simp only[e2,E5];exact b_ hd hne
  .simp only[e]at hl ⊢;exact b4V hu (Vg hr) hl
theorem b2V(h0:0<=n)(h:n<=109572):TokOk (5,W9 n,n):=by
 refine⟨?_,?_,.inr λr hr hl=>b4U h0 h (Vg hr) hl⟩
 .obtain⟨A,B,C,e,a1,a2,a3,a4,a5,a6⟩:=NQ h0 h;rw[e];exact uK (λc hc=>zQ (a4 c hc)) (zt D9 (uK (λc hc=>zQ (a5 c hc)) (zt D9 (λc hc=>zQ (a6 c hc)))))
 obtain⟨A,B,C,e,a1,a2,a3,a4,a5,a6⟩:=NQ h0 h;simp only[e];exact b_ a4 (by intro e;rw[e]at a1;simp at a1)
theorem c0k(hk:k=11\/k=12\/k=13\/k=19\/k=20\/k=21\/k=22\/k=23\/k=24):TokOk (opK k):=by
 rcases hk with rfl|rfl|rfl|rfl|rfl|rfl|rfl|rfl|rfl
 .exact DF (c:=43) A7
 .exact DF (c:=45) A7
 .exact DF (c:=42) A7
 .exact⟨D9,⟨61,[61],rfl,D9⟩,.inr λr hr hl=>XD (c:=61) A7 r (by simp[opK,iY,dE,x9,l7]at hl;omega)⟩
 .exact⟨D9,⟨33,[61],rfl,D9⟩,.inr λr hr hl=>XD (c:=33) A7 r (by simp[opK,iY,dE,x9,l7]at hl;omega)⟩
 .exact⟨D9,⟨60,[],rfl,D9⟩,.inr λr hr hl=>b4W r (by simp[opK,iY,dE,x9,l7]at hl;omega) (b6z hr)⟩
 .exact⟨D9,⟨60,[61],rfl,D9⟩,.inr λr hr hl=>XD (c:=60) A7 r (by simp[opK,iY,dE,x9,l7]at hl;omega)⟩
 .exact mJ (w:=[97,110,100]) D9
 .exact mJ (w:=[111,114]) D9
theorem a5p:∀(L:List It) (R:d2g),WSR L R->∀c∈dB L,prB c=true
 |[],_,_=>λc hc=>by cases hc|none::L,R,h=>zt D9 (a5p L R h.2)|some k::L,R,h=>uK h.1.pr (a5p L R h.2.2)
def StI(L:List It):Prop:=∃k L',L=some k::L' /\TokOk k
theorem c0h(h:StI L)(R:d2g):HdN Sl (dB L++R):=by obtain⟨k,L',rfl,hk⟩:=h;obtain⟨c,t,e,hb⟩:=hk.ne;intro x y e2;simp only[dB,e,I7,G7]at e2;rw[←e2.1];exact hb
theorem Qi{L M:List It}(h:StI L):StI (L++M):=by obtain⟨k,L',rfl,hk⟩:=h;exact⟨k,L' ++M,rfl,hk⟩
theorem c8H(h:StI L):∀M,L≠none::M:=by obtain⟨k,L',rfl,-⟩:=h;intro M e;cases e
theorem rZ(h:b4Y c=true)(x:d2g):HdS (c::x):=λa t e=>by cases e;exact h
theorem a5N:HdS []:=λa t e=>by cases e
variable {R:d2g}
theorem kC(hc:c=40\/c=41\/c=44\/c=58\/c=43\/c=45\/c=42)(h:WSR L R):WSR (sy c::L) R:=⟨DF hc,.inl ⟨c,hc,rfl⟩,h⟩
theorem AA{w:d2g}(hw:wOk w=true)(h:WSR L R)(hs:HdS (dB L++R)):WSR (nm w::L) R:=⟨mJ hw,.inr hs,h⟩
theorem Ia(h:WSR L R)(hs:StI L):WSR (none::L) R:=⟨c0h hs R,h⟩
structure WsT (L:List It):Prop where
 st:StI L
 ws:∀R,HdS R->WSR L R
theorem Pq(h:WsT L){M:List It}(hm:WSR M R)(hs:HdS (dB M++R)):WSR (L++M) R:=a0D L M R (h.ws _ hs) hm
theorem a2V(h:WsT L)(cls c:Int):WsT (wiI L cls c):=by
 unfold wiI;cases H5 cls c
 .exact h
 .refine⟨⟨_,_,rfl,DF A7⟩,λR hR=>?_⟩;exact kC A7 (Pq h (kC A7 trivial) (rZ D9 _))
structure NmI (N:E8):Prop where
 e:∀e∈N.1,gz e.1=true/\∀m∈e.2,gz m=true
 t:∀s∈N.2.1,gz s=true
 i:∀s∈N.2.2.1,gz s=true
 d:∀s∈N.2.2.2.1,gz s=true
 m:∀s∈N.2.2.2.2,gz s=true
theorem xe{α:Type}{l:List α}{i:Int}{x:α}(h:J9 l i=some x):x∈l:=(qX h).2.2.1
theorem j_(hm:jg m)(h:flS (6,m) N=0):∃e,J9 N.1 (Z7 .i64 m 16)=some e/\J9 e.2 (dJ m 16)=some (gtN e.2 (dJ m 16))/\0<=Z7 .i64 m 16/\0<=dJ m 16/\dJ m 16<16/\m=16*Z7 .i64 m 16+dJ m 16:=by
 have hff:V9 (6,m) N=(l7 (H5 m 0) (some 6)
    (l7 (P7 (x8 N.1) (Z7 .i64 m 16)) (some 6)
     (l9 (J9 N.1 (Z7 .i64 m 16)) λ(x:aP)=>
      l7 (P7 (x8 x.2) (dJ m 16)) (some 6) (some 0)))):=rfl
 unfold flS at h;rw[hff]at h;by_cases h0:m<0
 .rw[bT h0]at h;cases h
 by_cases h1:x8 N.1<=Z7 .i64 m 16
 .rw[X5 o5,Z9 h1]at h;cases h
 have hq:Z7 .i64 m 16=m / 16:=by rw[Oi hm 16 (.inr rfl),nC o5]
 have hr0:dJ m 16=m % 16:=AU o5;obtain⟨en,he,hmem⟩:=ui (l:=N.1) (i:=Z7 .i64 m 16) o5 o5;rw[X5 o5,dO o5,o6,o6,he,o9]at h;by_cases h2:x8 en.2<=dJ m 16
 .rw[Z9 h2]at h;cases h
 exact⟨en,he,(Md o5 o5).1,o5,o5,o5,o5⟩
theorem b3M{n:Int×Int}(hN:NmI N)(ha:qp n.1=0)(hm:jg n.2)(h:flS n N=0):WsT (IY n N):=by
 obtain⟨k,m⟩:=n;have one:∀w,wOk w=true->WsT [nm w]:=λw hw=>⟨⟨_,_,rfl,mJ hw⟩,λR hR=>AA hw trivial hR⟩;have num:∀k:Int,∀m:Int,(k=2/\m.natAbs<=1000000000000)\/(k=3/\m.natAbs<=1000000000000000)\/(k=4/\m.natAbs<=1000000000)->WsT (QN k m):=by
  intro k m hk;have ht:=b5h hk;have e:QN k m=l7 (H5 m 0) [sy 45,some (k,Le k m.natAbs,(m.natAbs:Int))] [some (k,Le k m.natAbs,(m.natAbs:Int))]:=by unfold QN;rw[O5 (show k≠1 by omega),O5 (show k≠5 by omega)];rfl
  rw[e];cases H5 m 0
  .exact⟨⟨_,_,rfl,ht⟩,λR hR=>⟨ht,.inr hR,trivial⟩⟩
  .exact⟨⟨_,_,rfl,DF A7⟩,λR hR=>kC A7 ⟨ht,.inr hR,trivial⟩⟩
 have call:(k=36\/k=37\/k=38\/k=39)->WsT (IY (k,m) N):=by
  intro hk;have hg:J9 N.2.2.2.2 m=some (gtN N.2.2.2.2 m):=by rcases hk with rfl|rfl|rfl|rfl<;>exact zA rfl h
  have hw:wOk (dG k)=true:=by rcases hk with rfl|rfl|rfl|rfl<;>decide
  have e:IY (k,m) N=[nm (dG k),sy 40,nm (gtN N.2.2.2.2 m),sy 41]:=by rcases hk with rfl|rfl|rfl|rfl<;>rfl
  rw[e];exact⟨⟨_,_,rfl,mJ hw⟩,λR hR=>AA hw (kC A7 (AA (NF (hN.m _ (xe hg))) (kC A7 trivial) (rZ D9 _))) (rZ D9 _)⟩
 rcases ar0 ha with rfl|rfl|rfl|rfl|rfl|rfl|rfl|rfl|rfl|rfl|rfl|rfl|rfl|rfl
 .show WsT [nm (l7 (x9 m 0) [102,97,108,115,101] [116,114,117,101])];cases x9 m 0
  .exact one _ D9
  .exact one _ D9
 .have hb:=Fz (k:=2) o5 rfl h;exact num 2 m o5
 .have hb:=Fz (k:=3) o5 rfl h;exact num 3 m o5
 .have hb:=Fz (k:=4) o5 rfl h;exact num 4 m o5
 .have hb:=Fz (k:=5) o5 rfl h;have ht:=b2V hb.1 hb.2;exact⟨⟨_,_,rfl,ht⟩,λR hR=>⟨ht,.inr hR,trivial⟩⟩
 .obtain⟨e,h1,h2,-⟩:=j_ hm h;have ee:=hN.e e (xe h1);have eq:IY (6,m) N=[nm e.1,sy 58,nm (gtN e.2 (dJ m 16))]:=by
   show[nm ((J9 N.1 (Z7 .i64 m 16)).getD ([],[])).1,sy 58,nm (gtN ((J9 N.1 (Z7 .i64 m 16)).getD ([],[])).2 (dJ m 16))]=_;rw[h1];rfl
  rw[eq];exact⟨⟨_,_,rfl,mJ (NF ee.1)⟩,λR hR=>AA (NF ee.1) (kC A7 (AA (NF (ee.2 _ (xe h2))) trivial hR)) (rZ D9 _)⟩
 .exact one _ (NF (hN.i _ (xe (zA (n:=(7,m)) (l:=N.2.2.1) rfl h))))
 .exact one _ (NF (hN.d _ (xe (zA (n:=(8,m)) (l:=N.2.2.2.1) rfl h))))
 .exact one _ D9
 .exact⟨⟨_,_,rfl,mJ (w:=[99,111,117,110,116]) D9⟩,λR hR=>AA D9 (kC A7 (kC A7 trivial)) (rZ D9 _)⟩
 .exact call o5
 .exact call o5
 .exact call o5
 .exact call o5
theorem b6G:∀j:Fin 6,wOk (iM (j.val:Int))=true:=by decide
theorem a1B(h:0<=m/\m<=5):wOk (iM m)=true:=by obtain⟨j,rfl⟩:∃j:Fin 6,m=(j.val:Int):=⟨⟨m.toNat,o5⟩,by simp;omega⟩;exact b6G j
theorem b6N{n:Int×Int}(hN:NmI N)(ha:qp n.1=1)(hm:jg n.2)(h:flS n N=0)(num:Bool)(hL:WsT L)(cls:Int):WsT (a7H n N num L cls):=by
 obtain⟨k,m⟩:=n;have cl:∀R,WSR (L++[sy 41]) R:=λR=>Pq hL (kC A7 trivial) (rZ D9 _);rcases ar1 ha with rfl|rfl|rfl|rfl|rfl|rfl
 .show WsT ([sy 45]++l7 num ([sy 40]++L++[sy 41]) (wiI L cls 6));cases num
  .exact⟨⟨_,_,rfl,DF A7⟩,λR hR=>kC A7 ((a2V hL cls 6).ws R hR)⟩
  .exact⟨⟨_,_,rfl,DF A7⟩,λR hR=>kC A7 (kC A7 (cl R))⟩
 .show WsT ([nm [110,111,116],none]++wiI L cls 6);exact⟨⟨_,_,rfl,mJ (w:=[110,111,116]) D9⟩,λR hR=>AA D9 (Ia ((a2V hL cls 6).ws R hR) (a2V hL cls 6).st) (rZ D9 _)⟩
 .exact⟨⟨_,_,rfl,mJ (w:=dG 31) D9⟩,λR hR=>AA (w:=dG 31) D9 (kC A7 (cl R)) (rZ D9 _)⟩
 .exact⟨⟨_,_,rfl,mJ (w:=dG 32) D9⟩,λR hR=>AA (w:=dG 32) D9 (kC A7 (cl R)) (rZ D9 _)⟩
 .have hg:=zA (n:=(33,m)) (l:=N.2.1) rfl h;exact⟨⟨_,_,rfl,mJ (w:=dG 33) D9⟩,λR hR=>AA (w:=dG 33) D9 (kC A7 (AA (NF (hN.t _ (xe hg))) (kC A7 (Ia (cl R) (Qi hL.st))) (rZ D9 _))) (rZ D9 _)⟩
 .obtain⟨hg,g1,g2⟩:=h_ hm h;have hmo:wOk (iM (dJ m 8))=true:=a1B ⟨g1,g2⟩;exact⟨⟨_,_,rfl,mJ (w:=dG 34) D9⟩,λR hR=>AA (w:=dG 34) D9 (kC A7 (AA (NF (hN.t _ (xe hg))) (kC A7 (Ia (Pq hL (kC A7 (Ia (AA hmo (kC A7 trivial) (rZ D9 _)) ⟨_,_,rfl,mJ hmo⟩)) (rZ D9 _)) (Qi hL.st))) (rZ D9 _))) (rZ D9 _)⟩
theorem c0p{n:Int×Int}(ha:qp n.1=2)(h:flS n N=0){A B:List It}(hA:WsT A)(hB:WsT B)(ca cb:Int):WsT (ND n A ca B cb):=by
 obtain⟨k,m⟩:=n;by_cases h1:k=17\/k=18\/k=27\/k=28\/k=29\/k=30
 .have hw:wOk (dG k)=true:=by rcases h1 with rfl|rfl|rfl|rfl|rfl|rfl<;>decide
  have e:ND (k,m) A ca B cb=nm (dG k)::sy 40::(A++(sy 44::none::(B++[sy 41]))):=by
   have:ND (k,m) A ca B cb=[nm (dG k),sy 40]++A++[sy 44,none]++B++[sy 41]:=by rcases h1 with rfl|rfl|rfl|rfl|rfl|rfl<;>rfl
   rw[this];simp
  rw[e];exact⟨⟨_,_,rfl,mJ hw⟩,λR hR=>AA hw (kC A7 (Pq hA (kC A7 (Ia (Pq hB (kC A7 trivial) (rZ D9 _)) (Qi hB.st))) (rZ D9 _))) (rZ D9 _)⟩
 by_cases h2:k=14\/k=15\/k=16
 .have hw:wOk (dG k)=true:=by rcases h2 with rfl|rfl|rfl<;>decide
  have hr:=a3G h2 h;have hmo:wOk (iM m)=true:=a1B hr;have e:ND (k,m) A ca B cb=nm (dG k)::sy 40::(A++(sy 44::none::(B++(sy 44::none::nm (iM m)::[sy 41])))):=by
   have:ND (k,m) A ca B cb=[nm (dG k),sy 40]++A++[sy 44,none]++B++[sy 44,none,nm (iM m),sy 41]:=by rcases h2 with rfl|rfl|rfl<;>rfl
   rw[this];simp
  rw[e];exact⟨⟨_,_,rfl,mJ hw⟩,λR hR=>AA hw (kC A7 (Pq hA (kC A7 (Ia (Pq hB (kC A7 (Ia (AA hmo (kC A7 trivial) (rZ D9 _)) ⟨_,_,rfl,mJ hmo⟩)) (rZ D9 _)) (Qi hB.st))) (rZ D9 _))) (rZ D9 _)⟩
 have hk:k=11\/k=12\/k=13\/k=19\/k=20\/k=21\/k=22\/k=23\/k=24:=by have:=ar2 ha;omega
 have hb:Qs k=false/\Gq k=false:=by rcases hk with rfl|rfl|rfl|rfl|rfl|rfl|rfl|rfl|rfl<;>exact⟨rfl,rfl⟩
 have ho:=c0k hk;unfold ND;simp only[hb.1,hb.2,o6];have wA:=a2V hA ca (l7 (x9 (iY k).2 3) 4 (iY k).2);have wB:=a2V hB cb ((iY k).2+1);rw[E5];refine⟨Qi wA.st,λR hR=>?_⟩;refine Pq wA ?_ (rZ D9 _);exact Ia ⟨ho,.inr (rZ D9 _),Ia (wB.ws R hR) wB.st⟩ ⟨_,_,rfl,ho⟩
theorem c0R{A B C:List It}(hA:WsT A)(hB:WsT B)(hC:WsT C):WsT (ifI A B C):=by
 have e:ifI A B C=nm [105,102]::none::(A++(none::nm [116,104,101,110]::none::(B++(none::nm [101,108,115,101]::none::C)))):=by unfold ifI;simp
 rw[e];have t1:TokOk (1,[116,104,101,110],0):=mJ D9;have t2:TokOk (1,[101,108,115,101],0):=mJ D9;refine⟨⟨_,_,rfl,mJ (w:=[105,102]) D9⟩,λR hR=>?_⟩;exact AA D9 (Ia (Pq hA (Ia (AA D9 (Ia (Pq hB (Ia (AA D9 (Ia (hC.ws R hR) hC.st) (rZ D9 _)) ⟨_,_,rfl,t2⟩) (rZ D9 _)) (Qi hB.st)) (rZ D9 _)) ⟨_,_,rfl,t1⟩) (rZ D9 _)) (Qi hA.st)) (rZ D9 _)
theorem QI{N:E8}(hN:NmI N):∀(t:XT),t.wf->(∀n∈t.post,jg n.2)->(∀n∈t.post,flS n N=0)->WsT (itT N t)
 | .l0 n,hw,hI,hz=>b3M hN hw (hI n (by simp[XT.post])) (hz n (by simp[XT.post]))| .l1 n a,hw,hI,hz=>b6N hN hw.1 (hI n (by simp[XT.post])) (hz n (by simp[XT.post])) _ (QI hN a hw.2 (λm hm=>hI m (by simp[XT.post,hm])) (λm hm=>hz m (by simp[XT.post,hm]))) _| .l2 n a b,hw,hI,hz=>c0p hw.1 (hz n (by simp[XT.post])) (QI hN a hw.2.1 (λm hm=>hI m (by simp[XT.post,hm])) (λm hm=>hz m (by simp[XT.post,hm]))) (QI hN b hw.2.2 (λm hm=>hI m (by simp[XT.post,hm])) (λm hm=>hz m (by simp[XT.post,hm]))) _ _| .l3 n a b c,hw,hI,hz=>c0R (QI hN a hw.2.1 (λm hm=>hI m (by simp[XT.post,hm])) (λm hm=>hz m (by simp[XT.post,hm]))) (QI hN b hw.2.2.1 (λm hm=>hI m (by simp[XT.post,hm])) (λm hm=>hz m (by simp[XT.post,hm]))) (QI hN c hw.2.2.2 (λm hm=>hI m (by simp[XT.post,hm])) (λm hm=>hz m (by simp[XT.post,hm])))
def UN(x:dw):Y3:=(x.1,x.2.1,x.2.2.1)
abbrev pS(T:List dw)(E:Int)(N:E8)(i:Nat)(nd:List (Int×Int)):D8:=(T,(i:Int),E,N,nd,0,0)
def pk(T:List dw)(i:Nat):dw:=(T[i]?).getD (0,[],0,0)
def At3(T:List dw)(i:Nat)(L:List Y3):Prop:=(T.map UN).drop i=L/\T.length<=1000000/\i<=T.length
def hd3(L:List Y3):Y3:=L.headD (0,[],0)
variable {i:Nat}{T:List dw}
theorem BU{L:List Y3}(h:At3 T i L):UN (pk T i)=hd3 L:=by
 obtain⟨h1,h2,h3⟩:=h;unfold pk hd3;by_cases hi:i<T.length
 .rw[←h1,aA (by simpa using hi),qi hi];simp
 .rw[←h1,aF F9,fG o5];rfl
theorem gG{k:Y3}{L:List Y3}(h:At3 T i (k::L)):At3 T (i+1) L:=by
 obtain⟨h1,h2,h3⟩:=h;have hi:i<T.length:=by
  rcases kK i T.length with h|h
  .exact h
  .rw[aF F9]at h1;cases h1
 refine⟨?_,h2,o5⟩;rw[←Y9,h1];rfl
theorem wY{A L:List Y3}(h:At3 T i (A++L)):At3 T (i+A.length) L:=by
 induction A generalizing i with
 |nil=>exact h|cons k A ih=>have:=ih (gG h);rw[show i+(k::A).length=i+1+A.length by simp;omega];exact this
theorem Pz{k:Y3}{L:List Y3}(h:At3 T i (k::L)):i<T.length:=by have:=(gG h).2.2;omega
variable {nd:List (Int×Int)}
section
variable {T:List dw} {E:Int} {N:E8}
theorem Ob(i a:Nat)(nd:List (Int×Int))(hT:T.length<=1000000)(hi:i<=T.length)(ha:a<=10):X3 (pS T E N i nd) (a:Int)=some (pk T (i+a),pS T E N i nd):=by
 unfold X3 pk;have e:E9 .i64 (i:Int) (a:Int)=((i+a:Nat):Int):=by rw[dP bn];omega
 simp only[e];by_cases h:i+a<T.length
 .rw[bT (by unfold x8;omega),o7,U8,qi h];rfl
 .rw[X5 (by unfold x8;omega),o6,fG o5];rfl
theorem KP{L:List Y3}(h:At3 T i L):X3 (pS T E N i nd) 0=some (pk T i,pS T E N i nd):=Ob i 0 nd h.2.1 h.2.2 o5
theorem Lp{L:List Y3}(h:At3 T i L)(k:Int)(w:d2g):jI (pS T E N i nd) k w=some (l7 (x9 (hd3 L).1 k) (seq (hd3 L).2.1 w) false,pS T E N i nd):=by
 have hs:=BU h;unfold jI
 rw[KP h,o9,←hs];unfold UN;cases x9 (pk T i).1 k<;>rfl
theorem pF(hn:nd.length<=1000000)(op n:Int):H9 (pS T E N i nd) op n=some (true,pS T E N i (nd++[(op,n)])):=by unfold H9;simp only;rw[qV _ hn];rfl
theorem SN{k:Y3}{L:List Y3}(h:At3 T i (k::L)):eF (pS T E N i nd) k.1 k.2.1=some (true,pS T E N (i+1) nd):=by
 unfold eF;rw[Lp h,o9];have hi:=Pz h;have hT:=h.2.1;rw[show(l7 (x9 (hd3 (k::L)).1 k.1) (seq (hd3 (k::L)).2.1 k.2.1) false)=true by rw[show hd3 (k::L)=k from rfl,O9 rfl,o7];exact ja.2 rfl]
 simp only[G8,o6];rw[fF o5]
theorem yQ{L:List Y3}(h:At3 T i ((7,[c],n)::L)):S9 (pS T E N i nd) [c]=some (true,pS T E N (i+1) nd):=by unfold S9;rw[show eF (pS T E N i nd) 7 [c]=_ from SN (k:=(7,[c],n)) h];rfl
end
def WP(k:Int):Int:=l7 (x9 k 2) 2 (l7 (x9 k 3) 3 (l7 (x9 k 4) 4 0))
theorem NU(t:dw):lw t=some (WP t.1):=by unfold lw WP;cases x9 t.1 2<;>cases x9 t.1 3<;>cases x9 t.1 4<;>rfl
def a6W(k:Int):Prop:=k=11\/k=12\/k=13\/k=19\/k=20\/k=21\/k=22\/k=23\/k=24
def b2I(t:Y3):Prop:=t=(0,[],0)\/t=(7,[41],0)\/t=(7,[44],0)\/t=(1,[116,104,101,110],0)\/t=(1,[101,108,115,101],0)
theorem b4c{t:dw}(h:b2I (UN t)):mO t=some (0,0):=by
 obtain⟨a,b,c,d⟩:=t;unfold UN at h;have key:∀(a:Int) (b:d2g),(a,b)∈([(0,[]),(7,[41]),(7,[44]),(1,[116,104,101,110]),(1,[101,108,115,101])]:List (Int×d2g))->mO (a,b,c,d)=some (0,0):=by intro a b h;simp only[D6,jM,List.mem_nil_iff,or_false]at h;rcases h with⟨rfl,rfl⟩|⟨rfl,rfl⟩|⟨rfl,rfl⟩|⟨rfl,rfl⟩|⟨rfl,rfl⟩<;>rfl
 apply key;rcases h with h|h|h|h|h<;>cases h<;>decide
theorem a9A{t:dw}(hk:a6W k)(h:UN t=opK k):mO t=some (k,(iY k).2):=by obtain⟨a,b,c,d⟩:=t;unfold UN at h;rcases hk with rfl|rfl|rfl|rfl|rfl|rfl|rfl|rfl|rfl<;>cases h<;>rfl
def Iy(R:List Y3)(c:Int):Prop:=b2I (hd3 R)\/∃k,a6W k/\hd3 R=opK k/\(iY k).2<c
def Iw(R:List Y3):Prop:=b2I (hd3 R)\/∃k,a6W k/\hd3 R=opK k
theorem a6x{R:List Y3}{c:Int}(h:Iy R c):Iw R:=by
 rcases h with h|⟨k,h1,h2,-⟩
 .exact .inl h
 .exact .inr ⟨k,h1,h2⟩
theorem a2a{R:List Y3}(h:Iw R):¬((hd3 R).1=7/\(hd3 R).2.1=[58])/\¬((hd3 R).1=7/\(hd3 R).2.1=[40]):=by
 rcases h with h|⟨k,h1,h2⟩
 .rcases h with h|h|h|h|h<;>rw[h]<;>decide
 .rw[h2];rcases h1 with rfl|rfl|rfl|rfl|rfl|rfl|rfl|rfl|rfl<;>decide
end
section
variable {w:d2g}
theorem t_(h:gz w=true):w.length<=16/\w≠[]/\(Gf.any λs=>seq w s)=false:=by
 cases w with
 |nil=>cases h|cons c r=>rw[yE]at h;simp only[A8,decide_eq_true_eq,aX]at h;exact⟨h.1.1.1,A7,h.2⟩
theorem a5Q{w s:d2g}(h:gz w=true)(hs:(Gf.any λx=>seq s x)=true):w≠s:=by rintro rfl;have:=(t_ h).2.2;rw[hs]at this;cases this
theorem a3R{w s:d2g}(h:gz w=true)(hs:(Gf.any λx=>seq s x)=true):seq w s=false:=vY.2 (a5Q h hs)
theorem Vj(h:gz w=true):V8 w=some true:=by rw[pY (by have:=(t_ h).1;omega),h]
theorem a5o:∀x:Fin 40,seq (dG (x.val:Int)) []=true\/(Gf.any λs=>seq (dG (x.val:Int)) s)=true:=by decide+kernel
def cwF(w:d2g)(x:Int):Option (Out Int PUnit Int):=
   l7 (P7 x 39)
    (l7 (G6 (seq w []))
     (l9 (iK x) λ(x_1:d2g)=>
      l7 (seq x_1 w) (some (Out.rt x)) (some (Out.nx (E9 IntKind.i64 x 1))))
     (some (Out.nx (E9 IntKind.i64 x 1))))
    (some (Out.ex PUnit.unit))
theorem a7a(h:gz w=true):mP w=some 0:=by
 have key:∀(d x k:Nat),x+d=40->10<=x->d<k->iy (cwF w) k (x:Int)=(some (.inl PUnit.unit):Option (PUnit⊕Int)):=by
  intro d;induction d with
  |zero=>
   intro x k hx h10 hk;obtain⟨k,rfl⟩:∃m,k=m+1:=⟨k -1,o5⟩;have st:cwF w (x:Int)=some (.ex PUnit.unit):=by unfold cwF;rw[dO o5];rfl
   rw[dM,st]
  |succ d ih=>
   intro x k hx h10 hk;obtain⟨k,rfl⟩:∃m,k=m+1:=⟨k -1,o5⟩;have hne:seq w []=false:=vY.2 (t_ h).2.1;have hs:seq (dG (x:Int)) w=false:=by
    rw[vY];intro e;rcases a5o ⟨x,o5⟩with g|g
    .rw[ja]at g;simp only at g;exact(t_ h).2.1 (e.symm.trans g)
    .exact a5Q h g e.symm
   have st:cwF w (x:Int)=some (.nx ((x+1:Nat):Int)):=by unfold cwF;rw[Z9 o5,o7,hne,V7,o7,vz,o9,hs,o6,fF o5]
   rw[dM,st];exact ih (x+1) k o5 o5 o5
 unfold mP;refine V5 (show O6 (cwF w) 10=_ from key 30 10 aH o5 o5 (by unfold aH;omega)) ?_;rfl
theorem a6Z{k:Int}(h:k=14\/k=15\/k=16\/k=17\/k=18\/k=27\/k=28\/k=29\/k=30\/k=31\/k=32\/k=33\/k=34\/k=35\/k=36\/k=37\/k=38\/k=39):mP (dG k)=some k:=by rcases h with rfl|rfl|rfl|rfl|rfl|rfl|rfl|rfl|rfl|rfl|rfl|rfl|rfl|rfl|rfl|rfl|rfl|rfl<;>rfl
theorem a7x:∀m:Fin 6,zy (iM (m.val:Int))=some (m.val:Int):=by decide+kernel
theorem a7y{m:Int}(h:0<=m/\m<=5):zy (iM m)=some m:=by obtain⟨j,rfl⟩:∃j:Fin 6,m=(j.val:Int):=⟨⟨m.toNat,o5⟩,by simp;omega⟩;exact a7x j
def a0J(l:List d2g)(j:Nat)(w:d2g):Prop:=l[j]? =some w/\∀x∈l.take j,x≠w
theorem a1m{α:Type}(l:List α)(p:α->Bool)(hl:l.length<=1000000){f:Int->Option (Out Int PUnit Int)}
  (h1:∀(i:Nat) (a:α),l[i]? =some a->f (i:Int)=some (l7 (p a) (.rt (i:Int)) (.nx ((i+1:Nat):Int)))) (h2:f (l.length:Int)=some (.ex PUnit.unit)):
  (∀j a,l[j]? =some a->p a=true->(∀x∈l.take j,p x=false)->O6 f 0=some (.inr (j:Int)))/\((∀x∈l,p x=false)->O6 f 0=some (.inl PUnit.unit)):=by
 have step:∀(j i k:Nat),i<=j->j<=l.length->(∀x∈l.take j,p x=false)->iy f (k+(j -i)) (i:Int)=iy f k (j:Int):=by
  intro j i k hij hj hp;induction h:j -i generalizing i k with
  |zero=>rw[show i=j by omega];rfl|succ n ih=>
   have hi:i<l.length:=o5;have hg:=qi hi;have:=h1 i _ hg;rw[hp l[i] (by rw[List.mem_take_iff_getElem];exact⟨i,o5,rfl⟩),o6]at this
   rw[show k+(n+1)=(k+n)+1 by omega,dM,this];exact ih (i+1) k o5 o5
 constructor
 .intro j a ha hpa hp;have hj:=(aV.1 ha).1;have:=step j 0 (aH -j) o5 o5 hp;rw[show aH -j+(j -0)=aH by unfold aH;omega]at this;unfold O6;rw[show(0:Int)=((0:Nat):Int)from rfl,this,show aH -j=(aH -j -1)+1 by unfold aH;omega,dM,h1 j a ha,hpa];rfl
 .intro hp;have:=step l.length 0 (aH -l.length) o5 o5 (λx hx=>hp x (su hx));rw[show aH -l.length+(l.length -0)=aH by unfold aH;omega]at this;unfold O6;rw[show(0:Int)=((0:Nat):Int)from rfl,this,show aH -l.length=(aH -l.length -1)+1 by unfold aH;omega,dM,h2]
theorem u_{l:List d2g}(hl:l.length<=1000000)(w:d2g):(∀j,a0J l j w->dN l w=some (j:Int))/\((∀x∈l,x≠w)->dN l w=some (-1)):=by
 unfold dN;obtain⟨k1,k2⟩:=a1m l (λx=>seq w x) hl (f:=λ(x:Int)=>l7 (H5 x (x8 l)) (l9 (J9 l x) λ(x_1:d2g)=>l7 (seq w x_1) (some (Out.rt x)) (some (Out.nx (E9 IntKind.i64 x 1)))) (some (Out.ex PUnit.unit)))
  (λi a ha=>by have:=(aV.1 ha).1;simp only[X9 ha,o7,U8,ha,o9];rw[fF o5];cases seq w a<;>rfl) (by rw[af];rfl)
 constructor
 .intro j hj;refine V5 (k1 j w hj.1 (ja.2 rfl) (λx hx=>vY.2 (λe=>hj.2 x hx e.symm))) ?_;rfl
 .intro h;refine V5 (k2 (λx hx=>vY.2 (λe=>h x hx e.symm))) ?_;rfl
variable {j:Nat}
theorem a8Z{l:List aP}(hl:l.length<=1000000)(t:dw){e:aP}(he:l[j]? =some e)(hw:e.1=t.2.1)(hf:∀x∈l.take j,x.1≠t.2.1):ik l t=some (j:Int):=by
 unfold ik vN;obtain⟨k1,-⟩:=a1m l (λx=>seq x.1 t.2.1) hl (f:=λ(x:Int)=>l7 (H5 x (x8 l)) (l9 (J9 l x) λ(x_1:aP)=>l9 (some (seq x_1.1 t.2.1)) λ(x_2:Bool)=>l7 x_2 (some (Out.rt x)) (some (Out.nx (E9 IntKind.i64 x 1)))) (some (Out.ex PUnit.unit)))
  (λi a ha=>by have:=(aV.1 ha).1;simp only[X9 ha,o7,U8,ha,o9];rw[fF o5];cases seq a.1 t.2.1<;>rfl) (by rw[af];rfl)
 refine V5 (k1 j e he (ja.2 hw) (λx hx=>vY.2 (hf x hx))) ?_;rfl
variable {i:Nat}{R:List Y3}{nd:List (Int×Int)}{n:Int}
section
variable {T:List dw} {E:Int} {N:E8}
theorem QB(h:At3 T i ((1,w,n)::R))(hw:gz w=true){l:List d2g}(hl:l.length<=1000000)(hj:a0J l j w):gI (pS T E N i nd) l=some ((j:Int),true,pS T E N (i+1) nd):=by have hs:=BU h;have hi:=Pz h;have hT:=h.2.1;unfold gI;rw[KP h,o9];have e1:(pk T i).1=1:=congrArg (λx:Y3=>x.1) hs;have e2:(pk T i).2.1=w:=congrArg (λx:Y3=>x.2.1) hs;simp only[e1,e2,O9 (rfl:(1:Int)=1),G8,o6,Vj hw,o9];rw[(u_ hl w).1 j hj,o9,X5 o5,o6,fF o5]
theorem a6f{m n:Int}(h:At3 T i ((1,iM m,n)::R))(hm:0<=m/\m<=5):eP (pS T E N i nd)=some (m,true,pS T E N (i+1) nd):=by have hs:=BU h;have hi:=Pz h;have hT:=h.2.1;unfold eP;rw[KP h,o9];have e1:(pk T i).1=1:=congrArg (λx:Y3=>x.1) hs;have e2:(pk T i).2.1=iM m:=congrArg (λx:Y3=>x.2.1) hs;simp only[e1,e2,O9 (rfl:(1:Int)=1),G8,o6,a7y hm,o9];rw[X5 o5,o6,fF o5]
theorem QY{k:Y3}(h:At3 T i (k::R)):UN (pk T (i+1))=hd3 R:=BU (gG h)
theorem b3Q(hnd:nd.length<=1000000)(h:At3 T i ((1,w,n)::R))(hR:Iw R)(hw:gz w=true)(hl:N.2.2.1.length<=1000000)(hj:a0J N.2.2.1 j w):eQ (pS T E N i nd)=some (true,pS T E N (i+1) (nd++[(7,(j:Int))])):=by
 have hs:=BU h;have hn:=QY h;have hi:=Pz h;have hT:=h.2.1;unfold eQ;rw[KP h,o9];simp only;rw[show X3 (pS T E N i nd) 1=_ from Ob i 1 nd hT h.2.2 o5,o9];have e1:(pk T i).1=1:=congrArg (λx:Y3=>x.1) hs;have e2:(pk T i).2.1=w:=congrArg (λx:Y3=>x.2.1) hs;have e3:(l7 (x9 (pk T (i+1)).1 7) (some (seq (pk T (i+1)).2.1 [58])) (some false))=some false:=by
  have q1:(pk T (i+1)).1=(hd3 R).1:=congrArg (λx:Y3=>x.1) hn;have q2:(pk T (i+1)).2.1=(hd3 R).2.1:=congrArg (λx:Y3=>x.2.1) hn;rw[q1,q2];by_cases g:(hd3 R).1=7
  .rw[O9 g,o7];congr 1;exact vY.2 (λe=>(a2a hR).1 ⟨g,e⟩)
  .rw[O5 g];rfl
 simp only[e2,Vj hw,o9,G8,o6,e3];rw[(u_ hl w).1 j hj,o9,Z9 o5,o7,fF o5];rw[show H9 (T,((i+1:Nat):Int),E,N,nd,0,0) 7 (j:Int)=_ from pF (i:=i+1) hnd 7 (j:Int),o9]
theorem a9p(hnd:nd.length<=1000000)(h:At3 T i ((1,w,n)::R))(hR:Iw R)(hw:gz w=true)(hl:N.2.2.1.length<=1000000)(hl2:N.2.2.2.1.length<=1000000)(hno:∀x∈N.2.2.1,x≠w)(hj:a0J N.2.2.2.1 j w):eQ (pS T E N i nd)=some (true,pS T E N (i+1) (nd++[(8,(j:Int))])):=by
 have hs:=BU h;have hn:=QY h;have hi:=Pz h;have hT:=h.2.1;unfold eQ;rw[KP h,o9];simp only;rw[show X3 (pS T E N i nd) 1=_ from Ob i 1 nd hT h.2.2 o5,o9];have e2:(pk T i).2.1=w:=congrArg (λx:Y3=>x.2.1) hs;have e3:(l7 (x9 (pk T (i+1)).1 7) (some (seq (pk T (i+1)).2.1 [58])) (some false))=some false:=by
  have q1:(pk T (i+1)).1=(hd3 R).1:=congrArg (λx:Y3=>x.1) hn;have q2:(pk T (i+1)).2.1=(hd3 R).2.1:=congrArg (λx:Y3=>x.2.1) hn;rw[q1,q2];by_cases g:(hd3 R).1=7
  .rw[O9 g,o7];congr 1;exact vY.2 (λe=>(a2a hR).1 ⟨g,e⟩)
  .rw[O5 g];rfl
 simp only[e2,Vj hw,o9,G8,o6,e3];rw[(u_ hl w).2 hno,o9,dO o5,o6,show gI (T,(i:Int),E,N,nd,0,0) N.2.2.2.1=_ from QB h hw hl2 hj,o9];simp only[o7];rw[pF hnd,o9]
theorem a7z(hnd:nd.length<=1000000){w v:d2g}{n n2 n3:Int}(h:At3 T i ((1,w,n)::(7,[58],n2)::(1,v,n3)::R))(hw:gz w=true)(hv:gz v=true)(hl:N.1.length<=1000000)
  {j k:Nat} {e:aP} (he:N.1[j]? =some e) (hj:e.1=w) (hf:∀x∈N.1.take j,x.1≠w) (hl2:e.2.length<=1000000) (hk:a0J e.2 k v):eQ (pS T E N i nd)=some (true,pS T E N (i+3) (nd++[(6,16*(j:Int)+(k:Int))])):=by
 have hs:=BU h;have hn:=QY h;have hi:=Pz h;have hT:=h.2.1;have hjl:=(aV.1 he).1;have hkl:=(aV.1 hk.1).1;unfold eQ;rw[KP h,o9];simp only;rw[show X3 (pS T E N i nd) 1=_ from Ob i 1 nd hT h.2.2 o5,o9];have e2:(pk T i).2.1=w:=congrArg (λx:Y3=>x.2.1) hs;have q1:(pk T (i+1)).1=7:=congrArg (λx:Y3=>x.1) hn;have q2:(pk T (i+1)).2.1=[58]:=congrArg (λx:Y3=>x.2.1) hn;simp only[e2,Vj hw,o9,G8,o6,q1,q2,O9 (rfl:(7:Int)=7),o7,show seq ([58]:d2g) [58]=true from rfl];rw[a8Z hl (pk T i) he (hj.trans e2.symm) (λx hx=>by rw[e2];exact hf x hx),o9,X5 o5,o6,U8,he,o9];have hp2:E9 .i64 (i:Int) 2=((i+2:Nat):Int):=by rw[dP bn];omega
 rw[hp2,show gI (T,((i+2:Nat):Int),E,N,nd,0,0) e.2=_ from QB (i:=i+2) (gG (gG h)) hv hl2 hk,o9];simp only[o7];rw[LX bn,dP bn,pF hnd,o9]
end
end
section
theorem c0Z(m:Nat)(p:D8):(o8 (m+1)).1 p=jC (o8 m).1 (o8 m).2.1 (o8 m).2.2.1 (o8 m).2.2.2.1 (o8 m).2.2.2.2 p:=rfl
theorem b4m(m:Nat)(p:D8):(o8 (m+1)).2.2.1 p=iC (o8 m).1 (o8 m).2.1 (o8 m).2.2.1 (o8 m).2.2.2.1 (o8 m).2.2.2.2 p:=rfl
theorem b4l(m:Nat)(p:D8):(o8 (m+1)).2.2.2.1 p=iP (o8 m).1 (o8 m).2.1 (o8 m).2.2.1 (o8 m).2.2.2.1 (o8 m).2.2.2.2 p:=rfl
theorem a4h(m:Nat)(p:D8)(op:Int):(o8 (m+1)).2.2.2.2 p op=bZ (o8 m).1 (o8 m).2.1 (o8 m).2.2.1 (o8 m).2.2.2.1 (o8 m).2.2.2.2 p op:=rfl
def biF(r207:D8->Int->Option (Bool×D8))(a1:Int)(x:D8×Int):Option (Out (D8×Int) PUnit (Bool×D8)):=
     l9 (X3 x.1 0) λ(x_1:dw×D8)=>
      l9 (mO x_1.1) λ(x_2:rf)=>
       l9
        (l7 (x9 x_2.1 0) (some (Sum.inr (true,x_1.2)))
         (l7 (H5 x_2.2 a1) (some (Sum.inr (true,x_1.2)))
          (l7 (H5 x.2 x_2.2) (some (Sum.inr (true,x_1.2))) (some (Sum.inl PUnit.unit)))))
        λ(o:PUnit⊕Bool×D8)=>
        U1 o
         (λ(x:PUnit)=>
          l9 (r207 (x_1.2.1,E9 IntKind.i64 x_1.2.2.1 1,x_1.2.2.2) (E9 IntKind.i64 x_2.2 1))
           λ(x:Bool×D8)=>
           l7 (G6 x.1) (some (Out.rt (false,x.2)))
            (l9 (H9 x.2 x_2.1 0) λ(x:Bool×D8)=>
             l7 (x9 x_2.2 3) (some (Out.nx (x.2,N7 IntKind.i64 x_2.2 1)))
              (some (Out.nx (x.2,x_2.2)))))
         λ(r:Bool×D8)=>some (Out.rt r)
theorem c0Y(m:Nat)(p:D8)(c:Int):(o8 (m+1)).2.1 p c=l9 ((o8 m).2.2.1 p) λ(x:Bool×D8)=>l7 (G6 x.1) (some (false,x.2)) (l9 (O6 (biF (o8 m).2.1 c) (x.2,5)) λ(o:PUnit⊕Bool×D8)=>U1 o (λ(y:PUnit)=>none) λ(r:Bool×D8)=>some r):=rfl
section
variable (T:List dw) (E:Int) (N:E8)
def EOk(m:Nat)(W:List Y3)(P:List (Int×Int))(R:List Y3):Prop:=∀i nd,At3 T i (W++R)->nd.length+P.length<=100000->(o8 m).1 (pS T E N i nd)=some (true,pS T E N (i+W.length) (nd++P))
def UOk(m:Nat)(W:List Y3)(P:List (Int×Int))(R:List Y3):Prop:=∀i nd,At3 T i (W++R)->nd.length+P.length<=100000->(o8 m).2.2.1 (pS T E N i nd)=some (true,pS T E N (i+W.length) (nd++P))
def AOk(m:Nat)(W:List Y3)(P:List (Int×Int))(R:List Y3):Prop:=∀i nd,At3 T i (W++R)->nd.length+P.length<=100000->(o8 m).2.2.2.1 (pS T E N i nd)=some (true,pS T E N (i+W.length) (nd++P))
def b3h(m:Nat)(c:Int)(W:List Y3)(P:List (Int×Int))(R:List Y3):Prop:=∀i nd,At3 T i (W++R)->nd.length+P.length<=100000->(o8 m).2.1 (pS T E N i nd) c=some (true,pS T E N (i+W.length) (nd++P))
def COk(m:Nat)(op:Int)(W:List Y3)(P:List (Int×Int))(R:List Y3):Prop:=∀i nd,At3 T i (W++R)->nd.length+P.length<=100000->(o8 m).2.2.2.2 (pS T E N i nd) op=some (true,pS T E N (i+W.length) (nd++P))
def LOk(m:Nat)(c:Int)(W:List Y3)(P:List (Int×Int))(g:Int)(R:List Y3):Prop:=∀i nd,At3 T i (W++R)->nd.length+P.length<=100000->∃(p' :D8) (q:Nat),q<=W.length/\(o8 m).2.2.1 (pS T E N i nd)=some (true,p')/\
 ∀j,iy (biF (o8 m).2.1 c) (j+q) (p',5)=iy (biF (o8 m).2.1 c) j (pS T E N (i+W.length) (nd++P),g)
end
variable {R:List Y3}{m:Nat}{W:List Y3}{P:List (Int×Int)}
section
variable {T:List dw} {E:Int} {N:E8}
theorem a5l(c:Int)(h:UOk T E N m W P R):LOk T E N m c W P 5 R:=λi nd hA hn=>⟨_,0,o5,h i nd hA hn,λj=>rfl⟩
theorem Ee{i:Nat}(h:At3 T i (W++R)):i+W.length<=1000000:=by have:=wY h;have h1:=this.2.1;have h2:=this.2.2;omega
theorem a9f{c g:Int}(h:LOk T E N m c W P g R)(hR:Iy R c):b3h T E N (m+1) c W P R:=by
 intro i nd hA hn;obtain⟨p',q,hq,h1,h2⟩:=h i nd hA hn;have hl:=Ee hA;have hB:=wY hA;have hs:=BU hB;rw[c0Y,h1,o9];simp only[G8,o6];have lp:O6 (biF (o8 m).2.1 c) (p',5)=some (.inr (true,pS T E N (i+W.length) (nd++P))):=by
  unfold O6;rw[show aH=(aH -q -1+1)+q by unfold aH;omega,h2,dM];have st:biF (o8 m).2.1 c (pS T E N (i+W.length) (nd++P),g)=some (.rt (true,pS T E N (i+W.length) (nd++P))):=by
   unfold biF;simp only;rw[KP hB,o9];simp only;rcases hR with hR|⟨k,hk,e,hc⟩
   .rw[b4c (t:=pk T (i+W.length)) (by rw[hs];exact hR),o9,O9 rfl,o7,o9,oU]
   .rw[a9A (t:=pk T (i+W.length)) hk (by rw[hs];exact e),o9];simp only;rw[O5 (by rcases hk with rfl|rfl|rfl|rfl|rfl|rfl|rfl|rfl|rfl<;>decide),o6,bT hc,o7,o9,oU]
  rw[st]
 rw[lp,o9,oU]
theorem c0S{c ga k:Int}{A B:List Y3}{PA PB:List (Int×Int)}(hk:a6W k)(hA:LOk T E N m c A PA ga (opK k::(B++R)))(hB:b3h T E N m ((iY k).2+1) B PB R)(h1:c<=(iY k).2)(h2:(iY k).2<=ga):
  LOk T E N m c (A++opK k::B) (PA++PB++[(k,0)]) (l7 (x9 (iY k).2 3) 2 (iY k).2) R:=by
 intro i nd hAt hn;have hAt' :At3 T i (A++(opK k::(B++R))):=by rw[E5]at hAt;exact hAt
 simp only[C9,aW]at hn;obtain⟨p',q,hq,e1,e2⟩:=hA i nd hAt' o5;refine⟨p',q+1,by simp;omega,e1,λj=>?_⟩;have hO:=wY hAt';have hs:=BU hO;have hop:=a9A (t:=pk T (i+A.length)) hk hs;have hl:=Ee hAt;simp only[C9,D5]at hl;have hsy:1<=(iY k).2/\(iY k).2<=5:=by rcases hk with rfl|rfl|rfl|rfl|rfl|rfl|rfl|rfl|rfl<;>decide
 rw[show j+(q+1)=(j+1)+q by omega,e2,dM];have st:biF (o8 m).2.1 c (pS T E N (i+A.length) (nd++PA),ga)=some (.nx (pS T E N (i+(A++opK k::B).length) (nd++(PA++PB++[(k,0)])),l7 (x9 (iY k).2 3) 2 (iY k).2)):=by
  unfold biF;simp only;rw[KP hO,o9];simp only;rw[hop,o9];simp only;rw[O5 (by rcases hk with rfl|rfl|rfl|rfl|rfl|rfl|rfl|rfl|rfl<;>decide),o6,X5 h1,o6,X5 h2,o6,o9,X8,fF o5,dP bn];rw[show(o8 m).2.1 (T,((i+A.length+1:Nat):Int),E,N,nd++PA,0,0) ((iY k).2+1)=_ from hB (i+A.length+1) (nd++PA) (gG hO) F9,o9];simp only[G8,o6];rw[pF F9,o9];simp only;rw[di bn];have e3:i+A.length+1+B.length=i+(A++opK k::B).length:=by simp;omega
  have e4:nd++PA++PB++[(k,0)]=nd++(PA++PB++[(k,0)]):=A7;rw[e3,e4];by_cases h3:(iY k).2=3
  .rw[O9 h3,o7,o7,h3];rfl
  .rw[O5 h3,o6,o6]
 rw[st]
theorem b6l(h:b3h T E N m 1 W P R)(hne:W≠[])(hif:¬((hd3 W).1=1/\(hd3 W).2.1=[105,102])):EOk T E N (m+1) W P R:=by
 intro i nd hA hn;have hh:hd3 (W++R)=hd3 W:=by cases W with|nil=>exact absurd rfl hne|cons a W=>rfl
 rw[c0Z];unfold jC;rw[Lp hA,o9,hh];have e:l7 (x9 (hd3 W).1 1) (seq (hd3 W).2.1 [105,102]) false=false:=by
  by_cases g:(hd3 W).1=1
  .rw[O9 g,o7];exact vY.2 (λe=>hif ⟨g,e⟩)
  .rw[O5 g];rfl
 rw[e];simp only[V7,o7];rw[h i nd hA hn,o9]
theorem c9i{A B C:List Y3}{PA PB PC:List (Int×Int)} (hA:EOk T E N m A PA ((1,[116,104,101,110],0)::(B++((1,[101,108,115,101],0)::(C++R))))) (hB:EOk T E N m B PB ((1,[101,108,115,101],0)::(C++R))) (hC:EOk T E N m C PC R):
  EOk T E N (m+1) ((1,[105,102],0)::(A++(1,[116,104,101,110],0)::(B++(1,[101,108,115,101],0)::C))) (PA++PB++PC++[(26,0)]) R:=by
 intro i nd hAt hn;have h0:At3 T i ((1,[105,102],0)::(A++((1,[116,104,101,110],0)::(B++((1,[101,108,115,101],0)::(C++R)))))):=by have e:((1,[105,102],0)::(A++(1,[116,104,101,110],0)::(B++(1,[101,108,115,101],0)::C)))++R=((1,[105,102],0):Y3)::(A++((1,[116,104,101,110],0)::(B++((1,[101,108,115,101],0)::(C++R))))):=A7;rw[←e];exact hAt
 have hl:=Ee hAt;simp only[C9,D5,I8]at hl hn;have a1:=gG h0;have a2:=wY a1;have a3:=gG a2;have a4:=wY a3;have a5:=gG a4;rw[c0Z];unfold jC;rw[Lp h0,o9];rw[show(l7 (x9 (hd3 ((1,[105,102],0)::(A++((1,[116,104,101,110],0)::(B++((1,[101,108,115,101],0)::(C++R))))):List Y3)).1 1) (seq (hd3 ((1,[105,102],0)::(A++((1,[116,104,101,110],0)::(B++((1,[101,108,115,101],0)::(C++R))))):List Y3)).2.1 [105,102]) false)=true from rfl];simp only[G8,o6];rw[fF o5];rw[show(o8 m).1 (T,((i+1:Nat):Int),E,N,nd,0,0)=_ from hA (i+1) nd a1 o5,o9];simp only[o7];rw[show eF (pS T E N (i+1+A.length) (nd++PA)) 1 [116,104,101,110]=_ from SN a2,o9];simp only[o7];rw[hB (i+1+A.length+1) (nd++PA) a3 F9,o9];simp only[o7];rw[show eF (pS T E N (i+1+A.length+1+B.length) (nd++PA++PB)) 1 [101,108,115,101]=_ from SN a4,o9];simp only[o7];rw[hC (i+1+A.length+1+B.length+1) (nd++PA++PB) a5 F9,o9];simp only[o7];rw[pF F9,o9];have e3:i+1+A.length+1+B.length+1+C.length=i+((1,[105,102],0)::(A++(1,[116,104,101,110],0)::(B++(1,[101,108,115,101],0)::C)):List Y3).length:=by simp;omega
 have e4:nd++PA++PB++PC++[(26,0)]=nd++(PA++PB++PC++[(26,0)]):=A7;rw[e3,e4]
theorem b3k(h:EOk T E N m W P ((7,[41],0)::R)):AOk T E N (m+1) ((7,[40],0)::(W++[(7,[41],0)])) P R:=by
 intro i nd hAt hn;have h0:At3 T i ((7,[40],0)::(W++((7,[41],0)::R))):=by have e:((7,[40],0)::(W++[(7,[41],0)]))++R=((7,[40],0):Y3)::(W++((7,[41],0)::R)):=A7;rw[←e];exact hAt
 have hl:=Ee hAt;simp only[C9,D5,I8]at hl;have hs:=BU h0;have e1:(pk T i).1=7:=congrArg (λx:Y3=>x.1) hs;rw[b4l];unfold iP;rw[KP h0,o9,NU,o9];simp only[e1,show WP 7=0 from rfl,O9 (rfl:(0:Int)=0),G8,o6,O5 (show(7:Int)≠5 by omega)];rw[Lp h0,o9];rw[show(l7 (x9 (hd3 ((7,[40],0)::(W++((7,[41],0)::R)):List Y3)).1 7) (seq (hd3 ((7,[40],0)::(W++((7,[41],0)::R)):List Y3)).2.1 [40]) false)=true from rfl];simp only[o7];rw[fF o5];rw[show(o8 m).1 (T,((i+1:Nat):Int),E,N,nd,0,0)=_ from h (i+1) nd (gG h0) hn,o9];simp only[o7];rw[yQ (wY (gG h0)),o9];have e3:i+1+W.length+1=i+((7,[40],0)::(W++[(7,[41],0)]):List Y3).length:=by simp;omega
 rw[e3]
theorem a8x(h:AOk T E N m W P R)(hne:W≠[])(h1:¬((hd3 W).1=7/\(hd3 W).2.1=[45]))(h2:¬((hd3 W).1=1/\(hd3 W).2.1=[110,111,116])):UOk T E N (m+1) W P R:=by
 intro i nd hA hn;have hh:hd3 (W++R)=hd3 W:=by cases W with|nil=>exact absurd rfl hne|cons a W=>rfl
 rw[b4m];unfold iC;rw[Lp hA,o9,hh];have e:l7 (x9 (hd3 W).1 7) (seq (hd3 W).2.1 [45]) false=false:=by
  by_cases g:(hd3 W).1=7
  .rw[O9 g,o7];exact vY.2 (λe=>h1 ⟨g,e⟩)
  .rw[O5 g];rfl
 have e' :l7 (x9 (hd3 W).1 1) (seq (hd3 W).2.1 [110,111,116]) false=false:=by
  by_cases g:(hd3 W).1=1
  .rw[O9 g,o7];exact vY.2 (λe=>h2 ⟨g,e⟩)
  .rw[O5 g];rfl
 rw[e];simp only[o6];rw[Lp hA,o9,hh,e'];simp only[o6];rw[h i nd hA hn,o9]
theorem c8K(h:UOk T E N m W P R):UOk T E N (m+1) ((1,[110,111,116],0)::W) (P++[(25,0)]) R:=by
 intro i nd hAt hn;have h0:At3 T i ((1,[110,111,116],0)::(W++R)):=hAt;have hl:=Ee hAt;simp only[C9,D5,I8]at hl hn;rw[b4m];unfold iC;rw[Lp h0,o9];rw[show(l7 (x9 (hd3 ((1,[110,111,116],0)::(W++R):List Y3)).1 7) (seq (hd3 ((1,[110,111,116],0)::(W++R):List Y3)).2.1 [45]) false)=false from rfl];simp only[o6];rw[Lp h0,o9];rw[show(l7 (x9 (hd3 ((1,[110,111,116],0)::(W++R):List Y3)).1 1) (seq (hd3 ((1,[110,111,116],0)::(W++R):List Y3)).2.1 [110,111,116]) false)=true from rfl];simp only[o7];rw[fF o5];rw[show(o8 m).2.2.1 (T,((i+1:Nat):Int),E,N,nd,0,0)=_ from h (i+1) nd (gG h0) o5,o9];simp only[o7];rw[pF F9,o9];have e3:i+1+W.length=i+((1,[110,111,116],0)::W:List Y3).length:=by simp;omega
 rw[e3,E5]
theorem b6b(h:UOk T E N m W P R)(hne:W≠[])(hlit:WP (hd3 W).1=0):UOk T E N (m+1) ((7,[45],0)::W) (P++[(10,0)]) R:=by
 intro i nd hAt hn;have h0:At3 T i ((7,[45],0)::(W++R)):=hAt;have hl:=Ee hAt;have hh:hd3 (W++R)=hd3 W:=by cases W with|nil=>exact absurd rfl hne|cons a W=>rfl
 simp only[C9,D5,I8]at hl hn;have hn1:=QY h0;have e1:(pk T (i+1)).1=(hd3 W).1:=by rw[←hh];exact congrArg (λx:Y3=>x.1) hn1
 rw[b4m];unfold iC;rw[Lp h0,o9];rw[show(l7 (x9 (hd3 ((7,[45],0)::(W++R):List Y3)).1 7) (seq (hd3 ((7,[45],0)::(W++R):List Y3)).2.1 [45]) false)=true from rfl];simp only[o7];rw[show X3 (pS T E N i nd) 1=_ from Ob i 1 nd h0.2.1 h0.2.2 o5,o9,NU,o9];simp only[e1,hlit,O9 (rfl:(0:Int)=0),G8,o6];rw[fF o5];rw[show(o8 m).2.2.1 (T,((i+1:Nat):Int),E,N,nd,0,0)=_ from h (i+1) nd (gG h0) o5,o9];simp only[o7];rw[pF F9,o9];have e3:i+1+W.length=i+((7,[45],0)::W:List Y3).length:=by simp;omega
 rw[e3,E5]
theorem b2Y{k u:Int}{w:d2g}(hk:k=2\/k=3\/k=4)(hu:0<=u/\u<=1000000000000000000):UOk T E N (m+1) [(7,[45],0),(k,w,u)] [(k,-u)] R:=by
 intro i nd hAt hn;have h0:At3 T i ((7,[45],0)::(k,w,u)::R):=hAt;have hl:=Ee hAt;simp only[D5,I8]at hl hn;have hn1:=QY h0;have e1:(pk T (i+1)).1=k:=congrArg (λx:Y3=>x.1) hn1;have e2:(pk T (i+1)).2.2.1=u:=congrArg (λx:Y3=>x.2.2) hn1;have hlit:WP k=k:=by rcases hk with rfl|rfl|rfl<;>rfl
 rw[b4m];unfold iC;rw[Lp h0,o9];rw[show(l7 (x9 (hd3 ((7,[45],0)::(k,w,u)::R:List Y3)).1 7) (seq (hd3 ((7,[45],0)::(k,w,u)::R:List Y3)).2.1 [45]) false)=true from rfl];simp only[o7];rw[show X3 (pS T E N i nd) 1=_ from Ob i 1 nd h0.2.1 h0.2.2 o5,o9,NU,o9];simp only[e1,e2,hlit,O5 (show k≠0 by omega),V7,o7];rw[o9];rw[show E9 .i64 (i:Int) 2=((i+2:Nat):Int) by rw[dP bn];omega,di bn];rw[show H9 (T,((i+2:Nat):Int),E,N,nd,0,0) k (0 -u)=_ from pF (i:=i+2) o5 k (0 -u),o9,Int.zero_sub];rfl
end
end
section
structure NmD (N:E8):Prop where
 id:NmI N
 le:N.1.length<=1000/\N.2.1.length<=1000/\N.2.2.1.length<=1000/\N.2.2.2.1.length<=1000/\N.2.2.2.2.length<=1000
 e:∀(j:Nat) e,N.1[j]? =some e->(∀x∈N.1.take j,x.1≠e.1)/\e.2.length<=1000/\∀(k:Nat) v,e.2[k]? =some v->∀x∈e.2.take k,x≠v
 t:∀(j:Nat) w,N.2.1[j]? =some w->∀x∈N.2.1.take j,x≠w
 i:∀(j:Nat) w,N.2.2.1[j]? =some w->∀x∈N.2.2.1.take j,x≠w
 d:∀(j:Nat) w,N.2.2.2.1[j]? =some w->(∀x∈N.2.2.2.1.take j,x≠w)/\∀x∈N.2.2.1,x≠w
 m:∀(j:Nat) w,N.2.2.2.2[j]? =some w->∀x∈N.2.2.2.2.take j,x≠w
theorem Mc{α:Type}{l:List α}{i:Int}{x:α}(h:J9 l i=some x):l[i.toNat]? =some x/\((i.toNat:Nat):Int)=i/\x∈l:=by obtain⟨h0,h1,h2,h3⟩:=qX h;exact⟨h3,o5,h2⟩
variable {m:Nat}{R:List Y3}{v:Int}{k:Int}{W:List Y3}{n:Int}{w:d2g}{P:List (Int×Int)}
section
variable {T:List dw} {E:Int} {N:E8}
theorem c0w{k u:Int}(hk:k=2\/k=3\/k=4):AOk T E N (m+1) [(k,w,u)] [(k,u)] R:=by
 intro i nd hAt hn;have h0:At3 T i ((k,w,u)::R):=hAt;have hl:=Ee hAt;simp only[D5,I8]at hl hn;have hs:=BU h0;have e1:(pk T i).1=k:=congrArg (λx:Y3=>x.1) hs;have e2:(pk T i).2.2.1=u:=congrArg (λx:Y3=>x.2.2) hs;have hlit:WP k=k:=by rcases hk with rfl|rfl|rfl<;>rfl
 rw[b4l];unfold iP;rw[KP h0,o9,NU,o9];simp only[e1,e2,hlit,O5 (show k≠0 by omega),V7,o7];rw[o9,fF o5,show H9 (T,((i+1:Nat):Int),E,N,nd,0,0) k u=_ from pF (i:=i+1) o5 k u,o9];rfl
theorem b6e{u:Int} :AOk T E N (m+1) [(5,w,u)] [(5,u)] R:=by intro i nd hAt hn;have h0:At3 T i ((5,w,u)::R):=hAt;have hl:=Ee hAt;simp only[D5,I8]at hl hn;have hs:=BU h0;have e1:(pk T i).1=5:=congrArg (λx:Y3=>x.1) hs;have e2:(pk T i).2.2.1=u:=congrArg (λx:Y3=>x.2.2) hs;rw[b4l];unfold iP;rw[KP h0,o9,NU,o9];simp only[e1,e2,show WP 5=0 from rfl,O9 (rfl:(0:Int)=0),O9 (rfl:(5:Int)=5),G8,o6,o7];rw[fF o5,show H9 (T,((i+1:Nat):Int),E,N,nd,0,0) 5 u=_ from pF (i:=i+1) o5 5 u,o9];rfl
theorem VD{i:Nat}{nd:List (Int×Int)}(h0:At3 T i ((1,w,n)::(W++R))):(o8 (m+1)).2.2.2.1 (pS T E N i nd)=
  (l7 (seq w [116,114,117,101]) (H9 (pS T E N (i+1) nd) 1 1)
   (l7 (seq w [102,97,108,115,101]) (H9 (pS T E N (i+1) nd) 1 0)
    (l7 (seq w [116,111,100,97,121]) (H9 (pS T E N (i+1) nd) 9 0)
     (l9 (mP w) λ(x_3:Int)=>
           l7 (G6 (x9 x_3 0))
            (l9 (S9 (pS T E N (i+1) nd) [40])
             λ(x_4:Bool×D8)=>
             l7 x_4.1
              (l9 ((o8 m).2.2.2.2 x_4.2 x_3) λ(x:Bool×D8)=>
                l7 x.1 (l9 (S9 x.2 [41]) λ(x:Bool×D8)=>some x)
                 (some (false,x.2)))
              (some (false,x_4.2)))
            (eQ (pS T E N i nd)))))):=by
 have hi:=Pz h0;have hT:=h0.2.1;have hs:=BU h0;have e1:(pk T i).1=1:=congrArg (λx:Y3=>x.1) hs;have e2:(pk T i).2.1=w:=congrArg (λx:Y3=>x.2.1) hs;rw[b4l];unfold iP;rw[KP h0,o9,NU,o9];simp only[e1,e2,show WP 1=0 from rfl,O9 (rfl:(0:Int)=0),G8,o6,O5 (show(1:Int)≠5 by omega)];rw[Lp h0,o9,show(l7 (x9 (hd3 ((1,w,n)::(W++R):List Y3)).1 7) (seq (hd3 ((1,w,n)::(W++R):List Y3)).2.1 [40]) false)=false from rfl];simp only[o6,O9 (rfl:(1:Int)=1),G8];rw[fF o5];simp only[uS];cases hc:mP w<;>rfl
theorem b6g :AOk T E N (m+1) [(1,[116,114,117,101],n)] [(1,1)] R:=by intro i nd hAt hn;simp only[D5,I8]at hn;rw[VD (W:=[]) hAt,show seq ([116,114,117,101]:d2g) [116,114,117,101]=true from rfl,o7,pF o5];rfl
theorem b3j :AOk T E N (m+1) [(1,[102,97,108,115,101],n)] [(1,0)] R:=by intro i nd hAt hn;simp only[D5,I8]at hn;rw[VD (W:=[]) hAt,show seq ([102,97,108,115,101]:d2g) [116,114,117,101]=false from rfl,o6,show seq ([102,97,108,115,101]:d2g) [102,97,108,115,101]=true from rfl,o7,pF o5];rfl
theorem b3l :AOk T E N (m+1) [(1,[116,111,100,97,121],n)] [(9,0)] R:=by intro i nd hAt hn;simp only[D5,I8]at hn;rw[VD (W:=[]) hAt,show seq ([116,111,100,97,121]:d2g) [116,114,117,101]=false from rfl,o6,show seq ([116,111,100,97,121]:d2g) [102,97,108,115,101]=false from rfl,o6,show seq ([116,111,100,97,121]:d2g) [116,111,100,97,121]=true from rfl,o7,pF o5];rfl
theorem ZM{i:Nat}{nd:List (Int×Int)}(h0:At3 T i ((1,w,n)::(W++R)))(hw:gz w=true):(o8 (m+1)).2.2.2.1 (pS T E N i nd)=eQ (pS T E N i nd):=by rw[VD h0,a3R hw (by decide+kernel),o6,a3R hw (by decide+kernel),o6,a3R hw (by decide+kernel),o6,a7a hw,o9,O9 rfl];rfl
theorem c8X(hN:NmD N)(hv:J9 N.2.2.1 v=some (gtN N.2.2.1 v))(hR:Iw R):AOk T E N (m+1) [(1,gtN N.2.2.1 v,0)] [(7,v)] R:=by intro i nd hAt hn;simp only[D5,I8]at hn;obtain⟨h1,h2,h3⟩:=Mc hv;have hw:=hN.id.i _ h3;rw[ZM (W:=[]) hAt hw,b3Q o5 hAt hR hw (by have:=hN.le;omega) ⟨h1,hN.i _ _ h1⟩,h2];rfl
theorem c0u(hN:NmD N)(hv:J9 N.2.2.2.1 v=some (gtN N.2.2.2.1 v))(hR:Iw R):AOk T E N (m+1) [(1,gtN N.2.2.2.1 v,0)] [(8,v)] R:=by intro i nd hAt hn;simp only[D5,I8]at hn;obtain⟨h1,h2,h3⟩:=Mc hv;have hw:=hN.id.d _ h3;rw[ZM (W:=[]) hAt hw,a9p o5 hAt hR hw (by have:=hN.le;omega) (by have:=hN.le;omega) (hN.d _ _ h1).2 ⟨h1,(hN.d _ _ h1).1⟩,h2];rfl
theorem b6f(hN:NmD N)(hI:jg v)(hz:flS (6,v) N=0) :AOk T E N (m+1) [(1,((J9 N.1 (Z7 .i64 v 16)).getD ([],[])).1,0),(7,[58],0),(1,gtN ((J9 N.1 (Z7 .i64 v 16)).getD ([],[])).2 (dJ v 16),0)] [(6,v)] R:=by intro i nd hAt hn;simp only[D5,I8]at hn;obtain⟨e,h1,h2,q1,q2,q3,q4⟩:=j_ hI hz;rw[h1]at hAt ⊢;simp only[Z4]at hAt ⊢;obtain⟨a1,a2,a3⟩:=Mc h1;obtain⟨b1,b2,b3⟩:=Mc h2;obtain⟨c1,c2,c3⟩:=hN.e _ _ a1;have hw:=(hN.id.e _ a3).1;have hv:=(hN.id.e _ a3).2 _ b3;rw[ZM (W:=[(7,[58],0),(1,gtN e.2 (dJ v 16),0)]) hAt hw,a7z o5 hAt hw hv (by have:=hN.le;omega) a1 rfl c1 o5 ⟨b1,c3 _ _ b1⟩,a2,b2,←q4];rfl
def VK(k:Int):Prop:=k=14\/k=15\/k=16\/k=17\/k=18\/k=27\/k=28\/k=29\/k=30\/k=31\/k=32\/k=33\/k=34\/k=35\/k=36\/k=37\/k=38\/k=39
theorem ZL(hk:VK k)(h:COk T E N m k W P ((7,[41],0)::R)):AOk T E N (m+1) ((1,dG k,0)::(7,[40],0)::(W++[(7,[41],0)])) P R:=by
 intro i nd hAt hn;have h0:At3 T i ((1,dG k,0)::((7,[40],0)::(W++[(7,[41],0)])++R)):=hAt;have h2:At3 T (i+1) ((7,[40],0)::(W++((7,[41],0)::R))):=by have:=gG h0;have e:((7,[40],0)::(W++[(7,[41],0)])++R)=((7,[40],0):Y3)::(W++((7,[41],0)::R)):=A7;rw[←e];exact this
 have hne:seq (dG k) [116,114,117,101]=false/\seq (dG k) [102,97,108,115,101]=false/\seq (dG k) [116,111,100,97,121]=false/\x9 k 0=false:=by rcases hk with rfl|rfl|rfl|rfl|rfl|rfl|rfl|rfl|rfl|rfl|rfl|rfl|rfl|rfl|rfl|rfl|rfl|rfl<;>exact⟨rfl,rfl,rfl,rfl⟩
 rw[VD h0,hne.1,hne.2.1,hne.2.2.1,o6,o6,o6,a6Z hk,o9,hne.2.2.2,V7,o7];rw[yQ h2,o9];simp only[o7];rw[h (i+1+1) nd (gG h2) hn,o9];simp only[o7];rw[yQ (wY (gG h2)),o9];have e3:i+1+1+W.length+1=i+((1,dG k,0)::(7,[40],0)::(W++[(7,[41],0)]):List Y3).length:=by simp;omega
 rw[e3]
theorem b3q :COk T E N (m+1) 35 [] [(35,0)] R:=by intro i nd hAt hn;simp only[D5,I8]at hn;rw[a4h];unfold bZ;simp (disch:=decide) only[O9,o7];rw[pF o5,o9];rfl
theorem c0K(hN:NmD N)(hk:k=36\/k=37\/k=38\/k=39)(hv:J9 N.2.2.2.2 v=some (gtN N.2.2.2.2 v)) :COk T E N (m+1) k [(1,gtN N.2.2.2.2 v,0)] [(k,v)] R:=by
 intro i nd hAt hn;simp only[D5,I8]at hn;obtain⟨h1,h2,h3⟩:=Mc hv;have hf:=QB (E:=E) (N:=N) (nd:=nd) hAt (hN.id.m _ h3) (l:=N.2.2.2.2) (by have:=hN.le;omega) ⟨h1,hN.m _ _ h1⟩;rw[h2]at hf;rw[a4h];unfold bZ;have e:(l7 (x9 k 36) (some (x9 k 36)) (l7 (x9 k 37) (some (x9 k 37)) (l7 (x9 k 38) (some (x9 k 38)) (some (x9 k 39)))))=some true:=by rcases hk with rfl|rfl|rfl|rfl<;>rfl
 rw[O5 (show k≠35 by omega),o6,e];simp only[o9,o7];rw[hf,o9];simp only[o7];rw[pF o5,o9];rfl
theorem c0M(hN:NmD N)(hv:J9 N.2.1 v=some (gtN N.2.1 v))(h:EOk T E N m W P R):COk T E N (m+1) 33 ((1,gtN N.2.1 v,0)::(7,[44],0)::W) (P++[(33,v)]) R:=by
 intro i nd hAt hn;simp only[C9,D5,I8]at hn;obtain⟨h1,h2,h3⟩:=Mc hv;have h0:At3 T i ((1,gtN N.2.1 v,0)::(7,[44],0)::(W++R)):=hAt;have hf:=QB (E:=E) (N:=N) (nd:=nd) h0 (hN.id.t _ h3) (l:=N.2.1) (by have:=hN.le;omega) ⟨h1,hN.t _ _ h1⟩;rw[h2]at hf;rw[a4h];unfold bZ;simp (disch:=decide) only[O9,O5,o7,o6,o9];rw[hf,o9];simp only[G8,o6];rw[yQ (gG h0),o9];simp only[G8,o6];rw[h (i+1+1) nd (gG (gG h0)) o5,o9];simp only[G8,o6];rw[pF F9,o9,o9,oU];have e3:i+1+1+W.length=i+((1,gtN N.2.1 v,0)::(7,[44],0)::W:List Y3).length:=by simp;omega
 rw[e3,E5]
theorem b6q(hN:NmD N)(hI:jg v)(hz:flS (34,v) N=0)(h:EOk T E N m W P ((7,[44],0)::(1,iM (dJ v 8),0)::R)):
  COk T E N (m+1) 34 ((1,gtN N.2.1 (Z7 .i64 v 8),0)::(7,[44],0)::(W++[(7,[44],0),(1,iM (dJ v 8),0)])) (P++[(34,v)]) R:=by
 intro i nd hAt hn;simp only[C9,D5,I8]at hn;obtain⟨hv,g1,g2⟩:=h_ hI hz;obtain⟨h1,h2,h3⟩:=Mc hv;have h0:At3 T i ((1,gtN N.2.1 (Z7 .i64 v 8),0)::(7,[44],0)::(W++((7,[44],0)::(1,iM (dJ v 8),0)::R))):=by have e:((1,gtN N.2.1 (Z7 .i64 v 8),0)::(7,[44],0)::(W++[(7,[44],0),(1,iM (dJ v 8),0)]))++R=((1,gtN N.2.1 (Z7 .i64 v 8),0):Y3)::(7,[44],0)::(W++((7,[44],0)::(1,iM (dJ v 8),0)::R)):=A7;rw[←e];exact hAt
 have hf:=QB (E:=E) (N:=N) (nd:=nd) h0 (hN.id.t _ h3) (l:=N.2.1) (by have:=hN.le;omega) ⟨h1,hN.t _ _ h1⟩;rw[h2]at hf;have hq:v=8*Z7 .i64 v 8+dJ v 8:=by
  have hv0:0<=v:=by
   unfold flS at hz;rw[show V9 (34,v) N=l7 (H5 v 0) (some 6) (l7 (P7 (x8 N.2.1) (Z7 .i64 v 8)) (some 6) (l7 (H5 5 (dJ v 8)) (some 3) (some 0)))from rfl]at hz;rcases Int.lt_or_le v 0 with h|h
   .rw[bT h]at hz;cases hz
   .exact h
  rw[Oi hI 8 (.inl rfl),nC hv0,AU hv0];omega
 have hql:=(qX hv).2.1;have hle:=hN.le;unfold x8 at hql;have h4:=wY (gG (gG h0));rw[a4h];unfold bZ;simp (disch:=decide) only[O9,O5,o7,o6,o9];rw[hf,o9];simp only[G8,o6];rw[yQ (gG h0),o9];simp only[G8,o6];rw[h (i+1+1) nd (gG (gG h0)) o5,o9];simp only[G8,o6];rw[yQ h4,o9];simp only[G8,o6];rw[a6f (gG h4) ⟨g1,g2⟩,o9];simp only[o7];rw[LX bn,dP bn,←hq,pF F9,o9,o9,oU];have e3:i+1+1+W.length+1+1=i+((1,gtN N.2.1 (Z7 .i64 v 8),0)::(7,[44],0)::(W++[(7,[44],0),(1,iM (dJ v 8),0)]):List Y3).length:=by simp;omega
 rw[e3,E5]
theorem b5y(hk:k=31\/k=32)(h:EOk T E N m W P R):COk T E N (m+1) k W (P++[(k,0)]) R:=by
 intro i nd hAt hn;simp only[C9,D5,I8]at hn;rw[a4h];unfold bZ;rcases hk with rfl|rfl
 all_goals
  simp (disch:=decide) only[O9,O5,o7,o6,o9,X8];rw[h i nd hAt o5,o9];simp only[G8,o6];rw[pF F9,o9,E5]
theorem c0N(hk:k=17\/k=18\/k=27\/k=28\/k=29\/k=30){A B:List Y3}{PA PB:List (Int×Int)}(hA:EOk T E N m A PA ((7,[44],0)::(B++R)))(hB:EOk T E N m B PB R):COk T E N (m+1) k (A++(7,[44],0)::B) (PA++PB++[(k,0)]) R:=by
 intro i nd hAt hn;simp only[C9,D5,I8]at hn;have h0:At3 T i (A++((7,[44],0)::(B++R))):=by rw[E5]at hAt;exact hAt
 have e3:i+A.length+1+B.length=i+(A++(7,[44],0)::B:List Y3).length:=by simp;omega
 have e4:nd++PA++PB++[(k,0)]=nd++(PA++PB++[(k,0)]):=A7;rw[a4h];unfold bZ;rcases hk with rfl|rfl|rfl|rfl|rfl|rfl
 all_goals
  simp (disch:=decide) only[O9,O5,o7,o6,o9,X8];rw[hA i nd h0 o5,o9];simp only[G8,o6];rw[yQ (wY h0),o9];simp only[G8,o6];rw[hB (i+A.length+1) (nd++PA) (gG (wY h0)) F9,o9];simp only[G8,o6];rw[pF F9,o9,e3,e4]
theorem c0L(hk:k=14\/k=15\/k=16)(hv:0<=v/\v<=5){A B:List Y3}{PA PB:List (Int×Int)} (hA:EOk T E N m A PA ((7,[44],0)::(B++((7,[44],0)::(1,iM v,0)::R)))) (hB:EOk T E N m B PB ((7,[44],0)::(1,iM v,0)::R)):
  COk T E N (m+1) k (A++(7,[44],0)::(B++[(7,[44],0),(1,iM v,0)])) (PA++PB++[(k,v)]) R:=by
 intro i nd hAt hn;simp only[C9,D5,I8]at hn;have h0:At3 T i (A++((7,[44],0)::(B++((7,[44],0)::(1,iM v,0)::R)))):=by have e:(A++(7,[44],0)::(B++[(7,[44],0),(1,iM v,0)]))++R=A++((7,[44],0)::(B++((7,[44],0)::(1,iM v,0)::R)):List Y3):=A7;rw[←e];exact hAt
 have h4:=wY (gG (wY h0));have e3:i+A.length+1+B.length+1+1=i+(A++(7,[44],0)::(B++[(7,[44],0),(1,iM v,0)]):List Y3).length:=by simp;omega
 have e4:nd++PA++PB++[(k,v)]=nd++(PA++PB++[(k,v)]):=A7;rw[a4h];unfold bZ;rcases hk with rfl|rfl|rfl
 all_goals
  simp (disch:=decide) only[O9,O5,o7,o6,o9,X8];rw[hA i nd h0 o5,o9];simp only[G8,o6];rw[yQ (wY h0),o9];simp only[G8,o6];rw[hB (i+A.length+1) (nd++PA) (gG (wY h0)) F9,o9];simp only[G8,o6];rw[yQ h4,o9];simp only[G8,o6];rw[a6f (gG h4) hv,o9];simp only[o7];rw[pF F9,o9,e3,e4]
end
end
section
def gT(c:Int):Int:=l7 (P7 6 c) 5 (l7 (x9 c 3) 2 c)
def tkT(N:E8)(t:XT):List Y3:=yg (itT N t)
def tkW(N:E8)(t:XT)(c:Int):List Y3:=yg (wiI (itT N t) (gW N t).2 c)
theorem XL(N:E8)(t:XT)(c:Int):tkW N t c=l7 (H5 (gW N t).2 c) ((7,[40],0)::(tkT N t++[(7,[41],0)])) (tkT N t):=by
 unfold tkW tkT wiI;cases H5 (gW N t).2 c
 .rfl
 .simp only[o7];rw[gU,gU];rfl
structure TrOk (T:List dw) (E:Int) (N:E8) (t:XT):Prop where
 ne:tkT N t≠[]
 nif:1<=(gW N t).2->¬((hd3 (tkT N t)).1=1/\(hd3 (tkT N t)).2.1=[105,102])
 neg:6<=(gW N t).2->AB t.node.1=false->WP (hd3 (tkT N t)).1=0
 U:6<=(gW N t).2->∀R,Iw R->∀m,10*t.size<=m->UOk T E N m (tkT N t) t.post R
 L:(gW N t).2<=5->∀R,Iy R ((gW N t).2+1)->∀c,1<=c->c<=(gW N t).2->∀m,10*t.size<=m->LOk T E N m c (tkT N t) t.post (gT (gW N t).2) R
 E:∀R,Iy R 1->∀m,10*t.size+2<=m->EOk T E N m (tkT N t) t.post R
variable {t:XT}{R:List Y3}{m:Nat}{c:Int}
section
variable {T:List dw} {E:Int} {N:E8}
theorem PZ{c d:Int}(h:Iy R c)(hcd:c<=d):Iy R d:=by
 rcases h with h|⟨k,h1,h2,h3⟩
 .exact .inl h
 .exact .inr ⟨k,h1,h2,o5⟩
theorem Rz(R:List Y3)(c:Int):Iy ((7,[41],0)::R) c:=.inl (.inr (.inl rfl))
theorem Vu(R:List Y3)(c:Int):Iy ((7,[44],0)::R) c:=.inl (.inr (.inr (.inl rfl)))
theorem d2a(h:TrOk T E N t)(h1:1<=c)(h2:c<=(gW N t).2)(hR:Iw R)(hR2:(gW N t).2<=5->Iy R ((gW N t).2+1))(hm:10*t.size<=m):LOk T E N m c (tkT N t) t.post (gT (gW N t).2) R:=by
 by_cases h6:6<=(gW N t).2
 .have:gT (gW N t).2=5:=by unfold gT;rw[Z9 h6];rfl
  rw[this];exact a5l c (h.U h6 R hR m hm)
 .exact h.L o5 R (hR2 o5) c h1 h2 m hm
theorem c8I(ne:tkT N t≠[])(nif:¬((hd3 (tkT N t)).1=1/\(hd3 (tkT N t)).2.1=[105,102]))(hc:1<=(gW N t).2)(hR:Iy R 1)(hm:2<=m)(hL:LOk T E N (m -2) 1 (tkT N t) t.post (gT (gW N t).2) R):EOk T E N m (tkT N t) t.post R:=by obtain⟨m,rfl⟩:∃q,m=q+2:=⟨m -2,o5⟩;exact b6l (a9f hL hR) ne nif
theorem M_(h:TrOk T E N t)(hm:10*t.size+4<=m):UOk T E N m ((7,[40],0)::(tkT N t++[(7,[41],0)])) t.post R:=by obtain⟨m,rfl⟩:∃q,m=q+2:=⟨m -2,o5⟩;exact a8x (b3k (h.E _ (Rz R 1) m o5)) A7 (by rintro⟨-,h⟩;cases h) (by rintro⟨h,-⟩;cases h)
theorem c8U(h:TrOk T E N t)(hR:Iw R)(hm:10*t.size+4<=m):UOk T E N m (tkW N t 6) t.post R:=by
 rw[XL];by_cases h6:6<=(gW N t).2
 .rw[X5 h6,o6];exact h.U h6 R hR m o5
 .rw[bT o5,o7];exact M_ h hm
theorem c8T(h:TrOk T E N t){c c' :Int}(h1:1<=c)(h2:c<=c')(hR:Iw R)(hR2:Iy R (c' +1))(hm:10*t.size+4<=m):∃g,LOk T E N m c (tkW N t c') t.post g R/\(g=5\/(c' <=(gW N t).2/\(gW N t).2<=5/\g=gT (gW N t).2)):=by
 rw[XL];by_cases h6:c' <=(gW N t).2
 .rw[X5 h6,o6];refine⟨_,d2a h h1 o5 hR (λ_=>PZ hR2 o5) o5,?_⟩;by_cases h7:6<=(gW N t).2
  .left;unfold gT;rw[Z9 h7];rfl
  .right;exact⟨h6,o5,rfl⟩
 .rw[bT o5,o7];exact⟨5,a5l c (M_ h hm),.inl rfl⟩
theorem d2e(h:TrOk T E N t)(h1:1<=c)(hR:Iy R c)(hm:10*t.size+5<=m):b3h T E N m c (tkW N t c) t.post R:=by obtain⟨m,rfl⟩:∃q,m=q+1:=⟨m -1,o5⟩;obtain⟨g,hg,-⟩:=c8T h h1 (yF c) (a6x hR) (PZ hR o5) (m:=m) o5;exact a9f hg hR
theorem b2U(t:XT)(h:TrOk T E N t)(c:Int):tkW N t c≠[]:=by
 rw[XL];cases H5 (gW N t).2 c
 .exact h.ne
 .simp[l7]
theorem Vw(ne:tkT N t≠[])(nif:¬((hd3 (tkT N t)).1=1/\(hd3 (tkT N t)).2.1=[105,102]))(hc:6<=(gW N t).2)(neg:AB t.node.1=false->WP (hd3 (tkT N t)).1=0)(U:∀R,Iw R->∀m,10*t.size<=m->UOk T E N m (tkT N t) t.post R):TrOk T E N t:=by
 have hg:gT (gW N t).2=5:=by unfold gT;rw[Z9 hc];rfl
 refine⟨ne,λ_=>nif,λ_=>neg,λ_=>U,λh=>by omega,λR hR m hm=>c8I ne nif o5 hR o5 ?_⟩;rw[hg];exact a5l 1 (U R (a6x hR) (m -2) o5)
theorem EE(ne:tkT N t≠[])(nif:¬((hd3 (tkT N t)).1=1/\(hd3 (tkT N t)).2.1=[105,102]))(n1:¬((hd3 (tkT N t)).1=7/\(hd3 (tkT N t)).2.1=[45]))(n2:¬((hd3 (tkT N t)).1=1/\(hd3 (tkT N t)).2.1=[110,111,116]))(hc:6<=(gW N t).2)(neg:AB t.node.1=false->WP (hd3 (tkT N t)).1=0)
  (A:∀R,Iw R->∀m,10*t.size<=m+1->AOk T E N m (tkT N t) t.post R):TrOk T E N t:=by
 refine Vw ne nif hc neg (λR hR m hm=>?_);have hp:=t.size_pos;obtain⟨m,rfl⟩:∃q,m=q+1:=⟨m -1,o5⟩;exact a8x (A R hR m o5) ne n1 n2
theorem b5E{w:d2g}{n:Int}{L:List Y3}(hw:gz w=true):¬((hd3 ((1,w,n)::L)).1=1/\(hd3 ((1,w,n)::L)).2.1=[105,102])/\¬((hd3 ((1,w,n)::L)).1=7/\(hd3 ((1,w,n)::L)).2.1=[45])/\¬((hd3 ((1,w,n)::L)).1=1/\(hd3 ((1,w,n)::L)).2.1=[110,111,116]):=by
 refine⟨?_,?_,?_⟩
 .rintro⟨-,h⟩;exact a5Q hw (by decide+kernel) h
 .rintro⟨h,-⟩;exact absurd (show(1:Int)=7 from h) D9
 .rintro⟨-,h⟩;exact a5Q hw (by decide+kernel) h
theorem b5i(hN:NmD N){n:Int×Int}(ha:qp n.1=0)(hI:jg n.2)(hz:flS n N=0):TrOk T E N (.l0 n):=by
 obtain⟨k,v⟩:=n;have ident:∀w:d2g,tkT N (.l0 (k,v))=[(1,w,0)]->gz w=true->6<=(gW N (.l0 (k,v))).2->(∀R,Iw R->∀m,AOk T E N (m+1) [(1,w,0)] [(k,v)] R)->TrOk T E N (.l0 (k,v)):=by intro w e hw hc hA;obtain⟨i1,i2,i3⟩:=b5E (n:=0) (L:=[]) hw;refine EE (by rw[e];simp) (by rw[e];exact i1) (by rw[e];exact i2) (by rw[e];exact i3) hc (λ_=>by rw[e];rfl) (λR hR m hm=>?_);simp only[XT.size]at hm;obtain⟨m,rfl⟩:∃q,m=q+1:=⟨m -1,o5⟩;rw[e];exact hA R hR m
 have word:∀w:d2g,tkT N (.l0 (k,v))=[(1,w,0)]->(w=[116,114,117,101]\/w=[102,97,108,115,101]\/w=[116,111,100,97,121])->6<=(gW N (.l0 (k,v))).2->(∀R m,AOk T E N (m+1) [(1,w,0)] [(k,v)] R)->TrOk T E N (.l0 (k,v)):=by
  intro w e hw hc hA;have hh:hd3 (tkT N (.l0 (k,v)))=(1,w,0):=by rw[e];rfl
  refine EE (by rw[e];simp) (by rw[hh];rcases hw with rfl|rfl|rfl<;>decide) (by rw[hh];rcases hw with rfl|rfl|rfl<;>decide) (by rw[hh];rcases hw with rfl|rfl|rfl<;>decide) hc (λ_=>by rw[hh];rfl) (λR hR m hm=>?_);simp only[XT.size]at hm;obtain⟨m,rfl⟩:∃q,m=q+1:=⟨m -1,o5⟩;rw[e];exact hA R m
 have num:(k=2\/k=3\/k=4)->-1000000000000000000<=v/\v<=1000000000000000000->TrOk T E N (.l0 (k,v)):=by
  intro hk hb;have e0:tkT N (.l0 (k,v))=l7 (H5 v 0) [(7,[45],0),(k,Le k v.natAbs,(v.natAbs:Int))] [(k,Le k v.natAbs,(v.natAbs:Int))]:=by
   have:itT N (.l0 (k,v))=QN k v:=by show IY (k,v) N=_;unfold IY;rw[Z9 (show k<=5 by omega)];rfl
   unfold tkT;rw[this];unfold QN;rw[O5 (show k≠1 by omega),O5 (show k≠5 by omega)];cases H5 v 0<;>rfl
  have hc:6<=(gW N (.l0 (k,v))).2:=by show 6<=(lY (k,v) N).2;unfold lY;rw[Z9 (show k<=5 by omega),o7];cases H5 v 0<;>simp[l7]
  have hnum:AB k=true:=by rcases hk with rfl|rfl|rfl<;>rfl
  by_cases h0:v<0
  .rw[bT h0,o7]at e0;refine Vw (by rw[e0];simp) (by rw[e0];rintro⟨h,-⟩;exact absurd (show(7:Int)=1 from h) D9) hc (λh=>by rw[show(XT.l0 (k,v)).node.1=k from rfl,hnum]at h;cases h) (λR hR m hm=>?_);simp only[XT.size]at hm;obtain⟨m,rfl⟩:∃q,m=q+1:=⟨m -1,o5⟩;rw[e0];have:=b2Y (T:=T) (E:=E) (N:=N) (m:=m) (w:=Le k v.natAbs) (u:=(v.natAbs:Int)) (R:=R) hk o5;rw[show(-(v.natAbs:Int))=v by omega]at this;exact this
  .rw[X5 o5,o6]at e0;have hh:hd3 (tkT N (.l0 (k,v)))=(k,Le k v.natAbs,(v.natAbs:Int)):=by rw[e0];rfl
   refine EE (by rw[e0];simp) (by rw[hh];rintro⟨h,-⟩;simp only at h;omega) (by rw[hh];rintro⟨h,-⟩;simp only at h;omega) (by rw[hh];rintro⟨h,-⟩;simp only at h;omega) hc (λh=>by rw[show(XT.l0 (k,v)).node.1=k from rfl,hnum]at h;cases h) (λR hR m hm=>?_);simp only[XT.size]at hm;obtain⟨m,rfl⟩:∃q,m=q+1:=⟨m -1,o5⟩;rw[e0];have:=c0w (T:=T) (E:=E) (N:=N) (m:=m) (w:=Le k v.natAbs) (u:=(v.natAbs:Int)) (R:=R) hk;rw[show((v.natAbs:Nat):Int)=v by omega]at this ⊢;exact this
 have call:(k=36\/k=37\/k=38\/k=39)->TrOk T E N (.l0 (k,v)):=by
  intro hk;have hg:J9 N.2.2.2.2 v=some (gtN N.2.2.2.2 v):=by rcases hk with rfl|rfl|rfl|rfl<;>exact zA rfl hz
  have e:tkT N (.l0 (k,v))=(1,dG k,0)::(7,[40],0)::([(1,gtN N.2.2.2.2 v,0)]++[(7,[41],0)]):=by rcases hk with rfl|rfl|rfl|rfl<;>rfl
  have hc:6<=(gW N (.l0 (k,v))).2:=by rcases hk with rfl|rfl|rfl|rfl<;>exact(show(6:Int)<=7 by decide)
  have hh:hd3 (tkT N (.l0 (k,v)))=(1,dG k,0):=by rw[e];rfl
  refine EE (by rw[e];simp) (by rw[hh];rcases hk with rfl|rfl|rfl|rfl<;>decide) (by rw[hh];rcases hk with rfl|rfl|rfl|rfl<;>decide) (by rw[hh];rcases hk with rfl|rfl|rfl|rfl<;>decide) hc (λ_=>by rw[hh];rfl) (λR hR m hm=>?_);simp only[XT.size]at hm;obtain⟨m,rfl⟩:∃q,m=q+2:=⟨m -2,o5⟩;rw[e];exact ZL (by unfold VK;omega) (c0K hN hk hg)
 rcases ar0 ha with rfl|rfl|rfl|rfl|rfl|rfl|rfl|rfl|rfl|rfl|rfl|rfl|rfl|rfl
 .have hb:=Fz (k:=1) o5 rfl hz;rcases(show v=0\/v=1 by omega)with rfl|rfl
  .exact word [102,97,108,115,101] rfl A7 (show(6:Int)<=7 by decide) (λR m=>b3j)
  .exact word [116,114,117,101] rfl A7 (show(6:Int)<=7 by decide) (λR m=>b6g)
 .have hb:=Fz (k:=2) o5 rfl hz;exact num o5 o5
 .have hb:=Fz (k:=3) o5 rfl hz;exact num o5 o5
 .have hb:=Fz (k:=4) o5 rfl hz;exact num o5 o5
 .have hb:=Fz (k:=5) o5 rfl hz;have e0:tkT N (.l0 (5,v))=[(5,W9 v,v)]:=rfl;have hh:hd3 (tkT N (.l0 (5,v)))=(5,W9 v,v):=rfl;have hc:6<=(gW N (.l0 (5,v))).2:=by
   show 6<=(l7 (H5 v 0) 6 7:Int);cases H5 v 0<;>simp[l7]
  refine EE (by rw[e0];simp) (by rw[hh];rintro⟨h,-⟩;exact absurd (show(5:Int)=1 from h) D9) (by rw[hh];rintro⟨h,-⟩;exact absurd (show(5:Int)=7 from h) D9) (by rw[hh];rintro⟨h,-⟩;exact absurd (show(5:Int)=1 from h) D9) hc (λ_=>by rw[hh];rfl) (λR hR m hm=>?_);simp only[XT.size]at hm;obtain⟨m,rfl⟩:∃q,m=q+1:=⟨m -1,o5⟩;rw[e0];exact b6e
 .obtain⟨e,h1,h2,q1,q2,q3,q4⟩:=j_ hI hz;have ee:=hN.id.e e (xe h1);have e0:tkT N (.l0 (6,v))=[(1,((J9 N.1 (Z7 .i64 v 16)).getD ([],[])).1,0),(7,[58],0),(1,gtN ((J9 N.1 (Z7 .i64 v 16)).getD ([],[])).2 (dJ v 16),0)]:=rfl;have hw:gz ((J9 N.1 (Z7 .i64 v 16)).getD ([],[])).1=true:=by rw[h1];exact ee.1
  obtain⟨i1,i2,i3⟩:=b5E (n:=0) (L:=[(7,[58],0),(1,gtN ((J9 N.1 (Z7 .i64 v 16)).getD ([],[])).2 (dJ v 16),0)]) hw;refine EE (by rw[e0];simp) (by rw[e0];exact i1) (by rw[e0];exact i2) (by rw[e0];exact i3) (show(6:Int)<=7 by decide) (λ_=>by rw[e0];rfl) (λR hR m hm=>?_);simp only[XT.size]at hm;obtain⟨m,rfl⟩:∃q,m=q+1:=⟨m -1,o5⟩;rw[e0];exact b6f hN hI hz
 .have hg:=zA (n:=(7,v)) (l:=N.2.2.1) rfl hz;exact ident (gtN N.2.2.1 v) rfl (hN.id.i _ (xe hg)) (show(6:Int)<=7 by decide) (λR hR m=>c8X hN hg hR)
 .have hg:=zA (n:=(8,v)) (l:=N.2.2.2.1) rfl hz;exact ident (gtN N.2.2.2.1 v) rfl (hN.id.d _ (xe hg)) (show(6:Int)<=7 by decide) (λR hR m=>c0u hN hg hR)
 .have hv:v=0:=by
   unfold flS at hz;rw[show V9 (9,v) N=l7 (G6 (x9 v 0)) (some 2) (some 0)from rfl]at hz;by_cases h:v=0
   .exact h
   .rw[O5 h]at hz;cases hz
  subst hv;exact word [116,111,100,97,121] rfl A7 (show(6:Int)<=7 by decide) (λR m=>b3l)
 .have hv:v=0:=by
   unfold flS at hz;rw[show V9 (35,v) N=l7 (G6 (x9 v 0)) (some 2) (some 0)from rfl]at hz;by_cases h:v=0
   .exact h
   .rw[O5 h]at hz;cases hz
  subst hv;have e:tkT N (.l0 (35,0))=(1,dG 35,0)::(7,[40],0)::([]++[(7,[41],0)]):=rfl;have hh:hd3 (tkT N (.l0 (35,0)))=(1,dG 35,0):=rfl;refine EE (by rw[e];simp) (by rw[hh];decide) (by rw[hh];decide) (by rw[hh];decide) (show(6:Int)<=7 by decide) (λ_=>by rw[hh];rfl) (λR hR m hm=>?_);simp only[XT.size]at hm;obtain⟨m,rfl⟩:∃q,m=q+2:=⟨m -2,o5⟩;rw[e];exact ZL (by unfold VK;omega) b3q
 .exact call o5
 .exact call o5
 .exact call o5
 .exact call o5
end
end
section
variable {N:E8}
theorem QC{k v:Int}(ha:0<=qp k)(hu:bW k=some false)(h:flS (k,v) N=0):v=0:=by
 by_cases h0:v=0
 .exact h0
 .have:=WE (a9w (N:=N) ha h0 hu);rw[h]at this;cases this
variable {n:Int×Int}{a:XT}
section
variable {T:List dw} {E:Int} {N:E8}
theorem c0l(hN:NmD N)(ha:qp n.1=1)(hI:jg n.2)(hz:flS n N=0)(h:TrOk T E N a):TrOk T E N (.l1 n a):=by
 obtain⟨k,v⟩:=n;have hsz:(XT.l1 (k,v) a).size=a.size+1:=rfl;have call:∀(W:List Y3),VK k->tkT N (.l1 (k,v) a)=(1,dG k,0)::(7,[40],0)::(W++[(7,[41],0)])->6<=(gW N (.l1 (k,v) a)).2->(∀m,10*a.size+3<=m->∀R,COk T E N m k W (a.post++[(k,v)]) ((7,[41],0)::R))->TrOk T E N (.l1 (k,v) a):=by
  intro W hk e hc hC;have hh:hd3 (tkT N (.l1 (k,v) a))=(1,dG k,0):=by rw[e];rfl
  refine EE (by rw[e];simp) ?_ ?_ ?_ hc (λ_=>by rw[hh];rfl) (λR hR m hm=>?_)
  .rw[hh];rcases hk with rfl|rfl|rfl|rfl|rfl|rfl|rfl|rfl|rfl|rfl|rfl|rfl|rfl|rfl|rfl|rfl|rfl|rfl<;>decide
  .rw[hh];rintro⟨h,-⟩;exact absurd (show(1:Int)=7 from h) D9
  .rw[hh];rcases hk with rfl|rfl|rfl|rfl|rfl|rfl|rfl|rfl|rfl|rfl|rfl|rfl|rfl|rfl|rfl|rfl|rfl|rfl<;>decide
  .rw[hsz]at hm;obtain⟨m,rfl⟩:∃q,m=q+1:=⟨m -1,o5⟩;rw[e];exact ZL hk (hC m o5 R)
 have v0:(k=10\/k=25\/k=31\/k=32)->v=0:=by intro hk;refine QC (k:=k) (by rw[show qp k=1 from ha];decide) ?_ hz;rcases hk with rfl|rfl|rfl|rfl<;>decide
 rcases ar1 ha with rfl|rfl|rfl|rfl|rfl|rfl
 .rw[v0 o5]at hz hsz call ⊢;have e:tkT N (.l1 (10,0) a)=(7,[45],0)::l7 (AB a.node.1) ((7,[40],0)::(tkT N a++[(7,[41],0)])) (tkW N a 6):=by
   have:tkT N (.l1 (10,0) a)=yg ([sy 45]++l7 (AB a.node.1) ([sy 40]++itT N a++[sy 41]) (wiI (itT N a) (gW N a).2 6)):=rfl;rw[this,gU];cases AB a.node.1
   .rfl
   .simp only[o7];rw[gU,gU];rfl
  refine Vw (by rw[e];simp) (by rw[e];rintro⟨h,-⟩;exact absurd (show(7:Int)=1 from h) D9) (show(6:Int)<=6 by decide) (λ_=>by rw[e];rfl) (λR hR m hm=>?_);rw[hsz]at hm;obtain⟨m,rfl⟩:∃q,m=q+1:=⟨m -1,o5⟩;rw[e];cases hnb:AB a.node.1
  .refine b6b (c8U h hR o5) (b2U a h 6) ?_;rw[XL];by_cases h6:6<=(gW N a).2
   .rw[X5 h6,o6];exact h.neg h6 hnb
   .rw[bT o5];rfl
  .exact b6b (M_ h o5) (by simp[l7]) rfl
 .rw[v0 o5]at hz hsz call ⊢;have e:tkT N (.l1 (25,0) a)=(1,[110,111,116],0)::tkW N a 6:=by
   have:tkT N (.l1 (25,0) a)=yg ([nm [110,111,116],none]++wiI (itT N a) (gW N a).2 6):=rfl;rw[this,gU];rfl
  refine Vw (by rw[e];simp) (by rw[e];rintro⟨-,h⟩;exact absurd (show([110,111,116]:d2g)=[105,102]from h) D9) (show(6:Int)<=6 by decide) (λ_=>by rw[e];rfl) (λR hR m hm=>?_);rw[hsz]at hm;obtain⟨m,rfl⟩:∃q,m=q+1:=⟨m -1,o5⟩;rw[e];exact c8K (c8U h hR o5)
 .rw[v0 o5]at hz hsz call ⊢;refine call (tkT N a) (by unfold VK;omega) ?_ (show(6:Int)<=7 by decide) (λm hm R=>?_)
  .have:tkT N (.l1 (31,0) a)=yg ([nm (dG 31),sy 40]++itT N a++[sy 41]):=rfl;rw[this,gU,gU];rfl
  .obtain⟨m,rfl⟩:∃q,m=q+1:=⟨m -1,o5⟩;exact b5y o5 (h.E _ (Rz R 1) m o5)
 .rw[v0 o5]at hz hsz call ⊢;refine call (tkT N a) (by unfold VK;omega) ?_ (show(6:Int)<=7 by decide) (λm hm R=>?_)
  .have:tkT N (.l1 (32,0) a)=yg ([nm (dG 32),sy 40]++itT N a++[sy 41]):=rfl;rw[this,gU,gU];rfl
  .obtain⟨m,rfl⟩:∃q,m=q+1:=⟨m -1,o5⟩;exact b5y o5 (h.E _ (Rz R 1) m o5)
 .have hg:=zA (n:=(33,v)) (l:=N.2.1) rfl hz;refine call ((1,gtN N.2.1 v,0)::(7,[44],0)::tkT N a) (by unfold VK;omega) ?_ (show(6:Int)<=7 by decide) (λm hm R=>?_)
  .have:tkT N (.l1 (33,v) a)=yg ([nm (dG 33),sy 40,nm (gtN N.2.1 v),sy 44,none]++itT N a++[sy 41]):=rfl;rw[this,gU,gU];rfl
  .obtain⟨m,rfl⟩:∃q,m=q+1:=⟨m -1,o5⟩;exact c0M hN hg (h.E _ (Rz R 1) m o5)
 .refine call ((1,gtN N.2.1 (Z7 .i64 v 8),0)::(7,[44],0)::(tkT N a++[(7,[44],0),(1,iM (dJ v 8),0)])) (by unfold VK;omega) ?_ (show(6:Int)<=7 by decide) (λm hm R=>?_)
  .have:tkT N (.l1 (34,v) a)=yg ([nm (dG 34),sy 40,nm (gtN N.2.1 (Z7 .i64 v 8)),sy 44,none]++itT N a++[sy 44,none,nm (iM (dJ v 8)),sy 41]):=rfl;rw[this,gU,gU];show _::_::(_::_::(yg (itT N a))++[_,_,_])=_;unfold tkT;simp
  .obtain⟨m,rfl⟩:∃q,m=q+1:=⟨m -1,o5⟩;exact b6q hN hI hz (h.E _ (Vu _ 1) m o5)
theorem c0n(hN:NmD N){a b:XT}(ha:qp n.1=2)(hI:jg n.2)(hz:flS n N=0)(h:TrOk T E N a)(g:TrOk T E N b):TrOk T E N (.l2 n a b):=by
 obtain⟨k,v⟩:=n;have hsz:(XT.l2 (k,v) a b).size=a.size+b.size+1:=rfl;have call:∀(W:List Y3),VK k->tkT N (.l2 (k,v) a b)=(1,dG k,0)::(7,[40],0)::(W++[(7,[41],0)])->6<=(gW N (.l2 (k,v) a b)).2->(∀m,10*a.size+10*b.size+3<=m->∀R,COk T E N m k W (a.post++b.post++[(k,v)]) ((7,[41],0)::R))->TrOk T E N (.l2 (k,v) a b):=by
  intro W hk e hc hC;have hh:hd3 (tkT N (.l2 (k,v) a b))=(1,dG k,0):=by rw[e];rfl
  refine EE (by rw[e];simp) ?_ ?_ ?_ hc (λ_=>by rw[hh];rfl) (λR hR m hm=>?_)
  .rw[hh];rcases hk with rfl|rfl|rfl|rfl|rfl|rfl|rfl|rfl|rfl|rfl|rfl|rfl|rfl|rfl|rfl|rfl|rfl|rfl<;>decide
  .rw[hh];rintro⟨h,-⟩;exact absurd (show(1:Int)=7 from h) D9
  .rw[hh];rcases hk with rfl|rfl|rfl|rfl|rfl|rfl|rfl|rfl|rfl|rfl|rfl|rfl|rfl|rfl|rfl|rfl|rfl|rfl<;>decide
  .rw[hsz]at hm;obtain⟨m,rfl⟩:∃q,m=q+1:=⟨m -1,o5⟩;rw[e];exact ZL hk (hC m o5 R)
 by_cases h1:k=17\/k=18\/k=27\/k=28\/k=29\/k=30
 .have hv:v=0:=QC (k:=k) (by rw[show qp k=2 from ha];decide) (by rcases h1 with rfl|rfl|rfl|rfl|rfl|rfl<;>decide) hz;subst hv;have hb:Qs k=true:=by rcases h1 with rfl|rfl|rfl|rfl|rfl|rfl<;>rfl
  refine call (tkT N a++(7,[44],0)::tkT N b) (by unfold VK;omega) ?_ ?_ (λm hm R=>?_)
  .have:tkT N (.l2 (k,0) a b)=yg ([nm (dG k),sy 40]++itT N a++[sy 44,none]++itT N b++[sy 41]):=by
    show yg (ND (k,0) (itT N a) (gW N a).2 (itT N b) (gW N b).2)=_;unfold ND;rw[hb];rfl
   rw[this,gU,gU,gU,gU];show _::_::_=_;unfold tkT;simp;rfl
  .show 6<=(DW (k,0) (gW N a) (gW N b)).2;unfold DW;rw[hb];simp[l7]
  .obtain⟨m,rfl⟩:∃q,m=q+1:=⟨m -1,o5⟩;exact c0N h1 (h.E _ (Vu _ 1) m o5) (g.E _ (Rz R 1) m o5)
 by_cases h2:k=14\/k=15\/k=16
 .have hb:Qs k=false/\Gq k=true:=by rcases h2 with rfl|rfl|rfl<;>exact⟨rfl,rfl⟩
  refine call (tkT N a++(7,[44],0)::(tkT N b++[(7,[44],0),(1,iM v,0)])) (by unfold VK;omega) ?_ ?_ (λm hm R=>?_)
  .have:tkT N (.l2 (k,v) a b)=yg ([nm (dG k),sy 40]++itT N a++[sy 44,none]++itT N b++[sy 44,none,nm (iM v),sy 41]):=by
    show yg (ND (k,v) (itT N a) (gW N a).2 (itT N b) (gW N b).2)=_;unfold ND;rw[hb.1,hb.2];rfl
   rw[this,gU,gU,gU,gU];show _::_::_=_;unfold tkT;simp;rfl
  .show 6<=(DW (k,v) (gW N a) (gW N b)).2;unfold DW;rw[hb.1,hb.2];simp[l7]
  .obtain⟨m,rfl⟩:∃q,m=q+1:=⟨m -1,o5⟩;have hC:=c0L (T:=T) (E:=E) (N:=N) (R:=(7,[41],0)::R) h2 (a3G h2 hz) (h.E _ (Vu _ 1) m o5) (g.E _ (Vu _ 1) m o5);exact hC
 have hk:a6W k:=by have:=ar2 ha;unfold a6W;omega
 have hv:v=0:=QC (k:=k) (by rw[show qp k=2 from ha];decide) (by rcases hk with rfl|rfl|rfl|rfl|rfl|rfl|rfl|rfl|rfl<;>decide) hz;subst hv;have hb:Qs k=false/\Gq k=false:=by rcases hk with rfl|rfl|rfl|rfl|rfl|rfl|rfl|rfl|rfl<;>exact⟨rfl,rfl⟩
 have hsy:1<=(iY k).2/\(iY k).2<=5:=by rcases hk with rfl|rfl|rfl|rfl|rfl|rfl|rfl|rfl|rfl<;>decide
 have hcl:(gW N (.l2 (k,0) a b)).2=(iY k).2:=by show(DW (k,0) (gW N a) (gW N b)).2=_;unfold DW;rw[hb.1,hb.2];rfl
 generalize hle:(l7 (x9 (iY k).2 3) 4 (iY k).2:Int)=le;have hle1:(iY k).2<=le/\((iY k).2=3->le=4)/\((iY k).2≠3->le=(iY k).2):=by
  rw[←hle];by_cases h3:(iY k).2=3
  .rw[O9 h3];exact⟨by rw[h3];decide,λ_=>rfl,λh=>absurd h3 h⟩
  .rw[O5 h3];exact⟨by simp[l7],λh=>absurd h h3,λ_=>rfl⟩
 have e:tkT N (.l2 (k,0) a b)=tkW N a le++opK k::tkW N b ((iY k).2+1):=by
  have:tkT N (.l2 (k,0) a b)=yg (wiI (itT N a) (gW N a).2 le++[none,some (opK k),none]++wiI (itT N b) (gW N b).2 ((iY k).2+1)):=by show yg (ND (k,0) (itT N a) (gW N a).2 (itT N b) (gW N b).2)=_;unfold ND;rw[hb.1,hb.2,hle];rfl
  rw[this,gU,gU];unfold tkW;rw[E5];rfl
 have hne:=b2U a h le;have hhd:hd3 (tkT N (.l2 (k,0) a b))=hd3 (tkW N a le):=by
  rw[e];cases hq:tkW N a le with
  |nil=>exact absurd hq hne|cons x y=>rfl
 have nif:¬((hd3 (tkT N (.l2 (k,0) a b))).1=1/\(hd3 (tkT N (.l2 (k,0) a b))).2.1=[105,102]):=by
  rw[hhd,XL];by_cases h6:le<=(gW N a).2
  .rw[X5 h6,o6];exact h.nif o5
  .rw[bT o5,o7];rintro⟨h,-⟩;exact absurd (show(7:Int)=1 from h) D9
 have hL:∀R,Iy R ((iY k).2+1)->∀c,1<=c->c<=(iY k).2->∀m,10*(a.size+b.size+1)<=m->LOk T E N m c (tkT N (.l2 (k,0) a b)) (XT.l2 (k,0) a b).post (gT (iY k).2) R:=by
  intro R hR c hc1 hc2 m hm;obtain⟨ga,hA,hga⟩:=c8T h (c:=c) (c' :=le) hc1 o5 (R:=opK k::(tkW N b ((iY k).2+1)++R)) (.inr ⟨k,hk,rfl⟩) (.inr ⟨k,hk,rfl,o5⟩) (m:=m) o5;have hB:=d2e g (c:=(iY k).2+1) o5 hR (m:=m) o5;have:=c0S hk hA hB hc2 (by
   rcases hga with rfl|⟨q1,q2,rfl⟩
   .omega
   .unfold gT;rw[dO o5,o6];by_cases h3:(gW N a).2=3
    .rw[O9 h3,o7];by_cases h4:(iY k).2=3
     .have:=hle1.2.1 h4;omega
     .have:=hle1.2.2 h4;omega
    .rw[O5 h3,o6];omega)
  rw[e];have hg:gT (iY k).2=l7 (x9 (iY k).2 3) 2 (iY k).2:=by unfold gT;rw[dO o5,o6]
  rw[hg];exact this
 refine⟨by rw[e];simp,λ_=>nif,λh6=>by rw[hcl]at h6;omega,λh6=>by rw[hcl]at h6;omega,λh5 R hR c hc1 hc2 m hm=>?_,λR hR m hm=>c8I (by rw[e];simp) nif (by rw[hcl];omega) hR o5 ?_⟩
 .rw[hcl]at hR hc2 ⊢;rw[hsz]at hm;exact hL R hR c hc1 hc2 m hm
 .rw[hcl];rw[hsz]at hm;exact hL R (PZ hR o5) 1 o5 o5 (m -2) o5
theorem c8J{a b c:XT}(ha:qp n.1=3)(hz:flS n N=0)(h:TrOk T E N a)(g:TrOk T E N b)(f:TrOk T E N c):TrOk T E N (.l3 n a b c):=by
 obtain⟨k,v⟩:=n;have hk:k=26:=ar3 ha;subst hk;have hv:v=0:=QC (k:=26) D9 D9 hz;subst hv;have e:tkT N (.l3 (26,0) a b c)=(1,[105,102],0)::(tkT N a++(1,[116,104,101,110],0)::(tkT N b++(1,[101,108,115,101],0)::tkT N c)):=by have:tkT N (.l3 (26,0) a b c)=yg ([nm [105,102],none]++itT N a++[none,nm [116,104,101,110],none]++itT N b++[none,nm [101,108,115,101],none]++itT N c):=rfl;rw[this,gU,gU,gU,gU,gU];show _::_=_;unfold tkT;simp;rfl
 refine⟨by rw[e];simp,λh6=>absurd (show(1:Int)<=0 from h6) D9,λh6=>absurd (show(6:Int)<=0 from h6) D9,λh6=>absurd (show(6:Int)<=0 from h6) D9,λ_ R hR c' h1 h2=>by have:c' <=(0:Int):=h2;omega,λR hR m hm=>?_⟩;rw[show(XT.l3 (26,0) a b c).size=a.size+b.size+c.size+1 from rfl]at hm;obtain⟨m,rfl⟩:∃q,m=q+1:=⟨m -1,o5⟩;rw[e];exact c9i (h.E _ (.inl (.inr (.inr (.inr (.inl rfl))))) m o5) (g.E _ (.inl (.inr (.inr (.inr (.inr rfl))))) m o5) (f.E R hR m o5)
theorem Qk(hN:NmD N):∀(t:XT),t.wf->(∀n∈t.post,jg n.2)->(∀n∈t.post,flS n N=0)->TrOk T E N t
 | .l0 n,hw,hI,hz=>b5i hN hw (hI n (by simp[XT.post])) (hz n (by simp[XT.post]))| .l1 n a,hw,hI,hz=>c0l hN hw.1 (hI n (by simp[XT.post])) (hz n (by simp[XT.post])) (Qk hN a hw.2 (λm hm=>hI m (by simp[XT.post,hm])) (λm hm=>hz m (by simp[XT.post,hm])))| .l2 n a b,hw,hI,hz=>c0n hN hw.1 (hI n (by simp[XT.post])) (hz n (by simp[XT.post])) (Qk hN a hw.2.1 (λm hm=>hI m (by simp[XT.post,hm])) (λm hm=>hz m (by simp[XT.post,hm]))) (Qk hN b hw.2.2 (λm hm=>hI m (by simp[XT.post,hm])) (λm hm=>hz m (by simp[XT.post,hm])))| .l3 n a b c,hw,hI,hz=>c8J hw.1 (hz n (by simp[XT.post])) (Qk hN a hw.2.1 (λm hm=>hI m (by simp[XT.post,hm])) (λm hm=>hz m (by simp[XT.post,hm]))) (Qk hN b hw.2.2.1 (λm hm=>hI m (by simp[XT.post,hm])) (λm hm=>hz m (by simp[XT.post,hm]))) (Qk hN c hw.2.2.2 (λm hm=>hI m (by simp[XT.post,hm])) (λm hm=>hz m (by simp[XT.post,hm])))
end
theorem a0E:∀(L:List It) (R:d2g),WSR L R->L.length<=(dB L).length
 |[],_,_=>by simp|none::L,R,h=>by have:=a0E L R h.2;simp[dB];exact this|some k::L,R,h=>by have:=a0E L R h.2.2;obtain⟨c,t,e,-⟩:=h.1.ne;simp[dB,e];omega
theorem a9N{e:List (Int×Int)}{s:d2g}(hN:NmOk N)(hD:NmD N)(hI:∀n∈e,jg n.2)(h:qG e N=(s,0))(hs:s.length<=65536):xE s N=some (e,0,0):=by
 have hf:=a3I hN hI;have hfS:=h;unfold qG at h;cases hst:kP e with
 |inl x=>rw[hst]at h;simp only at h;exact absurd (congrArg (λq:d2g×Int=>q.2) h) (yf hst)|inr t=>
  rw[hst]at h;simp only at h;obtain⟨hp,h48⟩:=oQ hst;have hw:=EO hst;cases hff:x9 (ffS N e) 0 with
  |false=>rw[hff,o6]at h;exact absurd (congrArg (λq:d2g×Int=>q.2) h) (qh.1 hff)|true=>
   rw[hff,o7]at h;have hsx:s=(gW N t).1:=(congrArg (λq:d2g×Int=>q.1) h).symm;have hIt:∀n∈t.post,jg n.2:=by rw[←hp];exact hI
   have hzt:∀n∈t.post,flS n N=0:=by rw[←hp];exact QA (Z8.1 hff)
   have hfl:=En t hw hIt hzt;have hws:=QI hD.id t hw hIt hzt;have hsf:s=dB (itT N t):=hsx.trans hfl.symm;have hW:=hws.ws [] a5N;have hlen:=a0E _ _ hW;have htk:=a2K (L:=itT N t) (by rw[←hsf];exact hs) hW (c8H hws.st) (by rw[←hsf]at hlen;omega);rw[←hsf]at htk;have hpl:=a7R (itT N t) 0;have htl:(yg (itT N t)).length<=(itT N t).length:=by unfold yg;exact List.length_filterMap_le _ _
   rw[←hsf]at hlen;have hAt:At3 (yU 0 (itT N t)) 0 (tkT N t++[]):=by refine⟨?_,o5,o5⟩;rw[bJ,F6];exact He (itT N t) 0
   have hsz:t.size<=48:=by rw[←t.post_len,←hp];exact h48
   have hE:=(Qk (T:=yU 0 (itT N t)) (E:=x8 s) hD t hw hIt hzt).E [] (.inl (.inl rfl)) aH (by unfold aH;omega) 0 [] hAt (by simp only[I8,t.post_len];omega);unfold xE;rw[htk,o9];simp only[O9 (rfl:(0:Int)=0),G8,o6];rw[show rE (yU 0 (itT N t),0,x8 s,N,[],0,0)=_ from hE,o9];simp only[o7];rw[X5 (show x8 (yU 0 (itT N t))<=((0+(tkT N t).length:Nat):Int) by unfold x8 tkT;rw[hpl];omega),o6,o9];simp only[O9 (rfl:(0:Int)=0),G8,o6,G9];rw[←hp];unfold Ai;rw[Kv];unfold vZ;rw[hst];simp only[o9,O9 (rfl:(0:Int)=0),G8,o6];rw[hf,hfS,o9];simp only[O9 (rfl:(0:Int)=0),G8,o6];rw[show seq s s=true from ja.2 rfl];rfl
theorem b5D{ρ:Type}{n:Nat}{p:Nat->Option ρ}(h:∀r,fK n p≠some r):∀i,i<n->p i=none:=by
 cases hf:fK n p with
 |some r=>exact absurd hf (h r)|none=>exact yB hf
theorem a5I{k i:Int}{r:Int×Int}(h:PI k i r=none):r.1=0:=by
 unfold PI at h;cases he:x9 r.1 0<;>rw[he]at h
 .cases h
 .exact Z8.1 he
variable {l:V4}{j:Nat}
theorem ZB(h:(mY l).1=0){e:aP}(he:l.1[j]? =some e):gz e.1=true/\(∀x∈l.1.take j,x.1≠e.1)/\e.2.length<=16/\∀(i:Nat) m,e.2[i]? =some m->gz m=true/\∀x∈e.2.take i,x≠m:=by
 unfold mY at h;cases h1:x9 (DR l).1 0<;>rw[h1]at h
 .simp only[o6]at h;rw[O9 h]at h1;cases h1
 have h1:=Z8.1 h1;unfold DR at h1;cases h2:H5 8 (x8 l.1)<;>rw[h2]at h1
 case true=>exact absurd (show(4:Int)=0 from h1) D9
 simp only[o6]at h1;have hn:=b5D (n:=l.1.length) (p:=Wn l) (λr hf=>by
  rw[hf]at h1;obtain⟨j,_,hj⟩:=oC hf;unfold Wn at hj;split at hj
  .exact SK hj h1
  .cases hj) j (aV.1 he).1
 unfold Wn at hn;rw[he]at hn;have hz:=a5I hn;unfold a0Z at hz;cases g1:gz e.1<;>rw[g1]at hz
 .exact absurd (show(2:Int)=0 from hz) D9
 cases g2:Jl l 1 j e.1<;>rw[g2]at hz
 case true=>exact absurd (show(7:Int)=0 from hz) D9
 cases g3:x9 (x8 e.2) 0<;>rw[g3]at hz
 case true=>exact absurd (show(5:Int)=0 from hz) D9
 cases g4:H5 16 (x8 e.2)<;>rw[g4]at hz
 case true=>exact absurd (show(4:Int)=0 from hz) D9
 simp only[o7,o6]at hz;have hmem:∀i<e.2.length,a1x e.2 i=none:=by
  intro i hi;cases hf:(List.range e.2.length).findSome? (a1x e.2)with
  |none=>exact uy.1 hf i (fV.2 hi)|some r=>
   exfalso;rw[hf]at hz;obtain⟨q,_,hq⟩:=List.exists_of_findSome?_eq_some hf;unfold a1x at hq;cases hv:e.2[q]? with
   |none=>rw[hv]at hq;cases hq|some x=>
    rw[hv]at hq;simp only at hq;cases k1:gz x<;>rw[k1]at hq
    .cases hq;exact absurd (show(2:Int)=0 from hz) D9
    .cases k2:(e.2.take q).any λy=>seq x y<;>rw[k2]at hq
     .cases hq
     .cases hq;exact absurd (show(7:Int)=0 from hz) D9
 refine⟨rfl,λx hx e2=>?_,fA (n:=16) g4,λi m hm=>?_⟩
 .unfold Jl at g2;simp only[eG]at g2;exact g2 x hx (ja.2 e2)
 have hi:=(aV.1 hm).1;have hp:=hmem i hi;unfold a1x at hp;rw[hm]at hp;simp only at hp;cases k1:gz m<;>rw[k1]at hp
 .cases hp
 cases k2:(e.2.take i).any λy=>seq m y<;>rw[k2]at hp
 .refine⟨rfl,λx hx e=>?_⟩;have:=eG.1 k2 x hx;exact this (ja.2 e.symm)
 .cases hp
theorem b3a(h:(mY l).1=0){t:dm}(ht:l.2.1[j]? =some t):gz t.1=true/\∀x∈l.2.1.take j,x.1≠t.1:=by
 unfold mY at h;cases h1:x9 (DR l).1 0<;>rw[h1]at h
 .simp only[o6]at h;rw[O9 h]at h1;cases h1
 cases h2:x9 (zM l).1 0<;>rw[h2]at h
 .simp only[o7,o6]at h;rw[O9 h]at h2;cases h2
 have h2:=Z8.1 h2;unfold zM at h2;cases h3:H5 8 (x8 l.2.1)<;>rw[h3]at h2
 case true=>exact absurd (show(4:Int)=0 from h2) D9
 simp only[o6]at h2;have hn:=b5D (n:=l.2.1.length) (p:=Kw l) (λr hf=>by
  rw[hf]at h2;obtain⟨j,_,hj⟩:=oC hf;unfold Kw at hj;split at hj
  .exact SK hj h2
  .cases hj) j (aV.1 ht).1
 unfold Kw at hn;rw[ht]at hn;have hz:=a5I hn;unfold a0u at hz;cases g1:gz t.1<;>rw[g1]at hz
 .exact absurd (show(2:Int)=0 from hz) D9
 cases g2:Jl l 2 j t.1<;>rw[g2]at hz
 case true=>exact absurd (show(7:Int)=0 from hz) D9
 refine⟨rfl,λx hx e=>?_⟩;unfold Jl at g2;simp only[cu,eG]at g2;exact g2.2 x hx (ja.2 e)
variable {en:List aP}
theorem a1g{f:kD}{a b:List kD}(h:LQ en f a b=0):gz f.1=true/\(∀x∈a,x.1≠f.1)/\∀x∈b,x.1≠f.1:=by
 unfold LQ at h;cases g1:gz f.1<;>rw[g1]at h
 .exact absurd (show(2:Int)=0 from h) D9
 cases g2:(a.any λx=>seq x.1 f.1)<;>rw[g2]at h
 case true=>exact absurd (show(7:Int)=0 from h) D9
 cases g3:(b.any λx=>seq x.1 f.1)<;>rw[g3]at h
 case true=>exact absurd (show(7:Int)=0 from h) D9
 rw[eG]at g2 g3;exact⟨rfl,λx hx e=>g2 x hx (ja.2 e),λx hx e=>g3 x hx (ja.2 e)⟩
theorem YF{c e:Int}(h:Wq c e=none):c=0:=by
 unfold Wq at h;cases he:x9 c 0<;>rw[he]at h
 .cases h
 .exact Z8.1 he
theorem a0x(h:(mY l).1=0){i:Nat}{s:V6}(hs:l.2.2[i]? =some s):(∀(j:Nat) f,s.2.2.1[j]? =some f->gz f.1=true/\∀x∈s.2.2.1.take j,x.1≠f.1)/\∀(j:Nat) f,s.2.2.2.1[j]? =some f->gz f.1=true/\(∀x∈s.2.2.1,x.1≠f.1)/\∀x∈s.2.2.2.1.take j,x.1≠f.1:=by
 have hp:=(a8k h hs).2;unfold N_ at hp;cases h1:NS l s with
 |some q=>rw[h1]at hp;exact absurd hp (a1e h1)|none=>
  unfold NS at h1;cases h2:fK s.2.2.1.length (inP l s)with
  |some q=>rw[h2]at h1;cases h1|none=>
   rw[h2]at h1;refine⟨λj f hf=>?_,λj f hf=>?_⟩
   .have hn:=yB h2 j (aV.1 hf).1;unfold inP at hn;rw[hf]at hn;have:=a1g (YF hn);exact⟨this.1,this.2.1⟩
   .have hn:=yB h1 j (aV.1 hf).1;unfold a7f at hn;rw[hf]at hn;exact a1g (YF hn)
variable {α:Type}{w:d2g}
theorem Eo{g:α->d2g}{l:List α}(h:(l.map g)[j]? =some w)(H:∀a,l[j]? =some a->∀x∈l.take j,g x≠g a):∀x∈(l.map g).take j,x≠w:=by
 rw[bG]at h;cases ha:l[j]? with
 |none=>rw[ha]at h;cases h|some a=>rw[ha]at h;cases h;intro x hx;rw[←List.map_take]at hx;obtain⟨y,hy,rfl⟩:=aJ.1 hx;exact H a ha y hy
theorem Bh{l:List α}{a:α}(h:a∈l):∃j:Nat,l[j]? =some a:=by obtain⟨j,hj,e⟩:=eU h;exact⟨j,by rw[qi hj,e]⟩
theorem b6I(hv:(mY l).1=0)(h:NmL l){s:V6}(hs:s∈l.2.2):NmD (nmS l s):=by
 obtain⟨i,hi⟩:=Bh hs;obtain⟨f1,f2⟩:=a0x hv hi;obtain⟨s1,s2,s3,s4,s5,s6⟩:=h.s s hs;have hmem:(nmS l s).2.2.2.2=[]\/∃q,q∈l.2.2/\(nmS l s).2.2.2.2=q.2.2.2.1.map (·.1):=by
  unfold nmS;cases P7 0 s.2.1
  .exact .inl rfl
  .simp only[o7];cases hq:J9 l.2.2 s.2.1 with
   |none=>exact .inl rfl|some q=>exact .inr ⟨q,xe hq,rfl⟩
 refine⟨⟨λe he=>?_,λx hx=>?_,λx hx=>?_,λx hx=>?_,λx hx=>?_⟩,?_,λj e he=>?_,λj w hw=>?_,λj w hw=>?_,λj w hw=>?_,λj w hw=>?_⟩
 .obtain⟨j,hj⟩:=Bh (show e∈l.1 from he);obtain⟨a,b,c,d⟩:=ZB hv hj;refine⟨a,λm hm=>?_⟩;obtain⟨i,hi⟩:=Bh hm;exact(d i m hi).1
 .obtain⟨t,ht,rfl⟩:=aJ.1 (show x∈l.2.1.map (·.1)from hx);obtain⟨j,hj⟩:=Bh ht;exact(b3a hv hj).1
 .obtain⟨t,ht,rfl⟩:=aJ.1 (show x∈s.2.2.1.map (·.1)from hx);obtain⟨j,hj⟩:=Bh ht;exact(f1 j t hj).1
 .obtain⟨t,ht,rfl⟩:=aJ.1 (show x∈s.2.2.2.1.map (·.1)from hx);obtain⟨j,hj⟩:=Bh ht;exact(f2 j t hj).1
 .rcases hmem with e|⟨q,hq,e⟩
  .rw[e]at hx;cases hx
  .rw[e]at hx;obtain⟨t,ht,rfl⟩:=aJ.1 hx;obtain⟨k,hk⟩:=Bh hq;obtain⟨j,hj⟩:=Bh ht;exact((a0x hv hk).2 j t hj).1
 .have h1:=h.ne;have h2:=h.nt;refine⟨by show l.1.length<=1000;omega,by show(l.2.1.map (·.1)).length<=1000;simp;omega,by show(s.2.2.1.map (·.1)).length<=1000;simp;omega,by show(s.2.2.2.1.map (·.1)).length<=1000;simp;omega,?_⟩;rcases hmem with e|⟨q,hq,e⟩
  .rw[e];simp
  .rw[e];have:=(h.s q hq).2.1;simp;omega
 .obtain⟨a,b,c,d⟩:=ZB hv (show l.1[j]? =some e from he);exact⟨b,o5,λk v hk=>(d k v hk).2⟩
 .exact Eo (show(l.2.1.map (·.1))[j]? =some w from hw) (λa ha=>(b3a hv ha).2)
 .exact Eo (show(s.2.2.1.map (·.1))[j]? =some w from hw) (λa ha=>(f1 j a ha).2)
 .refine⟨Eo (show(s.2.2.2.1.map (·.1))[j]? =some w from hw) (λa ha=>(f2 j a ha).2.2),λx hx=>?_⟩;have hw2:(s.2.2.2.1.map (·.1))[j]? =some w:=hw;rw[bG]at hw2;cases ha:s.2.2.2.1[j]? with
  |none=>rw[ha]at hw2;cases hw2|some a=>rw[ha]at hw2;cases hw2;obtain⟨t,ht,rfl⟩:=aJ.1 (show x∈s.2.2.1.map (·.1)from hx);exact(f2 j a ha).2.1 t ht
 .rcases hmem with e|⟨q,hq,e⟩
  .rw[e]at hw;cases hw
  .rw[e]at hw ⊢;obtain⟨k,hk⟩:=Bh hq;exact Eo hw (λa ha=>((a0x hv hk).2 j a ha).2.2)
def rF:List d2g->d2g
 |[]=>[]|w::L=>w++10::rF L
def spF(a0:d2g)(x:List d2g×Int×d2g×Int):Option (Out (List d2g×Int×d2g×Int) (List d2g×Int) (List d2g×Int)):=
     l7 (H5 x.2.2.2 (x8 x.2.2.1))
      (l7 (x9 (vF x.2.2.1 x.2.2.2) 10)
       (l9 (gm a0 x.2.1 x.2.2.2) λ(x_1:d2g)=>
        l9 (bF x.1 [x_1]) λ(x_2:List d2g)=>
         some (Out.nx (x_2,E9 IntKind.i64 x.2.2.2 1,x.2.2.1,zi x.2.2.1 x.2.2.2)))
       (l7 (x9 (vF x.2.2.1 x.2.2.2) 9) (some (Out.nx (x.1,x.2.1,x.2.2.1,zi x.2.2.1 x.2.2.2)))
        (l7 (P7 32 (vF x.2.2.1 x.2.2.2))
         (l7 (P7 (vF x.2.2.1 x.2.2.2) 126) (some (Out.nx (x.1,x.2.1,x.2.2.1,zi x.2.2.1 x.2.2.2)))
          (some (Out.rt ([],2))))
         (some (Out.rt ([],2))))))
      (some (Out.ex (x.1,x.2.1)))
theorem c1b{c:UInt8}(h:prB c=true):32<=c.toNat/\c.toNat<=126:=by unfold prB at h;simpa using h
theorem a6H{s:d2g}(hs:s.length<=65536)(acc:List d2g)(st:Int):∀(w pre suf:d2g) (m:Nat),s=pre++w++suf->(∀c∈w,prB c=true)->iy (spF s) (m+w.length) (acc,st,s,(pre.length:Int))=iy (spF s) m (acc,st,s,((pre.length+w.length:Nat):Int))
 |[],pre,suf,m,h,hw=>rfl|c::w,pre,suf,m,h,hw=>by
  have hc:s[pre.length]? =some c:=by rw[h,E5,F8 (G5 _),aN];rfl
  have hb:=c1b (hw c A7);obtain⟨r1,r2⟩:=EL hc o5;have st:spF s (acc,st,s,(pre.length:Int))=some (.nx (acc,st,s,((pre.length+1:Nat):Int))):=by unfold spF;simp only[X9 hc,o7,r1,r2];rw[O5 o5,o6,O5 o5,o6,Z9 o5,o7,Z9 o5,o7]
  rw[D5,show m+(w.length+1)=(m+w.length)+1 by omega,dM,st];have:=a6H hs acc ‹Int› w (pre++[c]) suf m (by rw[h];simp) (λd hd=>hw d (by simp[hd]));rw[show(pre++[c]).length=pre.length+1 by simp]at this;rw[show pre.length+(w.length+1)=pre.length+1+w.length by omega];exact this
theorem a2A{s:d2g}(hs:s.length<=65536):∀(L:List d2g) (pre:d2g) (acc:List d2g) (m:Nat),s=pre++rF L->(∀w∈L,∀c∈w,prB c=true)->acc.length<=pre.length->
  iy (spF s) (m+(rF L).length+1) (acc,(pre.length:Int),s,(pre.length:Int))=some (.inl (acc++L,(s.length:Int)))
 |[],pre,acc,m,h,hw,ha=>by rw[rF,F6]at h;subst h;rw[dM];unfold spF;simp only[af s,o6];simp|w::L,pre,acc,m,h,hw,ha=>by
  have hl:=congrArg List.length h;simp only[rF,C9,D5]at hl;have h' :s=pre++w++10::rF L:=by rw[h];simp[rF]
  have h10:s[(pre.length+w.length)]? =some 10:=by rw[h',←C9,F8 (G5 _),aN];rfl
  obtain⟨r1,r2⟩:=EL h10 D9;have st:spF s (acc,(pre.length:Int),s,((pre.length+w.length:Nat):Int))=some (.nx (acc++[w],((pre.length+w.length+1:Nat):Int),s,((pre.length+w.length+1:Nat):Int))):=by
   unfold spF;have hsub:gm s (pre.length:Int) ((pre.length+w.length:Nat):Int)=some w:=by rw[Vl o5 o5 o5,J7,J7,h',←C9,aI,X4]
   simp only[X9 h10,o7,r1,r2,O9 (show((10:UInt8).toNat:Int)=10 from rfl),hsub,o9];rw[qV _ o5,o9,fF o5]
  rw[show m+(rF (w::L)).length+1=(m+(rF L).length+1+1)+w.length by simp[rF];omega,a6H hs acc _ w pre (10::rF L) _ h' (hw w A7),dM,st];have:=a2A hs L (pre++w++[10]) (acc++[w]) m (by rw[h'];simp) (λv hv=>hw v (by simp[hv])) F9;simp only[C9,aW]at this;simp only;rw[this];simp
theorem b2H{L:List d2g}(hs:(rF L).length<=65536)(hw:∀w∈L,∀c∈w,prB c=true):rQ (rF L)=some (L,0):=by
 unfold rQ;rw[X5 (show x8 (rF L)<=65536 by unfold x8;omega),o6];cases L with
 |nil=>rfl|cons w L=>rw[show seq (rF (w::L)) []=false from vY.2 (by simp[rF]),o6];have:=a2A hs (w::L) [] [] (aH -(rF (w::L)).length -1) rfl hw A7;rw[show aH -(rF (w::L)).length -1+(rF (w::L)).length+1=aH by unfold aH;omega]at this;refine V5 (show O6 (spF (rF (w::L))) ([],0,rF (w::L),0)=_ from this) ?_;rw[o9,X8];rw[show x9 ((([]++w::L,(((rF (w::L)).length:Nat):Int)):List d2g×Int)).2 (x8 (rF (w::L)))=true from O9 rfl];rfl
theorem a8F(p x:d2g)(hl:(p++x).length<=1000000000):pU (p++x) p=some (x,true):=by
 unfold pU pG kT Lib.hasPrefix;have e:p.isPrefixOf (p++x)=true:=by rw[jE];exact List.prefix_append _ _
 rw[e,o9,G8,o6,pK (by unfold x8;omega) (by unfold x8;simp;omega),o9,o9];congr 2;unfold x8;rw[J7,X4]
theorem a3Q(h:gz w=true):∀x∈w,x≠32:=by
 cases w with
 |nil=>cases h|cons c r=>rw[yE]at h;simp only[A8]at h;intro x hx e;have:=ax.1 h.1.2 x hx;rw[e]at this;revert this;decide
theorem QG(h:gz w=true):∀x∈w,prB x=true:=by
 cases w with
 |nil=>cases h
 |cons c r=>rw[yE]at h;simp only[A8]at h;exact λx hx=>a6L (ax.1 h.1.2 x hx)
theorem b3C{σ ρ ε α:Type}(l:List α)(p:α->Bool)(mk:Nat->σ)(g:Nat->ρ)(hl:l.length<=1000000){f:σ->Option (Out σ ε ρ)} (h1:∀(i:Nat) (a:α),l[i]? =some a->f (mk i)=some (l7 (p a) (.rt (g i)) (.nx (mk (i+1))))):
  ∀(j:Nat) (a:α),l[j]? =some a->p a=true->(∀x∈l.take j,p x=false)->O6 f (mk 0)=some (.inr (g j)):=by
 intro j a ha hpa hp;have hj:=(aV.1 ha).1;have step:∀(i k:Nat),i<=j->iy f (k+(j -i)) (mk i)=iy f k (mk j):=by
  intro i k hij;induction h:j -i generalizing i k with
  |zero=>rw[show i=j by omega];rfl|succ n ih=>
   have hi:i<l.length:=o5;have hg:=qi hi;have:=h1 i _ hg;rw[hp l[i] (by rw[List.mem_take_iff_getElem];exact⟨i,o5,rfl⟩),o6]at this
   rw[show k+(n+1)=(k+n)+1 by omega,dM,this];exact ih (i+1) k o5 o5
 have:=step 0 (aH -j) o5;rw[show aH -j+(j -0)=aH by unfold aH;omega]at this;unfold O6;rw[this,show aH -j=(aH -j -1)+1 by unfold aH;omega,dM,h1 j a ha,hpa];rfl
theorem b6x{e:List (Int×Int)}(hN:NmOk N)(hD:NmD N)(hI:∀n∈e,jg n.2)(h:(qG e N).2=0):(qG e N).1≠[]/\∀c∈(qG e N).1,prB c=true:=by
 unfold qG at h ⊢;cases hst:kP e with
 |inl x=>rw[hst]at h;exact absurd h (yf hst)|inr t=>
  rw[hst]at h;simp only at h ⊢;obtain⟨hp,h48⟩:=oQ hst;have hw:=EO hst;cases hff:x9 (ffS N e) 0 with
  |false=>rw[hff,o6]at h;exact absurd h (qh.1 hff)|true=>
   simp only[o7];have hIt:∀n∈t.post,jg n.2:=by rw[←hp];exact hI
   have hzt:∀n∈t.post,flS n N=0:=by rw[←hp];exact QA (Z8.1 hff)
   have hfl:=En t hw hIt hzt;have hws:=QI hD.id t hw hIt hzt;rw[←hfl];refine⟨?_,a5p _ _ (hws.ws [] a5N)⟩;obtain⟨k,L',e1,hk⟩:=hws.st;obtain⟨c,r,e2,-⟩:=hk.ne;rw[e1];simp[dB,e2]
theorem a3E{n:Nat}{p:Nat->Option (Int×Int×Int×Int)}{z:Int×Int×Int×Int}(h:(match fK n p with|some r=>r|none=>z).1=0)(hp:∀i r,p i=some r->r.1≠0):∀i,i<n->p i=none:=
 WC λr hf=>by rw[hf]at h;obtain⟨j,_,hj⟩:=oC hf;exact hp j r hj h
theorem c8O(h:(mY l).1=0):(DR l).1=0:=by
 unfold mY at h;cases h1:x9 (DR l).1 0<;>rw[h1]at h
 .exact h
 .exact Z8.1 h1
theorem c8P(h:(mY l).1=0):(zM l).1=0:=by
 have h0:=c8O h;unfold mY at h;rw[O9 h0,o7]at h;cases h1:x9 (zM l).1 0<;>rw[h1]at h
 .exact h
 .exact Z8.1 h1
structure RwV (t:dm) (en:List aP) (x:Gn):Prop where
 dv:Ot x.1=true
 dn:x.1.1≠x.1.2
 lh:x.2.1<x.2.2.1
 lo:inB x.2.1 (bnd t.2.1 en)=true
 hi:inB (N7 .i64 x.2.2.1 1) (bnd t.2.1 en)=true
 n:inB x.2.2.2 (bnd t.2.2.1 en)=true
theorem b3g{t:dm}{x:Gn}(h:Qn x (bnd t.2.1 en) (bnd t.2.2.1 en)=false):RwV t en x:=by
 unfold Qn at h;cases g1:Ot x.1<;>rw[g1]at h
 .cases h
 cases g2:x9 x.1.1 x.1.2<;>rw[g2]at h
 case true=>cases h
 cases g3:P7 x.2.2.1 x.2.1<;>rw[g3]at h
 case true=>cases h
 cases g4:inB x.2.1 (bnd t.2.1 en)<;>rw[g4]at h
 .cases h
 cases g5:inB (N7 .i64 x.2.2.1 1) (bnd t.2.1 en)<;>rw[g5]at h
 .cases h
 cases g6:inB x.2.2.2 (bnd t.2.2.1 en)<;>rw[g6]at h
 .cases h
 exact⟨g1,qh.1 g2,Tc.1 g3,g4,g5,g6⟩
structure TbV (l:V4) (i:Nat) (t:dm):Prop where
 id:gz t.1=true
 tk:Jl l 2 i t.1=false
 le:t.2.2.2.length<=64
 vk:vty t.2.1 l.1=true
 vv:vty t.2.2.1 l.1=true
 rows:∀x∈t.2.2.2,RwV t l.1 x
theorem ZC(h:(mY l).1=0):l.2.1.length<=8/\∀i t,l.2.1[i]? =some t->TbV l i t:=by
 have h1:=c8P h;unfold zM at h1;cases h2:H5 8 (x8 l.2.1)<;>rw[h2]at h1
 case true=>exact absurd (show(4:Int)=0 from h1) D9
 rw[o6]at h1;refine⟨by rw[nM]at h2;unfold x8 at h2;omega,λi t he=>?_⟩;have hn:=a3E h1 (λj r hj=>by
  unfold Kw at hj;split at hj
  .exact SK hj
  .cases hj) i (aV.1 he).1
 unfold Kw at hn;rw[he]at hn;have hz:=a7j hn;unfold a0u at hz;cases g1:gz t.1<;>rw[g1]at hz
 .exact absurd (show(2:Int)=0 from hz) D9
 cases g2:Jl l 2 i t.1<;>rw[g2]at hz
 case true=>exact absurd (show(7:Int)=0 from hz) D9
 have hc:(Qj t l.1).2=0:=by
  cases g3:x9 (Qj t l.1).2 0<;>rw[g3]at hz
  .exact hz
  .exact Z8.1 g3
 unfold Qj at hc;cases g4:H5 64 (x8 t.2.2.2)<;>rw[g4]at hc
 case true=>exact absurd (show(4:Int)=0 from hc) D9
 cases g5:vty t.2.1 l.1<;>rw[g5]at hc
 .exact absurd (show(8:Int)=0 from hc) D9
 cases g6:vty t.2.2.1 l.1<;>rw[g6]at hc
 .exact absurd (show(8:Int)=0 from hc) D9
 simp only[o7,o6]at hc;refine⟨g1,g2,by rw[nM]at g4;unfold x8 at g4;omega,g5,g6,λx hx=>?_⟩;obtain⟨j,hj,e1⟩:=eU hx;have hf:∀r,fK t.2.2.2.length (Xt t l.1)≠some r:=λr hf=>by
  have hc' :(match fK t.2.2.2.length (Xt t l.1)with|some r=>r|none=>(0,0)).2=0:=hc;rw[hf]at hc';obtain⟨q,_,hq⟩:=oC hf;unfold Xt at hq;split at hq
  .rename_i x' _;cases a1:Qn x' (bnd t.2.1 l.1) (bnd t.2.2.1 l.1)<;>rw[a1]at hq
   .cases a2:(t.2.2.2.take q).any λy=>EU y x'<;>rw[a2]at hq
    .cases hq
    .cases hq;exact absurd (show(11:Int)=0 from hc') D9
   .cases hq;exact absurd (show(3:Int)=0 from hc') D9
  .cases hq
 have hj' :=WC hf j hj;unfold Xt at hj';rw[qi hj,e1]at hj';simp only at hj';cases a1:Qn x (bnd t.2.1 l.1) (bnd t.2.2.1 l.1)<;>rw[a1]at hj'
 .exact b3g a1
 .cases hj'
def spW(ws:List d2g):d2g:=ws.flatMap (λw=>32::w)
theorem lL(w:d2g)(ws:List d2g):spW (w::ws)=32::w++spW ws:=by simp[spW]
variable {t:Int×Int}
theorem b3L(h:vty t en=true)(h6:t.1=6):∃e,J9 en t.2=some e/\e∈en:=by
 unfold vty at h;rw[O9 h6,o7]at h;cases g1:P7 0 t.2<;>rw[g1]at h
 .cases h
 rw[o7]at h;exact ui (uF.1 g1) (Em.1 h)
theorem a8m(h:vty t en=true):(t.1=1/\t.2=0)\/(t.1=2/\t.2=0)\/(t.1=3/\t.2=0)\/(t.1=4/\t.2=0)\/(t.1=5/\t.2=0)\/t.1=6:=by
 unfold vty at h;cases g0:x9 t.1 6<;>rw[g0]at h
 case true=>have:=Z8.1 g0;omega
 rw[o6]at h;cases g1:P7 1 t.1<;>rw[g1]at h
 .cases h
 cases g2:P7 t.1 5<;>rw[g2]at h
 .cases h
 have h1:=uF.1 g1;have h2:=uF.1 g2;have h3:=Z8.1 h;omega
def vaS(n:Int)(t:Int×Int)(en:List aP):d2g:=((dU (t.1,t.2,n) en).getD ([],0)).1
theorem a6K{n:Int}(h:jg n)(hm:∀e∈en,e.2.length<=100/\∀m∈e.2,m.length<=100):(vaS n t en).length<=100/\GZ n t en=some (vaS n t en)/\∀l:V4,l.1=en->Rk n t l=some (vaS n t en):=by
 obtain⟨x,hx,hl⟩:=wI (B:=100) o5 o5 (v:=(t.1,t.2,n)) h hm;have e:vaS n t en=x.1:=by unfold vaS;rw[hx];rfl
 refine⟨by rw[e];exact hl,?_,λl hle=>?_⟩
 .unfold GZ;rw[hx,o9,e]
 .unfold Rk;subst hle;rw[←qm _ h,hx,o9,e]
structure EnL (en:List aP):Prop where
 n:∀e∈en,e.1.length<=80
 m:∀e∈en,e.2.length<=100/\∀m∈e.2,m.length<=100
theorem b6A{p:Int}(h0:0<=p)(h9:p<=9):jg p:=by unfold jg;omega
theorem a7T{p:Int}(h:0<=p):G6 (x9 p 0)=H5 0 p:=by
 cases g:H5 0 p
 .have:=nM.1 g;rw[O9 (show p=0 by omega)];rfl
 .have:=Em.1 g;rw[O5 (show p≠0 by omega)];rfl
theorem b6p{a x:d2g}(h:a.length+x.length<=1000000000):zN a x=some (x8 x,(),a++x):=by unfold zN;rw[if_pos o5];rfl
end
section
structure FmL (l:V4):Prop where
 v:(mY l).1=0
 n:NmL l
 w:WfL l
section
variable {l:V4} (h:FmL l)
include h
theorem a3H:EnL l.1:=⟨λe he=>(h.n.e e he).2.1,λe he=>⟨by have:=(h.n.e e he).1;omega,λm hm=>by have:=(h.n.e e he).2.2 m hm;omega⟩⟩
end
end
section
theorem c8N{l:V4}(h:(mY l).1=0):mY l=(0,0,0,0):=d2c h
variable {a:d2g}
theorem b6o(h:a.length<=1000000000):xk a=some (a,a):=by unfold xk;rw[if_pos o5]
theorem b5C{l:V4}(h1:smL l=true)(hw:WfL l)(hv:(mY l).1=0):FmL l:=⟨hv,b6J h1 hw,hw⟩
def BL(sub:d2g):d2g->d2g->Prop
 |[],r=>True|c::a,r=>sub.isPrefixOf (c::(a++r))=false/\BL sub a r
theorem a1i(sub:d2g):∀(a b r:d2g),BL sub (a++b) r↔BL sub a (b++r)/\BL sub b r
 |[],b,r=>by simp[BL]|c::a,b,r=>by rw[I7];show(sub.isPrefixOf (c::((a++b)++r))=false/\BL sub (a++b) r)↔(sub.isPrefixOf (c::(a++(b++r)))=false/\BL sub a (b++r))/\BL sub b r;rw[a1i sub a b r,E5];exact and_assoc.symm
theorem n_{sub:d2g}(h0:sub≠[]):∀{a x:d2g},BL sub a (sub++x)->Lib.index (a++(sub++x)) sub=(a.length:Int)
 |[],x,h=>by
  cases sub with
  |nil=>exact absurd rfl h0|cons c t=>show Lib.index (c::(t++x)) (c::t)=0;unfold Lib.index;rw[if_pos (by rw[jE];exact⟨x,rfl⟩)]
 |c::a,x,h=>by
  have ih:=n_ h0 h.2;rw[I7];unfold Lib.index;rw[h.1,ih];have:(((a.length:Nat):Int)==-1)=false:=by rw[beq_eq_false_iff_ne];omega
  rw[this];simp
theorem a5K{sub:d2g}(h0:sub≠[]):∀{a:d2g},BL sub a []->Lib.index a sub=-1
 |[],h=>by
  cases sub with
  |nil=>exact absurd rfl h0|cons c t=>rfl
 |c::a,h=>by have ih:=a5K h0 h.2;have h1:=h.1;rw[F6]at h1;unfold Lib.index;rw[h1,ih];rfl
theorem ZY{sub a x:d2g}(h0:sub≠[])(h:BL sub a (sub++x))(hl:(a++(sub++x)).length<=1000000000):yh (a++(sub++x)) sub=some (a,x,true):=by unfold yh Lib.cut;rw[if_pos o5,n_ h0 h,if_pos o5,J7,aI];rw[show a.length+sub.length=(a++sub).length by simp,←E5,X4]
theorem a8G{sub a:d2g}(h0:sub≠[])(h:BL sub a [])(hl:a.length<=1000000000):yh a sub=some (a,[],false):=by unfold yh Lib.cut;rw[if_pos o5,a5K h0 h,if_neg o5]
theorem QD{c:UInt8} :∀{a r:d2g},(∀x∈a,x≠c)->BL [c] a r
 |[],r,h=>trivial
 |x::a,r,h=>by refine⟨?_,QD λy hy=>h y (by simp[hy])⟩;have:=h x A7;simp only[List.isPrefixOf,Bool.and_true];simpa[beq_eq_false_iff_ne]using λe=>this e.symm
structure WdB (w:d2g):Prop where
 ne:w≠[]
 nb:∀x∈w,x≠32
theorem a2T{w:d2g}(h:gz w=true):WdB w:=⟨λe=>(by rw[e]at h;cases h),a3Q h⟩
end
section
theorem a8Y{w v:d2g}(h:gz w=true)(hv:v∈Gf):seq w v=false:=by
 cases w with
 |nil=>cases h|cons c r=>rw[yE]at h;simp only[A8,aX]at h;have:=eG.1 h.2 v hv;simpa using this
section
variable {E:List aP} {T:List dm} {S:List V6} {k:Int} {N:E8} {b:Bool}
structure EnU (E:List aP):Prop where
 id:∀e∈E,gz e.1=true
 un:∀(j:Nat) e,E[j]? =some e->∀x∈E.take j,x.1≠e.1
 le:E.length<=1000
end
end
section
theorem a1E{v:Nat}(h:1<=v)(hv:v<=100000000000000000):(l7 true
         (l7 (x9 (v:Int) 0)
          (l7 (G6 false) (some (0,2))
           (l7 false (some (0,3)) (l7 true (some (N7 IntKind.i64 0 (v:Int),0)) (some ((v:Int),0)))))
          (l7 false (some (0,3)) (l7 true (some (N7 IntKind.i64 0 (v:Int),0)) (some ((v:Int),0)))))
         (l7 false (some (0,3)) (l7 true (some (N7 IntKind.i64 0 (v:Int),0)) (some ((v:Int),0)))):Option (Int×Int))=some (-(v:Int),0):=by
 rw[O5 o5,di bn,Int.zero_sub];rfl
theorem b4i{d:d2g}(hd:Dg d)(h1:d≠[])(hz:NoZ d)(hp:1<=oI 0 d)(hv:oI 0 d<=100000000000000000)(hl:d.length<=1000):kX (45::d) 0=some (-(oI 0 d:Int),0):=by
 have hne:1<=d.length:=by cases d with|nil=>exact absurd rfl h1|cons c t=>simp
 unfold kX;rw[show(45::d:d2g)=[45]++d from rfl,a8F [45] d F9,o9];simp only[X5 (show(0:Int)<=0 by omega),o6,o9];rw[show x8 d=(d.length:Int)from rfl,X5 o5,o6];have hz2:=PS (r:=[]) hz h1 (Sum.inr (0,2):PUnit⊕(Int×Int)) (Sum.inl PUnit.unit);rw[F6]at hz2;refine V5 hz2 ?_;rw[o9,X8];have lp:O6 (npF (d.length:Int)) (0,false,d,0)=some (.inl ((oI 0 d:Int),false)):=by unfold O6;rw[show aH=(aH -1 -d.length)+1+d.length by unfold aH;omega];have:=CJ (s:=d) (p:=d.length) d [] [] 0 (aH -1 -d.length+1) A7 hd (.inr A7) hv;rw[show(([]:d2g).length:Int)=0 from rfl,show((0:Nat):Int)=0 from rfl]at this;rw[this];have:=G_ (s:=d) (p:=(d.length:Int)) (v:=(oI 0 d:Int)) (aH -1 -d.length);rw[show(([]:d2g).length+d.length)=d.length by simp];exact this
 refine V5 lp ?_;rw[o9,X8];exact a1E hp hv
theorem b4j{d f:d2g}(hd:Dg d)(hf:Dg f)(h1:d≠[])(hz:NoZ d)(hk:1<=f.length)(hp1:1<=oI 0 (d++f))(hv:oI 0 (d++f)<=100000000000000000)(hl:d.length+f.length<=1000):kX (45::(d++46::f)) (f.length:Int)=some (-(oI 0 (d++f):Int),0):=by
 have hne:1<=d.length:=by cases d with|nil=>exact absurd rfl h1|cons c t=>simp
 unfold kX;rw[show(45::(d++46::f):d2g)=[45]++(d++46::f)from rfl,a8F [45] (d++46::f) F9,o9];have hp:(l7 (H5 0 (f.length:Int)) (some (N7 IntKind.i64 (x8 (d++46::f)) (E9 IntKind.i64 (f.length:Int) 1))) (some (x8 (d++46::f))))=some (d.length:Int):=by rw[bT o5,o7,dP bn,di (by unfold jg x8;simp;omega)];congr 1;unfold x8;simp<;>omega
 refine V5 hp ?_;rw[o9,X5 o5,o6];refine V5 (PS hz h1 (Sum.inr (0,2):PUnit⊕(Int×Int)) (Sum.inl PUnit.unit)) ?_;rw[o9,X8];have hv1:oI 0 d<=oI 0 (d++f):=by rw[DI];exact RU _ _
 have lp:O6 (npF (d.length:Int)) (0,false,d++46::f,0)=some (.inl ((oI 0 (d++f):Int),false)):=by
  unfold O6;rw[show aH=(aH -2 -d.length -f.length)+1+f.length+1+d.length by unfold aH;omega];have a1:=CJ (s:=d++46::f) (p:=d.length) d [] (46::f) 0 (aH -2 -d.length -f.length+1+f.length+1) A7 hd (.inr A7) o5;rw[show(([]:d2g).length:Int)=0 from rfl,show((0:Nat):Int)=0 from rfl,show(([]:d2g).length+d.length)=d.length by simp]at a1;rw[a1,dM];have h46:(d++46::f)[d.length]? =some 46:=by rw[F8 (G5 _),aN];rfl
  obtain⟨r1,r2⟩:=EL h46 D9;have st:npF (d.length:Int) ((oI 0 d:Int),false,d++46::f,(d.length:Int))=some (.nx ((oI 0 d:Int),false,d++46::f,((d.length+1:Nat):Int))):=by unfold npF;simp only[X9 h46,o7,r1,r2,O9 (rfl:(d.length:Int)=(d.length:Int))];rfl
  rw[st];have a2:=CJ (s:=d++46::f) (p:=d.length) f (d++[46]) [] (oI 0 d) (aH -2 -d.length -f.length+1) A7 hf (.inl A7) (by rw[←DI];exact hv);rw[←DI]at a2;simp only[C9,aW]at a2;simp only;rw[a2];have:=G_ (s:=d++46::f) (p:=(d.length:Int)) (v:=(oI 0 (d++f):Int)) (aH -2 -d.length -f.length);rw[show(d++46::f).length=d.length+1+f.length by simp;omega]at this;exact this
 refine V5 lp ?_;rw[o9,X8];exact a1E hp1 hv
theorem a_(u:Nat)(hu:u<18446744073709551616):Lib.decDigits u≠[]/\NoZ (Lib.decDigits u)/\(Lib.decDigits u).length<=20:=by
 have hlen:=qQ hu;refine⟨by intro e;rw[e]at hlen;simp at hlen,?_,o5⟩;intro h1 c t e;refine ZZ u c t e ?_;rcases kK u 10 with h|h
 .rw[Lib.decDigits,dif_pos h]at h1;simp at h1
 .exact h
theorem b5L{n:Int}(h:-100000000000000000<=n/\n<=100000000000000000):nU (Lib.itoa n)=some (n,0):=by
 unfold nU Lib.itoa;split
 .rename_i h0;obtain⟨h1,h2,h3⟩:=a_ n.natAbs o5;rw[b4i (Cc _) h1 h2 (by rw[DJ];omega) (by rw[DJ];omega) o5,o9,DJ,show -((n.natAbs:Nat):Int)=n by omega]
 .rename_i h0;obtain⟨h1,h2,h3⟩:=a_ n.toNat o5;rw[a9M (Cc _) h1 h2 (by rw[DJ];omega) o5,o9,DJ,show((n.toNat:Nat):Int)=n by omega]
theorem b5K{n:Int}{k:Nat}(hk:1<=k/\k<=9)(h:-100000000000000000<=n/\n<=100000000000000000):fH (qx n k) (k:Int)=some (n,0):=by
 obtain⟨d,f,e,hd,hf,hne,hz,hfl,hv,hdl⟩:=qU (u:=n.natAbs) (k:=k) o5 hk;have hc:jf (k:Int)=some (k:Int):=by unfold jf vP BJ;congr 1;omega
 unfold fH qx;rw[hc,o9];split
 .rename_i h0;have:=b4j hd hf hne hz o5 o5 o5 o5;rw[hfl,hv]at this;rw[e,this,o9,show -((n.natAbs:Nat):Int)=n by omega]
 .rename_i h0;have:=a4g hd hf hne hz o5 o5 o5;rw[hfl,hv]at this;rw[e,this,o9,show((n.natAbs:Nat):Int)=n by omega]
end
section
structure EnW (E:List aP):Prop extends EnU E where
 mid:∀e∈E,∀m∈e.2,gz m=true
 mun:∀e∈E,∀(j:Nat) v,e.2[j]? =some v->∀x∈e.2.take j,x≠v
 mle:∀e∈E,e.2.length<=1000
def vaT(n:Int)(t:Int×Int)(E:List aP):d2g:=
 l7 (x9 t.1 1) (l7 (x9 n 0) [102,97,108,115,101] [116,114,117,101]) (l7 (x9 t.1 2) (Lib.itoa n) (l7 (x9 t.1 3) (qx n 2) (l7 (x9 t.1 4) (qx n 4++[37]) (l7 (x9 t.1 5) (W9 n) (gtN ((J9 E t.2).getD ([],[])).2 n)))))
theorem AQ{n:Int}{b:Int×Int}(h:inB n b=true):b.1<=n/\n<=b.2:=by
 unfold inB at h;cases g:P7 b.1 n<;>rw[g]at h
 .cases h
 .exact⟨uF.1 g,uF.1 h⟩
theorem a0V{k:Int}(E:List aP)(hk:k=1\/k=2\/k=3\/k=4\/k=5):bnd (k,0) E=l7 (x9 k 1) (0,1) (l7 (x9 k 2) (-1000000000000,1000000000000) (l7 (x9 k 3) (-1000000000000000,1000000000000000) (l7 (x9 k 4) (-1000000000,1000000000) (0,109572)))):=by rcases hk with rfl|rfl|rfl|rfl|rfl<;>rfl
theorem c0J{e:aP}{E:List aP}{i:Int}(h:vty (6,i) E=true)(he:J9 E i=some e):bnd (6,i) E=(0,N7 .i64 (x8 e.2) 1):=by
 have h1:=JP (6,i) E;have:cO (6,i) E=some (0,N7 .i64 (x8 e.2) 1):=by unfold cO;rw[oH,h,o9];simp (disch:=decide) only[O5,G8,o6];rw[he];rfl
 rw[this]at h1;exact(lI h1).symm
section
variable {E:List aP} {t:Int×Int} {n:Int}
theorem RS(hv:vty t E=true)(hn:inB n (bnd t E)=true){P:Int×Int->Prop}(h1:0<=n->n<=1->P (1,0))(h2:-1000000000000<=n->n<=1000000000000->P (2,0))(h3:-1000000000000000<=n->n<=1000000000000000->P (3,0))
  (h4:-1000000000<=n->n<=1000000000->P (4,0)) (h5:0<=n->n<=109572->P (5,0)) (h6:∀e i,J9 E i=some e->e∈E->0<=n->n<=N7 .i64 (x8 e.2) 1->vty (6,i) E=true->P (6,i)):P t:=by
 obtain⟨k,i⟩:=t;rcases a8m hv with h|h|h|h|h|h
 .obtain⟨rfl,rfl⟩:k=1/\i=0:=h;rw[a0V E A7]at hn;exact h1 (AQ hn).1 (AQ hn).2
 .obtain⟨rfl,rfl⟩:k=2/\i=0:=h;rw[a0V E A7]at hn;exact h2 (AQ hn).1 (AQ hn).2
 .obtain⟨rfl,rfl⟩:k=3/\i=0:=h;rw[a0V E A7]at hn;exact h3 (AQ hn).1 (AQ hn).2
 .obtain⟨rfl,rfl⟩:k=4/\i=0:=h;rw[a0V E A7]at hn;exact h4 (AQ hn).1 (AQ hn).2
 .obtain⟨rfl,rfl⟩:k=5/\i=0:=h;rw[a0V E A7]at hn;exact h5 (AQ hn).1 (AQ hn).2
 .obtain rfl:k=6:=h;obtain⟨e,he,hm⟩:=b3L hv rfl;rw[c0J hv he]at hn;exact h6 e i he hm (AQ hn).1 (AQ hn).2 hv
theorem a5n(hW:EnW E)(hv:vty t E=true)(hn:inB n (bnd t E)=true)(hI:jg n):vaS n t E=vaT n t E:=by
 have key:dU (t.1,t.2,n) E=some (vaT n t E,0):=by
  have hw:gV n (t.1,t.2) E=some true:=by unfold gV;rw[BX,o9];obtain⟨b1,b2⟩:=AQ hn;rw[Z9 b1,Z9 b2];rfl
  have f2:=jO hI;have f3:bM n 2=some (qx n 2):=gQ (k:=2) hI o5;have f4:bM n 4=some (qx n 4):=gQ (k:=4) hI o5;have l4:=EI (k:=4) hI o5;have st:∀t:Int×Int,vty t E=true->gV n t E=some true->dU (t.1,t.2,n) E=(l7 (x9 t.1 1) (l7 (x9 n 0) (some ([102,97,108,115,101],0)) (some ([116,114,117,101],0)))
     (l7 (x9 t.1 2) (some (Lib.itoa n,0)) (l7 (x9 t.1 3) (some (qx n 2,0)) (l7 (x9 t.1 4) (some (qx n 4++[37],0)) (l7 (x9 t.1 5) (some (W9 n,0))
      (l9 (J9 E t.2) λ(x:aP)=>l9 (J9 x.2 n) λ(x:d2g)=>some (x,0))))))):=by
   intro t hv hw;unfold dU
   simp only[qP,hv,hw,o9,G8,o6,f2,f3,f4,oJ];rw[H7 F9,o9]
  refine RS (P:=λt=>vty t E=true->gV n t E=some true->dU (t.1,t.2,n) E=some (vaT n t E,0)) hv hn ?_ ?_ ?_ ?_ ?_ ?_ hv hw
  .intro g1 g2 hv hw;rw[st _ hv hw];unfold vaT;simp only[O9 (rfl:(1:Int)=1),o7];cases x9 n 0<;>rfl
  .intro g1 g2 hv hw;rw[st _ hv hw];rfl
  .intro g1 g2 hv hw;rw[st _ hv hw];rfl
  .intro g1 g2 hv hw;rw[st _ hv hw];rfl
  .intro g1 g2 hv hw;rw[st _ hv hw];rfl
  .intro e i he hm g1 g2 hv0 hv hw;have hml:=hW.mle e hm;have g2' :n<x8 e.2:=by rw[di (by unfold jg x8;omega)]at g2;omega
   obtain⟨x,hx,-⟩:=ui g1 g2';rw[st _ hv hw];unfold vaT gtN;simp (disch:=decide) only[O5,o6];rw[he,o9,Z4,hx];rfl
 unfold vaS;rw[key];rfl
theorem VZ{d:d2g}(h:Dg d):∀x∈d,x≠32:=λx hx e=>by have:=LJ (h x hx);rw[e]at this;exact absurd this D9
theorem F_{a b:d2g}(ha:∀x∈a,x≠32)(hb:∀x∈b,x≠32):∀x∈a++b,x≠32:=λx hx=>(J6.1 hx).elim (ha x) (hb x)
theorem NW{c:UInt8}{b:d2g}(hc:c≠32)(hb:∀x∈b,x≠32):∀x∈c::b,x≠32:=λx hx=>(D6.1 hx).elim (λe=>e▸hc) (hb x)
theorem a0A{n:Int}(h:jg n):WdB (Lib.itoa n)/\∀c∈Lib.itoa n,prB c=true:=by
 unfold jg at h;unfold Lib.itoa;split
 .exact⟨⟨A7,NW D9 (VZ (Cc _))⟩,zt D9 λc hc=>zQ (Cc _ c hc)⟩
 .exact⟨⟨(a_ n.toNat o5).1,VZ (Cc _)⟩,λc hc=>zQ (Cc _ c hc)⟩
theorem a2S{n:Int}{k:Nat}(h:jg n)(hk:1<=k/\k<=9):WdB (qx n k)/\∀c∈qx n k,prB c=true:=by
 unfold jg at h;obtain⟨d,f,e,hd,hf,hne,hz,hfl,hv,hdl⟩:=qU (u:=n.natAbs) (k:=k) o5 hk;have h1:∀x∈d++46::f,x≠32:=F_ (VZ hd) (NW D9 (VZ hf));have h2:∀c∈d++46::f,prB c=true:=uK (λc hc=>zQ (hd c hc)) (zt D9 λc hc=>zQ (hf c hc));unfold qx;rw[e];split
 .exact⟨⟨A7,NW D9 h1⟩,zt D9 h2⟩
 .exact⟨⟨A7,h1⟩,h2⟩
theorem Oo{d:Int}(h0:0<=d)(h:d<=109572):WdB (W9 d)/\∀c∈W9 d,prB c=true:=by obtain⟨A,B,C,e,a1,a2,a3,a4,a5,a6⟩:=NQ h0 h;rw[e];exact⟨⟨A7,F_ (VZ a4) (NW D9 (F_ (VZ a5) (NW D9 (VZ a6))))⟩,uK (λc hc=>zQ (a4 c hc)) (zt D9 (uK (λc hc=>zQ (a5 c hc)) (zt D9 λc hc=>zQ (a6 c hc))))⟩
theorem ZF(hW:EnW E)(hv:vty t E=true)(hn:inB n (bnd t E)=true)(hI:jg n):WdB (vaT n t E)/\∀c∈vaT n t E,prB c=true:=by
 refine RS (P:=λt=>WdB (vaT n t E)/\∀c∈vaT n t E,prB c=true) hv hn ?_ ?_ ?_ ?_ ?_ ?_
 .intro g1 g2;unfold vaT;simp only[O9 (rfl:(1:Int)=1),o7];cases x9 n 0
  .exact⟨(⟨D9,D9⟩:WdB [116,114,117,101]),(by decide:∀c∈([116,114,117,101]:d2g),prB c=true)⟩
  .exact⟨(⟨D9,D9⟩:WdB [102,97,108,115,101]),(by decide:∀c∈([102,97,108,115,101]:d2g),prB c=true)⟩
 .intro g1 g2;exact a0A hI
 .intro g1 g2;exact a2S (k:=2) hI o5
 .intro g1 g2;obtain⟨⟨a1,a2⟩,a3⟩:=a2S (n:=n) (k:=4) hI o5;exact⟨(⟨A7,F_ a2 (NW D9 (λx hx=>by cases hx))⟩:WdB (qx n 4++[37])),uK a3 (zt D9 (λc hc=>by cases hc))⟩
 .intro g1 g2;exact Oo g1 g2
 .intro e i he hm g1 g2 hv0;have hml:=hW.mle e hm;have g2' :n<x8 e.2:=by rw[di (by unfold jg x8;omega)]at g2;omega
  obtain⟨x,hx,hxm⟩:=ui g1 g2';have e1:vaT n (6,i) E=x:=by unfold vaT gtN;simp (disch:=decide) only[O5,o6];rw[he,Z4,hx];rfl
  rw[e1];have:=hW.mid e hm x hxm;exact⟨a2T this,QG this⟩
theorem b5m(hW:EnW E)(hv:vty t E=true)(hn:inB n (bnd t E)=true)(hI:jg n):HY (vaT n t E) t E=some ((t.1,t.2,n),0):=by
 have hw:gV n t E=some true:=by unfold gV;rw[BX,o9];obtain⟨b1,b2⟩:=AQ hn;rw[Z9 b1,Z9 b2];rfl
 have key:jr (vaT n t E) t E=some (n,0):=by
  refine RS (P:=λt=>jr (vaT n t E) t E=some (n,0)) hv hn ?_ ?_ ?_ ?_ ?_ ?_
  .intro g1 g2;have:n=0\/n=1:=o5;rcases this with rfl|rfl<;>rfl
  .intro g1 g2;unfold jr;rw[show vaT n (2,0) E=Lib.itoa n from rfl,b5L o5];rfl
  .intro g1 g2;unfold jr;rw[show vaT n (3,0) E=qx n 2 from rfl,show fH (qx n 2) 2=some (n,0)from b5K (k:=2) o5 o5];rfl
  .intro g1 g2;have l4:=EI (n:=n) (k:=4) hI o5;have hc:mG (qx n 4++[37]) [37]=some (qx n 4,true):=by
    have e1:N7 .i64 (x8 (qx n 4++[37])) (x8 ([37]:d2g))=((qx n 4).length:Int):=by rw[di (by unfold jg x8;simp;omega)];unfold x8;simp
    unfold mG pI pJ;rw[Z9 (by unfold x8;simp<;>omega),o7,e1,pK o5 (by simp<;>omega),o9,J7,X4,show seq [37] [37]=true from rfl,o9,G8,o6,Bg o5 (by simp<;>omega),o9,J7,aI];rfl
   unfold jr;rw[show vaT n (4,0) E=qx n 4++[37]from rfl,hc];simp (disch:=decide) only[O5,O9,o6,o7,o9,G8];rw[show fH (qx n 4) 4=some (n,0)from b5K (k:=4) o5 o5];rfl
  .intro g1 g2;unfold jr;rw[show vaT n (5,0) E=W9 n from rfl,Jr g1 g2];rfl
  .intro e i he hm g1 g2 hv0;have hml:=hW.mle e hm;have g2' :n<x8 e.2:=by rw[di (by unfold jg x8;omega)]at g2;omega
   obtain⟨x,hx,hxm⟩:=ui g1 g2';have e1:vaT n (6,i) E=x:=by unfold vaT gtN;simp (disch:=decide) only[O5,o6];rw[he,Z4,hx];rfl
   rw[e1];unfold jr;simp (disch:=decide) only[O5,o6];rw[he,o9];obtain⟨c1,c2,c3⟩:=Mc hx;have:=b3C e.2 (λv=>seq v x) (λi=>(i:Int)) (λi=>((i:Int),(0:Int))) (ε:=PUnit) o5 (f:=λ(x_1:Int)=>
         l7 (H5 x_1 (x8 e.2))
          (l9 (J9 e.2 x_1) λ(v:d2g)=>
           l7 (seq v x) (some (Out.rt (x_1,0))) (some (Out.nx (E9 IntKind.i64 x_1 1))))
          (some (Out.ex PUnit.unit))) (λi a ha=>by
     have:=(aV.1 ha).1;simp only[X9 ha,o7,U8,ha,o9];rw[fF o5];cases seq a x<;>rfl) n.toNat x c1 (ja.2 rfl) (λv hx=>vY.2 (hW.mun e hm _ _ c1 v hx))
   refine V5 this ?_;rw[o9,oU,c2]
 unfold HY;rw[qP,hv,o9,G8,o6,key,o9];simp only[O9 (rfl:(0:Int)=0),G8,o6];rw[hw,o9];rfl
end
end
section
theorem WX{w:d2g}(c:UInt8)(h:c∈w)(hc:c≠101/\c≠110/\c≠100):seq w [101,110,100]=false:=by
 refine vY.2 λe=>?_;rw[e]at h;simp only[D6,fM,or_false]at h;rcases h with h|h|h
 .exact hc.1 h
 .exact hc.2.1 h
 .exact hc.2.2 h
theorem b6t{d:d2g}(h:Dg d)(h0:d≠[]):∃c,c∈d/\c≠101/\c≠110/\c≠100:=by
 cases d with
 |nil=>exact absurd rfl h0|cons c t=>have:=LJ (h c A7);refine⟨c,A7,?_,?_,?_⟩<;>(rintro rfl;exact absurd this D9)
theorem b3u{d:Int}(h0:0<=d)(h:d<=109572):seq (W9 d) [101,110,100]=false:=by obtain⟨A,B,C,e,a1,a2,a3,a4,a5,a6⟩:=NQ h0 h;rw[e];exact WX 45 A7 D9
theorem b3G{n:Int}(h:jg n):seq (Lib.itoa n) [101,110,100]=false:=by
 unfold jg at h;unfold Lib.itoa;split
 .exact WX 45 A7 D9
 .obtain⟨c,h1,h2⟩:=b6t (Cc n.toNat) (a_ n.toNat o5).1;exact WX c h1 h2
theorem a1f{n:Int}{k:Nat}(h:jg n)(hk:1<=k/\k<=9):(46:UInt8)∈qx n k:=by unfold jg at h;obtain⟨d,f,e,-⟩:=qU (u:=n.natAbs) (k:=k) o5 hk;unfold qx;rw[e];split<;>simp
section
variable {E:List aP} {t:Int×Int} {n:Int}
theorem c8M(hW:EnW E)(hv:vty t E=true)(hn:inB n (bnd t E)=true)(hI:jg n):seq (vaT n t E) [101,110,100]=false:=by
 refine RS (P:=λt=>seq (vaT n t E) [101,110,100]=false) hv hn ?_ ?_ ?_ ?_ ?_ ?_
 .intro g1 g2;have:n=0\/n=1:=o5;rcases this with rfl|rfl<;>rfl
 .intro g1 g2;exact b3G hI
 .intro g1 g2;exact WX 46 (a1f (k:=2) hI o5) D9
 .intro g1 g2;exact WX 46 (bi [37] (a1f (n:=n) (k:=4) hI o5)) D9
 .intro g1 g2;exact b3u g1 g2
 .intro e i he hm g1 g2 hv0;have hml:=hW.mle e hm;have g2' :n<x8 e.2:=by rw[di (by unfold jg x8;omega)]at g2;omega
  obtain⟨x,hx,hxm⟩:=ui g1 g2';have e1:vaT n (6,i) E=x:=by unfold vaT gtN;simp (disch:=decide) only[O5,o6];rw[he,Z4,hx];rfl
  rw[e1];exact a8Y (hW.mid e hm x hxm) (by decide+kernel)
end
end
section
def PtT(w:d2g):Prop:=(∀c∈w,c≠32/\c≠34)/\w≠[105,115]
def PtI(L:List It):Prop:=∀k,some k∈L->PtT k.2.1
theorem nX{A B:List It}(ha:PtI A)(hb:PtI B):PtI (A++B):=λk hk=>(J6.1 hk).elim (ha k) (hb k)
variable {B:List It}
theorem aO{k:Y3}(ha:PtT k.2.1)(hb:PtI B):PtI (some k::B):=λj hj=>by
 rcases D6.1 hj with e|hj
 .cases e;exact ha
 .exact hb j hj
theorem tK(hb:PtI B):PtI (none::B):=λj hj=>by
 rcases D6.1 hj with e|hj
 .cases e
 .exact hb j hj
theorem kY:PtI []:=λj hj=>by cases hj
theorem b5M{w:d2g}(h:gz w=true):PtT w:=by
 refine⟨λc hc=>?_,vY.1 (a8Y h (by decide+kernel))⟩;cases w with
 |nil=>cases h|cons d r=>rw[yE]at h;simp only[A8]at h;have:=ax.1 h.1.2 c hc;constructor<;>(rintro rfl;revert this;decide)
theorem P_{d:d2g}(h:∀c∈d,vM c=true\/c=46\/c=37\/c=45):PtT d:=by
 refine⟨λc hc=>?_,?_⟩
 .rcases h c hc with h|rfl|rfl|rfl
  .have:=LJ h;constructor<;>(rintro rfl;exact absurd this D9)
  .decide
  .decide
  .decide
 .rintro rfl;rcases h 105 A7 with h|h|h|h<;>exact absurd h D9
theorem uU{c:UInt8}(h:c≠32/\c≠34):PtT [c]:=⟨λx hx=>by rw[jy.1 hx];exact h,A7⟩
theorem c1r{b:Bool}{x y:Option d2g}(hx:∃s,x=some s/\PtT s)(hy:∃s,y=some s/\PtT s):∃s,l7 b x y=some s/\PtT s:=by cases b<;>assumption
instance (w:d2g):Decidable (PtT w):=inferInstanceAs (Decidable (_/\_))
theorem Og(k:Int):PtT (dG k):=by
 have:∃s,xQ k=some s/\PtT s:=by
  unfold xQ
  repeat (refine c1r ⟨_,rfl,D9⟩ ?_)
  exact⟨_,rfl,D9⟩
 obtain⟨s,h,h2⟩:=this;unfold dG;rw[h];exact h2
theorem a6n(k:Int):PtT (iM k):=by
 unfold iM eY;simp only[qw];repeat' split
 all_goals (simp only[Z4,Option.getD_none];decide)
theorem b6V(k:Int):PtT (iY k).1:=by
 unfold iY dE;simp only[qw];repeat' split
 all_goals (simp only[Z4,Option.getD_none];decide)
theorem a9U{k:Int}{u:Nat}(hu:u<18446744073709551616):PtT (Le k u):=by
 have hd:∀c∈Lib.decDigits u,vM c=true\/c=46\/c=37\/c=45:=λc hc=> .inl (Cc u c hc);have hf:∀j:Nat,1<=j/\j<=9->∀c∈vO u j,vM c=true\/c=46\/c=37\/c=45:=by
  intro j hj c hc;obtain⟨d,f,e,hd,hf,-⟩:=qU (u:=u) (k:=j) hu hj;rw[e]at hc;rcases J6.1 hc with hc|hc
  .exact .inl (hd c hc)
  .rcases D6.1 hc with rfl|hc
   .exact .inr (.inl rfl)
   .exact .inl (hf c hc)
 unfold Le;cases x9 k 2
 .rw[o6];cases x9 k 3
  .rw[o6];refine P_ λc hc=>?_;rcases J6.1 hc with hc|hc
   .exact hf 4 o5 c hc
   .exact .inr (.inr (.inl (jy.1 hc)))
  .exact P_ (hf 2 o5)
 .exact P_ hd
theorem b4n{d:Int}(h0:0<=d)(h:d<=109572):PtT (W9 d):=by
 obtain⟨A,B,C,e,a1,a2,a3,a4,a5,a6⟩:=NQ h0 h;rw[e];refine P_ λc hc=>?_;simp only[J6,D6]at hc;rcases hc with hc|rfl|hc|rfl|hc
 .exact .inl (a4 c hc)
 .simp
 .exact .inl (a5 c hc)
 .simp
 .exact .inl (a6 c hc)
theorem PV{l:List d2g}{i:Int}(h:∀s∈l,gz s=true):PtT (gtN l i):=by
 unfold gtN;cases hl:J9 l i with
 |none=>exact(by decide:PtT [])|some s=>exact b5M (h s (xe hl))
theorem b6T{k m:Int}(hk:k=1\/k=2\/k=3\/k=4\/k=5)(hm:jg m)(hd:k=5->0<=m/\m<=109572):PtI (QN k m):=by
 unfold QN;have hu:m.natAbs<18446744073709551616:=by unfold jg at hm;omega
 cases g1:x9 k 1
 case true=>
  refine aO ?_ kY;cases x9 m 0
  .exact(by decide:PtT [116,114,117,101])
  .exact(by decide:PtT [102,97,108,115,101])
 simp only[o6];cases g5:x9 k 5
 case true=>have:=hd (Z8.1 g5);exact aO (b4n this.1 this.2) kY
 simp only[o6];cases H5 m 0
 .exact aO (a9U hu) kY
 .exact aO (uU D9) (aO (a9U hu) kY)
theorem a6o{L:List It}(h:PtI L)(c d:Int):PtI (wiI L c d):=by
 unfold wiI;cases H5 c d
 .exact h
 .exact nX (nX (aO (uU D9) kY) h) (aO (uU D9) kY)
variable {n:Int×Int}
section
variable {N:E8} (hN:NmI N)
include hN
theorem b4o(ha:qp n.1=0)(hm:jg n.2)(h:flS n N=0):PtI (IY n N):=by
 obtain⟨k,m⟩:=n;unfold IY;cases g:P7 k 5
 case true=>
  have h5:=uF.1 g;have hk:k=1\/k=2\/k=3\/k=4\/k=5:=by rcases ar0 ha with h|h|h|h|h|h|h|h|h|h|h|h|h|h<;>simp only at h<;>omega
  refine b6T hk hm λe=>?_;subst e;exact Fz (N:=N) o5 rfl h
 simp only[o6];cases x9 k 6
 case true=>
  refine aO ?_ (aO (uU D9) (aO ?_ kY))
  .show PtT ((J9 N.1 (Z7 .i64 m 16)).getD ([],[])).1;cases hl:J9 N.1 (Z7 .i64 m 16)with
   |none=>exact(by decide:PtT [])|some e=>exact b5M (hN.e e (xe hl)).1
  .show PtT (gtN ((J9 N.1 (Z7 .i64 m 16)).getD ([],[])).2 (dJ m 16));cases hl:J9 N.1 (Z7 .i64 m 16)with
   |none=>exact PV (λs hs=>by cases hs)|some e=>exact PV (hN.e e (xe hl)).2
 simp only[o6];cases x9 k 7
 case true=>exact aO (PV hN.i) kY
 simp only[o6];cases x9 k 8
 case true=>exact aO (PV hN.d) kY
 simp only[o6];cases x9 k 9
 case true=>exact aO (by decide:PtT [116,111,100,97,121]) kY
 simp only[o6];cases x9 k 35
 case true=>exact aO (by decide:PtT [99,111,117,110,116]) (aO (uU D9) (aO (uU D9) kY))
 exact aO (Og k) (aO (uU D9) (aO (PV hN.m) (aO (uU D9) kY)))
theorem b6U{num:Bool}{L:List It}{c:Int}(h:PtI L):PtI (a7H n N num L c):=by
 unfold a7H;cases x9 n.1 33
 case true=>exact nX (nX (aO (Og _) (aO (uU D9) (aO (PV hN.t) (aO (uU D9) (tK kY))))) h) (aO (uU D9) kY)
 simp only[o6];cases x9 n.1 34
 case true=>exact nX (nX (aO (Og _) (aO (uU D9) (aO (PV hN.t) (aO (uU D9) (tK kY))))) h) (aO (uU D9) (tK (aO (a6n _) (aO (uU D9) kY))))
 simp only[o6];cases x9 n.1 25
 case true=>exact nX (aO (by decide:PtT [110,111,116]) (tK kY)) (a6o h _ _)
 simp only[o6];cases x9 n.1 10
 case true=>
  refine nX (aO (uU D9) kY) ?_;cases num
  .exact a6o h _ _
  .exact nX (nX (aO (uU D9) kY) h) (aO (uU D9) kY)
 exact nX (nX (aO (Og _) (aO (uU D9) kY)) h) (aO (uU D9) kY)
omit hN in
theorem b6W{A B:List It}{c d:Int}(h:PtI A)(g:PtI B):PtI (ND n A c B d):=by
 unfold ND;cases Qs n.1
 case true=>exact nX (nX (nX (nX (aO (Og _) (aO (uU D9) kY)) h) (aO (uU D9) (tK kY))) g) (aO (uU D9) kY)
 simp only[o6];cases Gq n.1
 case true=>exact nX (nX (nX (nX (aO (Og _) (aO (uU D9) kY)) h) (aO (uU D9) (tK kY))) g) (aO (uU D9) (tK (aO (a6n _) (aO (uU D9) kY))))
 exact nX (nX (a6o h _ _) (tK (aO (b6V _) (tK kY)))) (a6o g _ _)
theorem JO:∀(t:XT),t.wf->(∀n∈t.post,jg n.2)->(∀n∈t.post,flS n N=0)->PtI (itT N t)
 | .l0 n,hw,hI,hz=>b4o hN hw (hI n (by simp[XT.post])) (hz n (by simp[XT.post]))| .l1 n a,hw,hI,hz=>b6U hN (JO a hw.2 (λm hm=>hI m (by simp[XT.post,hm])) (λm hm=>hz m (by simp[XT.post,hm])))| .l2 n a b,hw,hI,hz=>b6W (JO a hw.2.1 (λm hm=>hI m (by simp[XT.post,hm])) (λm hm=>hz m (by simp[XT.post,hm]))) (JO b hw.2.2 (λm hm=>hI m (by simp[XT.post,hm])) (λm hm=>hz m (by simp[XT.post,hm])))| .l3 n a b c,hw,hI,hz=>by have ha:=JO a hw.2.1 (λm hm=>hI m (by simp[XT.post,hm])) (λm hm=>hz m (by simp[XT.post,hm]));have hb:=JO b hw.2.2.1 (λm hm=>hI m (by simp[XT.post,hm])) (λm hm=>hz m (by simp[XT.post,hm]));have hc:=JO c hw.2.2.2 (λm hm=>hI m (by simp[XT.post,hm])) (λm hm=>hz m (by simp[XT.post,hm]));exact nX (nX (nX (nX (nX (aO (by decide:PtT [105,102]) (tK kY)) ha) (tK (aO (by decide:PtT [116,104,101,110]) (tK kY)))) hb) (tK (aO (by decide:PtT [101,108,115,101]) (tK kY)))) hc
end
theorem a5J{x:UInt8}{sub:d2g} :∀{a r:d2g},(∀c∈a,c≠x)->BL (x::sub) a r
 |[],r,h=>trivial|c::a,r,h=>by
  refine⟨?_,a5J λy hy=>h y (by simp[hy])⟩;have:=h c A7;simp only[List.isPrefixOf];have:(x==c)=false:=by simpa[beq_eq_false_iff_ne]using λe=>this e.symm
  rw[this];rfl
def sIs:d2g:=[32,105,115,32]
theorem c0j{k:Y3}{X:d2g}(hk:TokOk k)(hp:PtT k.2.1)(hs:a1h k\/HdS X):([105,115,32]:d2g).isPrefixOf (k.2.1++X)=false:=by
 cases hq:([105,115,32]:d2g).isPrefixOf (k.2.1++X)with
 |false=>rfl|true=>
  exfalso;obtain⟨r,hr⟩:=jE.1 hq;obtain⟨c,t,e,-⟩:=hk.ne;rw[e]at hr;simp only[I7,G9,G7]at hr;obtain⟨rfl,hr⟩:=hr;have hX:HdS X:=by
   rcases hs with⟨c,hc,e2⟩|h
   .rw[e2]at e;simp only[G7]at e;rcases hc with rfl|rfl|rfl|rfl|rfl|rfl|rfl<;>exact absurd e.1 D9
   .exact h
  cases t with
  |nil=>have:=hX 115 _ hr.symm;exact absurd this D9|cons d t=>
   simp only[I7,G7]at hr;obtain⟨rfl,hr⟩:=hr;cases t with
   |nil=>exact hp.2 e|cons b t=>simp only[I7,G7]at hr;obtain⟨rfl,hr⟩:=hr;exact(hp.1 32 (by rw[e];simp)).1 rfl
theorem m_:∀(L:List It) (x:d2g),WSR L (sIs++x)->PtI L->BL sIs (dB L) (sIs++x)
 |[],x,h,hp=>trivial|none::L,x,h,hp=>by
  refine⟨?_,m_ L x h.2 (λk hk=>hp k (by simp[hk]))⟩;show(([32,105,115,32]:d2g)).isPrefixOf (32::(dB L++(sIs++x)))=false;show(([105,115,32]:d2g)).isPrefixOf (dB L++(sIs++x))=false;cases L with
  |nil=>rfl|cons k L=>
   cases k with
   |none=>rfl|some k=>show(([105,115,32]:d2g)).isPrefixOf ((k.2.1++dB L)++(sIs++x))=false;rw[E5];exact c0j h.2.1 (hp k A7) h.2.2.1
 |some k::L,x,h,hp=>by show BL sIs (k.2.1++dB L) (sIs++x);rw[a1i];exact⟨a5J λc hc=>((hp k A7).1 c hc).1,m_ L x h.2.2 (λk hk=>hp k (by simp[hk]))⟩
theorem l_:∀(L:List It),PtI L->∀c∈dB L,c≠34
 |[],hp=>λc hc=>by cases hc
 |none::L,hp=>λc hc=>by
  rcases D6.1 hc with rfl|hc
  .decide
  .exact l_ L (λk hk=>hp k (by simp[hk])) c hc
 |some k::L,hp=>λc hc=>by
  rcases J6.1 hc with hc|hc
  .exact((hp k A7).1 c hc).2
  .exact l_ L (λk hk=>hp k (by simp[hk])) c hc
def a0a:d2g:=[32,115,114,99,32,34]
theorem WG:∀(a r:d2g),(∀c∈a,c≠34)->(r=[]\/∃x,r=a0a++x)->BL a0a a r
 |[],r,h,hr=>trivial|c::a,r,h,hr=>by
  refine⟨?_,WG a r (λy hy=>h y (by simp[hy])) hr⟩;cases hq:a0a.isPrefixOf (c::(a++r))with
  |false=>rfl|true=>
   exfalso;obtain⟨z,hz⟩:=jE.1 hq;have h5:((c::a)++r)[5]? =some 34:=by rw[I7,←hz];rfl
   by_cases hl:5<(c::a).length
   .rw[P6 hl]at h5;exact h 34 (zg h5) rfl
   .rw[F8 o5]at h5;rcases hr with rfl|⟨x,rfl⟩
    .simp at h5
    .have hj:5 -(c::a).length=0\/5 -(c::a).length=1\/5 -(c::a).length=2\/5 -(c::a).length=3\/5 -(c::a).length=4:=by simp only[D5]at hl ⊢;omega
     rcases hj with e|e|e|e|e<;>rw[e,P6 D9]at h5<;>exact absurd h5 D9
structure ExT (t:d2g) (e:List (Int×Int)) (N:E8):Prop where
 p:t.length<=65536->xE t N=some (e,0,0)
 n:t≠[]
 pr:∀c∈t,prB c=true
 is:∀x,BL sIs t (sIs++x)
 q:∀c∈t,c≠34
def soT(s:d2g):d2g:=l7 (seq s []) [] (a0a++(s++[34]))
end
section
section
variable {l:V4} (h:FmL l)
include h
theorem a8T:EnW l.1:=by
 refine { id:=?_,un:=?_,le:=?_,mid:=?_,mun:=?_,mle:=?_ }
 .intro e he;obtain⟨j,hj⟩:=Bh he;exact(ZB h.v hj).1
 .intro j e he;exact(ZB h.v he).2.1
 .have:=h.n.ne;omega
 .intro e he m hm;obtain⟨j,hj⟩:=Bh he;obtain⟨i,hi⟩:=Bh hm;exact((ZB h.v hj).2.2.2 i m hi).1
 .intro e he i v hi;obtain⟨j,hj⟩:=Bh he;exact((ZB h.v hj).2.2.2 i v hi).2
 .intro e he;have:=(h.n.e e he).1;omega
end
end
section
theorem YJ{α β ρ:Type}(b:β):∀l:List α,mZ (λ(b:β) (_:α)=>(.inl b:β⊕ρ)) l b= .inl b
 |[]=>rfl|_::l=>YJ b l
variable {α:Type}
theorem Zu{a:List α}(hl:a.length<=1000000){f:Int->Option (Out Int PUnit Bool)}
  (hin:∀(i:Nat) x,a[i]? =some x->f (i:Int)=some (.nx (E9 .i64 (i:Int) 1))) (hend:f (a.length:Int)=some (.ex PUnit.unit)):
  (l7 (G6 (x9 (x8 a) (x8 a))) (some false) (l9 (O6 f 0) λo=>U1 o (λ_=>some true) λr=>some r))=some true:=by
 rw[O9 rfl,G8,o6];refine FD a (λ(b:Unit) _=>(.inl b:Unit⊕Bool)) (λ_ i=>i) (λ_=>PUnit.unit) (λ_ _=>True) () hl trivial (λi x _ hx hi _=>⟨?_,λ_ _=>trivial⟩) (λ_ _=>hend) (λ_=>?_)
 .rw[hin i x hx,fF o5]
 .rw[YJ];rfl
theorem a0p{ws:List d2g}(h:∀w∈ws,∀c∈w,prB c=true):∀c∈spW ws,prB c=true:=by
 intro c hc;unfold spW at hc;obtain⟨w,hw,hc⟩:=BP.1 hc;rcases D6.1 hc with rfl|hc
 .decide
 .exact h w hw c hc
theorem a9e(w:d2g)(h:w.all prB=true):∀c∈w,prB c=true:=λc hc=>ax.1 h c hc
variable {s:d2g}
theorem c0g(h:Qg s=true):∀c∈s,prB c=true:=by unfold Qg at h;simp only[A8]at h;intro c hc;have:=ax.1 h.2 c hc;unfold Nu at this;unfold prB;simp only[A8]at this ⊢;exact this.1
theorem b2F:∀{ws:List d2g} {w:d2g},w∈ws->w.length<=(spW ws).length
 |[],w,h=>by cases h|v::ws,w,h=>by
  rw[lL,C9,D5];rcases D6.1 h with rfl|h
  .omega
  .have:=b2F h;omega
theorem a5Y:∀(L:List d2g) (w:d2g),w∈L->w.length<=(rF L).length
 |[],w,hw=>by cases hw|v::L,w,hw=>by
  simp only[rF,C9,D5];rcases D6.1 hw with rfl|hw
  .omega
  .have:=a5Y L w hw;omega
theorem Ec{n:d2g}(h:gz n=true):n.length<=80:=by
 cases n with
 |nil=>simp|cons c r=>rw[yE]at h;simp only[A8,decide_eq_true_eq]at h;omega
theorem b6m{a:d2g}(h:a.length+1<=1000000000):BQ a 10=some ((),a++[10]):=by
 unfold BQ;rw[show(Nat.ble (a.length+1) 1073741824&&decide ((0:Int)<=10)&&decide ((10:Int)<=255))=true by rw[A8,A8];exact⟨⟨by rw[Nat.ble_eq];omega,D9⟩,D9⟩]
 rfl
def nmP(L:List α)(f:α->d2g)(n:d2g)(i:Nat):d2l:=match L[i]? with|some a=>l7 (seq (f a) n) (some (i:Int)) none|none=>none
def nmI(L:List α)(f:α->d2g)(n:d2g):Int:=match fK L.length (nmP L f n)with|some r=>r|none=>-1
theorem Jc(L:List α)(f:α->d2g)(n:d2g):nmI L f n=-1\/∃(i:Nat) (a:α),nmI L f n=(i:Int)/\L[i]? =some a/\f a=n/\J9 L (nmI L f n)=some a/\a∈L:=by
 unfold nmI;cases h:fK L.length (nmP L f n)with
 |none=>exact .inl rfl|some r=>
  right;obtain⟨i,hi,hp⟩:=oC h;unfold nmP at hp;have e:=qi hi;rw[e]at hp;simp only at hp;cases g:seq (f L[i]) n<;>rw[g]at hp
  .cases hp
  .rw[o7]at hp;cases hp;exact⟨i,L[i],rfl,e,ja.1 g,by simp only;rw[U8];exact e,ay hi⟩
theorem Vm(L:List α)(fl:α->d2g)(n:d2g)(hl:L.length<=1000000){f:Int->Option (Out Int PUnit Int)}
  (h1:∀(i:Nat) (a:α),L[i]? =some a->f (i:Int)=some (l7 (seq (fl a) n) (.rt (i:Int)) (.nx (E9 .i64 (i:Int) 1)))) (h2:f (L.length:Int)=some (.ex PUnit.unit)):
  (l9 (O6 f 0) λ(o:PUnit⊕Int)=>U1 o (λ(y:PUnit)=>some (-1)) λ(r:Int)=>some r)=some (nmI L fl n):=by
 refine V5 (IR (p:=nmP L fl n) L.length hl PUnit.unit (λi hi=>?_) h2) ?_
 .have e:=qi hi;rw[h1 i _ e];unfold nmP;rw[e];simp only;cases seq (fl L[i]) n<;>rfl
 .unfold nmI;cases fK L.length (nmP L fl n)<;>rfl
variable {l:V4}
theorem Pj(n:d2g)(h:l.2.2.length<=1000000):nI l n=some (nmI l.2.2 (λ(s:V6)=>s.1) n):=by unfold nI;refine Vm l.2.2 (λ(s:V6)=>s.1) n h (λi a ha=>?_) (by rw[af];rfl);simp only[X9 ha,o7,U8,ha,o9];cases seq a.1 n<;>rfl
theorem a2f(n:d2g)(h:l.2.2.length<=1000000):Di l n=some (nmI l.2.2 (λ(s:V6)=>s.1) n):=by unfold Di;refine Vm l.2.2 (λ(s:V6)=>s.1) n h (λi a ha=>?_) (by rw[af];rfl);simp only[X9 ha,o7,U8,ha,o9];cases seq a.1 n<;>rfl
theorem Pm(n:d2g)(h:l.2.1.length<=1000000):nJ l n=some (nmI l.2.1 (λ(s:dm)=>s.1) n):=by unfold nJ;refine Vm l.2.1 (λ(s:dm)=>s.1) n h (λi a ha=>?_) (by rw[af];rfl);simp only[X9 ha,o7,U8,ha,o9];cases seq a.1 n<;>rfl
theorem a2g(n:d2g)(h:l.2.1.length<=1000000):Dj l n=some (nmI l.2.1 (λ(s:dm)=>s.1) n):=by unfold Dj;refine Vm l.2.1 (λ(s:dm)=>s.1) n h (λi a ha=>?_) (by rw[af];rfl);simp only[X9 ha,o7,U8,ha,o9];cases seq a.1 n<;>rfl
theorem a2D(h:s.length<=1000000){f:Int->Option (Out Int PUnit Bool)}{r:Bool}
  (h1:∀(i:Nat) (x:UInt8),s[i]? =some x->f (i:Int)=some (l7 (Nu x) (.nx (E9 .i64 (i:Int) 1)) (.rt false))) (h2:f (s.length:Int)=some (.ex PUnit.unit)):
  (l9 (O6 f 0) λ(o:PUnit⊕Bool)=>U1 o (λ(y:PUnit)=>some r) λ(r:Bool)=>some r)=some (s.all Nu&&r):=by
 refine V5 (Ja s (λi a=>Nu a) false PUnit.unit _ o5 (λi x hx=>?_) h2) ?_
 .have hi:=(aV.1 hx).1;rw[h1 i x hx,fF o5];cases Nu x<;>rfl
 .by_cases hw:s.all Nu=true
  .rw[if_pos ((Vb s Nu).2 hw),hw,o9,X8,nP]
  .rw[if_neg (λh=>hw ((Vb s Nu).1 h))];simp only[wU]at hw;rw[hw,Bool.false_and];rfl
theorem Uh(h:s.length<=1000000):uJ s=some (Qg s):=by
 unfold uJ;have h5:H5 64 (x8 s)= !decide (s.length<=64):=by simp only[H5,x8];rw[←decide_not];congr 1;simp;omega
 rw[h5];unfold Qg;cases decide (s.length<=64)
 .rfl
 .show(l9 _ _)=_;refine(a2D (r:=true) h (λi x hx=>?_) ?_).trans (by rw[Bool.and_true,nP])
  .simp only[X9 hx,o7,vX,hx,eX,o9];rw[XH];cases H5 (x.toNat:Int) 32<;>cases H5 126 (x.toNat:Int)<;>cases x9 (x.toNat:Int) 34<;>rfl
  .rw[af];rfl
theorem a4q(h:s.length<=1000000):Bq s=some (Qg s):=by
 unfold Bq;have h5:P7 (x8 s) 64=decide (s.length<=64):=by simp only[P7,x8];congr 1;simp;omega
 rw[h5];unfold Qg;refine(a2D (r:=decide (s.length<=64)) h (λi x hx=>?_) ?_).trans (by rw[Bool.and_comm])
 .simp only[X9 hx,o7,vX,hx,eX,o9];rw[XH];cases H5 (x.toNat:Int) 32<;>cases H5 126 (x.toNat:Int)<;>cases x9 (x.toNat:Int) 34<;>rfl
 .rw[af];rfl
structure AmW (a:F5):Prop where
 d:jg a.2.1
 s:a.2.2.1.length<=4611686018427387904
 n:a.2.2.2.1.length<=4611686018427387904
 f:a.2.2.2.2.1.length<=4611686018427387904
 p:a.2.2.2.2.2.1.length<=4611686018427387904
 pr:jg a.2.2.2.2.2.2.1
 g:∀n∈a.2.2.2.2.2.2.2.1,jg n.2
 v:∀n∈a.2.2.2.2.2.2.2.2.1,jg n.2
 t:a.2.2.2.2.2.2.2.2.2.2.1.length<=4611686018427387904
 lo:jg a.2.2.2.2.2.2.2.2.2.2.2.2.1
 hi:jg a.2.2.2.2.2.2.2.2.2.2.2.2.2.1
 rn:jg a.2.2.2.2.2.2.2.2.2.2.2.2.2.2
structure AmF (a:F5):Prop where
 g:a.2.2.2.2.2.2.2.1.length<=60
 v:a.2.2.2.2.2.2.2.2.1.length<=60
 s:a.2.2.2.2.2.2.2.2.2.1.length<=200
def rlS(a:F5):Bool:=!(seq a.2.2.2.2.1 []&&seq a.2.2.2.2.2.1 []&&x9 a.2.2.2.2.2.2.1 0&&x9 (x8 a.2.2.2.2.2.2.2.1) 0&&x9 (x8 a.2.2.2.2.2.2.2.2.1) 0&&seq a.2.2.2.2.2.2.2.2.2.1 [])
def snS(a:F5):Bool:=!(seq a.2.2.1 []&&seq a.2.2.2.1 [])
def vdS(a:F5):Bool:=!(x9 a.2.2.2.2.2.2.2.2.2.2.2.1.1 0&&x9 a.2.2.2.2.2.2.2.2.2.2.2.1.2 0)
def rwS(a:F5):Bool:=!(seq a.2.2.2.2.2.2.2.2.2.2.1 []&&(x9 a.2.2.2.2.2.2.2.2.2.2.2.1.1 0&&(x9 a.2.2.2.2.2.2.2.2.2.2.2.1.2 0&&(x9 a.2.2.2.2.2.2.2.2.2.2.2.2.1 0&&(x9 a.2.2.2.2.2.2.2.2.2.2.2.2.2.1 0&&x9 a.2.2.2.2.2.2.2.2.2.2.2.2.2.2 0)))))
def unS(a:F5):Bool:=l7 (x9 a.1 1) (rwS a) (l7 (x9 a.1 2) (rlS a || rwS a) (l7 (x9 a.1 3) (rlS a || snS a || vdS a) (rlS a || snS a || vdS a || !(x9 a.2.2.2.2.2.2.2.2.2.2.2.2.2.2 0))))
theorem a1n(l:List α):H5 0 (x8 l)= !(x9 (x8 l) 0):=by
 cases l with
 |nil=>rfl|cons a l=>rw[bT (by unfold x8;simp only[D5];omega),O5 (by unfold x8;simp only[D5];omega)];rfl
theorem p_(a:F5):zn a=some (unS a):=by
 unfold zn unS rlS snS vdS rwS;rw[a1n,a1n];generalize seq a.2.2.2.2.1 []=b1;generalize seq a.2.2.2.2.2.1 []=b2;generalize x9 a.2.2.2.2.2.2.1 0=b3;generalize x9 (x8 a.2.2.2.2.2.2.2.1) 0=b4;generalize x9 (x8 a.2.2.2.2.2.2.2.2.1) 0=b5;generalize seq a.2.2.2.2.2.2.2.2.2.1 []=b6;generalize seq a.2.2.1 []=c1;generalize seq a.2.2.2.1 []=c2;generalize seq a.2.2.2.2.2.2.2.2.2.2.1 []=d0;generalize x9 a.2.2.2.2.2.2.2.2.2.2.2.1.1 0=d1;generalize x9 a.2.2.2.2.2.2.2.2.2.2.2.1.2 0=d2;generalize x9 a.2.2.2.2.2.2.2.2.2.2.2.2.1 0=d3;generalize x9 a.2.2.2.2.2.2.2.2.2.2.2.2.2.1 0=d4;generalize x9 a.2.2.2.2.2.2.2.2.2.2.2.2.2.2 0=d5;generalize x9 a.1 1=k1;generalize x9 a.1 2=k2;generalize x9 a.1 3=k3;have e1:l7 (G6 b1) (some true) (l7 (G6 b2) (some true) (l7 (G6 b3) (some true) (l7 (!b4) (some true) (l7 (!b5) (some true) (some (G6 b6))))))=some (!(b1&&b2&&b3&&b4&&b5&&b6)):=by cases b1<;>cases b2<;>cases b3<;>cases b4<;>cases b5<;>cases b6<;>rfl
 have e2:l7 (G6 c1) (some true) (some (G6 c2))=some (!(c1&&c2)):=by cases c1<;>cases c2<;>rfl
 have e3:l7 (G6 d0) (some true) (some (G6 (fE d1 (fE d2 (fE d3 (fE d4 d5))))))=some (!(d0&&(d1&&(d2&&(d3&&(d4&&d5)))))):=by cases d0<;>rfl
 rw[e1,o9,e2,o9,e3,o9];generalize (!(b1&&b2&&b3&&b4&&b5&&b6))=R;generalize (!(c1&&c2))=S;generalize (!(d0&&(d1&&(d2&&(d3&&(d4&&d5))))))=W;have e4:G6 (fE d1 d2)= !(d1&&d2):=rfl;rw[e4];generalize (!(d1&&d2))=V;cases k1<;>cases k2<;>cases k3<;>cases R<;>cases S<;>cases V<;>cases W<;>rfl
variable {a:F5}
theorem b0I(h1:1<=a.1)(h4:a.1<=4):JV a=some (!(unS a)):=by
 have hk:a.1=1\/a.1=2\/a.1=3\/a.1=4:=by
  have h1:(1:Int)<=a.1:=h1;have h4:a.1<=(4:Int):=h4;generalize a.1=k at h1 h4;have:∀k:Int,1<=k->k<=4->k=1\/k=2\/k=3\/k=4:=λk a b=>by omega
  exact this k h1 h4
 unfold JV uq unS rlS snS vdS rwS;generalize seq a.2.2.2.2.1 []=b1;generalize seq a.2.2.2.2.2.1 []=b2;generalize x9 a.2.2.2.2.2.2.1 0=b3;generalize x9 (x8 a.2.2.2.2.2.2.2.1) 0=b4;generalize x9 (x8 a.2.2.2.2.2.2.2.2.1) 0=b5;generalize seq a.2.2.2.2.2.2.2.2.2.1 []=b6;generalize seq a.2.2.1 []=c1;generalize seq a.2.2.2.1 []=c2;generalize seq a.2.2.2.2.2.2.2.2.2.2.1 []=d0;generalize x9 a.2.2.2.2.2.2.2.2.2.2.2.1.1 0=d1;generalize x9 a.2.2.2.2.2.2.2.2.2.2.2.1.2 0=d2;generalize x9 a.2.2.2.2.2.2.2.2.2.2.2.2.1 0=d3;generalize x9 a.2.2.2.2.2.2.2.2.2.2.2.2.2.1 0=d4;generalize x9 a.2.2.2.2.2.2.2.2.2.2.2.2.2.2 0=d5;have e1:l7 b1 (l7 b2 (l7 b3 (l7 b4 (l7 b5 (some b6) (some false)) (some false)) (some false)) (some false)) (some false)=some (b1&&b2&&b3&&b4&&b5&&b6):=by cases b1<;>cases b2<;>cases b3<;>cases b4<;>cases b5<;>rfl
 rw[e1,o9];generalize (b1&&b2&&b3&&b4&&b5&&b6)=R;have j11:x9 1 1=true:=rfl;have j12:x9 1 2=false:=rfl;have j13:x9 1 3=false:=rfl;have j14:x9 1 4=false:=rfl;have j21:x9 2 1=false:=rfl;have j22:x9 2 2=true:=rfl;have j23:x9 2 3=false:=rfl;have j24:x9 2 4=false:=rfl;have j31:x9 3 1=false:=rfl;have j32:x9 3 2=false:=rfl;have j33:x9 3 3=true:=rfl;have j34:x9 3 4=false:=rfl;have j41:x9 4 1=false:=rfl;have j42:x9 4 2=false:=rfl;have j43:x9 4 3=false:=rfl;have j44:x9 4 4=true:=rfl;rcases hk with e|e|e|e<;>rw[e]
 .simp only[j11,j12,j13,j14,o7,o6,o9];cases d0<;>cases d1<;>cases d2<;>cases d3<;>cases d4<;>cases d5<;>rfl
 .simp only[j21,j22,j23,j24,o7,o6,o9];cases R<;>cases d0<;>cases d1<;>cases d2<;>cases d3<;>cases d4<;>cases d5<;>rfl
 .simp only[j31,j32,j33,j34,o7,o6,o9];cases R<;>cases c1<;>cases c2<;>cases d1<;>cases d2<;>rfl
 .simp only[j41,j42,j43,j44,o7,o6,o9];cases R<;>cases c1<;>cases c2<;>cases d1<;>cases d2<;>cases d5<;>rfl
def wnS(a:F5):Bool:=l7 (x9 a.1 1) (gz a.2.2.1&&gz a.2.2.2.1&&gz a.2.2.2.2.1&&(seq a.2.2.2.2.2.1 [] || gz a.2.2.2.2.2.1)&&Qg a.2.2.2.2.2.2.2.2.2.1)
 (l7 (x9 a.1 2) (gz a.2.2.1&&gz a.2.2.2.1) (gz a.2.2.2.2.2.2.2.2.2.2.1))
theorem a0B(hw:AmW a)(hf:AmF a):zo a=some (wnS a):=by
 unfold zo wnS;rw[nH hw.s,nH hw.n,nH hw.f,nH hw.p,nH hw.t,Uh (by have:=hf.s;omega)];simp only[o9];cases x9 a.1 1
 .cases x9 a.1 2
  .rfl
  .cases gz a.2.2.1<;>rfl
 .cases gz a.2.2.1<;>cases gz a.2.2.2.1<;>cases gz a.2.2.2.2.1<;>cases seq a.2.2.2.2.2.1 []<;>cases gz a.2.2.2.2.2.1<;>rfl
theorem Yn(hw:AmW a)(hf:AmF a)(h1:1<=a.1)(h4:a.1<=4):zI a=some (wnS a):=by
 have hk:a.1=1\/a.1=2\/a.1=3\/a.1=4:=by
  have h1:(1:Int)<=a.1:=h1;have h4:a.1<=(4:Int):=h4;generalize a.1=k at h1 h4;have:∀k:Int,1<=k->k<=4->k=1\/k=2\/k=3\/k=4:=λk a b=>by omega
  exact this k h1 h4
 unfold zI uq wnS;rw[tN hw.s,tN hw.n,tN hw.f,tN hw.p,tN hw.t,a4q (by have:=hf.s;omega)];simp only[o9];rcases hk with e|e|e|e<;>rw[e]
 .cases gz a.2.2.1<;>cases gz a.2.2.2.1<;>cases gz a.2.2.2.2.1<;>cases seq a.2.2.2.2.2.1 []<;>cases gz a.2.2.2.2.2.1<;>rfl
 .cases gz a.2.2.1<;>cases gz a.2.2.2.1<;>rfl
 .rfl
 .rfl
end
section
def vfS(n:Int)(t:Int×Int)(en:List aP):d2g×Int:=(dU (t.1,t.2,n) en).getD ([],0)
theorem b3d{l:V4}(hE:EnL l.1){n:Int}{t:Int×Int}(h:jg n):sH l t n=some (vfS n t l.1)/\yN n t l=some (vfS n t l.1)/\(vfS n t l.1).1.length<=100:=by
 obtain⟨x,hx,hl⟩:=wI (B:=100) o5 o5 (v:=(t.1,t.2,n)) h hE.m;have e:vfS n t l.1=x:=by unfold vfS;rw[hx];rfl
 refine⟨?_,?_,by rw[e];exact hl⟩
 .unfold sH;rw[hx,o9,e]
 .unfold yN;rw[←qm _ h,hx,o9,e]
def ovT(a:F5):d2g:=l7 (G6 (seq a.2.2.2.2.2.1 [])) ([32,111,118,101,114,32]++a.2.2.2.2.2.1) []
def prT(a:F5):d2g:=l7 (G6 (x9 a.2.2.2.2.2.2.1 0)) ([32,112,114,105,111,32]++Lib.itoa a.2.2.2.2.2.2.1) []
def hdT(a:F5):d2g:=[105,110,115,101,114,116,32]++a.2.2.1++[32]++a.2.2.2.1++[32,111,102,32]++a.2.2.2.2.1++ovT a++prT a++[32,102,114,111,109,32]++W9 a.2.1
def srT(a:F5):d2g:=l7 (G6 (seq a.2.2.2.2.2.2.2.2.2.1 [])) ([32,115,114,99,32,34]++a.2.2.2.2.2.2.2.2.2.1++[34]) []
def isT(a:F5)(p:d2g)(N:E8):d2g×Int:=
 l7 (G6 (x9 (qG a.2.2.2.2.2.2.2.2.1 N).2 0)) ([],(qG a.2.2.2.2.2.2.2.2.1 N).2) (p++[32,105,115,32]++(qG a.2.2.2.2.2.2.2.2.1 N).1++srT a,0)
def Yh(l:V4)(a:F5):d2g×Int:=
 match J9 l.2.2 (nmI l.2.2 (λ(s:V6)=>s.1) a.2.2.1)with
 |none=>([],6)|some s=>l7 (H5 0 (x8 a.2.2.2.2.2.2.2.1))
   (l7 (G6 (x9 (qG a.2.2.2.2.2.2.2.1 (nmS l s)).2 0)) ([],(qG a.2.2.2.2.2.2.2.1 (nmS l s)).2) (isT a (hdT a++[32,119,104,101,110,32]++(qG a.2.2.2.2.2.2.2.1 (nmS l s)).1) (nmS l s)))
   (isT a (hdT a) (nmS l s))
structure AmI (a:F5):Prop where
 s:a.2.2.1.length<=80
 n:a.2.2.2.1.length<=80
 f:a.2.2.2.2.1.length<=80
 p:a.2.2.2.2.2.1.length<=80
variable {a:F5}
theorem a5L(hw:AmW a)(hi:AmI a):(hdT a).length<=1000:=by have h1:=hi.s;have h2:=hi.n;have h3:=hi.f;have h4:=hi.p;have h5:=lW a.2.1;have h6:=Dp hw.pr;unfold hdT ovT prT;cases seq a.2.2.2.2.2.1 []<;>cases x9 a.2.2.2.2.2.2.1 0<;>simp<;>omega
theorem b5f(hf:AmF a):(srT a).length<=300:=by have:=hf.s;unfold srT;cases seq a.2.2.2.2.2.2.2.2.2.1 []<;>simp<;>omega
section
variable {l:V4} (hS:SmL l) (hF:FmL l)
include hS hF
theorem a7s(hw:AmW a)(hf:AmF a)(hi:AmI a):vJ l a=some (Yh l a)/\(Yh l a).1.length<=400000:=by
 have hd5:=lW a.2.1;have h6:=Dp hw.pr;have hh:=a5L hw hi;have hsr:=b5f hf;have h1:=hi.s;have h2:=hi.n;have h3:=hi.f;have h4:=hi.p;have hs2:=hf.s;unfold vJ Yh;rw[Pj _ (by have:=hS.few.2.2;omega),o9];rcases Jc l.2.2 (λ(s:V6)=>s.1) a.2.2.1 with e|⟨i,s,e,-,-,QE,hm⟩
 .rw[e];have:J9 l.2.2 (-1)=none:=Fj (.inl rfl);rw[this];exact⟨rfl,A7⟩
 .rw[QE,X5 (by rw[e];omega),o6,a1D hF.n QE,o9];have hN:=b6K hF.n hm;simp only;rw[a3I hN hw.g,a3I hN hw.v,jO hw.pr,oJ];have lg:=Vf hN hw.g;have lv:=Vf hN hw.v;generalize qG a.2.2.2.2.2.2.2.1 (nmS l s)=G at*;obtain⟨gt,gc⟩:=G;generalize hV:qG a.2.2.2.2.2.2.2.2.1 (nmS l s)=V at*;obtain⟨vt,vc⟩:=V;simp only at lg lv;have hov:(l7 (G6 (seq a.2.2.2.2.2.1 [])) (l9 (O0 [32,111,118,101,114,32] a.2.2.2.2.2.1) λ(x:d2g)=>l9 (O0 ([105,110,115,101,114,116,32]++a.2.2.1++[32]++a.2.2.2.1++[32,111,102,32]++a.2.2.2.2.1) x) λ(x:d2g)=>some x)
    (some ([105,110,115,101,114,116,32]++a.2.2.1++[32]++a.2.2.2.1++[32,111,102,32]++a.2.2.2.2.1)))=some ([105,110,115,101,114,116,32]++a.2.2.1++[32]++a.2.2.2.1++[32,111,102,32]++a.2.2.2.2.1++ovT a):=by
   unfold ovT;cases seq a.2.2.2.2.2.1 []
   .simp only[V7,o7];rw[H7 F9,o9,H7 F9,o9]
   .simp
  have lov:(ovT a).length<=90:=by unfold ovT;cases seq a.2.2.2.2.2.1 []<;>simp<;>omega
  have lpr:(prT a).length<=30:=by unfold prT;cases x9 a.2.2.2.2.2.2.1 0<;>simp<;>omega
  rw[H7 F9,o9,H7 F9,o9,H7 F9,o9,H7 F9,o9,H7 F9,o9,hov,o9];generalize hA:[105,110,115,101,114,116,32]++a.2.2.1++[32]++a.2.2.2.1++[32,111,102,32]++a.2.2.2.2.1++ovT a=A at*;have lA:A.length<=500:=by rw[←hA];simp;omega
  have hpr:(l7 (G6 (x9 a.2.2.2.2.2.2.1 0)) (l9 (some (Lib.itoa a.2.2.2.2.2.2.1)) λ(x:d2g)=>l9 (O0 [32,112,114,105,111,32] x) λ(x:d2g)=>l9 (O0 A x) λ(x:d2g)=>some x) (some A))=some (A++prT a):=by
   unfold prT;cases x9 a.2.2.2.2.2.2.1 0
   .simp only[V7,o7,o9];rw[H7 F9,o9,H7 F9,o9]
   .simp
  rw[hpr,o9,o9,H7 F9,o9,H7 F9,o9];have hB:A++prT a++([32,102,114,111,109,32]++W9 a.2.1)=hdT a:=by rw[←hA];unfold hdT;simp only[E5]
  rw[hB];have tail:∀p:d2g,p.length<=200000->(l9 (some (vt,vc)) λ(x:d2g×Int)=>
                   l7 (G6 (x9 x.2 0)) (some (([]:d2g),x.2))
                    (l9 (O0 [32,105,115,32] x.1) λ(x:d2g)=>
                     l9 (O0 p x) λ(x:d2g)=>
                      l7 (G6 (seq a.2.2.2.2.2.2.2.2.2.1 []))
                       (l9 (O0 [32,115,114,99,32,34] a.2.2.2.2.2.2.2.2.2.1)
                        λ(x_14:d2g)=>
                        l9 (O0 x_14 [34]) λ(x_15:d2g)=>
                         l9 (O0 x x_15) λ(x:d2g)=>some (x,(0:Int)))
                       (some (x,0))))=some (isT a p (nmS l s))/\(isT a p (nmS l s)).1.length<=400000:=λp hp=>by
   unfold isT;rw[hV];simp only[o9];cases x9 vc 0
   .exact⟨rfl,A7⟩
   .simp only[G8,o6];rw[H7 F9,o9,H7 F9,o9];refine⟨?_,by simp;omega⟩;unfold srT;cases seq a.2.2.2.2.2.2.2.2.2.1 []
    .simp only[V7,o7];rw[H7 F9,o9,H7 F9,o9,H7 F9,o9];simp only[E5]
    .simp
  cases H5 0 (x8 a.2.2.2.2.2.2.2.1)
  .simp only[o6];exact tail _ o5
  .simp only[o7,o9];cases x9 gc 0
   .exact⟨rfl,A7⟩
   .simp only[G8,o6];rw[H7 F9,o9,H7 F9,o9];rw[show hdT a++([32,119,104,101,110,32]++gt)=hdT a++[32,119,104,101,110,32]++gt from(E5 _ _ _).symm];exact tail _ F9
theorem a4p(hw:AmW a)(hf:AmF a)(hi:AmI a)(hp0:0<=a.2.2.2.2.2.2.1):yM l a=some (Yh l a):=by
 have hd5:=lW a.2.1;have h6:=Dp hw.pr;have hh:=a5L hw hi;have h1:=hi.s;have h2:=hi.n;have h3:=hi.f;have h4:=hi.p;have hs2:=hf.s;unfold yM Yh;rw[a2f _ (by have:=hS.few.2.2;omega),o9];rcases Jc l.2.2 (λ(s:V6)=>s.1) a.2.2.1 with e|⟨i,s,e,-,-,QE,hm⟩
 .rw[e];have:J9 l.2.2 (-1)=none:=Fj (.inl rfl);rw[this];rfl
 .rw[QE,X5 (by rw[e];omega),o6,Zg hF.n QE,o9];have hN:=b6K hF.n hm;simp only;rw[a6y hN hw.g,a6y hN hw.v,rU hw.pr,wH];have lg:=Vf hN hw.g;have lv:=Vf hN hw.v;generalize qG a.2.2.2.2.2.2.2.1 (nmS l s)=G at*;obtain⟨gt,gc⟩:=G;generalize hV:qG a.2.2.2.2.2.2.2.2.1 (nmS l s)=V at*;obtain⟨vt,vc⟩:=V;simp only at lg lv;have hov:(l7 (G6 (seq a.2.2.2.2.2.1 [])) (l9 (O0 ([105,110,115,101,114,116,32]++a.2.2.1++[32]++a.2.2.2.1++[32,111,102,32]++a.2.2.2.2.1) [32,111,118,101,114,32]) λ(x:d2g)=>l9 (O0 x a.2.2.2.2.2.1) λ(x:d2g)=>some x)
    (some ([105,110,115,101,114,116,32]++a.2.2.1++[32]++a.2.2.2.1++[32,111,102,32]++a.2.2.2.2.1)))=some ([105,110,115,101,114,116,32]++a.2.2.1++[32]++a.2.2.2.1++[32,111,102,32]++a.2.2.2.2.1++ovT a):=by
   unfold ovT;cases seq a.2.2.2.2.2.1 []
   .simp only[V7,o7];rw[H7 F9,o9,H7 F9,o9];simp only[E5]
   .simp
  have lov:(ovT a).length<=90:=by unfold ovT;cases seq a.2.2.2.2.2.1 []<;>simp<;>omega
  have lpr:(prT a).length<=30:=by unfold prT;cases x9 a.2.2.2.2.2.2.1 0<;>simp<;>omega
  rw[H7 F9,o9,H7 F9,o9,H7 F9,o9,H7 F9,o9,H7 F9,o9,hov,o9];generalize hA:[105,110,115,101,114,116,32]++a.2.2.1++[32]++a.2.2.2.1++[32,111,102,32]++a.2.2.2.2.1++ovT a=A at*;have lA:A.length<=500:=by rw[←hA];simp;omega
  have hpr:(l7 (H5 0 a.2.2.2.2.2.2.1) (l9 (O0 A [32,112,114,105,111,32]) λ(x:d2g)=>l9 (some (Lib.itoa a.2.2.2.2.2.2.1)) λ(x_7:d2g)=>l9 (O0 x x_7) λ(x:d2g)=>some x) (some A))=some (A++prT a):=by
   unfold prT;rw[a7T hp0];cases H5 0 a.2.2.2.2.2.2.1
   .simp
   .simp only[o7,o9];rw[H7 F9,o9,H7 F9,o9];simp only[E5]
  rw[hpr,o9,H7 F9,o9,o9,H7 F9,o9];have hB:A++prT a++[32,102,114,111,109,32]++W9 a.2.1=hdT a:=by rw[←hA];unfold hdT;simp only[E5]
  rw[hB];have tail:∀p:d2g,p.length<=200000->(l9 (some (vt,vc)) λ(x:d2g×Int)=>
                   l7 (G6 (x9 x.2 0)) (some (([]:d2g),x.2))
                    (l9 (O0 p [32,105,115,32]) λ(x_14:d2g)=>
                     l9 (O0 x_14 x.1) λ(x:d2g)=>
                      l7 (G6 (seq a.2.2.2.2.2.2.2.2.2.1 []))
                       (l9 (O0 x [32,115,114,99,32,34]) λ(x:d2g)=>
                        l9 (O0 x a.2.2.2.2.2.2.2.2.2.1) λ(x:d2g)=>
                         l9 (O0 x [34]) λ(x:d2g)=>some (x,(0:Int)))
                       (some (x,0))))=some (isT a p (nmS l s)):=λp hp=>by
   unfold isT;rw[hV];simp only[o9];cases x9 vc 0
   .rfl
   .simp only[G8,o6];rw[H7 F9,o9,H7 F9,o9];unfold srT;cases seq a.2.2.2.2.2.2.2.2.2.1 []
    .simp only[V7,o7];rw[H7 F9,o9,H7 F9,o9,H7 F9,o9];simp only[E5]
    .simp
  cases H5 0 (x8 a.2.2.2.2.2.2.2.1)
  .simp only[o6];exact tail _ o5
  .simp only[o7,o9];cases x9 gc 0
   .rfl
   .simp only[G8,o6];rw[H7 F9,o9,H7 F9,o9];exact tail _ F9
end
end
section
def rwT(a:F5)(lo hi:d2g):d2g:=a.2.2.2.2.2.2.2.2.2.2.1++[32,102,114,111,109,32]++W9 a.2.1++[32]++lo++[32]++hi
def rwE(l:V4)(t:dm)(a:F5)(lo hi:d2g):d2g×Int:=
 l7 (x9 a.1 4) ([114,101,112,101,97,108,114,111,119,32]++rwT a lo hi,0)
  (l7 (G6 (x9 (vfS a.2.2.2.2.2.2.2.2.2.2.2.2.2.2 t.2.2.1 l.1).2 0)) ([],(vfS a.2.2.2.2.2.2.2.2.2.2.2.2.2.2 t.2.2.1 l.1).2)
   ([105,110,115,101,114,116,114,111,119,32]++rwT a lo hi++[32]++(vfS a.2.2.2.2.2.2.2.2.2.2.2.2.2.2 t.2.2.1 l.1).1,0))
def Iq(l:V4)(a:F5):d2g×Int:=
 match J9 l.2.1 (nmI l.2.1 (λ(s:dm)=>s.1) a.2.2.2.2.2.2.2.2.2.2.1)with
 |none=>([],6)|some t=>l7 (G6 (x9 (vfS a.2.2.2.2.2.2.2.2.2.2.2.2.1 t.2.1 l.1).2 0)) ([],(vfS a.2.2.2.2.2.2.2.2.2.2.2.2.1 t.2.1 l.1).2)
   (l7 (G6 (x9 a.2.2.2.2.2.2.2.2.2.2.2.2.2.1 (E9 .i64 (bnd t.2.1 l.1).2 1)))
    (l7 (G6 (x9 (vfS a.2.2.2.2.2.2.2.2.2.2.2.2.2.1 t.2.1 l.1).2 0)) ([],(vfS a.2.2.2.2.2.2.2.2.2.2.2.2.2.1 t.2.1 l.1).2) (rwE l t a (vfS a.2.2.2.2.2.2.2.2.2.2.2.2.1 t.2.1 l.1).1 (vfS a.2.2.2.2.2.2.2.2.2.2.2.2.2.1 t.2.1 l.1).1))
    (rwE l t a (vfS a.2.2.2.2.2.2.2.2.2.2.2.2.1 t.2.1 l.1).1 [101,110,100]))
def b0E(a:F5):d2g:=[114,101,112,101,97,108,32]++a.2.2.1++[32]++a.2.2.2.1++[32,102,114,111,109,32]++W9 a.2.1
def mf(l:V4)(a:F5):d2g×Int:=
 l7 (H5 a.1 1) ([],1) (l7 (H5 4 a.1) ([],1) (l7 (unS a) ([],2) (l7 (G6 (wnS a)) ([],2)
  (l7 (H5 a.2.1 0) ([],3) (l7 (H5 109572 a.2.1) ([],3) (l7 (H5 a.2.2.2.2.2.2.1 0) ([],3) (l7 (H5 9 a.2.2.2.2.2.2.1) ([],3)
   (l7 (x9 a.1 1) (Yh l a) (l7 (x9 a.1 2) (b0E a,0) (Iq l a))))))))))
variable {a:F5}
section
variable {l:V4} (hS:SmL l) (hF:FmL l)
include hS hF
theorem b0L(hw:AmW a)(ht:a.2.2.2.2.2.2.2.2.2.2.1.length<=80):zl l a=some (Iq l a)/\Dh l a=some (Iq l a)/\(Iq l a).1.length<=400000:=by
 have hd5:=lW a.2.1;have hE:=a3H hF;unfold zl Dh Iq;rw[Pm _ (by have:=hS.few.2.1;omega),a2g _ (by have:=hS.few.2.1;omega),o9,o9];rcases Jc l.2.1 (λ(s:dm)=>s.1) a.2.2.2.2.2.2.2.2.2.2.1 with e|⟨i,t,e,-,-,QE,hm⟩
 .rw[e];have:J9 l.2.1 (-1)=none:=Fj (.inl rfl);rw[this];exact⟨rfl,rfl,A7⟩
 .rw[QE,X5 (by rw[e];omega),o6,o6,o9,o9];simp only;obtain⟨p1,r1,l1⟩:=b3d (l:=l) hE (t:=t.2.1) hw.lo;obtain⟨p2,r2,l2⟩:=b3d (l:=l) hE (t:=t.2.1) hw.hi;obtain⟨p3,r3,l3⟩:=b3d (l:=l) hE (t:=t.2.2.1) hw.rn;rw[p1,p2,p3,r1,r2,r3,BX,JP];unfold rwE;generalize vfS a.2.2.2.2.2.2.2.2.2.2.2.2.1 t.2.1 l.1=A at*;generalize vfS a.2.2.2.2.2.2.2.2.2.2.2.2.2.1 t.2.1 l.1=B at*;generalize vfS a.2.2.2.2.2.2.2.2.2.2.2.2.2.2 t.2.2.1 l.1=C at*;obtain⟨A1,A2⟩:=A;obtain⟨B1,B2⟩:=B;obtain⟨C1,C2⟩:=C;simp only at l1 l2 l3;simp only[o9];cases x9 A2 0
  .exact⟨rfl,rfl,A7⟩
  simp only[G8,o6];have tailP:∀hi:d2g,hi.length<=100->
    (l9 (O0 a.2.2.2.2.2.2.2.2.2.2.1 [32,102,114,111,109,32]) λ(x_3:d2g)=>
         l9 (sZ a.2.1) λ(x_4:d2g)=>
          l9 (O0 x_3 x_4) λ(x_5:d2g)=>
           l9 (O0 x_5 [32]) λ(x_6:d2g)=>
            l9 (O0 x_6 A1) λ(x_7:d2g)=>
             l9 (O0 x_7 [32]) λ(x_8:d2g)=>
              l9 (O0 x_8 hi) λ(x_9:d2g)=>
               l7 (x9 a.1 4)
                (l9 (O0 [114,101,112,101,97,108,114,111,119,32] x_9)
                 λ(x:d2g)=>some (x,(0:Int)))
                (l7 (G6 (x9 C2 0)) (some ([],C2))
                  (l9 (O0 [105,110,115,101,114,116,114,111,119,32] x_9)
                   λ(x_10:d2g)=>
                   l9 (O0 x_10 [32]) λ(x_11:d2g)=>
                    l9 (O0 x_11 C1) λ(x:d2g)=>some (x,(0:Int)))))=
    some (l7 (x9 a.1 4) ([114,101,112,101,97,108,114,111,119,32]++rwT a A1 hi,0) (l7 (G6 (x9 C2 0)) ([],C2) ([105,110,115,101,114,116,114,111,119,32]++rwT a A1 hi++[32]++C1,0)))/\
    (l7 (x9 a.1 4) ([114,101,112,101,97,108,114,111,119,32]++rwT a A1 hi,(0:Int)) (l7 (G6 (x9 C2 0)) ([],C2) ([105,110,115,101,114,116,114,111,119,32]++rwT a A1 hi++[32]++C1,0))).1.length<=400000:=λhi hh=>by
   have lr:(rwT a A1 hi).length<=500:=by unfold rwT;simp;omega
   rw[H7 F9,o9,oJ,o9,H7 F9,o9,H7 F9,o9,H7 F9,o9,H7 F9,o9,H7 F9,o9];rw[show a.2.2.2.2.2.2.2.2.2.2.1++[32,102,114,111,109,32]++W9 a.2.1++[32]++A1++[32]++hi=rwT a A1 hi from rfl];cases x9 a.1 4
   .simp only[o6];cases x9 C2 0
    .exact⟨rfl,A7⟩
    .simp only[G8,o6];rw[H7 F9,o9,H7 F9,o9,H7 F9,o9];exact⟨rfl,by simp;omega⟩
   .simp only[o7];rw[H7 F9,o9];exact⟨rfl,by simp;omega⟩
  have hdf:sZ a.2.1=tX a.2.1:=by rw[oJ,wH]
  cases x9 a.2.2.2.2.2.2.2.2.2.2.2.2.2.1 (E9 .i64 (bnd t.2.1 l.1).2 1)
  .simp only[V7,o7];cases x9 B2 0
   .exact⟨rfl,rfl,A7⟩
   .simp only[G8,o6,o9,X8];obtain⟨q1,q2⟩:=tailP B1 l2;refine⟨q1,?_,q2⟩;rw[←hdf];exact q1
  .simp only[G8,o6,o9,X8];obtain⟨q1,q2⟩:=tailP [101,110,100] A7;refine⟨q1,?_,q2⟩;rw[←hdf];exact q1
theorem a7v(hw:AmW a)(hf:AmF a):yu l a=some (mf l a)/\JW l a=some (mf l a)/\(mf l a).1.length<=400000:=by
 have hd5:=lW a.2.1;unfold yu JW mf;rw[p_,a0B hw hf];cases g1:H5 a.1 1
 case true=>exact⟨rfl,rfl,A7⟩
 cases g2:H5 4 a.1
 case true=>exact⟨rfl,rfl,A7⟩
 have k1:=nM.1 g1;have k4:=nM.1 g2;rw[b0I k1 k4,Yn hw hf k1 k4];simp only[o6,o9,X8];cases unS a
 case true=>exact⟨rfl,rfl,A7⟩
 simp only[o6,Bool.not_false,G8,o9];cases hn:wnS a
 .exact⟨rfl,rfl,A7⟩
 simp only[G8,o6,o9,X8];cases H5 a.2.1 0
 case true=>exact⟨rfl,rfl,A7⟩
 cases H5 109572 a.2.1
 case true=>exact⟨rfl,rfl,A7⟩
 cases g3:H5 a.2.2.2.2.2.2.1 0
 case true=>exact⟨rfl,rfl,A7⟩
 cases H5 9 a.2.2.2.2.2.2.1
 case true=>exact⟨rfl,rfl,A7⟩
 have hp0:=nM.1 g3;simp only[o6,o9,X8];unfold wnS at hn;unfold uq;cases h1:x9 a.1 1
 .cases h2:x9 a.1 2
  .rw[h1,h2]at hn;have hid:gz a.2.2.2.2.2.2.2.2.2.2.1=true:=hn;obtain⟨r1,r2,r3⟩:=b0L hS hF hw (Ec hid);have hk:(l7 (x9 a.1 3) (some true) (some (x9 a.1 4)))=some true:=by
    have e1:=qh.1 h1;have e2:=qh.1 h2;have:∀k:Int,1<=k->k<=4->k≠1->k≠2->k=3\/k=4:=λk a b c d=>by omega
    rcases this a.1 k1 k4 e1 e2 with e|e<;>rw[e]<;>rfl
   rw[hk];simp only[o9,o7,o6,r1,r2];exact⟨by first|trivial|rfl,by first|trivial|rfl,r3⟩
  .rw[h1,h2]at hn;have hk:(l7 (x9 a.1 3) (some true) (some (x9 a.1 4)))=some false:=by rw[Z8.1 h2];rfl
   rw[hk];simp only[o7,o6,A8]at hn;have i1:=Ec hn.1;have i2:=Ec hn.2;simp only[o9,o7,o6];refine⟨?_,?_,by unfold b0E;simp;omega⟩
   .rw[H7 F9,o9,H7 F9,o9,H7 F9,o9,H7 F9,o9,oJ,o9,H7 F9,o9];rfl
   .rw[H7 F9,o9,H7 F9,o9,H7 F9,o9,H7 F9,o9,wH,o9,H7 F9,o9];rfl
 .rw[h1]at hn;have hk:(l7 (x9 a.1 3) (some true) (some (x9 a.1 4)))=some false:=by rw[Z8.1 h1];rfl
  rw[hk];simp only[o7,A8,gJ]at hn;obtain⟨⟨⟨⟨n1,n2⟩,n3⟩,n4⟩,n5⟩:=hn;have hi:AmI a:=⟨Ec n1,Ec n2,Ec n3,n4.elim (λe=>by rw[ja.1 e];simp) Ec⟩;obtain⟨p1,p2⟩:=a7s hS hF hw hf hi;simp only[o9,o7,o6,p1,a4p hS hF hw hf hi hp0];exact⟨by first|trivial|rfl,by first|trivial|rfl,p2⟩
end
def a0N(l:V4)(b:d2g)(a:F5):d2g⊕(d2g×Int):=l7 (x9 (mf l a).2 0) (.inl (b++(mf l a).1++[10])) (.inr ([],(mf l a).2))
def b6h(l:V4)(act:List F5):d2g×Int:=l7 (x9 (mY l).1 0) (match mZ (a0N l) act []with| .inl y=>l7 (H5 65536 (x8 y)) ([],4) (y,0)| .inr r=>r) ([],1)
theorem YI{l:V4} :∀(act:List F5) (b c:d2g),(b=c\/(65536<b.length/\65536<c.length))->
  (match mZ (λ(b:d2g) (a:F5)=>(l7 (x9 (mf l a).2 0) (.inl (l7 (P7 (x8 b) 65536) (b++(mf l a).1++[10]) b)) (.inr ([],(mf l a).2)):d2g⊕(d2g×Int))) act b with| .inl y=>l7 (H5 65536 (x8 y)) ([],4) (y,0)| .inr r=>r)=
  (match mZ (a0N l) act c with| .inl y=>l7 (H5 65536 (x8 y)) ([],4) (y,0)| .inr r=>r)
 |[],b,c,h=>by
  rcases h with rfl|⟨h1,h2⟩
  .rfl
  .unfold mZ;simp only;rw[bT (by unfold x8;omega),bT (by unfold x8;omega)];rfl
 |a::act,b,c,h=>by
  unfold mZ a0N;cases x9 (mf l a).2 0
  .rfl
  .simp only[o7];refine YI act _ _ ?_;rcases h with rfl|⟨h1,h2⟩
   .cases g:P7 (x8 b) 65536
    .right;have:=Tc.1 g;unfold x8 at this;simp only[o6,C9,D5,I8];omega
    .exact .inl rfl
   .right;rw[dO (by unfold x8;omega)];simp only[o6,C9,D5,I8];omega
section
variable {l:V4} (hS:SmL l) (h:(mY l).1=0->FmL l) {act:List F5} (hl:act.length<=8) (hw:∀a∈act,AmW a) (hf:∀a∈act,AmF a)
include hS h hl hw hf
theorem a3b:yl l act=some (b6h l act):=by
 unfold yl b6h;rw[UQ hS,o9];cases g:x9 (mY l).1 0
 .rfl
 .have hv:=Z8.1 g;rw[c8N hv];have hF:=h hv;show(l9 _ _)=_;rw[o7];refine FD act (λ(b:d2g) (a:F5)=>(l7 (x9 (mf l a).2 0) (.inl (l7 (P7 (x8 b) 65536) (b++(mf l a).1++[10]) b)) (.inr ([],(mf l a).2)):d2g⊕(d2g×Int))) (λb i=>(b,i)) (λb=>b) (λi b=>b.length<=i*400001) [] o5 A7 (λi a b ha hi hb=>?_) (λb hb=>by simp only[af,o6]) (λhq=>?_)
  .have hlt:=(aV.1 ha).1;obtain⟨p1,-,p3⟩:=a7v hS hF (hw a (zg ha)) (hf a (zg ha));simp only[X9 ha,o7,U8,ha,o9,p1];cases x9 (mf l a).2 0
   .exact⟨rfl,λb' e=>by cases e⟩
   .simp only[G8,o6,o7];unfold Ir;rw[o9];have hm:i*400001<=8*400001:=J4 _ o5;refine⟨?_,λb' e=>?_⟩
    .simp only[show((b.length:Nat):Int)=x8 b from rfl];cases P7 (x8 b) 65536
     .simp only[o6];rw[fF o5]
     .simp only[o7];rw[b6p o5,o9];simp only;rw[b6m F9,o9,fF o5]
    .have e:=Sum.inl.inj e;rw[←e];cases P7 (x8 b) 65536
     .rw[o6,N8,aQ];exact Y4 hb (jl _ _)
     .rw[o7,N8,aQ,C9,C9,show([10]:d2g).length=1 from rfl,iU];exact Nat.add_le_add hb o5
  .have hc:=YI (l:=l) act [] [] (.inl rfl);rw[←hc];generalize hz:mZ (λ(b:d2g) (a:F5)=>(l7 (x9 (mf l a).2 0) (.inl (l7 (P7 (x8 b) 65536) (b++(mf l a).1++[10]) b)) (.inr ([],(mf l a).2)):d2g⊕(d2g×Int))) act []=z at*;cases z with
   |inr r=>rfl|inl y=>have hy:=hq y rfl;have hm:act.length*400001<=8*400001:=J4 _ hl;simp only[X8,o9];unfold Ir;rw[o9];simp only[show((y.length:Nat):Int)=x8 y from rfl];rw[b6o o5];cases H5 65536 (x8 y)<;>rfl
end
def a3c(a:F5):Bool:=l7 (H5 60 (x8 a.2.2.2.2.2.2.2.1)) false (l7 (H5 60 (x8 a.2.2.2.2.2.2.2.2.1)) false (G6 (H5 200 (x8 a.2.2.2.2.2.2.2.2.2.1))))
theorem b3n(h:a3c a=true):AmF a:=by
 unfold a3c at h;obtain⟨h1,h⟩:=Ef h;obtain⟨h2,h⟩:=Ef h;have h3:H5 200 (x8 a.2.2.2.2.2.2.2.2.2.1)=false:=by revert h;cases H5 200 (x8 a.2.2.2.2.2.2.2.2.2.1)<;>intro h<;>first|rfl|cases h
 exact⟨fA (n:=60) h1,fA (n:=60) h2,fA (n:=200) h3⟩
theorem b6v(act:List F5):∃b,EK act=some b/\(b=true->act.length<=8/\∀a∈act,AmF a):=by
 unfold EK;have key:=FH (f:=λ(x:Int)=>
   l7 (H5 x (x8 act))
    (l7 (H5 x 12)
     (l9 (J9 act x) λ(x_1:F5)=>
      l7 (H5 60 (x8 x_1.2.2.2.2.2.2.2.1)) (some (Out.rt false))
       (l9 (J9 act x) λ(x_2:F5)=>
        l7 (H5 60 (x8 x_2.2.2.2.2.2.2.2.2.1)) (some (Out.rt false))
         (l9 (J9 act x) λ(x_3:F5)=>
          l7 (H5 200 (x8 x_3.2.2.2.2.2.2.2.2.2.1)) (some (Out.rt false))
           (some (Out.nx (E9 IntKind.i64 x 1))))))
     (some (Out.ex PUnit.unit)))
    (some (Out.ex PUnit.unit))) (s:=0) (λx=>∃i:Nat,x=(i:Int)/\i<=12/\i<=act.length/\∀a∈act.take i,a3c a=true) (λ_=>act.length<=8->∀a∈act,a3c a=true) (λr=>r=false) (λx=>12 -x.toNat)
  ⟨0,rfl,o5,o5,A7⟩ A7 ?_
 .rcases key with⟨e,k1,k2⟩|⟨r,k1,k2⟩
  .refine⟨P7 (x8 act) 8,V5 k1 rfl,λhb=>?_⟩;have hl:act.length<=8:=by have:=uF.1 hb;unfold x8 at this;omega
   exact⟨hl,λa ha=>b3n (k2 hl a ha)⟩
  .exact⟨r,V5 k1 rfl,λhb=>by rw[k2]at hb;cases hb⟩
 .rintro x ⟨i,rfl,h1,h2,h3⟩;by_cases hi:i<act.length
  .by_cases h12:i<12
   .have e:=qi hi;simp only[X9 e,o7,bT (show(i:Int)<12 by omega),U8,e,o9];cases g:a3c act[i]
    .right;right;refine⟨false,?_,rfl⟩;unfold a3c at g;cases g1:H5 60 (x8 act[i].2.2.2.2.2.2.2.1)<;>rw[g1]at g
     .cases g2:H5 60 (x8 act[i].2.2.2.2.2.2.2.2.1)<;>rw[g2]at g
      .cases g3:H5 200 (x8 act[i].2.2.2.2.2.2.2.2.2.1)<;>rw[g3]at g
       .cases g
       .rfl
      .rfl
     .rfl
    .left;refine⟨((i+1:Nat):Int),?_,⟨i+1,rfl,h12,hi,λa ha=>?_⟩,by simp;omega⟩
     .unfold a3c at g;obtain⟨g1,g⟩:=Ef g;obtain⟨g2,g⟩:=Ef g;have g3:H5 200 (x8 act[i].2.2.2.2.2.2.2.2.2.1)=false:=by revert g;cases H5 200 (x8 act[i].2.2.2.2.2.2.2.2.2.1)<;>intro g<;>first|rfl|cases g
      rw[g1,g2,g3,fF o5];rfl
     .rw[aB hi]at ha;rcases J6.1 ha with ha|ha
      .exact h3 a ha
      .rw[jy.1 ha];exact g
   .right;left;refine⟨PUnit.unit,?_,λhl=>by omega⟩;rw[bT (show(i:Int)<x8 act by unfold x8;omega),X5 (show(12:Int)<=(i:Int) by omega)];rfl
  .right;left;have:i=act.length:=o5;subst this;rw[dW]at h3;exact⟨PUnit.unit,by rw[af];rfl,λ_=>h3⟩
theorem a3e:je=some true:=by decide+kernel
theorem a8R{N:E8}{e:List (Int×Int)}(hN:NmOk N)(hD:NmD N)(hI:∀n∈e,jg n.2)(h:(qG e N).2=0):ExT (qG e N).1 e N:=by
 have hf0:qG e N=((qG e N).1,0):=by rw[←h]
 cases hs:kP e with
 |inl x=>unfold qG at h;rw[hs]at h;exact absurd h (yf hs)|inr T=>
  obtain⟨hp,-⟩:=oQ hs;have hw:=EO hs;have hff:ffS N e=0:=by
   unfold qG at h;rw[hs]at h;simp only at h;cases g:x9 (ffS N e) 0<;>rw[g]at h
   .exact h
   .exact Z8.1 g
  have hI' :∀n∈T.post,jg n.2:=hp▸hI;have hz:∀n∈T.post,flS n N=0:=by rw[←hp];exact QA hff
  have hf:qG e N=((gW N T).1,0):=by unfold qG;rw[hs];simp only;rw[O9 hff];rfl
  have hfl:=En T hw hI' hz;have hws:=QI hD.id T hw hI' hz;have hpt:=JO hD.id T hw hI' hz;have hpr:=b6x hN hD hI (by rw[hf]);rw[hf]at hpr;rw[hf];refine⟨λhl=>a9N hN hD hI (by rw[hf]) hl,hpr.1,hpr.2,λx=>?_,?_⟩
  .simp only;rw[←hfl];exact m_ _ x (hws.ws _ (rZ D9 _)) hpt
  .simp only;rw[←hfl];exact l_ _ hpt
theorem b3c{n:Int}{t:Int×Int}{E:List aP}(hW:EnW E)(hv:vty t E=true)(hI:jg n)(h:(vfS n t E).2=0):inB n (bnd t E)=true/\(vfS n t E).1=vaT n t E:=by
 have hin:inB n (bnd t E)=true:=by
  cases g:inB n (bnd t E)
  .exfalso;have hw:gV n (t.1,t.2) E=some false:=by
    unfold gV;rw[BX,o9];show l7 (P7 (bnd t E).1 n) (some (P7 n (bnd t E).2)) (some false)=some false;unfold inB at g;cases g1:P7 (bnd t E).1 n<;>rw[g1]at g
    .rfl
    .exact congrArg some g
   unfold vfS dU at h;rw[show bu (t.1,t.2) E=some true by rw[qP];exact congrArg some hv,o9]at h;simp only[G8,o6]at h;rw[hw,o9]at h;exact absurd (show(3:Int)=0 from h) D9
  .rfl
 refine⟨hin,?_⟩;have:=a5n hW hv hin hI;unfold vaS at this;exact this
def pW(l:V4):List d2g->I5
 |[]=>(l,[],true)|w::ws=>(l,w++spW ws,false)
variable {l:V4}{w:d2g}
theorem rY(h:WdB w)(ws:List d2g)(hl:(w++spW ws).length<=1000000000):U5 (pW l (w::ws))=some (w,pW l ws):=by
 unfold U5 pW N9;simp only[V7,G8,o6,o9];cases ws with
 |nil=>rw[show w++spW []=w by simp[spW]]at hl ⊢;rw[a8G A7 (QD h.nb) hl,o9,vY.2 h.ne];rfl|cons v ws=>
  have e:w++spW (v::ws)=w++([32]++(v++spW ws)):=by rw[lL];rfl
  rw[e]at hl ⊢;rw[ZY A7 (QD h.nb) hl,o9,vY.2 h.ne];rfl
theorem JL(h:gz w=true)(ws:List d2g)(hl:(w++spW ws).length<=1000000000):iJ (pW l (w::ws))=some (w,pW l ws):=by unfold iJ;have hle:=Ec h;rw[rY (a2T h) ws hl,o9];simp only;rw[pY (s:=w) o5,o9,h];rfl
theorem L_{d:Int}(h0:0<=d)(h1:d<=109572)(ws:List d2g)(hl:(W9 d++spW ws).length<=1000000000):lV (pW l (W9 d::ws))=some (d,pW l ws):=by unfold lV;rw[rY (Oo h0 h1).1 ws hl,o9,Jr h0 h1,o9];rfl
theorem a3n(h:∀x∈w,x≠32):w.count 32=0:=List.count_eq_zero.2 λhm=>h 32 hm rfl
theorem a3o:∀(ws:List d2g),(∀w∈ws,∀x∈w,x≠32)->(spW ws).count 32=ws.length
 |[],_=>rfl|w::ws,h=>by rw[lL,I7,List.count_cons_self,List.count_append,a3n (h w A7),a3o ws (λv hv=>h v (by simp[hv]))];simp
variable {f:d2g}{ws:List d2g}
theorem VU(hf:∀x∈f,x≠32)(h:∀w∈ws,∀x∈w,x≠32):BR (f++spW ws) [32]=some (ws.length:Int):=by show some (((f++spW ws).count 32:Nat):Int)=_;rw[List.count_append,a3n hf,a3o ws h,dR]
theorem Zy:∀(ws:List d2g) (f:d2g),(∀x∈f,x≠32)->(∀w∈ws,∀x∈w,x≠32)->Lib.splitK [32] 0 ws.length (f++spW ws)=f::ws
 |[],f,hf,h=>by rw[show f++spW []=f by simp[spW]];rfl|w::ws,f,hf,h=>by
  have e:f++spW (w::ws)=f++([32]++(w++spW ws)):=by rw[lL];rfl
  rw[e];have hi:=n_ (sub:=[32]) A7 (QD hf) (a:=f) (x:=w++spW ws);rw[D5];unfold Lib.splitK;rw[hi];have:((((f.length:Nat):Int))==-1)=false:=by rw[beq_eq_false_iff_ne];omega
  rw[this];simp only[iD,if_false,J7,bH];rw[aI];congr 1;rw[show f.length+([32]:d2g).length=(f++[32]).length by simp,←E5,X4];exact Zy ws w (h w A7) (λv hv=>h v (by simp[hv]))
theorem b2G(hf:∀x∈f,x≠32)(h:∀w∈ws,∀x∈w,x≠32)(hl:(f++spW ws).length<=1000000000):EF (f++spW ws) [32]=some (f::ws):=by unfold EF Lib.split;rw[if_pos ⟨o5,A7⟩,Lib.count_one];rw[List.count_append,a3n hf,a3o ws h,dR,Zy ws f hf h]
theorem SX(hf:∀x∈f,x≠32)(h:∀w∈ws,∀x∈w,x≠32)(hl:(f++spW ws).length<=1000000000){i:Nat}(hi:ws[i]? =some [102,114,111,109]):yw (f++spW ws) ((i+1:Nat):Int)=some true:=by
 unfold yw;rw[b2G hf h hl,o9];have e:(f::ws)[i+1]? =some [102,114,111,109]:=by rw[lq];exact hi
 have hlt:=(aV.1 e).1;rw[bT (show(((i+1:Nat)):Int)<x8 (f::ws) by unfold x8;omega),o7,U8,e,o9];rw[show ah (f::ws) (Y1 ((i+1:Nat):Int))=some [102,114,111,109]from e,o9];rfl
end
section
def a2R:d2g:=[114,101,112,101,97,108]
def a0z:d2g:=[105,110,115,101,114,116,114,111,119]
def Yr:d2g:=[114,101,112,101,97,108,114,111,119]
def jT:d2g:=[102,114,111,109]
theorem a7P(l:V4)(ws:List d2g):(pW l ws).1=l:=by cases ws<;>rfl
theorem Zm(a:F5):b0E a=a2R++spW [a.2.2.1,a.2.2.2.1,jT,W9 a.2.1]:=by unfold b0E a2R jT;simp[spW]
theorem qB{w:d2g}(h:w.all (λx=>decide (x≠32))=true):∀x∈w,x≠32:=λx hx=>by simpa using ax.1 h x hx
theorem JG(l:V4)(f:d2g)(ws:List d2g):((l,f++spW ws,false):I5)=pW l (f::ws):=rfl
theorem a7Y{l:V4}{a:F5}(hs:gz a.2.2.1=true)(hn:gz a.2.2.2.1=true)(d0:0<=a.2.1)(d1:a.2.1<=109572):
  jU l (b0E a)=some ((2,a.2.1,a.2.2.1,a.2.2.2.1,[],[],0,[],[],[],[],(0,0),0,0,0),0):=by
 have ls:=Ec hs;have ln:=Ec hn;have ld:=lW a.2.1;have hwd:=(Oo d0 d1).1;have hnb:∀w∈[a.2.2.1,a.2.2.2.1,jT,W9 a.2.1],∀x∈w,x≠32:=λw hw=>by
  simp only[D6,fM,or_false]at hw;rcases hw with rfl|rfl|rfl|rfl
  .exact(a2T hs).nb
  .exact(a2T hn).nb
  .exact qB D9
  .exact hwd.nb
 have hf:∀x∈a2R,x≠32:=qB D9;have hl:(a2R++spW [a.2.2.1,a.2.2.2.1,jT,W9 a.2.1]).length<=1000000000:=by simp[spW,a2R,jT];omega
 have wR:WdB a2R:=⟨D9,hf⟩;have wF:WdB jT:=⟨D9,qB D9⟩;rw[Zm];unfold jU;rw[VU hf hnb,o9,JG,rY wR _ hl,o9];rw[show seq a2R [105,110,115,101,114,116]=false from rfl,show seq a2R [114,101,112,101,97,108]=true from rfl,o6,o7];rw[show x9 (E9 IntKind.i64 ((([a.2.2.1,a.2.2.2.1,jT,W9 a.2.1]:List d2g).length:Nat):Int) 1) 5=true from rfl,o7];rw[show(3:Int)=((2+1:Nat):Int)from rfl,SX hf hnb hl (i:=2) rfl,o9];unfold N9;simp only[G8,o6,o9];unfold uB;rw[JL hs _ (by simp[spW,jT];omega),o9,JL hn _ (by simp[spW,jT];omega),o9,rY wF _ (by simp[spW,jT];omega),o9,L_ d0 d1 _ (by simp[spW];omega),o9];rfl
def hiW(n:Int)(t:Int×Int)(E:List aP):d2g:=l7 (G6 (x9 n (E9 .i64 (bnd t E).2 1))) (vaT n t E) [101,110,100]
theorem Xe{l:V4}{n:Int}{t:Int×Int}(ws:List d2g)(hW:EnW l.1)(hv:vty t l.1=true)(hn:inB n (bnd t l.1)=true)(hI:jg n):gX (pW l ws) (vaT n t l.1) t=some (n,pW l ws):=by unfold gX;rw[a7P,b5m hW hv hn hI,o9];rfl
section
variable {l:V4} (hS:SmL l) (hF:FmL l)
include hS hF
theorem a8a{T:d2g}{d lo hi n:Int}{t:dm}(hT:gz T=true)(ht:J9 l.2.1 (nmI l.2.1 (λ(s:dm)=>s.1) T)=some t)(d0:0<=d)(d1:d<=109572)
  (hlo:inB lo (bnd t.2.1 l.1)=true) (ilo:jg lo) (hhi:hi=E9 .i64 (bnd t.2.1 l.1).2 1\/inB hi (bnd t.2.1 l.1)=true) (ihi:jg hi) {k:Int} :
  (k=3->inB n (bnd t.2.2.1 l.1)=true->jg n->jY (pW l [T,jT,W9 d,vaT lo t.2.1 l.1,hiW hi t.2.1 l.1,vaT n t.2.2.1 l.1]) k=some ((3,d,[],[],[],[],0,[],[],[],T,(0,0),lo,hi,n),pW l []))/\
  (k=4->jY (pW l [T,jT,W9 d,vaT lo t.2.1 l.1,hiW hi t.2.1 l.1]) k=some ((4,d,[],[],[],[],0,[],[],[],T,(0,0),lo,hi,0),pW l [])):=by
 have hE:=a3H hF;have hW:=a8T hF;obtain⟨x0,x1,hm,-⟩:=qX ht;obtain⟨j,hj⟩:=Bh hm;have hV:=(ZC hF.v).2 j t hj;have lT:=Ec hT;have ld:=lW d;have wF:WdB jT:=⟨D9,qB D9⟩;have wlo:=(ZF hW hV.vk hlo ilo).1;have lva:∀{n:Int} {t:Int×Int},inB n (bnd t l.1)=true->vty t l.1=true->jg n->(vaT n t l.1).length<=100:=λhn hv hI=>by rw[←a5n hW hv hn hI];exact(a6K hI hE.m).1
 have llo:=lva hlo hV.vk ilo;have lF:jT.length=4:=rfl;have hh:WdB (hiW hi t.2.1 l.1)/\(hiW hi t.2.1 l.1).length<=100/\∀ws:List d2g,∀(K:Int->I5->Option (F5×I5)),
   l7 (seq (hiW hi t.2.1 l.1) [101,110,100]) (l9 (iW t.2.1 (pW l ws).1.1) λ(x_9:Int×Int)=>K (E9 IntKind.i64 x_9.2 1) (pW l ws)) (l9 (gX (pW l ws) (hiW hi t.2.1 l.1) t.2.1) λ(x_9:Int×I5)=>K x_9.1 x_9.2)=K hi (pW l ws):=by
  unfold hiW;cases g:x9 hi (E9 .i64 (bnd t.2.1 l.1).2 1)
  .simp only[V7,o7];have hin:inB hi (bnd t.2.1 l.1)=true:=hhi.elim (λe=>absurd e (qh.1 g)) id;refine⟨(ZF hW hV.vk hin ihi).1,lva hin hV.vk ihi,λws K=>?_⟩;rw[c8M hW hV.vk hin ihi,o6,Xe ws hW hV.vk hin ihi,o9]
  .simp only[G8,o6];refine⟨⟨D9,qB D9⟩,A7,λws K=>?_⟩;rw[show seq ([101,110,100]:d2g) [101,110,100]=true from rfl,o7,BX,o9,a7P,←Z8.1 g]
 obtain⟨whi,lhi,hK⟩:=hh;have key:∀(ws:List d2g),(spW ws).length<=1000->jY (pW l (T::jT::W9 d::vaT lo t.2.1 l.1::hiW hi t.2.1 l.1::ws)) k=
   l7 (x9 k 3) (l9 (U5 (pW l ws)) λ(x_10:d2g×I5)=>
             l9 (gX x_10.2 x_10.1 t.2.2.1)
              λ(x_11:Int×I5)=>
              some ((k,d,[],[],[],[],0,[],[],[],T,(0,0),lo,hi,x_11.1),x_11.2))
            (some ((k,d,[],[],[],[],0,[],[],[],T,(0,0),lo,hi,0),pW l ws)):=λws hws=>by
  unfold jY;rw[JL hT _ (by simp only[lL,C9,D5];omega),o9];simp only;rw[a7P,Pm _ (by have:=hS.few.2.1;omega),o9,X5 (show(0:Int)<=nmI l.2.1 (λ(s:dm)=>s.1) T from x0),o6,o9,a7P,ht,o9];rw[rY wF _ (by simp only[lL,C9,D5];omega),o9,L_ d0 d1 _ (by simp only[lL,C9,D5];omega),o9,
   rY wlo _ (by simp only[lL,C9,D5];omega),o9]
  simp only;rw[Xe _ hW hV.vk hlo ilo,o9,rY whi _ (by simp only[C9];omega),o9];simp only;have:=hK ws (λh p=>l7 (x9 k 3) (l9 (U5 p) λ(x_10:d2g×I5)=>
             l9 (gX x_10.2 x_10.1 t.2.2.1)
              λ(x_11:Int×I5)=>
              some ((k,d,[],[],[],[],0,[],[],[],T,(0,0),lo,h,x_11.1),x_11.2))
            (some ((k,d,[],[],[],[],0,[],[],[],T,(0,0),lo,h,0),p)))
  exact this
 refine⟨λhk hn hI=>?_,λhk=>?_⟩
 .rw[key _ (by have:=lva hn hV.vv hI;simp only[lL,C9,D5,show spW []=[]from rfl,I8];omega),hk];rw[show x9 (3:Int) 3=true from rfl,o7,rY (ZF hW hV.vv hn hI).1 _ (by have:=lva hn hV.vv hI;simp[spW];omega),o9];simp only;rw[Xe _ hW hV.vv hn hI,o9]
 .rw[key [] (by simp[spW]),hk];rfl
end
end
section
def a2O:d2g:=[105,110,115,101,114,116]
def wOf:d2g:=[111,102]
def a2P:d2g:=[111,118,101,114]
def a2Q:d2g:=[112,114,105,111]
def b3e:d2g:=[119,104,101,110]
def wIs:d2g:=[105,115]
def ovW(a:F5):List d2g:=l7 (seq a.2.2.2.2.2.1 []) [] [a2P,a.2.2.2.2.2.1]
def prW(a:F5):List d2g:=l7 (x9 a.2.2.2.2.2.2.1 0) [] [a2Q,Lib.itoa a.2.2.2.2.2.2.1]
def kwW(a:F5):d2g:=l7 (H5 0 (x8 a.2.2.2.2.2.2.2.1)) b3e wIs
def tlW(a:F5)(N:E8):d2g:=l7 (H5 0 (x8 a.2.2.2.2.2.2.2.1)) ((qG a.2.2.2.2.2.2.2.1 N).1++(sIs++((qG a.2.2.2.2.2.2.2.2.1 N).1++soT a.2.2.2.2.2.2.2.2.2.1))) ((qG a.2.2.2.2.2.2.2.2.1 N).1++soT a.2.2.2.2.2.2.2.2.2.1)
def inW(a:F5)(N:E8):List d2g:=[a.2.2.1,a.2.2.2.1,wOf,a.2.2.2.2.1]++(ovW a++(prW a++[jT,W9 a.2.1,kwW a,tlW a N]))
theorem c0f(a:F5):srT a=soT a.2.2.2.2.2.2.2.2.2.1:=by unfold srT soT;cases seq a.2.2.2.2.2.2.2.2.2.1 []<;>simp[a0a]
theorem a8W(a:F5):hdT a=a2O++spW ([a.2.2.1,a.2.2.2.1,wOf,a.2.2.2.2.1]++(ovW a++(prW a++[jT,W9 a.2.1]))):=by unfold hdT ovT prT ovW prW a2O wOf jT a2P a2Q;cases seq a.2.2.2.2.2.1 []<;>cases x9 a.2.2.2.2.2.2.1 0<;>simp[spW]
variable {l:V4}{a:F5}
theorem a7r{s:V6}(hs:J9 l.2.2 (nmI l.2.2 (λ(s:V6)=>s.1) a.2.2.1)=some s)(h:(Yh l a).2=0):
  (Yh l a).1=a2O++spW (inW a (nmS l s))/\(H5 0 (x8 a.2.2.2.2.2.2.2.1)=true->(qG a.2.2.2.2.2.2.2.1 (nmS l s)).2=0)/\(qG a.2.2.2.2.2.2.2.2.1 (nmS l s)).2=0:=by
 have hsp:spW (inW a (nmS l s))=spW ([a.2.2.1,a.2.2.2.1,wOf,a.2.2.2.2.1]++(ovW a++(prW a++[jT,W9 a.2.1])))++spW [kwW a,tlW a (nmS l s)]:=by unfold inW;simp[spW]
 rw[hsp,←E5,←a8W];unfold Yh isT at h ⊢;rw[hs]at h ⊢;simp only at h ⊢;rw[c0f];unfold kwW tlW;cases g:H5 0 (x8 a.2.2.2.2.2.2.2.1)<;>rw[g]at h
 .simp only[o6]at h ⊢;cases g2:x9 (qG a.2.2.2.2.2.2.2.2.1 (nmS l s)).2 0<;>rw[g2]at h
  .exact absurd h (qh.1 g2)
  .refine⟨?_,λe=>(by cases e),Z8.1 g2⟩;simp[spW,wIs]
 .simp only[o7]at h ⊢;cases g1:x9 (qG a.2.2.2.2.2.2.2.1 (nmS l s)).2 0<;>rw[g1]at h
  .exact absurd h (qh.1 g1)
  .simp only[G8,o6]at h ⊢;cases g2:x9 (qG a.2.2.2.2.2.2.2.2.1 (nmS l s)).2 0<;>rw[g2]at h
   .exact absurd h (qh.1 g2)
   .refine⟨?_,λe=>Z8.1 g1,Z8.1 g2⟩;simp[spW,b3e,sIs]
theorem b6s{s:d2g}(h:s.length<=1000):mG (s++[34]) [34]=some (s,true):=by
 have e1:N7 .i64 (x8 (s++[34])) (x8 ([34]:d2g))=(s.length:Int):=by rw[di (by unfold jg x8;simp;omega)];unfold x8;simp
 unfold mG pI pJ;rw[Z9 (by unfold x8;simp<;>omega),o7,e1,pK o5 (by simp<;>omega),o9,J7,X4,show seq [34] [34]=true from rfl,o9,G8,o6,Bg o5 (by simp<;>omega),o9,J7,aI];rfl
theorem b6S{p:Int}(h:0<=p)(hn:p≠0):1<=p:=o5
theorem UE(p:I5):N9 p true=some p:=rfl
def w_(N:E8)(x:I5×F5×d2g):Option (F5×I5):=
           l9 (N9 x.1 (seq x.2.2 [102,114,111,109])) λ(x_9:I5)=>
            l9 (lV x_9) λ(x_10:ZJ×I5)=>
             l9 (U5 x_10.2) λ(x_11:d2g×I5)=>
              l9
               (l7 (seq x_11.1 [119,104,101,110])
                (l9 (N9 x_11.2 (G6 x_11.2.2.2)) λ(x_12:I5)=>
                 l9 (yh x_12.2.1 [32,105,115,32])
                  λ(x_13:d2g×d2g×Bool)=>
                  l9 (N9 x_12 x_13.2.2) λ(x_14:I5)=>
                   l9 (kJ x_14 x_13.1 N)
                    λ(x_15:List D7×I5)=>
                    some
                     ((x_15.2.1,x_13.2.1,x_15.2.2.2),
                      (x.2.1.1,x_10.1,x.2.1.2.2.1,x.2.1.2.2.2.1,x.2.1.2.2.2.2.1,
                       x.2.1.2.2.2.2.2.1,x.2.1.2.2.2.2.2.2.1,x_15.1,x.2.1.2.2.2.2.2.2.2.2),
                      N))
                (l7 (seq x_11.1 [105,115])
                 (l9 (N9 x_11.2 (G6 x_11.2.2.2)) λ(x_12:I5)=>
                  some (x_12,(x.2.1.1,x_10.1,x.2.1.2.2),N))
                 (l9 (N9 x_11.2 false) λ(x_12:I5)=>
                  some (x_12,(x.2.1.1,x_10.1,x.2.1.2.2),N))))
               λ(x:I5×F5×E8)=>
               l9 (yh x.1.2.1 [32,115,114,99,32,34])
                λ(x_12:d2g×d2g×Bool)=>
                l9 (kJ x.1 x_12.1 x.2.2)
                 λ(x_13:List D7×I5)=>
                 l7 x_12.2.2
                  (l9 (qo x_13.2 x_12.2.1)
                   λ(x_14:d2g×I5)=>
                   some
                    ((x.2.1.1,x.2.1.2.1,x.2.1.2.2.1,x.2.1.2.2.2.1,x.2.1.2.2.2.2.1,
                      x.2.1.2.2.2.2.2.1,x.2.1.2.2.2.2.2.2.1,x.2.1.2.2.2.2.2.2.2.1,x_13.1,
                      x_14.1,x.2.1.2.2.2.2.2.2.2.2.2.2),
                     x_14.2))
                  (some
                   ((x.2.1.1,x.2.1.2.1,x.2.1.2.2.1,x.2.1.2.2.2.1,x.2.1.2.2.2.2.1,
                     x.2.1.2.2.2.2.2.1,x.2.1.2.2.2.2.2.2.1,x.2.1.2.2.2.2.2.2.2.1,x_13.1,
                     x.2.1.2.2.2.2.2.2.2.2.2),
                    x_13.2))
theorem a3C{l:V4}{e:List (Int×Int)}{N:E8}(h:ExT (qG e N).1 e N)(hl:(qG e N).1.length<=65536)(p:I5):kJ p (qG e N).1 N=some (e,p):=by unfold kJ;rw[h.p hl,o9];rfl
theorem b2Q{N:E8}{S n D P:d2g}{pr:Int}(d0:0<=a.2.1)(d1:a.2.1<=109572)(hg:a.2.2.2.2.2.2.2.1≠[]->ExT (qG a.2.2.2.2.2.2.2.1 N).1 a.2.2.2.2.2.2.2.1 N)
  (hv:ExT (qG a.2.2.2.2.2.2.2.2.1 N).1 a.2.2.2.2.2.2.2.2.1 N) (hs:Qg a.2.2.2.2.2.2.2.2.2.1=true) (hl:(tlW a N).length<=65536):
  ∃p,w_ N (pW l [W9 a.2.1,kwW a,tlW a N],(1,0,S,n,D,P,pr,[],[],[],[],(0,0),0,0,0),jT)=some ((1,a.2.1,S,n,D,P,pr,a.2.2.2.2.2.2.2.1,a.2.2.2.2.2.2.2.2.1,a.2.2.2.2.2.2.2.2.2.1,[],(0,0),0,0,0),p):=by
 have ld:=lW a.2.1;have lsrc:a.2.2.2.2.2.2.2.2.2.1.length<=64:=by unfold Qg at hs;simp only[A8,decide_eq_true_eq]at hs;exact hs.1
 have hkw:WdB (kwW a)/\(kwW a).length<=4:=by
  unfold kwW;cases H5 0 (x8 a.2.2.2.2.2.2.2.1)
  .exact⟨⟨D9,qB D9⟩,D9⟩
  .exact⟨⟨D9,qB D9⟩,D9⟩
 have hlk:=hkw.2;unfold w_;simp only;rw[show seq jT [102,114,111,109]=true from rfl,UE,o9,L_ d0 d1 _ (by simp[spW];omega),o9,rY hkw.1 _ (by simp[spW];omega),o9];simp only;have hrest:((pW l [tlW a N]):I5)=(l,tlW a N,false):=by unfold pW;simp[spW]
 rw[hrest];simp only[V7,UE,o9];have fin:∀(p:I5) (g:List (Int×Int)),((qG a.2.2.2.2.2.2.2.2.1 N).1++soT a.2.2.2.2.2.2.2.2.2.1).length<=65536->p.2.1=(qG a.2.2.2.2.2.2.2.2.1 N).1++soT a.2.2.2.2.2.2.2.2.2.1->
   ∃q,(l9 (yh p.2.1 [32,115,114,99,32,34])
                λ(x_12:d2g×d2g×Bool)=>
                l9 (kJ p x_12.1 N)
                 λ(x_13:List D7×I5)=>
                 l7 x_12.2.2
                  (l9 (qo x_13.2 x_12.2.1)
                   λ(x_14:d2g×I5)=>
                   some (((1,a.2.1,S,n,D,P,pr,g,x_13.1,x_14.1,[],(0,0),0,0,0):F5),x_14.2))
                  (some ((1,a.2.1,S,n,D,P,pr,g,x_13.1,[],[],(0,0),0,0,0),x_13.2)))=
    some ((1,a.2.1,S,n,D,P,pr,g,a.2.2.2.2.2.2.2.2.1,a.2.2.2.2.2.2.2.2.2.1,[],(0,0),0,0,0),q):=λp g hll hp=>by
  rw[hp];unfold soT at hll ⊢;cases gs:seq a.2.2.2.2.2.2.2.2.2.1 []
  .rw[gs,o6]at hll;have hne:=vY.1 gs;rw[o6];rw[show([32,115,114,99,32,34]:d2g)=a0a from rfl,ZY (sub:=a0a) D9 (WG _ _ hv.q (.inr ⟨_,rfl⟩)) (Y4 hll D9),o9];simp only;rw[a3C (l:=l) hv (by simp only[C9]at hll ⊢;omega),o9];simp only[o7];unfold qo;rw[b6s o5,o9];simp only[o7];rw[vY.2 hne,V7,o7,Uh o5,o9,hs,UE,o9,o9];exact⟨_,rfl⟩
  .rw[gs,o7,F6]at hll;have he:=ja.1 gs;rw[o7,F6];rw[show([32,115,114,99,32,34]:d2g)=a0a from rfl,a8G (sub:=a0a) D9 (WG _ _ hv.q (.inl rfl)) (Y4 hll D9),o9];simp only;rw[a3C (l:=l) hv o5,o9];simp only[o6];exact⟨_,by rw[he]⟩
 unfold kwW;unfold tlW at hl ⊢;cases gg:H5 0 (x8 a.2.2.2.2.2.2.2.1)
 .rw[gg,o6]at hl;have he:a.2.2.2.2.2.2.2.1=[]:=by
   rw[nM]at gg;have:a.2.2.2.2.2.2.2.1.length=0:=by unfold x8 at gg;omega
   exact au.1 this
  simp only[o6];rw[show seq wIs [119,104,101,110]=false from rfl,show seq wIs [105,115]=true from rfl,o6,o7,o9];have:=fin (l,(qG a.2.2.2.2.2.2.2.2.1 N).1++soT a.2.2.2.2.2.2.2.2.2.1,false) [] hl rfl;rw[he];exact this
 .rw[gg,o7]at hl;have hne:a.2.2.2.2.2.2.2.1≠[]:=λe=>by rw[e]at gg;exact absurd gg D9
  have hG:=hg hne;simp only[o7];rw[show seq b3e [119,104,101,110]=true from rfl,o7];rw[show([32,105,115,32]:d2g)=sIs from rfl,ZY (sub:=sIs) D9 (hG.is _) (Y4 hl D9),o9];simp only[UE,o9];rw[a3C (l:=l) hG (by simp only[C9]at hl;omega),o9,o9];exact fin _ _ (by simp only[C9]at hl ⊢;omega) rfl
theorem a7q(hS:SmL l)(hF:FmL l){s:V6}(hs:J9 l.2.2 (nmI l.2.2 (λ(s:V6)=>s.1) a.2.2.1)=some s)(i1:gz a.2.2.1=true)(i2:gz a.2.2.2.1=true)(i3:gz a.2.2.2.2.1=true)
  (i4:seq a.2.2.2.2.2.1 []=true\/gz a.2.2.2.2.2.1=true) (p0:0<=a.2.2.2.2.2.2.1) (p9:a.2.2.2.2.2.2.1<=9) (d0:0<=a.2.1) (d1:a.2.1<=109572)
  (hg:a.2.2.2.2.2.2.2.1≠[]->ExT (qG a.2.2.2.2.2.2.2.1 (nmS l s)).1 a.2.2.2.2.2.2.2.1 (nmS l s)) (hv:ExT (qG a.2.2.2.2.2.2.2.2.1 (nmS l s)).1 a.2.2.2.2.2.2.2.2.1 (nmS l s)) (hsr:Qg a.2.2.2.2.2.2.2.2.2.1=true)
  (hl:(tlW a (nmS l s)).length<=65536):
  ∃p,uA (pW l (inW a (nmS l s)))=some ((1,a.2.1,a.2.2.1,a.2.2.2.1,a.2.2.2.2.1,a.2.2.2.2.2.1,a.2.2.2.2.2.2.1,a.2.2.2.2.2.2.2.1,a.2.2.2.2.2.2.2.2.1,a.2.2.2.2.2.2.2.2.2.1,[],(0,0),0,0,0),p):=by
 obtain⟨x0,x1,hm,-⟩:=qX hs;have l1:=Ec i1;have l2:=Ec i2;have l3:=Ec i3;have l4:a.2.2.2.2.2.1.length<=80:=i4.elim (λe=>by rw[ja.1 e];simp) Ec;have ld:=lW a.2.1;have p0:(0:Int)<=a.2.2.2.2.2.2.1:=p0;have p9:a.2.2.2.2.2.2.1<=(9:Int):=p9;have hpI:jg a.2.2.2.2.2.2.1:=b6A p0 p9;have l6:=Dp hpI;have wO:WdB wOf:=⟨D9,qB D9⟩;have wV:WdB a2P:=⟨D9,qB D9⟩;have wP:WdB a2Q:=⟨D9,qB D9⟩;have wF:WdB jT:=⟨D9,qB D9⟩;have c1:wOf.length=2:=rfl;have c2:a2P.length=4:=rfl;have c3:a2Q.length=4:=rfl;have c4:jT.length=4:=rfl;have hk:(kwW a).length<=4:=by unfold kwW;cases H5 0 (x8 a.2.2.2.2.2.2.2.1)<;>decide
 have lR:(spW [W9 a.2.1,kwW a,tlW a (nmS l s)]).length<=66000:=by simp[spW];omega
 generalize hRd:[W9 a.2.1,kwW a,tlW a (nmS l s)]=R at*;have lF:(spW (jT::R)).length<=66010:=by rw[lL,C9,D5];omega
 have hprl:(spW (prW a++(jT::R))).length<=66050:=by
  unfold prW;cases x9 a.2.2.2.2.2.2.1 0
  .simp only[o6,I7,G9];rw[lL,lL,C9,C9,D5,D5];omega
  .simp only[o7,G9];omega
 have hovl:(spW (ovW a++(prW a++(jT::R)))).length<=66150:=by
  unfold ovW;cases seq a.2.2.2.2.2.1 []
  .simp only[o6,I7,G9];rw[lL,lL,C9,C9,D5,D5];omega
  .simp only[o7,G9];omega
 have hin:inW a (nmS l s)=a.2.2.1::a.2.2.2.1::wOf::a.2.2.2.2.1::(ovW a++(prW a++(jT::R))):=by unfold inW;rw[←hRd];rfl
 rw[hin];have stepP:∀(P:d2g) (w:d2g) (ws:List d2g),w::ws=prW a++(jT::R)->
   ∃p,(l9 (l7 (seq w [112,114,105,111])
            (l9 (rW (pW l ws)) λ(x_9:Int×I5)=>
             l9 (U5 x_9.2) λ(x_10:d2g×I5)=>
              some (x_10.2,((1,0,a.2.2.1,a.2.2.2.1,a.2.2.2.2.1,P,x_9.1,[],[],[],[],(0,0),0,0,0):F5),x_10.1))
            (some (pW l ws,(1,0,a.2.2.1,a.2.2.2.1,a.2.2.2.2.1,P,0,[],[],[],[],(0,0),0,0,0),w))) λ(x:I5×F5×d2g)=>w_ (nmS l s) x)=
    some ((1,a.2.1,a.2.2.1,a.2.2.2.1,a.2.2.2.2.1,P,a.2.2.2.2.2.2.1,a.2.2.2.2.2.2.2.1,a.2.2.2.2.2.2.2.2.1,a.2.2.2.2.2.2.2.2.2.1,[],(0,0),0,0,0),p):=λP w ws hw=>by
  unfold prW at hw;cases gp:x9 a.2.2.2.2.2.2.1 0<;>rw[gp]at hw
  .simp only[o6,I7,G9,G7]at hw;obtain⟨rfl,rfl⟩:=hw;have hne:=qh.1 gp;rw[show seq a2Q [112,114,105,111]=true from rfl,o7];unfold rW;rw[rY (a0A hpI).1 _ (by simp only[C9];omega),o9];simp only;rw[b5L ⟨Int.le_trans D9 p0,Int.le_trans p9 D9⟩,o9];simp only;rw[show iQ (pW l (jT::R)) 0=some (pW l (jT::R))from rfl,o9,Z9 (b6S p0 hne),o7,Z9 p9,UE,o9,o9,rY wF _ (by simp only[C9];omega),o9,o9];simp only;rw[←hRd];exact b2Q d0 d1 hg hv hsr hl
  .simp only[o7,G9,G7]at hw;obtain⟨rfl,rfl⟩:=hw;have hz:=Z8.1 gp;rw[show seq jT [112,114,105,111]=false from rfl,o6,o9,hz,←hRd];exact b2Q d0 d1 hg hv hsr hl
 unfold uA;rw[JL i1 _ (by simp only[lL,C9,D5];omega),o9];simp only;rw[a7P,Pj _ (by have:=hS.few.2.2;omega),o9,X5 (show(0:Int)<=nmI l.2.2 (λ(s:V6)=>s.1) a.2.2.1 from x0),o6,o9,a7P,a1D hF.n hs,o9];rw[JL i2 _ (by simp only[lL,C9,D5];omega),o9,rY wO _ (by simp only[lL,C9,D5];omega),o9];simp only;rw[show seq wOf [111,102]=true from rfl,UE,o9,JL i3 _ (by simp only[C9];omega),o9];simp only;unfold ovW at*;cases gP:seq a.2.2.2.2.2.1 []<;>rw[gP]at hovl
 .have hi4:gz a.2.2.2.2.2.1=true:=i4.elim (λe=>by rw[gP]at e;cases e) id;simp only[o6,I7,G9]at hovl ⊢;rw[rY wV _ (by rw[lL]at hovl ⊢;simp only[C9,D5]at hovl ⊢;omega),o9];simp only;rw[show seq a2P [111,118,101,114]=true from rfl,o7,JL hi4 _ (by simp only[C9];omega),o9];simp only;obtain⟨w,ws,e⟩:∃w ws,w::ws=prW a++(jT::R):=by unfold prW;cases x9 a.2.2.2.2.2.2.1 0<;>exact⟨_,_,rfl⟩
  have hwd:WdB w:=by
   unfold prW at e;cases gp:x9 a.2.2.2.2.2.2.1 0<;>rw[gp]at e
   .simp only[o6,I7,G9,G7]at e;rw[e.1];exact wP
   .simp only[o7,G9,G7]at e;rw[e.1];exact wF
  rw[←e]at hprl ⊢;rw[rY hwd _ (by rw[lL]at hprl;simp only[C9,D5]at hprl ⊢;omega),o9,o9];exact stepP a.2.2.2.2.2.1 w ws e
 .have hP0:=ja.1 gP;simp only[o7,G9]at hovl ⊢;obtain⟨w,ws,e⟩:∃w ws,w::ws=prW a++(jT::R):=by unfold prW;cases x9 a.2.2.2.2.2.2.1 0<;>exact⟨_,_,rfl⟩
  have hwd:WdB w/\seq w [111,118,101,114]=false:=by
   unfold prW at e;cases gp:x9 a.2.2.2.2.2.2.1 0<;>rw[gp]at e
   .simp only[o6,I7,G9,G7]at e;rw[e.1];exact⟨wP,rfl⟩
   .simp only[o7,G9,G7]at e;rw[e.1];exact⟨wF,rfl⟩
  rw[←e]at hprl ⊢;rw[rY hwd.1 _ (by rw[lL]at hprl;simp only[C9,D5]at hprl ⊢;omega),o9];simp only;rw[hwd.2,o6,o9,hP0];exact stepP [] w ws e
end
section
theorem a9y{b:Bool}(h:(!b)=false):b=true:=by cases b<;>first|rfl|cases h
variable {a:F5}
theorem a6C(h:rwS a=false):a.2.2.2.2.2.2.2.2.2.2.1=[]/\a.2.2.2.2.2.2.2.2.2.2.2=((0,0),0,0,0):=by have h:=a9y h;simp only[A8]at h;obtain⟨h1,h2,h3,h4,h5,h6⟩:=h;refine⟨ja.1 h1,?_⟩;have e2:=Z8.1 h2;have e3:=Z8.1 h3;have e4:=Z8.1 h4;have e5:=Z8.1 h5;have e6:=Z8.1 h6;generalize a.2.2.2.2.2.2.2.2.2.2.2=r at*;obtain⟨⟨r1,r2⟩,r3,r4,r5⟩:=r;simp only at e2 e3 e4 e5 e6;rw[e2,e3,e4,e5,e6]
theorem c0T{α:Type}{l:List α}(h:x9 (x8 l) 0=true):l=[]:=by have:=Z8.1 h;unfold x8 at this;exact au.1 o5
theorem a6z(h:rlS a=false):a.2.2.2.2.1=[]/\a.2.2.2.2.2.1=[]/\a.2.2.2.2.2.2.1=0/\a.2.2.2.2.2.2.2.1=[]/\a.2.2.2.2.2.2.2.2.1=[]/\a.2.2.2.2.2.2.2.2.2.1=[]:=by have h:=a9y h;simp only[A8]at h;obtain⟨⟨⟨⟨⟨h1,h2⟩,h3⟩,h4⟩,h5⟩,h6⟩:=h;exact⟨ja.1 h1,ja.1 h2,Z8.1 h3,c0T h4,c0T h5,ja.1 h6⟩
theorem b5a(h:snS a=false):a.2.2.1=[]/\a.2.2.2.1=[]:=by have h:=a9y h;simp only[A8]at h;exact⟨ja.1 h.1,ja.1 h.2⟩
theorem b5n(h:vdS a=false):a.2.2.2.2.2.2.2.2.2.2.2.1=(0,0):=by have h:=a9y h;simp only[A8]at h;have e1:=Z8.1 h.1;have e2:=Z8.1 h.2;generalize a.2.2.2.2.2.2.2.2.2.2.2.1=r at*;obtain⟨r1,r2⟩:=r;simp only at e1 e2;rw[e1,e2]
theorem Za{a b:Bool}(h:(a || b)=false):a=false/\b=false:=by cases a<;>cases b<;>first|exact⟨rfl,rfl⟩|cases h
theorem tJ{w:d2g}(h:w.all prB=true):∀c∈w,prB c=true:=λc hc=>ax.1 h c hc
section
variable {l:V4} (hS:SmL l) (hF:FmL l)
include hS hF
theorem a2d(hw:AmW a)(hk:a.1=3\/a.1=4)(hT:gz a.2.2.2.2.2.2.2.2.2.2.1=true)(d0:0<=a.2.1)(d1:a.2.1<=109572)(h:(Iq l a).2=0):
  (∀c∈(Iq l a).1,prB c=true)/\jU l (Iq l a).1=some ((a.1,a.2.1,[],[],[],[],0,[],[],[],a.2.2.2.2.2.2.2.2.2.2.1,(0,0),a.2.2.2.2.2.2.2.2.2.2.2.2.1,a.2.2.2.2.2.2.2.2.2.2.2.2.2.1,l7 (x9 a.1 4) 0 a.2.2.2.2.2.2.2.2.2.2.2.2.2.2),0):=by
 have hW:=a8T hF;have hE:=a3H hF;have lT:=Ec hT;have ld:=lW a.2.1;have hdt:=Oo d0 d1;have lF:jT.length=4:=rfl;have wF:WdB jT:=⟨D9,qB D9⟩;rcases Jc l.2.1 (λ(s:dm)=>s.1) a.2.2.2.2.2.2.2.2.2.2.1 with e|⟨i,t,e,hi,-,QE,hm⟩
 .exfalso;unfold Iq at h;have:J9 l.2.1 (nmI l.2.1 (λ(s:dm)=>s.1) a.2.2.2.2.2.2.2.2.2.2.1)=none:=by rw[e];exact Fj (.inl rfl)
  rw[this]at h;exact absurd (show(6:Int)=0 from h) D9
 have hV:=(ZC hF.v).2 i t hi;unfold Iq at h ⊢;rw[QE]at h ⊢;simp only at h ⊢;cases g1:x9 (vfS a.2.2.2.2.2.2.2.2.2.2.2.2.1 t.2.1 l.1).2 0<;>rw[g1]at h
 .exact absurd h (qh.1 g1)
 obtain⟨nlo,tlo⟩:=b3c hW hV.vk hw.lo (Z8.1 g1);simp only[G8,o6]at h ⊢;have lva:∀{n:Int} {t:Int×Int},inB n (bnd t l.1)=true->vty t l.1=true->jg n->(vaT n t l.1).length<=100:=λhn hv hI=>by rw[←a5n hW hv hn hI];exact(a6K hI hE.m).1
 have llo:=lva nlo hV.vk hw.lo;have hhi:(a.2.2.2.2.2.2.2.2.2.2.2.2.2.1=E9 .i64 (bnd t.2.1 l.1).2 1\/inB a.2.2.2.2.2.2.2.2.2.2.2.2.2.1 (bnd t.2.1 l.1)=true)/\(WdB (hiW a.2.2.2.2.2.2.2.2.2.2.2.2.2.1 t.2.1 l.1)/\(∀c∈hiW a.2.2.2.2.2.2.2.2.2.2.2.2.2.1 t.2.1 l.1,prB c=true)/\(hiW a.2.2.2.2.2.2.2.2.2.2.2.2.2.1 t.2.1 l.1).length<=100)/\
   (rwE l t a (vaT a.2.2.2.2.2.2.2.2.2.2.2.2.1 t.2.1 l.1) (hiW a.2.2.2.2.2.2.2.2.2.2.2.2.2.1 t.2.1 l.1)).2=0/\
   (l7 (G6 (x9 a.2.2.2.2.2.2.2.2.2.2.2.2.2.1 (E9 .i64 (bnd t.2.1 l.1).2 1)))
    (l7 (G6 (x9 (vfS a.2.2.2.2.2.2.2.2.2.2.2.2.2.1 t.2.1 l.1).2 0)) ([],(vfS a.2.2.2.2.2.2.2.2.2.2.2.2.2.1 t.2.1 l.1).2) (rwE l t a (vfS a.2.2.2.2.2.2.2.2.2.2.2.2.1 t.2.1 l.1).1 (vfS a.2.2.2.2.2.2.2.2.2.2.2.2.2.1 t.2.1 l.1).1))
    (rwE l t a (vfS a.2.2.2.2.2.2.2.2.2.2.2.2.1 t.2.1 l.1).1 [101,110,100]))=rwE l t a (vaT a.2.2.2.2.2.2.2.2.2.2.2.2.1 t.2.1 l.1) (hiW a.2.2.2.2.2.2.2.2.2.2.2.2.2.1 t.2.1 l.1):=by
  rw[tlo]at h ⊢;unfold hiW;cases g2:x9 a.2.2.2.2.2.2.2.2.2.2.2.2.2.1 (E9 .i64 (bnd t.2.1 l.1).2 1)<;>rw[g2]at h
  .simp only[V7,o7]at h ⊢;cases g3:x9 (vfS a.2.2.2.2.2.2.2.2.2.2.2.2.2.1 t.2.1 l.1).2 0<;>rw[g3]at h
   .exact absurd h (qh.1 g3)
   obtain⟨nhi,thi⟩:=b3c hW hV.vk hw.hi (Z8.1 g3);simp only[G8,o6]at h ⊢;rw[thi]at h ⊢;have:=ZF hW hV.vk nhi hw.hi;exact⟨.inr nhi,⟨this.1,this.2,lva nhi hV.vk hw.hi⟩,h,rfl⟩
  .simp only[G8,o6]at h ⊢;exact⟨.inl (Z8.1 g2),⟨⟨D9,qB D9⟩,tJ D9,A7⟩,h,by first|trivial|rfl⟩
 obtain⟨hhi,⟨whi,phi,lhi⟩,h,heq⟩:=hhi;rw[heq];have wlo:=ZF hW hV.vk nlo hw.lo;have hI3:=hw.rn;generalize hH:hiW a.2.2.2.2.2.2.2.2.2.2.2.2.2.1 t.2.1 l.1=H at*;generalize hL:vaT a.2.2.2.2.2.2.2.2.2.2.2.2.1 t.2.1 l.1=L at*;have hrw:rwT a L H=a.2.2.2.2.2.2.2.2.2.2.1++spW [jT,W9 a.2.1,L,H]:=by unfold rwT jT;simp[spW]
 obtain⟨P3,P4⟩:=a8a hS hF (T:=a.2.2.2.2.2.2.2.2.2.2.1) (d:=a.2.1) (n:=a.2.2.2.2.2.2.2.2.2.2.2.2.2.2) hT QE d0 d1 nlo hw.lo hhi hw.hi (k:=a.1);rw[hH,hL]at P3 P4;have hwT:=a2T hT;unfold rwE at h ⊢;rcases hk with e3|e4
 .have n4:x9 a.1 4=false:=by rw[e3];rfl
  rw[n4,o6]at h ⊢;cases g5:x9 (vfS a.2.2.2.2.2.2.2.2.2.2.2.2.2.2 t.2.2.1 l.1).2 0<;>rw[g5]at h
  .exact absurd h (qh.1 g5)
  obtain⟨nn,tn⟩:=b3c hW hV.vv hI3 (Z8.1 g5);simp only[G8,o6]at h ⊢;rw[tn];have wn:=ZF hW hV.vv nn hI3;have ln:=lva nn hV.vv hI3;have P3:=P3 e3 nn hI3;generalize vaT a.2.2.2.2.2.2.2.2.2.2.2.2.2.2 t.2.2.1 l.1=V at*;have hline:[105,110,115,101,114,116,114,111,119,32]++rwT a L H++[32]++V=a0z++spW [a.2.2.2.2.2.2.2.2.2.2.1,jT,W9 a.2.1,L,H,V]:=by rw[hrw];unfold a0z;simp[spW]
  rw[hline];have hall:∀w∈[a.2.2.2.2.2.2.2.2.2.2.1,jT,W9 a.2.1,L,H,V],WdB w/\∀c∈w,prB c=true:=λw hw=>by
   simp only[D6,fM,or_false]at hw;rcases hw with rfl|rfl|rfl|rfl|rfl|rfl
   .exact⟨hwT,QG hT⟩
   .exact⟨wF,tJ D9⟩
   .exact hdt
   .exact wlo
   .exact⟨whi,phi⟩
   .exact wn
  refine⟨uK (tJ D9) (a0p λw hw=>(hall w hw).2),?_⟩;have hf:∀x∈a0z,x≠32:=qB D9;have hnb:∀w∈[a.2.2.2.2.2.2.2.2.2.2.1,jT,W9 a.2.1,L,H,V],∀x∈w,x≠32:=λw hw=>(hall w hw).1.nb;have hlen:(a0z++spW [a.2.2.2.2.2.2.2.2.2.2.1,jT,W9 a.2.1,L,H,V]).length<=1000000000:=by simp[spW,a0z];omega
  have wR:WdB a0z:=⟨D9,hf⟩;unfold jU;rw[VU hf hnb,o9,JG,rY wR _ hlen,o9];simp only;rw[show seq a0z [105,110,115,101,114,116]=false from rfl,show seq a0z [114,101,112,101,97,108]=false from rfl,show seq a0z [105,110,115,101,114,116,114,111,119]=true from rfl,o6,o6,o7];rw[show x9 (E9 IntKind.i64 ((([a.2.2.2.2.2.2.2.2.2.2.1,jT,W9 a.2.1,L,H,V]:List d2g).length:Nat):Int) 1) 7=true from rfl,o7];rw[show(2:Int)=((1+1:Nat):Int)from rfl,SX hf hnb hlen (i:=1) rfl,o9,UE,o9];rw[e3]at P3;rw[P3,o9,e3]
 .have n4:x9 a.1 4=true:=by rw[e4];rfl
  rw[n4,o7]at h ⊢;simp only[o7];have P4:=P4 e4;have hline:[114,101,112,101,97,108,114,111,119,32]++rwT a L H=Yr++spW [a.2.2.2.2.2.2.2.2.2.2.1,jT,W9 a.2.1,L,H]:=by rw[hrw];unfold Yr;simp[spW]
  rw[hline];have hall:∀w∈[a.2.2.2.2.2.2.2.2.2.2.1,jT,W9 a.2.1,L,H],WdB w/\∀c∈w,prB c=true:=λw hw=>by
   simp only[D6,fM,or_false]at hw;rcases hw with rfl|rfl|rfl|rfl|rfl
   .exact⟨hwT,QG hT⟩
   .exact⟨wF,tJ D9⟩
   .exact hdt
   .exact wlo
   .exact⟨whi,phi⟩
  refine⟨uK (tJ D9) (a0p λw hw=>(hall w hw).2),?_⟩;have hf:∀x∈Yr,x≠32:=qB D9;have hnb:∀w∈[a.2.2.2.2.2.2.2.2.2.2.1,jT,W9 a.2.1,L,H],∀x∈w,x≠32:=λw hw=>(hall w hw).1.nb;have hlen:(Yr++spW [a.2.2.2.2.2.2.2.2.2.2.1,jT,W9 a.2.1,L,H]).length<=1000000000:=by simp[spW,Yr];omega
  have wR:WdB Yr:=⟨D9,hf⟩;unfold jU;rw[VU hf hnb,o9,JG,rY wR _ hlen,o9];simp only;rw[show seq Yr [105,110,115,101,114,116]=false from rfl,show seq Yr [114,101,112,101,97,108]=false from rfl,show seq Yr [105,110,115,101,114,116,114,111,119]=false from rfl,show seq Yr [114,101,112,101,97,108,114,111,119]=true from rfl,o6,o6,o6,o7];rw[show x9 (E9 IntKind.i64 ((([a.2.2.2.2.2.2.2.2.2.2.1,jT,W9 a.2.1,L,H]:List d2g).length:Nat):Int) 1) 6=true from rfl,o7];rw[show(2:Int)=((1+1:Nat):Int)from rfl,SX hf hnb hlen (i:=1) rfl,o9,UE,o9];rw[e4]at P4;rw[P4,o9,e4]
end
end
section
theorem b3K{k:Int}(h1:1<=k)(h4:k<=4)(n1:k≠1)(n2:k≠2):k=3\/k=4:=o5
section
variable {l:V4} (hS:SmL l) (hF:FmL l)
include hS hF
theorem a3U{a:F5}(hw:AmW a)(hf:AmF a)(h:(mf l a).2=0)(hl:(mf l a).1.length<=65536):(∀c∈(mf l a).1,prB c=true)/\jU l (mf l a).1=some (a,0):=by
 unfold mf at h hl ⊢;have bad:∀{c:Int},c≠0->¬((([]:d2g),c).2=0):=λhc e=>hc e;cases g1:H5 a.1 1<;>rw[g1]at h hl
 case true=>exact absurd h (bad D9)
 cases g2:H5 4 a.1<;>rw[g2]at h hl
 case true=>exact absurd h (bad D9)
 cases g3:unS a<;>rw[g3]at h hl
 case true=>exact absurd h (bad D9)
 cases g4:wnS a<;>rw[g4]at h hl
 .exact absurd h (bad D9)
 cases g5:H5 a.2.1 0<;>rw[g5]at h hl
 case true=>exact absurd h (bad D9)
 cases g6:H5 109572 a.2.1<;>rw[g6]at h hl
 case true=>exact absurd h (bad D9)
 cases g7:H5 a.2.2.2.2.2.2.1 0<;>rw[g7]at h hl
 case true=>exact absurd h (bad D9)
 cases g8:H5 9 a.2.2.2.2.2.2.1<;>rw[g8]at h hl
 case true=>exact absurd h (bad D9)
 simp only[o7,o6,G8]at h hl ⊢;have d0:=nM.1 g5;have d1:=nM.1 g6;have p0:=nM.1 g7;have p9:=nM.1 g8;unfold unS at g3;unfold wnS at g4;cases k1:x9 a.1 1<;>rw[k1]at h hl g3 g4
 .cases k2:x9 a.1 2<;>rw[k2]at h hl g3 g4
  ·
   simp only[o6]at h hl g3 g4 ⊢;have hk:=b3K (nM.1 g1) (nM.1 g2) (qh.1 k1) (qh.1 k2);obtain⟨q1,q2⟩:=a2d hS hF hw hk g4 d0 d1 h;refine⟨q1,q2.trans ?_⟩;congr 2;have hu:rlS a=false/\snS a=false/\vdS a=false/\(x9 a.1 4=true->a.2.2.2.2.2.2.2.2.2.2.2.2.2.2=0):=by
    rcases hk with e|e
    .rw[e]at g3;have g3:(rlS a || snS a || vdS a)=false:=g3;obtain⟨g3,u3⟩:=Za g3;obtain⟨u1,u2⟩:=Za g3;exact⟨u1,u2,u3,λh4=>by rw[e]at h4;exact absurd h4 D9⟩
    .rw[e]at g3;have g3:(rlS a || snS a || vdS a || !(x9 a.2.2.2.2.2.2.2.2.2.2.2.2.2.2 0))=false:=g3;obtain⟨g3,u4⟩:=Za g3;obtain⟨g3,u3⟩:=Za g3;obtain⟨u1,u2⟩:=Za g3;exact⟨u1,u2,u3,λ_=>Z8.1 (a9y u4)⟩
   obtain⟨u1,u2,u3,u4⟩:=hu;obtain⟨z1,z2,z3,z4,z5,z6⟩:=a6z u1;obtain⟨y1,y2⟩:=b5a u2;have x1:=b5n u3;obtain⟨k,d,s,n,df,p,pr,g,v,src,t,vd,lo,hi,rn⟩:=a;simp only at z1 z2 z3 z4 z5 z6 y1 y2 x1 u4 ⊢;rw[z1,z2,z3,z4,z5,z6,y1,y2,x1];cases hk4:x9 k 4
   .rfl
   .rw[o7,u4 hk4]
  ·
   simp only[o7,o6]at h hl g3 g4 ⊢;simp only[A8]at g4;have e2:=Z8.1 k2;obtain⟨u1,u2⟩:=Za g3;obtain⟨z1,z2,z3,z4,z5,z6⟩:=a6z u1;obtain⟨y1,y2⟩:=a6C u2;refine⟨?_,(a7Y (l:=l) g4.1 g4.2 d0 d1).trans ?_⟩
   .rw[Zm];refine uK (tJ D9) (a0p λw hw=>?_);simp only[D6,fM,or_false]at hw;rcases hw with rfl|rfl|rfl|rfl
    .exact QG g4.1
    .exact QG g4.2
    .exact tJ D9
    .exact(Oo d0 d1).2
   .congr 2;obtain⟨k,d,s,n,df,p,pr,g,v,src,t,r⟩:=a;simp only at z1 z2 z3 z4 z5 z6 y1 y2 e2 ⊢;rw[z1,z2,z3,z4,z5,z6,y1,y2,e2]
 ·
  simp only[o7]at h hl g3 g4 ⊢;have e1:=Z8.1 k1;obtain⟨y1,y2⟩:=a6C g3;simp only[A8,gJ]at g4;obtain⟨⟨⟨⟨n1,n2⟩,n3⟩,n4⟩,n5⟩:=g4;rcases Jc l.2.2 (λ(s:V6)=>s.1) a.2.2.1 with e|⟨i,s,e,hi,-,QE,hm⟩
  .exfalso;unfold Yh at h;have:J9 l.2.2 (nmI l.2.2 (λ(s:V6)=>s.1) a.2.2.1)=none:=by rw[e];exact Fj (.inl rfl)
   rw[this]at h;exact absurd (show(6:Int)=0 from h) D9
  obtain⟨t1,t2,t3⟩:=a7r QE h;have hN:=b6K hF.n hm;have hD:=b6I hF.v hF.n hm;have hv:=a8R hN hD hw.v t3;have hg:a.2.2.2.2.2.2.2.1≠[]->ExT (qG a.2.2.2.2.2.2.2.1 (nmS l s)).1 a.2.2.2.2.2.2.2.1 (nmS l s):=λhne=>a8R hN hD hw.g (t2 (by
   cases hq:a.2.2.2.2.2.2.2.1 with
   |nil=>exact absurd hq hne
   |cons x y=>exact bT (by unfold x8;simp only[D5];omega)))
  rw[t1]at hl ⊢;have htl:(tlW a (nmS l s)).length<=65536:=by have:(tlW a (nmS l s)).length<=(spW (inW a (nmS l s))).length:=b2F (by unfold inW;simp);rw[C9]at hl;omega
  obtain⟨p,hp⟩:=a7q hS hF QE n1 n2 n3 n4 p0 p9 d0 d1 hg hv n5 htl;have hhead:U5 (pW l (a2O::inW a (nmS l s)))=some (a2O,pW l (inW a (nmS l s))):=rY ⟨D9,qB D9⟩ _ o5;refine⟨?_,?_⟩
  .refine uK (tJ D9) (a0p λw hw' =>?_);have hpr9:jg a.2.2.2.2.2.2.1:=hw.pr;unfold inW at hw';simp only[J6,D6,fM,or_false]at hw';rcases hw' with(rfl|rfl|rfl|rfl)|hw'|hw'|(rfl|rfl|rfl|rfl)
   .exact QG n1
   .exact QG n2
   .exact tJ D9
   .exact QG n3
   .unfold ovW at hw';cases gP:seq a.2.2.2.2.2.1 []<;>rw[gP]at hw'
    .simp only[o6,D6,fM,or_false]at hw';rcases hw' with rfl|rfl
     .exact tJ D9
     .exact QG (n4.elim (λe=>by rw[gP]at e;cases e) id)
    .cases hw'
   .unfold prW at hw';cases gp:x9 a.2.2.2.2.2.2.1 0<;>rw[gp]at hw'
    .simp only[o6,D6,fM,or_false]at hw';rcases hw' with rfl|rfl
     .exact tJ D9
     .exact(a0A hpr9).2
    .cases hw'
   .exact tJ D9
   .exact(Oo d0 d1).2
   .unfold kwW;cases H5 0 (x8 a.2.2.2.2.2.2.2.1)<;>exact tJ D9
   .have hso:∀c∈soT a.2.2.2.2.2.2.2.2.2.1,prB c=true:=by
     unfold soT;cases seq a.2.2.2.2.2.2.2.2.2.1 []
     .exact uK (a9e _ D9) (uK (c0g n5) (a9e _ D9))
     .exact λc hc=>by cases hc
    unfold tlW;cases gg:H5 0 (x8 a.2.2.2.2.2.2.2.1)
    .exact uK hv.pr hso
    .have hne:a.2.2.2.2.2.2.2.1≠[]:=λe=>by rw[e]at gg;exact absurd gg D9
     exact uK (hg hne).pr (uK (tJ D9) (uK hv.pr hso))
  .unfold jU;rw[show BR (a2O++spW (inW a (nmS l s))) [32]=some (((a2O++spW (inW a (nmS l s))).count 32:Nat):Int)from rfl,o9,JG,hhead,o9];simp only;rw[show seq a2O [105,110,115,101,114,116]=true from rfl,o7,hp,o9];simp only;congr 2;obtain⟨k,d,s,n,df,p,pr,g,v,src,t,r⟩:=a;simp only at y1 y2 e1 ⊢;rw[y1,y2,e1]
end
theorem Yv{l:V4} :∀(act:List F5) (b y:d2g),mZ (a0N l) act b= .inl y->y=b++rF (act.map λa=>(mf l a).1)/\∀a∈act,(mf l a).2=0
 |[],b,y,h=>by cases h;exact⟨by simp[rF],λa ha=>by cases ha⟩|a::act,b,y,h=>by
  unfold mZ a0N at h;cases g:x9 (mf l a).2 0<;>rw[g]at h
  .cases h
  .simp only[o7]at h;obtain⟨e,h2⟩:=Yv act _ y h;refine⟨?_,λx hx=>?_⟩
   .rw[e];simp[rF]
   .rcases D6.1 hx with rfl|hx
    .exact Z8.1 g
    .exact h2 x hx
theorem a5u{l:V4} :∀(act:List F5) (b:d2g) (r:d2g×Int),mZ (a0N l) act b= .inr r->r.1=[]/\r.2≠0
 |[],b,r,h=>by cases h|a::act,b,r,h=>by
  unfold mZ a0N at h;cases g:x9 (mf l a).2 0<;>rw[g]at h
  .cases h;exact⟨rfl,qh.1 g⟩
  .exact a5u act _ r h
theorem Nk{a:List (Int×Int)}(h:a.length<=1000):zZ a a=some true:=by unfold zZ;refine Zu (a:=a) o5 (λi x hx=>?_) (by rw[af];rfl);simp only[X9 hx,o7,U8,hx,o9];rw[show fE (x9 x.1 x.1) (x9 x.2 x.2)=true by rw[O9 rfl,O9 rfl];rfl];rfl
theorem a2l{a:F5}(hf:AmF a):Bz a a=some true:=by have h1:=hf.g;have h2:=hf.v;unfold Bz;rw[O9 rfl,O9 rfl,ja.2 rfl,ja.2 rfl,ja.2 rfl,ja.2 rfl,O9 rfl,Nk o5,Nk o5,ja.2 rfl,ja.2 rfl,O9 rfl,O9 rfl,O9 rfl,O9 rfl,O9 rfl];rfl
variable {act:List F5}
theorem a0b(hl:act.length<=8)(hf:∀a∈act,AmF a):zJ act act=some true:=by unfold zJ;refine Zu (a:=act) o5 (λi x hx=>?_) (by rw[af];rfl);simp only[X9 hx,o7,U8,hx,o9,a2l (hf x (zg hx))];rfl
theorem b4h{l:V4}(hS:SmL l)(hF:FmL l)(hl:act.length<=8)(hw:∀a∈act,AmW a)(hf:∀a∈act,AmF a)(hz:∀a∈act,(mf l a).2=0)
  (hlen:(rF (act.map λa=>(mf l a).1)).length<=65536):Dl l (rF (act.map λa=>(mf l a).1))=some (act,0,0):=by
 have hp:∀a∈act,(∀c∈(mf l a).1,prB c=true)/\jU l (mf l a).1=some (a,0):=λa ha=>
  a3U hS hF (hw a ha) (hf a ha) (hz a ha) (Y4 (a5Y _ _ (aJ.2 ⟨a,ha,rfl⟩)) hlen)
 unfold Dl;rw[UQ hS,o9,c8N hF.v];have hsp:rQ (rF (act.map λa=>(mf l a).1))=some (act.map λa=>(mf l a).1,0):=b2H hlen λw hw c hc=>by obtain⟨a,ha,rfl⟩:=aJ.1 hw;exact(hp a ha).1 c hc
 show(l9 _ _)=_;rw[hsp,o9];show(l9 _ _)=_;have hll:x8 (act.map λa=>(mf l a).1)=x8 act:=by unfold x8;rw[U0]
 refine FD act (λ(b:List F5) (a:F5)=>(.inl (b++[a]):List F5⊕(List F5×Int×Int))) (λb i=>(b,i)) (λb=>b) (λi b=>b.length=i) [] o5 rfl (λi a b ha hi hb=>?_) (λb hb=>?_) (λ_=>?_)
 .have hlt:=(aV.1 ha).1;have hm:(act.map λa=>(mf l a).1)[i]? =some (mf l a).1:=by rw[bG,ha];rfl
  refine⟨?_,λb' e=>by cases e;simp[hb]⟩;simp only[hll,X9 ha,o7,U8,hm,o9];rw[show ah (act.map λa=>(mf l a).1) (Y1 (i:Int))=some (mf l a).1 from hm,o9,(hp a (zg ha)).2,o9];simp only[O9 (rfl:(0:Int)=0),G8,o6];rw[qV _ o5,o9,fF o5]
 .simp only[hll,af,o6]
 .have hfold:∀(L b:List F5),mZ (λ(b:List F5) (a:F5)=>(.inl (b++[a]):List F5⊕(List F5×Int×Int))) L b= .inl (b++L):=by
   intro L;induction L with
   |nil=>intro b;simp[mZ]|cons a L ih=>intro b;unfold mZ;simp only;rw[ih];simp
  rw[hfold];rfl
theorem Py{l:V4}(hW:WfL l)(hw:∀a∈act,AmW a):xJ l act=some true:=by
 unfold xJ;rw[a2o,o9];simp only[a3e,o9];cases h1:smL l
 case false=>rfl
 obtain⟨hS,-⟩:=b7R h1 hW;simp only[G8,o6];obtain⟨b,hb,hb2⟩:=b6v act;rw[hb,o9];cases b with
 |false=>rfl|true=>
  obtain⟨hl,hf⟩:=hb2 rfl;simp only[G8,o6];rw[a3b hS (b5C h1 hW) hl hw hf,o9];unfold b6h;cases g:x9 (mY l).1 0
  .rfl
  .have hF:=b5C h1 hW (Z8.1 g);rw[o7];cases hq:mZ (a0N l) act []with
   |inr r=>obtain⟨r1,r2⟩:=a5u act [] r hq;simp only;rw[O5 r2,V7,o7,r1];rfl
   |inl y=>
    obtain⟨hy,hz⟩:=Yv act [] y hq;rw[G9]at hy;simp only;cases g2:H5 65536 (x8 y)
    .have hlen:y.length<=65536:=by have:=nM.1 g2;unfold x8 at this;omega
     simp only[o6];rw[O9 (rfl:(0:Int)=0),G8,o6,hy,b4h hS hF hl hw hf hz (by rw[←hy];exact hlen),o9];simp only;rw[a0b hl hf,o9];rfl
    .rfl
end
end Go.GP
namespace Go.GP
open Gt
abbrev yAm:Ty:=(.prod (.int .i64) (.prod (.int .i64) (.prod .str (.prod .str (.prod .str (.prod .str (.prod (.int .i64) (.prod (.sl (.prod (.int .i64) (.int .i64))) (.prod (.sl (.prod (.int .i64) (.int .i64))) (.prod .str (.prod .str (.prod (.prod (.int .i64) (.int .i64)) (.prod (.int .i64) (.prod (.int .i64) (.int .i64)))))))))))))))
theorem d2d{a:F5}(h:wf yAm a):AmW a:=by
 refine⟨DX h.2.1,Y4 h.2.2.1 FX,Y4 h.2.2.2.1 FX,Y4 h.2.2.2.2.1 FX,Y4 h.2.2.2.2.2.1 FX,DX h.2.2.2.2.2.2.1,λn hn=>?_,λn hn=>?_,?_,?_,?_,?_⟩
 .exact DX (h.2.2.2.2.2.2.2.1.2 n hn).2
 .exact DX (h.2.2.2.2.2.2.2.2.1.2 n hn).2
 .exact Y4 h.2.2.2.2.2.2.2.2.2.2.1 FX
 .exact DX h.2.2.2.2.2.2.2.2.2.2.2.2.1
 .exact DX h.2.2.2.2.2.2.2.2.2.2.2.2.2.1
 .exact DX h.2.2.2.2.2.2.2.2.2.2.2.2.2.2
theorem c8Q{l:List F5}(h:wf (.sl yAm) l):∀a∈l,AmW a:=λa ha=>d2d (h.2 a ha)
theorem Ov:∀x,a2U Gt.ps4 x->(Gt.s4.fn x:d2k)=some true:=λx h=>Py (l:=x.1) (act:=x.2) (c8R h.1) (c8Q h.2)
end Go.GP
