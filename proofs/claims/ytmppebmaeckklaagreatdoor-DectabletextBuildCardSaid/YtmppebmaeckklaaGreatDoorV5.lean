import Derived.Test.YtmppebmaeckklaaGreatDoorV3
import Derived.Test.YtmppebmaeckklaaGreatDoorV4
set_option linter.all false
namespace Go.GP
open Gt
set_option maxRecDepth 100000
theorem b4z{d r:c5y}(hd:Dg d)(h:d≠[]):∃c t,d++r=c::t/\yI c=true/\sat (d++r) 0=some (c.toNat:Int):=by
 cases d with
 |nil=>exact absurd rfl h|cons c t=>exact⟨c,t++r,rfl,hd c A7,rfl⟩
theorem Ql{d r:c5y}(hd:Dg d)(h:d≠[]):tY (d++r)=nZ (d++r):=by
 obtain⟨c,t,-,hc,hs⟩:=b4z (r:=r) hd h;have hb:=Vs hc;have hlow:IC c=false:=by unfold IC;simp;omega
 unfold tY;rw[hs,o9,O6 l7,o6,GR,hlow,o9,o6,JZ,hc,o9,o7,oU]
variable {r:c5y}{u:Nat}
theorem b7n(hu:u<=1000000000000)(hr:HdN Vy r)(hr2:HdN (λc=>decide (c=45)) r)(hl:(Lib.decDigits u++r).length<=1000000):vz (2,Lib.decDigits u,(u:Int)) (Lib.decDigits u) r:=by
 have hd:=Vr u;have hlen:=tK (u:=u) l7;have hne:Lib.decDigits u≠[]:=by intro e;rw[e]at hlen;simp at hlen
 have hz:NoZ (Lib.decDigits u):=by
  intro h1 c t e;refine a5w u c t e ?_;rcases mP u 10 with h|h
  .rw[Lib.decDigits,dif_pos h]at h1;simp at h1
  .exact h
 have hv:=Xw u;generalize Lib.decDigits u=d at*;have hrd:HdN yI r:=λc t e=>by have:=hr c t e;unfold Vy at this;simp only[di]at this;exact this.1.1.2
 have hr46:HdN (λc=>decide (c=46)) r:=λc t e=>by have:=hr c t e;unfold Vy at this;simp only[di]at this;exact this.2
 unfold vz;rw[Ql hd hne];unfold nZ;rw[Wu hd hrd hr2 hl,o9,Y2,o7];have e0:=qJ hl 0 l7;rw[dG,Jl hd hrd,show((0:Nat):Int)=0 from rfl]at e0;have hs:gJ (d++r) (d.length:Int) (x8 (d++r))=some r:=by rw[qQ l7 F8,H6,aB]
 have hdec:∀k,mQ r k=some false:=by
  intro k;unfold mQ bT jV Lib.hasPrefix;have:[46].isPrefixOf r=false:=by
   cases r with
   |nil=>rfl
   |cons c t=>have:=hr46 c t rfl;simp only[decide_eq_false_iff_not]at this;simp[List.isPrefixOf];exact λh=>this h.symm
  rw[this];rfl
 rw[e0,o9,hs,o9,hdec,o9,o6,o9,hdec,o9,o6,o9];refine X5 (Wv hz hne _ _) ?_;rw[o9,Y4];have hn:jZ 2 d=some ((u:Int),0):=by unfold jZ Bv;simp (disch:=decide) only[O6,o6];rw[b6H hd hne hz l7 l7,o9,o9,hv,O8 rfl,o7,U5 (by simp only;omega)];rfl
 exact Uj hr hl hn
theorem zy{u k:Nat}(hu:u<18446744073709551616)(hk:1<=k/\k<=9):∃d f,wZ u k=d++46::f/\Dg d/\Dg f/\d≠[]/\NoZ d/\f.length=k/\wz 0 (d++f)=u/\d.length<=20:=by
 have hl:=tK hu;generalize hD:List.replicate (k+1 -(Lib.decDigits u).length) 48++Lib.decDigits u=D;have hDl:k+1<=D.length/\D.length<=31:=by rw[←hD];simp;omega
 have hDg:Dg D:=by
  rw[←hD];intro c hc;rcases E5.1 hc with hc|hc
  .have:=List.eq_of_mem_replicate hc;subst this;decide
  .exact Vr u c hc
 refine⟨D.take (D.length -k),D.drop (D.length -k),?_,λc hc=>hDg c (rQ hc),λc hc=>hDg c (List.mem_of_mem_drop hc),?_,?_,by simp;omega,?_,?_⟩
 .unfold wZ;simp only[hD]
 .intro e;have:=congrArg List.length e;simp at this;omega
 .intro h1 c t e;have h1' :k+1<D.length:=by simp at h1;omega
  have hz0:k+1 -(Lib.decDigits u).length=0:=by rw[←hD]at h1';simp at h1';omega
  rw[hz0,List.replicate_zero,H9]at hD;have h10:10<=u:=by
   rcases mP u 10 with h|h
   .rw[←hD,Lib.decDigits,dif_pos h]at h1';simp at h1'
   .exact h
  cases hDD:D with
  |nil=>rw[hDD]at h1';simp at h1'|cons c' t' =>
   rw[hDD]at e;have:c' =c:=by rw[show(c' ::t').length -k=((c' ::t').length -k -1)+1 by rw[hDD]at h1';omega,List.take_succ_cons]at e;exact(U6 e).1
   rw[←this];exact a5w u c' t' (hD.trans hDD) h10
 .rw[iR,←hD,Lr];have:∀z,wz 0 (List.replicate z 48)=0:=by
   intro z;induction z with
   |zero=>rfl|succ z ih=>rw[kZ];show wz (10*0+0) (List.replicate z 48)=0;exact ih
  rw[this,Xw]
 .simp;rw[←hD];simp;omega
theorem b9y(x:c5y):bT (46::x) [46]=some true:=by unfold bT jV Lib.hasPrefix;simp[List.isPrefixOf]
theorem a3i{f r:c5y}(hf:Dg f)(hr:HdN yI r)(k:Int)(hl:(46::(f++r)).length<=1000000):mQ (46::(f++r)) k=some (D6 (f.length:Int) k):=by unfold mQ;have e:=qJ hl 1 l7;rw[show(46::(f++r)).drop 1=f++r from rfl,Jl hf hr,show((1:Nat):Int)=1 from rfl]at e;rw[b9y,o9,o7,e,o9]
theorem b1b(hu:u<=1000000000000000)(hr:HdN Vy r)(hl:(wZ u 2++r).length<=1000000):vz (3,wZ u 2,(u:Int)) (wZ u 2) r:=by
 obtain⟨d,f,e,hd,hf,hne,hz,hfl,hv,hdl⟩:=zy (u:=u) (k:=2) l7 l7;rw[e]at hl ⊢;have hrd:HdN yI r:=λc t e=>by have:=hr c t e;unfold Vy at this;simp only[di]at this;exact this.1.1.2
 have hs46:HdN yI (46::f++r):=λc t e=>by cases e;rfl
 have hs45:HdN (λc=>decide (c=45)) (46::f++r):=λc t e=>by cases e;rfl
 have hl' :(d++(46::f++r)).length<=1000000:=by rw[←F5];exact hl
 unfold vz;rw[F5,Ql hd hne];unfold nZ;rw[Wu hd hs46 hs45 hl',o9,Y2,o7];have e0:=qJ hl' 0 l7;rw[dG,Jl hd hs46,show((0:Nat):Int)=0 from rfl]at e0;have hs:gJ (d++(46::f++r)) (d.length:Int) (x8 (d++(46::f++r)))=some (46::(f++r)):=by rw[qQ l7 F8,H6,aB];rfl
 have hl2:(46::(f++r)).length<=1000000:=by simp at hl' ⊢;omega
 rw[e0,o9,hs,o9,a3i hf hrd 2 hl2,o9,hfl,show D6 ((2:Nat):Int) 2=true from rfl,o7,o9];refine X5 (Wv hz hne _ _) ?_;rw[o9,Y4];have hn:jZ 3 (d++46::f)=some ((u:Int),0):=by unfold jZ rF;simp (disch:=decide) only[O6,O8,o6,o7];have hp:=a9Z hd hf hne hz l7 l7 l7;rw[hfl,hv]at hp;rw[show nC 2=some ((2:Nat):Int)from rfl,o9,hp,o9,o9,O8 rfl,o7,U5 (by simp only;omega)];rfl
 have hlen:G6 .i64 (d.length:Int) 3=((d++46::f).length:Int):=by rw[eG bI];simp;omega
 have:=Uj (w:=d++46::f) hr hl hn;rw[F5]at this;simp only[hlen];exact this
theorem b3R(hu:u<=1000000000)(hr:HdN Vy r)(hl:(wZ u 4++[37]++r).length<=1000000):vz (4,wZ u 4++[37],(u:Int)) (wZ u 4++[37]) r:=by
 obtain⟨d,f,e,hd,hf,hne,hz,hfl,hv,hdl⟩:=zy (u:=u) (k:=4) l7 l7;rw[e]at hl ⊢;have hs46:HdN yI (46::f++[37]++r):=λc t e=>by cases e;rfl
 have hs45:HdN (λc=>decide (c=45)) (46::f++[37]++r):=λc t e=>by cases e;rfl
 have hre:HdN yI ([37]++r):=λc t e=>by cases e;rfl
 have hq:d++46::f++[37]++r=d++(46::f++[37]++r):=A7;have hl' :(d++(46::f++[37]++r)).length<=1000000:=by rw[←hq];exact hl
 unfold vz;rw[hq,Ql hd hne];unfold nZ;rw[Wu hd hs46 hs45 hl',o9,Y2,o7];have e0:=qJ hl' 0 l7;rw[dG,Jl hd hs46,show((0:Nat):Int)=0 from rfl]at e0;have hs:gJ (d++(46::f++[37]++r)) (d.length:Int) (x8 (d++(46::f++[37]++r)))=some (46::(f++([37]++r))):=by rw[qQ l7 F8,H6,aB];simp
 have hs5:gJ (d++(46::f++[37]++r)) (G6 .i64 (d.length:Int) 5) (x8 (d++(46::f++[37]++r)))=some (37::r):=by rw[show G6 .i64 (d.length:Int) 5=((d.length+5:Nat):Int) by rw[eG bI];omega];rw[qQ l7 F8,H6,show d.length+5=(d++46::f).length by simp;omega,show d++(46::f++[37]++r)=(d++46::f)++(37::r) by simp,aB]
 have hl2:(46::(f++([37]++r))).length<=1000000:=by simp at hl' ⊢;omega
 have h37:bT (37::r) [37]=some true:=by unfold bT jV Lib.hasPrefix;simp[List.isPrefixOf]
 rw[e0,o9,hs,o9,a3i hf hre 2 hl2,o9,hfl,show D6 ((4:Nat):Int) 2=false from rfl,o6,o9,a3i hf hre 4 hl2,o9,hfl,show D6 ((4:Nat):Int) 4=true from rfl,o7,hs5,o9,h37,o9,o7,o9];refine X5 (Wv hz hne _ _) ?_;rw[o9,Y4];have hn:jZ 4 (d++46::f++[37])=some ((u:Int),0):=by
  unfold jZ rF;simp (disch:=decide) only[O6,O8,o6,o7];have hp:=a9Z hd hf hne hz l7 l7 l7;rw[hfl,hv]at hp;have hcut:gJ (d++46::f++[37]) 0 (Y5 .i64 (x8 (d++46::f++[37])) 1)=some (d++46::f):=by rw[fC (by unfold kQ x8;simp;omega),BQ (by unfold x8;simp;omega) (by unfold x8;simp;omega)];congr 1;rw[show(x8 (d++46::f++[37]) -1).toNat=(d++46::f).length by unfold x8;simp;omega,gG]
  rw[hcut,o9,show nC 4=some ((4:Nat):Int)from rfl,o9,hp,o9,o9,O8 rfl,o7,U5 (by simp only;omega)];rfl
 have hlen:G6 .i64 (d.length:Int) 6=((d++46::f++[37]).length:Int):=by rw[eG bI];simp;omega
 have:=Uj (w:=d++46::f++[37]) hr hl hn;rw[hq]at this;simp only[hlen];exact this
theorem b4I(y:Int):∀(n:Nat) (d:Int),n<=12->0<=d->d<rem y n->
  II y (12 -n)+d=II y ((mo y n d).2 -1).toNat+(mo y n d).1
 |0,d,_,h0,h=>by simp[rem]at h;omega|n+1,d,hn,h0,h=>by
  have e:dim y (12 -(n:Int))=dim y (((12 -(n+1):Nat):Int)+1):=by congr 1;omega
  have hs:II y (12 -n)=II y (12 -(n+1))+dim y (12 -(n:Int)):=by rw[e,show 12 -n=(12 -(n+1))+1 by omega];rfl
  rw[r_];by_cases hd:d<dim y (12 -(n:Int))
  .rw[if_pos hd];show II y (12 -(n+1))+d=II y (12 -(n:Int) -1).toNat+d;congr 2;omega
  .rw[if_neg hd];have h2:d -dim y (12 -(n:Int))<rem y n:=by
    have e2:rem y (n+1)=dim y (12 -(n:Int))+rem y n:=rfl;omega
   have:=b4I y n (d -dim y (12 -(n:Int))) l7 l7 h2;omega
variable {d:Int}
theorem b8O(h0:0<=d)(h:d<=109572):(ymd d).2.2<=dim (ymd d).1 (ymd d).2.1:=by
 have hy:=LG h0 h;have hr:d -ys (yOf d)<rem (yOf d) 12:=by rw[a1Y];have:=FK (yOf d);omega
 have:=a5Z (yOf d) 12 (d -ys (yOf d)) l7 l7 hr;show(mo (yOf d) 12 (d -ys (yOf d))).1+1<=dim (yOf d) (mo (yOf d) 12 (d -ys (yOf d))).2;omega
theorem b2H(h0:0<=d)(h:d<=109572):b9l (ymd d).1 (ymd d).2.1 (ymd d).2.2=d:=by
 have hy:=LG h0 h;have hr:d -ys (yOf d)<rem (yOf d) 12:=by rw[a1Y];have:=FK (yOf d);omega
 have:=b4I (yOf d) 12 (d -ys (yOf d)) l7 l7 hr;have e0:II (yOf d) (12 -12)=0:=rfl;show ys (yOf d)+II (yOf d) ((mo (yOf d) 12 (d -ys (yOf d))).2 -1).toNat+((mo (yOf d) 12 (d -ys (yOf d))).1+1) -1=d;omega
variable {n:Int}
theorem m_(h:0<=n):Lib.itoa n=Lib.decDigits n.toNat:=by unfold Lib.itoa;rw[if_neg l7]
theorem b8K:∀k:Fin 32,(Lib.decDigits k.val).length=if k.val<10 then 1 else 2:=by
 intro k;rcases mP k.val 10 with h|h
 .rw[Lib.decDigits,dif_pos h,if_pos h];rfl
 .rw[Lib.decDigits,dif_neg l7,if_neg l7,Lib.decDigits,dif_pos (show k.val / 10<10 by omega)];rfl
theorem b2O(u:Nat)(h1:1000<=u)(h2:u<10000):(Lib.decDigits u).length=4:=by rw[Lib.decDigits,dif_neg l7,Lib.decDigits,dif_neg l7,Lib.decDigits,dif_neg l7,Lib.decDigits,dif_pos l7];rfl
theorem c5g(z:Nat)(l:c5y):wz 0 (List.replicate z 48++l)=wz 0 l:=by
 induction z with
 |zero=>rfl|succ z ih=>rw[kZ,P8];show wz (10*0+0) _=_;exact ih
theorem MJ(w:Nat)(h0:0<=n):wz 0 (Ha n w)=n.toNat/\Dg (Ha n w):=by
 unfold Ha;rw[m_ h0];refine⟨by rw[c5g,Xw],λc hc=>?_⟩;rcases E5.1 hc with hc|hc
 .have:=List.eq_of_mem_replicate hc;subst this;decide
 .exact Vr _ c hc
theorem a6h(h0:0<=n)(h1:n<=31):(Ha n 2).length=2:=by unfold Ha;rw[m_ h0];have hl:=b8K ⟨n.toNat,l7⟩;dsimp only at hl;rw[E8,jP,hl];split<;>omega
theorem b4L(h0:1000<=n)(h1:n<10000):(Ha n 4).length=4:=by unfold Ha;rw[m_ l7];rw[E8,jP,b2O _ l7 l7]
def ddF(x:Int×c5y×Int):Option (Out (Int×c5y×Int) Int (Int×Bool)):=
   l9 (I7 x.2.2 (x8 x.2.1))
    (l9 (I7 (uY x.2.1 x.2.2) 48) (some (Out.rt (0,false)))
     (l9 (I7 57 (uY x.2.1 x.2.2)) (some (Out.rt (0,false)))
      (some
       (Out.nx
        (G6 IntKind.i64 (Pn IntKind.i64 x.1 10)
          (wrap IntKind.i64 (Y5 IntKind.i32 (uY x.2.1 x.2.2) 48)),
         x.2.1,yO x.2.1 x.2.2)))))
    (some (Out.ex x.1))
theorem a8U{s:c5y} :∀(g pre:c5y) (v m:Nat),s=pre++g->Dg g->wz v g<=100000000000000000->fD ddF (m+1+g.length) ((v:Int),s,(pre.length:Int))=some (.inl (wz v g:Int))
 |[],pre,v,m,h,hg,hv=>by rw[D8]at h;subst h;rw[I5,aX,dC];unfold ddF;simp only[aP s,o6];rfl|c::g,pre,v,m,h,hg,hv=>by
  have hc:s[pre.length]? =some c:=by rw[h,F6 (A8 _),aH];rfl
  have hb:=Vs (hg c A7);obtain⟨r1,r2⟩:=Hm hc l7;have hv1:=Uw g (10*v+(c.toNat -48));rw[show wz v (c::g)=wz (10*v+(c.toNat -48)) g from rfl]at hv;have hw:wrap .i64 (Y5 .i32 (c.toNat:Int) 48)=((c.toNat -48:Nat):Int):=by
   have h1:Y5 .i32 (c.toNat:Int) 48=((c.toNat -48:Nat):Int):=by unfold Y5 IntKind.wrap;simp[IntKind.signed,IntKind.bits];omega
   rw[h1];exact uQ bI
  have st:ddF ((v:Int),s,(pre.length:Int))=some (.nx (((10*v+(c.toNat -48):Nat):Int),s,((pre.length+1:Nat):Int))):=by unfold ddF;simp only[Z8 hc,o7,r1,r2,hw];rw[U5 l7,o6,U5 l7,o6,Kz bI,eG bI];congr 3;omega
  rw[D7,show m+1+(g.length+1)=(m+1+g.length)+1 by omega,dC,st];have:=a8U (s:=s) g (pre++[c]) (10*v+(c.toNat -48)) m (by rw[h];simp) (λd hd=>hg d (by simp[hd])) hv;rw[show(pre++[c]).length=pre.length+1 by simp]at this;exact this
theorem QG{g:c5y}(hg:Dg g)(hv:wz 0 g<=100000000000000000)(hl:g.length<=1000):zu g=some ((wz 0 g:Int),true):=by
 unfold zu;have:Y9 ddF (0,g,0)=some (.inl (wz 0 g:Int)):=by unfold Y9;rw[show aT=(aT -1 -g.length)+1+g.length by unfold aT;omega];exact a8U (s:=g) g [] 0 _ rfl hg hv
 refine X5 this ?_;rfl
theorem ZQ(h0:0<=d)(h:d<=109572):Ih (nR d)=some (d,0):=by
 have hb:=XC h0 h;have l1:=b4L (n:=(ymd d).1) l7 l7;have l2:=a6h (n:=(ymd d).2.1) l7 l7;have l3:=a6h (n:=(ymd d).2.2) l7 l7;obtain⟨v1,g1⟩:=MJ (n:=(ymd d).1) 4 l7;obtain⟨v2,g2⟩:=MJ (n:=(ymd d).2.1) 2 l7;obtain⟨v3,g3⟩:=MJ (n:=(ymd d).2.2) 2 l7;unfold nR;rw[if_pos ⟨h0,h⟩];have hfr:zQ (ymd d).1 (ymd d).2.1 (ymd d).2.2=some (d,0):=by rw[a3u l7 l7 l7 (b8O h0 h),b2H h0 h]
 generalize Ha (ymd d).1 4=A at*;generalize Ha (ymd d).2.1 2=B at*;generalize Ha (ymd d).2.2 2=C at*;unfold Ih;have hs:A++45::B++45::C=A++(45::(B++(45::C))):=A7;rw[hs];have e4:sat (A++(45::(B++(45::C)))) 4=some 45:=by rw[show(4:Int)=((4:Nat):Int)from rfl,yC,F6 l7,l1];rfl
 have e7:sat (A++(45::(B++(45::C)))) 7=some 45:=by rw[show(7:Int)=((7:Nat):Int)from rfl,yC,F6 l7,l1,show 7 -4=2+1 from rfl,pY,F6 l7,l2];rfl
 have q1:gJ (A++(45::(B++(45::C)))) 0 4=some A:=by rw[BQ l7 F8,show(4:Int).toNat=A.length by omega,gG]
 have q2:gJ (A++(45::(B++(45::C)))) 5 7=some B:=by rw[Ug l7 l7 F8];rw[show A++(45::(B++(45::C)))=(A++[45])++(B++(45::C)) by simp,show(7:Int).toNat=(A++[45]).length+B.length by simp;omega,List.take_length_add_append,show(5:Int).toNat=(A++[45]).length by simp;omega,aB,gG]
 have q3:gJ (A++(45::(B++(45::C)))) 8 (x8 (A++(45::(B++(45::C)))))=some C:=by rw[qQ l7 F8];rw[show A++(45::(B++(45::C)))=(A++[45]++B++[45])++C by simp,show(8:Int).toNat=(A++[45]++B++[45]).length by simp;omega,aB]
 rw[show D6 (x8 (A++(45::(B++(45::C))))) 10=true from O8 (by unfold x8;simp;omega),G8,o6,e4,o9,O8 rfl,G8,o6,e7,o9,O8 rfl,G8,o6,o9,Y4];rw[q1,o9,QG g1 l7 l7,o9,q2,o9,QG g2 l7 l7,o9,q3,o9,QG g3 l7 l7,o9,G8,o6,o6,o6,v1,v2,v3];rw[show(((ymd d).1.toNat:Nat):Int)=(ymd d).1 by omega,show(((ymd d).2.1.toNat:Nat):Int)=(ymd d).2.1 by omega,show(((ymd d).2.2.toNat:Nat):Int)=(ymd d).2.2 by omega,hfr,o9]
theorem ZP(h0:0<=d)(h:d<=109572):∃A B C:c5y,nR d=A++(45::(B++(45::C)))/\A.length=4/\B.length=2/\C.length=2/\Dg A/\Dg B/\Dg C:=by have hb:=XC h0 h;refine⟨Ha (ymd d).1 4,Ha (ymd d).2.1 2,Ha (ymd d).2.2 2,?_,b4L l7 l7,a6h l7 l7,a6h l7 l7,(MJ 4 l7).2,(MJ 2 l7).2,(MJ 2 l7).2⟩;unfold nR;rw[if_pos ⟨h0,h⟩];simp
theorem b3Q(h0:0<=n)(h:n<=109572)(hr:HdN Vy r)(hl:(nR n++r).length<=1000000):vz (5,nR n,n) (nR n) r:=by
 obtain⟨A,B,C,e,a1,a2,a3,a4,a5,a6⟩:=ZP h0 h;have hp:=ZQ h0 h;rw[e]at hl hp ⊢;have hne:A≠[]:=by intro e;rw[e]at a1;simp at a1
 have hrd:HdN yI r:=λc t e=>by have:=hr c t e;unfold Vy at this;simp only[di]at this;exact this.1.1.2
 have hq:A++(45::(B++(45::C)))++r=A++(45::(B++(45::(C++r)))):=A7;unfold vz;have hl' :(A++(45::(B++(45::(C++r))))).length<=1000000:=by rw[←hq];exact hl
 rw[hq,Ql a4 hne];unfold nZ;have hdf:qP (A++(45::(B++(45::(C++r)))))=some true:=by
  unfold qP;have e0:=qJ hl' 0 l7;rw[dG,Jl a4 (λc t e=>by cases e;rfl),show((0:Nat):Int)=0 from rfl]at e0;have d5:(A++(45::(B++(45::(C++r))))).drop 5=B++(45::(C++r)):=by rw[show A++(45::(B++(45::(C++r))))=(A++[45])++(B++(45::(C++r))) by simp];exact List.drop_left' F8
  have d8:(A++(45::(B++(45::(C++r))))).drop 8=C++r:=by rw[show A++(45::(B++(45::(C++r))))=(A++[45]++B++[45])++(C++r) by simp];exact List.drop_left' F8
  have e5:lh (A++(45::(B++(45::(C++r))))) 5=some (B.length:Int):=by have t:=qJ hl' 5 l7;rw[d5,Jl a5 (λc t e=>by cases e;rfl)]at t;exact t
  have e8:lh (A++(45::(B++(45::(C++r))))) 8=some (C.length:Int):=by have t:=qJ hl' 8 l7;rw[d8,Jl a6 hrd]at t;exact t
  have s4:sat (A++(45::(B++(45::(C++r))))) 4=some 45:=by rw[show(4:Int)=((4:Nat):Int)from rfl,yC,F6 l7,a1];rfl
  have s7:sat (A++(45::(B++(45::(C++r))))) 7=some 45:=by rw[show(7:Int)=((7:Nat):Int)from rfl,yC,F6 l7,a1,show 7 -4=2+1 from rfl,pY,F6 l7,a2];rfl
  rw[e0,o9,a1,show D6 ((4:Nat):Int) 4=true from rfl,o7,e5,o9,a2,show D6 ((2:Nat):Int) 2=true from rfl,o7,e8,o9,a3,show X6 2 ((2:Nat):Int)=true from rfl,o7,s4,o9,O8 rfl,o7,s7,o9,O8 rfl]
 rw[hdf,o9,G8,o6,o9,Y4];have hn:jZ 5 (A++(45::(B++(45::C))))=some (n,0):=by unfold jZ;simp (disch:=decide) only[O8,o7];rw[hp,o9,O8 rfl,o7,U5 (by simp only;omega)];rfl
 have:=Uj (w:=A++(45::(B++(45::C)))) hr hl hn;rw[hq]at this;have hlen:((A++(45::(B++(45::C)))).length:Int)=10:=by simp;omega
 rw[hlen]at this ⊢;exact this
abbrev It:Type:=Option Z7
def eF:List It->c5y
 |[]=>[]|none::L=>32::eF L|some k::L=>k.2.1++eF L
theorem qi:∀A B:List It,eF (A++B)=eF A++eF B
 |[],B=>rfl|none::A,B=>by rw[P8];simp only[eF];rw[qi A B];rfl|some k::A,B=>by rw[P8];simp only[eF];rw[qi A B,F5]
def xZ(L:List It):List Z7:=L.filterMap id
theorem iy(A B:List It):xZ (A++B)=xZ A++xZ B:=List.filterMap_append
def b3U(c:UInt8):Bool:=decide (c=32) || decide (c=40) || decide (c=41) || decide (c=44) || decide (c=58)
def HdS(r:c5y):Prop:=∀c t,r=c::t->b3U c=true
variable {c:UInt8}
theorem a8c(h:b3U c=true):c=32\/c=40\/c=41\/c=44\/c=58:=by unfold b3U at h;simp only[jM,decide_eq_true_eq]at h;rcases h with(((h|h)|h)|h)|h<;>simp[h]
theorem a5I{P:UInt8->Bool}(h:HdS r)(h1:P 32=false)(h2:P 40=false)(h3:P 41=false)(h4:P 44=false)(h5:P 58=false):HdN P r:=by intro c t e;rcases a8c (h c t e)with rfl|rfl|rfl|rfl|rfl<;>assumption
theorem a9i(h:HdS r):HdN yR r:=a5I h E9 E9 E9 E9 E9
theorem Ua(h:HdS r):HdN Vy r:=a5I h E9 E9 E9 E9 E9
theorem b6j(h:HdS r):HdN (λc=>decide (c=45)) r:=a5I h E9 E9 E9 E9 E9
theorem b6k(h:HdS r):HdN (λc=>decide (c=61)) r:=a5I h E9 E9 E9 E9 E9
def a5G(k:Z7):Prop:=∃c:UInt8,(c=40\/c=41\/c=44\/c=58\/c=43\/c=45\/c=42)/\k=(7,[c],0)
def prB(c:UInt8):Bool:=decide (32<=c.toNat)&&decide (c.toNat<=126)
structure TokOk (k:Z7):Prop where
 pr:∀c∈k.2.1,prB c=true
 ne:∃c t,k.2.1=c::t/\Qz c=false
 sc:a5G k\/∀r,HdS r->(k.2.1++r).length<=1000000->vz k k.2.1 r
def WSR:List It->c5y->Prop
 |[],_=>True|none::L,R=>HdN Qz (eF L++R)/\WSR L R|some k::L,R=>TokOk k/\(a5G k\/HdS (eF L++R))/\WSR L R
theorem a0n:∀(A B:List It) (R:c5y),WSR A (eF B++R)->WSR B R->WSR (A++B) R
 |[],B,R,_,h=>h|none::A,B,R,h,h2=>by refine⟨?_,a0n A B R h.2 h2⟩;show HdN Qz (eF (A++B)++R);rw[qi,F5];exact h.1|some k::A,B,R,h,h2=>by refine⟨h.1,?_,a0n A B R h.2.2 h2⟩;show a5G k\/HdS (eF (A++B)++R);rw[qi,F5];exact h.2.1
def yK:Nat->List It->List dA
 |_,[]=>[]|o,none::L=>yK (o+1) L|o,some k::L=>(k.1,k.2.1,k.2.2,(o:Int))::yK (o+k.2.1.length) L
theorem Fb:∀(L:List It) (o:Nat),(yK o L).map (λx=>((x.1,x.2.1,x.2.2.1):Z7))=xZ L
 |[],o=>rfl|none::L,o=>by show(yK (o+1) L).map _=_;rw[Fb L (o+1)];rfl|some k::L,o=>by show _::(yK (o+k.2.1.length) L).map _=_;rw[Fb L];rfl
theorem a7M:∀(L:List It) (o:Nat),(yK o L).length=(xZ L).length:=λL o=>by rw[←Fb L o,J6]
def tkF(a0:c5y)(x:List dA×Int):Option (Out (List dA×Int) (List dA) (List dA×Int×Int)):=
     l9 (I7 x.2 (x8 a0))
      (o5 (gJ a0 x.2 (x8 a0)) λ(x_1:c5y)=>
       o5 (tY x_1) λ(x_2:dA×F9)=>
        l9 (J8 (D6 x_2.2.2 0)) (some (Out.rt ([],x.2,x_2.2.2)))
         (o5 (eY x.1 [(x_2.1.1,x_2.1.2.1,x_2.1.2.2.1,x.2)]) λ(x_3:List dA)=>
          o5 (tZ a0 (G6 IntKind.i64 x.2 x_2.2.1)) λ(x:Int)=>some (Out.nx (x_3,x))))
      (some (Out.ex x.1))
variable {L:List It}
theorem a6M(h:WSR L [])(hn:∀M,L≠none::M):HdN Qz (eF L):=by
 cases L with
 |nil=>intro c t e;cases e|cons a L=>
  cases a with
  |none=>exact absurd rfl (hn L)|some k=>obtain⟨c,t,e,hb⟩:=h.1.ne;intro x y e2;simp only[eF,e,P8,G5]at e2;rw[←e2.1];exact hb
theorem b2f{k:Z7}(h:TokOk k)(h2:a5G k\/HdS r)(hl:(k.2.1++r).length<=1000000):vz k k.2.1 r:=by
 rcases h.sc with⟨c,hc,rfl⟩|hs
 .exact a2m hc r
 .rcases h2 with⟨c,hc,rfl⟩|h2
  .exact a2m hc r
  .exact hs r h2 hl
theorem Qo{s:c5y}(hs:s.length<=65536):∀(L:List It) (pre:c5y) (acc:List dA) (m:Nat),s=pre++eF L->WSR L []->(∀M,L≠none::M)->acc.length+L.length<=1000000->
  fD (tkF s) (m+L.length+1) (acc,(pre.length:Int))=some (.inl (acc++yK pre.length L))
 |[],pre,acc,m,h,hw,hn,ha=>by rw[eF,D8]at h;subst h;rw[dC];unfold tkF;simp only[aP s,o6];rw[show yK s.length []=[]from rfl,D8]|none::L,pre,acc,m,h,hw,hn,ha=>absurd rfl (hn L)|some k::L,pre,acc,m,h,hw,hn,ha=>by
  have hlen:=congrArg List.length h;simp only[eF,E8]at hlen;obtain⟨h1,h2,h3⟩:=hw;rw[D8]at h2;have hkl:1<=k.2.1.length:=by obtain⟨c,t,e,-⟩:=h1.ne;rw[e];simp
  have hsc:=b2f h1 h2 F8;unfold vz at hsc;have hsub:gJ s (pre.length:Int) (x8 s)=some (k.2.1++eF L):=by rw[qQ l7 l7,H6,h,aB];rfl
  simp only[D7]at ha;have hat:G6 .i64 (pre.length:Int) (k.2.1.length:Int)=((pre.length+k.2.1.length:Nat):Int):=by rw[eG bI];omega
  rw[show m+(some k::L).length+1=(m+L.length+1)+1 by simp;omega,dC];have key:∀j:Nat,tZ s ((pre.length+k.2.1.length:Nat):Int)=some (j:Int)->tkF s (acc,(pre.length:Int))=some (.nx (acc++[(k.1,k.2.1,k.2.2,(pre.length:Int))],(j:Int))):=by intro j hj;unfold tkF;simp only[aA (show(pre.length:Int)<x8 s by unfold x8;omega),o7,hsub,o9,hsc,O8 (rfl:(0:Int)=0),G8,o6];rw[qm _ l7,o9,hat,hj,o9]
  have hfin:∀M:List It,yK pre.length (some k::L)=(k.1,k.2.1,k.2.2,(pre.length:Int))::yK (pre.length+k.2.1.length) L:=λ_=>rfl;rw[hfin L];have hpk:s=(pre++k.2.1)++eF L:=by rw[h];simp[eF]
  cases L with
  |nil=>
   rw[key (pre.length+k.2.1.length) (Xg l7 (by rw[hpk,←E8,aB];intro c t e;cases e) l7)]
   have:=Qo hs [] (pre++k.2.1) (acc++[(k.1,k.2.1,k.2.2,(pre.length:Int))]) m (by rw[hpk]) trivial (λM e=>by cases e) F8;rw[E8]at this;simp only;rw[show m+([]:List It).length+1=m+([]:List It).length+1 from rfl,this];simp
  |cons a L=>
   cases a with
   |some k' =>
    rw[key (pre.length+k.2.1.length) (Xg l7 (by rw[hpk,←E8,aB];exact a6M h3 (λM e=>by cases e)) l7)]
    have:=Qo hs (some k' ::L) (pre++k.2.1) (acc++[(k.1,k.2.1,k.2.2,(pre.length:Int))]) m hpk h3 (λM e=>by cases e) (by simp at ha ⊢;omega);rw[E8]at this;simp only;rw[this];simp
   |none=>
    have hb:HdN Qz (eF L):=by have:=h3.1;rw[D8]at this;exact this
    have hnb:∀M,L≠none::M:=λM e=>by rw[e]at hb;have:=hb 32 (eF M) rfl;revert this;decide
    have hp2:s=(pre++k.2.1++[32])++eF L:=by rw[hpk];simp[eF]
    have hpl:(pre++k.2.1++[32]).length=pre.length+k.2.1.length+1:=by simp;omega
    rw[key (pre.length+k.2.1.length+1) (b1g l7 (by
     rw[hpk,F6 A7,←E8,aH];rfl) (by
     rw[←hpl,hp2,aB];exact hb))]
    have:=Qo hs L (pre++k.2.1++[32]) (acc++[(k.1,k.2.1,k.2.2,(pre.length:Int))]) (m+1) hp2 h3.2 hnb (by simp at ha ⊢;omega);rw[hpl]at this;simp only;rw[show m+(none::L).length+1=m+1+L.length+1 by simp;omega,this];simp[yK]
theorem a2D(hs:(eF L).length<=65536)(h:WSR L [])(hn:∀M,L≠none::M)(hl:L.length<=1000000):Af (eF L)=some (yK 0 L,0,0):=by unfold Af;have h0:tZ (eF L) ((0:Nat):Int)=some ((0:Nat):Int):=Xg l7 (by rw[dG];exact a6M h hn) l7;rw[show((0:Nat):Int)=0 from rfl]at h0;rw[U5 (show x8 (eF L)<=65536 by unfold x8;omega),o6,h0,o9];have:=Qo hs L [] [] (aT -L.length -1) rfl h hn F8;rw[show aT -L.length -1+L.length+1=aT by unfold aT;omega]at this;rw[H9]at this;refine X5 (show Y9 (tkF (eF L)) ([],0)=_ from this) ?_;rfl
def nm(w:c5y):It:=some (1,w,0)
def sy(c:UInt8):It:=some (7,[c],0)
def MZ(k:Int)(u:Nat):c5y:=l9 (D6 k 2) (Lib.decDigits u) (l9 (D6 k 3) (wZ u 2) (wZ u 4++[37]))
def TL(k m:Int):List It:=
 l9 (D6 k 1) [nm (l9 (D6 m 0) [102,97,108,115,101] [116,114,117,101])]
 (l9 (D6 k 5) [some (5,nR m,m)] (l9 (I7 m 0) [sy 45,some (k,MZ k m.natAbs,(m.natAbs:Int))] [some (k,MZ k m.natAbs,(m.natAbs:Int))]))
def KC(n:Int×Int)(N:D9):List It:=
 l9 (X6 n.1 5) (TL n.1 n.2)
 (l9 (D6 n.1 6) [nm ((U0 N.1 (eP .i64 n.2 16)).getD ([],[])).1,sy 58,nm (gtN ((U0 N.1 (eP .i64 n.2 16)).getD ([],[])).2 (jB n.2 16))]
 (l9 (D6 n.1 7) [nm (gtN N.2.2.1 n.2)]
 (l9 (D6 n.1 8) [nm (gtN N.2.2.2.1 n.2)]
 (l9 (D6 n.1 9) [nm [116,111,100,97,121]]
 (l9 (D6 n.1 35) [nm [99,111,117,110,116],sy 40,sy 41] [nm (eQ n.1),sy 40,nm (gtN N.2.2.2.2 n.2),sy 41])))))
def wiI(L:List It)(cls c:Int):List It:=l9 (I7 cls c) ([sy 40]++L++[sy 41]) L
def b3g(n:Int×Int)(N:D9)(num:Bool)(L:List It)(cls:Int):List It:=
 l9 (D6 n.1 33) ([nm (eQ n.1),sy 40,nm (gtN N.2.1 n.2),sy 44,none]++L++[sy 41])
 (l9 (D6 n.1 34) ([nm (eQ n.1),sy 40,nm (gtN N.2.1 (eP .i64 n.2 8)),sy 44,none]++L++[sy 44,none,nm (lF (jB n.2 8)),sy 41])
 (l9 (D6 n.1 25) ([nm [110,111,116],none]++wiI L cls 6)
 (l9 (D6 n.1 10) ([sy 45]++l9 num ([sy 40]++L++[sy 41]) (wiI L cls 6)) ([nm (eQ n.1),sy 40]++L++[sy 41]))))
def opK(k:Int):Z7:=(l9 (D6 k 24) 1 (l9 (D6 k 23) 1 7),(kP k).1,0)
def OI(n:Int×Int)(A:List It)(ca:Int)(B:List It)(cb:Int):List It:=
 l9 (Va n.1) ([nm (eQ n.1),sy 40]++A++[sy 44,none]++B++[sy 41])
 (l9 (U_ n.1) ([nm (eQ n.1),sy 40]++A++[sy 44,none]++B++[sy 44,none,nm (lF n.2),sy 41])
 (wiI A ca (l9 (D6 (kP n.1).2 3) 4 (kP n.1).2)++[none,some (opK n.1),none]++wiI B cb ((kP n.1).2+1)))
def ifI(A B C:List It):List It:=[nm [105,102],none]++A++[none,nm [116,104,101,110],none]++B++[none,nm [101,108,115,101],none]++C
def itT(N:D9):XT->List It
 | .l0 n=>KC n N| .l1 n a=>b3g n N (Bq a.node.1) (itT N a) (txT N a).2| .l2 n a b=>OI n (itT N a) (txT N a).2 (itT N b) (txT N b).2| .l3 n a b c=>ifI (itT N a) (itT N b) (itT N c)
variable {N:D9}
theorem Gh{k m lo hi:Int}(hk:1<=k/\k<=5)(hb:fZ (k,0) []=some (lo,hi))(h:flS (k,m) N=0):lo<=m/\m<=hi:=by
 unfold flS Y6 wX at h;simp only[ay hk.1,ay hk.2,o7,o9,hb]at h;by_cases h1:m<lo
 .rw[aA h1]at h;cases h
 by_cases h2:hi<m
 .rw[U5 l7,aA h2]at h;cases h
 omega
variable {k:Int}{m:Int}
theorem b2W(hk:k=1\/k=2\/k=3\/k=4\/k=5)(hm:kQ m)(h:flS (k,m) N=0):ny (k,0,m) []=some (eF (TL k m),0):=by
 have f4:=LY (k:=4) hm l7;have key:∀lo hi:Int,fZ (k,0) []=some (lo,hi)->bF (k,0) []=some true->ny (k,0,m) []=(l9 (D6 k 1) (l9 (D6 m 0) (some ([102,97,108,115,101],0)) (some ([116,114,117,101],0)))
   (l9 (D6 k 2) (some (Lib.itoa m,0)) (l9 (D6 k 3) (some (Ky m 2,0)) (l9 (D6 k 4) (some (Ky m 4++[37],0)) (some (nR m,0)))))):=by
  intro lo hi hb hv;obtain⟨h1,h2⟩:=Gh l7 hb h;rw[zg [] hm];unfold Ap zn Fg PS;simp only[zn,o9,hv,G8,o6,o7,hb,ay h1,ay h2];rw[vW hm,show kS m 2=_ from sZ (k:=2) hm l7,show kS m 4=_ from sZ (k:=4) hm l7,JA];simp only[o9];rw[P6 F8,o9];rcases hk with rfl|rfl|rfl|rfl|rfl<;>rfl
 rcases hk with rfl|rfl|rfl|rfl|rfl
 .rw[key 0 1 rfl rfl];simp (disch:=decide) only[O8,o7,TL,nm,eF,D8];cases D6 m 0<;>rfl
 .rw[key _ _ rfl rfl];simp (disch:=decide) only[O8,O6,o7,o6,TL,MZ];unfold Lib.itoa;by_cases h0:m<0
  .rw[if_pos h0,aA h0];simp[eF,sy,l9]
  .rw[if_neg h0,U5 l7];simp only[o6,eF,D8];rw[show m.toNat=m.natAbs by omega]
 .rw[key _ _ rfl rfl];simp (disch:=decide) only[O8,O6,o7,o6,TL,MZ];unfold Ky;by_cases h0:m<0
  .rw[if_pos h0,aA h0];simp[eF,sy,l9]
  .rw[if_neg h0,U5 l7];simp only[o6,eF,D8]
 .rw[key _ _ rfl rfl];simp (disch:=decide) only[O8,O6,o7,o6,TL,MZ];unfold Ky;by_cases h0:m<0
  .rw[if_pos h0,aA h0];simp[eF,sy,l9]
  .rw[if_neg h0,U5 l7];simp only[o6,eF,D8]
 .rw[key _ _ rfl rfl];simp (disch:=decide) only[O8,O6,o7,o6,TL,eF,D8]
theorem a7p{n:Int×Int}(ha:arF n.1=0)(hm:kQ n.2)(h:flS n N=0):eF (KC n N)=(wK n N).1:=by
 obtain⟨k,m⟩:=n;have lit:(k=1\/k=2\/k=3\/k=4\/k=5)->eF (KC (k,m) N)=(wK (k,m) N).1:=by intro hk;have:=b2W hk hm h;unfold KC wK;simp only[ay (show k<=5 by omega),o7];rw[←zg [] hm,this];rfl
 rcases ar0 ha with rfl|rfl|rfl|rfl|rfl|rfl|rfl|rfl|rfl|rfl|rfl|rfl|rfl|rfl
 .exact lit l7
 .exact lit l7
 .exact lit l7
 .exact lit l7
 .exact lit l7
 all_goals
  unfold KC wK;simp (disch:=decide) only[O8,O6,bW,o7,o6,nm,sy,eF];simp
theorem a0l(L:List It)(t:Tx)(c:Int)(h:eF L=t.1):eF (wiI L t.2 c)=wiS t c:=by
 unfold wiI wiS;cases I7 t.2 c
 .exact h
 .simp only[o7];rw[qi,qi,h];rfl
theorem EY{N:D9} :∀(t:XT),t.wf->(∀n∈t.post,kQ n.2)->(∀n∈t.post,flS n N=0)->eF (itT N t)=(txT N t).1
 | .l0 n,hw,hI,hz=>a7p hw (hI n (by simp[XT.post])) (hz n (by simp[XT.post]))| .l1 n a,hw,hI,hz=>by
  have ia:=EY a hw.2 (λm hm=>hI m (by simp[XT.post,hm])) (λm hm=>hz m (by simp[XT.post,hm]));have w:=a0l (itT N a) (txT N a) 6 ia;show eF (b3g n N (Bq a.node.1) (itT N a) (txT N a).2)=(Oi n N (Bq a.node.1) (txT N a)).1;unfold b3g Oi;cases D6 n.1 33
  case true=>simp only[o7,qi,ia];simp[eF,nm,sy]
  cases D6 n.1 34
  case true=>simp only[o7,o6,qi,ia];simp[eF,nm,sy]
  cases D6 n.1 25
  case true=>simp only[o7,o6,qi,w];simp[eF,nm,sy]
  cases D6 n.1 10
  case true=>
   simp only[o7,o6,qi];cases Bq a.node.1
   .simp only[o6,w];simp[eF,nm,sy]
   .simp only[o7,qi,ia];simp[eF,nm,sy]
  .simp only[o6,qi,ia];simp[eF,nm,sy]
 | .l2 n a b,hw,hI,hz=>by
  have ia:=EY a hw.2.1 (λm hm=>hI m (by simp[XT.post,hm])) (λm hm=>hz m (by simp[XT.post,hm]));have ib:=EY b hw.2.2 (λm hm=>hI m (by simp[XT.post,hm])) (λm hm=>hz m (by simp[XT.post,hm]));have w1:=a0l (itT N a) (txT N a) (l9 (D6 (kP n.1).2 3) 4 (kP n.1).2) ia;have w2:=a0l (itT N b) (txT N b) ((kP n.1).2+1) ib;show eF (OI n (itT N a) (txT N a).2 (itT N b) (txT N b).2)=(Jm n (txT N a) (txT N b)).1;unfold OI Jm;cases Va n.1
  case true=>simp only[o7,qi,ia,ib];simp[eF,nm,sy]
  cases U_ n.1
  case true=>simp only[o7,o6,qi,ia,ib];simp[eF,nm,sy]
  .simp only[o6,qi,w1,w2];simp[eF,opK]
 | .l3 n a b c,hw,hI,hz=>by have ia:=EY a hw.2.1 (λm hm=>hI m (by simp[XT.post,hm])) (λm hm=>hz m (by simp[XT.post,hm]));have ib:=EY b hw.2.2.1 (λm hm=>hI m (by simp[XT.post,hm])) (λm hm=>hz m (by simp[XT.post,hm]));have ic:=EY c hw.2.2.2 (λm hm=>hI m (by simp[XT.post,hm])) (λm hm=>hz m (by simp[XT.post,hm]));show eF (ifI (itT N a) (itT N b) (itT N c))=(ifX (txT N a) (txT N b) (txT N c)).1;unfold ifI ifX;simp only[qi,ia,ib,ic];simp[eF,nm]
def wOk(w:c5y):Bool:=match w with|[]=>false|c::t=>IC c&&(c::t).all yR&&decide ((c::t).length<=16)
theorem Lu{s:c5y}(h:nJ s=true):wOk s=true:=by
 cases s with
 |nil=>cases h|cons c r=>rw[GH]at h;simp only[x9]at h;unfold wOk;simp only[x9];exact⟨⟨h.1.1.2,h.1.2⟩,h.1.1.1⟩
theorem a6K(h:yR c=true):prB c=true:=by unfold yR IC at h;unfold prB;simp only[jM,x9,decide_eq_true_eq]at h ⊢;omega
theorem JY(h:yI c=true):prB c=true:=by have:=Vs h;unfold prB;simp only[x9,decide_eq_true_eq];omega
theorem zO{a b:c5y}(ha:∀c∈a,prB c=true)(hb:∀c∈b,prB c=true):∀c∈a++b,prB c=true:=by
 intro c hc;rcases E5.1 hc with h|h
 .exact ha c h
 .exact hb c h
theorem LU{x:UInt8}{b:c5y}(ha:prB x=true)(hb:∀c∈b,prB c=true):∀c∈x::b,prB c=true:=by
 intro c hc;rcases D5.1 hc with rfl|h
 .exact ha
 .exact hb c h
theorem mZ{w:c5y}(h:wOk w=true):TokOk (1,w,0):=by
 cases w with
 |nil=>cases h|cons c t=>unfold wOk at h;simp only[x9]at h;obtain⟨⟨h1,h2⟩,h3⟩:=h;have hb:=a9w h1;refine⟨λx hx=>a6K (dV.1 h2 x hx),⟨c,t,rfl,?_⟩,.inr λr hr hl=>a8a ⟨c,t,rfl,h1⟩ (dV.1 h2) (by simpa using h3) (a9i hr) hl⟩;unfold Qz;simp only[di,decide_eq_false_iff_not];refine⟨⟨?_,?_⟩,?_⟩<;>rintro rfl<;>revert hb<;>decide
theorem CV(hc:c=40\/c=41\/c=44\/c=58\/c=43\/c=45\/c=42):TokOk (7,[c],0):=by
 refine⟨λx hx=>?_,⟨c,[],rfl,?_⟩,.inl ⟨c,hc,rfl⟩⟩
 .simp at hx;subst hx;rcases hc with rfl|rfl|rfl|rfl|rfl|rfl|rfl<;>decide
 rcases hc with rfl|rfl|rfl|rfl|rfl|rfl|rfl<;>decide
theorem ZU{d r:c5y}(hd:Dg d)(h:d≠[]):∃c t,d++r=c::t/\Qz c=false:=by obtain⟨c,t,e,hc,-⟩:=b4z (r:=r) hd h;refine⟨c,t,e,?_⟩;have:=Vs hc;unfold Qz;simp only[di,decide_eq_false_iff_not];refine⟨⟨?_,?_⟩,?_⟩<;>rintro rfl<;>revert this<;>decide
theorem b4g(h:(k=2/\u<=1000000000000)\/(k=3/\u<=1000000000000000)\/(k=4/\u<=1000000000)):TokOk (k,MZ k u,(u:Int)):=by
 rcases h with⟨rfl,hu⟩|⟨rfl,hu⟩|⟨rfl,hu⟩
 .have e:MZ 2 u=Lib.decDigits u:=rfl;have hlen:=tK (u:=u) l7;refine⟨by rw[e];exact λc hc=>JY (Vr u c hc),?_,.inr λr hr hl=>?_⟩
  .rw[e];have:=ZU (r:=[]) (Vr u) (by intro e;rw[e]at hlen;simp at hlen);rw[D8]at this;exact this
  .simp only[e]at hl ⊢;exact b7n hu (Ua hr) (b6j hr) hl
 .have e:MZ 3 u=wZ u 2:=rfl;refine⟨by
   rw[e];obtain⟨d,f,e2,hd,hf,hne,-⟩:=zy (u:=u) (k:=2) l7 l7;rw[e2];exact zO (λc hc=>JY (hd c hc)) (LU E9 (λc hc=>JY (hf c hc))),?_,.inr λr hr hl=>?_⟩
  .rw[e];obtain⟨d,f,e2,hd,hf,hne,-⟩:=zy (u:=u) (k:=2) l7 l7;simp only[e2];exact ZU hd hne
  .simp only[e]at hl ⊢;exact b1b hu (Ua hr) hl
 .have e:MZ 4 u=wZ u 4++[37]:=rfl;refine⟨by
   rw[e];obtain⟨d,f,e2,hd,hf,hne,-⟩:=zy (u:=u) (k:=4) l7 l7;rw[e2];exact zO (zO (λc hc=>JY (hd c hc)) (LU E9 (λc hc=>JY (hf c hc)))) (LU E9 (λc hc=>by cases hc)),?_,.inr λr hr hl=>?_⟩
  .rw[e];obtain⟨d,f,e2,hd,hf,hne,-⟩:=zy (u:=u) (k:=4) l7 l7;simp only[e2,F5];exact ZU hd hne
  .simp only[e]at hl ⊢;exact b3R hu (Ua hr) hl
theorem b2e(h0:0<=n)(h:n<=109572):TokOk (5,nR n,n):=by
 refine⟨?_,?_,.inr λr hr hl=>b3Q h0 h (Ua hr) hl⟩
 .obtain⟨A,B,C,e,a1,a2,a3,a4,a5,a6⟩:=ZP h0 h;rw[e];exact zO (λc hc=>JY (a4 c hc)) (LU E9 (zO (λc hc=>JY (a5 c hc)) (LU E9 (λc hc=>JY (a6 c hc)))))
 obtain⟨A,B,C,e,a1,a2,a3,a4,a5,a6⟩:=ZP h0 h;simp only[e];exact ZU a4 (by intro e;rw[e]at a1;simp at a1)
theorem b8F(hk:k=11\/k=12\/k=13\/k=19\/k=20\/k=21\/k=22\/k=23\/k=24):TokOk (opK k):=by
 rcases hk with rfl|rfl|rfl|rfl|rfl|rfl|rfl|rfl|rfl
 .exact CV (c:=43) A7
 .exact CV (c:=45) A7
 .exact CV (c:=42) A7
 .exact⟨E9,⟨61,[61],rfl,E9⟩,.inr λr hr hl=>Xd (c:=61) A7 r (by simp[opK,kP,oH,D6,l9]at hl;omega)⟩
 .exact⟨E9,⟨33,[61],rfl,E9⟩,.inr λr hr hl=>Xd (c:=33) A7 r (by simp[opK,kP,oH,D6,l9]at hl;omega)⟩
 .exact⟨E9,⟨60,[],rfl,E9⟩,.inr λr hr hl=>b3S r (by simp[opK,kP,oH,D6,l9]at hl;omega) (b6k hr)⟩
 .exact⟨E9,⟨60,[61],rfl,E9⟩,.inr λr hr hl=>Xd (c:=60) A7 r (by simp[opK,kP,oH,D6,l9]at hl;omega)⟩
 .exact mZ (w:=[97,110,100]) E9
 .exact mZ (w:=[111,114]) E9
theorem a5d:∀(L:List It) (R:c5y),WSR L R->∀c∈eF L,prB c=true
 |[],_,_=>λc hc=>by cases hc|none::L,R,h=>LU E9 (a5d L R h.2)|some k::L,R,h=>zO h.1.pr (a5d L R h.2.2)
def StI(L:List It):Prop:=∃k L',L=some k::L' /\TokOk k
theorem b8B(h:StI L)(R:c5y):HdN Qz (eF L++R):=by obtain⟨k,L',rfl,hk⟩:=h;obtain⟨c,t,e,hb⟩:=hk.ne;intro x y e2;simp only[eF,e,P8,G5]at e2;rw[←e2.1];exact hb
theorem OB{L M:List It}(h:StI L):StI (L++M):=by obtain⟨k,L',rfl,hk⟩:=h;exact⟨k,L' ++M,rfl,hk⟩
theorem c4f(h:StI L):∀M,L≠none::M:=by obtain⟨k,L',rfl,-⟩:=h;intro M e;cases e
theorem sO(h:b3U c=true)(x:c5y):HdS (c::x):=λa t e=>by cases e;exact h
theorem a5J:HdS []:=λa t e=>by cases e
variable {R:c5y}
theorem kz(hc:c=40\/c=41\/c=44\/c=58\/c=43\/c=45\/c=42)(h:WSR L R):WSR (sy c::L) R:=⟨CV hc,.inl ⟨c,hc,rfl⟩,h⟩
theorem zK{w:c5y}(hw:wOk w=true)(h:WSR L R)(hs:HdS (eF L++R)):WSR (nm w::L) R:=⟨mZ hw,.inr hs,h⟩
theorem FI(h:WSR L R)(hs:StI L):WSR (none::L) R:=⟨b8B hs R,h⟩
structure WsT (L:List It):Prop where
 st:StI L
 ws:∀R,HdS R->WSR L R
theorem NJ(h:WsT L){M:List It}(hm:WSR M R)(hs:HdS (eF M++R)):WSR (L++M) R:=a0n L M R (h.ws _ hs) hm
theorem a2J(h:WsT L)(cls c:Int):WsT (wiI L cls c):=by
 unfold wiI;cases I7 cls c
 .exact h
 .refine⟨⟨_,_,rfl,CV A7⟩,λR hR=>?_⟩;exact kz A7 (NJ h (kz A7 trivial) (sO E9 _))
structure NmI (N:D9):Prop where
 e:∀e∈N.1,nJ e.1=true/\∀m∈e.2,nJ m=true
 t:∀s∈N.2.1,nJ s=true
 i:∀s∈N.2.2.1,nJ s=true
 d:∀s∈N.2.2.2.1,nJ s=true
 m:∀s∈N.2.2.2.2,nJ s=true
theorem Aa{α:Type}{l:List α}{i:Int}{x:α}(h:U0 l i=some x):x∈l:=(fF h).2.2.1
theorem b_(hm:kQ m)(h:flS (6,m) N=0):∃e,U0 N.1 (eP .i64 m 16)=some e/\U0 e.2 (jB m 16)=some (gtN e.2 (jB m 16))/\0<=eP .i64 m 16/\0<=jB m 16/\jB m 16<16/\m=16*eP .i64 m 16+jB m 16:=by
 have hff:Y6 (6,m) N=(l9 (I7 m 0) (some 6)
    (l9 (X6 (x8 N.1) (eP .i64 m 16)) (some 6)
     (o5 (U0 N.1 (eP .i64 m 16)) λ(x:gm)=>
      l9 (X6 (x8 x.2) (jB m 16)) (some 6) (some 0)))):=rfl
 unfold flS at h;rw[hff]at h;by_cases h0:m<0
 .rw[aA h0]at h;cases h
 by_cases h1:x8 N.1<=eP .i64 m 16
 .rw[U5 l7,ay h1]at h;cases h
 have hq:eP .i64 m 16=m / 16:=by rw[PR hm 16 (.inr rfl),pg l7]
 have hr0:jB m 16=m % 16:=Ce l7;obtain⟨en,he,hmem⟩:=vP (l:=N.1) (i:=eP .i64 m 16) l7 l7;rw[U5 l7,bW l7,o6,o6,he,o9]at h;by_cases h2:x8 en.2<=jB m 16
 .rw[ay h2]at h;cases h
 exact⟨en,he,(Ob l7 l7).1,l7,l7,l7,l7⟩
theorem b2U{n:Int×Int}(hN:NmI N)(ha:arF n.1=0)(hm:kQ n.2)(h:flS n N=0):WsT (KC n N):=by
 obtain⟨k,m⟩:=n;have one:∀w,wOk w=true->WsT [nm w]:=λw hw=>⟨⟨_,_,rfl,mZ hw⟩,λR hR=>zK hw trivial hR⟩;have num:∀k:Int,∀m:Int,(k=2/\m.natAbs<=1000000000000)\/(k=3/\m.natAbs<=1000000000000000)\/(k=4/\m.natAbs<=1000000000)->WsT (TL k m):=by
  intro k m hk;have ht:=b4g hk;have e:TL k m=l9 (I7 m 0) [sy 45,some (k,MZ k m.natAbs,(m.natAbs:Int))] [some (k,MZ k m.natAbs,(m.natAbs:Int))]:=by unfold TL;rw[O6 (show k≠1 by omega),O6 (show k≠5 by omega)];rfl
  rw[e];cases I7 m 0
  .exact⟨⟨_,_,rfl,ht⟩,λR hR=>⟨ht,.inr hR,trivial⟩⟩
  .exact⟨⟨_,_,rfl,CV A7⟩,λR hR=>kz A7 ⟨ht,.inr hR,trivial⟩⟩
 have call:(k=36\/k=37\/k=38\/k=39)->WsT (KC (k,m) N):=by
  intro hk;have hg:U0 N.2.2.2.2 m=some (gtN N.2.2.2.2 m):=by rcases hk with rfl|rfl|rfl|rfl<;>exact ET rfl h
  have hw:wOk (eQ k)=true:=by rcases hk with rfl|rfl|rfl|rfl<;>decide
  have e:KC (k,m) N=[nm (eQ k),sy 40,nm (gtN N.2.2.2.2 m),sy 41]:=by rcases hk with rfl|rfl|rfl|rfl<;>rfl
  rw[e];exact⟨⟨_,_,rfl,mZ hw⟩,λR hR=>zK hw (kz A7 (zK (Lu (hN.m _ (Aa hg))) (kz A7 trivial) (sO E9 _))) (sO E9 _)⟩
 rcases ar0 ha with rfl|rfl|rfl|rfl|rfl|rfl|rfl|rfl|rfl|rfl|rfl|rfl|rfl|rfl
 .show WsT [nm (l9 (D6 m 0) [102,97,108,115,101] [116,114,117,101])];cases D6 m 0
  .exact one _ E9
  .exact one _ E9
 .have hb:=Gh (k:=2) l7 rfl h;exact num 2 m l7
 .have hb:=Gh (k:=3) l7 rfl h;exact num 3 m l7
 .have hb:=Gh (k:=4) l7 rfl h;exact num 4 m l7
 .have hb:=Gh (k:=5) l7 rfl h;have ht:=b2e hb.1 hb.2;exact⟨⟨_,_,rfl,ht⟩,λR hR=>⟨ht,.inr hR,trivial⟩⟩
 .obtain⟨e,h1,h2,-⟩:=b_ hm h;have ee:=hN.e e (Aa h1);have eq:KC (6,m) N=[nm e.1,sy 58,nm (gtN e.2 (jB m 16))]:=by
   show[nm ((U0 N.1 (eP .i64 m 16)).getD ([],[])).1,sy 58,nm (gtN ((U0 N.1 (eP .i64 m 16)).getD ([],[])).2 (jB m 16))]=_;rw[h1];rfl
  rw[eq];exact⟨⟨_,_,rfl,mZ (Lu ee.1)⟩,λR hR=>zK (Lu ee.1) (kz A7 (zK (Lu (ee.2 _ (Aa h2))) trivial hR)) (sO E9 _)⟩
 .exact one _ (Lu (hN.i _ (Aa (ET (n:=(7,m)) (l:=N.2.2.1) rfl h))))
 .exact one _ (Lu (hN.d _ (Aa (ET (n:=(8,m)) (l:=N.2.2.2.1) rfl h))))
 .exact one _ E9
 .exact⟨⟨_,_,rfl,mZ (w:=[99,111,117,110,116]) E9⟩,λR hR=>zK E9 (kz A7 (kz A7 trivial)) (sO E9 _)⟩
 .exact call l7
 .exact call l7
 .exact call l7
 .exact call l7
theorem b6t:∀j:Fin 6,wOk (lF (j.val:Int))=true:=by decide
theorem a1x(h:0<=m/\m<=5):wOk (lF m)=true:=by obtain⟨j,rfl⟩:∃j:Fin 6,m=(j.val:Int):=⟨⟨m.toNat,l7⟩,by simp;omega⟩;exact b6t j
theorem b6B{n:Int×Int}(hN:NmI N)(ha:arF n.1=1)(hm:kQ n.2)(h:flS n N=0)(num:Bool)(hL:WsT L)(cls:Int):WsT (b3g n N num L cls):=by
 obtain⟨k,m⟩:=n;have cl:∀R,WSR (L++[sy 41]) R:=λR=>NJ hL (kz A7 trivial) (sO E9 _);rcases ar1 ha with rfl|rfl|rfl|rfl|rfl|rfl
 .show WsT ([sy 45]++l9 num ([sy 40]++L++[sy 41]) (wiI L cls 6));cases num
  .exact⟨⟨_,_,rfl,CV A7⟩,λR hR=>kz A7 ((a2J hL cls 6).ws R hR)⟩
  .exact⟨⟨_,_,rfl,CV A7⟩,λR hR=>kz A7 (kz A7 (cl R))⟩
 .show WsT ([nm [110,111,116],none]++wiI L cls 6);exact⟨⟨_,_,rfl,mZ (w:=[110,111,116]) E9⟩,λR hR=>zK E9 (FI ((a2J hL cls 6).ws R hR) (a2J hL cls 6).st) (sO E9 _)⟩
 .exact⟨⟨_,_,rfl,mZ (w:=eQ 31) E9⟩,λR hR=>zK (w:=eQ 31) E9 (kz A7 (cl R)) (sO E9 _)⟩
 .exact⟨⟨_,_,rfl,mZ (w:=eQ 32) E9⟩,λR hR=>zK (w:=eQ 32) E9 (kz A7 (cl R)) (sO E9 _)⟩
 .have hg:=ET (n:=(33,m)) (l:=N.2.1) rfl h;exact⟨⟨_,_,rfl,mZ (w:=eQ 33) E9⟩,λR hR=>zK (w:=eQ 33) E9 (kz A7 (zK (Lu (hN.t _ (Aa hg))) (kz A7 (FI (cl R) (OB hL.st))) (sO E9 _))) (sO E9 _)⟩
 .obtain⟨hg,g1,g2⟩:=a5F hm h;have hmo:wOk (lF (jB m 8))=true:=a1x ⟨g1,g2⟩;exact⟨⟨_,_,rfl,mZ (w:=eQ 34) E9⟩,λR hR=>zK (w:=eQ 34) E9 (kz A7 (zK (Lu (hN.t _ (Aa hg))) (kz A7 (FI (NJ hL (kz A7 (FI (zK hmo (kz A7 trivial) (sO E9 _)) ⟨_,_,rfl,mZ hmo⟩)) (sO E9 _)) (OB hL.st))) (sO E9 _))) (sO E9 _)⟩
theorem b8L{n:Int×Int}(ha:arF n.1=2)(h:flS n N=0){A B:List It}(hA:WsT A)(hB:WsT B)(ca cb:Int):WsT (OI n A ca B cb):=by
 obtain⟨k,m⟩:=n;by_cases h1:k=17\/k=18\/k=27\/k=28\/k=29\/k=30
 .have hw:wOk (eQ k)=true:=by rcases h1 with rfl|rfl|rfl|rfl|rfl|rfl<;>decide
  have e:OI (k,m) A ca B cb=nm (eQ k)::sy 40::(A++(sy 44::none::(B++[sy 41]))):=by
   have:OI (k,m) A ca B cb=[nm (eQ k),sy 40]++A++[sy 44,none]++B++[sy 41]:=by rcases h1 with rfl|rfl|rfl|rfl|rfl|rfl<;>rfl
   rw[this];simp
  rw[e];exact⟨⟨_,_,rfl,mZ hw⟩,λR hR=>zK hw (kz A7 (NJ hA (kz A7 (FI (NJ hB (kz A7 trivial) (sO E9 _)) (OB hB.st))) (sO E9 _))) (sO E9 _)⟩
 by_cases h2:k=14\/k=15\/k=16
 .have hw:wOk (eQ k)=true:=by rcases h2 with rfl|rfl|rfl<;>decide
  have hr:=a9c h2 h;have hmo:wOk (lF m)=true:=a1x hr;have e:OI (k,m) A ca B cb=nm (eQ k)::sy 40::(A++(sy 44::none::(B++(sy 44::none::nm (lF m)::[sy 41])))):=by
   have:OI (k,m) A ca B cb=[nm (eQ k),sy 40]++A++[sy 44,none]++B++[sy 44,none,nm (lF m),sy 41]:=by rcases h2 with rfl|rfl|rfl<;>rfl
   rw[this];simp
  rw[e];exact⟨⟨_,_,rfl,mZ hw⟩,λR hR=>zK hw (kz A7 (NJ hA (kz A7 (FI (NJ hB (kz A7 (FI (zK hmo (kz A7 trivial) (sO E9 _)) ⟨_,_,rfl,mZ hmo⟩)) (sO E9 _)) (OB hB.st))) (sO E9 _))) (sO E9 _)⟩
 have hk:k=11\/k=12\/k=13\/k=19\/k=20\/k=21\/k=22\/k=23\/k=24:=by have:=ar2 ha;omega
 have hb:Va k=false/\U_ k=false:=by rcases hk with rfl|rfl|rfl|rfl|rfl|rfl|rfl|rfl|rfl<;>exact⟨rfl,rfl⟩
 have ho:=b8F hk;unfold OI;simp only[hb.1,hb.2,o6];have wA:=a2J hA ca (l9 (D6 (kP k).2 3) 4 (kP k).2);have wB:=a2J hB cb ((kP k).2+1);rw[F5];refine⟨OB wA.st,λR hR=>?_⟩;refine NJ wA ?_ (sO E9 _);exact FI ⟨ho,.inr (sO E9 _),FI (wB.ws R hR) wB.st⟩ ⟨_,_,rfl,ho⟩
theorem b9o{A B C:List It}(hA:WsT A)(hB:WsT B)(hC:WsT C):WsT (ifI A B C):=by
 have e:ifI A B C=nm [105,102]::none::(A++(none::nm [116,104,101,110]::none::(B++(none::nm [101,108,115,101]::none::C)))):=by unfold ifI;simp
 rw[e];have t1:TokOk (1,[116,104,101,110],0):=mZ E9;have t2:TokOk (1,[101,108,115,101],0):=mZ E9;refine⟨⟨_,_,rfl,mZ (w:=[105,102]) E9⟩,λR hR=>?_⟩;exact zK E9 (FI (NJ hA (FI (zK E9 (FI (NJ hB (FI (zK E9 (FI (hC.ws R hR) hC.st) (sO E9 _)) ⟨_,_,rfl,t2⟩) (sO E9 _)) (OB hB.st)) (sO E9 _)) ⟨_,_,rfl,t1⟩) (sO E9 _)) (OB hA.st)) (sO E9 _)
theorem Sv{N:D9}(hN:NmI N):∀(t:XT),t.wf->(∀n∈t.post,kQ n.2)->(∀n∈t.post,flS n N=0)->WsT (itT N t)
 | .l0 n,hw,hI,hz=>b2U hN hw (hI n (by simp[XT.post])) (hz n (by simp[XT.post]))| .l1 n a,hw,hI,hz=>b6B hN hw.1 (hI n (by simp[XT.post])) (hz n (by simp[XT.post])) _ (Sv hN a hw.2 (λm hm=>hI m (by simp[XT.post,hm])) (λm hm=>hz m (by simp[XT.post,hm]))) _| .l2 n a b,hw,hI,hz=>b8L hw.1 (hz n (by simp[XT.post])) (Sv hN a hw.2.1 (λm hm=>hI m (by simp[XT.post,hm])) (λm hm=>hz m (by simp[XT.post,hm]))) (Sv hN b hw.2.2 (λm hm=>hI m (by simp[XT.post,hm])) (λm hm=>hz m (by simp[XT.post,hm]))) _ _| .l3 n a b c,hw,hI,hz=>b9o (Sv hN a hw.2.1 (λm hm=>hI m (by simp[XT.post,hm])) (λm hm=>hz m (by simp[XT.post,hm]))) (Sv hN b hw.2.2.1 (λm hm=>hI m (by simp[XT.post,hm])) (λm hm=>hz m (by simp[XT.post,hm]))) (Sv hN c hw.2.2.2 (λm hm=>hI m (by simp[XT.post,hm])) (λm hm=>hz m (by simp[XT.post,hm])))
def Tu(x:dA):Z7:=(x.1,x.2.1,x.2.2.1)
abbrev pS(T:List dA)(E:Int)(N:D9)(i:Nat)(nd:List (Int×Int)):C9:=(T,(i:Int),E,N,nd,0,0)
def pk(T:List dA)(i:Nat):dA:=(T[i]?).getD (0,[],0,0)
def At3(T:List dA)(i:Nat)(L:List Z7):Prop:=(T.map Tu).drop i=L/\T.length<=1000000/\i<=T.length
def hd3(L:List Z7):Z7:=L.headD (0,[],0)
variable {i:Nat}{T:List dA}
theorem Ba{L:List Z7}(h:At3 T i L):Tu (pk T i)=hd3 L:=by
 obtain⟨h1,h2,h3⟩:=h;unfold pk hd3;by_cases hi:i<T.length
 .rw[←h1,V9 (by simpa using hi),jk hi];simp
 .rw[←h1,aQ F8,U8 l7];rfl
theorem gY{k:Z7}{L:List Z7}(h:At3 T i (k::L)):At3 T (i+1) L:=by
 obtain⟨h1,h2,h3⟩:=h;have hi:i<T.length:=by
  rcases mP i T.length with h|h
  .exact h
  .rw[aQ F8]at h1;cases h1
 refine⟨?_,h2,l7⟩;rw[←Z4,h1];rfl
theorem xh{A L:List Z7}(h:At3 T i (A++L)):At3 T (i+A.length) L:=by
 induction A generalizing i with
 |nil=>exact h|cons k A ih=>have:=ih (gY h);rw[show i+(k::A).length=i+1+A.length by simp;omega];exact this
theorem NM{k:Z7}{L:List Z7}(h:At3 T i (k::L)):i<T.length:=by have:=(gY h).2.2;omega
variable {nd:List (Int×Int)}
section
variable {T:List dA} {E:Int} {N:D9}
theorem ML(i a:Nat)(nd:List (Int×Int))(hT:T.length<=1000000)(hi:i<=T.length)(ha:a<=10):X8 (pS T E N i nd) (a:Int)=some (pk T (i+a),pS T E N i nd):=by
 unfold X8 pk;have e:G6 .i64 (i:Int) (a:Int)=((i+a:Nat):Int):=by rw[eG bI];omega
 simp only[e];by_cases h:i+a<T.length
 .rw[aA (by unfold x8;omega),o7,U4,jk h];rfl
 .rw[U5 (by unfold x8;omega),o6,U8 l7];rfl
theorem Jw{L:List Z7}(h:At3 T i L):X8 (pS T E N i nd) 0=some (pk T i,pS T E N i nd):=ML i 0 nd h.2.1 h.2.2 l7
theorem JP{L:List Z7}(h:At3 T i L)(k:Int)(w:c5y):jL (pS T E N i nd) k w=some (l9 (D6 (hd3 L).1 k) (seq (hd3 L).2.1 w) false,pS T E N i nd):=by
 have hs:=Ba h;unfold jL
 rw[Jw h,o9,←hs];unfold Tu;cases D6 (pk T i).1 k<;>rfl
theorem pz(hn:nd.length<=1000000)(op n:Int):H5 (pS T E N i nd) op n=some (true,pS T E N i (nd++[(op,n)])):=by unfold H5;simp only;rw[qm _ hn];rfl
theorem QM{k:Z7}{L:List Z7}(h:At3 T i (k::L)):eX (pS T E N i nd) k.1 k.2.1=some (true,pS T E N (i+1) nd):=by
 unfold eX;rw[JP h,o9];have hi:=NM h;have hT:=h.2.1;rw[show(l9 (D6 (hd3 (k::L)).1 k.1) (seq (hd3 (k::L)).2.1 k.2.1) false)=true by rw[show hd3 (k::L)=k from rfl,O8 rfl,o7];exact yD.2 rfl]
 simp only[G8,o6];rw[gu l7]
theorem yF{L:List Z7}(h:At3 T i ((7,[c],n)::L)):U9 (pS T E N i nd) [c]=some (true,pS T E N (i+1) nd):=by unfold U9;rw[show eX (pS T E N i nd) 7 [c]=_ from QM (k:=(7,[c],n)) h];rfl
end
def VU(k:Int):Int:=l9 (D6 k 2) 2 (l9 (D6 k 3) 3 (l9 (D6 k 4) 4 0))
theorem Md(t:dA):lH t=some (VU t.1):=by unfold lH VU;cases D6 t.1 2<;>cases D6 t.1 3<;>cases D6 t.1 4<;>rfl
def a6X(k:Int):Prop:=k=11\/k=12\/k=13\/k=19\/k=20\/k=21\/k=22\/k=23\/k=24
def b1R(t:Z7):Prop:=t=(0,[],0)\/t=(7,[41],0)\/t=(7,[44],0)\/t=(1,[116,104,101,110],0)\/t=(1,[101,108,115,101],0)
theorem b3m{t:dA}(h:b1R (Tu t)):nz t=some (0,0):=by
 obtain⟨a,b,c,d⟩:=t;unfold Tu at h;have key:∀(a:Int) (b:c5y),(a,b)∈([(0,[]),(7,[41]),(7,[44]),(1,[116,104,101,110]),(1,[101,108,115,101])]:List (Int×c5y))->nz (a,b,c,d)=some (0,0):=by intro a b h;simp only[D5,je,List.mem_nil_iff,or_false]at h;rcases h with⟨rfl,rfl⟩|⟨rfl,rfl⟩|⟨rfl,rfl⟩|⟨rfl,rfl⟩|⟨rfl,rfl⟩<;>rfl
 apply key;rcases h with h|h|h|h|h<;>cases h<;>decide
theorem a9P{t:dA}(hk:a6X k)(h:Tu t=opK k):nz t=some (k,(kP k).2):=by obtain⟨a,b,c,d⟩:=t;unfold Tu at h;rcases hk with rfl|rfl|rfl|rfl|rfl|rfl|rfl|rfl|rfl<;>cases h<;>rfl
def Gn(R:List Z7)(c:Int):Prop:=b1R (hd3 R)\/∃k,a6X k/\hd3 R=opK k/\(kP k).2<c
def Gm(R:List Z7):Prop:=b1R (hd3 R)\/∃k,a6X k/\hd3 R=opK k
theorem a6r{R:List Z7}{c:Int}(h:Gn R c):Gm R:=by
 rcases h with h|⟨k,h1,h2,-⟩
 .exact .inl h
 .exact .inr ⟨k,h1,h2⟩
theorem a2d{R:List Z7}(h:Gm R):¬((hd3 R).1=7/\(hd3 R).2.1=[58])/\¬((hd3 R).1=7/\(hd3 R).2.1=[40]):=by
 rcases h with h|⟨k,h1,h2⟩
 .rcases h with h|h|h|h|h<;>rw[h]<;>decide
 .rw[h2];rcases h1 with rfl|rfl|rfl|rfl|rfl|rfl|rfl|rfl|rfl<;>decide
end Go.GP
namespace Go.GP
open Gt
set_option maxRecDepth 100000
variable {w:c5y}
theorem Ee(h:nJ w=true):w.length<=16/\w≠[]/\(Qc.any λs=>seq w s)=false:=by
 cases w with
 |nil=>cases h|cons c r=>rw[GH]at h;simp only[x9,decide_eq_true_eq,Y1]at h;exact⟨h.1.1.1,A7,h.2⟩
theorem a5L{w s:c5y}(h:nJ w=true)(hs:(Qc.any λx=>seq s x)=true):w≠s:=by rintro rfl;have:=(Ee h).2.2;rw[hs]at this;cases this
theorem a3B{w s:c5y}(h:nJ w=true)(hs:(Qc.any λx=>seq s x)=true):seq w s=false:=wo.2 (a5L h hs)
theorem Ue(h:nJ w=true):dB w=some true:=by rw[rX (by have:=(Ee h).1;omega),h]
theorem a5b:∀x:Fin 40,seq (eQ (x.val:Int)) []=true\/(Qc.any λs=>seq (eQ (x.val:Int)) s)=true:=by decide+kernel
def cwF(w:c5y)(x:Int):Option (Out Int PUnit Int):=
   l9 (X6 x 39)
    (l9 (J8 (seq w []))
     (o5 (iW x) λ(x_1:c5y)=>
      l9 (seq x_1 w) (some (Out.rt x)) (some (Out.nx (G6 IntKind.i64 x 1))))
     (some (Out.nx (G6 IntKind.i64 x 1))))
    (some (Out.ex PUnit.unit))
theorem a6Z(h:nJ w=true):nH w=some 0:=by
 have key:∀(d x k:Nat),x+d=40->10<=x->d<k->fD (cwF w) k (x:Int)=(some (.inl PUnit.unit):Option (PUnit⊕Int)):=by
  intro d;induction d with
  |zero=>
   intro x k hx h10 hk;obtain⟨k,rfl⟩:∃m,k=m+1:=⟨k -1,l7⟩;have st:cwF w (x:Int)=some (.ex PUnit.unit):=by unfold cwF;rw[bW l7];rfl
   rw[dC,st]
  |succ d ih=>
   intro x k hx h10 hk;obtain⟨k,rfl⟩:∃m,k=m+1:=⟨k -1,l7⟩;have hne:seq w []=false:=wo.2 (Ee h).2.1;have hs:seq (eQ (x:Int)) w=false:=by
    rw[wo];intro e;rcases a5b ⟨x,l7⟩with g|g
    .rw[yD]at g;simp only at g;exact(Ee h).2.1 (e.symm.trans g)
    .exact a5L h g e.symm
   have st:cwF w (x:Int)=some (.nx ((x+1:Nat):Int)):=by unfold cwF;rw[ay l7,o7,hne,Y2,o7,uU,o9,hs,o6,gu l7]
   rw[dC,st];exact ih (x+1) k l7 l7 l7
 unfold nH;refine X5 (show Y9 (cwF w) 10=_ from key 30 10 aT l7 l7 (by unfold aT;omega)) ?_;rfl
theorem a6Y{k:Int}(h:k=14\/k=15\/k=16\/k=17\/k=18\/k=27\/k=28\/k=29\/k=30\/k=31\/k=32\/k=33\/k=34\/k=35\/k=36\/k=37\/k=38\/k=39):nH (eQ k)=some k:=by rcases h with rfl|rfl|rfl|rfl|rfl|rfl|rfl|rfl|rfl|rfl|rfl|rfl|rfl|rfl|rfl|rfl|rfl|rfl<;>rfl
theorem a7s:∀m:Fin 6,yU (lF (m.val:Int))=some (m.val:Int):=by decide+kernel
theorem a7t{m:Int}(h:0<=m/\m<=5):yU (lF m)=some m:=by obtain⟨j,rfl⟩:∃j:Fin 6,m=(j.val:Int):=⟨⟨m.toNat,l7⟩,by simp;omega⟩;exact a7s j
def a0u(l:List c5y)(j:Nat)(w:c5y):Prop:=l[j]? =some w/\∀x∈l.take j,x≠w
theorem a1i{α:Type}(l:List α)(p:α->Bool)(hl:l.length<=1000000){f:Int->Option (Out Int PUnit Int)}
  (h1:∀(i:Nat) (a:α),l[i]? =some a->f (i:Int)=some (l9 (p a) (.rt (i:Int)) (.nx ((i+1:Nat):Int)))) (h2:f (l.length:Int)=some (.ex PUnit.unit)):
  (∀j a,l[j]? =some a->p a=true->(∀x∈l.take j,p x=false)->Y9 f 0=some (.inr (j:Int)))/\((∀x∈l,p x=false)->Y9 f 0=some (.inl PUnit.unit)):=by
 have step:∀(j i k:Nat),i<=j->j<=l.length->(∀x∈l.take j,p x=false)->fD f (k+(j -i)) (i:Int)=fD f k (j:Int):=by
  intro j i k hij hj hp;induction h:j -i generalizing i k with
  |zero=>rw[show i=j by omega];rfl|succ n ih=>
   have hi:i<l.length:=l7;have hg:=jk hi;have:=h1 i _ hg;rw[hp l[i] (by rw[List.mem_take_iff_getElem];exact⟨i,l7,rfl⟩),o6]at this
   rw[show k+(n+1)=(k+n)+1 by omega,dC,this];exact ih (i+1) k l7 l7
 constructor
 .intro j a ha hpa hp;have hj:=(X9.1 ha).1;have:=step j 0 (aT -j) l7 l7 hp;rw[show aT -j+(j -0)=aT by unfold aT;omega]at this;unfold Y9;rw[show(0:Int)=((0:Nat):Int)from rfl,this,show aT -j=(aT -j -1)+1 by unfold aT;omega,dC,h1 j a ha,hpa];rfl
 .intro hp;have:=step l.length 0 (aT -l.length) l7 l7 (λx hx=>hp x (rQ hx));rw[show aT -l.length+(l.length -0)=aT by unfold aT;omega]at this;unfold Y9;rw[show(0:Int)=((0:Nat):Int)from rfl,this,show aT -l.length=(aT -l.length -1)+1 by unfold aT;omega,dC,h2]
theorem g_{l:List c5y}(hl:l.length<=1000000)(w:c5y):(∀j,a0u l j w->dR l w=some (j:Int))/\((∀x∈l,x≠w)->dR l w=some (-1)):=by
 unfold dR;obtain⟨k1,k2⟩:=a1i l (λx=>seq w x) hl (f:=λ(x:Int)=>l9 (I7 x (x8 l)) (o5 (U0 l x) λ(x_1:c5y)=>l9 (seq w x_1) (some (Out.rt x)) (some (Out.nx (G6 IntKind.i64 x 1)))) (some (Out.ex PUnit.unit)))
  (λi a ha=>by have:=(X9.1 ha).1;simp only[Z8 ha,o7,U4,ha,o9];rw[gu l7];cases seq w a<;>rfl) (by rw[aP];rfl)
 constructor
 .intro j hj;refine X5 (k1 j w hj.1 (yD.2 rfl) (λx hx=>wo.2 (λe=>hj.2 x hx e.symm))) ?_;rfl
 .intro h;refine X5 (k2 (λx hx=>wo.2 (λe=>h x hx e.symm))) ?_;rfl
variable {j:Nat}
theorem a9k{l:List gm}(hl:l.length<=1000000)(t:dA){e:gm}(he:l[j]? =some e)(hw:e.1=t.2.1)(hf:∀x∈l.take j,x.1≠t.2.1):iI l t=some (j:Int):=by
 unfold iI vI;obtain⟨k1,-⟩:=a1i l (λx=>seq x.1 t.2.1) hl (f:=λ(x:Int)=>l9 (I7 x (x8 l)) (o5 (U0 l x) λ(x_1:gm)=>o5 (some (seq x_1.1 t.2.1)) λ(x_2:Bool)=>l9 x_2 (some (Out.rt x)) (some (Out.nx (G6 IntKind.i64 x 1)))) (some (Out.ex PUnit.unit)))
  (λi a ha=>by have:=(X9.1 ha).1;simp only[Z8 ha,o7,U4,ha,o9];rw[gu l7];cases seq a.1 t.2.1<;>rfl) (by rw[aP];rfl)
 refine X5 (k1 j e he (yD.2 hw) (λx hx=>wo.2 (hf x hx))) ?_;rfl
variable {i:Nat}{R:List Z7}{nd:List (Int×Int)}{n:Int}
section
variable {T:List dA} {E:Int} {N:D9}
theorem Pi(h:At3 T i ((1,w,n)::R))(hw:nJ w=true){l:List c5y}(hl:l.length<=1000000)(hj:a0u l j w):ig (pS T E N i nd) l=some ((j:Int),true,pS T E N (i+1) nd):=by have hs:=Ba h;have hi:=NM h;have hT:=h.2.1;unfold ig;rw[Jw h,o9];have e1:(pk T i).1=1:=congrArg (λx:Z7=>x.1) hs;have e2:(pk T i).2.1=w:=congrArg (λx:Z7=>x.2.1) hs;simp only[e1,e2,O8 (rfl:(1:Int)=1),G8,o6,Ue hw,o9];rw[(g_ hl w).1 j hj,o9,U5 l7,o6,gu l7]
theorem a6a{m n:Int}(h:At3 T i ((1,lF m,n)::R))(hm:0<=m/\m<=5):fA (pS T E N i nd)=some (m,true,pS T E N (i+1) nd):=by have hs:=Ba h;have hi:=NM h;have hT:=h.2.1;unfold fA;rw[Jw h,o9];have e1:(pk T i).1=1:=congrArg (λx:Z7=>x.1) hs;have e2:(pk T i).2.1=lF m:=congrArg (λx:Z7=>x.2.1) hs;simp only[e1,e2,O8 (rfl:(1:Int)=1),G8,o6,a7t hm,o9];rw[U5 l7,o6,gu l7]
theorem PN{k:Z7}(h:At3 T i (k::R)):Tu (pk T (i+1))=hd3 R:=Ba (gY h)
theorem b2Z(hnd:nd.length<=1000000)(h:At3 T i ((1,w,n)::R))(hR:Gm R)(hw:nJ w=true)(hl:N.2.2.1.length<=1000000)(hj:a0u N.2.2.1 j w):fB (pS T E N i nd)=some (true,pS T E N (i+1) (nd++[(7,(j:Int))])):=by
 have hs:=Ba h;have hn:=PN h;have hi:=NM h;have hT:=h.2.1;unfold fB;rw[Jw h,o9];simp only;rw[show X8 (pS T E N i nd) 1=_ from ML i 1 nd hT h.2.2 l7,o9];have e1:(pk T i).1=1:=congrArg (λx:Z7=>x.1) hs;have e2:(pk T i).2.1=w:=congrArg (λx:Z7=>x.2.1) hs;have e3:(l9 (D6 (pk T (i+1)).1 7) (some (seq (pk T (i+1)).2.1 [58])) (some false))=some false:=by
  have q1:(pk T (i+1)).1=(hd3 R).1:=congrArg (λx:Z7=>x.1) hn;have q2:(pk T (i+1)).2.1=(hd3 R).2.1:=congrArg (λx:Z7=>x.2.1) hn;rw[q1,q2];by_cases g:(hd3 R).1=7
  .rw[O8 g,o7];congr 1;exact wo.2 (λe=>(a2d hR).1 ⟨g,e⟩)
  .rw[O6 g];rfl
 simp only[e2,Ue hw,o9,G8,o6,e3];rw[(g_ hl w).1 j hj,o9,ay l7,o7,gu l7];rw[show H5 (T,((i+1:Nat):Int),E,N,nd,0,0) 7 (j:Int)=_ from pz (i:=i+1) hnd 7 (j:Int),o9]
theorem a9D(hnd:nd.length<=1000000)(h:At3 T i ((1,w,n)::R))(hR:Gm R)(hw:nJ w=true)(hl:N.2.2.1.length<=1000000)(hl2:N.2.2.2.1.length<=1000000)(hno:∀x∈N.2.2.1,x≠w)(hj:a0u N.2.2.2.1 j w):fB (pS T E N i nd)=some (true,pS T E N (i+1) (nd++[(8,(j:Int))])):=by
 have hs:=Ba h;have hn:=PN h;have hi:=NM h;have hT:=h.2.1;unfold fB;rw[Jw h,o9];simp only;rw[show X8 (pS T E N i nd) 1=_ from ML i 1 nd hT h.2.2 l7,o9];have e2:(pk T i).2.1=w:=congrArg (λx:Z7=>x.2.1) hs;have e3:(l9 (D6 (pk T (i+1)).1 7) (some (seq (pk T (i+1)).2.1 [58])) (some false))=some false:=by
  have q1:(pk T (i+1)).1=(hd3 R).1:=congrArg (λx:Z7=>x.1) hn;have q2:(pk T (i+1)).2.1=(hd3 R).2.1:=congrArg (λx:Z7=>x.2.1) hn;rw[q1,q2];by_cases g:(hd3 R).1=7
  .rw[O8 g,o7];congr 1;exact wo.2 (λe=>(a2d hR).1 ⟨g,e⟩)
  .rw[O6 g];rfl
 simp only[e2,Ue hw,o9,G8,o6,e3];rw[(g_ hl w).2 hno,o9,bW l7,o6,show ig (T,(i:Int),E,N,nd,0,0) N.2.2.2.1=_ from Pi h hw hl2 hj,o9];simp only[o7];rw[pz hnd,o9]
theorem a7u(hnd:nd.length<=1000000){w v:c5y}{n n2 n3:Int}(h:At3 T i ((1,w,n)::(7,[58],n2)::(1,v,n3)::R))(hw:nJ w=true)(hv:nJ v=true)(hl:N.1.length<=1000000)
  {j k:Nat} {e:gm} (he:N.1[j]? =some e) (hj:e.1=w) (hf:∀x∈N.1.take j,x.1≠w) (hl2:e.2.length<=1000000) (hk:a0u e.2 k v):fB (pS T E N i nd)=some (true,pS T E N (i+3) (nd++[(6,16*(j:Int)+(k:Int))])):=by
 have hs:=Ba h;have hn:=PN h;have hi:=NM h;have hT:=h.2.1;have hjl:=(X9.1 he).1;have hkl:=(X9.1 hk.1).1;unfold fB;rw[Jw h,o9];simp only;rw[show X8 (pS T E N i nd) 1=_ from ML i 1 nd hT h.2.2 l7,o9];have e2:(pk T i).2.1=w:=congrArg (λx:Z7=>x.2.1) hs;have q1:(pk T (i+1)).1=7:=congrArg (λx:Z7=>x.1) hn;have q2:(pk T (i+1)).2.1=[58]:=congrArg (λx:Z7=>x.2.1) hn;simp only[e2,Ue hw,o9,G8,o6,q1,q2,O8 (rfl:(7:Int)=7),o7,show seq ([58]:c5y) [58]=true from rfl];rw[a9k hl (pk T i) he (hj.trans e2.symm) (λx hx=>by rw[e2];exact hf x hx),o9,U5 l7,o6,U4,he,o9];have hp2:G6 .i64 (i:Int) 2=((i+2:Nat):Int):=by rw[eG bI];omega
 rw[hp2,show ig (T,((i+2:Nat):Int),E,N,nd,0,0) e.2=_ from Pi (i:=i+2) (gY (gY h)) hv hl2 hk,o9];simp only[o7];rw[Kz bI,eG bI,pz hnd,o9]
end
end Go.GP
namespace Go.GP
open Gt
set_option maxRecDepth 100000
theorem b9w(m:Nat)(p:C9):(o8 (m+1)).1 p=jJ (o8 m).1 (o8 m).2.1 (o8 m).2.2.1 (o8 m).2.2.2.1 (o8 m).2.2.2.2 p:=rfl
theorem b3v(m:Nat)(p:C9):(o8 (m+1)).2.2.1 p=iO (o8 m).1 (o8 m).2.1 (o8 m).2.2.1 (o8 m).2.2.2.1 (o8 m).2.2.2.2 p:=rfl
theorem b3u(m:Nat)(p:C9):(o8 (m+1)).2.2.2.1 p=jb (o8 m).1 (o8 m).2.1 (o8 m).2.2.1 (o8 m).2.2.2.1 (o8 m).2.2.2.2 p:=rfl
theorem a3W(m:Nat)(p:C9)(op:Int):(o8 (m+1)).2.2.2.2 p op=dh (o8 m).1 (o8 m).2.1 (o8 m).2.2.1 (o8 m).2.2.2.1 (o8 m).2.2.2.2 p op:=rfl
def biF(r207:C9->Int->Option (Bool×C9))(a1:Int)(x:C9×Int):Option (Out (C9×Int) PUnit (Bool×C9)):=
     o5 (X8 x.1 0) λ(x_1:dA×C9)=>
      o5 (nz x_1.1) λ(x_2:F9)=>
       o5
        (l9 (D6 x_2.1 0) (some (Sum.inr (true,x_1.2)))
         (l9 (I7 x_2.2 a1) (some (Sum.inr (true,x_1.2)))
          (l9 (I7 x.2 x_2.2) (some (Sum.inr (true,x_1.2))) (some (Sum.inl PUnit.unit)))))
        λ(o:PUnit⊕Bool×C9)=>
        dw o
         (λ(x:PUnit)=>
          o5 (r207 (x_1.2.1,G6 IntKind.i64 x_1.2.2.1 1,x_1.2.2.2) (G6 IntKind.i64 x_2.2 1))
           λ(x:Bool×C9)=>
           l9 (J8 x.1) (some (Out.rt (false,x.2)))
            (o5 (H5 x.2 x_2.1 0) λ(x:Bool×C9)=>
             l9 (D6 x_2.2 3) (some (Out.nx (x.2,Y5 IntKind.i64 x_2.2 1)))
              (some (Out.nx (x.2,x_2.2)))))
         λ(r:Bool×C9)=>some (Out.rt r)
theorem b9v(m:Nat)(p:C9)(c:Int):(o8 (m+1)).2.1 p c=o5 ((o8 m).2.2.1 p) λ(x:Bool×C9)=>l9 (J8 x.1) (some (false,x.2)) (o5 (Y9 (biF (o8 m).2.1 c) (x.2,5)) λ(o:PUnit⊕Bool×C9)=>dw o (λ(y:PUnit)=>none) λ(r:Bool×C9)=>some r):=rfl
section
variable (T:List dA) (E:Int) (N:D9)
def EOk(m:Nat)(W:List Z7)(P:List (Int×Int))(R:List Z7):Prop:=∀i nd,At3 T i (W++R)->nd.length+P.length<=100000->(o8 m).1 (pS T E N i nd)=some (true,pS T E N (i+W.length) (nd++P))
def UOk(m:Nat)(W:List Z7)(P:List (Int×Int))(R:List Z7):Prop:=∀i nd,At3 T i (W++R)->nd.length+P.length<=100000->(o8 m).2.2.1 (pS T E N i nd)=some (true,pS T E N (i+W.length) (nd++P))
def AOk(m:Nat)(W:List Z7)(P:List (Int×Int))(R:List Z7):Prop:=∀i nd,At3 T i (W++R)->nd.length+P.length<=100000->(o8 m).2.2.2.1 (pS T E N i nd)=some (true,pS T E N (i+W.length) (nd++P))
def b2n(m:Nat)(c:Int)(W:List Z7)(P:List (Int×Int))(R:List Z7):Prop:=∀i nd,At3 T i (W++R)->nd.length+P.length<=100000->(o8 m).2.1 (pS T E N i nd) c=some (true,pS T E N (i+W.length) (nd++P))
def COk(m:Nat)(op:Int)(W:List Z7)(P:List (Int×Int))(R:List Z7):Prop:=∀i nd,At3 T i (W++R)->nd.length+P.length<=100000->(o8 m).2.2.2.2 (pS T E N i nd) op=some (true,pS T E N (i+W.length) (nd++P))
def LOk(m:Nat)(c:Int)(W:List Z7)(P:List (Int×Int))(g:Int)(R:List Z7):Prop:=∀i nd,At3 T i (W++R)->nd.length+P.length<=100000->∃(p' :C9) (q:Nat),q<=W.length/\(o8 m).2.2.1 (pS T E N i nd)=some (true,p')/\
 ∀j,fD (biF (o8 m).2.1 c) (j+q) (p',5)=fD (biF (o8 m).2.1 c) j (pS T E N (i+W.length) (nd++P),g)
end
variable {R:List Z7}{m:Nat}{W:List Z7}{P:List (Int×Int)}
section
variable {T:List dA} {E:Int} {N:D9}
theorem a4Z(c:Int)(h:UOk T E N m W P R):LOk T E N m c W P 5 R:=λi nd hA hn=>⟨_,0,l7,h i nd hA hn,λj=>rfl⟩
theorem Di{i:Nat}(h:At3 T i (W++R)):i+W.length<=1000000:=by have:=xh h;have h1:=this.2.1;have h2:=this.2.2;omega
theorem a9p{c g:Int}(h:LOk T E N m c W P g R)(hR:Gn R c):b2n T E N (m+1) c W P R:=by
 intro i nd hA hn;obtain⟨p',q,hq,h1,h2⟩:=h i nd hA hn;have hl:=Di hA;have hB:=xh hA;have hs:=Ba hB;rw[b9v,h1,o9];simp only[G8,o6];have lp:Y9 (biF (o8 m).2.1 c) (p',5)=some (.inr (true,pS T E N (i+W.length) (nd++P))):=by
  unfold Y9;rw[show aT=(aT -q -1+1)+q by unfold aT;omega,h2,dC];have st:biF (o8 m).2.1 c (pS T E N (i+W.length) (nd++P),g)=some (.rt (true,pS T E N (i+W.length) (nd++P))):=by
   unfold biF;simp only;rw[Jw hB,o9];simp only;rcases hR with hR|⟨k,hk,e,hc⟩
   .rw[b3m (t:=pk T (i+W.length)) (by rw[hs];exact hR),o9,O8 rfl,o7,o9,nU]
   .rw[a9P (t:=pk T (i+W.length)) hk (by rw[hs];exact e),o9];simp only;rw[O6 (by rcases hk with rfl|rfl|rfl|rfl|rfl|rfl|rfl|rfl|rfl<;>decide),o6,aA hc,o7,o9,nU]
  rw[st]
 rw[lp,o9,nU]
theorem b9p{c ga k:Int}{A B:List Z7}{PA PB:List (Int×Int)}(hk:a6X k)(hA:LOk T E N m c A PA ga (opK k::(B++R)))(hB:b2n T E N m ((kP k).2+1) B PB R)(h1:c<=(kP k).2)(h2:(kP k).2<=ga):
  LOk T E N m c (A++opK k::B) (PA++PB++[(k,0)]) (l9 (D6 (kP k).2 3) 2 (kP k).2) R:=by
 intro i nd hAt hn;have hAt' :At3 T i (A++(opK k::(B++R))):=by rw[F5]at hAt;exact hAt
 simp only[E8,jQ]at hn;obtain⟨p',q,hq,e1,e2⟩:=hA i nd hAt' l7;refine⟨p',q+1,by simp;omega,e1,λj=>?_⟩;have hO:=xh hAt';have hs:=Ba hO;have hop:=a9P (t:=pk T (i+A.length)) hk hs;have hl:=Di hAt;simp only[E8,D7]at hl;have hsy:1<=(kP k).2/\(kP k).2<=5:=by rcases hk with rfl|rfl|rfl|rfl|rfl|rfl|rfl|rfl|rfl<;>decide
 rw[show j+(q+1)=(j+1)+q by omega,e2,dC];have st:biF (o8 m).2.1 c (pS T E N (i+A.length) (nd++PA),ga)=some (.nx (pS T E N (i+(A++opK k::B).length) (nd++(PA++PB++[(k,0)])),l9 (D6 (kP k).2 3) 2 (kP k).2)):=by
  unfold biF;simp only;rw[Jw hO,o9];simp only;rw[hop,o9];simp only;rw[O6 (by rcases hk with rfl|rfl|rfl|rfl|rfl|rfl|rfl|rfl|rfl<;>decide),o6,U5 h1,o6,U5 h2,o6,o9,Y4,gu l7,eG bI];rw[show(o8 m).2.1 (T,((i+A.length+1:Nat):Int),E,N,nd++PA,0,0) ((kP k).2+1)=_ from hB (i+A.length+1) (nd++PA) (gY hO) F8,o9];simp only[G8,o6];rw[pz F8,o9];simp only;rw[fC bI];have e3:i+A.length+1+B.length=i+(A++opK k::B).length:=by simp;omega
  have e4:nd++PA++PB++[(k,0)]=nd++(PA++PB++[(k,0)]):=A7;rw[e3,e4];by_cases h3:(kP k).2=3
  .rw[O8 h3,o7,o7,h3];rfl
  .rw[O6 h3,o6,o6]
 rw[st]
theorem b5V(h:b2n T E N m 1 W P R)(hne:W≠[])(hif:¬((hd3 W).1=1/\(hd3 W).2.1=[105,102])):EOk T E N (m+1) W P R:=by
 intro i nd hA hn;have hh:hd3 (W++R)=hd3 W:=by cases W with|nil=>exact absurd rfl hne|cons a W=>rfl
 rw[b9w];unfold jJ;rw[JP hA,o9,hh];have e:l9 (D6 (hd3 W).1 1) (seq (hd3 W).2.1 [105,102]) false=false:=by
  by_cases g:(hd3 W).1=1
  .rw[O8 g,o7];exact wo.2 (λe=>hif ⟨g,e⟩)
  .rw[O6 g];rfl
 rw[e];simp only[Y2,o7];rw[h i nd hA hn,o9]
theorem c4K{A B C:List Z7}{PA PB PC:List (Int×Int)} (hA:EOk T E N m A PA ((1,[116,104,101,110],0)::(B++((1,[101,108,115,101],0)::(C++R))))) (hB:EOk T E N m B PB ((1,[101,108,115,101],0)::(C++R))) (hC:EOk T E N m C PC R):
  EOk T E N (m+1) ((1,[105,102],0)::(A++(1,[116,104,101,110],0)::(B++(1,[101,108,115,101],0)::C))) (PA++PB++PC++[(26,0)]) R:=by
 intro i nd hAt hn;have h0:At3 T i ((1,[105,102],0)::(A++((1,[116,104,101,110],0)::(B++((1,[101,108,115,101],0)::(C++R)))))):=by have e:((1,[105,102],0)::(A++(1,[116,104,101,110],0)::(B++(1,[101,108,115,101],0)::C)))++R=((1,[105,102],0):Z7)::(A++((1,[116,104,101,110],0)::(B++((1,[101,108,115,101],0)::(C++R))))):=A7;rw[←e];exact hAt
 have hl:=Di hAt;simp only[E8,D7,I5]at hl hn;have a1:=gY h0;have a2:=xh a1;have a3:=gY a2;have a4:=xh a3;have a5:=gY a4;rw[b9w];unfold jJ;rw[JP h0,o9];rw[show(l9 (D6 (hd3 ((1,[105,102],0)::(A++((1,[116,104,101,110],0)::(B++((1,[101,108,115,101],0)::(C++R))))):List Z7)).1 1) (seq (hd3 ((1,[105,102],0)::(A++((1,[116,104,101,110],0)::(B++((1,[101,108,115,101],0)::(C++R))))):List Z7)).2.1 [105,102]) false)=true from rfl];simp only[G8,o6];rw[gu l7];rw[show(o8 m).1 (T,((i+1:Nat):Int),E,N,nd,0,0)=_ from hA (i+1) nd a1 l7,o9];simp only[o7];rw[show eX (pS T E N (i+1+A.length) (nd++PA)) 1 [116,104,101,110]=_ from QM a2,o9];simp only[o7];rw[hB (i+1+A.length+1) (nd++PA) a3 F8,o9];simp only[o7];rw[show eX (pS T E N (i+1+A.length+1+B.length) (nd++PA++PB)) 1 [101,108,115,101]=_ from QM a4,o9];simp only[o7];rw[hC (i+1+A.length+1+B.length+1) (nd++PA++PB) a5 F8,o9];simp only[o7];rw[pz F8,o9];have e3:i+1+A.length+1+B.length+1+C.length=i+((1,[105,102],0)::(A++(1,[116,104,101,110],0)::(B++(1,[101,108,115,101],0)::C)):List Z7).length:=by simp;omega
 have e4:nd++PA++PB++PC++[(26,0)]=nd++(PA++PB++PC++[(26,0)]):=A7;rw[e3,e4]
theorem b2q(h:EOk T E N m W P ((7,[41],0)::R)):AOk T E N (m+1) ((7,[40],0)::(W++[(7,[41],0)])) P R:=by
 intro i nd hAt hn;have h0:At3 T i ((7,[40],0)::(W++((7,[41],0)::R))):=by have e:((7,[40],0)::(W++[(7,[41],0)]))++R=((7,[40],0):Z7)::(W++((7,[41],0)::R)):=A7;rw[←e];exact hAt
 have hl:=Di hAt;simp only[E8,D7,I5]at hl;have hs:=Ba h0;have e1:(pk T i).1=7:=congrArg (λx:Z7=>x.1) hs;rw[b3u];unfold jb;rw[Jw h0,o9,Md,o9];simp only[e1,show VU 7=0 from rfl,O8 (rfl:(0:Int)=0),G8,o6,O6 (show(7:Int)≠5 by omega)];rw[JP h0,o9];rw[show(l9 (D6 (hd3 ((7,[40],0)::(W++((7,[41],0)::R)):List Z7)).1 7) (seq (hd3 ((7,[40],0)::(W++((7,[41],0)::R)):List Z7)).2.1 [40]) false)=true from rfl];simp only[o7];rw[gu l7];rw[show(o8 m).1 (T,((i+1:Nat):Int),E,N,nd,0,0)=_ from h (i+1) nd (gY h0) hn,o9];simp only[o7];rw[yF (xh (gY h0)),o9];have e3:i+1+W.length+1=i+((7,[40],0)::(W++[(7,[41],0)]):List Z7).length:=by simp;omega
 rw[e3]
theorem a8x(h:AOk T E N m W P R)(hne:W≠[])(h1:¬((hd3 W).1=7/\(hd3 W).2.1=[45]))(h2:¬((hd3 W).1=1/\(hd3 W).2.1=[110,111,116])):UOk T E N (m+1) W P R:=by
 intro i nd hA hn;have hh:hd3 (W++R)=hd3 W:=by cases W with|nil=>exact absurd rfl hne|cons a W=>rfl
 rw[b3v];unfold iO;rw[JP hA,o9,hh];have e:l9 (D6 (hd3 W).1 7) (seq (hd3 W).2.1 [45]) false=false:=by
  by_cases g:(hd3 W).1=7
  .rw[O8 g,o7];exact wo.2 (λe=>h1 ⟨g,e⟩)
  .rw[O6 g];rfl
 have e' :l9 (D6 (hd3 W).1 1) (seq (hd3 W).2.1 [110,111,116]) false=false:=by
  by_cases g:(hd3 W).1=1
  .rw[O8 g,o7];exact wo.2 (λe=>h2 ⟨g,e⟩)
  .rw[O6 g];rfl
 rw[e];simp only[o6];rw[JP hA,o9,hh,e'];simp only[o6];rw[h i nd hA hn,o9]
theorem c4s(h:UOk T E N m W P R):UOk T E N (m+1) ((1,[110,111,116],0)::W) (P++[(25,0)]) R:=by
 intro i nd hAt hn;have h0:At3 T i ((1,[110,111,116],0)::(W++R)):=hAt;have hl:=Di hAt;simp only[E8,D7,I5]at hl hn;rw[b3v];unfold iO;rw[JP h0,o9];rw[show(l9 (D6 (hd3 ((1,[110,111,116],0)::(W++R):List Z7)).1 7) (seq (hd3 ((1,[110,111,116],0)::(W++R):List Z7)).2.1 [45]) false)=false from rfl];simp only[o6];rw[JP h0,o9];rw[show(l9 (D6 (hd3 ((1,[110,111,116],0)::(W++R):List Z7)).1 1) (seq (hd3 ((1,[110,111,116],0)::(W++R):List Z7)).2.1 [110,111,116]) false)=true from rfl];simp only[o7];rw[gu l7];rw[show(o8 m).2.2.1 (T,((i+1:Nat):Int),E,N,nd,0,0)=_ from h (i+1) nd (gY h0) l7,o9];simp only[o7];rw[pz F8,o9];have e3:i+1+W.length=i+((1,[110,111,116],0)::W:List Z7).length:=by simp;omega
 rw[e3,F5]
theorem b5G(h:UOk T E N m W P R)(hne:W≠[])(hlit:VU (hd3 W).1=0):UOk T E N (m+1) ((7,[45],0)::W) (P++[(10,0)]) R:=by
 intro i nd hAt hn;have h0:At3 T i ((7,[45],0)::(W++R)):=hAt;have hl:=Di hAt;have hh:hd3 (W++R)=hd3 W:=by cases W with|nil=>exact absurd rfl hne|cons a W=>rfl
 simp only[E8,D7,I5]at hl hn;have hn1:=PN h0;have e1:(pk T (i+1)).1=(hd3 W).1:=by rw[←hh];exact congrArg (λx:Z7=>x.1) hn1
 rw[b3v];unfold iO;rw[JP h0,o9];rw[show(l9 (D6 (hd3 ((7,[45],0)::(W++R):List Z7)).1 7) (seq (hd3 ((7,[45],0)::(W++R):List Z7)).2.1 [45]) false)=true from rfl];simp only[o7];rw[show X8 (pS T E N i nd) 1=_ from ML i 1 nd h0.2.1 h0.2.2 l7,o9,Md,o9];simp only[e1,hlit,O8 (rfl:(0:Int)=0),G8,o6];rw[gu l7];rw[show(o8 m).2.2.1 (T,((i+1:Nat):Int),E,N,nd,0,0)=_ from h (i+1) nd (gY h0) l7,o9];simp only[o7];rw[pz F8,o9];have e3:i+1+W.length=i+((7,[45],0)::W:List Z7).length:=by simp;omega
 rw[e3,F5]
theorem b2i{k u:Int}{w:c5y}(hk:k=2\/k=3\/k=4)(hu:0<=u/\u<=1000000000000000000):UOk T E N (m+1) [(7,[45],0),(k,w,u)] [(k,-u)] R:=by
 intro i nd hAt hn;have h0:At3 T i ((7,[45],0)::(k,w,u)::R):=hAt;have hl:=Di hAt;simp only[D7,I5]at hl hn;have hn1:=PN h0;have e1:(pk T (i+1)).1=k:=congrArg (λx:Z7=>x.1) hn1;have e2:(pk T (i+1)).2.2.1=u:=congrArg (λx:Z7=>x.2.2) hn1;have hlit:VU k=k:=by rcases hk with rfl|rfl|rfl<;>rfl
 rw[b3v];unfold iO;rw[JP h0,o9];rw[show(l9 (D6 (hd3 ((7,[45],0)::(k,w,u)::R:List Z7)).1 7) (seq (hd3 ((7,[45],0)::(k,w,u)::R:List Z7)).2.1 [45]) false)=true from rfl];simp only[o7];rw[show X8 (pS T E N i nd) 1=_ from ML i 1 nd h0.2.1 h0.2.2 l7,o9,Md,o9];simp only[e1,e2,hlit,O6 (show k≠0 by omega),Y2,o7];rw[o9];rw[show G6 .i64 (i:Int) 2=((i+2:Nat):Int) by rw[eG bI];omega,fC bI];rw[show H5 (T,((i+2:Nat):Int),E,N,nd,0,0) k (0 -u)=_ from pz (i:=i+2) l7 k (0 -u),o9,Int.zero_sub];rfl
end
end Go.GP
namespace Go.GP
open Gt
set_option maxRecDepth 100000
structure NmD (N:D9):Prop where
 id:NmI N
 le:N.1.length<=1000/\N.2.1.length<=1000/\N.2.2.1.length<=1000/\N.2.2.2.1.length<=1000/\N.2.2.2.2.length<=1000
 e:∀(j:Nat) e,N.1[j]? =some e->(∀x∈N.1.take j,x.1≠e.1)/\e.2.length<=1000/\∀(k:Nat) v,e.2[k]? =some v->∀x∈e.2.take k,x≠v
 t:∀(j:Nat) w,N.2.1[j]? =some w->∀x∈N.2.1.take j,x≠w
 i:∀(j:Nat) w,N.2.2.1[j]? =some w->∀x∈N.2.2.1.take j,x≠w
 d:∀(j:Nat) w,N.2.2.2.1[j]? =some w->(∀x∈N.2.2.2.1.take j,x≠w)/\∀x∈N.2.2.1,x≠w
 m:∀(j:Nat) w,N.2.2.2.2[j]? =some w->∀x∈N.2.2.2.2.take j,x≠w
theorem Ef{α:Type}{l:List α}{i:Int}{x:α}(h:U0 l i=some x):l[i.toNat]? =some x/\((i.toNat:Nat):Int)=i/\x∈l:=by obtain⟨h0,h1,h2,h3⟩:=fF h;exact⟨h3,l7,h2⟩
variable {m:Nat}{R:List Z7}{v:Int}{k:Int}{W:List Z7}{n:Int}{w:c5y}{P:List (Int×Int)}
section
variable {T:List dA} {E:Int} {N:D9}
theorem b8U{k u:Int}(hk:k=2\/k=3\/k=4):AOk T E N (m+1) [(k,w,u)] [(k,u)] R:=by
 intro i nd hAt hn;have h0:At3 T i ((k,w,u)::R):=hAt;have hl:=Di hAt;simp only[D7,I5]at hl hn;have hs:=Ba h0;have e1:(pk T i).1=k:=congrArg (λx:Z7=>x.1) hs;have e2:(pk T i).2.2.1=u:=congrArg (λx:Z7=>x.2.2) hs;have hlit:VU k=k:=by rcases hk with rfl|rfl|rfl<;>rfl
 rw[b3u];unfold jb;rw[Jw h0,o9,Md,o9];simp only[e1,e2,hlit,O6 (show k≠0 by omega),Y2,o7];rw[o9,gu l7,show H5 (T,((i+1:Nat):Int),E,N,nd,0,0) k u=_ from pz (i:=i+1) l7 k u,o9];rfl
theorem b5K{u:Int} :AOk T E N (m+1) [(5,w,u)] [(5,u)] R:=by intro i nd hAt hn;have h0:At3 T i ((5,w,u)::R):=hAt;have hl:=Di hAt;simp only[D7,I5]at hl hn;have hs:=Ba h0;have e1:(pk T i).1=5:=congrArg (λx:Z7=>x.1) hs;have e2:(pk T i).2.2.1=u:=congrArg (λx:Z7=>x.2.2) hs;rw[b3u];unfold jb;rw[Jw h0,o9,Md,o9];simp only[e1,e2,show VU 5=0 from rfl,O8 (rfl:(0:Int)=0),O8 (rfl:(5:Int)=5),G8,o6,o7];rw[gu l7,show H5 (T,((i+1:Nat):Int),E,N,nd,0,0) 5 u=_ from pz (i:=i+1) l7 5 u,o9];rfl
theorem UK{i:Nat}{nd:List (Int×Int)}(h0:At3 T i ((1,w,n)::(W++R))):(o8 (m+1)).2.2.2.1 (pS T E N i nd)=
  (l9 (seq w [116,114,117,101]) (H5 (pS T E N (i+1) nd) 1 1)
   (l9 (seq w [102,97,108,115,101]) (H5 (pS T E N (i+1) nd) 1 0)
    (l9 (seq w [116,111,100,97,121]) (H5 (pS T E N (i+1) nd) 9 0)
     (o5 (nH w) λ(x_3:Int)=>
           l9 (J8 (D6 x_3 0))
            (o5 (U9 (pS T E N (i+1) nd) [40])
             λ(x_4:Bool×C9)=>
             l9 x_4.1
              (o5 ((o8 m).2.2.2.2 x_4.2 x_3) λ(x:Bool×C9)=>
                l9 x.1 (o5 (U9 x.2 [41]) λ(x:Bool×C9)=>some x)
                 (some (false,x.2)))
              (some (false,x_4.2)))
            (fB (pS T E N i nd)))))):=by
 have hi:=NM h0;have hT:=h0.2.1;have hs:=Ba h0;have e1:(pk T i).1=1:=congrArg (λx:Z7=>x.1) hs;have e2:(pk T i).2.1=w:=congrArg (λx:Z7=>x.2.1) hs;rw[b3u];unfold jb;rw[Jw h0,o9,Md,o9];simp only[e1,e2,show VU 1=0 from rfl,O8 (rfl:(0:Int)=0),G8,o6,O6 (show(1:Int)≠5 by omega)];rw[JP h0,o9,show(l9 (D6 (hd3 ((1,w,n)::(W++R):List Z7)).1 7) (seq (hd3 ((1,w,n)::(W++R):List Z7)).2.1 [40]) false)=false from rfl];simp only[o6,O8 (rfl:(1:Int)=1),G8];rw[gu l7];simp only[oU];cases hc:nH w<;>rfl
theorem b5M :AOk T E N (m+1) [(1,[116,114,117,101],n)] [(1,1)] R:=by intro i nd hAt hn;simp only[D7,I5]at hn;rw[UK (W:=[]) hAt,show seq ([116,114,117,101]:c5y) [116,114,117,101]=true from rfl,o7,pz l7];rfl
theorem b2p :AOk T E N (m+1) [(1,[102,97,108,115,101],n)] [(1,0)] R:=by intro i nd hAt hn;simp only[D7,I5]at hn;rw[UK (W:=[]) hAt,show seq ([102,97,108,115,101]:c5y) [116,114,117,101]=false from rfl,o6,show seq ([102,97,108,115,101]:c5y) [102,97,108,115,101]=true from rfl,o7,pz l7];rfl
theorem b2r :AOk T E N (m+1) [(1,[116,111,100,97,121],n)] [(9,0)] R:=by intro i nd hAt hn;simp only[D7,I5]at hn;rw[UK (W:=[]) hAt,show seq ([116,111,100,97,121]:c5y) [116,114,117,101]=false from rfl,o6,show seq ([116,111,100,97,121]:c5y) [102,97,108,115,101]=false from rfl,o6,show seq ([116,111,100,97,121]:c5y) [116,111,100,97,121]=true from rfl,o7,pz l7];rfl
theorem ZC{i:Nat}{nd:List (Int×Int)}(h0:At3 T i ((1,w,n)::(W++R)))(hw:nJ w=true):(o8 (m+1)).2.2.2.1 (pS T E N i nd)=fB (pS T E N i nd):=by rw[UK h0,a3B hw (by decide+kernel),o6,a3B hw (by decide+kernel),o6,a3B hw (by decide+kernel),o6,a6Z hw,o9,O8 rfl];rfl
theorem c4A(hN:NmD N)(hv:U0 N.2.2.1 v=some (gtN N.2.2.1 v))(hR:Gm R):AOk T E N (m+1) [(1,gtN N.2.2.1 v,0)] [(7,v)] R:=by intro i nd hAt hn;simp only[D7,I5]at hn;obtain⟨h1,h2,h3⟩:=Ef hv;have hw:=hN.id.i _ h3;rw[ZC (W:=[]) hAt hw,b2Z l7 hAt hR hw (by have:=hN.le;omega) ⟨h1,hN.i _ _ h1⟩,h2];rfl
theorem b8T(hN:NmD N)(hv:U0 N.2.2.2.1 v=some (gtN N.2.2.2.1 v))(hR:Gm R):AOk T E N (m+1) [(1,gtN N.2.2.2.1 v,0)] [(8,v)] R:=by intro i nd hAt hn;simp only[D7,I5]at hn;obtain⟨h1,h2,h3⟩:=Ef hv;have hw:=hN.id.d _ h3;rw[ZC (W:=[]) hAt hw,a9D l7 hAt hR hw (by have:=hN.le;omega) (by have:=hN.le;omega) (hN.d _ _ h1).2 ⟨h1,(hN.d _ _ h1).1⟩,h2];rfl
theorem b5L(hN:NmD N)(hI:kQ v)(hz:flS (6,v) N=0) :AOk T E N (m+1) [(1,((U0 N.1 (eP .i64 v 16)).getD ([],[])).1,0),(7,[58],0),(1,gtN ((U0 N.1 (eP .i64 v 16)).getD ([],[])).2 (jB v 16),0)] [(6,v)] R:=by intro i nd hAt hn;simp only[D7,I5]at hn;obtain⟨e,h1,h2,q1,q2,q3,q4⟩:=b_ hI hz;rw[h1]at hAt ⊢;simp only[dW]at hAt ⊢;obtain⟨a1,a2,a3⟩:=Ef h1;obtain⟨b1,b2,b3⟩:=Ef h2;obtain⟨c1,c2,c3⟩:=hN.e _ _ a1;have hw:=(hN.id.e _ a3).1;have hv:=(hN.id.e _ a3).2 _ b3;rw[ZC (W:=[(7,[58],0),(1,gtN e.2 (jB v 16),0)]) hAt hw,a7u l7 hAt hw hv (by have:=hN.le;omega) a1 rfl c1 l7 ⟨b1,c3 _ _ b1⟩,a2,b2,←q4];rfl
def Vb(k:Int):Prop:=k=14\/k=15\/k=16\/k=17\/k=18\/k=27\/k=28\/k=29\/k=30\/k=31\/k=32\/k=33\/k=34\/k=35\/k=36\/k=37\/k=38\/k=39
theorem ZB(hk:Vb k)(h:COk T E N m k W P ((7,[41],0)::R)):AOk T E N (m+1) ((1,eQ k,0)::(7,[40],0)::(W++[(7,[41],0)])) P R:=by
 intro i nd hAt hn;have h0:At3 T i ((1,eQ k,0)::((7,[40],0)::(W++[(7,[41],0)])++R)):=hAt;have h2:At3 T (i+1) ((7,[40],0)::(W++((7,[41],0)::R))):=by have:=gY h0;have e:((7,[40],0)::(W++[(7,[41],0)])++R)=((7,[40],0):Z7)::(W++((7,[41],0)::R)):=A7;rw[←e];exact this
 have hne:seq (eQ k) [116,114,117,101]=false/\seq (eQ k) [102,97,108,115,101]=false/\seq (eQ k) [116,111,100,97,121]=false/\D6 k 0=false:=by rcases hk with rfl|rfl|rfl|rfl|rfl|rfl|rfl|rfl|rfl|rfl|rfl|rfl|rfl|rfl|rfl|rfl|rfl|rfl<;>exact⟨rfl,rfl,rfl,rfl⟩
 rw[UK h0,hne.1,hne.2.1,hne.2.2.1,o6,o6,o6,a6Y hk,o9,hne.2.2.2,Y2,o7];rw[yF h2,o9];simp only[o7];rw[h (i+1+1) nd (gY h2) hn,o9];simp only[o7];rw[yF (xh (gY h2)),o9];have e3:i+1+1+W.length+1=i+((1,eQ k,0)::(7,[40],0)::(W++[(7,[41],0)]):List Z7).length:=by simp;omega
 rw[e3]
theorem b2z :COk T E N (m+1) 35 [] [(35,0)] R:=by intro i nd hAt hn;simp only[D7,I5]at hn;rw[a3W];unfold dh;simp (disch:=decide) only[O8,o7];rw[pz l7,o9];rfl
theorem b9g(hN:NmD N)(hk:k=36\/k=37\/k=38\/k=39)(hv:U0 N.2.2.2.2 v=some (gtN N.2.2.2.2 v)) :COk T E N (m+1) k [(1,gtN N.2.2.2.2 v,0)] [(k,v)] R:=by
 intro i nd hAt hn;simp only[D7,I5]at hn;obtain⟨h1,h2,h3⟩:=Ef hv;have hf:=Pi (E:=E) (N:=N) (nd:=nd) hAt (hN.id.m _ h3) (l:=N.2.2.2.2) (by have:=hN.le;omega) ⟨h1,hN.m _ _ h1⟩;rw[h2]at hf;rw[a3W];unfold dh;have e:(l9 (D6 k 36) (some (D6 k 36)) (l9 (D6 k 37) (some (D6 k 37)) (l9 (D6 k 38) (some (D6 k 38)) (some (D6 k 39)))))=some true:=by rcases hk with rfl|rfl|rfl|rfl<;>rfl
 rw[O6 (show k≠35 by omega),o6,e];simp only[o9,o7];rw[hf,o9];simp only[o7];rw[pz l7,o9];rfl
theorem b9i(hN:NmD N)(hv:U0 N.2.1 v=some (gtN N.2.1 v))(h:EOk T E N m W P R):COk T E N (m+1) 33 ((1,gtN N.2.1 v,0)::(7,[44],0)::W) (P++[(33,v)]) R:=by
 intro i nd hAt hn;simp only[E8,D7,I5]at hn;obtain⟨h1,h2,h3⟩:=Ef hv;have h0:At3 T i ((1,gtN N.2.1 v,0)::(7,[44],0)::(W++R)):=hAt;have hf:=Pi (E:=E) (N:=N) (nd:=nd) h0 (hN.id.t _ h3) (l:=N.2.1) (by have:=hN.le;omega) ⟨h1,hN.t _ _ h1⟩;rw[h2]at hf;rw[a3W];unfold dh;simp (disch:=decide) only[O8,O6,o7,o6,o9];rw[hf,o9];simp only[G8,o6];rw[yF (gY h0),o9];simp only[G8,o6];rw[h (i+1+1) nd (gY (gY h0)) l7,o9];simp only[G8,o6];rw[pz F8,o9,o9,nU];have e3:i+1+1+W.length=i+((1,gtN N.2.1 v,0)::(7,[44],0)::W:List Z7).length:=by simp;omega
 rw[e3,F5]
theorem b5Z(hN:NmD N)(hI:kQ v)(hz:flS (34,v) N=0)(h:EOk T E N m W P ((7,[44],0)::(1,lF (jB v 8),0)::R)):
  COk T E N (m+1) 34 ((1,gtN N.2.1 (eP .i64 v 8),0)::(7,[44],0)::(W++[(7,[44],0),(1,lF (jB v 8),0)])) (P++[(34,v)]) R:=by
 intro i nd hAt hn;simp only[E8,D7,I5]at hn;obtain⟨hv,g1,g2⟩:=a5F hI hz;obtain⟨h1,h2,h3⟩:=Ef hv;have h0:At3 T i ((1,gtN N.2.1 (eP .i64 v 8),0)::(7,[44],0)::(W++((7,[44],0)::(1,lF (jB v 8),0)::R))):=by have e:((1,gtN N.2.1 (eP .i64 v 8),0)::(7,[44],0)::(W++[(7,[44],0),(1,lF (jB v 8),0)]))++R=((1,gtN N.2.1 (eP .i64 v 8),0):Z7)::(7,[44],0)::(W++((7,[44],0)::(1,lF (jB v 8),0)::R)):=A7;rw[←e];exact hAt
 have hf:=Pi (E:=E) (N:=N) (nd:=nd) h0 (hN.id.t _ h3) (l:=N.2.1) (by have:=hN.le;omega) ⟨h1,hN.t _ _ h1⟩;rw[h2]at hf;have hq:v=8*eP .i64 v 8+jB v 8:=by
  have hv0:0<=v:=by
   unfold flS at hz;rw[show Y6 (34,v) N=l9 (I7 v 0) (some 6) (l9 (X6 (x8 N.2.1) (eP .i64 v 8)) (some 6) (l9 (I7 5 (jB v 8)) (some 3) (some 0)))from rfl]at hz;rcases Int.lt_or_le v 0 with h|h
   .rw[aA h]at hz;cases hz
   .exact h
  rw[PR hI 8 (.inl rfl),pg hv0,Ce hv0];omega
 have hql:=(fF hv).2.1;have hle:=hN.le;unfold x8 at hql;have h4:=xh (gY (gY h0));rw[a3W];unfold dh;simp (disch:=decide) only[O8,O6,o7,o6,o9];rw[hf,o9];simp only[G8,o6];rw[yF (gY h0),o9];simp only[G8,o6];rw[h (i+1+1) nd (gY (gY h0)) l7,o9];simp only[G8,o6];rw[yF h4,o9];simp only[G8,o6];rw[a6a (gY h4) ⟨g1,g2⟩,o9];simp only[o7];rw[Kz bI,eG bI,←hq,pz F8,o9,o9,nU];have e3:i+1+1+W.length+1+1=i+((1,gtN N.2.1 (eP .i64 v 8),0)::(7,[44],0)::(W++[(7,[44],0),(1,lF (jB v 8),0)]):List Z7).length:=by simp;omega
 rw[e3,F5]
theorem b4w(hk:k=31\/k=32)(h:EOk T E N m W P R):COk T E N (m+1) k W (P++[(k,0)]) R:=by
 intro i nd hAt hn;simp only[E8,D7,I5]at hn;rw[a3W];unfold dh;rcases hk with rfl|rfl
 all_goals
  simp (disch:=decide) only[O8,O6,o7,o6,o9,Y4];rw[h i nd hAt l7,o9];simp only[G8,o6];rw[pz F8,o9,F5]
theorem b9j(hk:k=17\/k=18\/k=27\/k=28\/k=29\/k=30){A B:List Z7}{PA PB:List (Int×Int)}(hA:EOk T E N m A PA ((7,[44],0)::(B++R)))(hB:EOk T E N m B PB R):COk T E N (m+1) k (A++(7,[44],0)::B) (PA++PB++[(k,0)]) R:=by
 intro i nd hAt hn;simp only[E8,D7,I5]at hn;have h0:At3 T i (A++((7,[44],0)::(B++R))):=by rw[F5]at hAt;exact hAt
 have e3:i+A.length+1+B.length=i+(A++(7,[44],0)::B:List Z7).length:=by simp;omega
 have e4:nd++PA++PB++[(k,0)]=nd++(PA++PB++[(k,0)]):=A7;rw[a3W];unfold dh;rcases hk with rfl|rfl|rfl|rfl|rfl|rfl
 all_goals
  simp (disch:=decide) only[O8,O6,o7,o6,o9,Y4];rw[hA i nd h0 l7,o9];simp only[G8,o6];rw[yF (xh h0),o9];simp only[G8,o6];rw[hB (i+A.length+1) (nd++PA) (gY (xh h0)) F8,o9];simp only[G8,o6];rw[pz F8,o9,e3,e4]
theorem b9h(hk:k=14\/k=15\/k=16)(hv:0<=v/\v<=5){A B:List Z7}{PA PB:List (Int×Int)} (hA:EOk T E N m A PA ((7,[44],0)::(B++((7,[44],0)::(1,lF v,0)::R)))) (hB:EOk T E N m B PB ((7,[44],0)::(1,lF v,0)::R)):
  COk T E N (m+1) k (A++(7,[44],0)::(B++[(7,[44],0),(1,lF v,0)])) (PA++PB++[(k,v)]) R:=by
 intro i nd hAt hn;simp only[E8,D7,I5]at hn;have h0:At3 T i (A++((7,[44],0)::(B++((7,[44],0)::(1,lF v,0)::R)))):=by have e:(A++(7,[44],0)::(B++[(7,[44],0),(1,lF v,0)]))++R=A++((7,[44],0)::(B++((7,[44],0)::(1,lF v,0)::R)):List Z7):=A7;rw[←e];exact hAt
 have h4:=xh (gY (xh h0));have e3:i+A.length+1+B.length+1+1=i+(A++(7,[44],0)::(B++[(7,[44],0),(1,lF v,0)]):List Z7).length:=by simp;omega
 have e4:nd++PA++PB++[(k,v)]=nd++(PA++PB++[(k,v)]):=A7;rw[a3W];unfold dh;rcases hk with rfl|rfl|rfl
 all_goals
  simp (disch:=decide) only[O8,O6,o7,o6,o9,Y4];rw[hA i nd h0 l7,o9];simp only[G8,o6];rw[yF (xh h0),o9];simp only[G8,o6];rw[hB (i+A.length+1) (nd++PA) (gY (xh h0)) F8,o9];simp only[G8,o6];rw[yF h4,o9];simp only[G8,o6];rw[a6a (gY h4) hv,o9];simp only[o7];rw[pz F8,o9,e3,e4]
end
end Go.GP
namespace Go.GP
open Gt
set_option maxRecDepth 100000
def gT(c:Int):Int:=l9 (X6 6 c) 5 (l9 (D6 c 3) 2 c)
def tkT(N:D9)(t:XT):List Z7:=xZ (itT N t)
def tkW(N:D9)(t:XT)(c:Int):List Z7:=xZ (wiI (itT N t) (txT N t).2 c)
theorem Xo(N:D9)(t:XT)(c:Int):tkW N t c=l9 (I7 (txT N t).2 c) ((7,[40],0)::(tkT N t++[(7,[41],0)])) (tkT N t):=by
 unfold tkW tkT wiI;cases I7 (txT N t).2 c
 .rfl
 .simp only[o7];rw[iy,iy];rfl
structure TrOk (T:List dA) (E:Int) (N:D9) (t:XT):Prop where
 ne:tkT N t≠[]
 nif:1<=(txT N t).2->¬((hd3 (tkT N t)).1=1/\(hd3 (tkT N t)).2.1=[105,102])
 neg:6<=(txT N t).2->Bq t.node.1=false->VU (hd3 (tkT N t)).1=0
 U:6<=(txT N t).2->∀R,Gm R->∀m,10*t.size<=m->UOk T E N m (tkT N t) t.post R
 L:(txT N t).2<=5->∀R,Gn R ((txT N t).2+1)->∀c,1<=c->c<=(txT N t).2->∀m,10*t.size<=m->LOk T E N m c (tkT N t) t.post (gT (txT N t).2) R
 E:∀R,Gn R 1->∀m,10*t.size+2<=m->EOk T E N m (tkT N t) t.post R
variable {t:XT}{R:List Z7}{m:Nat}{c:Int}
section
variable {T:List dA} {E:Int} {N:D9}
theorem Ot{c d:Int}(h:Gn R c)(hcd:c<=d):Gn R d:=by
 rcases h with h|⟨k,h1,h2,h3⟩
 .exact .inl h
 .exact .inr ⟨k,h1,h2,l7⟩
theorem Qb(R:List Z7)(c:Int):Gn ((7,[41],0)::R) c:=.inl (.inr (.inl rfl))
theorem Uo(R:List Z7)(c:Int):Gn ((7,[44],0)::R) c:=.inl (.inr (.inr (.inl rfl)))
theorem c5f(h:TrOk T E N t)(h1:1<=c)(h2:c<=(txT N t).2)(hR:Gm R)(hR2:(txT N t).2<=5->Gn R ((txT N t).2+1))(hm:10*t.size<=m):LOk T E N m c (tkT N t) t.post (gT (txT N t).2) R:=by
 by_cases h6:6<=(txT N t).2
 .have:gT (txT N t).2=5:=by unfold gT;rw[ay h6];rfl
  rw[this];exact a4Z c (h.U h6 R hR m hm)
 .exact h.L l7 R (hR2 l7) c h1 h2 m hm
theorem c4p(ne:tkT N t≠[])(nif:¬((hd3 (tkT N t)).1=1/\(hd3 (tkT N t)).2.1=[105,102]))(hc:1<=(txT N t).2)(hR:Gn R 1)(hm:2<=m)(hL:LOk T E N (m -2) 1 (tkT N t) t.post (gT (txT N t).2) R):EOk T E N m (tkT N t) t.post R:=by obtain⟨m,rfl⟩:∃q,m=q+2:=⟨m -2,l7⟩;exact b5V (a9p hL hR) ne nif
theorem A_(h:TrOk T E N t)(hm:10*t.size+4<=m):UOk T E N m ((7,[40],0)::(tkT N t++[(7,[41],0)])) t.post R:=by obtain⟨m,rfl⟩:∃q,m=q+2:=⟨m -2,l7⟩;exact a8x (b2q (h.E _ (Qb R 1) m l7)) A7 (by rintro⟨-,h⟩;cases h) (by rintro⟨h,-⟩;cases h)
theorem c4x(h:TrOk T E N t)(hR:Gm R)(hm:10*t.size+4<=m):UOk T E N m (tkW N t 6) t.post R:=by
 rw[Xo];by_cases h6:6<=(txT N t).2
 .rw[U5 h6,o6];exact h.U h6 R hR m l7
 .rw[aA l7,o7];exact A_ h hm
theorem c4w(h:TrOk T E N t){c c' :Int}(h1:1<=c)(h2:c<=c')(hR:Gm R)(hR2:Gn R (c' +1))(hm:10*t.size+4<=m):∃g,LOk T E N m c (tkW N t c') t.post g R/\(g=5\/(c' <=(txT N t).2/\(txT N t).2<=5/\g=gT (txT N t).2)):=by
 rw[Xo];by_cases h6:c' <=(txT N t).2
 .rw[U5 h6,o6];refine⟨_,c5f h h1 l7 hR (λ_=>Ot hR2 l7) l7,?_⟩;by_cases h7:6<=(txT N t).2
  .left;unfold gT;rw[ay h7];rfl
  .right;exact⟨h6,l7,rfl⟩
 .rw[aA l7,o7];exact⟨5,a4Z c (A_ h hm),.inl rfl⟩
theorem c5h(h:TrOk T E N t)(h1:1<=c)(hR:Gn R c)(hm:10*t.size+5<=m):b2n T E N m c (tkW N t c) t.post R:=by obtain⟨m,rfl⟩:∃q,m=q+1:=⟨m -1,l7⟩;obtain⟨g,hg,-⟩:=c4w h h1 (lT c) (a6r hR) (Ot hR l7) (m:=m) l7;exact a9p hg hR
theorem b2b(t:XT)(h:TrOk T E N t)(c:Int):tkW N t c≠[]:=by
 rw[Xo];cases I7 (txT N t).2 c
 .exact h.ne
 .simp[l9]
theorem Ut(ne:tkT N t≠[])(nif:¬((hd3 (tkT N t)).1=1/\(hd3 (tkT N t)).2.1=[105,102]))(hc:6<=(txT N t).2)(neg:Bq t.node.1=false->VU (hd3 (tkT N t)).1=0)(U:∀R,Gm R->∀m,10*t.size<=m->UOk T E N m (tkT N t) t.post R):TrOk T E N t:=by
 have hg:gT (txT N t).2=5:=by unfold gT;rw[ay hc];rfl
 refine⟨ne,λ_=>nif,λ_=>neg,λ_=>U,λh=>by omega,λR hR m hm=>c4p ne nif l7 hR l7 ?_⟩;rw[hg];exact a4Z 1 (U R (a6r hR) (m -2) l7)
theorem Dt(ne:tkT N t≠[])(nif:¬((hd3 (tkT N t)).1=1/\(hd3 (tkT N t)).2.1=[105,102]))(n1:¬((hd3 (tkT N t)).1=7/\(hd3 (tkT N t)).2.1=[45]))(n2:¬((hd3 (tkT N t)).1=1/\(hd3 (tkT N t)).2.1=[110,111,116]))(hc:6<=(txT N t).2)(neg:Bq t.node.1=false->VU (hd3 (tkT N t)).1=0)
  (A:∀R,Gm R->∀m,10*t.size<=m+1->AOk T E N m (tkT N t) t.post R):TrOk T E N t:=by
 refine Ut ne nif hc neg (λR hR m hm=>?_);have hp:=t.size_pos;obtain⟨m,rfl⟩:∃q,m=q+1:=⟨m -1,l7⟩;exact a8x (A R hR m l7) ne n1 n2
theorem b4C{w:c5y}{n:Int}{L:List Z7}(hw:nJ w=true):¬((hd3 ((1,w,n)::L)).1=1/\(hd3 ((1,w,n)::L)).2.1=[105,102])/\¬((hd3 ((1,w,n)::L)).1=7/\(hd3 ((1,w,n)::L)).2.1=[45])/\¬((hd3 ((1,w,n)::L)).1=1/\(hd3 ((1,w,n)::L)).2.1=[110,111,116]):=by
 refine⟨?_,?_,?_⟩
 .rintro⟨-,h⟩;exact a5L hw (by decide+kernel) h
 .rintro⟨h,-⟩;exact absurd (show(1:Int)=7 from h) E9
 .rintro⟨-,h⟩;exact a5L hw (by decide+kernel) h
theorem b4h(hN:NmD N){n:Int×Int}(ha:arF n.1=0)(hI:kQ n.2)(hz:flS n N=0):TrOk T E N (.l0 n):=by
 obtain⟨k,v⟩:=n;have ident:∀w:c5y,tkT N (.l0 (k,v))=[(1,w,0)]->nJ w=true->6<=(txT N (.l0 (k,v))).2->(∀R,Gm R->∀m,AOk T E N (m+1) [(1,w,0)] [(k,v)] R)->TrOk T E N (.l0 (k,v)):=by intro w e hw hc hA;obtain⟨i1,i2,i3⟩:=b4C (n:=0) (L:=[]) hw;refine Dt (by rw[e];simp) (by rw[e];exact i1) (by rw[e];exact i2) (by rw[e];exact i3) hc (λ_=>by rw[e];rfl) (λR hR m hm=>?_);simp only[XT.size]at hm;obtain⟨m,rfl⟩:∃q,m=q+1:=⟨m -1,l7⟩;rw[e];exact hA R hR m
 have word:∀w:c5y,tkT N (.l0 (k,v))=[(1,w,0)]->(w=[116,114,117,101]\/w=[102,97,108,115,101]\/w=[116,111,100,97,121])->6<=(txT N (.l0 (k,v))).2->(∀R m,AOk T E N (m+1) [(1,w,0)] [(k,v)] R)->TrOk T E N (.l0 (k,v)):=by
  intro w e hw hc hA;have hh:hd3 (tkT N (.l0 (k,v)))=(1,w,0):=by rw[e];rfl
  refine Dt (by rw[e];simp) (by rw[hh];rcases hw with rfl|rfl|rfl<;>decide) (by rw[hh];rcases hw with rfl|rfl|rfl<;>decide) (by rw[hh];rcases hw with rfl|rfl|rfl<;>decide) hc (λ_=>by rw[hh];rfl) (λR hR m hm=>?_);simp only[XT.size]at hm;obtain⟨m,rfl⟩:∃q,m=q+1:=⟨m -1,l7⟩;rw[e];exact hA R m
 have num:(k=2\/k=3\/k=4)->-1000000000000000000<=v/\v<=1000000000000000000->TrOk T E N (.l0 (k,v)):=by
  intro hk hb;have e0:tkT N (.l0 (k,v))=l9 (I7 v 0) [(7,[45],0),(k,MZ k v.natAbs,(v.natAbs:Int))] [(k,MZ k v.natAbs,(v.natAbs:Int))]:=by
   have:itT N (.l0 (k,v))=TL k v:=by show KC (k,v) N=_;unfold KC;rw[ay (show k<=5 by omega)];rfl
   unfold tkT;rw[this];unfold TL;rw[O6 (show k≠1 by omega),O6 (show k≠5 by omega)];cases I7 v 0<;>rfl
  have hc:6<=(txT N (.l0 (k,v))).2:=by show 6<=(wK (k,v) N).2;unfold wK;rw[ay (show k<=5 by omega),o7];cases I7 v 0<;>simp[l9]
  have hnum:Bq k=true:=by rcases hk with rfl|rfl|rfl<;>rfl
  by_cases h0:v<0
  .rw[aA h0,o7]at e0;refine Ut (by rw[e0];simp) (by rw[e0];rintro⟨h,-⟩;exact absurd (show(7:Int)=1 from h) E9) hc (λh=>by rw[show(XT.l0 (k,v)).node.1=k from rfl,hnum]at h;cases h) (λR hR m hm=>?_);simp only[XT.size]at hm;obtain⟨m,rfl⟩:∃q,m=q+1:=⟨m -1,l7⟩;rw[e0];have:=b2i (T:=T) (E:=E) (N:=N) (m:=m) (w:=MZ k v.natAbs) (u:=(v.natAbs:Int)) (R:=R) hk l7;rw[show(-(v.natAbs:Int))=v by omega]at this;exact this
  .rw[U5 l7,o6]at e0;have hh:hd3 (tkT N (.l0 (k,v)))=(k,MZ k v.natAbs,(v.natAbs:Int)):=by rw[e0];rfl
   refine Dt (by rw[e0];simp) (by rw[hh];rintro⟨h,-⟩;simp only at h;omega) (by rw[hh];rintro⟨h,-⟩;simp only at h;omega) (by rw[hh];rintro⟨h,-⟩;simp only at h;omega) hc (λh=>by rw[show(XT.l0 (k,v)).node.1=k from rfl,hnum]at h;cases h) (λR hR m hm=>?_);simp only[XT.size]at hm;obtain⟨m,rfl⟩:∃q,m=q+1:=⟨m -1,l7⟩;rw[e0];have:=b8U (T:=T) (E:=E) (N:=N) (m:=m) (w:=MZ k v.natAbs) (u:=(v.natAbs:Int)) (R:=R) hk;rw[show((v.natAbs:Nat):Int)=v by omega]at this ⊢;exact this
 have call:(k=36\/k=37\/k=38\/k=39)->TrOk T E N (.l0 (k,v)):=by
  intro hk;have hg:U0 N.2.2.2.2 v=some (gtN N.2.2.2.2 v):=by rcases hk with rfl|rfl|rfl|rfl<;>exact ET rfl hz
  have e:tkT N (.l0 (k,v))=(1,eQ k,0)::(7,[40],0)::([(1,gtN N.2.2.2.2 v,0)]++[(7,[41],0)]):=by rcases hk with rfl|rfl|rfl|rfl<;>rfl
  have hc:6<=(txT N (.l0 (k,v))).2:=by rcases hk with rfl|rfl|rfl|rfl<;>exact(show(6:Int)<=7 by decide)
  have hh:hd3 (tkT N (.l0 (k,v)))=(1,eQ k,0):=by rw[e];rfl
  refine Dt (by rw[e];simp) (by rw[hh];rcases hk with rfl|rfl|rfl|rfl<;>decide) (by rw[hh];rcases hk with rfl|rfl|rfl|rfl<;>decide) (by rw[hh];rcases hk with rfl|rfl|rfl|rfl<;>decide) hc (λ_=>by rw[hh];rfl) (λR hR m hm=>?_);simp only[XT.size]at hm;obtain⟨m,rfl⟩:∃q,m=q+2:=⟨m -2,l7⟩;rw[e];exact ZB (by unfold Vb;omega) (b9g hN hk hg)
 rcases ar0 ha with rfl|rfl|rfl|rfl|rfl|rfl|rfl|rfl|rfl|rfl|rfl|rfl|rfl|rfl
 .have hb:=Gh (k:=1) l7 rfl hz;rcases(show v=0\/v=1 by omega)with rfl|rfl
  .exact word [102,97,108,115,101] rfl A7 (show(6:Int)<=7 by decide) (λR m=>b2p)
  .exact word [116,114,117,101] rfl A7 (show(6:Int)<=7 by decide) (λR m=>b5M)
 .have hb:=Gh (k:=2) l7 rfl hz;exact num l7 l7
 .have hb:=Gh (k:=3) l7 rfl hz;exact num l7 l7
 .have hb:=Gh (k:=4) l7 rfl hz;exact num l7 l7
 .have hb:=Gh (k:=5) l7 rfl hz;have e0:tkT N (.l0 (5,v))=[(5,nR v,v)]:=rfl;have hh:hd3 (tkT N (.l0 (5,v)))=(5,nR v,v):=rfl;have hc:6<=(txT N (.l0 (5,v))).2:=by
   show 6<=(l9 (I7 v 0) 6 7:Int);cases I7 v 0<;>simp[l9]
  refine Dt (by rw[e0];simp) (by rw[hh];rintro⟨h,-⟩;exact absurd (show(5:Int)=1 from h) E9) (by rw[hh];rintro⟨h,-⟩;exact absurd (show(5:Int)=7 from h) E9) (by rw[hh];rintro⟨h,-⟩;exact absurd (show(5:Int)=1 from h) E9) hc (λ_=>by rw[hh];rfl) (λR hR m hm=>?_);simp only[XT.size]at hm;obtain⟨m,rfl⟩:∃q,m=q+1:=⟨m -1,l7⟩;rw[e0];exact b5K
 .obtain⟨e,h1,h2,q1,q2,q3,q4⟩:=b_ hI hz;have ee:=hN.id.e e (Aa h1);have e0:tkT N (.l0 (6,v))=[(1,((U0 N.1 (eP .i64 v 16)).getD ([],[])).1,0),(7,[58],0),(1,gtN ((U0 N.1 (eP .i64 v 16)).getD ([],[])).2 (jB v 16),0)]:=rfl;have hw:nJ ((U0 N.1 (eP .i64 v 16)).getD ([],[])).1=true:=by rw[h1];exact ee.1
  obtain⟨i1,i2,i3⟩:=b4C (n:=0) (L:=[(7,[58],0),(1,gtN ((U0 N.1 (eP .i64 v 16)).getD ([],[])).2 (jB v 16),0)]) hw;refine Dt (by rw[e0];simp) (by rw[e0];exact i1) (by rw[e0];exact i2) (by rw[e0];exact i3) (show(6:Int)<=7 by decide) (λ_=>by rw[e0];rfl) (λR hR m hm=>?_);simp only[XT.size]at hm;obtain⟨m,rfl⟩:∃q,m=q+1:=⟨m -1,l7⟩;rw[e0];exact b5L hN hI hz
 .have hg:=ET (n:=(7,v)) (l:=N.2.2.1) rfl hz;exact ident (gtN N.2.2.1 v) rfl (hN.id.i _ (Aa hg)) (show(6:Int)<=7 by decide) (λR hR m=>c4A hN hg hR)
 .have hg:=ET (n:=(8,v)) (l:=N.2.2.2.1) rfl hz;exact ident (gtN N.2.2.2.1 v) rfl (hN.id.d _ (Aa hg)) (show(6:Int)<=7 by decide) (λR hR m=>b8T hN hg hR)
 .have hv:v=0:=by
   unfold flS at hz;rw[show Y6 (9,v) N=l9 (J8 (D6 v 0)) (some 2) (some 0)from rfl]at hz;by_cases h:v=0
   .exact h
   .rw[O6 h]at hz;cases hz
  subst hv;exact word [116,111,100,97,121] rfl A7 (show(6:Int)<=7 by decide) (λR m=>b2r)
 .have hv:v=0:=by
   unfold flS at hz;rw[show Y6 (35,v) N=l9 (J8 (D6 v 0)) (some 2) (some 0)from rfl]at hz;by_cases h:v=0
   .exact h
   .rw[O6 h]at hz;cases hz
  subst hv;have e:tkT N (.l0 (35,0))=(1,eQ 35,0)::(7,[40],0)::([]++[(7,[41],0)]):=rfl;have hh:hd3 (tkT N (.l0 (35,0)))=(1,eQ 35,0):=rfl;refine Dt (by rw[e];simp) (by rw[hh];decide) (by rw[hh];decide) (by rw[hh];decide) (show(6:Int)<=7 by decide) (λ_=>by rw[hh];rfl) (λR hR m hm=>?_);simp only[XT.size]at hm;obtain⟨m,rfl⟩:∃q,m=q+2:=⟨m -2,l7⟩;rw[e];exact ZB (by unfold Vb;omega) b2z
 .exact call l7
 .exact call l7
 .exact call l7
 .exact call l7
end
end Go.GP
namespace Go.GP
open Gt
set_option maxRecDepth 100000
variable {N:D9}
theorem Pj{k v:Int}(ha:0<=arF k)(hu:dY k=some false)(h:flS (k,v) N=0):v=0:=by
 by_cases h0:v=0
 .exact h0
 .have:=a_ (b4J (N:=N) ha h0 hu);rw[h]at this;cases this
variable {n:Int×Int}{a:XT}
section
variable {T:List dA} {E:Int} {N:D9}
theorem b8G(hN:NmD N)(ha:arF n.1=1)(hI:kQ n.2)(hz:flS n N=0)(h:TrOk T E N a):TrOk T E N (.l1 n a):=by
 obtain⟨k,v⟩:=n;have hsz:(XT.l1 (k,v) a).size=a.size+1:=rfl;have call:∀(W:List Z7),Vb k->tkT N (.l1 (k,v) a)=(1,eQ k,0)::(7,[40],0)::(W++[(7,[41],0)])->6<=(txT N (.l1 (k,v) a)).2->(∀m,10*a.size+3<=m->∀R,COk T E N m k W (a.post++[(k,v)]) ((7,[41],0)::R))->TrOk T E N (.l1 (k,v) a):=by
  intro W hk e hc hC;have hh:hd3 (tkT N (.l1 (k,v) a))=(1,eQ k,0):=by rw[e];rfl
  refine Dt (by rw[e];simp) ?_ ?_ ?_ hc (λ_=>by rw[hh];rfl) (λR hR m hm=>?_)
  .rw[hh];rcases hk with rfl|rfl|rfl|rfl|rfl|rfl|rfl|rfl|rfl|rfl|rfl|rfl|rfl|rfl|rfl|rfl|rfl|rfl<;>decide
  .rw[hh];rintro⟨h,-⟩;exact absurd (show(1:Int)=7 from h) E9
  .rw[hh];rcases hk with rfl|rfl|rfl|rfl|rfl|rfl|rfl|rfl|rfl|rfl|rfl|rfl|rfl|rfl|rfl|rfl|rfl|rfl<;>decide
  .rw[hsz]at hm;obtain⟨m,rfl⟩:∃q,m=q+1:=⟨m -1,l7⟩;rw[e];exact ZB hk (hC m l7 R)
 have v0:(k=10\/k=25\/k=31\/k=32)->v=0:=by intro hk;refine Pj (k:=k) (by rw[show arF k=1 from ha];decide) ?_ hz;rcases hk with rfl|rfl|rfl|rfl<;>decide
 rcases ar1 ha with rfl|rfl|rfl|rfl|rfl|rfl
 .rw[v0 l7]at hz hsz call ⊢;have e:tkT N (.l1 (10,0) a)=(7,[45],0)::l9 (Bq a.node.1) ((7,[40],0)::(tkT N a++[(7,[41],0)])) (tkW N a 6):=by
   have:tkT N (.l1 (10,0) a)=xZ ([sy 45]++l9 (Bq a.node.1) ([sy 40]++itT N a++[sy 41]) (wiI (itT N a) (txT N a).2 6)):=rfl;rw[this,iy];cases Bq a.node.1
   .rfl
   .simp only[o7];rw[iy,iy];rfl
  refine Ut (by rw[e];simp) (by rw[e];rintro⟨h,-⟩;exact absurd (show(7:Int)=1 from h) E9) (show(6:Int)<=6 by decide) (λ_=>by rw[e];rfl) (λR hR m hm=>?_);rw[hsz]at hm;obtain⟨m,rfl⟩:∃q,m=q+1:=⟨m -1,l7⟩;rw[e];cases hnb:Bq a.node.1
  .refine b5G (c4x h hR l7) (b2b a h 6) ?_;rw[Xo];by_cases h6:6<=(txT N a).2
   .rw[U5 h6,o6];exact h.neg h6 hnb
   .rw[aA l7];rfl
  .exact b5G (A_ h l7) (by simp[l9]) rfl
 .rw[v0 l7]at hz hsz call ⊢;have e:tkT N (.l1 (25,0) a)=(1,[110,111,116],0)::tkW N a 6:=by
   have:tkT N (.l1 (25,0) a)=xZ ([nm [110,111,116],none]++wiI (itT N a) (txT N a).2 6):=rfl;rw[this,iy];rfl
  refine Ut (by rw[e];simp) (by rw[e];rintro⟨-,h⟩;exact absurd (show([110,111,116]:c5y)=[105,102]from h) E9) (show(6:Int)<=6 by decide) (λ_=>by rw[e];rfl) (λR hR m hm=>?_);rw[hsz]at hm;obtain⟨m,rfl⟩:∃q,m=q+1:=⟨m -1,l7⟩;rw[e];exact c4s (c4x h hR l7)
 .rw[v0 l7]at hz hsz call ⊢;refine call (tkT N a) (by unfold Vb;omega) ?_ (show(6:Int)<=7 by decide) (λm hm R=>?_)
  .have:tkT N (.l1 (31,0) a)=xZ ([nm (eQ 31),sy 40]++itT N a++[sy 41]):=rfl;rw[this,iy,iy];rfl
  .obtain⟨m,rfl⟩:∃q,m=q+1:=⟨m -1,l7⟩;exact b4w l7 (h.E _ (Qb R 1) m l7)
 .rw[v0 l7]at hz hsz call ⊢;refine call (tkT N a) (by unfold Vb;omega) ?_ (show(6:Int)<=7 by decide) (λm hm R=>?_)
  .have:tkT N (.l1 (32,0) a)=xZ ([nm (eQ 32),sy 40]++itT N a++[sy 41]):=rfl;rw[this,iy,iy];rfl
  .obtain⟨m,rfl⟩:∃q,m=q+1:=⟨m -1,l7⟩;exact b4w l7 (h.E _ (Qb R 1) m l7)
 .have hg:=ET (n:=(33,v)) (l:=N.2.1) rfl hz;refine call ((1,gtN N.2.1 v,0)::(7,[44],0)::tkT N a) (by unfold Vb;omega) ?_ (show(6:Int)<=7 by decide) (λm hm R=>?_)
  .have:tkT N (.l1 (33,v) a)=xZ ([nm (eQ 33),sy 40,nm (gtN N.2.1 v),sy 44,none]++itT N a++[sy 41]):=rfl;rw[this,iy,iy];rfl
  .obtain⟨m,rfl⟩:∃q,m=q+1:=⟨m -1,l7⟩;exact b9i hN hg (h.E _ (Qb R 1) m l7)
 .refine call ((1,gtN N.2.1 (eP .i64 v 8),0)::(7,[44],0)::(tkT N a++[(7,[44],0),(1,lF (jB v 8),0)])) (by unfold Vb;omega) ?_ (show(6:Int)<=7 by decide) (λm hm R=>?_)
  .have:tkT N (.l1 (34,v) a)=xZ ([nm (eQ 34),sy 40,nm (gtN N.2.1 (eP .i64 v 8)),sy 44,none]++itT N a++[sy 44,none,nm (lF (jB v 8)),sy 41]):=rfl;rw[this,iy,iy];show _::_::(_::_::(xZ (itT N a))++[_,_,_])=_;unfold tkT;simp
  .obtain⟨m,rfl⟩:∃q,m=q+1:=⟨m -1,l7⟩;exact b5Z hN hI hz (h.E _ (Uo _ 1) m l7)
theorem b8H(hN:NmD N){a b:XT}(ha:arF n.1=2)(hI:kQ n.2)(hz:flS n N=0)(h:TrOk T E N a)(g:TrOk T E N b):TrOk T E N (.l2 n a b):=by
 obtain⟨k,v⟩:=n;have hsz:(XT.l2 (k,v) a b).size=a.size+b.size+1:=rfl;have call:∀(W:List Z7),Vb k->tkT N (.l2 (k,v) a b)=(1,eQ k,0)::(7,[40],0)::(W++[(7,[41],0)])->6<=(txT N (.l2 (k,v) a b)).2->(∀m,10*a.size+10*b.size+3<=m->∀R,COk T E N m k W (a.post++b.post++[(k,v)]) ((7,[41],0)::R))->TrOk T E N (.l2 (k,v) a b):=by
  intro W hk e hc hC;have hh:hd3 (tkT N (.l2 (k,v) a b))=(1,eQ k,0):=by rw[e];rfl
  refine Dt (by rw[e];simp) ?_ ?_ ?_ hc (λ_=>by rw[hh];rfl) (λR hR m hm=>?_)
  .rw[hh];rcases hk with rfl|rfl|rfl|rfl|rfl|rfl|rfl|rfl|rfl|rfl|rfl|rfl|rfl|rfl|rfl|rfl|rfl|rfl<;>decide
  .rw[hh];rintro⟨h,-⟩;exact absurd (show(1:Int)=7 from h) E9
  .rw[hh];rcases hk with rfl|rfl|rfl|rfl|rfl|rfl|rfl|rfl|rfl|rfl|rfl|rfl|rfl|rfl|rfl|rfl|rfl|rfl<;>decide
  .rw[hsz]at hm;obtain⟨m,rfl⟩:∃q,m=q+1:=⟨m -1,l7⟩;rw[e];exact ZB hk (hC m l7 R)
 by_cases h1:k=17\/k=18\/k=27\/k=28\/k=29\/k=30
 .have hv:v=0:=Pj (k:=k) (by rw[show arF k=2 from ha];decide) (by rcases h1 with rfl|rfl|rfl|rfl|rfl|rfl<;>decide) hz;subst hv;have hb:Va k=true:=by rcases h1 with rfl|rfl|rfl|rfl|rfl|rfl<;>rfl
  refine call (tkT N a++(7,[44],0)::tkT N b) (by unfold Vb;omega) ?_ ?_ (λm hm R=>?_)
  .have:tkT N (.l2 (k,0) a b)=xZ ([nm (eQ k),sy 40]++itT N a++[sy 44,none]++itT N b++[sy 41]):=by
    show xZ (OI (k,0) (itT N a) (txT N a).2 (itT N b) (txT N b).2)=_;unfold OI;rw[hb];rfl
   rw[this,iy,iy,iy,iy];show _::_::_=_;unfold tkT;simp;rfl
  .show 6<=(Jm (k,0) (txT N a) (txT N b)).2;unfold Jm;rw[hb];simp[l9]
  .obtain⟨m,rfl⟩:∃q,m=q+1:=⟨m -1,l7⟩;exact b9j h1 (h.E _ (Uo _ 1) m l7) (g.E _ (Qb R 1) m l7)
 by_cases h2:k=14\/k=15\/k=16
 .have hb:Va k=false/\U_ k=true:=by rcases h2 with rfl|rfl|rfl<;>exact⟨rfl,rfl⟩
  refine call (tkT N a++(7,[44],0)::(tkT N b++[(7,[44],0),(1,lF v,0)])) (by unfold Vb;omega) ?_ ?_ (λm hm R=>?_)
  .have:tkT N (.l2 (k,v) a b)=xZ ([nm (eQ k),sy 40]++itT N a++[sy 44,none]++itT N b++[sy 44,none,nm (lF v),sy 41]):=by
    show xZ (OI (k,v) (itT N a) (txT N a).2 (itT N b) (txT N b).2)=_;unfold OI;rw[hb.1,hb.2];rfl
   rw[this,iy,iy,iy,iy];show _::_::_=_;unfold tkT;simp;rfl
  .show 6<=(Jm (k,v) (txT N a) (txT N b)).2;unfold Jm;rw[hb.1,hb.2];simp[l9]
  .obtain⟨m,rfl⟩:∃q,m=q+1:=⟨m -1,l7⟩;have hC:=b9h (T:=T) (E:=E) (N:=N) (R:=(7,[41],0)::R) h2 (a9c h2 hz) (h.E _ (Uo _ 1) m l7) (g.E _ (Uo _ 1) m l7);exact hC
 have hk:a6X k:=by have:=ar2 ha;unfold a6X;omega
 have hv:v=0:=Pj (k:=k) (by rw[show arF k=2 from ha];decide) (by rcases hk with rfl|rfl|rfl|rfl|rfl|rfl|rfl|rfl|rfl<;>decide) hz;subst hv;have hb:Va k=false/\U_ k=false:=by rcases hk with rfl|rfl|rfl|rfl|rfl|rfl|rfl|rfl|rfl<;>exact⟨rfl,rfl⟩
 have hsy:1<=(kP k).2/\(kP k).2<=5:=by rcases hk with rfl|rfl|rfl|rfl|rfl|rfl|rfl|rfl|rfl<;>decide
 have hcl:(txT N (.l2 (k,0) a b)).2=(kP k).2:=by show(Jm (k,0) (txT N a) (txT N b)).2=_;unfold Jm;rw[hb.1,hb.2];rfl
 generalize hle:(l9 (D6 (kP k).2 3) 4 (kP k).2:Int)=le;have hle1:(kP k).2<=le/\((kP k).2=3->le=4)/\((kP k).2≠3->le=(kP k).2):=by
  rw[←hle];by_cases h3:(kP k).2=3
  .rw[O8 h3];exact⟨by rw[h3];decide,λ_=>rfl,λh=>absurd h3 h⟩
  .rw[O6 h3];exact⟨by simp[l9],λh=>absurd h h3,λ_=>rfl⟩
 have e:tkT N (.l2 (k,0) a b)=tkW N a le++opK k::tkW N b ((kP k).2+1):=by
  have:tkT N (.l2 (k,0) a b)=xZ (wiI (itT N a) (txT N a).2 le++[none,some (opK k),none]++wiI (itT N b) (txT N b).2 ((kP k).2+1)):=by show xZ (OI (k,0) (itT N a) (txT N a).2 (itT N b) (txT N b).2)=_;unfold OI;rw[hb.1,hb.2,hle];rfl
  rw[this,iy,iy];unfold tkW;rw[F5];rfl
 have hne:=b2b a h le;have hhd:hd3 (tkT N (.l2 (k,0) a b))=hd3 (tkW N a le):=by
  rw[e];cases hq:tkW N a le with
  |nil=>exact absurd hq hne|cons x y=>rfl
 have nif:¬((hd3 (tkT N (.l2 (k,0) a b))).1=1/\(hd3 (tkT N (.l2 (k,0) a b))).2.1=[105,102]):=by
  rw[hhd,Xo];by_cases h6:le<=(txT N a).2
  .rw[U5 h6,o6];exact h.nif l7
  .rw[aA l7,o7];rintro⟨h,-⟩;exact absurd (show(7:Int)=1 from h) E9
 have hL:∀R,Gn R ((kP k).2+1)->∀c,1<=c->c<=(kP k).2->∀m,10*(a.size+b.size+1)<=m->LOk T E N m c (tkT N (.l2 (k,0) a b)) (XT.l2 (k,0) a b).post (gT (kP k).2) R:=by
  intro R hR c hc1 hc2 m hm;obtain⟨ga,hA,hga⟩:=c4w h (c:=c) (c' :=le) hc1 l7 (R:=opK k::(tkW N b ((kP k).2+1)++R)) (.inr ⟨k,hk,rfl⟩) (.inr ⟨k,hk,rfl,l7⟩) (m:=m) l7;have hB:=c5h g (c:=(kP k).2+1) l7 hR (m:=m) l7;have:=b9p hk hA hB hc2 (by
   rcases hga with rfl|⟨q1,q2,rfl⟩
   .omega
   .unfold gT;rw[bW l7,o6];by_cases h3:(txT N a).2=3
    .rw[O8 h3,o7];by_cases h4:(kP k).2=3
     .have:=hle1.2.1 h4;omega
     .have:=hle1.2.2 h4;omega
    .rw[O6 h3,o6];omega)
  rw[e];have hg:gT (kP k).2=l9 (D6 (kP k).2 3) 2 (kP k).2:=by unfold gT;rw[bW l7,o6]
  rw[hg];exact this
 refine⟨by rw[e];simp,λ_=>nif,λh6=>by rw[hcl]at h6;omega,λh6=>by rw[hcl]at h6;omega,λh5 R hR c hc1 hc2 m hm=>?_,λR hR m hm=>c4p (by rw[e];simp) nif (by rw[hcl];omega) hR l7 ?_⟩
 .rw[hcl]at hR hc2 ⊢;rw[hsz]at hm;exact hL R hR c hc1 hc2 m hm
 .rw[hcl];rw[hsz]at hm;exact hL R (Ot hR l7) 1 l7 l7 (m -2) l7
theorem c4q{a b c:XT}(ha:arF n.1=3)(hz:flS n N=0)(h:TrOk T E N a)(g:TrOk T E N b)(f:TrOk T E N c):TrOk T E N (.l3 n a b c):=by
 obtain⟨k,v⟩:=n;have hk:k=26:=ar3 ha;subst hk;have hv:v=0:=Pj (k:=26) E9 E9 hz;subst hv;have e:tkT N (.l3 (26,0) a b c)=(1,[105,102],0)::(tkT N a++(1,[116,104,101,110],0)::(tkT N b++(1,[101,108,115,101],0)::tkT N c)):=by have:tkT N (.l3 (26,0) a b c)=xZ ([nm [105,102],none]++itT N a++[none,nm [116,104,101,110],none]++itT N b++[none,nm [101,108,115,101],none]++itT N c):=rfl;rw[this,iy,iy,iy,iy,iy];show _::_=_;unfold tkT;simp;rfl
 refine⟨by rw[e];simp,λh6=>absurd (show(1:Int)<=0 from h6) E9,λh6=>absurd (show(6:Int)<=0 from h6) E9,λh6=>absurd (show(6:Int)<=0 from h6) E9,λ_ R hR c' h1 h2=>by have:c' <=(0:Int):=h2;omega,λR hR m hm=>?_⟩;rw[show(XT.l3 (26,0) a b c).size=a.size+b.size+c.size+1 from rfl]at hm;obtain⟨m,rfl⟩:∃q,m=q+1:=⟨m -1,l7⟩;rw[e];exact c4K (h.E _ (.inl (.inr (.inr (.inr (.inl rfl))))) m l7) (g.E _ (.inl (.inr (.inr (.inr (.inr rfl))))) m l7) (f.E R hR m l7)
theorem OH(hN:NmD N):∀(t:XT),t.wf->(∀n∈t.post,kQ n.2)->(∀n∈t.post,flS n N=0)->TrOk T E N t
 | .l0 n,hw,hI,hz=>b4h hN hw (hI n (by simp[XT.post])) (hz n (by simp[XT.post]))| .l1 n a,hw,hI,hz=>b8G hN hw.1 (hI n (by simp[XT.post])) (hz n (by simp[XT.post])) (OH hN a hw.2 (λm hm=>hI m (by simp[XT.post,hm])) (λm hm=>hz m (by simp[XT.post,hm])))| .l2 n a b,hw,hI,hz=>b8H hN hw.1 (hI n (by simp[XT.post])) (hz n (by simp[XT.post])) (OH hN a hw.2.1 (λm hm=>hI m (by simp[XT.post,hm])) (λm hm=>hz m (by simp[XT.post,hm]))) (OH hN b hw.2.2 (λm hm=>hI m (by simp[XT.post,hm])) (λm hm=>hz m (by simp[XT.post,hm])))| .l3 n a b c,hw,hI,hz=>c4q hw.1 (hz n (by simp[XT.post])) (OH hN a hw.2.1 (λm hm=>hI m (by simp[XT.post,hm])) (λm hm=>hz m (by simp[XT.post,hm]))) (OH hN b hw.2.2.1 (λm hm=>hI m (by simp[XT.post,hm])) (λm hm=>hz m (by simp[XT.post,hm]))) (OH hN c hw.2.2.2 (λm hm=>hI m (by simp[XT.post,hm])) (λm hm=>hz m (by simp[XT.post,hm])))
end
theorem a0o:∀(L:List It) (R:c5y),WSR L R->L.length<=(eF L).length
 |[],_,_=>by simp|none::L,R,h=>by have:=a0o L R h.2;simp[eF];exact this|some k::L,R,h=>by have:=a0o L R h.2.2;obtain⟨c,t,e,-⟩:=h.1.ne;simp[eF,e];omega
variable {e:List (Int×Int)}
theorem b0a{s:c5y}(hN:NmOk N)(hD:NmD N)(hI:∀n∈e,kQ n.2)(h:zM e N=(s,0))(hs:s.length<=65536):qX s N=some (e,0,0):=by
 have hf:=a9e hN hI;have hfS:=h;unfold zM at h;cases hst:nP e with
 |inl x=>rw[hst]at h;simp only at h;exact absurd (congrArg (λq:c5y×Int=>q.2) h) (zH hst)|inr t=>
  rw[hst]at h;simp only at h;obtain⟨hp,h48⟩:=uZ hst;have hw:=Hu hst;cases hff:D6 (ffS N e) 0 with
  |false=>rw[hff,o6]at h;exact absurd (congrArg (λq:c5y×Int=>q.2) h) (zZ.1 hff)|true=>
   rw[hff,o7]at h;have hsx:s=(txT N t).1:=(congrArg (λq:c5y×Int=>q.1) h).symm;have hIt:∀n∈t.post,kQ n.2:=by rw[←hp];exact hI
   have hzt:∀n∈t.post,flS n N=0:=by rw[←hp];exact ZZ (bM.1 hff)
   have hfl:=EY t hw hIt hzt;have hws:=Sv hD.id t hw hIt hzt;have hsf:s=eF (itT N t):=hsx.trans hfl.symm;have hW:=hws.ws [] a5J;have hlen:=a0o _ _ hW;have htk:=a2D (L:=itT N t) (by rw[←hsf];exact hs) hW (c4f hws.st) (by rw[←hsf]at hlen;omega);rw[←hsf]at htk;have hpl:=a7M (itT N t) 0;have htl:(xZ (itT N t)).length<=(itT N t).length:=by unfold xZ;exact List.length_filterMap_le _ _
   rw[←hsf]at hlen;have hAt:At3 (yK 0 (itT N t)) 0 (tkT N t++[]):=by refine⟨?_,l7,l7⟩;rw[dG,D8];exact Fb (itT N t) 0
   have hsz:t.size<=48:=by rw[←t.post_len,←hp];exact h48
   have hE:=(OH (T:=yK 0 (itT N t)) (E:=x8 s) hD t hw hIt hzt).E [] (.inl (.inl rfl)) aT (by unfold aT;omega) 0 [] hAt (by simp only[I5,t.post_len];omega);unfold qX;rw[htk,o9];simp only[O8 (rfl:(0:Int)=0),G8,o6];rw[show qY (yK 0 (itT N t),0,x8 s,N,[],0,0)=_ from hE,o9];simp only[o7];rw[U5 (show x8 (yK 0 (itT N t))<=((0+(tkT N t).length:Nat):Int) by unfold x8 tkT;rw[hpl];omega),o6,o9];simp only[O8 (rfl:(0:Int)=0),G8,o6,H9];rw[←hp];unfold Cb;rw[Ji];unfold BU;rw[hst];simp only[o9,O8 (rfl:(0:Int)=0),G8,o6];rw[hf,hfS,o9];simp only[O8 (rfl:(0:Int)=0),G8,o6];rw[show seq s s=true from yD.2 rfl];rfl
theorem b4B{ρ:Type}{n:Nat}{p:Nat->Option ρ}(h:∀r,iM n p≠some r):∀i,i<n->p i=none:=by
 cases hf:iM n p with
 |some r=>exact absurd hf (h r)|none=>exact vJ hf
theorem a5E{k i:Int}{r:Int×Int}(h:QL k i r=none):r.1=0:=by
 unfold QL at h;cases he:D6 r.1 0<;>rw[he]at h
 .cases h
 .exact bM.1 he
variable {l:gz}{j:Nat}
theorem b5H(h:(qG l).1=0){e:gm}(he:l.1[j]? =some e):nJ e.1=true/\(∀x∈l.1.take j,x.1≠e.1)/\e.2.length<=16/\∀(i:Nat) m,e.2[i]? =some m->nJ m=true/\∀x∈e.2.take i,x≠m:=by
 unfold qG at h;cases h1:D6 (FW l).1 0<;>rw[h1]at h
 .simp only[o6]at h;rw[O8 h]at h1;cases h1
 have h1:=bM.1 h1;unfold FW at h1;cases h2:I7 8 (x8 l.1)<;>rw[h2]at h1
 case true=>exact absurd (show(4:Int)=0 from h1) E9
 simp only[o6]at h1;have hn:=b4B (n:=l.1.length) (p:=Vz l) (λr hf=>by
  rw[hf]at h1;obtain⟨j,_,hj⟩:=qx hf;unfold Vz at hj;split at hj
  .exact YA hj h1
  .cases hj) j (X9.1 he).1
 unfold Vz at hn;rw[he]at hn;have hz:=a5E hn;unfold a0W at hz;cases g1:nJ e.1<;>rw[g1]at hz
 .exact absurd (show(2:Int)=0 from hz) E9
 cases g2:Lm l 1 j e.1<;>rw[g2]at hz
 case true=>exact absurd (show(7:Int)=0 from hz) E9
 cases g3:D6 (x8 e.2) 0<;>rw[g3]at hz
 case true=>exact absurd (show(5:Int)=0 from hz) E9
 cases g4:I7 16 (x8 e.2)<;>rw[g4]at hz
 case true=>exact absurd (show(4:Int)=0 from hz) E9
 simp only[o7,o6]at hz;have hmem:∀i<e.2.length,a1u e.2 i=none:=by
  intro i hi;cases hf:(List.range e.2.length).findSome? (a1u e.2)with
  |none=>exact List.findSome?_eq_none_iff.1 hf i (aV.2 hi)|some r=>
   exfalso;rw[hf]at hz;obtain⟨q,_,hq⟩:=List.exists_of_findSome?_eq_some hf;unfold a1u at hq;cases hv:e.2[q]? with
   |none=>rw[hv]at hq;cases hq|some x=>
    rw[hv]at hq;simp only at hq;cases k1:nJ x<;>rw[k1]at hq
    .cases hq;exact absurd (show(2:Int)=0 from hz) E9
    .cases k2:(e.2.take q).any λy=>seq x y<;>rw[k2]at hq
     .cases hq
     .cases hq;exact absurd (show(7:Int)=0 from hz) E9
 refine⟨rfl,λx hx e2=>?_,ik (n:=16) g4,λi m hm=>?_⟩
 .unfold Lm at g2;simp only[iq]at g2;exact g2 x hx (yD.2 e2)
 have hi:=(X9.1 hm).1;have hp:=hmem i hi;unfold a1u at hp;rw[hm]at hp;simp only at hp;cases k1:nJ m<;>rw[k1]at hp
 .cases hp
 cases k2:(e.2.take i).any λy=>seq m y<;>rw[k2]at hp
 .refine⟨rfl,λx hx e=>?_⟩;have:=iq.1 k2 x hx;exact this (yD.2 e.symm)
 .cases hp
theorem b2k(h:(qG l).1=0){t:pR}(ht:l.2.1[j]? =some t):nJ t.1=true/\∀x∈l.2.1.take j,x.1≠t.1:=by
 unfold qG at h;cases h1:D6 (FW l).1 0<;>rw[h1]at h
 .simp only[o6]at h;rw[O8 h]at h1;cases h1
 cases h2:D6 (Dq l).1 0<;>rw[h2]at h
 .simp only[o7,o6]at h;rw[O8 h]at h2;cases h2
 have h2:=bM.1 h2;unfold Dq at h2;cases h3:I7 8 (x8 l.2.1)<;>rw[h3]at h2
 case true=>exact absurd (show(4:Int)=0 from h2) E9
 simp only[o6]at h2;have hn:=b4B (n:=l.2.1.length) (p:=OE l) (λr hf=>by
  rw[hf]at h2;obtain⟨j,_,hj⟩:=qx hf;unfold OE at hj;split at hj
  .exact YA hj h2
  .cases hj) j (X9.1 ht).1
 unfold OE at hn;rw[ht]at hn;have hz:=a5E hn;unfold a4P at hz;cases g1:nJ t.1<;>rw[g1]at hz
 .exact absurd (show(2:Int)=0 from hz) E9
 cases g2:Lm l 2 j t.1<;>rw[g2]at hz
 case true=>exact absurd (show(7:Int)=0 from hz) E9
 refine⟨rfl,λx hx e=>?_⟩;unfold Lm at g2;simp only[di,iq]at g2;exact g2.2 x hx (yD.2 e)
theorem a1b{en:List gm}{f:mF}{a b:List mF}(h:Kv en f a b=0):nJ f.1=true/\(∀x∈a,x.1≠f.1)/\∀x∈b,x.1≠f.1:=by
 unfold Kv at h;cases g1:nJ f.1<;>rw[g1]at h
 .exact absurd (show(2:Int)=0 from h) E9
 cases g2:(a.any λx=>seq x.1 f.1)<;>rw[g2]at h
 case true=>exact absurd (show(7:Int)=0 from h) E9
 cases g3:(b.any λx=>seq x.1 f.1)<;>rw[g3]at h
 case true=>exact absurd (show(7:Int)=0 from h) E9
 rw[iq]at g2 g3;exact⟨rfl,λx hx e=>g2 x hx (yD.2 e),λx hx e=>g3 x hx (yD.2 e)⟩
theorem Yz{c e:Int}(h:TE c e=none):c=0:=by
 unfold TE at h;cases he:D6 c 0<;>rw[he]at h
 .cases h
 .exact bM.1 he
variable {s:N8}{i:Nat}
theorem Uu(h:(qG l).1=0)(hs:l.2.2[i]? =some s):(∀(j:Nat) f,s.2.2.1[j]? =some f->nJ f.1=true/\∀x∈s.2.2.1.take j,x.1≠f.1)/\∀(j:Nat) f,s.2.2.2.1[j]? =some f->nJ f.1=true/\(∀x∈s.2.2.1,x.1≠f.1)/\∀x∈s.2.2.2.1.take j,x.1≠f.1:=by
 have hp:=(Zq h hs).2;unfold WF at hp;cases h1:Iq l s with
 |some q=>rw[h1]at hp;exact absurd hp (Si h1)|none=>
  unfold Iq at h1;cases h2:iM s.2.2.1.length (inP l s)with
  |some q=>rw[h2]at h1;cases h1|none=>
   rw[h2]at h1;refine⟨λj f hf=>?_,λj f hf=>?_⟩
   .have hn:=vJ h2 j (X9.1 hf).1;unfold inP at hn;rw[hf]at hn;have:=a1b (Yz hn);exact⟨this.1,this.2.1⟩
   .have hn:=vJ h1 j (X9.1 hf).1;unfold a7e at hn;rw[hf]at hn;exact a1b (Yz hn)
theorem c4u(h:(qG l).1=0)(hs:l.2.2[i]? =some s){k:Nat}{r:iV}(hr:s.2.2.2.2[k]? =some r):nJ r.1=true/\∀q∈s.2.2.2.2.take k,q.1≠r.1:=by
 have he:=OL h hs hr;unfold Hl at he;cases g1:nJ r.1<;>rw[g1]at he
 .exact absurd (show(2:Int)=0 from he) E9
 simp only[o7]at he;cases g2:(s.2.2.2.2.take k).any λx=>seq x.1 r.1<;>rw[g2]at he
 case true=>exact absurd (show(7:Int)=0 from he) E9
 rw[iq]at g2;exact⟨rfl,λq hq e=>g2 q hq (yD.2 e)⟩
variable {α:Type}{w:c5y}
theorem Dn{g:α->c5y}{l:List α}(h:(l.map g)[j]? =some w)(H:∀a,l[j]? =some a->∀x∈l.take j,g x≠g a):∀x∈(l.map g).take j,x≠w:=by
 rw[W9]at h;cases ha:l[j]? with
 |none=>rw[ha]at h;cases h|some a=>rw[ha]at h;cases h;intro x hx;rw[←List.map_take]at hx;obtain⟨y,hy,rfl⟩:=I8.1 hx;exact H a ha y hy
theorem Ah{l:List α}{a:α}(h:a∈l):∃j:Nat,l[j]? =some a:=by obtain⟨j,hj,e⟩:=Y8 h;exact⟨j,by rw[jk hj,e]⟩
theorem b6v(hv:(qG l).1=0)(h:NmL l)(hs:s∈l.2.2):NmD (nmS l s):=by
 obtain⟨i,hi⟩:=Ah hs;obtain⟨f1,f2⟩:=Uu hv hi;obtain⟨s1,s2,s3,s4,s5,s6⟩:=h.s s hs;have hmem:(nmS l s).2.2.2.2=[]\/∃q,q∈l.2.2/\(nmS l s).2.2.2.2=q.2.2.2.1.map (·.1):=by
  unfold nmS;cases X6 0 s.2.1
  .exact .inl rfl
  .simp only[o7];cases hq:U0 l.2.2 s.2.1 with
   |none=>exact .inl rfl|some q=>exact .inr ⟨q,Aa hq,rfl⟩
 refine⟨⟨λe he=>?_,λx hx=>?_,λx hx=>?_,λx hx=>?_,λx hx=>?_⟩,?_,λj e he=>?_,λj w hw=>?_,λj w hw=>?_,λj w hw=>?_,λj w hw=>?_⟩
 .obtain⟨j,hj⟩:=Ah (show e∈l.1 from he);obtain⟨a,b,c,d⟩:=b5H hv hj;refine⟨a,λm hm=>?_⟩;obtain⟨i,hi⟩:=Ah hm;exact(d i m hi).1
 .obtain⟨t,ht,rfl⟩:=I8.1 (show x∈l.2.1.map (·.1)from hx);obtain⟨j,hj⟩:=Ah ht;exact(b2k hv hj).1
 .obtain⟨t,ht,rfl⟩:=I8.1 (show x∈s.2.2.1.map (·.1)from hx);obtain⟨j,hj⟩:=Ah ht;exact(f1 j t hj).1
 .obtain⟨t,ht,rfl⟩:=I8.1 (show x∈s.2.2.2.1.map (·.1)from hx);obtain⟨j,hj⟩:=Ah ht;exact(f2 j t hj).1
 .rcases hmem with e|⟨q,hq,e⟩
  .rw[e]at hx;cases hx
  .rw[e]at hx;obtain⟨t,ht,rfl⟩:=I8.1 hx;obtain⟨k,hk⟩:=Ah hq;obtain⟨j,hj⟩:=Ah ht;exact((Uu hv hk).2 j t hj).1
 .have h1:=h.ne;have h2:=h.nt;refine⟨by show l.1.length<=1000;omega,by show(l.2.1.map (·.1)).length<=1000;simp;omega,by show(s.2.2.1.map (·.1)).length<=1000;simp;omega,by show(s.2.2.2.1.map (·.1)).length<=1000;simp;omega,?_⟩;rcases hmem with e|⟨q,hq,e⟩
  .rw[e];simp
  .rw[e];have:=(h.s q hq).2.1;simp;omega
 .obtain⟨a,b,c,d⟩:=b5H hv (show l.1[j]? =some e from he);exact⟨b,l7,λk v hk=>(d k v hk).2⟩
 .exact Dn (show(l.2.1.map (·.1))[j]? =some w from hw) (λa ha=>(b2k hv ha).2)
 .exact Dn (show(s.2.2.1.map (·.1))[j]? =some w from hw) (λa ha=>(f1 j a ha).2)
 .refine⟨Dn (show(s.2.2.2.1.map (·.1))[j]? =some w from hw) (λa ha=>(f2 j a ha).2.2),λx hx=>?_⟩;have hw2:(s.2.2.2.1.map (·.1))[j]? =some w:=hw;rw[W9]at hw2;cases ha:s.2.2.2.1[j]? with
  |none=>rw[ha]at hw2;cases hw2|some a=>rw[ha]at hw2;cases hw2;obtain⟨t,ht,rfl⟩:=I8.1 (show x∈s.2.2.1.map (·.1)from hx);exact(f2 j a ha).2.1 t ht
 .rcases hmem with e|⟨q,hq,e⟩
  .rw[e]at hw;cases hw
  .rw[e]at hw ⊢;obtain⟨k,hk⟩:=Ah hq;exact Dn hw (λa ha=>((Uu hv hk).2 j a ha).2.2)
def kR:List c5y->c5y
 |[]=>[]|w::L=>w++10::kR L
theorem YL:∀A B:List c5y,kR (A++B)=kR A++kR B
 |[],B=>rfl|w::A,B=>by rw[P8];simp only[kR];rw[YL A B];simp
def spF(a0:c5y)(x:List c5y×Int×c5y×Int):Option (Out (List c5y×Int×c5y×Int) (List c5y×Int) (List c5y×Int)):=
     l9 (I7 x.2.2.2 (x8 x.2.2.1))
      (l9 (D6 (uY x.2.2.1 x.2.2.2) 10)
       (o5 (gJ a0 x.2.1 x.2.2.2) λ(x_1:c5y)=>
        o5 (eY x.1 [x_1]) λ(x_2:List c5y)=>
         some (Out.nx (x_2,G6 IntKind.i64 x.2.2.2 1,x.2.2.1,yO x.2.2.1 x.2.2.2)))
       (l9 (D6 (uY x.2.2.1 x.2.2.2) 9) (some (Out.nx (x.1,x.2.1,x.2.2.1,yO x.2.2.1 x.2.2.2)))
        (l9 (X6 32 (uY x.2.2.1 x.2.2.2))
         (l9 (X6 (uY x.2.2.1 x.2.2.2) 126) (some (Out.nx (x.1,x.2.1,x.2.2.1,yO x.2.2.1 x.2.2.2)))
          (some (Out.rt ([],2))))
         (some (Out.rt ([],2))))))
      (some (Out.ex (x.1,x.2.1)))
theorem b9x{c:UInt8}(h:prB c=true):32<=c.toNat/\c.toNat<=126:=by unfold prB at h;simpa using h
theorem a6F{s:c5y}(hs:s.length<=65536)(acc:List c5y)(st:Int):∀(w pre suf:c5y) (m:Nat),s=pre++w++suf->(∀c∈w,prB c=true)->fD (spF s) (m+w.length) (acc,st,s,(pre.length:Int))=fD (spF s) m (acc,st,s,((pre.length+w.length:Nat):Int))
 |[],pre,suf,m,h,hw=>rfl|c::w,pre,suf,m,h,hw=>by
  have hc:s[pre.length]? =some c:=by rw[h,F5,F6 (A8 _),aH];rfl
  have hb:=b9x (hw c A7);obtain⟨r1,r2⟩:=Hm hc l7;have st:spF s (acc,st,s,(pre.length:Int))=some (.nx (acc,st,s,((pre.length+1:Nat):Int))):=by unfold spF;simp only[Z8 hc,o7,r1,r2];rw[O6 l7,o6,O6 l7,o6,ay l7,o7,ay l7,o7]
  rw[D7,show m+(w.length+1)=(m+w.length)+1 by omega,dC,st];have:=a6F hs acc ‹Int› w (pre++[c]) suf m (by rw[h];simp) (λd hd=>hw d (by simp[hd]));rw[show(pre++[c]).length=pre.length+1 by simp]at this;rw[show pre.length+(w.length+1)=pre.length+1+w.length by omega];exact this
theorem a2s{s:c5y}(hs:s.length<=65536):∀(L:List c5y) (pre:c5y) (acc:List c5y) (m:Nat),s=pre++kR L->(∀w∈L,∀c∈w,prB c=true)->acc.length<=pre.length->
  fD (spF s) (m+(kR L).length+1) (acc,(pre.length:Int),s,(pre.length:Int))=some (.inl (acc++L,(s.length:Int)))
 |[],pre,acc,m,h,hw,ha=>by rw[kR,D8]at h;subst h;rw[dC];unfold spF;simp only[aP s,o6];simp|w::L,pre,acc,m,h,hw,ha=>by
  have hl:=congrArg List.length h;simp only[kR,E8,D7]at hl;have h' :s=pre++w++10::kR L:=by rw[h];simp[kR]
  have h10:s[(pre.length+w.length)]? =some 10:=by rw[h',←E8,F6 (A8 _),aH];rfl
  obtain⟨r1,r2⟩:=Hm h10 E9;have st:spF s (acc,(pre.length:Int),s,((pre.length+w.length:Nat):Int))=some (.nx (acc++[w],((pre.length+w.length+1:Nat):Int),s,((pre.length+w.length+1:Nat):Int))):=by
   unfold spF;have hsub:gJ s (pre.length:Int) ((pre.length+w.length:Nat):Int)=some w:=by rw[Ug l7 l7 l7,H6,H6,h',←E8,gG,aB]
   simp only[Z8 h10,o7,r1,r2,O8 (show((10:UInt8).toNat:Int)=10 from rfl),hsub,o9];rw[qm _ l7,o9,gu l7]
  rw[show m+(kR (w::L)).length+1=(m+(kR L).length+1+1)+w.length by simp[kR];omega,a6F hs acc _ w pre (10::kR L) _ h' (hw w A7),dC,st];have:=a2s hs L (pre++w++[10]) (acc++[w]) m (by rw[h'];simp) (λv hv=>hw v (by simp[hv])) F8;simp only[E8,jQ]at this;simp only;rw[this];simp
theorem b1P{L:List c5y}(hs:(kR L).length<=65536)(hw:∀w∈L,∀c∈w,prB c=true):vU (kR L)=some (L,0):=by
 unfold vU;rw[U5 (show x8 (kR L)<=65536 by unfold x8;omega),o6];cases L with
 |nil=>rfl|cons w L=>rw[show seq (kR (w::L)) []=false from wo.2 (by simp[kR]),o6];have:=a2s hs (w::L) [] [] (aT -(kR (w::L)).length -1) rfl hw A7;rw[show aT -(kR (w::L)).length -1+(kR (w::L)).length+1=aT by unfold aT;omega]at this;refine X5 (show Y9 (spF (kR (w::L))) ([],0,kR (w::L),0)=_ from this) ?_;rw[o9,Y4];rw[show D6 ((([]++w::L,(((kR (w::L)).length:Nat):Int)):List c5y×Int)).2 (x8 (kR (w::L)))=true from O8 rfl];rfl
theorem ZO(p x:c5y)(hl:(p++x).length<=1000000000):fH (p++x) p=some (x,true):=by
 unfold fH lQ jV Lib.hasPrefix;have e:p.isPrefixOf (p++x)=true:=by rw[List.isPrefixOf_iff_prefix];exact List.prefix_append _ _
 rw[e,o9,G8,o6,qQ (by unfold x8;omega) (by unfold x8;simp;omega),o9,o9];congr 2;unfold x8;rw[H6,aB]
theorem a3h{p w:c5y}(h:p.isPrefixOf w=false):fH w p=some (w,false):=by unfold fH lQ jV Lib.hasPrefix;rw[h];rfl
theorem a5M:∀(a b:c5y) (c:UInt8),(∀x∈a,x≠c)->Lib.indexByte (a++c::b) c=(a.length:Int)
 |[],b,c,h=>by simp[Lib.indexByte]|x::a,b,c,h=>by
  have ih:=a5M a b c (λy hy=>h y (by simp[hy]));have hx:=h x A7;rw[P8];unfold Lib.indexByte;rw[ih];have:(x==c)=false:=by simpa using hx
  rw[this];simp only[iP,if_false];have h2:(((a.length:Nat):Int)==-1)=false:=by rw[beq_eq_false_iff_ne];omega
  rw[h2];simp
theorem a5N:∀(a:c5y) (c:UInt8),(∀x∈a,x≠c)->Lib.indexByte a c=-1
 |[],c,h=>rfl|x::a,c,h=>by
  have ih:=a5N a c (λy hy=>h y (by simp[hy]));have hx:=h x A7;unfold Lib.indexByte;have:(x==c)=false:=by simpa using hx
  rw[ih,this];rfl
theorem a5v{a b:c5y}{c:UInt8}(h:∀x∈a,x≠c)(hl:(a++c::b).length<=1000000000):CP (a++c::b) [c]=some (a,b,true):=by
 unfold CP zY DK;simp only;rw[a5M a b c h,o9,ay l7,o7,BQ l7 F8,o9,H6,gG];rw[show G6 .i64 (a.length:Int) (x8 [c])=((a.length+1:Nat):Int) by rw[show x8 [c]=1 from rfl,gu (by simp at hl;omega)]]
 rw[qQ l7 F8,o9,o9,H6];rw[show a.length+1=(a++[c]).length by simp,show a++c::b=(a++[c])++b by simp,aB]
theorem YJ(h0:w≠[])(h:∀x∈w,x≠32):qh w=some true:=by unfold qh tC;rw[wo.2 h0,Y2,o7];simp only;rw[a5N w 32 h];rfl
theorem NY(h:nJ w=true):∀x∈w,x≠32:=by
 cases w with
 |nil=>cases h|cons c r=>rw[GH]at h;simp only[x9]at h;intro x hx e;have:=dV.1 h.1.2 x hx;rw[e]at this;revert this;decide
theorem a9j(h:nJ w=true):∀x∈w,prB x=true:=by
 cases w with
 |nil=>cases h
 |cons c r=>rw[GH]at h;simp only[x9]at h;exact λx hx=>a6K (dV.1 h.1.2 x hx)
def shB(v:Int)(i:Nat):Int:=jh .i64 v (i:Int)
theorem a6u:∀v:Fin 256,∀i:Fin 8,(D6 (ak .i64 (v.val:Int) (2^i.val)) 0=true->JH .i64 (shB (v.val:Int) (i.val+1)) 1=shB (v.val:Int) i.val)/\(D6 (ak .i64 (v.val:Int) (2^i.val)) 0=false->ior .i64 (JH .i64 (shB (v.val:Int) (i.val+1)) 1) 1=shB (v.val:Int) i.val):=by decide+kernel
theorem a6v:∀v:Fin 256,shB (v.val:Int) 0=(v.val:Int):=by decide+kernel
theorem b1d:∀n:Fin 9,∀v:Fin 256,v.val<2^n.val->shB (v.val:Int) n.val=0:=by decide+kernel
theorem a0I:∀v:Fin 256,∀i:Fin 8,D6 (ak .i64 (v.val:Int) (2^i.val)) 0= !(v.val.testBit i.val):=by decide+kernel
variable {p:Int×Int}
theorem b2v{n:Int}(hI:kQ p.2)(h:tvS p n=true)(hi:i<8)(hb:D6 (ak .i64 p.1 (2^i)) 0=true):D6 (ak .i64 p.2 (2^i)) 0=true:=by
 obtain⟨⟨b1,-,b2⟩,b3,b4⟩:=Lp hI h;have t1:=a0I ⟨p.1.toNat,l7⟩ ⟨i,hi⟩;have t2:=a0I ⟨p.2.toNat,l7⟩ ⟨i,hi⟩;simp only[N7 b1,N7 b3]at t1 t2;rw[t1]at hb;rw[t2];have h4:ak .i64 p.2 p.1=p.2:=by
  unfold tvS at h;cases h1:X6 0 p.1<;>rw[h1]at h
  .cases h
  cases h2:I7 p.1 (2^(clB n).toNat)<;>rw[h2]at h
  .cases h
  cases h3:X6 0 p.2<;>rw[h3]at h
  .cases h
  exact bM.1 h
 have e:(p.2.toNat&&& p.1.toNat)=p.2.toNat:=by
  have he:ak .i64 p.2 p.1=((BitVec.ofInt 64 p.2&&& BitVec.ofInt 64 p.1).toNat:Int):=by unfold ak;refine uQ ?_;have:=a5l ⟨p.1.toNat,l7⟩ p.2.toNat l7;rw[N7 b3]at this;simp only at this;rw[N7 b1]at this;show kQ ((BitVec.ofInt 64 p.2&&& BitVec.ofInt 64 p.1).toNat:Int);unfold kQ;omega
  rw[he,BitVec.toNat_and]at h4;have q1:(BitVec.ofInt 64 p.2).toNat=p.2.toNat:=by rw[pF];omega
  have q2:(BitVec.ofInt 64 p.1).toNat=p.1.toNat:=by rw[pF];omega
  rw[q1,q2]at h4;omega
 have:=congrArg (λx=>Nat.testBit x i) e;simp only[oO]at this;cases hq:p.2.toNat.testBit i
 .rfl
 .rw[hq]at this;cases hr:p.1.toNat.testBit i
  .rw[hr]at this;cases this
  .rw[hr]at hb;cases hb
def tpF(a0:c5y)(x:(Int×Int)×(Int×Int)×Int):Option (Out ((Int×Int)×(Int×Int)×Int) ((Int×Int)×(Int×Int)) ((Int×Int)×Int×Int)):=
    l9 (I7 x.2.2 (x8 a0))
     (o5 (sat a0 x.2.2) λ(x_1:Int)=>
      l9 (D6 x_1 48)
       (some
        (Out.nx
         (x.1,(ior IntKind.i64 (JH IntKind.i64 x.2.1.1 1) 1,JH IntKind.i64 x.2.1.2 1),
          G6 IntKind.i64 x.2.2 1)))
       (l9 (D6 x_1 49)
        (some
         (Out.nx
          (x.1,
           (ior IntKind.i64 (JH IntKind.i64 x.2.1.1 1) 1,ior IntKind.i64 (JH IntKind.i64 x.2.1.2 1) 1),
           G6 IntKind.i64 x.2.2 1)))
        (l9 (D6 x_1 45)
         (some
          (Out.nx (x.1,(JH IntKind.i64 x.2.1.1 1,JH IntKind.i64 x.2.1.2 1),G6 IntKind.i64 x.2.2 1)))
         (some (Out.rt ((0,0),0,2))))))
     (some (Out.ex (x.1,x.2.1)))
theorem a6J{p:Int×Int}{n:Int}(hI:kQ p.2)(h:tvS p n=true){s:c5y}(hs:s.length<=8):∀(k:Nat) (pre:c5y) (m:Nat),s=pre++JG (Gs p k)->k<=8->
  fD (tpF s) (m+k+1) ((0,0),(shB p.1 k,shB p.2 k),(pre.length:Int))=some (.inl ((0,0),(shB p.1 0,shB p.2 0)))
 |0,pre,m,e,hk=>by rw[show JG (Gs p 0)=[]from rfl,D8]at e;subst e;rw[dC];unfold tpF;simp only[aP s,o6]|k+1,pre,m,e,hk=>by
  obtain⟨⟨b1,-,b2⟩,b3,b4⟩:=Lp hI h;have e' :s=pre++Qp (UX p k)::JG (Gs p k):=e;have hc:s[pre.length]? =some (Qp (UX p k)):=by rw[e',F6 (A8 _),aH];rfl
  have hlt:=(X9.1 hc).1;have t1:=a6u ⟨p.1.toNat,l7⟩ ⟨k,l7⟩;have t2:=a6u ⟨p.2.toNat,l7⟩ ⟨k,l7⟩;simp only[N7 b1,N7 b3]at t1 t2;have st:tpF s ((0,0),(shB p.1 (k+1),shB p.2 (k+1)),(pre.length:Int))=some (.nx ((0,0),(shB p.1 k,shB p.2 k),((pre.length+1:Nat):Int))):=by
   unfold tpF;simp only[Z8 hc,o7,yC,hc,aY,o9];rw[gu l7];unfold UX;cases g1:D6 (ak .i64 p.1 (2^k)) 0
   .cases g2:D6 (ak .i64 p.2 (2^k)) 0
    .simp only[o6,show D6 (((Qp 49).toNat:Nat):Int) 48=false from rfl,show D6 (((Qp 49).toNat:Nat):Int) 49=true from rfl,o7];rw[t1.2 g1,t2.2 g2]
    .simp only[o6,o7,show D6 (((Qp 48).toNat:Nat):Int) 48=true from rfl];rw[t1.2 g1,t2.1 g2]
   .have g2:=b2v hI h l7 g1;simp only[o7,o6,show D6 (((Qp 45).toNat:Nat):Int) 48=false from rfl,show D6 (((Qp 45).toNat:Nat):Int) 49=false from rfl,show D6 (((Qp 45).toNat:Nat):Int) 45=true from rfl];rw[t1.1 g1,t2.1 g2]
  rw[show m+(k+1)+1=(m+k+1)+1 by omega,dC,st];have:=a6J hI h hs k (pre++[Qp (UX p k)]) m (by rw[e'];simp) l7;rw[E8,jQ]at this;exact this
theorem a8j{n:Int}(hn:0<=n/\n<=8)(hI:kQ p.2)(h:tvS p n=true):uh (Oj p n)=some (p,n,0):=by
 obtain⟨⟨b1,b0,b2⟩,b3,b4⟩:=Lp hI h;have hl:(Oj p n).length=n.toNat:=by unfold Oj JG;rw[J6,LM,Vk hn]
 rw[Vk hn]at b0;unfold uh;rw[U5 (show x8 (Oj p n)<=8 by unfold x8;rw[hl];omega),o6];have hw:=a6J hI h (s:=Oj p n) l7 n.toNat [] (aT -n.toNat -1) (by unfold Oj;rw[Vk hn];rfl) l7;rw[show aT -n.toNat -1+n.toNat+1=aT by unfold aT;omega]at hw;have z1:shB p.1 n.toNat=0:=by
  have:=b1d ⟨n.toNat,l7⟩ ⟨p.1.toNat,l7⟩ (by
   simp only;have:((p.1.toNat:Nat):Int)<((2^n.toNat:Nat):Int):=by rw[N7 b1];simpa using b0
   exact_mod_cast this)
  simp only[N7 b1]at this;exact this
 have z2:shB p.2 n.toNat=0:=by
  have:=b1d ⟨n.toNat,l7⟩ ⟨p.2.toNat,l7⟩ (by
   simp only;have:((p.2.toNat:Nat):Int)<((2^n.toNat:Nat):Int):=by rw[N7 b3];have:((2^n.toNat:Nat):Int)=2^n.toNat:=A7;rw[this];omega
   exact_mod_cast this)
  simp only[N7 b3]at this;exact this
 have w1:=a6v ⟨p.1.toNat,l7⟩;have w2:=a6v ⟨p.2.toNat,l7⟩;simp only[N7 b1,N7 b3]at w1 w2;rw[z1,z2,w1,w2]at hw;refine X5 (show Y9 (tpF (Oj p n)) ((0,0),(0,0),0)=_ from hw) ?_;rw[o9,Y4];rw[show x8 (Oj p n)=n by unfold x8;rw[hl];omega]
theorem a5H{σ ρ ε α:Type}(l:List α)(p:α->Bool)(mk:Nat->σ)(g:Nat->ρ)(hl:l.length<=1000000){f:σ->Option (Out σ ε ρ)} (h1:∀(i:Nat) (a:α),l[i]? =some a->f (mk i)=some (l9 (p a) (.rt (g i)) (.nx (mk (i+1))))):
  ∀(j:Nat) (a:α),l[j]? =some a->p a=true->(∀x∈l.take j,p x=false)->Y9 f (mk 0)=some (.inr (g j)):=by
 intro j a ha hpa hp;have hj:=(X9.1 ha).1;have step:∀(i k:Nat),i<=j->fD f (k+(j -i)) (mk i)=fD f k (mk j):=by
  intro i k hij;induction h:j -i generalizing i k with
  |zero=>rw[show i=j by omega];rfl|succ n ih=>
   have hi:i<l.length:=l7;have hg:=jk hi;have:=h1 i _ hg;rw[hp l[i] (by rw[List.mem_take_iff_getElem];exact⟨i,l7,rfl⟩),o6]at this
   rw[show k+(n+1)=(k+n)+1 by omega,dC,this];exact ih (i+1) k l7 l7
 have:=step 0 (aT -j) l7;rw[show aT -j+(j -0)=aT by unfold aT;omega]at this;unfold Y9;rw[this,show aT -j=(aT -j -1)+1 by unfold aT;omega,dC,h1 j a ha,hpa];rfl
abbrev pD(s:N8)(N:D9)(d:Int)(cs:List (List (Int×Int)))(fr:c5z)(rs:List L8):U2:=(s,N,d,cs,fr,rs)
def RuU(s:N8):Prop:=∀(k:Nat) r,s.2.2.2.2[k]? =some r->nJ r.1=true/\∀q∈s.2.2.2.2.take k,q.1≠r.1
variable {r:Int}
theorem Qg(hU:RuU s)(hl:s.2.2.2.2.length<=96)(h:ruB s r=true)(N:D9)(d:Int)(cs:List (List (Int×Int)))(fr:c5z)(rs:List L8):gq (pD s N d cs fr rs) (ruN s r)=some (r,pD s N d cs fr rs):=by
 obtain⟨b1,b2,b3,b4,q,b5,b6,b7⟩:=Zh h;obtain⟨c1,c2,c3⟩:=Ef b5;obtain⟨d1,d2⟩:=hU _ _ c1;unfold gq;have:=a5H s.2.2.2.2 (λq=>seq q.1 (ruN s r)) (λi=>(i:Int)) (λi=>((i:Int),pD s N d cs fr rs)) (ε:=PUnit) l7 (f:=λ(x:Int)=>
   l9 (I7 x (x8 s.2.2.2.2))
    (o5 (U0 s.2.2.2.2 x) λ(x_1:iV)=>
     l9 (seq x_1.1 (ruN s r)) (some (Out.rt (x,pD s N d cs fr rs))) (some (Out.nx (G6 IntKind.i64 x 1))))
    (some (Out.ex PUnit.unit))) (λi a ha=>by have:=(X9.1 ha).1;simp only[Z8 ha,o7,U4,ha,o9];rw[gu l7];cases seq a.1 (ruN s r)<;>rfl) r.toNat q c1 (yD.2 b6) (λx hx=>wo.2 (by rw[←b6];exact d2 x hx))
 refine X5 this ?_;rw[o9,nU,c2]
theorem WZ(hU:RuU s)(h:ruB s r=true):nJ (ruN s r)=true:=by obtain⟨b1,b2,b3,b4,q,b5,b6,b7⟩:=Zh h;obtain⟨c1,c2,c3⟩:=Ef b5;rw[←b6];exact(hU _ _ c1).1
variable {d:Int}
theorem a9s(hl:s.2.2.2.1.length<=14){f:mF}(hf:U0 s.2.2.2.1 d=some f)(hid:nJ f.1=true)(hu:∀x∈s.2.2.2.1.take d.toNat,x.1≠f.1):bK (pD s N 0 [] [] []) 0 ([100,101,99,105,115,105,111,110,32]++f.1)=some (0,pD s N d [] [] []):=by
 obtain⟨c1,c2,c3⟩:=Ef hf;have hlen:=(Ee hid).1;unfold bK;rw[O8 rfl,o7,ZO _ _ F8,o9];simp only[G8,o6];rw[YJ (Ee hid).2.1 (NY hid),o9,G8,o6];have:=a5H s.2.2.2.1 (λq=>seq q.1 f.1) (λi=>(pD s N 0 [] [] [],(i:Int))) (λi=>((0:Int),pD s N (i:Int) [] [] [])) (ε:=U2) l7 (f:=λ(x_2:U2×Int)=>
        l9 (I7 x_2.2 (x8 s.2.2.2.1))
         (o5 (U0 s.2.2.2.1 x_2.2) λ(x_3:mF)=>
          l9 (seq x_3.1 f.1) (some (Out.rt (0,x_2.1.1,x_2.1.2.1,x_2.2,x_2.1.2.2.2)))
           (some (Out.nx (x_2.1,G6 IntKind.i64 x_2.2 1))))
         (some (Out.ex x_2.1))) (λi a ha=>by
     have:=(X9.1 ha).1;simp only[Z8 ha,o7,U4,ha,o9];rw[gu l7];cases seq a.1 f.1<;>rfl) d.toNat f c1 (yD.2 rfl) (λx hx=>wo.2 (hu x hx))
 refine X5 this ?_;rw[o9,nU,c2]
theorem a9t(hU:RuU s)(hl:s.2.2.2.2.length<=96)(hr:ruB s r=true){txt:c5y}(hp:qX txt N=some (e,0,0))(hne:txt≠[])(htl:txt.length<=65536){cs:List (List (Int×Int))}{fr:c5z}(hc:cs.length<8)(hfr:fr.length<8)(hi:1<=i):
  bK (pD s N d cs fr []) (i:Int) ([119,104,101,110,32]++ruN s r++[32]++txt)=some (0,pD s N d (cs++[e]) (fr++[r]) []):=by
 have hid:=WZ hU hr;have hlen:=(Ee hid).1;have hln:[119,104,101,110,32]++ruN s r++[32]++txt=[119,104,101,110,32]++(ruN s r++32::txt):=A7;unfold bK;rw[O6 l7,o6,hln,ZO _ _ F8,o9];simp only[o7];unfold tN;rw[a5v (NY hid) F8,o9];simp only[G8,o6];rw[wo.2 (Ee hid).2.1,o6,wo.2 hne,o6,U5 (show x8 ([]:List L8)<=0 from lT 0),o6,o9,Y4,bW (show x8 cs<8 by unfold x8;omega),o6];rw[Qg hU hl hr,o9];simp only;rw[U5 (by have:=(Zh hr).1;exact rP.1 this),o6,hp,o9];simp only[O8 (rfl:(0:Int)=0),G8,o6];rw[qm _ l7,o9,qm _ l7,o9,o9]
theorem a1K(p:Int×Int)(n:Int):(∀x∈CE p n,x≠32/\prB x=true):=by
 have key:∀k,∀x∈JG (Gs p k),x≠32/\prB x=true:=by
  intro k;induction k with
  |zero=>intro x hx;cases hx|succ k ih=>
   intro x hx;rcases D5.1 (show x∈Qp (UX p k)::JG (Gs p k)from hx)with rfl|hx
   .unfold UX;cases D6 (ak .i64 p.1 (2^k)) 0<;>cases D6 (ak .i64 p.2 (2^k)) 0<;>decide
   .exact ih x hx
 unfold CE Oj;cases I7 0 n
 .intro x hx;simp[l9]at hx;subst hx;decide
 .exact key _
theorem b0b{n:Int}(hn:0<=n/\n<=8):CE p n≠[]:=by
 unfold CE;by_cases h:0<n
 .rw[aA h,o7];intro e;have:=congrArg List.length e;unfold Oj JG at this;rw[J6,LM,Vk hn]at this;simp at this;omega
 .rw[U5 l7];simp[l9]
theorem b4i(hI:kQ p.2)(h:tvS p 0=true):p=(0,0):=by
 obtain⟨⟨b1,b0,b2⟩,b3,b4⟩:=Lp hI h;rw[show(clB 0).toNat=0 from rfl]at b0;have h1:p.1=0:=by simp at b0;omega
 have h2:p.2=0:=l7;exact jW h1 h2
theorem a9u(hU:RuU s)(hl:s.2.2.2.2.length<=96){cs:List (List (Int×Int))}{fr:c5z}{rs:List L8}(hc:cs.length<=8){row:L8}(hI:kQ row.1.2)(hrow:Ja s (x8 cs) row=0)(hrs:rs.length<=1000000)(hi:1<=i):
  bK (pD s N d cs fr rs) (i:Int) ([114,111,119,32]++CE row.1 (x8 cs)++[32]++QY s row.2)=some (0,pD s N d cs fr (rs++[row])):=by
 obtain⟨p,o⟩:=row;have hn:0<=x8 cs/\x8 cs<=8:=by unfold x8;omega
 unfold Ja at hrow;simp only at hrow hI ⊢;cases ht:tvS p (x8 cs)<;>rw[ht]at hrow
 .cases hrow
 cases ho:WC s o<;>rw[ho]at hrow
 .cases hrow
 have hpl:=QZ p (x8 cs);have holen:(QY s o).length<=40:=by
  unfold QY;unfold WC at ho;cases h1:D6 o (-1)
  case true=>simp[l9]
  cases h2:D6 o (-2)
  case true=>simp[l9]
  rw[h1,h2]at ho;have:=(Ee (WZ hU ho)).1;simp[l9];omega
 have hln:[114,111,119,32]++CE p (x8 cs)++[32]++QY s o=[114,111,119,32]++(CE p (x8 cs)++32::QY s o):=A7;have hpar:(l9 (I7 0 (x8 cs))
          (o5 (uh (CE p (x8 cs))) λ(x:F9×F9)=>
           l9 (J8 (D6 x.2.2 0)) (some (Sum.inr (2,pD s N d cs fr rs)))
            (l9 (J8 (D6 x.2.1 (x8 cs))) (some (Sum.inr (2,pD s N d cs fr rs)))
             (l9 (D6 (x8 cs) 0) (some (Sum.inr (2,pD s N d cs fr rs))) (some (Sum.inl (x.1,-1))))))
          (l9 (J8 (seq (CE p (x8 cs)) [46]))
           (o5 (uh (CE p (x8 cs))) λ(x:F9×F9)=>
            l9 (J8 (D6 x.2.2 0)) (some (Sum.inr (2,pD s N d cs fr rs)))
             (l9 (J8 (D6 x.2.1 (x8 cs))) (some (Sum.inr (2,pD s N d cs fr rs)))
              (l9 (D6 (x8 cs) 0) (some (Sum.inr (2,pD s N d cs fr rs))) (some (Sum.inl (x.1,-1))))))
           (some (Sum.inl ((0,0),-1)))))=(some (Sum.inl (p,-1)):Option (L8⊕Int×U2)):=by
  unfold CE;by_cases h0:0<x8 cs
  .rw[aA h0,o7,o7,a8j hn hI ht,o9];simp only[O8 (rfl:(0:Int)=0),O8 (rfl:x8 cs=x8 cs),G8,o6,O6 (show x8 cs≠0 by omega)]
  .rw[U5 l7,o6,o6];have h00:x8 cs=0:=l7;rw[h00]at ht;rw[b4i hI ht];rfl
 unfold bK;rw[O6 l7,o6,hln,a3h (by simp[List.isPrefixOf]),o9];simp only[o6];rw[ZO _ _ F8,o9];simp only[o7];unfold ut;rw[a5v (λx hx=>(a1K p (x8 cs) x hx).1) F8,o9];simp only[G8,o6];rw[wo.2 (b0b hn),o6,o9,Y4];unfold WC at ho;unfold QY;cases h1:D6 o (-1)
 case true=>have:o=-1:=bM.1 h1;subst this;simp only[o7];rw[a3h E9,o9];simp only[o6,Y2,o7,show seq ([110,111,110,101]:c5y) [110,111,110,101]=true from rfl,G8,o9,Y4];refine X5 (X5 hpar rfl) ?_;simp only[o9,Y4,show seq ([110,111,110,101]:c5y) [99,111,110,102,108,105,99,116]=false from rfl,o6];rw[qm _ hrs];rfl
 cases h2:D6 o (-2)
 case true=>have:o=-2:=bM.1 h2;subst this;simp only[o7,o6];rw[a3h E9,o9];simp only[o6,Y2,o7,show seq ([99,111,110,102,108,105,99,116]:c5y) [110,111,110,101]=false from rfl,show seq ([99,111,110,102,108,105,99,116]:c5y) [99,111,110,102,108,105,99,116]=true from rfl,G8,o9,Y4];refine X5 (X5 hpar rfl) ?_;simp only[o9,Y4,o7,o6];rw[qm _ hrs];rfl
 rw[h1,h2]at ho;simp only[o6]at ho ⊢;have hid:=WZ hU ho;have hlen:=(Ee hid).1;rw[ZO _ _ F8,o9];simp only[o7];rw[YJ (Ee hid).2.1 (NY hid),o9];simp only[G8,o6,o9,Y4];have hcf:seq ([114,117,108,101,32]++ruN s o) [99,111,110,102,108,105,99,116]=false:=wo.2 A7;refine X5 (X5 hpar rfl) ?_;simp only[o9,Y4,hcf,o6,o7];rw[Qg hU hl ho,o9];simp only;rw[U5 (by have:=(Zh ho).1;exact rP.1 this),o6,qm _ hrs];rfl
def lnC(F:FmF)(s:N8)(N:D9)(x:List (Int×Int)×Int):c5y:=[119,104,101,110,32]++ruN s x.2++[32]++(F x.1 N).1
def lnR(s:N8)(n:Int)(r:L8):c5y:=[114,111,119,32]++CE r.1 n++[32]++QY s r.2
theorem a1c{F:FmF}{s:N8}{N:D9} :∀(L:List (List (Int×Int)×Int)) (b b' :c5y),ja (FV F s N) L b= .inl b' ->b' =b++kR (L.map (lnC F s N))/\∀x∈L,ruB s x.2=true/\(F x.1 N).2=0
 |[],b,b',h=>by cases h;exact⟨by simp[kR],λx hx=>by cases hx⟩|x::L,b,b',h=>by
  unfold ja at h;cases hg:FV F s N b x with
  |inr r=>rw[hg]at h;cases h|inl c=>
   rw[hg]at h;obtain⟨h1,h2⟩:=a1c L c b' h;unfold FV at hg;cases g1:ruB s x.2<;>rw[g1]at hg
   .cases hg
   cases g2:D6 (F x.1 N).2 0<;>rw[g2]at hg
   .cases hg
   simp only[o7]at hg;cases hg;refine⟨?_,λy hy=>?_⟩
   .rw[h1];simp[kR,lnC,a2I]
   .rcases D5.1 hy with rfl|hy
    .exact⟨g1,bM.1 g2⟩
    .exact h2 y hy
theorem a1d{s:N8}{n:Int} :∀(L:List L8) (b b' :c5y),ja (Qd s n) L b= .inl b' ->b' =b++kR (L.map (lnR s n))/\∀x∈L,Ja s n x=0
 |[],b,b',h=>by cases h;exact⟨by simp[kR],λx hx=>by cases hx⟩|x::L,b,b',h=>by
  unfold ja at h;cases hg:Qd s n b x with
  |inr r=>rw[hg]at h;cases h|inl c=>
   rw[hg]at h;obtain⟨h1,h2⟩:=a1d L c b' h;unfold Qd at hg;cases g2:D6 (Ja s n x) 0<;>rw[g2]at hg
   .cases hg
   simp only[o7]at hg;cases hg;refine⟨?_,λy hy=>?_⟩
   .rw[h1];simp[kR,lnR,XZ]
   .rcases D5.1 hy with rfl|hy
    .exact bM.1 g2
    .exact h2 y hy
def dpF(ls:List c5y)(x:G9×U2×Int):Option (Out (G9×U2×Int) (G9×U2) (G9×Int×Int)):=
             l9 (I7 x.2.2 (x8 ls))
              (o5 (U0 ls x.2.2) λ(x_4:c5y)=>
               o5 (dm ls (aJ x.2.2)) λ(x_5:c5y)=>
                o5 (bK x.2.1 x.2.2 x_5)
                 λ(x_6:Int×U2)=>
                 l9 (J8 (D6 x_6.1 0)) (some (Out.rt ((0,[],[],[]),x.2.2,x_6.1)))
                  (some (Out.nx (x.1,x_6.2,G6 IntKind.i64 x.2.2 1))))
              (some (Out.ex (x.1,x.2.1)))
theorem ZW{ls:List c5y}(hl:ls.length<=1000000){T0:G9}{P P' :U2}(hw:ls[i]? =some w)(h:bK P (i:Int) w=some (0,P'))(m:Nat):
  fD (dpF ls) (m+1) (T0,P,(i:Int))=fD (dpF ls) m (T0,P',((i+1:Nat):Int)):=by
 have hlt:=(X9.1 hw).1;have st:dpF ls (T0,P,(i:Int))=some (.nx (T0,P',((i+1:Nat):Int))):=by unfold dpF;simp only[Z8 hw,o7,U4,hw,o9,dm,aJ,H6,h,O8 (rfl:(0:Int)=0),G8,o6];rw[gu l7]
 rw[dC,st]
theorem a0U{l:List α}{a:α}{r:List α}(h:l.drop i=a::r):l[i]? =some a/\l.drop (i+1)=r:=by
 refine⟨?_,by rw[←Z4,h];rfl⟩;have:(l.drop i)[0]? =some a:=by rw[h];rfl
 simpa using this
section
variable {s:N8} {N:D9} (hU:RuU s) (hl:s.2.2.2.2.length<=96) {ls:List c5y} (hls:ls.length<=1000000) {T0:G9} {d:Int}
include hU hl hls
theorem a5A{F:FmF} :∀(xs:List (List (Int×Int)×Int)) (i:Nat) (cs:List (List (Int×Int))) (fr:c5z) (rest:List c5y) (m:Nat),ls.drop i=xs.map (lnC F s N)++rest->1<=i->cs.length+xs.length<=8->fr.length+xs.length<=8->
  (∀x∈xs,ruB s x.2=true/\qX (F x.1 N).1 N=some (x.1,0,0)/\(F x.1 N).1≠[]/\(F x.1 N).1.length<=65536)->
  fD (dpF ls) (m+xs.length) (T0,pD s N d cs fr [],(i:Int))=fD (dpF ls) m (T0,pD s N d (cs++xs.map (·.1)) (fr++xs.map (·.2)) [],((i+xs.length:Nat):Int))/\ls.drop (i+xs.length)=rest
 |[],i,cs,fr,rest,m,h,hi,h1,h2,hx=>by simp only[jD,D8,H9,I5,aX]at h ⊢;exact⟨trivial,h⟩|x::xs,i,cs,fr,rest,m,h,hi,h1,h2,hx=>by simp only[D7]at h1 h2;obtain⟨g1,g2⟩:=a0U (by rw[h];rfl:ls.drop i=lnC F s N x::(xs.map (lnC F s N)++rest));obtain⟨q1,q2,q3,q4⟩:=hx x A7;have hline:=a9t (d:=d) (N:=N) hU hl q1 q2 q3 q4 (cs:=cs) (fr:=fr) l7 l7 hi;obtain⟨i1,i2⟩:=a5A xs (i+1) (cs++[x.1]) (fr++[x.2]) rest m g2 l7 F8 F8 (λy hy=>hx y (by simp[hy]));rw[D7,show m+(xs.length+1)=(m+xs.length)+1 by omega,ZW hls g1 hline,i1,show i+(xs.length+1)=i+1+xs.length by omega];refine⟨A7,i2⟩
theorem a5B{cs:List (List (Int×Int))}{fr:c5z}(hc:cs.length<=8):∀(xs:List L8) (i:Nat) (rs:List L8) (m:Nat),ls.drop i=xs.map (lnR s (x8 cs))->1<=i->rs.length+xs.length<=1000000->
  (∀x∈xs,kQ x.1.2/\Ja s (x8 cs) x=0)->
  fD (dpF ls) (m+xs.length) (T0,pD s N d cs fr rs,(i:Int))=fD (dpF ls) m (T0,pD s N d cs fr (rs++xs),((i+xs.length:Nat):Int))/\ls.drop (i+xs.length)=[]
 |[],i,rs,m,h,hi,h1,hx=>by simp only[jD,D8,I5,aX]at h ⊢;exact⟨trivial,h⟩|x::xs,i,rs,m,h,hi,h1,hx=>by simp only[D7]at h1;obtain⟨g1,g2⟩:=a0U (by rw[h];rfl:ls.drop i=lnR s (x8 cs) x::xs.map (lnR s (x8 cs)));obtain⟨q1,q2⟩:=hx x A7;have hline:=a9u (d:=d) (N:=N) (fr:=fr) (rs:=rs) hU hl hc q1 q2 l7 hi;obtain⟨i1,i2⟩:=a5B hc xs (i+1) (rs++[x]) m g2 l7 F8 (λy hy=>hx y (by simp[hy]));rw[D7,show m+(xs.length+1)=(m+xs.length)+1 by omega,ZW hls g1 hline,i1,show i+(xs.length+1)=i+1+xs.length by omega];refine⟨A7,i2⟩
end
theorem a9f(hN:NmOk N)(hD:NmD N)(hI:∀n∈e,kQ n.2)(h:(zM e N).2=0):(zM e N).1≠[]/\∀c∈(zM e N).1,prB c=true:=by
 unfold zM at h ⊢;cases hst:nP e with
 |inl x=>rw[hst]at h;exact absurd h (zH hst)|inr t=>
  rw[hst]at h;simp only at h ⊢;obtain⟨hp,h48⟩:=uZ hst;have hw:=Hu hst;cases hff:D6 (ffS N e) 0 with
  |false=>rw[hff,o6]at h;exact absurd h (zZ.1 hff)|true=>
   simp only[o7];have hIt:∀n∈t.post,kQ n.2:=by rw[←hp];exact hI
   have hzt:∀n∈t.post,flS n N=0:=by rw[←hp];exact ZZ (bM.1 hff)
   have hfl:=EY t hw hIt hzt;have hws:=Sv hD.id t hw hIt hzt;rw[←hfl];refine⟨?_,a5d _ _ (hws.ws [] a5J)⟩;obtain⟨k,L',e1,hk⟩:=hws.st;obtain⟨c,r,e2,-⟩:=hk.ne;rw[e1];simp[eF,e2]
theorem b6Q(hv:(qG l).1=0)(hs:s∈l.2.2):RuU s:=by obtain⟨i,hi⟩:=Ah hs;intro k r hr;exact c4u hv hi hr
theorem b3o(hU:RuU s){o:Int}(h:WC s o=true):∀c∈QY s o,prB c=true:=by
 unfold WC at h;unfold QY;cases h1:D6 o (-1)
 case true=>simp only[o7];decide
 cases h2:D6 o (-2)
 case true=>simp only[o7,o6];decide
 rw[h1,h2]at h;exact zO E9 (a9j (WZ hU h))
variable {k:Int}{t:G9}
theorem a8h{s:c5y}(hS:SmL l)(hL:NmL l)(hT:SzT t)(hW:WfT t)(h:dfS zM l k t=(s,0)):lG l k s=some (t,0,0):=by
 obtain⟨z1,z2,z3⟩:=id hT;unfold dfS at h;cases hv:D6 (qG l).1 0 with
 |false=>rw[hv]at h;exact absurd (show(1:Int)=0 from congrArg (·.2) h) E9|true=>
  have hv0:=bM.1 hv;rw[hv,o7]at h;cases hs:U0 l.2.2 k with
  |none=>rw[hs]at h;exact absurd (show(6:Int)=0 from congrArg (·.2) h) E9|some sc=>
   rw[hs]at h;simp only at h;obtain⟨k0,k1,hm,-⟩:=fF hs;obtain⟨s1,s2,s3,s4,s5,s6⟩:=hL.s sc hm;cases hd:U0 sc.2.2.2.1 t.1 with
   |none=>rw[hd]at h;exact absurd (show(6:Int)=0 from congrArg (·.2) h) E9|some d=>
    rw[hd]at h;simp only at h;cases h8:I7 8 (x8 t.2.1)with
    |true=>rw[h8]at h;exact absurd (show(4:Int)=0 from congrArg (·.2) h) E9|false=>
     rw[h8,o6]at h;cases hq:D6 (x8 t.2.2.1) (x8 t.2.1)with
     |false=>rw[hq]at h;exact absurd (show(2:Int)=0 from congrArg (·.2) h) E9|true=>
      rw[hq,o7]at h;have hlen:t.2.2.1.length=t.2.1.length:=by have:=bM.1 hq;unfold x8 at this;omega
      have hc8:t.2.1.length<=8:=by have:=rP.1 h8;unfold x8 at this;omega
      have hN:=b6w hL hm;have hD:=b6v hv0 hL hm;have hU:=b6Q hv0 hm;generalize hNn:nmS l sc=N at h hN hD;cases hc:ja (FV zM sc N) (t.2.1.zip t.2.2.1) ([100,101,99,105,115,105,111,110,32]++d.1++[10])with
      |inr r=>
       exfalso;rw[hc]at h;simp only at h;have:∀(L:List (List (Int×Int)×Int)) (b:c5y) (r:Yf),ja (FV zM sc N) L b= .inr r->r.2≠0:=by
        intro L;induction L with
        |nil=>intro b r h;cases h|cons x L ih=>
         intro b r h;unfold ja at h;cases hg:FV zM sc N b x with
         |inl c=>rw[hg]at h;exact ih c r h|inr q=>
          rw[hg]at h;cases h;unfold FV at hg;cases g1:ruB sc x.2<;>rw[g1]at hg
          .cases hg;exact(by decide:(6:Int)≠0)
          cases g2:D6 (zM x.1 N).2 0<;>rw[g2]at hg
          .cases hg;exact zZ.1 g2
          .cases hg
       exact this _ _ _ hc (congrArg (·.2) h)
      |inl b=>
       rw[hc]at h;simp only at h;cases hr:ja (Qd sc (x8 t.2.1)) t.2.2.2 b with
       |inr r=>
        exfalso;rw[hr]at h;simp only at h;have:∀(L:List L8) (b:c5y) (r:Yf),ja (Qd sc (x8 t.2.1)) L b= .inr r->r.2≠0:=by
         intro L;induction L with
         |nil=>intro b r h;cases h|cons x L ih=>
          intro b r h;unfold ja at h;cases hg:Qd sc (x8 t.2.1) b x with
          |inl c=>rw[hg]at h;exact ih c r h|inr q=>
           rw[hg]at h;cases h;unfold Qd at hg;cases g2:D6 (Ja sc (x8 t.2.1) x) 0<;>rw[g2]at hg
           .cases hg;exact zZ.1 g2
           .cases hg
        exact this _ _ _ hr (congrArg (·.2) h)
       |inl y=>
        rw[hr]at h;simp only at h;cases h6:I7 65536 (x8 y)with
        |true=>rw[h6]at h;exact absurd (show(4:Int)=0 from congrArg (·.2) h) E9|false=>
         rw[h6,o6]at h;have hys:y=s:=congrArg (·.1) h;subst hys;have hyl:y.length<=65536:=by have:=rP.1 h6;unfold x8 at this;omega
         obtain⟨e1,c1⟩:=a1c _ _ _ hc;obtain⟨e2,c2⟩:=a1d _ _ _ hr;obtain⟨i,hi⟩:=Ah hm;obtain⟨dd1,dd2,dd3⟩:=Ef hd;have hdef:=(Uu hv0 hi).2 _ _ dd1;have hzl:(t.2.1.zip t.2.2.1).length=t.2.1.length:=by rw[xO];omega
         generalize hLs:([100,101,99,105,115,105,111,110,32]++d.1)::((t.2.1.zip t.2.2.1).map (lnC zM sc N)++t.2.2.2.map (lnR sc (x8 t.2.1)))=ls;have hy:y=kR ls:=by rw[e2,e1,←hLs];simp only[kR,YL];simp
         have hcon:∀x∈t.2.1.zip t.2.2.1,ruB sc x.2=true/\qX (zM x.1 N).1 N=some (x.1,0,0)/\(zM x.1 N).1≠[]/\(zM x.1 N).1.length<=65536:=by
          intro x hx;obtain⟨a1,a2⟩:=c1 x hx;obtain⟨j,hj⟩:=Ah hx;have hxI:∀n∈x.1,kQ n.2:=hW.n x.1 (vM (LJ hj).1);have hle:(zM x.1 N).1.length<=65536:=by
           have hin:lnC zM sc N x∈ls:=by rw[←hLs];exact U3 _ (E5.2 (.inl (List.mem_map_of_mem hx)))
           have:∀(L:List c5y) w,w∈L->w.length<=(kR L).length:=by
            intro L;induction L with
            |nil=>intro w h;cases h|cons v L ih=>
             intro w h;rcases D5.1 h with rfl|h
             .simp[kR]
             .have:=ih w h;simp[kR];omega
           have:=this ls _ hin;rw[←hy]at this;unfold lnC at this;simp only[E8]at this;omega
          obtain⟨p1,p2⟩:=a9f hN hD hxI a2;refine⟨a1,b0a hN hD hxI ?_ hle,p1,hle⟩;rw[←a2]
         have hpr:∀w∈ls,∀c∈w,prB c=true:=by
          intro w hw;rw[←hLs]at hw;rcases D5.1 hw with rfl|hw
          .exact zO E9 (a9j hdef.1)
          rcases E5.1 hw with hw|hw
          .obtain⟨x,hx,rfl⟩:=I8.1 hw;obtain⟨a1,a2⟩:=c1 x hx;obtain⟨j,hj⟩:=Ah hx;have hxI:∀n∈x.1,kQ n.2:=hW.n x.1 (vM (LJ hj).1);exact zO (zO (zO E9 (a9j (WZ hU a1))) E9) (a9f hN hD hxI a2).2
          .obtain⟨x,hx,rfl⟩:=I8.1 hw;have hc:=c2 x hx;unfold Ja at hc;cases ht:tvS x.1 (x8 t.2.1)<;>rw[ht]at hc
           .exact absurd (show(3:Int)=0 from hc) E9
           cases ho:WC sc x.2<;>rw[ho]at hc
           .exact absurd (show(6:Int)=0 from hc) E9
           exact zO (zO (zO E9 (λc hc=>(a1K x.1 (x8 t.2.1) c hc).2)) E9) (b3o hU ho)
         have hsp:=b1P (L:=ls) (by rw[←hy];exact hyl) hpr;rw[←hy]at hsp;have hll:ls.length=1+t.2.1.length+t.2.2.2.length:=by rw[←hLs];simp[hzl];omega
         have hloop:Y9 (dpF ls) ((0,[],[],[]),pD sc N 0 [] [] [],0)=some (.inl ((0,[],[],[]),pD sc N t.1 t.2.1 t.2.2.1 t.2.2.2)):=by
          unfold Y9;rw[show aT=(aT -2 -t.2.2.2.length -(t.2.1.zip t.2.2.1).length)+1+t.2.2.2.length+(t.2.1.zip t.2.2.1).length+1 by unfold aT;omega];have st0:=ZW (ls:=ls) (T0:=(0,[],[],[])) l7 (P:=pD sc N 0 [] [] []) (i:=0) (w:=[100,101,99,105,115,105,111,110,32]++d.1) (by rw[←hLs];rfl) (a9s s2 hd hdef.1 hdef.2.2);rw[show((0:Nat):Int)=0 from rfl]at st0;rw[st0];have hdr:ls.drop 1=(t.2.1.zip t.2.2.1).map (lnC zM sc N)++t.2.2.2.map (lnR sc (x8 t.2.1)):=by rw[←hLs];rfl
          obtain⟨a1,a2⟩:=a5A (N:=N) (d:=t.1) (T0:=(0,[],[],[])) hU s3 (ls:=ls) l7 (F:=zM) (t.2.1.zip t.2.2.1) (0+1) [] [] _ (aT -2 -t.2.2.2.length -(t.2.1.zip t.2.2.1).length+1+t.2.2.2.length) hdr l7 F8 F8 hcon;rw[a1];have hm1:(t.2.1.zip t.2.2.1).map (·.1)=t.2.1:=List.map_fst_zip l7;have hm2:(t.2.1.zip t.2.2.1).map (·.2)=t.2.2.1:=List.map_snd_zip l7;rw[H9,H9,hm1,hm2];obtain⟨b1,b2⟩:=a5B (N:=N) (d:=t.1) (T0:=(0,[],[],[])) hU s3 (ls:=ls) l7 (cs:=t.2.1) (fr:=t.2.2.1) hc8 t.2.2.2 (0+1+(t.2.1.zip t.2.2.1).length) [] (aT -2 -t.2.2.2.length -(t.2.1.zip t.2.2.1).length+1) a2 l7 F8 (λx hx=>⟨hW.r x hx,c2 x hx⟩);rw[b1,dC,H9];have:dpF ls ((0,[],[],[]),pD sc N t.1 t.2.1 t.2.2.1 t.2.2.2,((0+1+(t.2.1.zip t.2.2.1).length+t.2.2.2.length:Nat):Int))=some (.ex ((0,[],[],[]),pD sc N t.1 t.2.1 t.2.2.1 t.2.2.2)):=by unfold dpF;rw[U5 (by unfold x8;simp only;omega)];rfl
          rw[this]
         unfold lG;rw[Ls hS,o9,b8M hv0];simp only[O8 (rfl:(0:Int)=0),jy,G8,o6,o7];rw[U5 k0,o6,bW k1,o6,o9,Y4,hsp,o9];simp only[O8 (rfl:(0:Int)=0),G8,o6];rw[O6 (show x8 ls≠0 by unfold x8;omega),o6,hs,o9,a1y hL hs,o9,hNn];refine X5 hloop ?_;rfl
theorem a0O{F:FmF}{s:N8}{N:D9} :∀(L:List (List (Int×Int)×Int)) (b:c5y),(∀x∈L,ruB s x.2=true/\(F x.1 N).2=0)->ja (FV F s N) L b= .inl (b++kR (L.map (lnC F s N)))
 |[],b,h=>by simp[ja,kR]|x::L,b,h=>by
  obtain⟨h1,h2⟩:=h x A7;unfold ja;have:FV F s N b x= .inl (b++a2I s x.2 (F x.1 N).1):=by unfold FV;rw[h1,o7,O8 h2,o7]
  rw[this];simp only;rw[a0O L _ (λy hy=>h y (by simp[hy]))];simp[kR,lnC,a2I]
theorem a2f{s:N8}{n:Int} :∀(L:List L8) (b:c5y),(∀x∈L,Ja s n x=0)->ja (Qd s n) L b= .inl (b++kR (L.map (lnR s n)))
 |[],b,h=>by simp[ja,kR]|x::L,b,h=>by
  unfold ja;have:Qd s n b x= .inl (b++XZ s x n):=by unfold Qd;rw[h x A7];rfl
  rw[this];simp only;rw[a2f L _ (λy hy=>h y (by simp[hy]))];simp[kR,lnR,XZ]
theorem MS{l:List α}(hl:l.length<=1000000){f:Int->Option (Out Int PUnit Bool)}(h1:∀(i:Nat) (a:α),l[i]? =some a->f (i:Int)=some (.nx ((i+1:Nat):Int)))(h2:f (l.length:Int)=some (.ex PUnit.unit)):Y9 f 0=some (.inl PUnit.unit):=by
 have:=Bl (f:=f) (s:=0) (λx=>∃j:Nat,x=(j:Int)/\j<=l.length) (λ_=>True) (λ_=>False) (λx=>l.length -x.toNat) ⟨0,rfl,l7⟩ F8 (by
  rintro x ⟨j,rfl,hj⟩;by_cases h5:j<l.length
  .exact .inl ⟨_,h1 j _ (jk h5),⟨j+1,rfl,l7⟩,by simp only[H6];omega⟩
  .have:j=l.length:=l7;subst this;exact .inr (.inl ⟨_,h2,trivial⟩))
 rcases this with⟨e,h,-⟩|⟨r,h,hr⟩
 .exact h
 .exact hr.elim
theorem a4A{l:List (Int×Int)}(hl:l.length<=1000000):Jd l l=some true:=by
 unfold Jd;rw[O8 rfl,G8,o6];refine X5 (MS (l:=l) hl (λi a ha=>?_) ?_) rfl
 .have:=(X9.1 ha).1;simp only[Z8 ha,o7,U4,ha,o9,O8 (rfl:a.1=a.1),O8 (rfl:a.2=a.2),jy,G8,o6];rw[gu l7];rfl
 .simp only[aP l,o6]
theorem a4z{l:List (List (Int×Int))}(hl:l.length<=1000000)(he:∀e∈l,e.length<=1000000):Jc l l=some true:=by
 unfold Jc;rw[O8 rfl,G8,o6];refine X5 (MS (l:=l) hl (λi a ha=>?_) ?_) rfl
 .have:=(X9.1 ha).1;simp only[Z8 ha,o7,U4,ha,o9,a4A (he a (vM ha)),G8,o6];rw[gu l7]
 .simp only[aP l,o6]
theorem a7Z{l:List L8}(hl:l.length<=1000000):xC l l=some true:=by
 unfold xC;rw[O8 rfl,G8,o6];refine X5 (MS (l:=l) hl (λi a ha=>?_) ?_) rfl
 .have:=(X9.1 ha).1;simp only[Z8 ha,o7,U4,ha,o9,O8 (rfl:a.1.1=a.1.1),O8 (rfl:a.1.2=a.1.2),O8 (rfl:a.2=a.2),jy,G8,o6];rw[gu l7];rfl
 .simp only[aP l,o6]
theorem a2l{l:c5z}(hl:l.length<=1000000):MR l l=some true:=by
 unfold MR;rw[O8 rfl,G8,o6];refine X5 (MS (l:=l) hl (λi a ha=>?_) ?_) rfl
 .have:=(X9.1 ha).1;simp only[Z8 ha,o7,U4,ha,o9,O8 (rfl:a=a),G8,o6];rw[gu l7]
 .simp only[aP l,o6]
theorem b0Z(h1:t.2.1.length<=1000000)(h2:∀e∈t.2.1,e.length<=1000000)(h3:t.2.2.1.length<=1000000)(h4:t.2.2.2.length<=1000000):rH t t=some true:=by unfold rH;rw[O8 rfl,o7,a4z h1 h2,o9,o7,a2l h3,o9,o7,a7Z h4];rfl
theorem a9d(hw:WfL l)(h1:smL l=true)(hW:WfT t)(hz:SzT t):kF l k t=some (dfS zM l k t):=by obtain⟨hS,-⟩:=Xi h1 hw;have hL:=a3J h1 hw;exact a8V hS hL hz (λs hs e he=>⟨a9e (b6w hL (fF hs).2.2.1) (hW.n e he),b2N (b6w hL (fF hs).2.2.1) (hW.n e he)⟩) hW.r
theorem b4f(hw:WfL l)(h1:smL l=true)(hW:WfT t)(hz:SzT t):∃a e,kF l k t=some (a,e)/\(e=0->lG l k a=some (t,0,0)):=by obtain⟨hS,-⟩:=Xi h1 hw;have hL:=a3J h1 hw;refine⟨_,_,a9d hw h1 hW hz,λhe=>?_⟩;exact a8h hS hL hz hW (jW rfl he)
theorem a0G{b:Bool}{x y:Int}(h:l9 b x y=0)(hx:x≠0):b=false/\y=0:=by
 cases b
 .exact⟨rfl,h⟩
 .exact absurd h hx
theorem GZ{α β:Type}{o:Option α}{K:α->Option β}{r:β}(h:o5 o K=some r):∃a,o=some a/\K a=some r:=by
 cases o with
 |none=>cases h|some a=>exact⟨a,rfl,h⟩
theorem a7X{ops:List (Int×Int)}{sg:V8}(h:(S_ n ops sg).2=0)(hr:∃r,yx n ops sg=some r):
  (n.2=0\/gI n.1=some true)/\mW n sg=some true/\qM n sg=some true:=by
 obtain⟨r,e⟩:=hr;have h0:r.2=0:=by unfold S_ at h;rw[e]at h;exact h
 unfold yx at e;obtain⟨o,e1,e⟩:=GZ e;cases o with
 |inr q=>
  cases (show some q=some r from e);cases g:D6 n.2 0
  .rw[g,Y2,o7]at e1;obtain⟨b,e2,e1⟩:=GZ e1;cases b
   .cases e1;exact absurd (show(2:Int)=0 from h0) E9
   .cases e1
  .rw[g,G8,o6]at e1;cases e1
 |inl x=>
  have hm:n.2=0\/gI n.1=some true:=by
   cases g:D6 n.2 0
   .rw[g,Y2,o7]at e1;obtain⟨b,e2,e1⟩:=GZ e1;cases b
    .cases e1
    .exact .inr e2
   .exact .inl (bM.1 g)
  have e:(o5 (mW n sg) λ(x:Bool)=>_)=some r:=e;obtain⟨b,e2,e⟩:=GZ e;cases b
  .cases (show some (((0,0),3):(Int×Int)×Int)=some r from e);exact absurd (show(3:Int)=0 from h0) E9
  simp only[G8,o6]at e;obtain⟨b,e3,e⟩:=GZ e;cases b
  .cases (show some (((0,0),6):(Int×Int)×Int)=some r from e);exact absurd (show(6:Int)=0 from h0) E9
  exact⟨hm,e2,e3⟩
theorem a8e(l:gz)(s:N8):(wu l s).1=(nmS l s).1/\x8 (wu l s).2.1=x8 (nmS l s).2.1/\x8 (wu l s).2.2.1=x8 (nmS l s).2.2.1/\x8 (wu l s).2.2.2.1=x8 (nmS l s).2.2.2.1/\x8 (wu l s).2.2.2.2.1=x8 (nmS l s).2.2.2.2:=by
 have e:∀q:Option N8,(if 0<=s.2.1 then l.2.2[s.2.1.toNat]? else none)=q->(nmS l s).2.2.2.2=(match q with|some q=>q.2.2.2.1.map (·.1)|none=>[]):=by
  rintro q rfl;unfold nmS;by_cases h:0<=s.2.1
  .rw[ay h,o7,if_pos h];obtain⟨p,hp⟩:∃p:Nat,s.2.1=(p:Int):=⟨s.2.1.toNat,(N7 h).symm⟩;rw[hp,U4,H6];rfl
  .rw[bW (sF.1 h),o6,if_neg h]
 unfold wu;generalize hq:(if 0<=s.2.1 then l.2.2[s.2.1.toNat]? else none)=q;have e:=e q hq;cases q with
 |none=>rw[e];exact⟨rfl,by simp[nmS,x8],by simp[nmS,x8],by simp[nmS,x8],rfl⟩|some q=>rw[e];exact⟨rfl,by simp[nmS,x8],by simp[nmS,x8],by simp[nmS,x8],by simp[x8]⟩
theorem T_{b c:Bool}(h:l9 b (some c) (some false)=some true):b=true/\c=true:=by
 cases b
 .cases h
 .exact⟨rfl,aZ h⟩
theorem Ud{m n:Int}(h:l9 (X6 0 m) (some (I7 m n)) (some false)=some true):((l9 (I7 m 0) (some 6) (l9 (X6 n m) (some 6) (some 0))):c5E)=some 0:=by obtain⟨h1,h2⟩:=T_ h;rw[U5 (qB.1 h1),bW (vK.1 h2)];rfl
theorem QR{lo hi m:Int}(h:l9 (X6 lo m) (some (X6 m hi)) (some false)=some true):((l9 (I7 m lo) (some 3) (l9 (I7 hi m) (some 3) (some 0))):c5E)=some 0:=by obtain⟨h1,h2⟩:=T_ h;rw[U5 (qB.1 h1),U5 (qB.1 h2)];rfl
theorem b9n(ha:0<=arF n.1)(hI:kQ n.2)(h:(n.2=0\/gI n.1=some true)/\mW n (wu l s)=some true/\qM n (wu l s)=some true):flS n (nmS l s)=0:=by
 obtain⟨k,m⟩:=n;obtain⟨hm,hr,hf⟩:=h;obtain⟨s1,s2,s3,s4,s5⟩:=a8e l s;refine a_ ?_;have zero:∀k:Int,(gI k=some true->False)->(m=0\/gI k=some true)->(Y6 (k,m) (nmS l s)=l9 (J8 (D6 m 0)) (some 2) (some 0))->Y6 (k,m) (nmS l s)=some 0:=by intro k h1 h2 h3;have:m=0:=h2.resolve_right λh=>h1 h;rw[h3,this];rfl
 have rou:∀k:Int,(mW (k,m) (wu l s)=l9 (X6 0 m) (some (X6 m 5)) (some false))->mW (k,m) (wu l s)=some true->(Y6 (k,m) (nmS l s)=l9 (I7 m 0) (some 3) (l9 (I7 5 m) (some 3) (some 0)))->Y6 (k,m) (nmS l s)=some 0:=by intro k h1 h2 h3;rw[h3];exact QR (h1▸h2)
 have mem:∀k:Int,(qM (k,m) (wu l s)=l9 (wu l s).2.2.2.2.2 (l9 (X6 0 m) (some (I7 m (x8 (wu l s).2.2.2.2.1))) (some false)) (some false))->qM (k,m) (wu l s)=some true->(Y6 (k,m) (nmS l s)=l9 (I7 m 0) (some 6) (l9 (X6 (x8 (nmS l s).2.2.2.2) m) (some 6) (some 0)))->Y6 (k,m) (nmS l s)=some 0:=by
  intro k h1 h2 h3;rw[h3,←s5];rw[h1]at h2;cases hb:(wu l s).2.2.2.2.2<;>rw[hb]at h2
  .cases h2
  .exact Ud h2
 have h3:arF k=0\/arF k=1\/arF k=2\/arF k=3:=by have:=(OU k).2.2;simp only at ha;omega
 rcases h3 with h|h|h|h
 .rcases ar0 h with rfl|rfl|rfl|rfl|rfl|rfl|rfl|rfl|rfl|rfl|rfl|rfl|rfl|rfl
  .exact QR hr
  .exact QR hr
  .exact QR hr
  .exact QR hr
  .exact QR hr
  .have hr:some (X6 0 m)=some true:=hr;have hr:=qB.1 (aZ hr);have hf:l9 (I7 (eP .i64 m 16) (x8 (wu l s).1)) (o5 (U0 (wu l s).1 (eP .i64 m 16)) λ(x:gm)=>some (I7 (jB m 16) (x8 x.2))) (some false)=some true:=hf;rw[s1]at hf;show(l9 (I7 m 0) (some 6) (l9 (X6 (x8 (nmS l s).1) (eP .i64 m 16)) (some 6) (o5 (U0 (nmS l s).1 (eP .i64 m 16)) λ(x:gm)=>l9 (X6 (x8 x.2) (jB m 16)) (some 6) (some 0))):c5E)=some 0;rw[U5 l7,o6];cases g:I7 (eP .i64 m 16) (x8 (nmS l s).1)<;>rw[g]at hf
   .cases hf
   rw[bW (vK.1 g),o6];rw[o7]at hf;obtain⟨e,e1,e2⟩:=GZ hf;rw[e1,o9,bW (vK.1 (aZ e2))];rfl
  .have:=Ud hf;rw[s3]at this;exact this
  .have:=Ud hf;rw[s4]at this;exact this
  .exact zero 9 E9 hm rfl
  .exact zero 35 E9 hm rfl
  .exact mem 36 rfl hf rfl
  .exact mem 37 rfl hf rfl
  .exact mem 38 rfl hf rfl
  .exact mem 39 rfl hf rfl
 .rcases ar1 h with rfl|rfl|rfl|rfl|rfl|rfl
  .exact zero 10 E9 hm rfl
  .exact zero 25 E9 hm rfl
  .exact zero 31 E9 hm rfl
  .exact zero 32 E9 hm rfl
  .have:=Ud hf;rw[s2]at this;exact this
  .have hr:l9 (X6 0 m) (some (X6 (jB m 8) 5)) (some false)=some true:=hr;obtain⟨r1,r2⟩:=T_ hr;have hf:some (I7 (eP .i64 m 8) (x8 (wu l s).2.1))=some true:=hf;have hf:=vK.1 (aZ hf);rw[s2]at hf;show(l9 (I7 m 0) (some 6) (l9 (X6 (x8 (nmS l s).2.1) (eP .i64 m 8)) (some 6) (l9 (I7 5 (jB m 8)) (some 3) (some 0))):c5E)=some 0;rw[U5 (qB.1 r1),o6,bW hf,o6,U5 (qB.1 r2)];rfl
 .rcases ar2 h with rfl|rfl|rfl|rfl|rfl|rfl|rfl|rfl|rfl|rfl|rfl|rfl|rfl|rfl|rfl|rfl|rfl|rfl
  .exact zero 11 E9 hm rfl
  .exact zero 12 E9 hm rfl
  .exact zero 13 E9 hm rfl
  .exact rou 14 rfl hr rfl
  .exact rou 15 rfl hr rfl
  .exact rou 16 rfl hr rfl
  all_goals exact zero _ E9 hm rfl
 .obtain rfl:=ar3 h;exact zero 26 E9 hm rfl
theorem Py{ops:List (Int×Int)}{t:Int×Int}(hN:kQ n.2)(hv:∀t∈ops,VT t)(hl:x8 ops=arF n.1)(h:Et (wu l s) n ops i= .inr t):flS n (nmS l s)=0:=by
 obtain⟨r,h1,h2,h3⟩:=v_ (wu l s) n hN ops hv hl;unfold Et at h;split at h
 .rename_i h0;exact b9n (by rw[←hl];unfold x8;omega) hN (a7X h0 ⟨r,h1⟩)
 .cases h
theorem Jn{l:gz}{s:N8} :∀(T:XT) (o:Nat) (t:Int×Int),T.wf->(∀n∈T.post,kQ n.2)->mg (wu l s) T o= .inr t->VT t/\∀n∈T.post,flS n (nmS l s)=0
 | .l0 n,o,t,hw,hI,h=>by
  have h:Et (wu l s) n [] o= .inr t:=h;have hi:=hI n (by simp[XT.post]);refine⟨Cm hi A7 (by rw[show arF n.1=0 from hw];rfl) h,λm hm=>?_⟩;obtain rfl:m=n:=by simpa[XT.post]using hm
  exact Py hi A7 (by rw[show arF m.1=0 from hw];rfl) h
 | .l1 n a,o,t,hw,hI,h=>by
  unfold mg at h;cases ha:mg (wu l s) a o with
  |inl x=>rw[ha]at h;cases h|inr ta=>
   rw[ha]at h;obtain⟨va,fa⟩:=Jn a o ta hw.2 (λm hm=>hI m (by simp[XT.post,hm])) ha;have hi:=hI n (by simp[XT.post]);have hl:x8 [ta]=arF n.1:=by rw[hw.1];rfl
   have hv:∀t∈[ta],VT t:=by simp[va]
   refine⟨Cm hi hv hl h,λm hm=>?_⟩;rcases E5.1 (show m∈a.post++[n]from hm)with hm|hm
   .exact fa m hm
   .obtain rfl:m=n:=by simpa using hm
    exact Py hi hv hl h
 | .l2 n a b,o,t,hw,hI,h=>by
  unfold mg at h;cases ha:mg (wu l s) a o with
  |inl x=>rw[ha]at h;cases h|inr ta=>
   rw[ha]at h;simp only at h;cases hb:mg (wu l s) b (o+a.size)with
   |inl x=>rw[hb]at h;cases h|inr tb=>
    rw[hb]at h;obtain⟨va,fa⟩:=Jn a o ta hw.2.1 (λm hm=>hI m (by simp[XT.post,hm])) ha;obtain⟨vb,fb⟩:=Jn b _ tb hw.2.2 (λm hm=>hI m (by simp[XT.post,hm])) hb;have hi:=hI n (by simp[XT.post]);have hl:x8 [ta,tb]=arF n.1:=by rw[hw.1];rfl
    have hv:∀t∈[ta,tb],VT t:=by simp[va,vb]
    refine⟨Cm hi hv hl h,λm hm=>?_⟩;rcases E5.1 (show m∈a.post++b.post++[n]from hm)with hm|hm
    .rcases E5.1 hm with hm|hm
     .exact fa m hm
     .exact fb m hm
    .obtain rfl:m=n:=by simpa using hm
     exact Py hi hv hl h
 | .l3 n a b c,o,t,hw,hI,h=>by
  unfold mg at h;cases ha:mg (wu l s) a o with
  |inl x=>rw[ha]at h;cases h|inr ta=>
   rw[ha]at h;simp only at h;cases hb:mg (wu l s) b (o+a.size)with
   |inl x=>rw[hb]at h;cases h|inr tb=>
    rw[hb]at h;simp only at h;cases hc:mg (wu l s) c (o+a.size+b.size)with
    |inl x=>rw[hc]at h;cases h|inr tc=>
     rw[hc]at h;obtain⟨va,fa⟩:=Jn a o ta hw.2.1 (λm hm=>hI m (by simp[XT.post,hm])) ha;obtain⟨vb,fb⟩:=Jn b _ tb hw.2.2.1 (λm hm=>hI m (by simp[XT.post,hm])) hb;obtain⟨vc,fc⟩:=Jn c _ tc hw.2.2.2 (λm hm=>hI m (by simp[XT.post,hm])) hc;have hi:=hI n (by simp[XT.post]);have hl:x8 [ta,tb,tc]=arF n.1:=by rw[hw.1];rfl
     have hv:∀t∈[ta,tb,tc],VT t:=by simp[va,vb,vc]
     refine⟨Cm hi hv hl h,λm hm=>?_⟩;rcases E5.1 (show m∈a.post++b.post++c.post++[n]from hm)with hm|hm
     .rcases E5.1 hm with hm|hm
      .rcases E5.1 hm with hm|hm
       .exact fa m hm
       .exact fb m hm
      .exact fc m hm
     .obtain rfl:m=n:=by simpa using hm
      exact Py hi hv hl h
theorem a8o{t:Int×Int}(hI:∀n∈e,kQ n.2)(h:EI e (wu l s) t=0):∃T,nP e= .inr T/\e=T.post/\T.wf/\(∀n∈T.post,flS n (nmS l s)=0):=by
 unfold EI zf at h;cases hs:nP e with
 |inl x=>rw[hs]at h;have hx:=zH hs;simp only at h;rw[O6 hx,o6]at h;exact absurd h hx|inr T=>
  rw[hs]at h;obtain⟨hp,-⟩:=uZ hs;have hw:=Hu hs;have hI' :∀n∈T.post,kQ n.2:=hp▸hI;simp only at h;cases ht:mg (wu l s) T 0 with
  |inl x=>rw[ht]at h;have hx:=BJ T 0 ht;simp only at h;rw[O6 hx,o6]at h;exact absurd h hx|inr r=>exact⟨T,rfl,hp,hw,(Jn T 0 r hw hI' ht).2⟩
end Go.GP
namespace Go.GP
variable {a:Nat}
theorem bvN(ha:a<256):(BitVec.ofInt 64 (a:Int)).toNat=a:=by rw[pF];omega
theorem b2m(ha:a<256):IntKind.wrap .i64 (a:Int)=a:=uQ bI
def clr(a i:Nat):Nat:=a^^^(a&&& 2^i)
def flp(a i:Nat):Nat:=a^^^2^i
variable {n:Nat}
theorem VY(hn:n<=8)(h:a<2^n):a<256:=O9 h (ed E9 hn:2^n<=2^8)
variable {i:Nat}
theorem b0m(hn:n<=8)(h:i<n):2^i<256:=VY hn (rW E9 h)
theorem b5Q{a b:Nat}(ha:a<256)(hb:b<256):ak .i64 (a:Int) (b:Int)=((a&&& b:Nat):Int):=by show IntKind.wrap .i64 ((BitVec.ofInt 64 (a:Int)&&& BitVec.ofInt 64 (b:Int)).toNat:Int)=_;rw[BitVec.toNat_and,bvN ha,bvN hb];exact b2m (pG Nat.and_le_left ha)
theorem c4y{a b:Nat}(ha:a<256)(hb:b<256):JI .i64 (a:Int) (b:Int)=((a^^^b:Nat):Int):=by show IntKind.wrap .i64 ((BitVec.ofInt 64 (a:Int)^^^BitVec.ofInt 64 (b:Int)).toNat:Int)=_;rw[BitVec.toNat_xor,bvN ha,bvN hb];exact b2m (pI (n:=8) ha hb)
theorem TV(ha:a<256)(hi:i<8):sQ .i64 (a:Int) ((2^i:Nat):Int)=((clr a i:Nat):Int):=by
 have hp:2^i<256:=b0m (A8 8) hi;show IntKind.wrap .i64 ((BitVec.ofInt 64 (a:Int)&&& ~~~(BitVec.ofInt 64 ((2^i:Nat):Int))).toNat:Int)=_;have e:(BitVec.ofInt 64 (a:Int)&&& ~~~(BitVec.ofInt 64 ((2^i:Nat):Int))).toNat=clr a i:=by
  apply nO;intro j;unfold clr;rw[Nat.testBit_xor,oO,←BitVec.getLsbD,BitVec.getLsbD_and,BitVec.getLsbD_not,BitVec.getLsbD,BitVec.getLsbD,bvN ha,bvN hp];by_cases hj:j<64
  .rw[decide_eq_true hj];cases a.testBit j<;>cases (2^i).testBit j<;>rfl
  .rw[Nat.testBit_lt_two_pow (x:=a) (i:=j) (O9 ha (ed E9 l7:2^8<=2^j))];rfl
 rw[e];exact b2m (pI (n:=8) ha (pG Nat.and_le_left ha))
theorem BG(a i j:Nat):(clr a i).testBit j=(a.testBit j&&!decide (i=j)):=by unfold clr;rw[Nat.testBit_xor,oO,lg];cases a.testBit j<;>cases decide (i=j)<;>rfl
theorem a4R(a i j:Nat):(flp a i).testBit j=(a.testBit j^^decide (i=j)):=by unfold flp;rw[Nat.testBit_xor,lg]
theorem BK(x m v:Nat):x&&& m=v↔∀j,(x.testBit j&&m.testBit j)=v.testBit j:=by
 constructor
 .rintro rfl j;rw[oO]
 .intro h;apply nO;intro j;rw[oO];exact h j
theorem b6c(i:Nat)(h:a<2^n):clr a i<2^n:=pI h (pG Nat.and_le_left h)
theorem b6h(hi:i<n)(h:a<2^n):flp a i<2^n:=pI h (rW E9 hi)
theorem b2K(a i:Nat):a^^^flp a i=2^i:=by unfold flp;rw[←Nat.xor_assoc,Nat.xor_self,Nat.zero_xor]
theorem c4o{n a j:Nat}(h:a<2^n)(hj:a.testBit j=true):j<n:=by apply Nat.lt_of_not_le;intro hn;rw[Nat.testBit_lt_two_pow (O9 h (ed E9 hn))]at hj;cases hj
theorem b9s(hi:i<n)(h:a<2^n):a ||| 2^i<2^n:=Nat.or_lt_two_pow h (rW E9 hi)
theorem b6d(h:a.testBit i=false):clr (a ||| 2^i) i=a:=by
 apply nO;intro j;rw[BG,ql,lg];by_cases e:i=j
 .subst e;rw[h];simp
 .simp[e]
theorem Vl(h:a.testBit i=false):clr a i=a:=by
 apply nO;intro j;rw[BG];by_cases e:i=j
 .subst e;rw[h];simp
 .simp[e]
abbrev Pt:=Nat×Nat
def DW(q:Pt)(i:Nat):Pt:=(clr q.1 i,clr q.2 i)
def TF(q:Pt)(i:Nat):Pt:=(q.1,flp q.2 i)
def upP(q:Pt)(i:Nat):Pt:=(q.1 ||| 2^i,q.2)
section
variable {n:Nat} {B:Nat->Prop} {q:Pt} {i:Nat}
theorem a1Q(h:JF n q){j:Nat}(hj:q.1.testBit j=false):q.2.testBit j=false:=by have:=(BK _ _ _).1 h.2 j;rw[hj,Bool.and_false]at this;exact this.symm
theorem a6n(h:JF n q):q.2<2^n:=by rw[←h.2];exact pG Nat.and_le_right h.1
theorem b0k(h:JF n q)(i:Nat):JF n (DW q i):=by refine⟨b6c i h.1,(BK _ _ _).2 λj=>?_⟩;show((clr q.2 i).testBit j&&(clr q.1 i).testBit j)=(clr q.2 i).testBit j;have:=(BK _ _ _).1 h.2 j;rw[BG,BG,←this];cases q.2.testBit j<;>cases q.1.testBit j<;>cases decide (i=j)<;>rfl
theorem b0l(h:JF n q)(hi:q.1.testBit i=true):JF n (TF q i):=by
 refine⟨h.1,(BK _ _ _).2 λj=>?_⟩;show((flp q.2 i).testBit j&&q.1.testBit j)=(flp q.2 i).testBit j;have:=(BK _ _ _).1 h.2 j;rw[a4R,←this];by_cases e:i=j
 .subst e;rw[hi];cases q.2.testBit i<;>simp
 .cases q.2.testBit j<;>cases q.1.testBit j<;>simp[e]
theorem b3y(h:JF n q)(hi:i<n):JF n (upP q i):=by refine⟨b9s hi h.1,(BK _ _ _).2 λj=>?_⟩;show(q.2.testBit j&&(q.1 ||| 2^i).testBit j)=q.2.testBit j;have:=(BK _ _ _).1 h.2 j;rw[ql,←this];cases q.2.testBit j<;>cases q.1.testBit j<;>rfl
theorem u_(h:JF n q)(hi:q.1.testBit i=true)(x:Nat):x&&& (DW q i).1=(DW q i).2↔(x&&& q.1=q.2\/x&&& (TF q i).1=(TF q i).2):=by
 show x&&& clr q.1 i=clr q.2 i↔(x&&& q.1=q.2\/x&&& q.1=flp q.2 i);rw[BK,BK,BK];constructor
 .intro hm;by_cases hx:x.testBit i=q.2.testBit i
  .left;intro j;have:=hm j;rw[BG,BG]at this;by_cases e:i=j
   .subst e;rw[hi,hx,Bool.and_true]
   .simpa[e]using this
  .right;intro j;have:=hm j;rw[BG,BG]at this;rw[a4R];by_cases e:i=j
   .subst e;rw[hi];revert hx;cases x.testBit i<;>cases q.2.testBit i<;>simp
   .simpa[e]using this
 .rintro(hm|hm) j
  .have:=hm j;rw[BG,BG,←this];cases x.testBit j<;>cases q.1.testBit j<;>cases decide (i=j)<;>rfl
  .have:=hm j;rw[a4R]at this;rw[BG,BG];by_cases e:i=j
   .subst e;simp
   .simpa[e]using this
theorem WJ(h:JF n q)(hi:q.1.testBit i=true):zh n B (DW q i)↔(zh n B q/\zh n B (TF q i)):=by
 constructor
 .intro k;exact⟨⟨h,λx hx hm=>k.2 x hx ((u_ h hi x).2 (.inl hm))⟩,⟨b0l h hi,λx hx hm=>k.2 x hx ((u_ h hi x).2 (.inr hm))⟩⟩
 .rintro⟨k1,k2⟩;refine⟨b0k h i,λx hx hm=>?_⟩;rcases(u_ h hi x).1 hm with hm|hm
  .exact k1.2 x hx hm
  .exact k2.2 x hx hm
theorem a3a(h:JF n q)(hi:q.1.testBit i=false):DW (upP q i) i=q:=jW (b6d hi) (Vl (a1Q h hi))
theorem a0i:(upP q i).1.testBit i=true:=by show(q.1 ||| 2^i).testBit i=true;rw[ql,lg];simp
theorem a6m(h:zh n B q)(hi:i<n)(hf:q.1.testBit i=false):zh n B (upP q i)/\zh n B (TF (upP q i) i):=
 (WJ (b3y h.1 hi) a0i).1 (by rw[a3a h.1 hf];exact h)
end
theorem a3R:∀v:Fin 256,∀i:Fin 8,v.val.testBit i.val=true->pcN (clr v.val i.val)+1=pcN v.val:=by decide+kernel
theorem B_(ha:a<256)(hi:i<8)(h:a.testBit i=true):pcN (clr a i)+1=pcN a:=a3R ⟨a,ha⟩ ⟨i,hi⟩ h
theorem a1N:∀n:Fin 9,∀v:Fin 256,v.val<2^n.val->(pcN v.val<=n.val/\(pcN v.val=n.val->v.val=2^n.val -1)/\(pcN v.val<n.val->(List.range n.val).any λi=> !v.val.testBit i)):=by decide+kernel
theorem PL(hn:n<=8)(h:a<2^n):pcN a<=n/\(pcN a=n->a=2^n -1)/\(pcN a<n->∃i,i<n/\a.testBit i=false):=by obtain⟨h1,h2,h3⟩:=a1N ⟨n,l7⟩ ⟨a,VY hn h⟩ h;refine⟨h1,h2,λhl=>?_⟩;obtain⟨i,hi,hb⟩:=rJ.1 (h3 hl);exact⟨i,by simpa using hi,by simpa using hb⟩
theorem a3S:∀n:Fin 9,pcN (2^n.val -1)=n.val:=by decide+kernel
theorem b6J(hn:n<=8):pcN (2^n -1)=n:=a3S ⟨n,l7⟩
end Go.GP
namespace Go.GP
open Gt
set_option maxRecDepth 100000
theorem b6y:∀v:Fin 256,kH (v.val:Int)=some ((pcN v.val:Nat):Int):=by decide+kernel
theorem b4K{a:Nat}(h:a<256):kH (wrap .u64 (a:Int))=some ((pcN a:Nat):Int):=by have e:wrap .u64 (a:Int)=a:=LD (by unfold U64;omega);rw[e];exact b6y ⟨a,h⟩
theorem a1O:∀v:Fin 256,∀i:Fin 8,pcN (2^i.val)=1/\(2^i.val&&& v.val=0↔v.val.testBit i.val=false):=by decide+kernel
theorem a9z{q:Pt}{i:Nat}(h1:q.1<256)(h2:q.2<256)(hi:i<8):yQ (qp q) (qp (TF q i))=some (l9 (q.1.testBit i) (qp (DW q i),true) ((0,0),false)):=by
 have hp:2^i<256:=b0m (A8 8) hi;have hf:flp q.2 i<256:=b6h (n:=8) hi h2;obtain⟨p1,p2⟩:=a1O ⟨q.1,h1⟩ ⟨i,hi⟩;have e:JI .i64 (qp q).2 (qp (TF q i)).2=((2^i:Nat):Int):=by show JI .i64 (q.2:Int) (flp q.2 i:Nat)=_;rw[c4y h2 hf,b2K]
 unfold yQ;rw[e,show D6 (qp q).1 (qp (TF q i)).1=true from O8 rfl];rw[b4K hp,p1,o9,show ak .i64 ((2^i:Nat):Int) (qp q).1=((2^i&&& q.1:Nat):Int)from b5Q hp h1];rw[show sQ .i64 (qp q).1 ((2^i:Nat):Int)=_ from TV h1 hi,show sQ .i64 (qp q).2 ((2^i:Nat):Int)=_ from TV h2 hi];cases hb:q.1.testBit i
 .rw[p2.2 hb];rfl
 .have:D6 ((2^i&&& q.1:Nat):Int) 0=false:=O6 (λh=>by
   have h0:2^i&&& q.1=0:=l7;rw[p2.1 h0]at hb;cases hb)
  rw[this];rfl
theorem b6e(a b:Int):rY a b=some (QC a b):=by
 unfold rY QC BL;by_cases h:a<b
 .simp[h,I7,o5,l9,D6,J8,jy]
 .by_cases h2:b<a
  .simp[h,h2,I7,o5,l9,D6,J8,jy]
  .simp[h,h2,I7,o5,l9,D6,J8,jy]
theorem MB{σ ε ρ:Type}{f:σ->Option (Out σ ε ρ)}(st:Nat->σ){n:Nat}{o:Out σ ε ρ}{r:ε⊕ρ}(h1:∀i,i<n->f (st i)=some (.nx (st (i+1))))(h2:f (st n)=some o)(ho:(∃e,o= .ex e/\r= .inl e)\/∃e,o= .rt e/\r= .inr e)(hn:n<=1000000):Y9 f (st 0)=some r:=by
 have key:∀j i N,i+j=n->j<N->fD f N (st i)=some r:=by
  intro j;induction j with
  |zero=>intro i N hi hN;obtain⟨N,rfl⟩:∃m,N=m+1:=⟨N -1,l7⟩;obtain rfl:i=n:=l7;unfold fD;rw[h2];rcases ho with⟨e,rfl,rfl⟩|⟨e,rfl,rfl⟩<;>rfl
  |succ j ih=>intro i N hi hN;obtain⟨N,rfl⟩:∃m,N=m+1:=⟨N -1,l7⟩;unfold fD;rw[h1 i l7];exact ih (i+1) N l7 l7
 exact key n 0 _ l7 (by show n<18446744073709551616;omega)
theorem b6G(a b c:Int):Ig [a,b,c]=some (if a≠0 then a else if b≠0 then b else c):=by
 unfold Ig;by_cases h1:a=0
 .by_cases h2:b=0
  .by_cases h3:c=0
   .subst h1;subst h2;subst h3;rw[show(0:Int)=(λi:Nat=>(i:Int)) 0 from rfl,MB (λi:Nat=>(i:Int)) (n:=3) (o:=.ex PUnit.unit) (r:=.inl PUnit.unit) (λi hi=>by
     rcases(show i=0\/i=1\/i=2 by omega)with rfl|rfl|rfl<;>rfl) (by rfl) (.inl ⟨_,rfl,rfl⟩) l7]
    rfl
   .subst h1;subst h2;rw[show(0:Int)=(λi:Nat=>(i:Int)) 0 from rfl,MB (λi:Nat=>(i:Int)) (n:=2) (o:=.rt c) (r:=.inr c) (λi hi=>by
     rcases(show i=0\/i=1 by omega)with rfl|rfl<;>rfl) (by show l9 true (o5 (some c) _) _=_;simp only[o9,o7,show D6 c ((0:Nat):Int)=false from O6 h3,Y2]) (.inr ⟨_,rfl,rfl⟩) l7]
    simp[dw,o5]
  .subst h1;rw[show(0:Int)=(λi:Nat=>(i:Int)) 0 from rfl,MB (λi:Nat=>(i:Int)) (n:=1) (o:=.rt b) (r:=.inr b) (λi hi=>by
    rcases(show i=0 by omega)with rfl;rfl) (by show l9 true (o5 (some b) _) _=_;simp only[o9,o7,show D6 b ((0:Nat):Int)=false from O6 h2,Y2]) (.inr ⟨_,rfl,rfl⟩) l7]
   simp[dw,o5,h2]
 .rw[show(0:Int)=(λi:Nat=>(i:Int)) 0 from rfl,MB (λi:Nat=>(i:Int)) (n:=0) (o:=.rt a) (r:=.inr a) (λi hi=>by omega) (by
    show l9 true (o5 (some a) _) _=_;simp only[o9,o7,show D6 a ((0:Nat):Int)=false from O6 h1,Y2]) (.inr ⟨_,rfl,rfl⟩) l7]
  simp[dw,o5,h1]
theorem a3Z{x y:Int×Int}(hx:Cc x=true)(hy:Cc y=true):BH x y=some (ZM x y):=by
 have g:∀{z:Int×Int},Cc z=true->kH (wrap .u64 z.1)=some ((pcN z.1.toNat:Nat):Int):=λ{z} h=>by unfold Cc at h;rw[x9,decide_eq_true_iff,decide_eq_true_iff]at h;obtain⟨m,hm⟩:=wI h.1;rw[hm,b4K l7];rfl
 unfold BH ZM;simp only[g hx,g hy,o9,b6e,b6G]
end Go.GP
namespace Go.GP
theorem wL{α σ τ ε:Type}(l:List α)(mk:τ->Int->σ)(fin:τ->ε)(R:Nat->τ->Prop){f:σ->Option (σ⊕ε)}{b:τ}(hl:l.length<=1000000)(h0:R 0 b)
  (hin:∀(i:Nat) (a:α) (b:τ),l[i]? =some a->R i b->∃b',f (mk b (i:Int))=some (.inl (mk b' ((i+1:Nat):Int)))/\R (i+1) b')
  (hend:∀b,R l.length b->f (mk b (l.length:Int))=some (.inr (fin b))):∃b',aS f (mk b 0)=some (fin b')/\R l.length b' :=by
 have key:∀(n i:Nat) (b:τ),i<=l.length->l.length -i<n->R i b->∃b',xg f n (mk b (i:Int))=some (fin b')/\R l.length b' :=by
  intro n;induction n with
  |zero=>intro i b _ h _;omega|succ n ih=>
   intro i b hi hn hI;unfold xg;by_cases h:i<l.length
   .obtain⟨b',h1,h2⟩:=hin i _ b (jk h) hI;rw[h1];exact ih (i+1) b' l7 l7 h2
   .have:i=l.length:=l7;subst this;rw[hend b hI];exact⟨b,rfl,hI⟩
 exact key aT 0 b l7 (by unfold aT;omega) h0
def tm{κ:Type}(K:List κ):List (κ×Bool):=K.map λk=>(k,true)
theorem Jj{κ:Type} :∀(K:List κ),(tm K).map (·.1)=K
 |[]=>rfl|k::K=>congrArg (k::·) (Jj K)
theorem b2d{κ:Type} :∀{z:List (κ×Bool)},(∀e∈z,e.2=true)->z=tm (z.map (·.1))
 |[],_=>rfl|(k,b)::z,h=>by have h1:b=true:=h (k,b) A7;subst h1;exact congrArg ((k,true)::·) (b2d λe he=>h e (by simp[he]))
theorem a4V{κ:Type}{K:List κ} :∀e∈tm K,e.2=true:=λe he=>by obtain⟨k,_,rfl⟩:=I8.1 he;rfl
section
variable {κ:Type} [DecidableEq κ] {eq:κ->κ->Bool} (hE:∀a b,eq a b=true↔a=b)
include hE
theorem a4W(k:κ):∀(K:List κ),JL eq (tm K) k false=decide (k∈K)
 |[]=>rfl|p::K=>by
  have ih:=a4W k K;show(bif eq k p then true else JL eq (tm K) k false)=_;rw[ih];cases h:eq k p
  .have:k≠p:=λe=>by rw[(hE k p).2 e]at h;cases h
   simp[this]
  .have:=(hE k p).1 h;simp[this]
omit [DecidableEq κ]in
theorem a6I{k:κ}{K:List κ}(h:k∈K):JL eq (tm K) k false=true:=by
 classical
 rw[a4W hE];exact decide_eq_true h
omit [DecidableEq κ]in
theorem a0g{k:κ}{K:List κ}(h:k∉K):JL eq (tm K) k false=false:=by
 classical
 rw[a4W hE];exact decide_eq_false h
theorem OG{k:κ} :∀{K:List κ},k∈K->MX eq (tm K) k true=tm K
 |p::K,hk=>by
  show(bif eq k p then(k,true)::tm K else(p,true)::MX eq (tm K) k true)=(p,true)::tm K;cases h:eq k p
  .have hne:k≠p:=λe=>by rw[(hE k p).2 e]at h;cases h
   have hm:k∈K:=(D5.1 hk).resolve_left hne;rw[OG hm];rfl
  .rw[(hE k p).1 h];rfl
theorem Jk{k:κ} :∀{K:List κ},k∉K->MX eq (tm K) k true=tm (K++[k])
 |[],_=>rfl|p::K,hk=>by
  show(bif eq k p then(k,true)::tm K else(p,true)::MX eq (tm K) k true)=(p,true)::tm (K++[k]);have h:eq k p=false:=by
   cases h:eq k p
   .rfl
   .exact absurd (by rw[(hE k p).1 h];simp) hk
  rw[h,Jk (λhm=>hk (by simp[hm]))];rfl
theorem b2c(k:κ):∀(K:List κ),TM eq (tm K) k=tm (K.erase k)
 |[]=>rfl|p::K=>by
  show(bif eq k p then tm K else(p,true)::TM eq (tm K) k)=_;rw[List.erase_cons];cases h:eq k p
  .have:¬(p==k)=true:=λe=>by rw[(hE k p).2 (beq_iff_eq.1 e).symm]at h;cases h
   rw[if_neg this,b2c k K];rfl
  .have:=(hE k p).1 h;subst this;simp
end
theorem BM(a b:Int×Int):(λ(a b:Int×Int)=>jy (D6 a.1 b.1) (D6 a.2 b.2)) a b=true↔a=b:=by show jy (D6 a.1 b.1) (D6 a.2 b.2)=true↔a=b;unfold jy;rw[x9,bM,bM];exact⟨λh=>jW h.1 h.2,λh=>by subst h;exact⟨rfl,rfl⟩⟩
theorem Pg(a b:Int):(λ(a b:Int)=>D6 a b) a b=true↔a=b:=bM
theorem a6c:∀(N:Nat) (L:c5B),L.Nodup->(∀x∈L,x<N)->L.length<=N
 |0,L,_,h=>by
  cases L with
  |nil=>simp|cons a L=>have:=h a A7;omega
 |N+1,L,hn,h=>by
  have h1:=a6c N (L.erase N) (hn.erase N) λx hx=>by obtain⟨h2,h3⟩:=(hn.mem_erase_iff).1 hx;have:=h x h3;omega
  rw[List.length_erase]at h1;split at h1<;>omega
theorem a3H{α β:Type}(f:α->β):∀{L:List α},L.Nodup->(∀x∈L,∀y∈L,f x=f y->x=y)->(L.map f).Nodup
 |[],_,_=>by simp|a::L,hn,hi=>by obtain⟨h1,h2⟩:=X3.1 hn;rw[aU,X3];refine⟨λhm=>?_,a3H f h2 λx hx y hy=>hi x (by simp[hx]) y (by simp[hy])⟩;obtain⟨x,hx,e⟩:=I8.1 hm;have:=hi x (by simp[hx]) a A7 e;subst this;exact h1 hx
theorem a9E{α:Type}(f:α->Nat){N:Nat}{L:List α}(hn:L.Nodup)(hi:∀x∈L,∀y∈L,f x=f y->x=y)(hl:∀x∈L,f x<N):L.length<=N:=by have:=a6c N (L.map f) (a3H f hn hi) (λx hx=>by obtain⟨y,hy,rfl⟩:=I8.1 hx;exact hl y hy);simpa using this
theorem Fe{p q:Pt}(h:qp p=qp q):p=q:=by have h1:=(Prod.mk.inj h).1;have h2:=(Prod.mk.inj h).2;exact jW l7 l7
theorem WI{L:List (Int×Int)}(hn:L.Nodup)(h:∀p∈L,∃q:Pt,q.1<256/\q.2<256/\p=qp q):L.length<=65536:=by
 refine a9E (λp:Int×Int=>p.1.toNat*256+p.2.toNat) hn (λx hx y hy e=>?_) λx hx=>?_
 .obtain⟨q,h1,h2,rfl⟩:=h x hx;obtain⟨r,h3,h4,rfl⟩:=h y hy;have e:q.1*256+q.2=r.1*256+r.2:=e;have:q=r:=jW l7 l7;rw[this]
 .obtain⟨q,h1,h2,rfl⟩:=h x hx;show q.1*256+q.2<65536;omega
end Go.GP
namespace Go.GP
open Gt
set_option maxRecDepth 100000
structure AmO (n:Nat) (B:Nat->Prop) (k:Nat) (K L:List (Int×Int)):Prop where
 kn:K.Nodup
 km:∀p,p∈K↔∃q,zh n B q/\n<=pcN q.1+k/\p=qp q
 ln:L.Nodup
 lm:∀p,p∈L↔∃q,zh n B q/\pcN q.1+k=n/\p=qp q
structure AmI (n:Nat) (B:Nat->Prop) (k:Nat) (D:Pt->Nat->Prop) (K X:List (Int×Int)):Prop where
 kn:K.Nodup
 km:∀p,p∈K↔(∃q,zh n B q/\n<=pcN q.1+k/\p=qp q)\/p∈X
 xn:X.Nodup
 xm:∀p∈X,∃q,zh n B q/\pcN q.1+(k+1)=n/\p=qp q
 dn:∀q i,D q i->q.1.testBit i=true->zh n B (DW q i)->qp (DW q i)∈X
def b5P(l:List (Int×Int)):Nat:=match l with|[]=>0|p::_=>pcN p.1.toNat+1
def UN(a1:Int)(x:F9)(x_3:List (F9×Bool)×List F9×Int):Option ((List (F9×Bool)×List F9×Int)⊕(List (F9×Bool)×List F9)):=
 l9 (I7 x_3.2.2 a1)
  (o5 (AQ IntKind.i64 1 x_3.2.2) λ(x_4:Int)=>
   l9 (J8 (JL (λ(a b:F9)=>jy (D6 a.1 b.1) (D6 a.2 b.2)) x_3.1 (x.1,JI IntKind.i64 x.2 x_4) false))
    (some (Sum.inl (x_3.1,x_3.2.1,G6 IntKind.i64 x_3.2.2 1)))
    (o5 (yQ x (x.1,JI IntKind.i64 x.2 x_4)) λ(x:F9×Bool)=>
     l9 x.2
      (l9 (J8 (JL (λ(a b:F9)=>jy (D6 a.1 b.1) (D6 a.2 b.2)) x_3.1 x.1 false))
       (o5 (eY x_3.2.1 [x.1]) λ(x_5:List F9)=>
        some (Sum.inl (MX (λ(a b:F9)=>jy (D6 a.1 b.1) (D6 a.2 b.2)) x_3.1 x.1 true,x_5,G6 IntKind.i64 x_3.2.2 1)))
       (some (Sum.inl (x_3.1,x_3.2.1,G6 IntKind.i64 x_3.2.2 1))))
      (some (Sum.inl (x_3.1,x_3.2.1,G6 IntKind.i64 x_3.2.2 1)))))
  (some (Sum.inr (x_3.1,x_3.2.1)))
def Yj(a1:Int)(L:List F9)(x_1:List (F9×Bool)×List F9×Int):Option ((List (F9×Bool)×List F9×Int)⊕(List (F9×Bool)×List F9)):=
 l9 (I7 x_1.2.2 (x8 L))
  (o5 (U0 L x_1.2.2) λ(x_2:F9)=>o5 (dm L (aJ x_1.2.2)) λ(x:F9)=>
   o5 (aS (UN a1 x) (x_1.1,x_1.2.1,0)) λ(y:List (F9×Bool)×List F9)=>some (Sum.inl (y.1,y.2,G6 IntKind.i64 x_1.2.2 1)))
  (some (Sum.inr (x_1.1,x_1.2.1)))
def a5k(a1:Int)(x:List (F9×Bool)×List F9):Option ((List (F9×Bool)×List F9)⊕List (F9×Bool)):=
 l9 (I7 0 (x8 x.2)) (o5 (aS (Yj a1 x.2) (x.1,[],0)) λ(y:List (F9×Bool)×List F9)=>some (Sum.inl y)) (some (Sum.inr x.1))
theorem b2s(a0:List (F9×Bool))(a1:Int):AO a0 a1=Qx (λ(ys:List (F9×Bool))=>List.Perm ys a0) λ(ys:List (F9×Bool))=>
  o5 (xE (λ(e:F9×Bool) (x:List F9)=>o5 (eY x [e.1]) λ(x:List F9)=>some x) ys []) λ(x1:List F9)=>
   o5 (aS (a5k a1) (a0,x1)) λ(y:List (F9×Bool))=>some (RQ (a0,a1) y):=rfl
theorem b3V:∀i:Fin 9,AQ .i64 1 (i.val:Int)=some ((2^i.val:Nat):Int):=by decide+kernel
variable {i:Nat}
theorem W_(h:i<=8):AQ .i64 1 (i:Int)=some ((2^i:Nat):Int):=b3V ⟨i,l7⟩
theorem nxI(h:i<=1000000):G6 .i64 (i:Int) 1=((i+1:Nat):Int):=by rw[eG bI];omega
variable {K:List (Int×Int)}{q:Pt}{D:Pt->Nat->Prop}{X:List (Int×Int)}
section
variable {n:Nat} {B:Nat->Prop} {k:Nat} (hn:n<=8)
include hn
theorem qo(h:JF n q):q.1<256/\q.2<256:=⟨VY hn h.1,VY hn (a6n h)⟩
theorem a2N(hq:zh n B q)(hk:pcN q.1+k=n)(hi:i<n)(h:AmI n B k D K X):
  ∃K' X',UN (n:Int) (qp q) (tm K,X,(i:Int))=some (.inl (tm K',X',((i+1:Nat):Int)))/\AmI n B k (λq' i' =>D q' i' \/(q' =q/\i' =i)) K' X' :=by
 obtain⟨l1,l2⟩:=qo hn hq.1;have hp:=b0m hn hi;have ek:((qp q).1,JI IntKind.i64 (qp q).2 ((2^i:Nat):Int))=qp (TF q i):=by show((q.1:Int),JI .i64 (q.2:Int) ((2^i:Nat):Int))=_;rw[c4y l2 hp];rfl
 unfold UN;rw[show I7 (tm K,X,(i:Int)).2.2 (n:Int)=true from aA (by show(i:Int)<n;omega),o7];rw[show AQ IntKind.i64 1 (tm K,X,(i:Int)).2.2=_ from W_ (i:=i) l7,o9,ek,show G6 IntKind.i64 (tm K,X,(i:Int)).2.2 1=_ from nxI (i:=i) l7];have hin:qp (TF q i)∈K↔zh n B (TF q i):=by
  rw[h.km];constructor
  .rintro(⟨r,h1,-,e⟩|hx)
   .rw[Fe e];exact h1
   .obtain⟨r,h1,-,e⟩:=h.xm _ hx;rw[Fe e];exact h1
  .intro h1;exact .inl ⟨_,h1,by show n<=pcN q.1+k;omega,rfl⟩
 by_cases hf:qp (TF q i)∈K
 .rw[a6I BM hf,G8,o6,a9z l1 l2 l7,o9];cases hb:q.1.testBit i
  .exact⟨K,X,rfl,h.kn,h.km,h.xn,h.xm,λq' i' hd ht=>by
    rcases hd with hd|⟨rfl,rfl⟩
    .exact h.dn q' i' hd ht
    .rw[hb]at ht;cases ht⟩
  .have hm:zh n B (DW q i):=(WJ hq.1 hb).2 ⟨hq,hin.1 hf⟩;have hpc:pcN (DW q i).1+1=pcN q.1:=B_ l1 l7 hb;rw[o7,o7];by_cases hc:qp (DW q i)∈K
   .rw[a6I BM hc,G8,o6];refine⟨K,X,rfl,h.kn,h.km,h.xn,h.xm,λq' i' hd ht hp' =>?_⟩;rcases hd with hd|⟨rfl,rfl⟩
    .exact h.dn q' i' hd ht hp'
    .rcases(h.km _).1 hc with⟨r,h1,h2,e⟩|hx
     .have:=Fe e;subst this;omega
     .exact hx
   .rw[a0g BM hc,Y2,o7];have hX:X.length<=65536:=WI h.xn λp hp' =>by
     obtain⟨r,h1,-,e⟩:=h.xm p hp';exact⟨r,(qo hn h1.1).1,(qo hn h1.1).2,e⟩
    rw[show eY (tm K,X,(i:Int)).2.1 [qp (DW q i)]=some (X++[qp (DW q i)])from xu (by show X.length+1<=1073741824;omega),o9,Jk BM hc];have hcX:qp (DW q i)∉X:=λhx=>hc ((h.km _).2 (.inr hx));refine⟨K++[qp (DW q i)],X++[qp (DW q i)],rfl,?_,λp=>?_,?_,λp hp' =>?_,λq' i' hd ht hp' =>?_⟩
    .rw[J9];exact⟨h.kn,A7,λa ha b hb' =>by simp at hb';subst hb';intro e;subst e;exact hc ha⟩
    .rw[E5,E5,h.km,or_assoc]
    .rw[J9];exact⟨h.xn,A7,λa ha b hb' =>by simp at hb';subst hb';intro e;subst e;exact hcX ha⟩
    .rcases E5.1 hp' with hp'|hp'
     .exact h.xm p hp'
     .have:p=qp (DW q i):=by simpa using hp'
      exact⟨_,hm,l7,this⟩
    .rcases hd with hd|⟨rfl,rfl⟩
     .exact E5.2 (.inl (h.dn q' i' hd ht hp'))
     .simp
 .rw[a0g BM hf,Y2,o7];refine⟨K,X,rfl,h.kn,h.km,h.xn,h.xm,λq' i' hd ht hp' =>?_⟩;rcases hd with hd|⟨rfl,rfl⟩
  .exact h.dn q' i' hd ht hp'
  .exact absurd (hin.2 ((WJ hq.1 ht).1 hp').2) hf
omit hn in
theorem AmI.mono{D D' :Pt->Nat->Prop}(h:AmI n B k D K X)(hd:∀q i,D' q i->q.1.testBit i=true->D q i):AmI n B k D' K X:=⟨h.kn,h.km,h.xn,h.xm,λq i h1 h2 h3=>h.dn q i (hd q i h1 h2) h2 h3⟩
theorem b5N(hq:zh n B q)(hk:pcN q.1+k=n)(h:AmI n B k D K X):
  ∃K' X',aS (UN (n:Int) (qp q)) (tm K,X,0)=some (tm K',X')/\AmI n B k (λq' i' =>D q' i' \/q' =q) K' X' :=by
 obtain⟨b,h1,h2⟩:=wL (List.range n) (λ(t:List (Int×Int)×List (Int×Int)) (i:Int)=>(tm t.1,t.2,i)) (λt=>(tm t.1,t.2)) (λi t=>AmI n B k (λq' i' =>D q' i' \/(q' =q/\i' <i)) t.1 t.2) (f:=UN (n:Int) (qp q)) (b:=(K,X)) F8
  (h.mono λq' i' hd _=>by
   rcases hd with hd|⟨_,hd⟩
   .exact hd
   .omega)
  (λi a t hi ht=>by
   have hi' :i<n:=by have:=(X9.1 hi).1;simpa using this
   obtain⟨K',X',e,h'⟩:=a2N hn hq hk hi' ht;refine⟨(K',X'),e,h'.mono λq' i' hd _=>?_⟩;rcases hd with hd|⟨e1,hd⟩
   .exact .inl (.inl hd)
   .by_cases hh:i' <i
    .exact .inl (.inr ⟨e1,hh⟩)
    .exact .inr ⟨e1,l7⟩)
  (λt ht=>by unfold UN;rw[show I7 (tm t.1,t.2,((List.range n).length:Int)).2.2 (n:Int)=false from U5 A7,o6])
 refine⟨b.1,b.2,h1,h2.mono λq' i' hd ht=>?_⟩;rcases hd with hd|rfl
 .exact .inl hd
 .exact .inr ⟨rfl,by simpa using c4o hq.1.1 ht⟩
theorem b5O{K L:List (Int×Int)}(h:AmO n B k K L):∃K' X,aS (Yj (n:Int) L) (tm K,[],0)=some (tm K',X)/\AmO n B (k+1) K' X:=by
 have hL:L.length<=65536:=WI h.ln λp hp' =>by obtain⟨r,h1,-,e⟩:=(h.lm p).1 hp';exact⟨r,(qo hn h1.1).1,(qo hn h1.1).2,e⟩
 obtain⟨b,h1,h2⟩:=wL L (λ(t:List (Int×Int)×List (Int×Int)) (i:Int)=>(tm t.1,t.2,i)) (λt=>(tm t.1,t.2)) (λj t=>AmI n B k (λq' i' =>∃j',j' <j/\L[j']? =some (qp q')) t.1 t.2) (f:=Yj (n:Int) L) (b:=(K,[])) l7
  ⟨h.kn,λp=>by rw[h.km];simp,A7,A7,λq i hd=>by obtain⟨j',hj,_⟩:=hd;omega⟩
  (λj a t hj ht=>by
   have hj' :j<L.length:=(X9.1 hj).1;obtain⟨q,hq,hk,rfl⟩:=(h.lm a).1 (vM hj);obtain⟨K',X',e,h'⟩:=b5N hn hq hk ht;refine⟨(K',X'),?_,h'.mono λq' i' hd _=>?_⟩
   .unfold Yj;rw[show I7 (tm t.1,t.2,(j:Int)).2.2 (x8 L)=true from aA (by show(j:Int)<(L.length:Int);omega),o7];rw[show U0 L (tm t.1,t.2,(j:Int)).2.2=_ from U4 L j,hj,o9,show dm L (aJ (tm t.1,t.2,(j:Int)).2.2)=some (qp q)from by unfold dm aJ;simpa using hj,o9];show o5 (aS (UN (n:Int) (qp q)) (tm t.1,t.2,0)) _=_;rw[e,o9,show G6 IntKind.i64 (tm t.1,t.2,(j:Int)).2.2 1=_ from nxI (i:=j) l7]
   .obtain⟨j',h3,h4⟩:=hd;by_cases hh:j' <j
    .exact .inl ⟨j',hh,h4⟩
    .have:j' =j:=l7;subst this;rw[hj]at h4;exact .inr (Fe (aZ h4).symm))
  (λt ht=>by unfold Yj;rw[show I7 (tm t.1,t.2,(L.length:Int)).2.2 (x8 L)=false from U5 (by show x8 L<=(L.length:Int);simp[x8]),o6])
 have hx:∀p,p∈b.2↔∃q,zh n B q/\pcN q.1+(k+1)=n/\p=qp q:=λp=>by refine⟨h2.xm p,?_⟩;rintro⟨q,hq,hk,rfl⟩;obtain⟨i,hi,hb⟩:=(PL hn hq.1.1).2.2 l7;have hu:=(a6m hq hi hb).1;have hc:=a3a hq.1 hb;have hpc:=B_ (a:=(upP q i).1) (qo hn hu.1).1 (show i<8 by omega) a0i;have he:clr (upP q i).1 i=q.1:=congrArg Prod.fst hc;rw[he]at hpc;have hm:qp (upP q i)∈L:=(h.lm _).2 ⟨_,hu,l7,rfl⟩;obtain⟨j,hj,hj2⟩:=Y8 hm;have:=h2.dn (upP q i) i ⟨j,hj,by rw[jk hj,hj2]⟩ a0i (by rw[hc];exact hq);rwa[hc]at this
 refine⟨b.1,b.2,h1,h2.kn,λp=>?_,h2.xn,hx⟩;rw[h2.km,hx];constructor
 .rintro(⟨q,a1,a2,a3⟩|⟨q,a1,a2,a3⟩)
  .exact⟨q,a1,l7,a3⟩
  .exact⟨q,a1,l7,a3⟩
 .rintro⟨q,a1,a2,a3⟩;by_cases hh:n<=pcN q.1+k
  .exact .inl ⟨q,a1,hh,a3⟩
  .exact .inr ⟨q,a1,l7,a3⟩
theorem b4u:∀(d:Nat) {q:Pt},zh n B q->pcN q.1+(k+d)=n->∃q',zh n B q' /\pcN q'.1+k=n
 |0,q,hq,h=>⟨q,hq,h⟩|d+1,q,hq,h=>by obtain⟨i,hi,hb⟩:=(PL hn hq.1.1).2.2 l7;have hu:=(a6m hq hi hb).1;have hpc:=B_ (a:=(upP q i).1) (qo hn hu.1).1 (show i<8 by omega) a0i;have he:clr (upP q i).1 i=q.1:=congrArg Prod.fst (a3a hq.1 hb);rw[he]at hpc;exact b4u d hu l7
theorem a8z{K L:List (Int×Int)}(h:AmO n B 0 K L):∃K',aS (a5k (n:Int)) (tm K,L)=some (tm K')/\K'.Nodup/\∀p,p∈K' ↔∃q,zh n B q/\p=qp q:=by
 obtain⟨e,h1,K',rfl,h2,h3⟩:=mV (f:=a5k (n:Int)) (s:=(tm K,L)) (λs=>∃k K L,s=(tm K,L)/\AmO n B k K L) (λe=>∃K',e=tm K' /\K'.Nodup/\∀p,p∈K' ↔∃q,zh n B q/\p=qp q)
  (λs=>b5P s.2) ⟨0,K,L,rfl,h⟩ (by
   show b5P L<_;cases L with
   |nil=>show 0<_;omega|cons p L=>
    obtain⟨q,hq,hk,rfl⟩:=(h.lm p).1 A7;have:=(PL hn hq.1.1).1;show pcN q.1+1<_;omega) (by
   rintro s ⟨k,K,L,rfl,h⟩;cases L with
   |nil=>
    refine .inr ⟨tm K,rfl,K,rfl,h.kn,λp=>?_⟩;rw[h.km];constructor
    .rintro⟨q,a,_,b⟩;exact⟨q,a,b⟩
    .rintro⟨q,a,b⟩;refine⟨q,a,?_,b⟩;apply Nat.le_of_not_lt;intro hh;obtain⟨q',c1,c2⟩:=b4u (k:=k) hn (n -pcN q.1 -k) a l7;have:=(h.lm (qp q')).2 ⟨q',c1,c2,rfl⟩;cases this
   |cons p L=>
    left;obtain⟨K',X,e,h'⟩:=b5O hn h;refine⟨(tm K',X),?_,⟨k+1,K',X,rfl,h'⟩,?_⟩
    .unfold a5k;rw[show I7 0 (x8 (tm K,p::L).2)=true from aA (by show(0:Int)<((p::L).length:Int);simp),o7];show o5 (aS (Yj (n:Int) (p::L)) (tm K,[],0)) _=_;rw[e,o9]
    .obtain⟨q,hq,hk,rfl⟩:=(h.lm p).1 A7;show b5P X<pcN q.1+1;cases X with
     |nil=>show 0<_;omega
     |cons p' X=>obtain⟨q',hq',hk',rfl⟩:=(h'.lm p').1 A7;show pcN q'.1+1<_;omega)
 exact⟨K',h1,h2,h3⟩
end
theorem Zt{α β:Type} :∀(ys:List (α×β)) (x:List α),x.length+ys.length<=1073741824->xE (λ(e:α×β) (x:List α)=>o5 (eY x [e.1]) λ(x:List α)=>some x) ys x=some (x++ys.map (·.1))
 |[],x,_=>by simp[xE]|e::ys,x,h=>by simp only[D7]at h;unfold xE;rw[xu F8,o9,o9,Zt ys (x++[e.1]) F8];simp
variable {n:Nat}
theorem a0A{es ys:List ((Int×Int)×Bool)}(h:a0q n es)(hp:ys.Perm es):AmO n (UO n es) 0 (es.map (·.1)) (ys.map (·.1)):=by
 obtain⟨hn,hnd,hes⟩:=h;have key:∀p,p∈es.map (·.1)↔∃q,zh n (UO n es) q/\pcN q.1+0=n/\p=qp q:=λp=>by
  constructor
  .intro hm;obtain⟨e,he,rfl⟩:=I8.1 hm;obtain⟨h1,b,hb,h2⟩:=hes e he;refine⟨(2^n -1,b),⟨⟨by have:=sS n;show 2^n -1<2^n;omega,?_⟩,λx hx hm' =>?_⟩,b6J hn,h2⟩
   .show b&&& (2^n -1)=b;rw[iY,nT hb]
   .have hm' :x&&& (2^n -1)=b:=hm';rw[iY,nT hx]at hm';subst hm';show qp (2^n -1,x)∈_;rw[←h2];exact hm
  .rintro⟨q,hq,hk,rfl⟩;have e1:q.1=2^n -1:=(PL hn hq.1.1).2.1 l7;have:=hq.2 q.2 (a6n hq.1) hq.1.2;show((q.1:Int),(q.2:Int))∈_;rw[e1];exact this
 refine⟨hnd,λp=>?_,((hp.map (·.1)).nodup_iff).2 hnd,λp=>?_⟩
 .rw[key];constructor
  .rintro⟨q,a,b,c⟩;exact⟨q,a,l7,c⟩
  .rintro⟨q,a,b,c⟩;exact⟨q,a,by have:=(PL hn a.1.1).1;omega,c⟩
 .rw[(hp.map (·.1)).mem_iff,key]
variable {es:List ((Int×Int)×Bool)}
theorem b3w(h:a0q n es):es.length<=65536:=by
 have:=WI h.2.1 λp hp=>by obtain⟨e,he,rfl⟩:=I8.1 hp;obtain⟨_,b,hb,e2⟩:=h.2.2 e he;exact⟨_,VY h.1 (show 2^n -1<2^n by have:=sS n;omega),VY h.1 hb,e2⟩
 simpa using this
theorem b2t{m:Int}(h:∃z,RQ (es,m) z):AO es m=some True:=by obtain⟨z,n,hm,hpre,-⟩:=h;have hm:m=n:=hm;subst hm;rw[b2s];refine ZF ⟨es,.refl _⟩ λys hys=>?_;have hlen:es.length<=65536:=b3w hpre;have hl2:=hys.length_eq;rw[Zt ys [] F8,o9,H9];have htm:es=tm (es.map (·.1)):=b2d λe he=>(hpre.2.2 e he).1;obtain⟨K',h1,h2,h3⟩:=a8z hpre.1 (a0A hpre hys);rw[←htm]at h1;rw[h1,o9];refine congrArg some (eq_true ⟨n,rfl,hpre,by rw[Jj];exact h2,a4V,λp=>?_⟩);rw[Jj];exact h3 p
theorem b8V(h:a0q n es):∃z,RQ (es,(n:Int)) z:=by obtain⟨K',-,h2,h3⟩:=a8z h.1 (a0A h (.refl es));exact⟨tm K',n,rfl,h,by rw[Jj];exact h2,a4V,λp=>by rw[Jj];exact h3 p⟩
end Go.GP
namespace Go.GP
open Gt
set_option maxRecDepth 100000
def Prm(n:Nat)(B:Nat->Prop)(q:Pt):Prop:=zh n B q/\∀i,i<n->q.1.testBit i=true->¬zh n B (DW q i)
def Zy(n:Nat)(B:Nat->Prop)(p:Int×Int):Prop:=∃q,Prm n B q/\p=qp q
theorem b0h{n:Nat}{B:Nat->Prop}(hn:n<=8){x:Nat} :∀(d:Nat) {q:Pt},pcN q.1<=d->zh n B q->x&&& q.1=q.2->∃q',Prm n B q' /\x&&& q'.1=q'.2
 |d,q,hd,hq,hm=>by
  by_cases hp:∀i,i<n->q.1.testBit i=true->¬zh n B (DW q i)
  .exact⟨q,⟨hq,hp⟩,hm⟩
  .obtain⟨i,hp⟩:=Classical.not_forall.1 hp;obtain⟨hi,hp⟩:=Classical.not_imp.1 hp;obtain⟨hb,hp⟩:=Classical.not_imp.1 hp;have hc:=Classical.not_not.1 hp;have h1:=B_ (VY hn hq.1.1) (show i<8 by omega) hb;cases d with
   |zero=>omega|succ d=>exact b0h hn d (q:=DW q i) (by show pcN (clr q.1 i)<=d;omega) hc ((u_ hq.1 hb x).2 (.inl hm))
theorem a4a{xs ys:List (Int×Int)}(h:xs.Perm ys):(xs.mergeSort λx y=> !(ltP y x))=ys.mergeSort λx y=> !(ltP y x):=by
 have ht:∀a b c:Int×Int,(!(ltP b a))=true->(!(ltP c b))=true->(!(ltP c a))=true:=λa b c h1 h2=>by rw[Y1]at*;exact We h2 h1
 have hto:∀a b:Int×Int,(!(ltP b a) || !(ltP a b))=true:=λa b=>by
  cases h1:ltP b a
  .rfl
  .cases h2:ltP a b
   .rfl
   .have:=YQ h1 h2;rw[VZ]at this;cases this
 refine List.Perm.eq_of_pairwise (le:=λx y=>(!(ltP y x))=true) (λa b _ _ h1 h2=>?_) (qc ht hto xs) (qc ht hto ys) (((kY xs _).trans h).trans (kY ys _).symm);rw[Y1]at*;exact YP h2 h1
def YY(a0:List (F9×Bool))(a1:Int)(e:F9×Bool)(x:Bool×Int):Option ((Bool×Int)⊕Bool):=
 l9 (I7 x.2 a1)
  (o5 (AQ IntKind.i64 1 x.2) λ(x_1:Int)=>o5 (AQ IntKind.i64 1 x.2) λ(x_2:Int)=>
   l9 (J8 (jy (D6 (sQ IntKind.i64 e.1.1 x_1) e.1.1) (D6 (sQ IntKind.i64 e.1.2 x_2) e.1.2)))
    (l9 (JL (λ(a b:F9)=>jy (D6 a.1 b.1) (D6 a.2 b.2)) a0 (sQ IntKind.i64 e.1.1 x_1,sQ IntKind.i64 e.1.2 x_2) false)
     (some (Sum.inl (false,G6 IntKind.i64 x.2 1))) (some (Sum.inl (x.1,G6 IntKind.i64 x.2 1))))
    (some (Sum.inl (x.1,G6 IntKind.i64 x.2 1))))
  (some (Sum.inr x.1))
def b4M(a0:List (F9×Bool))(a1:Int)(e:F9×Bool)(x:List F9):Option (List F9):=
 o5 (aS (YY a0 a1 e) (true,0)) λ(y:Bool)=>l9 y (o5 (eY x [e.1]) λ(x:List F9)=>some x) (some x)
theorem a7N(a0:List (F9×Bool))(a1:Int):xY a0 a1=Qx (λ(ys:List (F9×Bool))=>List.Perm ys a0) λ(ys:List (F9×Bool))=>
  o5 (xE (b4M a0 a1) ys []) λ(x1:List F9)=>o5 (Dv x1 PUnit.unit) λ(x:List F9)=>some x:=rfl
section
variable {n:Nat} {B:Nat->Prop} (hn:n<=8)
include hn
theorem b6K{K:List (Int×Int)}(hk:∀p,p∈K↔∃q,zh n B q/\p=qp q){q:Pt}(hq:zh n B q)(b:Bool):∃y,aS (YY (tm K) (n:Int) (qp q,b)) (true,0)=some y/\(y=true↔Prm n B q):=by
 obtain⟨l1,l2⟩:=qo hn hq.1;obtain⟨y,h1,h2⟩:=wL (List.range n) (λ(t:Bool) (i:Int)=>(t,i)) (λt=>t) (λi t=>t=true↔∀i',i' <i->q.1.testBit i' =true->¬zh n B (DW q i')) (f:=YY (tm K) (n:Int) (qp q,b)) (b:=true) F8
  ⟨λ_ i hi=>by omega,λ_=>rfl⟩
  (λi a t hi ht=>by
   have hi' :i<n:=by have:=(X9.1 hi).1;simpa using this
   have e1:sQ IntKind.i64 (qp q,b).1.1 ((2^i:Nat):Int)=((clr q.1 i:Nat):Int):=TV l1 l7;have e2:sQ IntKind.i64 (qp q,b).1.2 ((2^i:Nat):Int)=((clr q.2 i:Nat):Int):=TV l2 l7;unfold YY;rw[show I7 (t,(i:Int)).2 (n:Int)=true from aA (by show(i:Int)<n;omega),o7];rw[show AQ IntKind.i64 1 (t,(i:Int)).2=_ from W_ (i:=i) l7,o9,o9,e1,e2,show G6 IntKind.i64 (t,(i:Int)).2 1=_ from nxI (i:=i) l7];cases hb:q.1.testBit i
   .have f1:D6 ((clr q.1 i:Nat):Int) (qp q,b).1.1=true:=O8 (by rw[Vl hb]);have f2:D6 ((clr q.2 i:Nat):Int) (qp q,b).1.2=true:=O8 (by rw[Vl (a1Q hq.1 hb)]);rw[f1,f2];refine⟨t,rfl,ht.trans ⟨λh i' h1 h2=>?_,λh i' h1 h2=>h i' l7 h2⟩⟩;by_cases hh:i' =i
    .subst hh;rw[hb]at h2;cases h2
    .exact h i' l7 h2
   .have f1:D6 ((clr q.1 i:Nat):Int) (qp q,b).1.1=false:=O6 (λe=>by
     have e:clr q.1 i=q.1:=by have:((clr q.1 i:Nat):Int)=(q.1:Int):=e;omega
     have:=BG q.1 i i;rw[e,hb]at this;simp at this)
    rw[f1];show ∃b',l9 (JL _ (tm K) (qp (DW q i)) false) _ _=_/\_;by_cases hm:qp (DW q i)∈K
    .rw[a6I BM hm];refine⟨false,rfl,(λh=>by cases h),λh=>?_⟩;obtain⟨r,hr,e⟩:=(hk _).1 hm;rw[←Fe e]at hr;exact absurd hr (h i l7 hb)
    .rw[a0g BM hm];refine⟨t,rfl,ht.trans ⟨λh i' h1 h2=>?_,λh i' h1 h2=>h i' l7 h2⟩⟩;by_cases hh:i' =i
     .subst hh;exact λhp=>hm ((hk _).2 ⟨_,hp,rfl⟩)
     .exact h i' l7 h2)
  (λt ht=>by unfold YY;rw[show I7 (t,((List.range n).length:Int)).2 (n:Int)=false from U5 A7,o6])
 refine⟨y,h1,h2.trans ?_⟩;rw[V4];exact⟨λh=>⟨hq,h⟩,λh=>h.2⟩
open Classical in
theorem a3Y{K:List (Int×Int)}(hk:∀p,p∈K↔∃q,zh n B q/\p=qp q):∀(ys:List ((Int×Int)×Bool)) (x:List (Int×Int)),(∀e∈ys,e.1∈K)->x.length+ys.length<=1000000->
  xE (b4M (tm K) (n:Int)) ys x=some (x++(ys.map (·.1)).filter λp=>decide (Zy n B p))
 |[],x,_,_=>by simp[xE]|e::ys,x,h,hl=>by
  simp only[D7]at hl;obtain⟨q,hq,he⟩:=(hk e.1).1 (h e A7);obtain⟨p,b⟩:=e;have he:p=qp q:=he;subst he;obtain⟨y,h1,h2⟩:=b6K hn hk hq b;have hi:Zy n B (qp q)↔Prm n B q:=⟨λ⟨r,hr,e⟩=>by rw[Fe e];exact hr,λh=>⟨q,h,rfl⟩⟩;unfold xE;show o5 (o5 (aS (YY (tm K) (n:Int) (qp q,b)) (true,0)) _) _=_;rw[h1,o9,aU,iJ];cases y
  .have:¬Zy n B (qp q):=λhh=>by have:=h2.2 (hi.1 hh);cases this
   rw[decide_eq_false this,o6,o9,a3Y hk ys x (λe he=>h e (by simp[he])) l7];rfl
  .have:Zy n B (qp q):=hi.2 (h2.1 rfl);rw[decide_eq_true this,o7,xu F8,o9,o9,a3Y hk ys _ (λe he=>h e (by simp[he])) F8];simp
open Classical in
theorem a7O{z0:List ((Int×Int)×Bool)}(h0:UC n B z0):∃R:List (Int×Int),R.Nodup/\(∀p,p∈R↔Zy n B p)/\∀z,UC n B z->xY z (n:Int)=some R:=by
 have hz:∀z,UC n B z->z.length<=65536:=λz h=>by
  have:=WI h.1 λp hp=>by obtain⟨q,hq,e⟩:=(h.2.2 p).1 hp;exact⟨q,(qo hn hq.1).1,(qo hn hq.1).2,e⟩
  simpa using this
 refine⟨((z0.map (·.1)).filter λp=>decide (Zy n B p)).mergeSort λx y=> !(ltP y x),?_,λp=>?_,λz h=>?_⟩
 .exact((kY _ _).nodup_iff).2 (h0.1.filter _)
 .rw[(kY _ _).mem_iff,bZ,decide_eq_true_iff];exact⟨λh=>h.2,λh=>⟨(h0.2.2 p).2 (by obtain⟨q,hq,e⟩:=h;exact⟨q,hq.1,e⟩),h⟩⟩
 .rw[a7N];refine ZF ⟨z,.refl _⟩ λys hys=>?_;have hl:=hz z h;have hl2:=hys.length_eq;have htm:z=tm (z.map (·.1)):=b2d h.2.1;have hw:=a3Y hn (K:=z.map (·.1)) h.2.2 ys [] (λe he=>I8.2 ⟨e,hys.mem_iff.1 he,rfl⟩) F8;rw[←htm]at hw;rw[hw,o9,H9];have hp:((ys.map (·.1)).filter λp=>decide (Zy n B p)).Perm ((z0.map (·.1)).filter λp=>decide (Zy n B p)):=by
   refine List.Perm.filter _ ((hys.map (·.1)).trans ?_);exact(nM h.1 h0.1).2 λp=>(h.2.2 p).trans (h0.2.2 p).symm
  have hg:(((ys.map (·.1)).filter λp=>decide (Zy n B p)).all Cc)=true:=by rw[dV];intro p hp';obtain⟨q,hq,rfl⟩:=of_decide_eq_true (bZ.1 hp').2;have:=(qo hn hq.1.1).1;show(decide ((0:Int)<=(q.1:Int))&&decide ((q.1:Int)<256))=true;rw[x9,decide_eq_true_iff,decide_eq_true_iff];omega
  unfold Dv;rw[if_pos ⟨by exact X7 (X7 (dN _ _) (Nat.le_of_eq (J6 ..))) (show ys.length<=1073741824 by omega),hg⟩,o9,a4a hp]
end
end Go.GP
namespace Go.GP
open Gt
set_option maxRecDepth 100000
def mnA(a0:c5z)(x_1:Int)(x:List (Int×Bool)×List (F9×Bool)×Int):Option ((List (Int×Bool)×List (F9×Bool)×Int)⊕(List (Int×Bool)×List (F9×Bool))):=
 l9 (I7 x.2.2 (x8 a0))
  (o5 (U0 a0 x.2.2) λ(x_2:Int)=>
   l9 (X6 0 x_2)
    (l9 (I7 x_2 x_1)
     (some (Sum.inl (MX (λ(a b:Int)=>D6 a b) x.1 x_2 true,MX (λ(a b:F9)=>jy (D6 a.1 b.1) (D6 a.2 b.2)) x.2.1 (Y5 IntKind.i64 x_1 1,x_2) true,G6 IntKind.i64 x.2.2 1)))
     (some (Sum.inl (x.1,x.2.1,G6 IntKind.i64 x.2.2 1))))
    (some (Sum.inl (x.1,x.2.1,G6 IntKind.i64 x.2.2 1))))
  (some (Sum.inr (x.1,x.2.1)))
def mnC(x_1:Int)(x:F9)(x_4:List (Int×Bool)×Bool×Int):Option ((List (Int×Bool)×Bool×Int)⊕(List (Int×Bool)×Bool)):=
 l9 (I7 x_4.2.2 x_1)
  (l9 (JL (λ(a b:Int)=>D6 a b) x_4.1 x_4.2.2 false)
   (o5 (wQ x x_4.2.2) λ(x:Bool)=>
    l9 x (some (Sum.inl (TM (λ(a b:Int)=>D6 a b) x_4.1 x_4.2.2,true,G6 IntKind.i64 x_4.2.2 1)))
     (some (Sum.inl (x_4.1,x_4.2.1,G6 IntKind.i64 x_4.2.2 1))))
   (some (Sum.inl (x_4.1,x_4.2.1,G6 IntKind.i64 x_4.2.2 1))))
  (some (Sum.inr (x_4.1,x_4.2.1)))
def mnB(x_1:Int)(x:List F9)(x_2:List (Int×Bool)×List F9×Int):Option ((List (Int×Bool)×List F9×Int)⊕List F9):=
 l9 (I7 x_2.2.2 (x8 x))
  (o5 (U0 x x_2.2.2) λ(x_3:F9)=>o5 (dm x (aJ x_2.2.2)) λ(x:F9)=>
   o5 (aS (mnC x_1 x) (x_2.1,false,0)) λ(y:List (Int×Bool)×Bool)=>
    l9 y.2 (o5 (eY x_2.2.1 [x]) λ(x:List F9)=>some (Sum.inl (y.1,x,G6 IntKind.i64 x_2.2.2 1)))
     (some (Sum.inl (y.1,x_2.2.1,G6 IntKind.i64 x_2.2.2 1))))
  (some (Sum.inr x_2.2.1))
theorem b6p(a0:c5z)(a1:Int):uP a0 a1=o5 (kU a1) λ(x:Int)=>o5 (AQ IntKind.i64 1 x) λ(x_1:Int)=>
  o5 (aS (mnA a0 x_1) ([],[],0)) λ(y:List (Int×Bool)×List (F9×Bool))=>Qx (RQ (y.2,x)) λ(a:List (F9×Bool))=>
   o5 (xY a x) λ(x:List F9)=>o5 (aS (mnB x_1 x) (y.1,[],0)) λ(y:List F9)=>some y:=rfl
theorem a7b:∀n:Fin 9,kU (n.val:Int)=some (n.val:Int):=by decide+kernel
section
variable {n:Nat} (hn:n<=8)
include hn
abbrev ptF(n:Nat)(x:Int):Int×Int:=(((2^n -1:Nat):Int),x)
omit hn in
theorem a6l{x y:Int}(h:ptF n x=ptF n y):x=y:=(Prod.mk.inj h).2
theorem b6r{a0:c5z}(ha:a0.length<=1000000):∃W:c5z,aS (mnA a0 ((2^n:Nat):Int)) ([],[],0)=some (tm W,tm (W.map (ptF n)))/\W.Nodup/\W.length<=a0.length/\∀x,x∈W↔x∈a0/\0<=x/\x<((2^n:Nat):Int):=by
 have hp:(1:Int)<=((2^n:Nat):Int)/\((2^n:Nat):Int)<=256:=by have h1:=sS n;have h2:2^n<=2^8:=ed E9 hn;omega
 have hs:Y5 IntKind.i64 ((2^n:Nat):Int) 1=((2^n -1:Nat):Int):=by show IntKind.wrap .i64 (((2^n:Nat):Int) -1)=_;rw[uQ bI];omega
 obtain⟨W,h1,h2,h3,h4⟩:=wL a0 (λ(W:c5z) (i:Int)=>(tm W,tm (W.map (ptF n)),i)) (λW=>(tm W,tm (W.map (ptF n)))) (λi W=>W.Nodup/\W.length<=i/\∀x,x∈W↔x∈a0.take i/\0<=x/\x<((2^n:Nat):Int)) (f:=mnA a0 ((2^n:Nat):Int)) (b:=[]) ha
  ⟨A7,A7,A7⟩
  (λi v W hi ⟨t1,t2,t3⟩=>by
   have hi' :=(X9.1 hi).1;have htk:∀x,x∈a0.take (i+1)↔x∈a0.take i\/x=v:=λx=>by rw[jY,hi];simp
   unfold mnA;rw[show I7 (tm W,tm (W.map (ptF n)),(i:Int)).2.2 (x8 a0)=true from aA (by show(i:Int)<(a0.length:Int);omega),o7];rw[show U0 a0 (tm W,tm (W.map (ptF n)),(i:Int)).2.2=_ from U4 a0 i,hi,o9,show G6 IntKind.i64 (tm W,tm (W.map (ptF n)),(i:Int)).2.2 1=_ from nxI (i:=i) l7,hs];by_cases g1:0<=v
   .rw[ay g1,o7];by_cases g2:v<((2^n:Nat):Int)
    .rw[aA g2,o7];by_cases g3:v∈W
     .refine⟨W,?_,t1,l7,λx=>?_⟩
      .have:ptF n v∈W.map (ptF n):=I8.2 ⟨v,g3,rfl⟩;rw[OG Pg g3,OG BM this]
      .rw[t3,htk];constructor
       .exact λh=>⟨.inl h.1,h.2⟩
       .rintro⟨h|rfl,h2⟩
        .exact⟨h,h2⟩
        .exact(t3 _).1 g3
     .refine⟨W++[v],?_,?_,by simp;omega,λx=>?_⟩
      .have:ptF n v∉W.map (ptF n):=λhm=>by
        obtain⟨y,hy,e⟩:=I8.1 hm;rw[a6l e]at hy;exact g3 hy
       rw[Jk Pg g3,Jk BM this,bC];rfl
      .rw[J9];exact⟨t1,A7,λa ha b hb e=>by simp at hb;subst hb;subst e;exact g3 ha⟩
      .rw[E5,t3,htk];constructor
       .rintro(h|h)
        .exact⟨.inl h.1,h.2⟩
        .have:x=v:=by simpa using h
         subst this;exact⟨.inr rfl,g1,g2⟩
       .rintro⟨h|rfl,h2⟩
        .exact .inl ⟨h,h2⟩
        .exact .inr A7
    .rw[U5 l7,o6];refine⟨W,rfl,t1,l7,λx=>?_⟩;rw[t3,htk];exact⟨λh=>⟨.inl h.1,h.2⟩,λ⟨h,h2⟩=>⟨h.resolve_right λe=>by subst e;omega,h2⟩⟩
   .rw[bW l7,o6];refine⟨W,rfl,t1,l7,λx=>?_⟩;rw[t3,htk];exact⟨λh=>⟨.inl h.1,h.2⟩,λ⟨h,h2⟩=>⟨h.resolve_right λe=>by subst e;omega,h2⟩⟩)
  (λW h=>by unfold mnA;rw[show I7 (tm W,tm (W.map (ptF n)),(a0.length:Int)).2.2 (x8 a0)=false from U5 (by show x8 a0<=(a0.length:Int);simp[x8]),o6])
 exact⟨W,h1,h2,h3,λx=>by rw[h4,aG]⟩
theorem b6s{q:Pt}(hq:JF n q){W:c5z}(hW:W.Nodup)(hr:∀x∈W,0<=x/\x<((2^n:Nat):Int)):
  ∃W' b,aS (mnC ((2^n:Nat):Int) (qp q)) (tm W,false,0)=some (tm W',b)/\W'.Nodup/\(∀x,x∈W' ↔x∈W/\x.toNat&&& q.1≠q.2)/\(if b=true then W'.length+1<=W.length else W'.length<=W.length)/\(b=false->W' =W):=by
 obtain⟨l1,l2⟩:=qo hn hq;have hp:2^n<=256:=ed (n:=2) E9 hn;obtain⟨t,h1,h2,h3,h4,h5⟩:=wL (List.range (2^n)) (λ(t:c5z×Bool) (i:Int)=>(tm t.1,t.2,i)) (λt=>(tm t.1,t.2)) (λi t=>t.1.Nodup/\(∀x,x∈t.1↔x∈W/\(x<(i:Int)->x.toNat&&& q.1≠q.2))/\(if t.2=true then t.1.length+1<=W.length else t.1.length<=W.length)/\(t.2=false->t.1=W)) (f:=mnC ((2^n:Nat):Int) (qp q)) (b:=(W,false)) (by rw[V4];omega)
  ⟨hW,λx=>⟨λh=>⟨h,λhx=>by have:=(hr x h).1;omega⟩,λh=>h.1⟩,A7,λ_=>rfl⟩
  (λi a t hi ⟨t1,t2,t3,t4⟩=>by
   have hi' :i<2^n:=by have:=(X9.1 hi).1;simpa using this
   have hM:wQ (qp q) (i:Int)=some (D6 ((i&&& q.1:Nat):Int) (q.2:Int)):=by show some (D6 (ak IntKind.i64 (i:Int) (q.1:Int)) (q.2:Int))=_;rw[b5Q l7 l1]
   unfold mnC;rw[show I7 (tm t.1,t.2,(i:Int)).2.2 ((2^n:Nat):Int)=true from aA (by show(i:Int)<((2^n:Nat):Int);omega),o7];rw[show G6 IntKind.i64 (tm t.1,t.2,(i:Int)).2.2 1=_ from nxI (i:=i) l7];show ∃b',l9 (JL _ (tm t.1) (i:Int) false) (o5 (wQ (qp q) (i:Int)) _) _=_/\_;rw[hM,o9];by_cases g1:(i:Int)∈t.1
   .rw[a6I Pg g1,o7];by_cases g2:i&&& q.1=q.2
    .rw[O8 (by rw[g2]),o7];have hiW:=((t2 _).1 g1).1;refine⟨(t.1.erase (i:Int),true),by rw[show TM _ (tm t.1,t.2,(i:Int)).1 (tm t.1,t.2,(i:Int)).2.2=_ from b2c Pg (i:Int) t.1],t1.erase _,λx=>?_,?_,λh=>by cases h⟩
     .rw[t1.mem_erase_iff,t2];constructor
      .rintro⟨a1,a2,a3⟩;refine⟨a2,λhx=>a3 ?_⟩;have:x≠(i:Int):=a1;omega
      .rintro⟨a1,a2⟩;refine⟨λe=>?_,a1,λhx=>a2 l7⟩;subst e;exact a2 l7 (by simpa using g2)
     .show(t.1.erase (i:Int)).length+1<=W.length;have e1:(t.1.erase (i:Int)).length=t.1.length -1:=by rw[List.length_erase,if_pos g1]
      have e2:0<t.1.length:=List.length_pos_of_mem g1;have:t.1.length<=W.length:=by revert t3;cases t.2<;>simp<;>omega
      omega
    .rw[O6 (λe=>g2 l7),o6];refine⟨t,rfl,t1,λx=>?_,t3,t4⟩;rw[t2];refine⟨λh=>⟨h.1,λhx=>?_⟩,λh=>⟨h.1,λhx=>h.2 l7⟩⟩;by_cases e:x=(i:Int)
     .subst e;simpa using g2
     .exact h.2 l7
   .rw[a0g Pg g1,o6];refine⟨t,rfl,t1,λx=>?_,t3,t4⟩;refine⟨λh=>⟨((t2 x).1 h).1,λhx=>?_⟩,λh=>(t2 x).2 ⟨h.1,λhx=>h.2 l7⟩⟩;by_cases e:x=(i:Int)
    .subst e;exact absurd h g1
    .exact((t2 x).1 h).2 l7)
  (λt h=>by unfold mnC;rw[show I7 (tm t.1,t.2,((List.range (2^n)).length:Int)).2.2 ((2^n:Nat):Int)=false from U5 (by rw[V4];exact lT _),o6])
 rw[V4]at h3;refine⟨t.1,t.2,h1,h2,λx=>?_,h4,h5⟩;rw[h3];exact⟨λh=>⟨h.1,h.2 (hr x h.1).2⟩,λh=>⟨h.1,λ_=>h.2⟩⟩
theorem b6q{a0:c5z}(ha:a0.length<=1000000):∃L:List Pt,uP a0 (n:Int)=some (L.map qp)/\L.length<=a0.length/\(∀q∈L,JF n q/\∀x,x<2^n->x&&& q.1=q.2->((x:Nat):Int)∈a0)/\
  ∀x:Nat,x<2^n->((x:Nat):Int)∈a0->∃q∈L,x&&& q.1=q.2:=by
 have hp0:=sS n;have hp:2^n<=256:=ed (n:=2) E9 hn;obtain⟨W,hA,hW,hWl,hWm⟩:=b6r hn ha;have hWr:∀x∈W,0<=x/\x<((2^n:Nat):Int):=λx hx=>((hWm x).1 hx).2;have hpre:a0q n (tm (W.map (ptF n))):=by
  refine⟨hn,?_,λe he=>⟨a4V e he,?_⟩⟩
  .rw[Jj];exact a3H _ hW λx _ y _ e=>a6l e
  .obtain⟨k,hk,rfl⟩:=I8.1 he;obtain⟨x,hx,rfl⟩:=I8.1 hk;obtain⟨b1,b2⟩:=hWr x hx;refine⟨x.toNat,l7,?_⟩;show(((2^n -1:Nat):Int),x)=(((2^n -1:Nat):Int),((x.toNat:Nat):Int));rw[N7 b1]
 have hB:∀x:Nat,x<2^n->(UO n (tm (W.map (ptF n))) x↔((x:Nat):Int)∈a0):=λx hx=>by
  unfold UO;rw[Jj];constructor
  .intro h;obtain⟨y,hy,e⟩:=I8.1 h;have:y=((x:Nat):Int):=(Prod.mk.inj e).2;subst this;exact((hWm _).1 hy).1
  .intro h;exact I8.2 ⟨(x:Int),(hWm _).2 ⟨h,l7,l7⟩,rfl⟩
 obtain⟨z0,hz0⟩:=b8V hpre;have hpost:∀z,RQ (tm (W.map (ptF n)),(n:Int)) z->UC n (UO n (tm (W.map (ptF n)))) z:=λz ⟨m,e,_,h⟩=>by have e:(n:Int)=(m:Int):=e;have:n=m:=l7;subst this;exact h
 obtain⟨R,hRn,hRm,hR⟩:=a7O hn (hpost z0 hz0);have hRl:R.length<=65536:=WI hRn λp hp' =>by obtain⟨q,hq,e⟩:=(hRm p).1 hp';exact⟨q,(qo hn hq.1.1).1,(qo hn hq.1.1).2,e⟩
 obtain⟨t,h1,h2,h3,h4,h5,h6,h7⟩:=wL R (λ(t:c5z×List Pt) (i:Int)=>(tm t.1,t.2.map qp,i)) (λt=>t.2.map qp) (λj t=>t.1.Nodup/\(∀x∈t.1,x∈W)/\t.2.length+t.1.length<=W.length/\(∀q∈t.2,qp q∈R)/\(∀x∈W,x∈t.1\/∃q∈t.2,x.toNat&&& q.1=q.2)/\∀q,qp q∈R.take j->∀x∈t.1,x.toNat&&& q.1≠q.2) (f:=mnB ((2^n:Nat):Int) R) (b:=(W,[])) l7
  ⟨hW,λx h=>h,A7,A7,λx h=> .inl h,A7⟩
  (λj p t hj ⟨t1,t2,t3,t4,t5,t6⟩=>by
   have hj' :=(X9.1 hj).1;obtain⟨q,hq,rfl⟩:=(hRm p).1 (vM hj);obtain⟨W',b,e,c1,c2,c3,c4⟩:=b6s hn hq.1.1 t1 (λx hx=>hWr x (t2 x hx));have htk:∀r,r∈R.take (j+1)↔r∈R.take j\/r=qp q:=λr=>by rw[jY,hj];simp
   have hnew:∀r,qp r∈R.take (j+1)->∀x∈W',x.toNat&&& r.1≠r.2:=λr hr x hx=>by
    obtain⟨d1,d2⟩:=(c2 x).1 hx;rcases(htk _).1 hr with hr|hr
    .exact t6 r hr x d1
    .rw[Fe hr];exact d2
   unfold mnB;rw[show I7 (tm t.1,t.2.map qp,(j:Int)).2.2 (x8 R)=true from aA (by show(j:Int)<(R.length:Int);omega),o7];rw[show U0 R (tm t.1,t.2.map qp,(j:Int)).2.2=_ from U4 R j,hj,o9,show dm R (aJ (tm t.1,t.2.map qp,(j:Int)).2.2)=some (qp q)from by unfold dm aJ;simpa using hj,o9];show ∃b',o5 (aS (mnC ((2^n:Nat):Int) (qp q)) (tm t.1,false,0)) _=_/\_;rw[e,o9,show G6 IntKind.i64 (tm t.1,t.2.map qp,(j:Int)).2.2 1=_ from nxI (i:=j) l7];cases b with
   |false=>have:=c4 rfl;subst this;exact⟨t,rfl,t1,t2,t3,t4,t5,hnew⟩|true=>
    have hl:t.2.length<=256:=by
     have:W.length<=256:=a9E (λx:Int=>x.toNat) hW (λx hx y hy e=>by have:=hWr x hx;have:=hWr y hy;omega) λx hx=>by have:=hWr x hx;omega
     omega
    rw[o7,show eY (tm t.1,t.2.map qp,(j:Int)).2.1 [qp q]=some (t.2.map qp++[qp q])from xu (by show(t.2.map qp).length+1<=1073741824;rw[J6];omega),o9];refine⟨(W',t.2++[q]),by rw[bC];rfl,c1,λx hx=>t2 x ((c2 x).1 hx).1,?_,λr hr=>?_,λx hx=>?_,hnew⟩
    .have:W'.length+1<=t.1.length:=c3;show(t.2++[q]).length+W'.length<=_;simp;omega
    .rcases E5.1 hr with hr|hr
     .exact t4 r hr
     .have:r=q:=by simpa using hr
      subst this;exact vM hj
    .rcases t5 x hx with h|⟨r,hr,hm⟩
     .by_cases hm:x.toNat&&& q.1=q.2
      .exact .inr ⟨q,A7,hm⟩
      .exact .inl ((c2 x).2 ⟨h,hm⟩)
     .exact .inr ⟨r,by simp[hr],hm⟩)
  (λt h=>by unfold mnB;rw[show I7 (tm t.1,t.2.map qp,(R.length:Int)).2.2 (x8 R)=false from U5 (by show x8 R<=(R.length:Int);simp[x8]),o6])
 rw[aG]at h7;have hcov:∀x∈W,∃q,qp q∈R/\x.toNat&&& q.1=q.2:=λx hx=>by
  obtain⟨b1,b2⟩:=hWr x hx;have hlt:x.toNat<2^n:=l7;have hb0:(x.toNat&&& (2^n -1))=x.toNat:=by rw[iY,nT hlt]
  have hin:zh n (UO n (tm (W.map (ptF n)))) (2^n -1,x.toNat):=⟨⟨by show 2^n -1<2^n;omega,hb0⟩,λy hy hm=>by have hm:y&&& (2^n -1)=x.toNat:=hm;rw[iY,nT hy]at hm;subst hm;refine(hB _ hlt).2 ?_;rw[N7 b1];exact((hWm x).1 hx).1⟩
  obtain⟨q,hq,hm⟩:=b0h hn (x:=x.toNat) _ (A8 _) hin hb0;exact⟨q,(hRm _).2 ⟨q,hq,rfl⟩,hm⟩
 have hnil:∀x,x∉t.1:=λx hx=>by obtain⟨q,hq,hm⟩:=hcov x (h3 x hx);exact h7 q hq x hx hm
 refine⟨t.2,?_,l7,λq hq=>?_,λx hx hx0=>?_⟩
 .rw[b6p,a7b ⟨n,l7⟩,o9,W_ hn,o9,hA,o9];refine ZF ⟨z0,hz0⟩ λz hz=>?_;rw[hR z (hpost z hz),o9,show aS (mnB ((2^n:Nat):Int) R) ((tm W,tm (W.map (ptF n))).1,[],0)=_ from h1,o9]
 .obtain⟨r,hr,e⟩:=(hRm _).1 (h5 q hq);rw[Fe e];exact⟨hr.1.1,λx hx hm=>(hB x hx).1 (hr.1.2 x hx hm)⟩
 .rcases h6 (x:Int) ((hWm _).2 ⟨hx0,l7,l7⟩)with h|⟨q,hq,hm⟩
  .exact absurd h (hnil _)
  .exact⟨q,hq,by simpa using hm⟩
end
end Go.GP
namespace Go.GP
open Gt
set_option maxRecDepth 100000
def apS(a3:c5z)(v:Nat):List Bool:=a3.map λb=>l9 (I7 b 0) true (v.testBit b.toNat)
def coS(a0 a1 a2 a3:c5z)(v:Nat):Int:=l9 (X6 0 (V_ a1 a2 (apS a3 v))) (l9 (I7 (V_ a1 a2 (apS a3 v)) (x8 a0)) ((U0 a0 (V_ a1 a2 (apS a3 v))).getD 0) (V_ a1 a2 (apS a3 v))) (V_ a1 a2 (apS a3 v))
theorem a8G:∀v:Fin 256,∀b:Fin 8,EX .i64 (v.val:Int) (b.val:Int)=some (jh .i64 (v.val:Int) (b.val:Int))/\D6 (ak .i64 (jh .i64 (v.val:Int) (b.val:Int)) 1) 1=v.val.testBit b.val:=by decide+kernel
theorem b5Y{v b:Nat}(hv:v<256)(hb:b<8):EX .i64 (v:Int) (b:Int)=some (jh .i64 (v:Int) (b:Int))/\D6 (ak .i64 (jh .i64 (v:Int) (b:Int)) 1) 1=v.testBit b:=a8G ⟨v,hv⟩ ⟨b,hb⟩
def coA(a3:c5z)(v:Int)(x:List Bool×Int):Option ((List Bool×Int)⊕List Bool):=
 l9 (I7 x.2 (x8 a3))
  (o5 (U0 a3 x.2) λ(x_3:Int)=>
   l9 (I7 x_3 0)
    (o5 (U0 x.1 x.2) λ(x_4:Bool)=>o5 (dm x.1 (aJ x.2)) λ(x_5:Bool)=>some (Sum.inl (dD x.1 (aJ x.2) true,G6 IntKind.i64 x.2 1)))
    (o5 (EX IntKind.i64 v x_3) λ(x_4:Int)=>o5 (U0 x.1 x.2) λ(x_5:Bool)=>o5 (dm x.1 (aJ x.2)) λ(x_6:Bool)=>
     some (Sum.inl (dD x.1 (aJ x.2) (D6 (ak IntKind.i64 x_4 1) 1),G6 IntKind.i64 x.2 1))))
  (some (Sum.inr x.1))
def coB(a0 a1 a2 a3 x:c5z)(x_2:c5z×List Bool×Int):Option ((c5z×List Bool×Int)⊕c5z):=
 l9 (I7 x_2.2.2 (x8 x))
  (o5 (aS (coA a3 x_2.2.2) (x_2.2.1,0)) λ(y:List Bool)=>
   o5 (wP a1 a2 y) λ(x:Int)=>
    l9 (X6 0 x)
     (l9 (I7 x (x8 a0))
      (o5 (U0 a0 x) λ(x:Int)=>o5 (U0 x_2.1 x_2.2.2) λ(x_3:Int)=>o5 (dm x_2.1 (aJ x_2.2.2)) λ(x_4:Int)=>
       some (Sum.inl (dD x_2.1 (aJ x_2.2.2) x,y,G6 IntKind.i64 x_2.2.2 1)))
      (o5 (U0 x_2.1 x_2.2.2) λ(x_3:Int)=>o5 (dm x_2.1 (aJ x_2.2.2)) λ(x_4:Int)=>
       some (Sum.inl (dD x_2.1 (aJ x_2.2.2) x,y,G6 IntKind.i64 x_2.2.2 1))))
     (o5 (U0 x_2.1 x_2.2.2) λ(x_3:Int)=>o5 (dm x_2.1 (aJ x_2.2.2)) λ(x_4:Int)=>
      some (Sum.inl (dD x_2.1 (aJ x_2.2.2) x,y,G6 IntKind.i64 x_2.2.2 1))))
  (some (Sum.inr x_2.1))
theorem b2C(a0 a1 a2 a3:c5z)(a4:Int):gQ a0 a1 a2 a3 a4=o5 (AQ IntKind.i64 1 a4) λ(x:Int)=>o5 (yu x 0) λ(x:c5z)=>o5 (yu (x8 a0) false) λ(x_1:List Bool)=>
  o5 (aS (coB a0 a1 a2 a3 x) (x,x_1,0)) λ(y:c5z)=>some y:=rfl
variable {i:Nat}
theorem Ej{α:Type}{l:List α} :dm l (aJ (i:Int))=l[i]?:=by unfold dm aJ;simp
theorem KE{α:Type}{l:List α}{x:α} :dD l (aJ (i:Int)) x=l.set i x:=by unfold dD aJ;simp
theorem b6f{a3:c5z}(hl:a3.length<=1000000)(hb:∀b∈a3,b<8){v:Nat}(hv:v<256){y:List Bool}(hy:y.length=a3.length):aS (coA a3 (v:Int)) (y,0)=some (apS a3 v):=by
 obtain⟨t,h1,h2,h3⟩:=wL a3 (λ(y:List Bool) (i:Int)=>(y,i)) (λy=>y) (λi t=>t.length=a3.length/\∀j,j<i->t[j]? =(apS a3 v)[j]?) (f:=coA a3 (v:Int)) (b:=y) hl ⟨hy,λj hj=>by omega⟩
  (λi b t hi ⟨t1,t2⟩=>by
   have hi' :=(X9.1 hi).1;have hap:(apS a3 v)[i]? =some (l9 (I7 b 0) true (v.testBit b.toNat)):=by unfold apS;rw[W9,hi];rfl
   have hti:t[i]? =some (t[i]'l7):=jk l7;have hset:∀z,(apS a3 v)[i]? =some z->(t.set i z).length=a3.length/\∀j,j<i+1->(t.set i z)[j]? =(apS a3 v)[j]?:=λz hz=>⟨by simpa using t1,λj hj=>by
    rw[J7];by_cases e:i=j
    .subst e;rw[if_pos rfl,if_pos l7,hz]
    .rw[if_neg e];exact t2 j l7⟩
   unfold coA;rw[show I7 (t,(i:Int)).2 (x8 a3)=true from aA (by show(i:Int)<(a3.length:Int);omega),o7];rw[show U0 a3 (t,(i:Int)).2=_ from U4 a3 i,hi,o9];rw[show G6 IntKind.i64 (t,(i:Int)).2 1=_ from nxI (i:=i) l7,show U0 (t,(i:Int)).1 (t,(i:Int)).2=_ from U4 t i,show dm (t,(i:Int)).1 (aJ (t,(i:Int)).2)=_ from Ej (l:=t) (i:=i),hti];by_cases g:b<0
   .rw[aA g,o7,o9,o9];rw[aA g,o7]at hap;exact⟨t.set i true,by rw[show dD (t,(i:Int)).1 (aJ (t,(i:Int)).2) true=_ from KE (l:=t) (i:=i)],hset _ hap⟩
   .obtain⟨c,rfl⟩:=wI (show 0<=b by omega);have hc:=hb _ (vM hi);obtain⟨b1,b2⟩:=b5Y hv (b:=c) l7;rw[U5 l7,o6,b1,o9,o9,o9,b2];rw[U5 l7,o6,H6]at hap;exact⟨t.set i (v.testBit c),by rw[show dD (t,(i:Int)).1 (aJ (t,(i:Int)).2) (v.testBit c)=_ from KE (l:=t) (i:=i)],hset _ hap⟩)
  (λt h=>by unfold coA;rw[show I7 (t,(a3.length:Int)).2 (x8 a3)=false from U5 (by show x8 a3<=(a3.length:Int);simp[x8]),o6])
 rw[h1];refine congrArg some (au λj=>?_);by_cases hj:j<a3.length
 .exact h3 j hj
 .rw[U8 l7,U8 (by unfold apS;rw[J6];omega)]
variable {n:Nat}
theorem b2D{a0 a1 a2 a3:c5z}(hn:n<=8)(h0:a3.length=a0.length)(hl:a0.length<=1000000)(hb:∀b∈a3,b<8):gQ a0 a1 a2 a3 (n:Int)=some ((List.range (2^n)).map (coS a0 a1 a2 a3)):=by
 have hp:2^n<=256:=ed (n:=2) E9 hn;rw[b2C,W_ hn,o9,show yu ((2^n:Nat):Int) (0:Int)=some (List.replicate (2^n) 0)from by unfold yu;rw[if_pos ⟨Int.natCast_nonneg _,Int.ofNat_le.2 (show 2^n<=1073741824 by omega)⟩,H6],o9,show yu (x8 a0) false=some (List.replicate a0.length false)from by unfold yu x8;rw[if_pos l7,H6],o9];have hL:(List.replicate (2^n) (0:Int)).length=2^n:=jP;obtain⟨t,h1,h2,h3,h4⟩:=wL (List.replicate (2^n) (0:Int)) (λ(t:c5z×List Bool) (i:Int)=>(t.1,t.2,i)) (λt=>t.1) (λi t=>t.1.length=2^n/\t.2.length=a3.length/\∀j,j<i->t.1[j]? =some (coS a0 a1 a2 a3 j)) (f:=coB a0 a1 a2 a3 (List.replicate (2^n) 0)) (b:=(List.replicate (2^n) 0,List.replicate a0.length false)) (by rw[hL];omega)
  ⟨hL,by rw[jP,h0],λj hj=>by omega⟩
  (λi b t hi ⟨t1,t2,t3⟩=>by
   have hi' :i<2^n:=by have:=(X9.1 hi).1;rwa[hL]at this
   have hti:t.1[i]? =some (t.1[i]'l7):=jk l7;have hset:(t.1.set i (coS a0 a1 a2 a3 i)).length=2^n/\(apS a3 i).length=a3.length/\∀j,j<i+1->(t.1.set i (coS a0 a1 a2 a3 i))[j]? =some (coS a0 a1 a2 a3 j):=⟨by simpa using t1,by unfold apS;simp,λj hj=>by
    rw[J7];by_cases e:i=j
    .subst e;rw[if_pos rfl,if_pos l7]
    .rw[if_neg e];exact t3 j l7⟩
   refine⟨(t.1.set i (coS a0 a1 a2 a3 i),apS a3 i),?_,hset⟩;unfold coB;rw[show I7 (t.1,t.2,(i:Int)).2.2 (x8 (List.replicate (2^n) (0:Int)))=true from aA (by show(i:Int)<((List.replicate (2^n) (0:Int)).length:Int);rw[hL];omega),o7];rw[show aS (coA a3 (t.1,t.2,(i:Int)).2.2) ((t.1,t.2,(i:Int)).2.1,0)=_ from b6f l7 hb (v:=i) l7 t2,o9,a8b,o9];rw[show G6 IntKind.i64 (t.1,t.2,(i:Int)).2.2 1=_ from nxI (i:=i) l7,show U0 (t.1,t.2,(i:Int)).1 (t.1,t.2,(i:Int)).2.2=_ from U4 t.1 i,show dm (t.1,t.2,(i:Int)).1 (aJ (t.1,t.2,(i:Int)).2.2)=_ from Ej (l:=t.1) (i:=i),hti];have hs:∀z,dD (t.1,t.2,(i:Int)).1 (aJ (t.1,t.2,(i:Int)).2.2) z=t.1.set i z:=λz=>KE (l:=t.1) (i:=i);unfold coS;by_cases g1:0<=V_ a1 a2 (apS a3 i)
   .rw[ay g1,o7,o7];by_cases g2:V_ a1 a2 (apS a3 i)<x8 a0
    .obtain⟨z,hz,_⟩:=vP g1 g2;rw[aA g2,o7,o7,hz,o9,o9,o9,hs];rfl
    .rw[U5 l7,o6,o6,o9,o9,hs]
   .rw[bW l7,o6,o6,o9,o9,hs])
  (λt h=>by unfold coB;rw[show I7 (t.1,t.2,((List.replicate (2^n) (0:Int)).length:Int)).2.2 (x8 (List.replicate (2^n) (0:Int)))=false from U5 (by show x8 _<=_;simp[x8]),o6])
 rw[show aS (coB a0 a1 a2 a3 (List.replicate (2^n) 0)) (List.replicate (2^n) 0,List.replicate a0.length false,0)=_ from h1,o9];rw[hL]at h4;refine congrArg some (au λj=>?_);by_cases hj:j<2^n
 .rw[h4 j hj,W9,iD hj];rfl
 .rw[U8 l7,U8 F8]
def rwA(a0:c5z)(x:Int)(x_3:c5z×Int):Option ((c5z×Int)⊕c5z):=
 l9 (I7 x_3.2 (x8 a0))
  (o5 (U0 a0 x_3.2) λ(x_4:Int)=>
   l9 (D6 x_4 x) (o5 (eY x_3.1 [x_3.2]) λ(x:c5z)=>some (Sum.inl (x,G6 IntKind.i64 x_3.2 1))) (some (Sum.inl (x_3.1,G6 IntKind.i64 x_3.2 1))))
  (some (Sum.inr x_3.1))
def rwB(x_3:List F9)(x:Int)(x_4:List L8×Int):Option ((List L8×Int)⊕List L8):=
 l9 (I7 x_4.2 (x8 x_3))
  (o5 (U0 x_3 x_4.2) λ(x_5:F9)=>o5 (dm x_3 (aJ x_4.2)) λ(x_6:F9)=>
   o5 (eY x_4.1 [(x_6,x)]) λ(x:List L8)=>some (Sum.inl (x,G6 IntKind.i64 x_4.2 1)))
  (some (Sum.inr x_4.1))
noncomputable def rwC (a0:c5z) (a2:Int) (x:c5z) (x_1:List L8×Int):Option ((List L8×Int)⊕List L8):=
 l9 (I7 x_1.2 (x8 x))
  (o5 (U0 x x_1.2) λ(x_2:Int)=>o5 (dm x (aJ x_1.2)) λ(x:Int)=>
   o5 (aS (rwA a0 x) ([],0)) λ(y:c5z)=>
    l9 (D6 (x8 y) 0) (some (Sum.inl (x_1.1,G6 IntKind.i64 x_1.2 1)))
     (o5 (uP y a2) λ(x_3:List F9)=>o5 (aS (rwB x_3 x) (x_1.1,0)) λ(y:List L8)=>some (Sum.inl (y,G6 IntKind.i64 x_1.2 1))))
  (some (Sum.inr x_1.1))
theorem b3I(a0 a1:c5z)(a2:Int):qO a0 a1 a2=o5 (eY [-2,-1] a1) λ(x:c5z)=>o5 (aS (rwC a0 a2 x) ([],0)) λ(y:List L8)=>some y:=rfl
variable {a0:c5z}
theorem b6S(hl:a0.length<=1000000)(o:Int):∃y,aS (rwA a0 o) ([],0)=some y/\y.length<=a0.length/\∀z,z∈y↔∃j:Nat,z=(j:Int)/\a0[j]? =some o:=by
 obtain⟨y,h1,h2,h3⟩:=wL a0 (λ(y:c5z) (i:Int)=>(y,i)) (λy=>y) (λi y=>y.length<=i/\∀z,z∈y↔∃j:Nat,j<i/\z=(j:Int)/\a0[j]? =some o) (f:=rwA a0 o) (b:=[]) hl ⟨A7,A7⟩
  (λi b y hi ⟨t1,t2⟩=>by
   have hi' :=(X9.1 hi).1;unfold rwA;rw[show I7 (y,(i:Int)).2 (x8 a0)=true from aA (by show(i:Int)<(a0.length:Int);omega),o7];rw[show U0 a0 (y,(i:Int)).2=_ from U4 a0 i,hi,o9,show G6 IntKind.i64 (y,(i:Int)).2 1=_ from nxI (i:=i) l7];by_cases g:b=o
   .rw[O8 g,o7,show eY (y,(i:Int)).1 [(y,(i:Int)).2]=some (y++[(i:Int)])from xu (by show y.length+1<=_;omega),o9];refine⟨y++[(i:Int)],rfl,by simp;omega,λz=>?_⟩;rw[E5,t2];constructor
    .rintro(⟨j,c1,c2⟩|hz)
     .exact⟨j,l7,c2⟩
     .exact⟨i,l7,by simpa using hz,by rw[hi,g]⟩
    .rintro⟨j,c1,c2,c3⟩;by_cases e:j=i
     .subst e;exact .inr (by simp[c2])
     .exact .inl ⟨j,l7,c2,c3⟩
   .rw[O6 g,o6];refine⟨y,rfl,l7,λz=>?_⟩;rw[t2];constructor
    .rintro⟨j,c1,c2⟩;exact⟨j,l7,c2⟩
    .rintro⟨j,c1,c2,c3⟩;by_cases e:j=i
     .subst e;rw[hi]at c3;exact absurd (aZ c3) g
     .exact⟨j,l7,c2,c3⟩)
  (λy h=>by unfold rwA;rw[show I7 (y,(a0.length:Int)).2 (x8 a0)=false from U5 (by show x8 a0<=(a0.length:Int);simp[x8]),o6])
 refine⟨y,h1,h2,λz=>?_⟩;rw[h3];exact⟨λ⟨j,_,h⟩=>⟨j,h⟩,λ⟨j,e,h⟩=>⟨j,(X9.1 h).1,e,h⟩⟩
theorem b6T{L:List (Int×Int)}(hl:L.length<=1000000)(o:Int)(acc:List L8)(ha:acc.length<=1000000):aS (rwB L o) (acc,0)=some (acc++L.map λp=>(p,o)):=by
 obtain⟨y,h1,h2⟩:=wL L (λ(y:List L8) (i:Int)=>(y,i)) (λy=>y) (λi y=>y=acc++(L.take i).map λp=>(p,o)) (f:=rwB L o) (b:=acc) hl A7
  (λi p y hi t1=>by
   have hi' :=(X9.1 hi).1;refine⟨y++[(p,o)],?_,?_⟩
   .have hy:y.length<=2000000:=by rw[t1,E8,J6,fU];omega
    unfold rwB;rw[show I7 (y,(i:Int)).2 (x8 L)=true from aA (by show(i:Int)<(L.length:Int);omega),o7];rw[show U0 L (y,(i:Int)).2=_ from U4 L i,hi,o9,show dm L (aJ (y,(i:Int)).2)=_ from Ej (l:=L) (i:=i),hi,o9,show eY (y,(i:Int)).1 [(p,o)]=some (y++[(p,o)])from xu (by show y.length+1<=_;omega),o9,show G6 IntKind.i64 (y,(i:Int)).2 1=_ from nxI (i:=i) l7]
   .rw[t1,jY,hi];simp)
  (λy h=>by unfold rwB;rw[show I7 (y,(L.length:Int)).2 (x8 L)=false from U5 (by show x8 L<=(L.length:Int);simp[x8]),o6])
 rw[h1,h2,aG]
def a8r(n:Nat)(a0:c5z)(r:L8):Prop:=∃q:Pt,r.1=qp q/\JF n q/\∀v,v<2^n->v&&& q.1=q.2->a0[v]? =some r.2
theorem b3J{a0 a1:c5z}(hn:n<=8)(h0:a0.length=2^n)(h1:a1.length<=1000):∃rs:List L8,qO a0 a1 (n:Int)=some rs/\rs.length<=(a1.length+2)*256/\
  (∀r∈rs,a8r n a0 r/\r.2∈[-2,-1]++a1)/\∀v o,a0[v]? =some o->o∈[-2,-1]++a1->∃r∈rs,r.2=o/\∃q:Pt,r.1=qp q/\v&&& q.1=q.2:=by
 have hp:2^n<=256:=ed (n:=2) E9 hn;rw[b3I,xu F8,o9];have hX:([-2,-1]++a1).length=a1.length+2:=A7;obtain⟨rs,g1,g2,g3,g4⟩:=wL ([-2,-1]++a1) (λ(t:List L8) (i:Int)=>(t,i)) (λt=>t) (λi t=>t.length<=i*256/\(∀r∈t,a8r n a0 r/\r.2∈[-2,-1]++a1)/\∀v o,a0[v]? =some o->o∈([-2,-1]++a1).take i->∃r∈t,r.2=o/\∃q:Pt,r.1=qp q/\v&&& q.1=q.2) (f:=rwC a0 (n:Int) ([-2,-1]++a1)) (b:=[]) l7
  ⟨A7,A7,A7⟩
  (λi o t hi ⟨t1,t2,t3⟩=>by
   have hi' :=(X9.1 hi).1;have htk:∀z,z∈([-2,-1]++a1).take (i+1)↔z∈([-2,-1]++a1).take i\/z=o:=λz=>by rw[jY,hi];simp
   obtain⟨y,e1,e2,e3⟩:=b6S (a0:=a0) l7 o;have hlt:∀v w,a0[v]? =some w->v<2^n:=λv w hv=>by have:=(X9.1 hv).1;omega
   unfold rwC;rw[show I7 (t,(i:Int)).2 (x8 ([-2,-1]++a1))=true from aA (by show(i:Int)<(([-2,-1]++a1).length:Int);omega),o7];rw[show U0 ([-2,-1]++a1) (t,(i:Int)).2=_ from U4 ([-2,-1]++a1) i,hi,o9,show dm ([-2,-1]++a1) (aJ (t,(i:Int)).2)=_ from Ej (l:=[-2,-1]++a1) (i:=i),hi,o9,e1,o9,show G6 IntKind.i64 (t,(i:Int)).2 1=_ from nxI (i:=i) l7];by_cases gy:y=[]
   .subst gy;refine⟨t,rfl,l7,t2,λv w hv hw=>?_⟩;rcases(htk w).1 hw with hw|rfl
    .exact t3 v w hv hw
    .exact absurd ((e3 _).2 ⟨v,rfl,hv⟩) A7
   .have hy:D6 (x8 y) 0=false:=O6 (λe=>gy (af.1 (by unfold x8 at e;omega)));obtain⟨L,m1,m2,m3,m4⟩:=b6q hn (a0:=y) l7;rw[hy,o6,m1,o9,show aS (rwB (L.map qp) o) ((t,(i:Int)).1,0)=some (t++(L.map qp).map λp=>(p,o))from b6T F8 o t l7,o9];refine⟨t++(L.map qp).map λp=>(p,o),rfl,by simp;omega,λr hr=>?_,λv w hv hw=>?_⟩
    .rcases E5.1 hr with hr|hr
     .exact t2 r hr
     .obtain⟨p,hp',rfl⟩:=I8.1 hr;obtain⟨q,hq,rfl⟩:=I8.1 hp';obtain⟨c1,c2⟩:=m3 q hq;refine⟨⟨q,rfl,c1,λv hv hm=>?_⟩,vM hi⟩;obtain⟨j,ej,hj⟩:=(e3 _).1 (c2 v hv hm);have:v=j:=l7;subst this;exact hj
    .rcases(htk w).1 hw with hw|rfl
     .obtain⟨r,hr,h⟩:=t3 v w hv hw;exact⟨r,E5.2 (.inl hr),h⟩
     .obtain⟨q,hq,hm⟩:=m4 v (hlt v _ hv) ((e3 _).2 ⟨v,rfl,hv⟩);exact⟨(qp q,w),E5.2 (.inr (I8.2 ⟨qp q,I8.2 ⟨q,hq,rfl⟩,rfl⟩)),rfl,q,rfl,hm⟩)
  (λt h=>by unfold rwC;generalize ([-2,-1]++a1)=X;rw[show I7 (t,(X.length:Int)).2 (x8 X)=false from U5 (by show x8 X<=(X.length:Int);exact lT _),o6])
 rw[aG]at g4;rw[hX]at g2;exact⟨rs,by rw[g1,o9],g2,g3,g4⟩
theorem a4E{a b:List (Int×Int)}(h:a.length<=1000000):iU a b=some (decide (a=b)):=by
 unfold iU;by_cases hl:a.length=b.length
 .rw[O8 (show x8 a=x8 b by unfold x8;omega),G8,o6];rw[QT a (λi x=>decide (b[i]? =some x)) false PUnit.unit _ l7 (λi x hi=>?_) ?_]
  .by_cases e:a=b
   .subst e;rw[if_pos (λi x hx=>by simpa using hx),o9,decide_eq_true rfl];rfl
   .rw[if_neg (λhh=>e (au λi=>?_)),o9,decide_eq_false e]
    .rfl
    .by_cases hi:i<a.length
     .have:=hh i a[i] (jk hi);rw[jk hi];exact(of_decide_eq_true this).symm
     .rw[U8 l7,U8 l7]
  .simp only[U5 (show x8 a<=((a.length:Nat):Int) by unfold x8;omega),o6]
  .have hi' :=(X9.1 hi).1;have hb:b[i]? =some (b[i]'l7):=jk l7;simp only[aA (show((i:Nat):Int)<x8 a by unfold x8;omega),o7,U4,hi,o9,hb];by_cases e:b[i]'l7=x
   .subst e;rw[if_pos A7,O8 rfl,O8 rfl];show some (Out.nx (G6 .i64 (i:Int) 1))=_;rw[nxI l7]
   .rw[if_neg (by simpa using e)];have:jy (D6 x.1 (b[i]'l7).1) (D6 x.2 (b[i]'l7).2)=false:=by
     cases hh:jy (D6 x.1 (b[i]'l7).1) (D6 x.2 (b[i]'l7).2)
     .rfl
     .exact absurd ((BM x (b[i]'l7)).1 hh).symm e
    rw[this];rfl
 .rw[O6 (show x8 a≠x8 b by unfold x8;omega),Y2,o7,decide_eq_false (λe=>hl (by rw[e]))]
theorem a3e{cs:List (List (Int×Int))}{g:List (Int×Int)}(h:cs.length<=1000000)(hc:∀c∈cs,c.length<=1000000):(gp cs g=some (-1)/\g∉cs)\/∃j:Nat,gp cs g=some (j:Int)/\cs[j]? =some g:=by
 unfold gp;rcases Bl (f:=λ(x:Int)=>l9 (I7 x (x8 cs)) (o5 (U0 cs x) λ(x_1:List F9)=>o5 (iU x_1 g) λ(x_2:Bool)=>l9 x_2 (some (Out.rt x)) (some (Out.nx (G6 IntKind.i64 x 1)))) (some (Out.ex PUnit.unit)))
  (s:=0) (λx=>∃i:Nat,x=(i:Int)/\i<=cs.length/\g∉cs.take i) (λ_=>g∉cs) (λr=>∃j:Nat,r=(j:Int)/\cs[j]? =some g) (λx=>cs.length -x.toNat) ⟨0,rfl,l7,A7⟩ F8 (by
   rintro x ⟨i,rfl,hi,hg⟩;by_cases hlt:i<cs.length
   .have e:=jk hlt;have hm:=Y0 hlt;simp only[aA (show(i:Int)<x8 cs by unfold x8;omega),o7,U4,e,o9];rw[a4E (hc _ hm),o9];by_cases he:cs[i]=g
    .rw[decide_eq_true he];exact .inr (.inr ⟨_,rfl,i,rfl,by rw[e,he]⟩)
    .rw[decide_eq_false he];refine .inl ⟨((i+1:Nat):Int),?_,⟨i+1,rfl,hlt,?_⟩,by simp;omega⟩
     .rw[o6,nxI l7]
     .rw[jY,e,E5];rintro(h1|h1)
      .exact hg h1
      .have h1:g=cs[i]:=by simpa using h1
       exact he h1.symm
   .have:i=cs.length:=l7;subst this;rw[aG]at hg;refine .inr (.inl ⟨PUnit.unit,?_,hg⟩);simp only[U5 (show x8 cs<=((cs.length:Nat):Int) by unfold x8;omega),o6])with⟨e,h1,h2⟩|⟨r,h1,j,rfl,h2⟩
 .left;exact⟨by rw[h1];rfl,h2⟩
 .right;exact⟨j,by rw[h1];rfl,h2⟩
def bdA(x_1:N8)(x:c5z)(x_3:G9×c5z×Int):Option ((G9×c5z×Int)⊕(G9×c5z)):=
 l9 (I7 x_3.2.2 (x8 x))
  (o5 (U0 x x_3.2.2) λ(x_4:Int)=>o5 (dm x (aJ x_3.2.2)) λ(x:Int)=>
   o5 (U0 x_3.2.1 x_3.2.2) λ(x_5:Int)=>o5 (dm x_3.2.1 (aJ x_3.2.2)) λ(x_6:Int)=>
    o5 (U0 x_1.2.2.2.2 x) λ(x_7:iV)=>
     l9 (D6 (x8 x_7.2.2.2.2.2.1) 0)
      (some (Sum.inl (x_3.1,dD x_3.2.1 (aJ x_3.2.2) (-1),G6 IntKind.i64 x_3.2.2 1)))
      (o5 (gp x_3.1.2.1 x_7.2.2.2.2.2.1) λ(x_8:Int)=>
       l9 (I7 x_8 0)
        (o5 (um x_7.2.2.2.2.2.1) λ(x_9:List F9)=>o5 (eY x_3.1.2.1 [x_9]) λ(x_10:List (List F9))=>o5 (eY x_3.1.2.2.1 [x]) λ(x:c5z)=>
         o5 (U0 (dD x_3.2.1 (aJ x_3.2.2) (-1)) x_3.2.2) λ(x_11:Int)=>o5 (dm (dD x_3.2.1 (aJ x_3.2.2) (-1)) (aJ x_3.2.2)) λ(x_12:Int)=>
          some (Sum.inl ((x_3.1.1,x_10,x,x_3.1.2.2.2),dD (dD x_3.2.1 (aJ x_3.2.2) (-1)) (aJ x_3.2.2) (x8 x_3.1.2.1),G6 IntKind.i64 x_3.2.2 1)))
        (o5 (U0 (dD x_3.2.1 (aJ x_3.2.2) (-1)) x_3.2.2) λ(x:Int)=>o5 (dm (dD x_3.2.1 (aJ x_3.2.2) (-1)) (aJ x_3.2.2)) λ(x:Int)=>
         some (Sum.inl (x_3.1,dD (dD x_3.2.1 (aJ x_3.2.2) (-1)) (aJ x_3.2.2) x_8,G6 IntKind.i64 x_3.2.2 1)))))
  (some (Sum.inr (x_3.1,x_3.2.1)))
theorem a8K(a0:gz)(a1 a2 a3:Int):zT a0 a1 a2 a3=o5 (sU a0) λ(x:uq)=>
 l9 (J8 (jy (D6 x.1 0) (jy (D6 x.2.1 0) (jy (D6 x.2.2.1 0) (D6 x.2.2.2 0))))) (some ((0,[],[],[]),1))
  (o5 (l9 (I7 a1 0) (some (Sum.inr ((0,[],[],[]),6))) (l9 (X6 (x8 a0.2.2) a1) (some (Sum.inr ((0,[],[],[]),6))) (some (Sum.inl (0,[],[],[]))))) λ(o:G9⊕G9×Int)=>
   dw o (λ(x:G9)=>o5 (U0 a0.2.2 a1) λ(x_1:N8)=>
     o5 (l9 (I7 a2 0) (some (Sum.inr ((0,[],[],[]),6))) (l9 (X6 (x8 x_1.2.2.2.1) a2) (some (Sum.inr ((0,[],[],[]),6))) (some (Sum.inl x)))) λ(o:G9⊕G9×Int)=>
      dw o (λ(x:G9)=>
        o5 (l9 (I7 a3 0) (some (Sum.inr ((0,[],[],[]),3))) (l9 (I7 109572 a3) (some (Sum.inr ((0,[],[],[]),3))) (some (Sum.inl x)))) λ(o:G9⊕G9×Int)=>
         dw o (λ(x:G9)=>o5 (uw x_1 a2 a3) λ(x:qU)=>o5 (yu (x8 x.1) 0) λ(x_2:c5z)=>
           o5 (aS (bdA x_1 x.1) ((a2,[],[],[]),x_2,0)) λ(y:G9×c5z)=>
            o5 (gQ x.1 x.2.1 x.2.2 y.2 (x8 y.1.2.1)) λ(x_3:c5z)=>
             o5 (qO x_3 x.1 (x8 y.1.2.1)) λ(x:List L8)=>some ((y.1.1,y.1.2.1,y.1.2.2.1,x),0))
          λ(r:G9×Int)=>some r)
       λ(r:G9×Int)=>some r)
    λ(r:G9×Int)=>some r):=rfl
structure CnOk (s:N8) (ru:c5z) (m:Nat) (cs:List (List (Int×Int))) (fr bs:c5z):Prop where
 lb:bs.length=ru.length
 lf:fr.length=cs.length
 lc:cs.length<=m
 cf:∀(j:Nat) g r,cs[j]? =some g->fr[j]? =some r->r∈ru/\∃q,U0 s.2.2.2.2 r=some q/\q.2.2.2.2.2.1=g/\g≠[]
 bt:∀(j:Nat) r q,j<m->ru[j]? =some r->U0 s.2.2.2.2 r=some q->∃b,bs[j]? =some b/\(q.2.2.2.2.2.1=[]->b=-1)/\(q.2.2.2.2.2.1≠[]->∃c:Nat,b=(c:Int)/\cs[c]? =some q.2.2.2.2.2.1)
variable {s:N8}
theorem b5X{ru:c5z}(hl:ru.length<=1000)(hr:∀r∈ru,∃q,U0 s.2.2.2.2 r=some q/\q.2.2.2.2.2.1.length<=1000000)(d:Int):
  ∃cs fr bs,aS (bdA s ru) ((d,[],[],[]),List.replicate ru.length 0,0)=some ((d,cs,fr,[]),bs)/\CnOk s ru ru.length cs fr bs:=by
 obtain⟨t,h1,h2⟩:=wL ru (λ(t:List (List (Int×Int))×c5z×c5z) (i:Int)=>(((d,t.1,t.2.1,[]),t.2.2,i):G9×c5z×Int)) (λt=>((d,t.1,t.2.1,[]),t.2.2)) (λi t=>CnOk s ru i t.1 t.2.1 t.2.2) (f:=bdA s ru) (b:=([],[],List.replicate ru.length 0)) l7
  ⟨jP,rfl,A8 _,λj g r hg=>by simp at hg,λj r q hj=>by omega⟩
  (λi r t hi ht=>by
   obtain⟨cs,fr,bs⟩:=t;have ht:CnOk s ru i cs fr bs:=ht;obtain⟨lb,lf,lc,cf,bt⟩:=ht;have hi' :=(X9.1 hi).1;have lb:bs.length=ru.length:=lb;have lf:fr.length=cs.length:=lf;have lc:cs.length<=i:=lc;obtain⟨q,hq,hql⟩:=hr r (vM hi);have hbi:bs[i]? =some (bs[i]'l7):=jk l7;have hcl:∀c∈cs,c.length<=1000000:=λc hc=>by obtain⟨j,hj,e⟩:=Y8 hc;obtain⟨hm,q',hq',e',-⟩:=cf j c (fr[j]'l7) (by rw[jk hj,e]) (jk l7);obtain⟨q2,hq2,hl2⟩:=hr _ hm;rw[hq']at hq2;cases hq2;rw[←e'];exact hl2
   have hset:∀z:Int,(bs.set i z).length=ru.length:=λz=>by simpa using lb
   have hget:∀(z:Int) (j:Nat),j<i+1->(bs.set i z)[j]? =if j=i then some z else bs[j]?:=λz j hj=>by
    rw[J7];by_cases e:i=j
    .subst e;rw[if_pos rfl,if_pos l7,if_pos rfl]
    .rw[if_neg e,if_neg (λh=>e h.symm)]
   have hss:∀y z:Int,(bs.set i y).set i z=bs.set i z:=λy z=>by simp
   unfold bdA;rw[show I7 (((d,cs,fr,[]),bs,(i:Int)):G9×c5z×Int).2.2 (x8 ru)=true from aA (by show(i:Int)<(ru.length:Int);omega),o7];rw[show U0 ru (((d,cs,fr,[]),bs,(i:Int)):G9×c5z×Int).2.2=_ from U4 ru i,hi,o9,show dm ru (aJ (((d,cs,fr,[]),bs,(i:Int)):G9×c5z×Int).2.2)=_ from Ej (l:=ru) (i:=i),hi,o9];rw[show U0 (((d,cs,fr,[]),bs,(i:Int)):G9×c5z×Int).2.1 (((d,cs,fr,[]),bs,(i:Int)):G9×c5z×Int).2.2=_ from U4 bs i,hbi,o9,show dm (((d,cs,fr,[]),bs,(i:Int)):G9×c5z×Int).2.1 (aJ (((d,cs,fr,[]),bs,(i:Int)):G9×c5z×Int).2.2)=_ from Ej (l:=bs) (i:=i),hbi,o9,hq,o9];rw[show G6 IntKind.i64 (((d,cs,fr,[]),bs,(i:Int)):G9×c5z×Int).2.2 1=_ from nxI (i:=i) l7];have hs1:∀z,dD (((d,cs,fr,[]),bs,(i:Int)):G9×c5z×Int).2.1 (aJ (((d,cs,fr,[]),bs,(i:Int)):G9×c5z×Int).2.2) z=bs.set i z:=λz=>KE (l:=bs) (i:=i);have hs2:∀z,dD (bs.set i (-1)) (aJ (((d,cs,fr,[]),bs,(i:Int)):G9×c5z×Int).2.2) z=bs.set i z:=λz=>(KE (l:=bs.set i (-1)) (i:=i)).trans (hss _ _);have hg1:(bs.set i (-1))[i]? =some (-1):=by rw[hget _ i l7,if_pos rfl]
   have hl1:U0 (bs.set i (-1)) (((d,cs,fr,[]),bs,(i:Int)):G9×c5z×Int).2.2=some (-1):=(U4 _ i).trans hg1;have hl2:dm (bs.set i (-1)) (aJ (((d,cs,fr,[]),bs,(i:Int)):G9×c5z×Int).2.2)=some (-1):=(Ej (i:=i)).trans hg1;have hbt:∀(z:Int) (cs' :List (List (Int×Int))),(∀c:Nat,∀g,cs[c]? =some g->cs'[c]? =some g)->(q.2.2.2.2.2.1=[]->z=-1)->(q.2.2.2.2.2.1≠[]->∃c:Nat,z=(c:Int)/\cs'[c]? =some q.2.2.2.2.2.1)->
     ∀(j:Nat) r q,j<i+1->ru[j]? =some r->U0 s.2.2.2.2 r=some q->∃b,(bs.set i z)[j]? =some b/\(q.2.2.2.2.2.1=[]->b=-1)/\(q.2.2.2.2.2.1≠[]->∃c:Nat,b=(c:Int)/\cs'[c]? =some q.2.2.2.2.2.1):=by
    intro z cs' hm z1 z2 j r' q' hj hr' hq';rw[hget z j hj];by_cases e:j=i
    .subst e;rw[hi]at hr';cases hr';rw[hq]at hq';cases hq';exact⟨z,if_pos rfl,z1,z2⟩
    .rw[if_neg e];obtain⟨b,b1,b2,b3⟩:=bt j r' q' l7 hr' hq';exact⟨b,b1,b2,λh=>by obtain⟨c,c1,c2⟩:=b3 h;exact⟨c,c1,hm c _ c2⟩⟩
   by_cases hg:q.2.2.2.2.2.1=[]
   .rw[O8 (show x8 q.2.2.2.2.2.1=0 by rw[hg];rfl),o7,hs1];exact⟨(cs,fr,bs.set i (-1)),rfl,hset _,lf,by show cs.length<=i+1;omega,cf,hbt _ cs (λ_ _ h=>h) (λ_=>rfl) λh=>absurd hg h⟩
   .rw[O6 (show x8 q.2.2.2.2.2.1≠0 from λe=>hg (af.1 (by unfold x8 at e;omega))),o6];rcases a3e (cs:=cs) (g:=q.2.2.2.2.2.1) l7 hcl with⟨e,hno⟩|⟨c,e,hc⟩
    .rw[show gp (((d,cs,fr,[]),bs,(i:Int)):G9×c5z×Int).1.2.1 q.2.2.2.2.2.1=_ from e,o9,aA l7,o7];rw[show um q.2.2.2.2.2.1=some q.2.2.2.2.2.1 from by unfold um;rw[xu F8];rfl,o9];rw[show eY (((d,cs,fr,[]),bs,(i:Int)):G9×c5z×Int).1.2.1 [q.2.2.2.2.2.1]=some (cs++[q.2.2.2.2.2.1])from xu (by show cs.length+1<=_;omega),o9];rw[show eY (((d,cs,fr,[]),bs,(i:Int)):G9×c5z×Int).1.2.2.1 [r]=some (fr++[r])from xu (by show fr.length+1<=_;omega),o9,hs1,hl1,o9,hl2,o9,hs2];refine⟨(cs++[q.2.2.2.2.2.1],fr++[r],bs.set i (cs.length:Int)),rfl,hset _,by simp[lf],by simp;omega,λj g r' hg' hr' =>?_,hbt _ _ (λc g hc=>?_) (λh=>absurd h hg) λ_=>⟨cs.length,rfl,A7⟩⟩
     .by_cases hj:j<cs.length
      .rw[O7 hj]at hg';rw[O7 l7]at hr';exact cf j g r' hg' hr'
      .have hj2:j<(cs++[q.2.2.2.2.2.1]).length:=(X9.1 hg').1;simp at hj2;have:j=cs.length:=l7;subst this;rw[F6 (A8 _)]at hg';rw[F6 l7]at hr';simp at hg';rw[lf]at hr';simp at hr';subst hg';subst hr';exact⟨vM hi,q,hq,rfl,hg⟩
     .rw[O7 (X9.1 hc).1];exact hc
    .rw[show gp (((d,cs,fr,[]),bs,(i:Int)):G9×c5z×Int).1.2.1 q.2.2.2.2.2.1=_ from e,o9,U5 l7,o6,hs1,hl1,o9,hl2,o9,hs2];exact⟨(cs,fr,bs.set i (c:Int)),rfl,hset _,lf,by show cs.length<=i+1;omega,cf,hbt _ cs (λ_ _ h=>h) (λh=>absurd h hg) λ_=>⟨c,rfl,hc⟩⟩)
  (λt h=>by unfold bdA;rw[show I7 (((d,t.1,t.2.1,[]),t.2.2,(ru.length:Int)):G9×c5z×Int).2.2 (x8 ru)=false from U5 (by show x8 ru<=(ru.length:Int);simp[x8]),o6])
 exact⟨t.1,t.2.1,t.2.2,h1,h2⟩
theorem a2i{sg:V8}{k:Nat}{r:iV}(h:Hl s sg k r=0):JU (s.2.2.2.2.take k) r.2.1<8/\∃d,Ku r sg d=0:=by
 unfold Hl at h;cases g1:nJ r.1<;>rw[g1]at h
 .exact absurd (show(2:Int)=0 from h) E9
 cases g2:(s.2.2.2.2.take k).any λx=>seq x.1 r.1<;>rw[g2]at h
 case true=>exact absurd (show(7:Int)=0 from h) E9
 simp only[o7,o6]at h;cases g3:U0 s.2.2.2.1 r.2.1 with
 |none=>rw[g3]at h;exact absurd (show(6:Int)=0 from h) E9|some d=>
  rw[g3]at h;simp only at h;obtain⟨g4,h⟩:=a0G h E9;cases g5:I7 r.2.2.2.1 0<;>rw[g5]at h
  case true=>exact absurd (show(3:Int)=0 from h) E9
  cases g6:I7 9 r.2.2.2.1<;>rw[g6]at h
  case true=>exact absurd (show(3:Int)=0 from h) E9
  cases g7:Kq r.2.2.2.2.1<;>rw[g7]at h
  .exact absurd (show(3:Int)=0 from h) E9
  cases g8:D6 r.2.2.2.2.1.1 r.2.2.2.2.1.2<;>rw[g8]at h
  case true=>exact absurd (show(3:Int)=0 from h) E9
  cases g9:X6 8 (JU (s.2.2.2.2.take k) r.2.1:Int)<;>rw[g9]at h
  case true=>exact absurd (show(4:Int)=0 from h) E9
  cases g10:a8f r.2.2.2.2.2.2.2<;>rw[g10]at h
  .exact absurd (show(2:Int)=0 from h) E9
  simp only[o7,o6]at h;have:=QQ.1 g9;exact⟨l7,_,h⟩
theorem a3x{r:iV}{sg:V8}{t:Int×Int}(h:Ku r sg t=0)(hne:r.2.2.2.2.2.1≠[]):EI r.2.2.2.2.2.1 sg (1,0)=0:=by
 unfold Ku at h;cases g:I7 0 (x8 r.2.2.2.2.2.1)<;>rw[g]at h
 .rw[rP]at g;have:r.2.2.2.2.2.1.length=0:=by unfold x8 at g;omega
  exact absurd (af.1 this) hne
 .rw[o7]at h;cases g2:D6 (EI r.2.2.2.2.2.1 sg (1,0)) 0<;>rw[g2]at h
  .exact absurd h (zZ.1 g2)
  .exact bM.1 g2
variable {l:gz}
theorem a9g{e:List (Int×Int)}{t:Int×Int}(hI:∀n∈e,kQ n.2)(h:EI e (wu l s) t=0):(zM e (nmS l s)).2=0:=by
 obtain⟨T,hs,hp,hw,hz⟩:=a8o hI h;have hff:ffS (nmS l s) e=0:=by
  rw[hp];have:∀L:List (Int×Int),(∀n∈L,flS n (nmS l s)=0)->ffS (nmS l s) L=0:=by
   intro L;induction L with
   |nil=>intro _;rfl
   |cons n L ih=>intro hL;show l9 (D6 (flS n (nmS l s)) 0) (ffS (nmS l s) L) (flS n (nmS l s))=0;rw[O8 (hL n A7),o7];exact ih λm hm=>hL m (by simp[hm])
  exact this _ hz
 unfold zM;rw[hs];simp only[hff];rfl
variable {d:Int}{t:Int}
theorem b3f(h:onR s d t i=true):∃r,s.2.2.2.2[i]? =some r/\r.2.1=d:=by
 unfold onR at h;cases hr:s.2.2.2.2[i]? with
 |none=>rw[hr]at h;cases h|some r=>
  rw[hr]at h;simp only at h;cases g:D6 r.2.1 d<;>rw[g]at h
  .cases h
  .exact⟨r,rfl,bM.1 g⟩
theorem b6R(hv:(qG l).1=0)(hs:l.2.2[i]? =some s)(d t:Int):(lY s d t).length<=8:=by
 have key:∀m,m<=s.2.2.2.2.length->(onL (onR s d t) m).length<=JU (s.2.2.2.2.take m) d/\JU (s.2.2.2.2.take m) d<=8:=by
  intro m;induction m with
  |zero=>intro _;exact⟨A8 _,by simp[JU]⟩|succ m ih=>
   intro hm;obtain⟨a,b⟩:=ih l7;have hr:=jk (show m<s.2.2.2.2.length by omega);have hc:JU (s.2.2.2.2.take (m+1)) d=JU (s.2.2.2.2.take m) d+(if D6 (s.2.2.2.2[m]'l7).2.1 d=true then 1 else 0):=by unfold JU;rw[jY,hr,List.countP_append];simp[List.countP_cons]
   have hcnt:=(a2i (OL hv hs hr)).1;rw[WA,hc];by_cases g:D6 (s.2.2.2.2[m]'l7).2.1 d=true
   .rw[bM.1 g]at hcnt;rw[if_pos g,E8];refine⟨?_,l7⟩;cases onR s d t m<;>simp<;>omega
   .rw[if_neg g];have:onR s d t m=false:=by
     cases ho:onR s d t m
     .rfl
     .obtain⟨r,h1,h2⟩:=b3f ho;rw[hr]at h1;cases h1;exact absurd (O8 h2) g
    rw[this];simpa using ⟨a,b⟩
 obtain⟨a,b⟩:=key _ (A8 _);unfold lY;omega
structure Blt (l:gz) (k d t:Int) (s:N8) (T:G9):Prop where
 v:(qG l).1=0
 sc:U0 l.2.2 k=some s
 fe:∃f,U0 s.2.2.2.1 d=some f
 de:T.1=d
 lc:T.2.1.length<=8
 lf:T.2.2.1.length=T.2.1.length
 cf:∀(j:Nat) g r,T.2.1[j]? =some g->T.2.2.1[j]? =some r->r∈castL (lY s d t)/\∃q,U0 s.2.2.2.2 r=some q/\q.2.2.2.2.2.1=g/\g≠[]
 lr:T.2.2.2.length<=2560
 wr:∀r∈T.2.2.2,(∃q:Pt,r.1=qp q/\JF T.2.1.length q)/\r.2∈[-2,-1]++castL (lY s d t)
variable {k:Int}
theorem a8L(hw:WfL l)(h1:smL l=true):∃T c,zT l k d t=some (T,c)/\(c=0->∃s,Blt l k d t s T):=by
 obtain⟨hS,-⟩:=Xi h1 hw;have hL:=a3J h1 hw;rw[a8K,Ls hS,o9];cases hv:D6 (qG l).1 0
 case false=>exact⟨_,_,rfl,λh=>by cases h⟩
 rw[b8M (bM.1 hv)];simp only[O8 (rfl:(0:Int)=0),jy,G8,o6,o7];rcases Mc l.2.2 k with h|⟨h1,h2,s,hs,hm⟩
 .rcases h with h|⟨h,h'⟩
  .rw[h];exact⟨_,_,rfl,λh=>by cases h⟩
  .rw[h,h'];exact⟨_,_,rfl,λh=>by cases h⟩
 rw[h1,h2,hs];simp only[o6,o9,Y4];rcases Mc s.2.2.2.1 d with h|⟨g1,g2,f,hf,hfm⟩
 .rcases h with h|⟨h,h'⟩
  .rw[h];exact⟨_,_,rfl,λh=>by cases h⟩
  .rw[h,h'];exact⟨_,_,rfl,λh=>by cases h⟩
 rw[g1,g2];simp only[o6,o9,Y4];cases e1:I7 t 0
 case true=>exact⟨_,_,rfl,λh=>by cases h⟩
 cases e2:I7 109572 t
 case true=>exact⟨_,_,rfl,λh=>by cases h⟩
 simp only[o6,o9,Y4];have hlen:=(hL.s s hm).2.2.1;have hk:=(fF hs).2.2.2;have h8:=b6R (bM.1 hv) hk d t;have hc8:(castL (lY s d t)).length=(lY s d t).length:=by unfold castL;simp
 have hex:∀r∈castL (lY s d t),∃q,U0 s.2.2.2.2 r=some q/\q.2.2.2.2.2.1.length<=1000000:=λr hr=>by unfold castL at hr;obtain⟨i,hi,rfl⟩:=I8.1 hr;have hlt:=(Rw hi).1;refine⟨s.2.2.2.2[i],by rw[U4];exact jk hlt,?_⟩;have:=((hS.sc s hm).ro _ (Y0 hlt)).2.1;omega
 rw[a8k l7,o9];show ∃T c,o5 (yu (x8 (castL (lY s d t))) 0) _=_/\_;rw[show yu (x8 (castL (lY s d t))) (0:Int)=some (List.replicate (castL (lY s d t)).length 0)from by unfold yu x8;rw[if_pos l7,H6],o9];obtain⟨cs,fr,bs,e3,hcn⟩:=b5X (s:=s) (ru:=castL (lY s d t)) l7 hex d;rw[show aS (bdA s (Hw s d t).1) ((d,[],[],[]),List.replicate (castL (lY s d t)).length 0,0)=_ from e3,o9];have hcl:cs.length<=8:=by have:=hcn.lc;omega
 have hb8:∀b∈bs,b<8:=λb hb=>by
  obtain⟨j,hj,e⟩:=Y8 hb;have hj2:j<(castL (lY s d t)).length:=by rw[←hcn.lb];exact hj
  obtain⟨q,hq,_⟩:=hex _ (Y0 hj2);obtain⟨b',b1,b2,b3⟩:=hcn.bt j _ q hj2 (jk hj2) hq;rw[jk hj,e]at b1;cases b1;by_cases hg:q.2.2.2.2.2.1=[]
  .have:=b2 hg;omega
  .obtain⟨c,rfl,hc⟩:=b3 hg;have:=(X9.1 hc).1;omega
 have e4:=b2D (a0:=castL (lY s d t)) (a1:=(Hw s d t).2.1) (a2:=(Hw s d t).2.2) (a3:=bs) hcl hcn.lb l7 hb8;rw[show gQ (Hw s d t).1 (Hw s d t).2.1 (Hw s d t).2.2 ((d,cs,fr,[]),bs).2 (x8 ((d,cs,fr,[]),bs).1.2.1)=_ from e4,o9];obtain⟨rs,e5,r1,r2,r3⟩:=b3J (a0:=(List.range (2^cs.length)).map (coS (castL (lY s d t)) (Hw s d t).2.1 (Hw s d t).2.2 bs)) (a1:=castL (lY s d t)) hcl A7 l7;rw[show qO ((List.range (2^cs.length)).map (coS (castL (lY s d t)) (Hw s d t).2.1 (Hw s d t).2.2 bs)) (Hw s d t).1 (x8 ((d,cs,fr,[]),bs).1.2.1)=_ from e5,o9];refine⟨(d,cs,fr,rs),0,rfl,λ_=>⟨s,bM.1 hv,hs,⟨f,hf⟩,rfl,hcl,hcn.lf,hcn.cf,by show rs.length<=2560;omega,λr hr=>⟨?_,(r2 r hr).2⟩⟩⟩;obtain⟨q,q1,q2,_⟩:=(r2 r hr).1;exact⟨q,q1,q2⟩
theorem b8J{q:Pt}(hn:n<=8)(h:JF n q):tvS (qp q) (n:Int)=true:=by obtain⟨l1,l2⟩:=qo hn h;have hp:((2:Int)^n)=((2^n:Nat):Int):=A7;unfold tvS;rw[Vk l7,H6,hp,ay (by show(0:Int)<=((q.1:Nat):Int);omega),o7,aA (Int.ofNat_lt.2 h.1),o7,ay (by show(0:Int)<=((q.2:Nat):Int);omega),o7];show D6 (ak .i64 (q.2:Int) (q.1:Int)) (q.2:Int)=true;rw[b5Q l2 l1,h.2];exact O8 rfl
theorem b2x{T:G9}(hw:WfL l)(h1:smL l=true)(h:Blt l k d t s T):WfT T/\SzT T/\((dfS zM l k T).2=0\/(dfS zM l k T).2=4):=by
 obtain⟨hS,-⟩:=Xi h1 hw;have hm:=(fF h.sc).2.2.1;have hk:=(fF h.sc).2.2.2;have hsm:=hS.sc s hm;have hru:∀r∈castL (lY s d t),ruB s r=true:=λr hr=>by unfold castL at hr;obtain⟨i,hi,rfl⟩:=I8.1 hr;have hlt:=(Rw hi).1;unfold ruB;rw[ay l7,o7];exact aA (by unfold x8;omega)
 have hI:∀{r:Int} {q:iV},U0 s.2.2.2.2 r=some q->∀n∈q.2.2.2.2.2.1,kQ n.2:=λ{r q} hq=>((hsm.ro q (fF hq).2.2.1).1).2.2.1;have hW:WfT T:=by
  refine⟨λe he n hn=>?_,λr hr=>?_⟩
  .obtain⟨j,hj,e1⟩:=Y8 he;obtain⟨-,q,hq,e2,-⟩:=h.cf j e (T.2.2.1[j]'(by rw[h.lf];exact hj)) (by rw[jk hj,e1]) (jk _);rw[←e2]at hn;exact hI hq n hn
  .obtain⟨⟨q,hq,hok⟩,-⟩:=h.wr r hr;rw[hq];have:=(qo h.lc hok).2;show kQ ((q.2:Nat):Int);unfold kQ;omega
 refine⟨hW,⟨by have:=h.lc;omega,by have:=h.lf;have:=h.lc;omega,by have:=h.lr;omega⟩,?_⟩;obtain⟨f,hf⟩:=h.fe;unfold dfS;rw[O8 h.v,o7,h.sc];simp only;rw[h.de,hf];simp only;have hcon:∀x∈T.2.1.zip T.2.2.1,ruB s x.2=true/\(zM x.1 (nmS l s)).2=0:=λx hx=>by obtain⟨j,hj,e⟩:=Y8 hx;obtain⟨z1,z2⟩:=LJ (show(T.2.1.zip T.2.2.1)[j]? =some x by rw[jk hj,e]);obtain⟨hr,q,hq,e2,hne⟩:=h.cf j _ _ z1 z2;refine⟨hru _ hr,?_⟩;obtain⟨p,hp⟩:=Ah (fF hq).2.2.1;obtain⟨-,dd,hd⟩:=a2i (OL h.v hk hp);have:=a9g (hI hq) (a3x hd (by rw[e2];exact hne));rwa[e2]at this
 have hrow:∀x∈T.2.2.2,Ja s (x8 T.2.1) x=0:=λx hx=>by
  obtain⟨⟨q,hq,hok⟩,ho⟩:=h.wr x hx;obtain⟨p,o⟩:=x;have hq:p=qp q:=hq;subst hq;unfold Ja;rw[show tvS (qp q,o).1 (x8 T.2.1)=true from b8J h.lc hok,o7];have:WC s o=true:=by
   unfold WC;rcases E5.1 ho with ho|ho
   .have ho:o=-2\/o=-1:=by simpa using ho
    rcases ho with rfl|rfl<;>rfl
   .rw[hru o ho];cases D6 o (-1)<;>cases D6 o (-2)<;>rfl
  rw[show WC s (qp q,o).2=true from this];rfl
 rw[a0O _ _ hcon];simp only;rw[a2f _ _ hrow];simp only;rw[U5 (show x8 T.2.1<=8 by have:=h.lc;unfold x8;omega),o6,O8 (show x8 T.2.2.1=x8 T.2.1 by unfold x8;rw[h.lf]),o7];cases I7 65536 _
 .left;rfl
 .right;rfl
theorem a0K(hw:WfL l):uB l k d t=some true:=by
 unfold uB;rw[a2n,o9];simp only[a2Q,o9];cases h1:smL l
 case false=>rfl
 obtain⟨T,c,e,hb⟩:=a8L (k:=k) (d:=d) (t:=t) hw h1;rw[G8,o6,e,o9];by_cases hc:c=0
 .subst hc;obtain⟨s,hB⟩:=hb rfl;obtain⟨hW,hz,hcode⟩:=b2x hw h1 hB;rw[O8 rfl,G8,o6,a9d hw h1 hW hz,o9];obtain⟨a,e2,g1,g2⟩:=b4f (k:=k) hw h1 hW hz;rw[a9d hw h1 hW hz]at g1;have g1:dfS zM l k T=(a,e2):=aZ g1;rw[g1]at hcode ⊢;rcases hcode with hcode|hcode
  .have hcode:e2=0:=hcode;subst hcode;rw[O6 (show(a,(0:Int)).2≠4 from by show(0:Int)≠4;omega),o6,g2 rfl,o9];have hs:=b0Z (t:=T) (by have:=hB.lc;omega) (λe he=>?_) (by have:=hB.lf;have:=hB.lc;omega) (by have:=hB.lr;omega)
   .simp only[O8 (rfl:(0:Int)=0),o7,hs,o9]
   .obtain⟨hS,-⟩:=Xi h1 hw;obtain⟨j,hj,e1⟩:=Y8 he;obtain⟨-,q,hq,e2,-⟩:=hB.cf j e (T.2.2.1[j]'(by rw[hB.lf];exact hj)) (by rw[jk hj,e1]) (jk _);rw[←e2];have:=((hS.sc s (fF hB.sc).2.2.1).ro q (fF hq).2.2.1).2.1;omega
  .have hcode:e2=4:=hcode;subst hcode;rw[O8 (show(a,(4:Int)).2=4 from rfl)];rfl
 .rw[O6 (show(T,c).2≠0 from hc)];rfl
end Go.GP
