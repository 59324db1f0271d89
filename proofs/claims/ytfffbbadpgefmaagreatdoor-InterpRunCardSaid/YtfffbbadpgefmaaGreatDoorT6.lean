import Derived.Test.YtfffbbadpgefmaaGreatDoorT5
set_option linter.all false
namespace Gt
open Go Go.GP
def il (y:Int):Bool:=if y % 4=0 then(if y % 100≠0 then true else decide (y % 400=0))else false
def ys (y:Int):Int:=(y -1900)*365+((y -1) / 4 -(y -1) / 100+(y -1) / 400) -460
def diy (y:Int):Int:=if il y then 366 else 365
theorem Bj (y:Int):ys (y+1)=ys y+diy y:=by
 unfold ys diy il
 by_cases h4:y % 4=0 <;> by_cases h100:y % 100=0 <;> by_cases h400:y % 400=0 <;> simp[h4,h100,h400] <;> omega
theorem Hl (a b:Int):a<b∨b≤a:=by omega
theorem KY (y:Int):365≤diy y∧diy y≤366:=by unfold diy;split <;> omega
theorem jZ {y y' :Int} (h:y≤y'):ys y≤ys y' :=by
 obtain⟨n,rfl⟩:∃n:Nat,y' =y+n:=⟨(y' -y).toNat,by omega⟩
 clear h
 induction n with
 | zero=>simp
 | succ n ih=>
  have:=Bj (y+n)
  have:=KY (y+n)
  have e:y+((n+1:Nat):Int)=y+n+1:=by omega
  rw[e];omega
theorem Ha {y:Int} (h:1900≤y):0≤ys y:=by
 have:=jZ h
 have e:ys 1900=0:=by decide+kernel
 omega
theorem a5v {y y' d:Int} (h1:ys y≤d) (h2:d<ys (y+1)) (h3:ys y' ≤d) (h4:d<ys (y' +1)):y=y' :=by
 rcases Int.lt_trichotomy y y' with h | h | h
 ·have:=jZ (y:=y+1) (y' :=y') (by omega);omega
 ·exact h
 ·have:=jZ (y:=y' +1) (y' :=y) (by omega);omega
def dim (y m:Int):Int:=
 if m=2 then(if il y then 29 else 28)else if m=4∨m=6∨m=9∨m=11 then 30 else 31
theorem vZ (y m:Int):28≤dim y m∧dim y m≤31:=by
 unfold dim;repeat' split
 all_goals omega
theorem EX {y:Int} (h:0≤y):Aj y=some (il y):=by
 unfold Aj il
 simp only[qW h]
 by_cases h4:y % 4=0
 ·rw[yh (F5 h4),if_pos h4]
  by_cases h100:y % 100=0
  ·simp[ieq,h100]
  ·simp[ieq,h100]
 ·rw[Dn (E5 h4),if_neg h4]
theorem EF {y:Int} (h:0≤y):yH y=some (il y):=EX h
theorem yf {y:Int} (h:0≤y):bV y=some (diy y):=by
 unfold bV diy
 rw[EF h,o7]
 cases il y <;> rfl
theorem m12 {m:Int} (h:1≤m∧m≤12):m=1∨m=2∨m=3∨m=4∨m=5∨m=6∨m=7∨m=8∨m=9∨m=10∨m=11∨m=12:=by omega
theorem kS {y m:Int} (h:0≤y) (hm:1≤m∧m≤12):bP y m=some (dim y m):=by
 unfold bP
 rcases m12 hm with rfl | rfl | rfl | rfl | rfl | rfl | rfl | rfl | rfl | rfl | rfl | rfl
 all_goals first | rfl | (rw[EX h];unfold dim;cases il y <;> rfl)
theorem jV {y m:Int} (h:0≤y) (hm:1≤m∧m≤12):Z7 y m=some (dim y m):=by
 unfold Z7
 rcases m12 hm with rfl | rfl | rfl | rfl | rfl | rfl | rfl | rfl | rfl | rfl | rfl | rfl
 all_goals first | rfl | (rw[EF h];unfold dim;cases il y <;> rfl)
theorem Ak {y:Int} (h:0≤y) (h2:y≤1000000):oK y=some (y / 4 -y / 100+y / 400):=by
 unfold oK
 simp only[X4,cO h]
 rw[fA (by unfold I64;omega),fA (by unfold I64;omega),fA (by unfold I64;omega),J4 (by unfold I64;omega),N7 (by unfold I64;omega)]
theorem uB {y:Int} (h:1≤y) (h2:y≤1000000):jd y=some (ys y):=by
 unfold jd
 have e1:G8 .i64 y 1900=y -1900:=J4 (by unfold I64;omega)
 have e2:N9 .i64 (y -1900) 365=(y -1900)*365:=eG (by unfold I64;omega)
 rw[J4 (a:=y) (b:=1) (by unfold I64;omega),Ak (by omega) (by omega),o7,Ak (by omega) (by omega),o7,e1,e2,N7 (by unfold I64;omega),J4 (by unfold I64;omega)]
 unfold ys
 congr 1
def mo (y:Int):Nat→Int→Int×Int
 | 0,d=>(d,13)
 | n+1,d=>if d<dim y (12 -n)then(d,12 -n)else mo y n (d -dim y (12 -n))
theorem a2c (y:Int) (n:Nat) (d:Int):mo y (n+1) d=if d<dim y (12 -(n:Int))then(d,12 -(n:Int))else mo y n (d -dim y (12 -(n:Int))):=rfl
def rem (y:Int):Nat→Int
 | 0=>0
 | n+1=>dim y (12 -n)+rem y n
theorem a7t (y:Int):rem y 12=diy y:=by
 unfold diy
 cases h:il y <;> simp[rem,dim,h]
theorem a6A (y:Int):∀(n:Nat) (d:Int),n≤12→0≤d→d<rem y n→1≤(mo y n d).2∧(mo y n d).2≤12∧0≤(mo y n d).1∧(mo y n d).1<dim y (mo y n d).2
 | 0,d,_,h0,h=>by simp[rem]at h;omega
 | n+1,d,hn,h0,h=>by
  unfold mo
  by_cases hd:d<dim y (12 -n)
  ·rw[if_pos hd];refine⟨?_,?_,h0,hd⟩ <;> simp <;> omega
  ·rw[if_neg hd]
   refine a6A y n _ (by omega) (by omega) ?_
   simp only[rem]at h;omega
def yOf (d:Int):Int:=((((List.range 300).find? (fun(k:Nat)=>decide (d<ys (1900+(k:Int)+1)))).getD 0:Nat):Int)+1900
theorem KG {d:Int} (h0:0≤d) (h:d≤109572):1900≤yOf d∧yOf d≤2199∧ys (yOf d)≤d∧d<ys (yOf d+1):=by
 unfold yOf
 cases hf:(List.range 300).find? (fun(k:Nat)=>decide (d<ys (1900+(k:Int)+1)))with
 | none=>
  have:=List.find?_eq_none.1 hf 299 (by simp)
  simp only[decide_eq_true_eq]at this
  have e:ys (1900+(299:Nat)+1)=109573:=by decide+kernel
  omega
 | some k=>
  have h1:=List.find?_some hf
  simp only[decide_eq_true_eq]at h1
  have h2:=List.mem_of_find?_eq_some hf
  simp only[List.mem_range]at h2
  simp only[Option.getD_some]
  refine⟨by omega,by omega,?_,?_⟩
  ·cases k with
   | zero=>
    have e:ys 1900=0:=by decide+kernel
    simp[e,h0]
   | succ j=>
    have h3:=List.find?_range_eq_some.1 hf
    have h4:=h3.2.2 j (by omega)
    simp only[Bool.not_eq_true',decide_eq_false_iff_not,Int.not_lt]at h4
    have e:(((j+1:Nat):Int)+1900)=1900+(j:Int)+1:=by omega
    rw[e];exact h4
  ·have e:(k:Int)+1900+1=1900+k+1:=by omega
   rw[e];exact h1
def ymd (d:Int):Int×Int×Int:=let y:=yOf d;let r:=mo y 12 (d -ys y);(y,r.2,r.1+1)
theorem wU {d:Int} (h0:0≤d) (h:d≤109572):oJ d=some (ymd d):=by
 obtain⟨y1,y2,y3,y4⟩:=KG h0 h
 have y0:=Ha y1
 unfold oJ oL
 rw[yh (H5 h0),o7,H5 h,o9,o5]
 have e0:x8 .i64 1900 (X4 .i64 d 366)=1900+d / 366:=by
  have e:X4 .i64 d 366=d / 366:=by rw[uK (by rw[cO h0];unfold I64;omega),cO h0]
  rw[e,N7 (by unfold I64;omega)]
 rw[e0]
 obtain⟨y,hy,hq⟩:=Z9 (f:=fun(x:Int)=>l9 (jd (x8 IntKind.i64 x 1)) fun(x_1:Int)=>l7 (ile x_1 d) (some (Sum.inl (x8 IntKind.i64 x 1))) (some (Sum.inr x))) (s:=1900+d / 366)
  (fun y=>1900≤y∧y≤yOf d) (fun y=>y=yOf d) (fun y=>(2200 -y).toNat) (by
   refine⟨by omega,?_⟩
   have e:∀n:Nat,ys (1900+n)≤366*n:=by
    intro n
    induction n with
    | zero=>decide+kernel
    | succ n ih=>
     have:=Bj (1900+n)
     have:=KY (1900+n)
     have e:(1900:Int)+((n+1:Nat):Int)=1900+n+1:=by omega
     rw[e];omega
   have e1:=e (d / 366).toNat
   have e2:((d / 366).toNat:Int)=d / 366:=by omega
   rw[e2]at e1
   rcases Hl (yOf d) (1900+d / 366)with hlt | hge
   ·have:=jZ (y:=yOf d+1) (y' :=1900+d / 366) (by omega)
    omega
   ·exact hge) (by omega) (by
   intro y ⟨hy1,hy2⟩
   try simp only
   rw[N7 (by unfold I64;omega),uB (by omega) (by omega),o7]
   by_cases hle:ys (y+1)≤d
   ·refine .inl ⟨y+1,by rw[yh (H5 hle)],⟨by omega,?_⟩,by omega⟩
    rcases Hl (yOf d) (y+1)with hlt | hge
    ·have:=jZ (y:=yOf d+1) (y' :=y+1) (by omega)
     omega
    ·exact hge
   ·refine .inr ⟨y,by rw[Dn (H7 (by omega))],?_⟩
    rcases Hl y (yOf d)with hlt | hge
    ·have:=jZ (y:=y+1) (y' :=yOf d) (by omega)
     omega
    ·omega)
 rw[hy,o7,hq,uB (by omega) (by omega),o7,J4 (by unfold I64;omega)]
 have hs:=Bj (yOf d)
 have hr:=a7t (yOf d)
 rcases mg (f:=fun(x:Int×Int)=>l7 (ilt x.2 12) (l9 (bP (yOf d) (x8 IntKind.i64 x.2 1)) fun(x_1:Int)=>l7 (ilt x.1 x_1) (some (Out.rt (yOf d,x8 IntKind.i64 x.2 1,x8 IntKind.i64 x.1 1))) (some (Out.nx (G8 IntKind.i64 x.1 x_1,x8 IntKind.i64 x.2 1)))) (some (Out.ex PUnit.unit))) (s:=(d -ys (yOf d),0))
  (fun s=>∃n:Nat,n≤12∧s.2=12 -n∧mo (yOf d) n s.1=mo (yOf d) 12 (d -ys (yOf d))∧0≤s.1∧s.1<rem (yOf d) n∧s.1≤400) (fun _=>False) (fun r=>r=ymd d) (fun s=>(12 -s.2).toNat)
  ⟨12,by omega,by simp,rfl,by omega,by rw[hr];show d -ys (yOf d)<_;omega,by have:=KY (yOf d);show d -ys (yOf d)≤400;omega⟩ (by simp) (by
   rintro⟨r,i⟩ ⟨n,hn,hi,hm,hr0,hrn,hr4⟩
   simp only at hi hm hr0 hrn hr4 ⊢
   cases n with
   | zero=>simp[rem]at hrn;omega
   | succ n=>
    have ei:i+1=12 -n:=by omega
    rw[yh (F7 (by omega)),N7 (by unfold I64;omega),ei,kS (by omega) (by omega),o7]
    have hb:=vZ (yOf d) (12 -n)
    rw[a2c (yOf d) n r]at hm
    by_cases hlt:r<dim (yOf d) (12 -n)
    ·rw[if_pos hlt]at hm
     refine .inr (.inr ⟨_,by rw[yh (F7 hlt)],?_⟩)
     rw[N7 (by unfold I64;omega)]
     unfold ymd
     try simp only
     rw[←hm]
    ·rw[if_neg hlt]at hm
     refine .inl ⟨_,by rw[Dn (E9 (by omega)),J4 (by unfold I64;omega)],⟨n,by omega,by simp,hm,?_,?_,?_⟩,?_⟩
     ·simp;omega
     ·simp only[rem]at hrn ⊢;omega
     ·simp;omega
     ·simp;omega)with⟨_,_,hf⟩ | ⟨r,he,hr⟩
 ·exact hf.elim
 ·rw[he,o7,H8,hr]
theorem FO {d:Int} (h0:0≤d) (h:d≤109572):ug d=some (ymd d):=by
 obtain⟨y1,y2,y3,y4⟩:=KG h0 h
 have y0:=Ha y1
 unfold ug lM
 rw[yh (H5 h0),o7,H5 h,o9,o5]
 obtain⟨⟨r,y⟩,hy,hq⟩:=Z9 (f:=fun(x:Int×Int)=>l9 (bV x.2) fun(x_1:Int)=>l7 (ile x_1 x.1) (l9 (bV x.2) fun(x_2:Int)=>some (Sum.inl (G8 IntKind.i64 x.1 x_2,x8 IntKind.i64 x.2 1))) (some (Sum.inr x))) (s:=(d,1900))
  (fun s=>1900≤s.2∧s.2≤yOf d∧s.1=d -ys s.2) (fun s=>s=(d -ys (yOf d),yOf d)) (fun s=>(2200 -s.2).toNat)
  ⟨by simp,by simpa using y1,by(have e:ys 1900=0:=by decide+kernel);simp[e]⟩ (by simp) (by
   rintro⟨r,y⟩ ⟨h1,h2,h3⟩
   simp only at h1 h2 h3 ⊢
   have hb:=KY y
   have hs:=Bj y
   have hm:=jZ h2
   have hpos:0≤ys y:=by
     have:=jZ (y:=1900) (y' :=y) h1;have e:ys 1900=0:=by decide+kernel
     omega
   rw[yf (by omega),o7]
   by_cases hle:diy y≤r
   ·refine .inl ⟨(r -diy y,y+1),?_,⟨by simp;omega,?_,?_⟩,?_⟩
    ·rw[yh (H5 hle),o7,J4 (by unfold I64;omega),N7 (by unfold I64;omega)]
    ·simp only
     rcases Hl (yOf d) (y+1)with hlt | hge
     ·have:=jZ (y:=yOf d+1) (y' :=y+1) (by omega)
      omega
     ·exact hge
    ·simp only;omega
    ·simp;omega
   ·refine .inr ⟨_,by rw[Dn (H7 (by omega))],?_⟩
    have e:y=yOf d:=a5v (d:=d) (by omega) (by omega) y3 y4
    subst e
    rw[h3])
 rw[hy,o7,hq]
 try simp only
 have hs:=Bj (yOf d)
 have hr:=a7t (yOf d)
 obtain⟨⟨r,m⟩,he,hq2⟩:=Z9 (f:=fun(x:Int×Int)=>l9 (Z7 (yOf d) x.2) fun(x_1:Int)=>l7 (ile x_1 x.1) (l9 (Z7 (yOf d) x.2) fun(x_2:Int)=>some (Sum.inl (G8 IntKind.i64 x.1 x_2,x8 IntKind.i64 x.2 1))) (some (Sum.inr x))) (s:=(d -ys (yOf d),1))
  (fun s=>∃n:Nat,n≤12∧s.2=13 -n∧mo (yOf d) n s.1=mo (yOf d) 12 (d -ys (yOf d))∧0≤s.1∧s.1<rem (yOf d) n∧s.1≤400) (fun s=>s=mo (yOf d) 12 (d -ys (yOf d))) (fun s=>(13 -s.2).toNat)
  ⟨12,by omega,by simp,rfl,by omega,by rw[hr];show d -ys (yOf d)<_;omega,by have:=KY (yOf d);show d -ys (yOf d)≤400;omega⟩ (by simp) (by
   rintro⟨r,i⟩ ⟨n,hn,hi,hm,hr0,hrn,hr4⟩
   simp only at hi hm hr0 hrn hr4 ⊢
   cases n with
   | zero=>simp[rem]at hrn;omega
   | succ n=>
    have ei:i=12 -n:=by omega
    subst ei
    rw[jV (by omega) (by omega),o7]
    have hb:=vZ (yOf d) (12 -n)
    rw[a2c (yOf d) n r]at hm
    by_cases hlt:r<dim (yOf d) (12 -n)
    ·rw[if_pos hlt]at hm
     exact .inr ⟨_,by rw[Dn (H7 (by omega))],hm⟩
    ·rw[if_neg hlt]at hm
     refine .inl ⟨(r -dim (yOf d) (12 -n),12 -n+1),by rw[yh (H5 (by omega)),o7,J4 (by unfold I64;omega),N7 (by unfold I64;omega)],⟨n,by omega,by simp;omega,hm,?_,?_,?_⟩,?_⟩
     ·simp;omega
     ·simp only[rem]at hrn ⊢;omega
     ·simp;omega
     ·simp;omega)
 rw[he,o7,hq2]
 have hb:=a6A (yOf d) 12 (d -ys (yOf d)) (by omega) (by omega) (by rw[hr];omega)
 have hb2:=vZ (yOf d) (mo (yOf d) 12 (d -ys (yOf d))).2
 rw[N7 (by unfold I64;omega)]
 rfl
theorem Gs {d:Int} (h0:0≤d) (h:d≤109572):1900≤(ymd d).1∧(ymd d).1≤2199∧1≤(ymd d).2.1∧(ymd d).2.1≤12∧1≤(ymd d).2.2∧(ymd d).2.2≤31:=by
 obtain⟨y1,y2,y3,y4⟩:=KG h0 h
 have y0:=Ha y1
 have hs:=Bj (yOf d)
 have hb:=a6A (yOf d) 12 (d -ys (yOf d)) (by omega) (by omega) (by rw[a7t];omega)
 have hb2:=vZ (yOf d) (mo (yOf d) 12 (d -ys (yOf d))).2
 unfold ymd
 try simp only
 omega
end Gt
namespace Go.GP
open Gt
set_option maxRecDepth 100000
def mD (y:Int):Nat→Int
 | 0=>0
 | k+1=>mD y k+dim y ((k:Int)+1)
def Xk (y m d:Int):Int:=ys y+mD y (m -1).toNat+d -1
theorem JL (y:Int):∀k:Nat,k≤12→28*k≤mD y k∧mD y k≤31*k
 | 0,_=>by simp[mD]
 | k+1,h=>by
  have:=JL y k (by omega)
  have:=vZ y ((k:Int)+1)
  unfold mD;omega
theorem a4o (y:Int):mD y 12=diy y:=by
 unfold mD mD mD mD mD mD mD mD mD mD mD mD mD dim diy
 simp
 cases il y <;> simp
theorem a2d (y:Int):∀j k:Nat,j≤k→mD y j≤mD y k
 | j,0,h=>by
   have:j=0:=by omega
   subst this;omega
 | j,k+1,h=>by
  by_cases hq:j=k+1
  ·subst hq;omega
  ·have:=a2d y j k (by omega)
   have:=vZ y ((k:Int)+1)
   show mD y j≤mD y k+dim y ((k:Int)+1)
   omega
theorem b0A {y m d:Int} (hm:1≤m∧m≤12) (h1:1≤d) (h2:d≤dim y m):ys y≤Xk y m d∧Xk y m d<ys (y+1):=by
 have h3:=a2d y ((m -1).toNat+1) 12 (by omega)
 rw[a4o]at h3
 have h4:mD y ((m -1).toNat+1)=mD y (m -1).toNat+dim y m:=by
  show mD y (m -1).toNat+dim y (((m -1).toNat:Int)+1)=_
  rw[Int.toNat_of_nonneg (by omega)]
  congr 2;omega
 have h5:=JL y (m -1).toNat (by omega)
 have h6:=Bj y
 unfold Xk
 omega
theorem a9T {y:Int} (h:1900≤y) (h2:y≤2200):0≤ys y∧ys y≤109573:=by
 have h1:=Ha h
 have h3:=jZ h2
 have:ys 2200=109573:=by decide
 omega
theorem ZF {y m d:Int} (hy:1900≤y∧y≤2199) (hm:1≤m∧m≤12) (h1:1≤d) (h2:d≤dim y m):yl y m d=some (Xk y m d,0):=by
 have hyb:=a9T hy.1 (by omega)
 have hdb:=vZ y m
 unfold yl
 rw[E9 hy.1,o5,E9 hy.2,o5,E9 hm.1,o5,E9 hm.2,o5,E9 h1,o5,kS (by omega) hm,o7,E9 h2,o5,o7,C9,uB (by omega) (by omega),o7]
 have hs:G8 .i64 m 1=m -1:=J4 (by unfold I64;omega)
 obtain⟨e,k1,k2⟩:=Z9 (f:=fun(x:Int×Int)=>l7 (ilt x.2 (G8 .i64 m 1)) (l9 (bP y (x8 .i64 x.2 1)) fun(x_1:Int)=>some (.inl (x8 .i64 x.1 x_1,x8 .i64 x.2 1))) (some (.inr x.1)))
  (s:=(ys y,0)) (fun x=>∃i:Nat,x=(ys y+mD y i,(i:Int))∧(i:Int)≤m -1) (fun e=>e=ys y+mD y (m -1).toNat) (fun x=>(m -1 -x.2).toNat) ⟨0,by simp[mD],by omega⟩ (by simp;omega) (by
  rintro x ⟨i,rfl,hi⟩
  simp only[hs]
  by_cases hlt:(i:Int)<m -1
  ·have hb:=JL y i (by omega)
   have hd:=vZ y ((i:Int)+1)
   left
   refine⟨(ys y+mD y (i+1),((i+1:Nat):Int)),?_,⟨i+1,rfl,by omega⟩,by simp;omega⟩
   rw[F7 hlt,o6,O5 (by omega),show(((i+1:Nat):Int))=(i:Int)+1 by omega,kS (by omega) (by omega),o7,N7 (by unfold I64;omega)]
   simp only[mD]
   rw[Int.add_assoc]
  ·right
   have:i=(m -1).toNat:=by omega
   subst this
   exact⟨_,by rw[E9 (by omega)];rfl,rfl⟩)
 refine(dH k1 _).trans ?_
 have hb:=JL y (m -1).toNat (by omega)
 rw[k2,N7 (by unfold I64;omega),J4 (by unfold I64;omega)];rfl
theorem Ym {y m d:Int} (hy:1900≤y∧y≤2199) (hm:1≤m∧m≤12) (h1:1≤d) (h2:d≤dim y m):nO y m d=some (Xk y m d,0):=by
 have hyb:=a9T hy.1 (by omega)
 have hdb:=vZ y m
 unfold nO
 rw[E9 hy.1,o5,E9 hy.2,o5,E9 h1,o5,jV (by omega) hm,o7,E9 h2,o5,o7,C9,J4 (by unfold I64;omega)]
 obtain⟨e,k1,k2⟩:=Z9 (f:=fun(x:Int×Int)=>l7 (ilt x.2 y) (l9 (bV x.2) fun(x_1:Int)=>some (.inl (x8 .i64 x.1 x_1,x8 .i64 x.2 1))) (some (.inr x.1)))
  (s:=(d -1,1900)) (fun x=>∃i:Int,x=(d -1+ys i,i)∧1900≤i∧i≤y) (fun e=>e=d -1+ys y) (fun x=>(y -x.2).toNat) ⟨1900,by simp[show ys 1900=0 by decide],by omega,by omega⟩ (by simp;omega) (by
  rintro x ⟨i,rfl,hi,hi2⟩
  by_cases hlt:i<y
  ·left
   have hb:=a9T hi (by omega)
   have hd:=KY i
   refine⟨(d -1+ys (i+1),i+1),?_,⟨i+1,rfl,by omega,by omega⟩,by simp;omega⟩
   simp only
   rw[F7 hlt,o6,yf (by omega),o7,N7 (by unfold I64;omega),N7 (by unfold I64;omega),Bj,Int.add_assoc]
  ·right
   have:i=y:=by omega
   subst this
   exact⟨_,by simp only[E9 (show i≤i by omega)];rfl,rfl⟩)
 refine(dH k1 _).trans ?_
 subst k2
 obtain⟨e,k1,k2⟩:=Z9 (f:=fun(x:Int×Int)=>l7 (ilt x.2 m) (l9 (Z7 y x.2) fun(x_1:Int)=>some (.inl (x8 .i64 x.1 x_1,x8 .i64 x.2 1))) (some (.inr x.1)))
  (s:=(d -1+ys y,1)) (fun x=>∃i:Nat,x=(d -1+ys y+mD y i,(i:Int)+1)∧(i:Int)≤m -1) (fun e=>e=d -1+ys y+mD y (m -1).toNat) (fun x=>(m -x.2).toNat) ⟨0,by simp[mD],by omega⟩ (by simp;omega) (by
  rintro x ⟨i,rfl,hi⟩
  by_cases hlt:(i:Int)+1<m
  ·have hb:=JL y i (by omega)
   have hd:=vZ y ((i:Int)+1)
   left
   refine⟨(d -1+ys y+mD y (i+1),((i+1:Nat):Int)+1),?_,⟨i+1,rfl,by omega⟩,by simp;omega⟩
   simp only
   rw[F7 hlt,o6,jV (by omega) (by omega),o7,N7 (by unfold I64;omega),N7 (by unfold I64;omega)]
   simp only[mD]
   rw[Int.add_assoc (d -1+ys y)];simp
  ·right
   have:i=(m -1).toNat:=by omega
   subst this
   exact⟨_,by simp only[E9 (show m≤((m -1).toNat:Int)+1 by omega)];rfl,rfl⟩)
 refine(dH k1 _).trans ?_
 rw[k2];unfold Xk
 rw[show d -1+ys y+mD y (m -1).toNat=ys y+mD y (m -1).toNat+d -1 by omega]
def a3J (d n:Int):Int×Int:=
 if ¬(0≤d∧d≤109572)∨n< -3600∨3600<n then(0,3)else
  if((ymd d).1 -1900)*12+(ymd d).2.1 -1+n<0∨3599<((ymd d).1 -1900)*12+(ymd d).2.1 -1+n then(0,3)else
   (Xk (1900+(((ymd d).1 -1900)*12+(ymd d).2.1 -1+n) / 12) ((((ymd d).1 -1900)*12+(ymd d).2.1 -1+n) % 12+1) (jf (ymd d).2.2 (dim (1900+(((ymd d).1 -1900)*12+(ymd d).2.1 -1+n) / 12) ((((ymd d).1 -1900)*12+(ymd d).2.1 -1+n) % 12+1))),0)
theorem GH (a b:Int):jf a b=if b<a then b else a:=rfl
theorem Jh (d n:Int):kW d n=some (a3J d n):=by
 unfold kW oL a3J
 by_cases h0:0≤d∧d≤109572
 case neg=>
  rw[if_pos (.inl h0)]
  by_cases h1:0≤d
  ·rw[H5 h1,H7 (by omega)];rfl
  ·rw[H7 (by omega)];rfl
 rw[H5 h0.1,H5 h0.2,o6,o7,o9,o5]
 by_cases h1:n< -3600
 ·rw[F7 h1,if_pos (.inr (.inl h1))];rfl
 by_cases h2:3600<n
 ·rw[E9 (by omega),F7 h2,if_pos (.inr (.inr h2))];rfl
 rw[E9 (by omega),E9 (by omega),if_neg (by omega),o5,o5,o7,C9,wU h0.1 h0.2,o7]
 obtain⟨b1,b2,b3,b4,b5,b6⟩:=Gs h0.1 h0.2
 generalize ymd d=q at*
 obtain⟨y,m,dd⟩:=q
 simp only at b1 b2 b3 b4 b5 b6 ⊢
 have e1:G8 .i64 y 1900=y -1900:=J4 (by unfold I64;omega)
 have e2:N9 .i64 (y -1900) 12=(y -1900)*12:=eG (by unfold I64;omega)
 have e3:x8 .i64 ((y -1900)*12) m=(y -1900)*12+m:=N7 (by unfold I64;omega)
 have e4:G8 .i64 ((y -1900)*12+m) 1=(y -1900)*12+m -1:=J4 (by unfold I64;omega)
 have e5:x8 .i64 ((y -1900)*12+m -1) n=(y -1900)*12+m -1+n:=N7 (by unfold I64;omega)
 rw[e1,e2,e3,e4,e5]
 generalize ht:(y -1900)*12+m -1+n=t
 by_cases t0:t<0
 ·rw[F7 t0,if_pos (.inl t0)];rfl
 by_cases t1:3599<t
 ·rw[E9 (by omega),F7 t1,if_pos (.inr t1)];rfl
 rw[E9 (by omega),E9 (by omega),if_neg (by omega),o5,o5]
 have e6:X4 .i64 t 12=t / 12:=by rw[uK (by rw[cO (by omega)];unfold I64;omega),cO (by omega)]
 have e7:X5 t 12=t % 12:=qW (by omega)
 have e8:x8 .i64 1900 (t / 12)=1900+t / 12:=N7 (by unfold I64;omega)
 have e9:x8 .i64 (t % 12) 1=t % 12+1:=N7 (by unfold I64;omega)
 rw[e6,e7,e8,e9,kS (by omega) (by omega),o7]
 have hd:=vZ (1900+t / 12) (t % 12+1)
 rw[ZF (by omega) (by omega) (by rw[GH];split <;> omega) (by rw[GH];split <;> omega)];rfl
theorem Ic (d n:Int):fE d n=some (a3J d n):=by
 unfold fE lM a3J
 by_cases h0:0≤d∧d≤109572
 case neg=>
  rw[if_pos (.inl h0)]
  by_cases h1:0≤d
  ·rw[H5 h1,H7 (by omega)];rfl
  ·rw[H7 (by omega)];rfl
 rw[H5 h0.1,H5 h0.2,o6,o7,o9,o5]
 by_cases h1:n< -3600
 ·rw[F7 h1,if_pos (.inr (.inl h1))];rfl
 by_cases h2:3600<n
 ·rw[E9 (by omega),F7 h2,if_pos (.inr (.inr h2))];rfl
 rw[E9 (by omega),E9 (by omega),if_neg (by omega),o5,o5,o7,C9,FO h0.1 h0.2,o7]
 obtain⟨b1,b2,b3,b4,b5,b6⟩:=Gs h0.1 h0.2
 generalize ymd d=q at*
 obtain⟨y,m,dd⟩:=q
 simp only at b1 b2 b3 b4 b5 b6 ⊢
 have e2:N9 .i64 12 y=12*y:=eG (by unfold I64;omega)
 have e3:x8 .i64 (12*y) m=12*y+m:=N7 (by unfold I64;omega)
 have e4:G8 .i64 (12*y+m) 1=12*y+m -1:=J4 (by unfold I64;omega)
 have e5:x8 .i64 (12*y+m -1) n=12*y+m -1+n:=N7 (by unfold I64;omega)
 rw[e2,e3,e4,e5]
 generalize ht:(y -1900)*12+m -1+n=t
 have hk:12*y+m -1+n=t+22800:=by omega
 rw[hk]
 have e6:X4 .i64 (t+22800) 12=1900+t / 12:=by rw[uK (by rw[cO (by omega)];unfold I64;omega),cO (by omega)];omega
 have e7:X5 (t+22800) 12=t % 12:=by rw[qW (by omega)];omega
 have e9:x8 .i64 (t % 12) 1=t % 12+1:=N7 (by unfold I64;omega)
 rw[e6,e7,e9,jV (by omega) (by omega),o7]
 have hd:=vZ (1900+t / 12) (t % 12+1)
 by_cases t0:t<0
 ·rw[if_pos (.inl t0)]
  unfold nO
  rw[F7 (show 1900+t / 12<1900 by omega)];rfl
 by_cases t1:3599<t
 ·rw[if_pos (.inr t1)]
  unfold nO
  rw[E9 (show 1900≤1900+t / 12 by omega),F7 (show 2199<1900+t / 12 by omega)];rfl
 rw[if_neg (by omega),Ym (by omega) (by omega) (by rw[GH];split <;> omega) (by rw[GH];split <;> omega)];rfl
def yrl (a k:Int):Int:=Xk ((ymd a).1+k) (ymd a).2.1 (jf (ymd a).2.2 (dim ((ymd a).1+k) (ymd a).2.1))
theorem TF {a:Int} (h0:0≤a∧a≤109572) {k:Int} (hk:0≤k) (hk2:k≤300):a3J a (12*k)=if(ymd a).1+k≤2199 then(yrl a k,0)else(0,3):=by
 obtain⟨b1,b2,b3,b4,b5,b6⟩:=Gs h0.1 h0.2
 unfold a3J yrl
 rw[if_neg (by omega)]
 generalize ymd a=q at*
 obtain⟨y,m,dd⟩:=q
 simp only at b1 b2 b3 b4 b5 b6 ⊢
 have e1:1900+((y -1900)*12+m -1+12*k) / 12=y+k:=by omega
 have e2:((y -1900)*12+m -1+12*k) % 12+1=m:=by omega
 by_cases h:y+k≤2199
 ·rw[if_neg (by omega),if_pos h,e1,e2]
 ·rw[if_pos (by omega),if_neg h]
theorem a9S {a:Int} (h0:0≤a∧a≤109572) (k:Int):ys ((ymd a).1+k)≤yrl a k∧yrl a k<ys ((ymd a).1+k+1):=by
 obtain⟨b1,b2,b3,b4,b5,b6⟩:=Gs h0.1 h0.2
 have hd:=vZ ((ymd a).1+k) (ymd a).2.1
 unfold yrl
 exact b0A ⟨b3,b4⟩ (by rw[GH];split <;> omega) (by rw[GH];split <;> omega)
theorem KH {a:Int} (h0:0≤a∧a≤109572):ys (ymd a).1≤a∧a<ys ((ymd a).1+1):=by
 have:=KG h0.1 h0.2
 exact⟨this.2.2.1,this.2.2.2⟩
def WL (a b:Int):Int:=if 0≤a∧a≤109572∧0≤b∧b≤109572∧a≤b then
  (if(ymd b).1 -(ymd a).1≤0 then 0 else if yrl a ((ymd b).1 -(ymd a).1)≤b then(ymd b).1 -(ymd a).1 else(ymd b).1 -(ymd a).1 -1)else 0
theorem OD (a b:Int):gX a b=some (WL a b):=by
 unfold gX oL WL
 by_cases ha0:0≤a
 case neg=>rw[H7 (by omega),if_neg (by omega)];rfl
 by_cases ha1:a≤109572
 case neg=>rw[H5 ha0,H7 (by omega),if_neg (by omega)];rfl
 rw[H5 ha0,H5 ha1,o6,o7,o9,o5]
 by_cases hb0:0≤b
 case neg=>rw[H7 (by omega),if_neg (by omega)];rfl
 by_cases hb1:b≤109572
 case neg=>rw[H5 hb0,H7 (by omega),if_neg (by omega)];rfl
 rw[H5 hb0,H5 hb1,o6,o7,o9,o5]
 by_cases hab:a≤b
 case neg=>rw[F7 (by omega),if_neg (by omega)];rfl
 rw[E9 hab,o5,if_pos ⟨ha0,ha1,hb0,hb1,hab⟩,wU ha0 ha1,o7,wU hb0 hb1,o7]
 obtain⟨p1,p2,_,_,_,_⟩:=Gs ha0 ha1
 obtain⟨q1,q2,_,_,_,_⟩:=Gs hb0 hb1
 have ya:=KH ⟨ha0,ha1⟩
 have yb:=KH ⟨hb0,hb1⟩
 have hK:0≤(ymd b).1 -(ymd a).1:=by
  rcases Hl (ymd b).1 (ymd a).1 with h | h
  ·have:=jZ (show(ymd b).1+1≤(ymd a).1 by omega);omega
  ·omega
 rw[J4 (show I64 ((ymd b).1 -(ymd a).1) by unfold I64;omega)]
 have hle:(ymd a).1+((ymd b).1 -(ymd a).1)≤2199:=by omega
 generalize (ymd b).1 -(ymd a).1=K at*
 rw[eG (show I64 (12*K) by unfold I64;omega),Jh,o7,TF ⟨ha0,ha1⟩ hK (by omega),if_pos hle]
 simp only[F5 (rfl:(0:Int)=0),o9,o5]
 rw[J4 (show I64 (K -1) by unfold I64;omega)]
 have im:∀x:Int,fO x 0=if x<0 then 0 else x:=fun x=>rfl
 by_cases hz:K≤0
 ·have:K=0:=by omega
  subst this
  rw[if_pos (by omega)]
  cases ilt b (yrl a 0) <;> rfl
 ·rw[if_neg hz]
  by_cases hq:yrl a K≤b
  ·rw[if_pos hq,E9 hq,o5,im,if_neg (by omega)]
  ·rw[if_neg hq,F7 (by omega),o6,im,if_neg (by omega)]
theorem LU (a b:Int):jh a b=some (WL a b):=by
 unfold jh lM WL
 by_cases ha0:0≤a
 case neg=>rw[H7 (by omega),if_neg (by omega)];rfl
 by_cases ha1:a≤109572
 case neg=>rw[H5 ha0,H7 (by omega),if_neg (by omega)];rfl
 rw[H5 ha0,H5 ha1,o6,o7,o9,o5]
 by_cases hb0:0≤b
 case neg=>rw[H7 (by omega),if_neg (by omega)];rfl
 by_cases hb1:b≤109572
 case neg=>rw[H5 hb0,H7 (by omega),if_neg (by omega)];rfl
 rw[H5 hb0,H5 hb1,o6,o7,o9,o5]
 obtain⟨p1,p2,_,_,_,_⟩:=Gs ha0 ha1
 obtain⟨q1,q2,_,_,_,_⟩:=Gs hb0 hb1
 have ya:=KH ⟨ha0,ha1⟩
 have yb:=KH ⟨hb0,hb1⟩
 have key:=mg (f:=fun(x:Int)=>l9 (fE a (N9 .i64 12 (x8 .i64 x 1))) fun(x_1:Int×Int)=>l7 (D6 (ieq x_1.2 0)) (some (.rt x)) (l7 (ilt b x_1.1) (some (.rt x)) (some (.nx (x8 .i64 x 1)))))
  (s:=0) (fun x=>0≤x∧(x=0∨(x≤(ymd b).1 -(ymd a).1∧yrl a x≤b))) (fun(_:PUnit)=>False) (fun r=>r=(if a≤b then(if(ymd b).1 -(ymd a).1≤0 then 0 else if yrl a ((ymd b).1 -(ymd a).1)≤b then(ymd b).1 -(ymd a).1 else(ymd b).1 -(ymd a).1 -1)else 0)) (fun x=>(300 -x).toNat) ⟨by omega,.inl rfl⟩ (by simp) (by
  rintro x ⟨hx0,hx⟩
  have hx300:x≤299:=by omega
  rw[N7 (show I64 (x+1) by unfold I64;omega),eG (show I64 (12*(x+1)) by unfold I64;omega),Ic,o7,TF ⟨ha0,ha1⟩ (by omega) (by omega)]
  have hyb:=a9S ⟨ha0,ha1⟩ (x+1)
  have hyx:=a9S ⟨ha0,ha1⟩ x
  have hmono:ys ((ymd a).1+x+1)≤ys ((ymd a).1+(x+1)):=jZ (by omega)
  have hax:a<yrl a (x+1):=by
   have:=jZ (show(ymd a).1+1≤(ymd a).1+(x+1) by omega)
   omega
  by_cases hq:(ymd a).1+(x+1)≤2199∧yrl a (x+1)≤b
  ·left
   obtain⟨hq1,hq2⟩:=hq
   have hK:x+1≤(ymd b).1 -(ymd a).1:=by
    rcases Hl (ymd b).1 ((ymd a).1+(x+1))with h | h
    ·have:=jZ (show(ymd b).1+1≤(ymd a).1+(x+1) by omega);omega
    ·omega
   refine⟨x+1,?_,⟨by omega,.inr ⟨hK,hq2⟩⟩,by omega⟩
   rw[if_pos hq1]
   simp only[F5 (rfl:(0:Int)=0),o9,o5,E9 hq2]
  ·right;right
   refine⟨x,?_,?_⟩
   ·by_cases hq1:(ymd a).1+(x+1)≤2199
    ·rw[if_pos hq1]
     simp only[F5 (rfl:(0:Int)=0),o9,o5,F7 (show b<yrl a (x+1) by omega),o6]
    ·rw[if_neg hq1];rfl
   ·by_cases hab:a≤b
    case neg=>
     rw[if_neg hab]
     by_cases hx1:x=0
     ·exact hx1
     ·exfalso
      have:=jZ (show(ymd a).1+1≤(ymd a).1+x by omega)
      omega
    rw[if_pos hab]
    have hK:0≤(ymd b).1 -(ymd a).1:=by
     rcases Hl (ymd b).1 (ymd a).1 with h | h
     ·have:=jZ (show(ymd b).1+1≤(ymd a).1 by omega);omega
     ·omega
    have hxK:x≤(ymd b).1 -(ymd a).1:=by omega
    by_cases hxe:x=(ymd b).1 -(ymd a).1
    ·by_cases hz:(ymd b).1 -(ymd a).1≤0
     ·rw[if_pos hz];omega
     ·rw[if_neg hz]
      rcases hx with hx | hx
      ·omega
      ·rw[←hxe,if_pos hx.2]
    ·have hlt:x+1≤(ymd b).1 -(ymd a).1:=by omega
     rw[if_neg (by omega)]
     have hyr:(ymd a).1+(x+1)≤2199:=by omega
     have hgt:b<yrl a (x+1):=by
      have:=fun h=>hq ⟨hyr,h⟩
      omega
     have heq:x+1=(ymd b).1 -(ymd a).1:=by
      rcases Hl (x+1) ((ymd b).1 -(ymd a).1)with h | h
      ·have:=jZ (show(ymd a).1+(x+1)+1≤(ymd b).1 by omega);omega
      ·omega
     rw[←heq,if_neg (by omega)];omega)
 rcases key with⟨e,_,h⟩ | ⟨r,k1,k2⟩
 ·exact h.elim
 ·refine(dH k1 _).trans ?_
  rw[k2]
  by_cases hab:a≤b
  ·rw[if_pos hab,if_pos (show 0≤a∧a≤109572∧0≤b∧b≤109572∧a≤b from⟨ha0,ha1,hb0,hb1,hab⟩)];rfl
  ·rw[if_neg hab,if_neg (by omega)];rfl
def a1V:List UInt8:=(List.range 256).map fun n=>UInt8.ofNat (if n=0 then 0 else Nat.log2 n+1)
theorem a6t:∀n:Fin 256,∃k:Fin 9,a1V[n.val]? =some (UInt8.ofNat k.val)∧n.val<2^k.val∧(0<n.val→0<k.val∧2^(k.val -1)≤n.val):=by decide+kernel
def a3H (n:Int) (k:Nat):Prop:=n<2^k∧(0<n→0<k∧2^(k -1)≤n)
theorem b1K {n:Int} (h0:0≤n) (h:n<256):wrap .u8 n=n:=by
 unfold wrap IntKind.wrap
 simp[IntKind.signed,IntKind.bits]
 omega
theorem b0E {n:Int} (h0:0≤n) (h:n<256):∃k:Nat,k≤8∧sat a1V (wrap .u8 n)=some (k:Int)∧a3H n k:=by
 rw[b1K h0 h]
 obtain⟨k,k1,k2,k3⟩:=a6t ⟨n.toNat,by omega⟩
 refine⟨k.val,by omega,?_,?_,fun hp=>?_⟩
 ·unfold sat
  rw[if_pos h0]
  simp only at k1
  rw[k1]
  simp
  have:=k.isLt
  omega
 ·simp only at k2
  have:((n.toNat:Nat):Int)<((2^k.val:Nat):Int):=by omega
  rw[Int.toNat_of_nonneg h0,Int.natCast_pow]at this
  exact this
 ·simp only at k3
  obtain⟨a,b⟩:=k3 (by omega)
  refine⟨a,?_⟩
  have:((2^(k.val -1):Nat):Int)≤((n.toNat:Nat):Int):=by omega
  rw[Int.toNat_of_nonneg h0,Int.natCast_pow]at this
  exact this
theorem JD {n:Int} {k:Nat} (hk:k≤64):kF .u64 n (k:Int)=n / 2^k:=by
 unfold kF
 rw[Int.toNat_natCast,show IntKind.bits .u64=64 from rfl,show min k 64=k by omega]
 exact Int.fdiv_eq_ediv_of_nonneg _ (Int.pow_nonneg (by omega))
theorem a3H.shift {n:Int} {j k:Nat} (h:a3H (n / 2^j) k) (hn:2^j≤n):a3H n (j+k):=by
 have hp:(0:Int)<2^j:=Int.pow_pos (by omega)
 have h1:0<n / 2^j:=by have:=Int.le_ediv_of_mul_le hp (show 1*2^j≤n by omega);omega
 obtain⟨a,b⟩:=h
 obtain⟨b1,b2⟩:=b h1
 have hdm:=Int.mul_ediv_add_emod n (2^j)
 have hm:=Int.emod_lt_of_pos n hp
 have hm0:=Int.emod_nonneg n (show(2:Int)^j≠0 by omega)
 refine⟨?_,fun _=>⟨by omega,?_⟩⟩
 ·have:(2:Int)^j*(n / 2^j+1)≤2^j*2^k:=Int.mul_le_mul_of_nonneg_left (by omega) (by omega)
  rw[Int.mul_add,Int.mul_one]at this
  rw[Int.pow_add];omega
 ·have:(2:Int)^j*2^(k -1)≤2^j*(n / 2^j):=Int.mul_le_mul_of_nonneg_left b2 (by omega)
  rw[show j+k -1=j+(k -1) by omega,Int.pow_add];omega
theorem a6s:([0,1,2,2,3,3,3,3,4,4,4,4,4,4,4,4,5,5,5,5,5,5,5,5,5,5,5,5,5,5,5,5,6,6,6,6,6,6,6,6,6,6,6,6,6,6,6,6,6,6,
  6,6,6,6,6,6,6,6,6,6,6,6,6,6,7,7,7,7,7,7,7,7,7,7,7,7,7,7,7,7,7,7,7,7,7,7,7,7,7,7,7,7,7,7,7,7,7,7,7,7,
  7,7,7,7,7,7,7,7,7,7,7,7,7,7,7,7,7,7,7,7,7,7,7,7,7,7,7,7,8,8,8,8,8,8,8,8,8,8,8,8,8,8,8,8,8,8,8,8,8,8,
  8,8,8,8,8,8,8,8,8,8,8,8,8,8,8,8,8,8,8,8,8,8,8,8,8,8,8,8,8,8,8,8,8,8,8,8,8,8,8,8,8,8,8,8,8,8,8,8,8,8,
  8,8,8,8,8,8,8,8,8,8,8,8,8,8,8,8,8,8,8,8,8,8,8,8,8,8,8,8,8,8,8,8,8,8,8,8,8,8,8,8,8,8,8,8,8,8,8,8,8,8,
  8,8,8,8,8,8]:List UInt8)=a1V:=by decide+kernel
theorem gq {n:Int} (h0:0≤n) (h:n≤1000):wrap .i64 n=n:=fA (by unfold I64;omega)
theorem EC {a b:Int} (h0:0≤a) (h1:a≤1000) (h2:0≤b) (h3:b≤1000):x8 .i64 a b=a+b:=N7 (by unfold I64;omega)
theorem a6r {n:Int} (h0:0≤n) (h:n<18446744073709551616):∃k:Nat,k≤64∧rX n=some (k:Int)∧a3H n k:=by
 have s32:∀m:Int,kF .u64 m 32=m / 2^32:=fun m=>JD (k:=32) (by omega)
 have s16:∀m:Int,kF .u64 m 16=m / 2^16:=fun m=>JD (k:=16) (by omega)
 have s8:∀m:Int,kF .u64 m 8=m / 2^8:=fun m=>JD (k:=8) (by omega)
 unfold rX
 rw[a6s,s32,s16,s16,s8,s8,s8,s8]
 have ow:∀(m:Int) (a:Int) (K:Nat),0≤m→m<256→a=(K:Int)→K≤56→∀(g:Int→Int),(∀x,0≤x→x≤8→g x=a+x)→∃k:Nat,k≤8∧(l9 (sat a1V (wrap .u8 m)) fun(x:Int)=>some (g x))=some (((K+k:Nat):Int))∧a3H m k:=by
  intro m a K m0 m1 ha hK g hg
  obtain⟨k,k1,k2,k3⟩:=b0E m0 m1
  refine⟨k,k1,?_,k3⟩
  rw[k2,o7,hg _ (by omega) (by omega),ha];simp
 by_cases c32:4294967296≤n
 ·rw[H5 c32,o6]
  by_cases c16:65536≤n / 2^32
  ·rw[H5 c16,o6]
   by_cases c8:256≤n / 2^32 / 2^16
   ·rw[H5 c8,o6]
    obtain⟨k,k1,k2,k3⟩:=ow (n / 2^32 / 2^16 / 2^8) 56 56 (by omega) (by omega) rfl (by omega) (fun x=>x8 .i64 (x8 .i64 (x8 .i64 32 16) 8) (wrap .i64 x)) (fun x x0 x1=>by
     rw[gq x0 (by omega),show x8 .i64 (x8 .i64 32 16) 8=56 by decide,EC (by omega) (by omega) (by omega) (by omega)])
    exact⟨56+k,by omega,k2,by have:=((k3.shift (j:=8) (by omega)).shift (j:=16) (by omega)).shift (j:=32) (by omega);rw[show 32+(16+(8+k))=56+k by omega]at this;exact this⟩
   ·rw[H7 (by omega),o5]
    obtain⟨k,k1,k2,k3⟩:=ow (n / 2^32 / 2^16) 48 48 (by omega) (by omega) rfl (by omega) (fun x=>x8 .i64 (x8 .i64 32 16) (wrap .i64 x)) (fun x x0 x1=>by
     rw[gq x0 (by omega),EC (a:=32) (by omega) (by omega) (by omega) (by omega),EC (by omega) (by omega) (by omega) (by omega)];rfl)
    exact⟨48+k,by omega,k2,by have:=(k3.shift (j:=16) (by omega)).shift (j:=32) (by omega);rw[show 32+(16+k)=48+k by omega]at this;exact this⟩
  ·rw[H7 (by omega),o5]
   by_cases c8:256≤n / 2^32
   ·rw[H5 c8,o6]
    obtain⟨k,k1,k2,k3⟩:=ow (n / 2^32 / 2^8) 40 40 (by omega) (by omega) rfl (by omega) (fun x=>x8 .i64 (x8 .i64 32 8) (wrap .i64 x)) (fun x x0 x1=>by
     rw[gq x0 (by omega),EC (a:=32) (by omega) (by omega) (by omega) (by omega),EC (by omega) (by omega) (by omega) (by omega)];rfl)
    exact⟨40+k,by omega,k2,by have:=(k3.shift (j:=8) (by omega)).shift (j:=32) (by omega);rw[show 32+(8+k)=40+k by omega]at this;exact this⟩
   ·rw[H7 (by omega),o5]
    obtain⟨k,k1,k2,k3⟩:=ow (n / 2^32) 32 32 (by omega) (by omega) rfl (by omega) (fun x=>x8 .i64 32 (wrap .i64 x)) (fun x x0 x1=>by
     rw[gq x0 (by omega),EC (by omega) (by omega) (by omega) (by omega)])
    exact⟨32+k,by omega,k2,k3.shift (j:=32) (by omega)⟩
 ·rw[H7 (by omega),o5]
  by_cases c16:65536≤n
  ·rw[H5 c16,o6]
   by_cases c8:256≤n / 2^16
   ·rw[H5 c8,o6]
    obtain⟨k,k1,k2,k3⟩:=ow (n / 2^16 / 2^8) 24 24 (by omega) (by omega) rfl (by omega) (fun x=>x8 .i64 (x8 .i64 (x8 .i64 0 16) 8) (wrap .i64 x)) (fun x x0 x1=>by
     rw[gq x0 (by omega),show x8 .i64 (x8 .i64 0 16) 8=24 by decide,EC (by omega) (by omega) (by omega) (by omega)])
    exact⟨24+k,by omega,k2,by have:=(k3.shift (j:=8) (by omega)).shift (j:=16) (by omega);rw[show 16+(8+k)=24+k by omega]at this;exact this⟩
   ·rw[H7 (by omega),o5]
    obtain⟨k,k1,k2,k3⟩:=ow (n / 2^16) 16 16 (by omega) (by omega) rfl (by omega) (fun x=>x8 .i64 (x8 .i64 0 16) (wrap .i64 x)) (fun x x0 x1=>by
     rw[gq x0 (by omega),EC (a:=0) (by omega) (by omega) (by omega) (by omega),EC (by omega) (by omega) (by omega) (by omega)];rfl)
    exact⟨16+k,by omega,k2,k3.shift (j:=16) (by omega)⟩
  ·rw[H7 (by omega),o5]
   by_cases c8:256≤n
   ·rw[H5 c8,o6]
    obtain⟨k,k1,k2,k3⟩:=ow (n / 2^8) 8 8 (by omega) (by omega) rfl (by omega) (fun x=>x8 .i64 (x8 .i64 0 8) (wrap .i64 x)) (fun x x0 x1=>by
     rw[gq x0 (by omega),EC (a:=0) (by omega) (by omega) (by omega) (by omega),EC (by omega) (by omega) (by omega) (by omega)];rfl)
    exact⟨8+k,by omega,k2,k3.shift (j:=8) (by omega)⟩
   ·rw[H7 (by omega),o5]
    obtain⟨k,k1,k2,k3⟩:=ow n 0 0 (by omega) (by omega) rfl (by omega) (fun x=>x8 .i64 0 (wrap .i64 x)) (fun x x0 x1=>by
     rw[gq x0 (by omega),EC (by omega) (by omega) (by omega) (by omega)])
    exact⟨0+k,by omega,k2,by rw[Nat.zero_add];exact k3⟩
theorem xY {n:Int} (h0:0≤n) (h:n<18446744073709551616):IntKind.wrap .u64 n=n:=a9R (by unfold U64;omega)
theorem rM (n:Int):IntKind.wrap .u64 n=n % 18446744073709551616:=by
 unfold IntKind.wrap
 simp[IntKind.signed,IntKind.bits]
def a0b {σ ε:Type} (f:σ→Option (σ⊕ε)) (m:Nat) (o:Option (σ⊕ε)):Option ε:=match o with
 | some (.inl s')=>jy f m s'
 | some (.inr e)=>some e
 | none=>none
theorem a4m {σ ε:Type} (f:σ→Option (σ⊕ε)) (m:Nat) (s:σ):jy f (m+1) s=a0b f m (f s):=by
 rw[jy];unfold a0b
 cases f s with
 | none=>rfl
 | some o=>cases o <;> rfl
theorem PO {σ:Type} (mkp:Int→Int→σ) {f:σ→Option (σ⊕Int)} {y1 y0 U d:Int} (hy1:2147483648≤y1) (hy1' :y1<4294967296) (hy0:0≤y0) (hy0' :y0<4294967296) (hU:0≤U) (hUY:U<y1*4294967296+y0) (hd:0≤d) (hd' :d<4294967296)
  (hf:∀q r,0≤q→q≤4294967297→0≤r→r<4294967296→f (mkp q r)=l7 (ile 4294967296 q) (l7 (ile 4294967296 (x8 .u64 r y1)) (some (.inr (G8 .u64 q 1))) (some (.inl (mkp (G8 .u64 q 1) (x8 .u64 r y1)))))
   (l7 (ilt (x8 .u64 (N9 .u64 4294967296 r) d) (N9 .u64 q y0)) (l7 (ile 4294967296 (x8 .u64 r y1)) (some (.inr (G8 .u64 q 1))) (some (.inl (mkp (G8 .u64 q 1) (x8 .u64 r y1))))) (some (.inr q)))):
  ∃Q,N8 f (mkp (U / y1) (U -U / y1*y1))=some Q∧0≤Q∧Q<4294967296∧Q*(y1*4294967296+y0)≤U*4294967296+d∧U*4294967296+d<(Q+1)*(y1*4294967296+y0):=by
 obtain⟨Y,hY⟩:∃Y,Y=y1*4294967296+y0:=⟨_,rfl⟩
 have hYe:∀q:Int,q*Y=q*y1*4294967296+q*y0:=fun q=>by rw[hY,Int.mul_add,←Int.mul_assoc]
 have hq0:0≤U / y1:=Int.ediv_nonneg hU (by omega)
 have hdm:=Int.ediv_mul_add_emod U y1
 have hm0:=Int.emod_nonneg U (show y1≠0 by omega)
 have hm1:=Int.emod_lt_of_pos U (show 0<y1 by omega)
 have hqB:U / y1≤4294967297:=by
  rcases Hl 4294967297 (U / y1)with h | h
  ·have:=Int.mul_le_mul_of_nonneg_right (show 4294967298≤U / y1 by omega) (show 0≤y1 by omega)
   omega
  ·exact h
 obtain⟨n,hn⟩:∃n,n=(U / y1).toNat+1:=⟨_,rfl⟩
 have key:∀(n:Nat) (q r:Int),0≤q→q≤4294967297→0≤r→r<4294967296→U=q*y1+r→U*4294967296+d<(q+1)*Y→q.toNat<n→∀m,n≤m→∃Q,jy f m (mkp q r)=some Q∧0≤Q∧Q<4294967296∧Q*Y≤U*4294967296+d∧U*4294967296+d<(Q+1)*Y:=by
  intro n
  induction n with
  | zero=>intro q r _ _ _ _ _ _ h;omega
  | succ n ih=>
   intro q r q0 qB r0 rB hUq hlt hqn m hm
   obtain⟨m,rfl⟩:∃m',m=m' +1:=⟨m -1,by omega⟩
   rw[a4m,hf q r q0 qB r0 rB]
   have e1:=hYe q
   have e2:(q+1)*Y=q*Y+Y:=by rw[Int.add_mul,Int.one_mul]
   have hry:x8 .u64 r y1=r+y1:=xY (by omega) (by omega)
   have g0:0≤q*y0:=Int.mul_nonneg q0 hy0
   have less:U*4294967296+d<q*Y→1≤q∧G8 .u64 q 1=q -1∧U=(q -1)*y1+(r+y1)∧(q -1+1)*Y=q*Y∧(q -1)*Y=q*Y -Y∧(q -1)*y0=q*y0 -y0:=by
    intro hgt
    have hq1:1≤q:=by
     rcases Hl q 1 with h | h
     ·have:q=0:=by omega
      subst this;simp at hgt;omega
     ·exact h
    refine⟨hq1,xY (by omega) (by omega),?_,?_,?_,?_⟩
    ·rw[Int.sub_mul,Int.one_mul];omega
    ·rw[show q -1+1=q by omega]
    ·rw[Int.sub_mul,Int.one_mul]
    ·rw[Int.sub_mul,Int.one_mul]
   have dec:U*4294967296+d<q*Y→∃Q,a0b f m (l7 (ile 4294967296 (r+y1)) (some (Sum.inr (G8 .u64 q 1))) (some (Sum.inl (mkp (G8 .u64 q 1) (r+y1)))))=some Q∧0≤Q∧Q<4294967296∧Q*Y≤U*4294967296+d∧U*4294967296+d<(Q+1)*Y:=by
    intro hgt
    obtain⟨l1,l2,l3,l4,l5,l6⟩:=less hgt
    rw[l2]
    by_cases hr:4294967296≤r+y1
    ·rw[H5 hr]
     have h6:(q -1)*y0≤4294967296*y0:=Int.mul_le_mul_of_nonneg_right (by omega) hy0
     have h7:=hYe (q -1)
     have hle:(q -1)*Y≤U*4294967296+d:=by rw[h7,l3];omega
     refine⟨q -1,rfl,by omega,?_,hle,by rw[l4];exact hgt⟩
     rcases Hl (q -1) 4294967296 with h | h
     ·exact h
     ·have:=Int.mul_le_mul_of_nonneg_right h (show 0≤Y by omega)
      omega
    ·rw[H7 (by omega)]
     exact ih (q -1) (r+y1) (by omega) (by omega) (by omega) (by omega) l3 (by rw[l4];exact hgt) (by omega) m (by omega)
   by_cases hqb:4294967296≤q
   ·rw[H5 hqb,o6,hry]
    have:=Int.mul_le_mul_of_nonneg_right hqb (show 0≤Y by omega)
    exact dec (by omega)
   ·rw[H7 (by omega),o5,hry]
    have g1:q*y0≤4294967295*y0:=Int.mul_le_mul_of_nonneg_right (by omega) hy0
    have m1:N9 .u64 4294967296 r=4294967296*r:=xY (by omega) (by omega)
    have m2:x8 .u64 (4294967296*r) d=4294967296*r+d:=xY (by omega) (by omega)
    have m3:N9 .u64 q y0=q*y0:=xY g0 (by omega)
    rw[m1,m2,m3]
    by_cases hc:4294967296*r+d<q*y0
    ·rw[F7 hc,o6]
     exact dec (by rw[e1];omega)
    ·rw[E9 (by omega),o5]
     exact⟨q,rfl,q0,by omega,by rw[e1];omega,hlt⟩
 rw[←hY]
 refine key n (U / y1) (U -U / y1*y1) hq0 hqB (by omega) (by omega) (by omega) ?_ (by omega) bJ (by unfold bJ;omega)
 have e1:=hYe (U / y1)
 rw[Int.add_mul,Int.one_mul,e1]
 have:=Int.mul_nonneg hq0 hy0
 omega
theorem Jm {n:Int} (h0:0≤n) (h:n<18446744073709551616):(BitVec.ofInt 64 n).toNat=n.toNat:=by
 rw[BitVec.toNat_ofInt]
 have e:((2^64:Nat):Int)=18446744073709551616:=rfl
 rw[e,Int.emod_eq_of_lt h0 h]
theorem Uk {n:Int} (h0:0≤n) (h:n<18446744073709551616):XB .u64 n 4294967295=n % 4294967296:=by
 unfold XB
 rw[show IntKind.bits .u64=64 from rfl,BitVec.toNat_and,Jm h0 h,Jm (by decide) (by decide)]
 rw[show(4294967295:Int).toNat=2^32 -1 from rfl,Nat.and_two_pow_sub_one_eq_mod]
 rw[xY (by omega) (by omega)];omega
theorem b0C {a c:Int} {s:Nat} (ha0:0≤a) (hc0:0≤c) (hc:c<2^s) (h:a*2^s+c<18446744073709551616):ior .u64 (a*2^s) c=a*2^s+c:=by
 have hp:(0:Int)<2^s:=Int.pow_pos (by omega)
 have hap:0≤a*2^s:=Int.mul_nonneg ha0 (by omega)
 unfold ior
 rw[show IntKind.bits .u64=64 from rfl,BitVec.toNat_or,Jm hap (by omega),Jm hc0 (by omega)]
 obtain⟨m,rfl⟩:∃m:Nat,a=(m:Int):=⟨a.toNat,by omega⟩
 obtain⟨k,rfl⟩:∃k:Nat,c=(k:Int):=⟨c.toNat,by omega⟩
 have hk:k<2^s:=by exact_mod_cast hc
 have e1:((m:Int)*2^s).toNat=m<<<s:=by
  rw[Nat.shiftLeft_eq]
  have:((m:Int)*2^s)=((m*2^s:Nat):Int):=by rw[Int.natCast_mul,Int.natCast_pow];rfl
  rw[this];rfl
 rw[e1,Int.toNat_natCast,←Nat.shiftLeft_add_eq_or_of_lt hk,Nat.shiftLeft_eq]
 have e2:((m*2^s+k:Nat):Int)=(m:Int)*2^s+(k:Int):=by rw[Int.natCast_add,Int.natCast_mul,Int.natCast_pow];rfl
 rw[e2]
 exact xY (by omega) h
theorem Xj (a b c d:Int):G8 .u64 (x8 .u64 (N9 .u64 a 4294967296) b) (N9 .u64 c d)=(a*4294967296+b -c*d) % 18446744073709551616:=by
 unfold G8 x8 N9
 rw[rM,rM,rM,rM]
 generalize c*d=z
 omega
theorem c8Z {y:Int} (h0:0<y) (h:y<18446744073709551616):∃s:Nat,s≤63∧fP y=some (s:Int)∧9223372036854775808≤y*2^s∧y*2^s<18446744073709551616:=by
 obtain⟨k,k1,k2,k3,k4⟩:=a6r (n:=y) (by omega) h
 obtain⟨k5,k6⟩:=k4 h0
 refine⟨64 -k,by omega,?_,?_,?_⟩
 ·unfold fP
  rw[k2,o7,J4 (by unfold I64;omega)]
  congr 1;omega
 ·have:=Int.mul_le_mul_of_nonneg_right k6 (show(0:Int)≤2^(64 -k)from Int.pow_nonneg (by omega))
  rw[←Int.pow_add,show k -1+(64 -k)=63 by omega]at this
  exact this
 ·have:=Int.mul_lt_mul_of_pos_right k3 (show(0:Int)<2^(64 -k)from Int.pow_pos (by omega))
  rw[←Int.pow_add,show k+(64 -k)=64 by omega]at this
  exact this
theorem GI {a b:Int} (ha:0≤a) (ha' :a<18446744073709551616) (hb:0<b):iI .u64 a b=some (a / b):=by
 unfold iI
 rw[if_neg (by omega),cO ha]
 have h1:=Int.ediv_nonneg ha (show 0≤b by omega)
 have h2:=Int.ediv_le_self b ha
 rw[xY h1 (by omega)]
theorem tN {a b:Int} (ha:0≤a) (hb:0<b):kQ a b=some (a % b):=by
 unfold kQ
 rw[if_neg (by omega)]
 congr 1
 exact qW ha
theorem PP {hi lo y:Int} (h0:0≤hi) (h1:hi<y) (hy:y<18446744073709551616) (l0:0≤lo) (l1:lo<18446744073709551616):
  fC hi lo y=some ((hi*18446744073709551616+lo) / y,(hi*18446744073709551616+lo) % y):=by
 unfold fC
 rw[E5 (show y≠0 by omega),o5,o7,H7 h1,o5,o7]
 by_cases hz:hi=0
 ·subst hz
  rw[F5 rfl,o6,GI l0 l1 (by omega),o7,tN l0 (by omega),o7];simp
 rw[E5 hz,o5]
 obtain⟨s,s1,s2,s3,s4⟩:=c8Z (y:=y) (by omega) hy
 rw[s2,o7,show wrap .u64 ((s:Nat):Int)=(s:Int)from xY (by omega) (by omega),show G8 .u64 64 (s:Int)=((64 -s:Nat):Int) by unfold G8;rw[xY (by omega) (by omega)];omega]
 have hshl:∀v:Int,Qn .u64 v (s:Int)=some ((v*2^s) % 18446744073709551616):=fun v=>by
  unfold Qn a6m
  rw[if_neg (by omega),Int.toNat_natCast,show IntKind.bits .u64=64 from rfl,show min s 64=s by omega,rM]
 have hshr:∀(v:Int) (k:Nat),k≤64→Qo .u64 v (k:Int)=some (v / 2^k):=fun v k hk=>by
  unfold Qo
  rw[if_neg (by omega),JD hk]
 rw[hshl,o7,hshl,o7,hshr _ _ (by omega),o7,hshl,o7]
 have hpp:(2:Int)^s*2^(64 -s)=18446744073709551616:=by rw[←Int.pow_add,show s+(64 -s)=64 by omega];rfl
 have hp:(0:Int)<2^s:=Int.pow_pos (by omega)
 have hp' :(0:Int)<2^(64 -s):=Int.pow_pos (by omega)
 have hcb:lo / 2^(64 -s)<2^s:=Int.ediv_lt_of_lt_mul hp' (by rw[hpp];exact l1)
 have hc0:0≤lo / 2^(64 -s):=Int.ediv_nonneg l0 (by omega)
 have hcd:=Int.ediv_mul_add_emod lo (2^(64 -s))
 have he0:=Int.emod_nonneg lo (show(2:Int)^(64 -s)≠0 by omega)
 have he1:=Int.emod_lt_of_pos lo hp'
 have hioP:∀a c:Int,0≤a→0≤c→c<2^s→a*2^s+c<18446744073709551616→ior .u64 (a*2^s) c=a*2^s+c:=fun a c a0 c0 c1 h=>b0C a0 c0 c1 h
 have hshrs:∀v:Int,Qo .u64 v (s:Int)=some (v / 2^s):=fun v=>hshr v s (by omega)
 generalize (2:Int)^s=p at*
 generalize (2:Int)^(64 -s)=p' at*
 generalize lo / p' =c at*
 generalize lo % p' =e at*
 have hlop:lo*p=c*18446744073709551616+e*p:=by
  rw[←hcd,Int.add_mul,Int.mul_assoc,Int.mul_comm p' p,hpp]
 have hep0:0≤e*p:=Int.mul_nonneg he0 (by omega)
 have hep1:e*p<18446744073709551616:=by
  have:=Int.mul_lt_mul_of_pos_right he1 hp
  rw[Int.mul_comm p' p,hpp]at this;exact this
 rw[show(lo*p) % 18446744073709551616=e*p by omega]
 have hhp0:0≤hi*p:=Int.mul_nonneg h0 (by omega)
 have hhp1:hi*p≤y*p -p:=by
  have:=Int.mul_le_mul_of_nonneg_right (show hi≤y -1 by omega) (show 0≤p by omega)
  rw[Int.sub_mul,Int.one_mul]at this;exact this
 rw[show(y*p) % 18446744073709551616=y*p by omega,show(hi*p) % 18446744073709551616=hi*p by omega,hioP hi c h0 hc0 hcb (by omega)]
 have hN:(hi*18446744073709551616+lo)*p=(hi*p+c)*18446744073709551616+e*p:=by
  rw[Int.add_mul,hlop,Int.mul_right_comm];omega
 have hsh32:∀v:Int,kF .u64 v 32=v / 4294967296:=fun v=>JD (k:=32) (by omega)
 rw[hsh32,hsh32,Uk (by omega) s4,Uk hep0 hep1]
 obtain⟨Y,hY⟩:∃Y,Y=y*p:=⟨_,rfl⟩
 obtain⟨N,hNN⟩:∃N,N=hi*18446744073709551616+lo:=⟨_,rfl⟩
 rw[←hNN]at hN ⊢
 rw[←hY]at s3 s4 hhp1 ⊢
 generalize hU:hi*p+c=U at*
 generalize e*p=E at*
 have hUY:U<Y:=by omega
 have hU0:0≤U:=by omega
 obtain⟨Q1,q1,q2,q3,q4,q5⟩:=PO (σ:=Int×Int) (fun q r=>(q,r)) (y1:=Y / 4294967296) (y0:=Y % 4294967296) (U:=U) (d:=E / 4294967296) (by omega) (by omega) (by omega) (by omega) hU0 (by omega) (by omega) (by omega)
  (f:=fun(x:Int×Int)=>l7 (ile 4294967296 x.1) (l7 (ile 4294967296 (x8 .u64 x.2 (Y / 4294967296))) (some (.inr (G8 .u64 x.1 1))) (some (.inl (G8 .u64 x.1 1,x8 .u64 x.2 (Y / 4294967296))))) (l7 (ilt (x8 .u64 (N9 .u64 4294967296 x.2) (E / 4294967296)) (N9 .u64 x.1 (Y % 4294967296))) (l7 (ile 4294967296 (x8 .u64 x.2 (Y / 4294967296))) (some (.inr (G8 .u64 x.1 1))) (some (.inl (G8 .u64 x.1 1,x8 .u64 x.2 (Y / 4294967296))))) (some (.inr x.1))))
  (fun q r _ _ _ _=>rfl)
 have hYe:Y / 4294967296*4294967296+Y % 4294967296=Y:=by omega
 rw[hYe]at q4 q5
 have hst:∀V:Int,0≤V→V<Y→G8 .u64 V (N9 .u64 (V / (Y / 4294967296)) (Y / 4294967296))=V -V / (Y / 4294967296)*(Y / 4294967296):=fun V v0 v1=>by
  have a1:=Int.ediv_mul_add_emod V (Y / 4294967296)
  have a2:=Int.emod_nonneg V (show Y / 4294967296≠0 by omega)
  have a3:=Int.emod_lt_of_pos V (show 0<Y / 4294967296 by omega)
  have a4:=Int.mul_nonneg (Int.ediv_nonneg v0 (show 0≤Y / 4294967296 by omega)) (show 0≤Y / 4294967296 by omega)
  rw[show N9 .u64 (V / (Y / 4294967296)) (Y / 4294967296)=V / (Y / 4294967296)*(Y / 4294967296)from xY a4 (by omega)]
  exact xY (by omega) (by omega)
 rw[GI hU0 (by omega) (by omega),o7,hst U hU0 hUY]
 refine(dH q1 _).trans ?_
 rw[Xj]
 have hA1:(Q1+1)*Y=Q1*Y+Y:=by rw[Int.add_mul,Int.one_mul]
 rw[hA1]at q5
 obtain⟨A1,hAA⟩:∃A1,A1=Q1*Y:=⟨_,rfl⟩
 rw[←hAA]at q4 q5 ⊢
 rw[show(U*4294967296+E / 4294967296 -A1) % 18446744073709551616=U*4294967296+E / 4294967296 -A1 by omega]
 generalize hV:U*4294967296+E / 4294967296 -A1=V at*
 have hV0:0≤V:=by omega
 have hVY:V<Y:=by omega
 obtain⟨Q0,r1,r2,r3,r4,r5⟩:=PO (σ:=Int×Int) (fun q r=>(r,q)) (y1:=Y / 4294967296) (y0:=Y % 4294967296) (U:=V) (d:=E % 4294967296) (by omega) (by omega) (by omega) (by omega) hV0 (by omega) (by omega) (by omega)
  (f:=fun(x:Int×Int)=>l7 (ile 4294967296 x.2) (l7 (ile 4294967296 (x8 .u64 x.1 (Y / 4294967296))) (some (.inr (G8 .u64 x.2 1))) (some (.inl (x8 .u64 x.1 (Y / 4294967296),G8 .u64 x.2 1)))) (l7 (ilt (x8 .u64 (N9 .u64 4294967296 x.1) (E % 4294967296)) (N9 .u64 x.2 (Y % 4294967296))) (l7 (ile 4294967296 (x8 .u64 x.1 (Y / 4294967296))) (some (.inr (G8 .u64 x.2 1))) (some (.inl (x8 .u64 x.1 (Y / 4294967296),G8 .u64 x.2 1)))) (some (.inr x.2))))
  (fun q r _ _ _ _=>rfl)
 rw[hYe]at r4 r5
 rw[GI hV0 (by omega) (by omega),o7,hst V hV0 hVY]
 refine(dH r1 _).trans ?_
 rw[Xj]
 have hA0:(Q0+1)*Y=Q0*Y+Y:=by rw[Int.add_mul,Int.one_mul]
 rw[hA0]at r5
 have hQY:(Q1*4294967296+Q0)*Y=A1*4294967296+Q0*Y:=by rw[Int.add_mul,Int.mul_right_comm,←hAA]
 generalize Q0*Y=A0 at*
 rw[show(V*4294967296+E % 4294967296 -A0) % 18446744073709551616=V*4294967296+E % 4294967296 -A0 by omega,hshrs,o7]
 rw[show N9 .u64 Q1 4294967296=Q1*4294967296 from xY (by omega) (by omega),show x8 .u64 (Q1*4294967296) Q0=Q1*4294967296+Q0 from xY (by omega) (by omega)]
 generalize hQ:Q1*4294967296+Q0=Q at*
 have hR:V*4294967296+E % 4294967296 -A0=(N -Q*y)*p:=by
  rw[Int.sub_mul,Int.mul_assoc,←hY,hQY,hN];omega
 rw[hR]
 have hge:0≤N -Q*y:=by
  rcases Hl (N -Q*y) 0 with h | h
  ·have:=Int.mul_le_mul_of_nonneg_right (show N -Q*y≤-1 by omega) (show 0≤p by omega)
   omega
  ·exact h
 have hlt:N -Q*y<y:=by
  rcases Hl (N -Q*y) y with h | h
  ·exact h
  ·have:=Int.mul_le_mul_of_nonneg_right h (show 0≤p by omega)
   omega
 have hq:N / y=Q:=by
  have e1:N=(N -Q*y)+Q*y:=by omega
  rw[e1,Int.add_mul_ediv_right _ _ (by omega),Int.ediv_eq_zero_of_lt hge hlt];omega
 have hr:N % y=N -Q*y:=by
  have:=Int.ediv_mul_add_emod N y
  rw[hq]at this;omega
 rw[hq,hr,Int.mul_ediv_cancel _ (by omega)]
def O0 (n:Int):Int:=if n<0 then -n else n
def upS (q r d:Int) (neg:Bool) (mode:Int):Bool:=l7 (ieq r 0) false (l7 (ieq mode 0) neg (l7 (ieq mode 1) (D6 neg) (l7 (ieq mode 3) true (l7 (ieq mode 4) (ile (d -r) r) (l7 (ieq mode 5) (l7 (ilt (d -r) r) true (l7 (ieq r (d -r)) (ieq (X5 q 2) 1) false)) false)))))
def q1 (q:Int) (u:Bool):Int:=l7 u (q+1) q
def sg (q:Int) (neg:Bool):Int:=l7 neg (-q) q
def gy (m:Int):Bool:=l7 (ile 0 m) (ile m 5) false
theorem vS (m:Int):jJ m=some (gy m):=by unfold jJ gy;cases ile 0 m <;> rfl
theorem JX (m:Int):wM m=some (gy m):=vS m
theorem NS (m:Int):uY m=some (gy m):=vS m
def dF (n m:Int):Bool:=l7 (ilt m n) true (ilt n (-m))
theorem nC (n:Int) {m:Int} (h0:0≤m) (h:m≤9000000000000000000):fQ n m=some (dF n m):=by
 unfold fQ dF
 rw[J4 (by unfold I64;omega),show(0:Int) -m=-m by omega]
 cases ilt m n <;> rfl
theorem kK (n:Int) {m:Int} (h0:0≤m) (h:m≤9000000000000000000):aX n m=some (dF n m):=nC n h0 h
theorem rf (n:Int) {m:Int} (h0:0≤m) (h:m≤9000000000000000000):pg n m=some (dF n m):=nC n h0 h
theorem oV (n:Int) {m:Int} (h0:0≤m) (h:m≤9000000000000000000):bU n m=some (dF n m):=nC n h0 h
theorem iO {n m:Int} (h:dF n m=false):-m≤n∧n≤m:=by
 unfold dF at h
 cases h1:ilt m n <;> rw[h1]at h
 ·rw[aV]at h1;simp only[o5]at h;rw[aV]at h;omega
 ·cases h
theorem Zj {n m:Int} (h:dF n m=true):n< -m∨m<n:=by
 unfold dF at h
 cases h1:ilt m n <;> rw[h1]at h
 ·simp only[o5]at h;rw[dZ]at h;omega
 ·rw[dZ]at h1;omega
theorem Jl {n m:Int} :dF n m=true↔n< -m∨m<n:=by
 constructor
 ·exact Zj
 ·intro h
  cases hq:dF n m
  ·have:=iO hq;omega
  ·rfl
theorem Gx {n m:Int} (h:-m≤n∧n≤m):dF n m=false:=by
 cases hq:dF n m
 ·rfl
 ·have:=Zj hq;omega
theorem uT {n:Int} (h:-9000000000000000000≤n) (h2:n≤9000000000000000000):fD n=some (O0 n):=by
 unfold fD O0
 by_cases h0:n<0
 ·rw[F7 h0,if_pos h0,o6]
  congr 1
  show IntKind.wrap .u64 (0 -IntKind.wrap .u64 n)=_
  rw[rM,rM];omega
 ·rw[E9 (by omega),if_neg h0,o5,show wrap .u64 n=n from xY (by omega) (by omega)]
theorem GV {n:Int} (h:-9000000000000000000≤n) (h2:n≤9000000000000000000):qj n=some (O0 n):=by
 unfold qj O0
 by_cases h0:n<0
 ·rw[F7 h0,if_pos h0,J4 (by unfold I64;omega)];simp
 ·rw[E9 (by omega),if_neg h0];rfl
theorem UN {q:Int} (neg:Bool) (h0:0≤q) (h:q≤9000000000000000000):uU q neg=some (sg q neg):=by
 unfold uU sg
 rw[show wrap .i64 q=q from fA (by unfold I64;omega),J4 (by unfold I64;omega),show(0:Int) -q=-q by omega]
 cases neg <;> rfl
theorem NW {q r d:Int} (neg:Bool) (mode:Int) (hq:0≤q) (hq2:q≤9000000000000000000) (hr:0≤r) (hrd:r<d) (hd:d≤9000000000000000000):gz q r d neg mode=some (q1 q (upS q r d neg mode)):=by
 unfold gz upS q1
 rw[show x8 .u64 q 1=q+1 from xY (by omega) (by omega),show G8 .u64 d r=d -r from xY (by omega) (by omega)]
 cases ieq r 0
 case true=>rfl
 cases ieq mode 0
 case true=>cases neg <;> rfl
 cases ieq mode 1
 case true=>cases neg <;> rfl
 cases ieq mode 3
 case true=>rfl
 cases ieq mode 4
 case true=>cases ile (d -r) r <;> rfl
 cases ieq mode 5
 ·rfl
 cases ilt (d -r) r
 case true=>rfl
 cases ieq r (d -r)
 ·rfl
 cases ieq (X5 q 2) 1 <;> rfl
theorem Yy {q r d:Int} (neg:Bool) (mode:Int) (hr:0≤r) (hrd:r<d) (hd:d≤9000000000000000000):xf q r d neg mode=some (upS q r d neg mode):=by
 unfold xf upS
 rw[show G8 .u64 d r=d -r from xY (by omega) (by omega)]
 cases ieq r 0
 case true=>rfl
 cases ieq mode 0
 case true=>rfl
 cases ieq mode 1
 case true=>rfl
 cases ieq mode 3
 case true=>rfl
 cases ieq mode 4
 case true=>rfl
 cases ieq mode 5
 ·rfl
 cases ilt (d -r) r
 case true=>rfl
 cases ieq r (d -r) <;> rfl
theorem xB {q r d:Int} (neg:Bool) (mode:Int) (hq:0≤q) (hq2:q≤9000000000000000000) (hr:0≤r) (hrd:r<d) (hd:d≤9000000000000000000):eF q r d neg mode=some (sg (q1 q (upS q r d neg mode)) neg):=by
 unfold eF upS q1 sg
 rw[N7 (show I64 (q+1) by unfold I64;omega),J4 (show I64 (d -r) by unfold I64;omega),J4 (show I64 (0 -(q+1)) by unfold I64;omega),J4 (show I64 (0 -q) by unfold I64;omega),show(0:Int) -(q+1)=-(q+1) by omega,show(0:Int) -q=-q by omega]
 by_cases hz:r=0
 ·rw[F5 hz,E9 (show r≤0 by omega),H7 (show r<d -r by omega),E9 (show r≤d -r by omega),E5 (show r≠d -r by omega)]
  cases ieq mode 0 <;> cases ieq mode 1 <;> cases ieq mode 3 <;> cases ieq mode 4 <;> cases ieq mode 5 <;> cases neg <;> rfl
 ·rw[E5 hz,F7 (show 0<r by omega)]
  cases ieq mode 0
  case true=>cases neg <;> rfl
  cases ieq mode 1
  case true=>cases neg <;> rfl
  cases ieq mode 3
  case true=>cases neg <;> rfl
  cases ieq mode 4
  case true=>cases ile (d -r) r <;> cases neg <;> rfl
  cases ieq mode 5
  ·cases neg <;> rfl
  cases ilt (d -r) r
  case true=>cases neg <;> rfl
  cases ieq r (d -r)
  ·cases neg <;> rfl
  cases ieq (X5 q 2) 1 <;> cases neg <;> rfl
theorem dV (n:Int):0≤O0 n:=by unfold O0;split <;> omega
theorem qg {n m:Int} (h:-m≤n∧n≤m):O0 n≤m:=by unfold O0;split <;> omega
theorem Fg {n:Int} (h:n≠0):0<O0 n:=by unfold O0;split <;> omega
def rnd (n d mode:Int):Int:=sg (q1 (O0 n / O0 d) (upS (O0 n / O0 d) (O0 n % O0 d) (O0 d) (D6 (dB (ilt n 0) (ilt d 0))) mode)) (D6 (dB (ilt n 0) (ilt d 0)))
def Zr (n d mode:Int):Int×Int:=l7 (gy mode) (l7 (ieq d 0) (0,12) (l7 (dF n 4611686018427387904) (0,3) (l7 (dF d 4611686018427387904) (0,3) (rnd n d mode,0)))) (0,1)
theorem QO (q:Int) (u:Bool):q≤q1 q u∧q1 q u≤q+1:=by unfold q1;cases u <;> simp only[o6,o5] <;> omega
theorem Ap (n d mode:Int):bC n d mode=some (Zr n d mode):=by
 unfold bC Zr
 rw[vS,o7]
 cases gy mode
 ·rfl
 simp only[o9,o5,o6]
 cases hd:ieq d 0
 case true=>rfl
 rw[ww]at hd
 simp only[o5]
 rw[nC n (by omega) (by omega),o7]
 cases h1:dF n 4611686018427387904
 case true=>rfl
 simp only[o5]
 rw[nC d (by omega) (by omega),o7]
 cases h2:dF d 4611686018427387904
 case true=>rfl
 have b1:=iO h1
 have b2:=iO h2
 have a1:=dV n;have a2:=qg b1;have a3:=Fg hd;have a4:=qg b2
 have e0:=Int.ediv_nonneg a1 (show 0≤O0 d by omega)
 have e1:=Int.ediv_le_self (O0 d) a1
 have e2:=Int.emod_nonneg (O0 n) (show O0 d≠0 by omega)
 have e3:=Int.emod_lt_of_pos (O0 n) a3
 have q:=QO (O0 n / O0 d) (upS (O0 n / O0 d) (O0 n % O0 d) (O0 d) (D6 (dB (ilt n 0) (ilt d 0))) mode)
 simp only[o5]
 rw[uT (by omega) (by omega),o7,uT (by omega) (by omega),o7,GI a1 (by omega) a3,o7,tN a1 a3,o7,NW _ _ e0 (by omega) e2 e3 (by omega),o7,UN _ (by omega) (by omega)];rfl
theorem nJ {a b:Int} (ha:0≤a) (ha' :a≤9000000000000000000) (hb:0<b):iI .i64 a b=some (a / b):=by
 unfold iI
 rw[if_neg (by omega),cO ha]
 have h1:=Int.ediv_nonneg ha (show 0≤b by omega)
 have h2:=Int.ediv_le_self b ha
 rw[fA (by unfold I64;omega)]
theorem VN (n d mode:Int):pq n d mode=some (Zr n d mode):=by
 unfold pq Zr
 rw[JX,o7]
 cases gy mode
 ·rfl
 simp only[o9,o5,o6]
 cases hd:ieq d 0
 case true=>rfl
 rw[ww]at hd
 simp only[o5]
 rw[kK n (by omega) (by omega),o7]
 cases h1:dF n 4611686018427387904
 case true=>rfl
 simp only[o5]
 rw[kK d (by omega) (by omega),o7]
 cases h2:dF d 4611686018427387904
 case true=>rfl
 have b1:=iO h1
 have b2:=iO h2
 have a1:=dV n;have a2:=qg b1;have a3:=Fg hd;have a4:=qg b2
 have e0:=Int.ediv_nonneg a1 (show 0≤O0 d by omega)
 have e1:=Int.ediv_le_self (O0 d) a1
 have e2:=Int.emod_nonneg (O0 n) (show O0 d≠0 by omega)
 have e3:=Int.emod_lt_of_pos (O0 n) a3
 simp only[o5]
 rw[GV (by omega) (by omega),o7,GV (by omega) (by omega),o7,nJ a1 (by omega) a3,o7,tN a1 a3,o7,xB _ _ e0 (by omega) e2 e3 (by omega)];rfl
def toS (c u mode:Int):Int×Int:=l7 (gy mode) (l7 (ilt u 1) (0,12) (l7 (dF c 1000000000000000) (0,3) (l7 (ilt 1000000000000000 u) (0,3) (l7 (dF (N9 .i64 (rnd c u mode) u) 1000000000000000) (0,3) (N9 .i64 (rnd c u mode) u,0))))) (0,1)
theorem a0r (c u mode:Int):qZ c u mode=some (toS c u mode):=by
 unfold qZ toS
 rw[vS,o7]
 cases hm:gy mode
 ·rfl
 simp only[o9,o5,o6]
 cases hu:ilt u 1
 case true=>rfl
 rw[aV]at hu
 simp only[o5]
 rw[nC c (by omega) (by omega),o7]
 cases h1:dF c 1000000000000000
 case true=>rfl
 have b1:=iO h1
 simp only[o5]
 cases h2:ilt 1000000000000000 u
 case true=>rfl
 rw[aV]at h2
 simp only[o5]
 have n1:dF c 4611686018427387904=false:=Gx (by omega)
 have n2:dF u 4611686018427387904=false:=Gx (by omega)
 rw[Ap,o7]
 unfold Zr
 rw[hm,E5 (show u≠0 by omega),n1,n2]
 simp only[o6,o5,F5 (rfl:(0:Int)=0),o9]
 rw[nC _ (by omega) (by omega),o7]
 cases dF (N9 .i64 (rnd c u mode) u) 1000000000000000 <;> rfl
theorem Yo (c u mode:Int):rq c u mode=some (toS c u mode):=by
 unfold rq toS
 rw[JX,o7]
 cases hm:gy mode
 ·rfl
 simp only[o9,o5,o6]
 cases hu:ilt u 1
 case true=>rfl
 rw[aV]at hu
 simp only[o5]
 rw[kK c (by omega) (by omega),o7]
 cases h1:dF c 1000000000000000
 case true=>rfl
 have b1:=iO h1
 simp only[o5]
 cases h2:ilt 1000000000000000 u
 case true=>rfl
 rw[aV]at h2
 simp only[o5]
 have a1:=dV c;have a2:=qg b1
 have hu' :O0 u=u:=by unfold O0;rw[if_neg (by omega)]
 have e0:=Int.ediv_nonneg a1 (show 0≤u by omega)
 have e1:=Int.ediv_le_self u a1
 have e2:=Int.emod_nonneg (O0 c) (show u≠0 by omega)
 have e3:=Int.emod_lt_of_pos (O0 c) (show 0<u by omega)
 rw[GV (by omega) (by omega),o7,nJ a1 (by omega) (by omega),o7,tN a1 (by omega),o7,xB _ _ e0 (by omega) e2 e3 (by omega),o7]
 have hr:sg (q1 (O0 c / u) (upS (O0 c / u) (O0 c % u) u (ilt c 0) mode)) (ilt c 0)=rnd c u mode:=by
  unfold rnd
  rw[hu',show D6 (dB (ilt c 0) (ilt u 0))=ilt c 0 by rw[E9 (show(0:Int)≤u by omega)];cases ilt c 0 <;> rfl]
 rw[hr,kK _ (by omega) (by omega),o7]
 cases dF (N9 .i64 (rnd c u mode) u) 1000000000000000 <;> rfl
def mdS (c num den mode:Int):Int×Int:=l7 (gy mode) (l7 (ieq den 0) (0,12) (l7 (dF c 1000000000000000) (0,3) (l7 (dF num 1000000000) (0,3) (l7 (dF den 1000000000) (0,3)
 (l7 (ilt 1000000000000000 (q1 (O0 c*O0 num / O0 den) (upS (O0 c*O0 num / O0 den) (O0 c*O0 num % O0 den) (O0 den) (D6 (dB (D6 (dB (ilt c 0) (ilt num 0))) (ilt den 0))) mode))) (0,3)
  (sg (q1 (O0 c*O0 num / O0 den) (upS (O0 c*O0 num / O0 den) (O0 c*O0 num % O0 den) (O0 den) (D6 (dB (D6 (dB (ilt c 0) (ilt num 0))) (ilt den 0))) mode)) (D6 (dB (D6 (dB (ilt c 0) (ilt num 0))) (ilt den 0))),0)))))) (0,1)
theorem JM {a b:Int} (a0:0≤a) (a1:a<18446744073709551616) (b0:0≤b) (b1:b<18446744073709551616):kV a b=some (a*b / 18446744073709551616,a*b % 18446744073709551616):=by
 unfold kV
 rw[if_pos ⟨a0,a1,b0,b1⟩]
theorem a4p (c num den mode:Int):yD c num den mode=some (mdS c num den mode):=by
 unfold yD mdS
 rw[vS,o7]
 cases gy mode
 ·rfl
 simp only[o9,o5,o6]
 cases hd:ieq den 0
 case true=>rfl
 rw[ww]at hd
 simp only[o5]
 rw[nC c (by omega) (by omega),o7]
 cases h1:dF c 1000000000000000
 case true=>rfl
 rw[nC num (by omega) (by omega)]
 cases h2:dF num 1000000000
 case true=>rfl
 rw[nC den (by omega) (by omega)]
 cases h3:dF den 1000000000
 case true=>rfl
 have b1:=iO h1;have b2:=iO h2;have b3:=iO h3
 have a1:=dV c;have a2:=qg b1;have x1:=dV num;have x2:=qg b2;have d1:=Fg hd;have d2:=qg b3
 simp only[o5,o7,C9]
 rw[uT (by omega) (by omega),o7,uT (by omega) (by omega),o7,JM a1 (by omega) x1 (by omega),o7,uT (by omega) (by omega),o7]
 have hA:0≤O0 c*O0 num:=Int.mul_nonneg a1 x1
 generalize O0 c*O0 num=A at*
 generalize O0 den=b at*
 have hre:A / 18446744073709551616*18446744073709551616+A % 18446744073709551616=A:=by omega
 have q:=QO (A / b) (upS (A / b) (A % b) b (D6 (dB (D6 (dB (ilt c 0) (ilt num 0))) (ilt den 0))) mode)
 have hdm:=Int.ediv_mul_add_emod A b
 have e2:=Int.emod_nonneg A (show b≠0 by omega)
 have e3:=Int.emod_lt_of_pos A d1
 have e0:=Int.ediv_nonneg hA (show 0≤b by omega)
 by_cases hh:b≤A / 18446744073709551616
 ·have hge:18446744073709551616≤A / b:=Int.le_ediv_of_mul_le d1 (by omega)
  rw[H5 hh,F7 (show(1000000000000000:Int)<q1 (A / b) (upS (A / b) (A % b) b (D6 (dB (D6 (dB (ilt c 0) (ilt num 0))) (ilt den 0))) mode) by omega)];rfl
 ·rw[H7 (by omega),o5,PP (by omega) (by omega) (by omega) (by omega) (by omega),o7,hre]
  simp only
  by_cases hM:1000000000000000<A / b
  ·rw[F7 hM,F7 (show(1000000000000000:Int)<q1 (A / b) (upS (A / b) (A % b) b (D6 (dB (D6 (dB (ilt c 0) (ilt num 0))) (ilt den 0))) mode) by omega)];rfl
  ·rw[E9 (by omega),o5,NW _ _ e0 (by omega) e2 e3 (by omega),o7]
   cases hq:ilt 1000000000000000 (q1 (A / b) (upS (A / b) (A % b) b (D6 (dB (D6 (dB (ilt c 0) (ilt num 0))) (ilt den 0))) mode))
   ·rw[aV]at hq
    rw[o5,UN _ (by omega) (by omega)];rfl
   ·rfl
theorem a5N {q:Int} (h:0≤q) (neg:Bool) {m:Int} (hm:0≤m):dF (sg q neg) m=ilt m q:=by
 rw[Bool.eq_iff_iff,Jl,dZ]
 unfold sg
 cases neg <;> simp only[o6,o5] <;> omega
theorem a0l (c num den mode:Int):yG c num den mode=some (mdS c num den mode):=by
 unfold yG mdS
 rw[JX,o7]
 cases gy mode
 ·rfl
 simp only[o9,o5,o6]
 cases hd:ieq den 0
 case true=>rfl
 rw[ww]at hd
 simp only[o5]
 rw[kK c (by omega) (by omega),o7]
 cases h1:dF c 1000000000000000
 case true=>rfl
 rw[kK num (by omega) (by omega)]
 cases h2:dF num 1000000000
 case true=>rfl
 rw[kK den (by omega) (by omega)]
 cases h3:dF den 1000000000
 case true=>rfl
 have b1:=iO h1;have b2:=iO h2;have b3:=iO h3
 have a1:=dV c;have a2:=qg b1;have x1:=dV num;have x2:=qg b2;have d1:=Fg hd;have d2:=qg b3
 simp only[o5,o7,C9]
 rw[GV (by omega) (by omega),o7,GV (by omega) (by omega),o7,GV (by omega) (by omega),o7]
 generalize D6 (dB (D6 (dB (ilt c 0) (ilt num 0))) (ilt den 0))=neg
 generalize O0 c=a at*
 generalize O0 num=x at*
 generalize O0 den=b at*
 have hdm:=Int.ediv_mul_add_emod a b
 have f0:=Int.ediv_nonneg a1 (show 0≤b by omega)
 have f1:=Int.emod_nonneg a (show b≠0 by omega)
 have f2:=Int.emod_lt_of_pos a d1
 have m1:0≤a % b*x:=Int.mul_nonneg f1 x1
 have m2:a % b*x≤1000000000*1000000000:=Int.mul_le_mul (by omega) x2 x1 (by omega)
 have m3:0≤a / b*x:=Int.mul_nonneg f0 x1
 have hA:a*x=a / b*x*b+a % b*x:=by
  calc a*x=(a / b*b+a % b)*x:=by rw[hdm]
   _=_:=by rw[Int.add_mul,Int.mul_right_comm]
 have hQ:a*x / b=a / b*x+a % b*x / b:=by
  rw[hA,Int.add_comm,Int.add_mul_ediv_right _ _ (by omega),Int.add_comm]
 have hR:a*x % b=a % b*x % b:=by
  rw[hA,Int.add_comm,Int.add_mul_emod_self_right]
 have g0:=Int.ediv_nonneg m1 (show 0≤b by omega)
 have g1:=Int.ediv_le_self b m1
 have g2:=Int.emod_nonneg (a % b*x) (show b≠0 by omega)
 have g3:=Int.emod_lt_of_pos (a % b*x) d1
 have tail:a / b*x≤1000000000000000→(l9 (kQ a b) fun(x_5:Int)=>l9 (some (a / b)) fun(x_8:Int)=>l9 (iI .i64 (N9 .i64 x_5 x) b) fun(x_6:Int)=>l9 (kQ (N9 .i64 x_5 x) b) fun(x_7:Int)=>
   l9 (eF (x8 .i64 (N9 .i64 x_8 x) x_6) x_7 b neg mode) fun(x_9:Int)=>l9 (aX x_9 1000000000000000) fun(x_8:Bool)=>l7 x_8 (some ((0:Int),(3:Int))) (some (x_9,0)))=
   some (l7 (ilt 1000000000000000 (q1 (a*x / b) (upS (a*x / b) (a*x % b) b neg mode))) (0,3) (sg (q1 (a*x / b) (upS (a*x / b) (a*x % b) b neg mode)) neg,0)):=by
  intro hle
  have q:=QO (a / b*x+a % b*x / b) (upS (a / b*x+a % b*x / b) (a % b*x % b) b neg mode)
  rw[tN a1 d1,o7,o7,eG (show I64 (a % b*x) by unfold I64;omega),nJ m1 (by omega) d1,o7,tN m1 d1,o7,eG (show I64 (a / b*x) by unfold I64;omega),N7 (show I64 (a / b*x+a % b*x / b) by unfold I64;omega),
   xB _ _ (by omega) (by omega) g2 g3 (by omega),o7,kK _ (by omega) (by omega),o7,a5N (by omega) _ (by omega),hQ,hR]
  cases ilt 1000000000000000 (q1 (a / b*x+a % b*x / b) (upS (a / b*x+a % b*x / b) (a % b*x % b) b neg mode)) <;> rfl
 by_cases hx:0<x
 ·rw[F7 hx,o6,nJ a1 (by omega) d1,o7,nJ (by omega) (by omega) hx,o7]
  have hMx:=Int.ediv_mul_add_emod 1000000000000000 x
  have hMr:=Int.emod_lt_of_pos 1000000000000000 hx
  have hMr0:=Int.emod_nonneg 1000000000000000 (show x≠0 by omega)
  by_cases hc:1000000000000000 / x<a / b
  ·have:=Int.mul_le_mul_of_nonneg_right (show 1000000000000000 / x+1≤a / b by omega) x1
   rw[Int.add_mul,Int.one_mul]at this
   have q:=QO (a*x / b) (upS (a*x / b) (a*x % b) b neg mode)
   rw[F7 hc,F7 (show(1000000000000000:Int)<q1 (a*x / b) (upS (a*x / b) (a*x % b) b neg mode) by omega)];rfl
  ·have:=Int.mul_le_mul_of_nonneg_right (show a / b≤1000000000000000 / x by omega) x1
   rw[E9 (by omega),o5]
   exact tail (by omega)
 ·have:x=0:=by omega
  rw[E9 (by omega),o5,nJ a1 (by omega) d1]
  exact tail (by subst this;simp)
theorem a5H (c r mode:Int):zK c r mode=some (mdS c r 1000000 mode):=by
 unfold zK;rw[a4p];rfl
theorem a4L (c r mode:Int):xE c r mode=some (mdS c r 1000000 mode):=by
 unfold xE;rw[a0l];rfl
theorem Xu {n d:Int} (h1:-9000000000000000000≤n) (h2:n≤9000000000000000000) (hd:0<d) (hd2:d≤9000000000000000000):pz n d=some (n / d,n % d):=by
 unfold pz iI kQ
 rw[if_neg (by omega),if_neg (by omega),o7,o7]
 by_cases h0:0≤n
 ·have e0:=Int.ediv_nonneg h0 (show 0≤d by omega)
  have e1:=Int.ediv_le_self d h0
  have e2:=Int.emod_nonneg n (show d≠0 by omega)
  rw[cO h0,Int.tmod_eq_emod_of_nonneg h0,fA (by unfold I64;omega),E9 e2];rfl
 ·obtain⟨m,hm⟩:∃m,m=-n:=⟨_,rfl⟩
  have hn:n=-m:=by omega
  subst hn
  have e0:=Int.ediv_nonneg (show 0≤m by omega) (show 0≤d by omega)
  have e1:=Int.ediv_le_self d (show 0≤m by omega)
  have e2:=Int.emod_nonneg m (show d≠0 by omega)
  have e3:=Int.emod_lt_of_pos m hd
  have hdm:=Int.ediv_mul_add_emod m d
  rw[Int.neg_tdiv,Int.neg_tmod,cO (by omega),Int.tmod_eq_emod_of_nonneg (by omega),fA (by unfold I64;omega)]
  by_cases hz:m % d=0
  ·rw[hz,show -(0:Int)=0 from rfl,E9 (by omega),o5]
   have hme:-m=0+(-(m / d))*d:=by rw[Int.neg_mul];omega
   have q1:-m / d=-(m / d):=by rw[hme,Int.add_mul_ediv_right _ _ (by omega)];simp
   have q2:-m % d=0:=by rw[hme,Int.add_mul_emod_self_right];simp
   rw[q1,q2]
  ·rw[F7 (by omega),o6,J4 (by unfold I64;omega),N7 (by unfold I64;omega)]
   have hme:-m=(d -m % d)+(-(m / d) -1)*d:=by rw[Int.sub_mul,Int.neg_mul,Int.one_mul];omega
   have q1:-m / d=-(m / d) -1:=by
    rw[hme,Int.add_mul_ediv_right _ _ (by omega),Int.ediv_eq_zero_of_lt (by omega) (by omega)];omega
   have q2:-m % d=d -m % d:=by
    rw[hme,Int.add_mul_emod_self_right,Int.emod_eq_of_lt (by omega) (by omega)]
   rw[q1,q2,show -(m % d)+d=d -m % d by omega]
theorem AL {m:Int} (h:gy m=true):m=0∨m=1∨m=2∨m=3∨m=4∨m=5:=by
 unfold gy at h
 cases h0:ile 0 m <;> rw[h0]at h
 ·cases h
 ·simp only[o6]at h;rw[jv]at h0 h;omega
theorem Bd {n d mode:Int} (h1:-9000000000000000000≤n / d) (h2:n / d≤9000000000000000000) (hd:0<d) (hd2:d≤9000000000000000000) (hm:gy mode=true):U6 (n / d) (n % d) d mode=some (rnd n d mode):=by
 have hdm:=Int.ediv_mul_add_emod n d
 have f0:=Int.emod_nonneg n (show d≠0 by omega)
 have f1:=Int.emod_lt_of_pos n hd
 have hid:O0 d=d:=by unfold O0;rw[if_neg (by omega)]
 have hneg:D6 (dB (ilt n 0) (ilt d 0))=ilt n 0:=by rw[E9 (show(0:Int)≤d by omega)];cases ilt n 0 <;> rfl
 unfold rnd
 rw[hid,hneg]
 have R0:∀F R:Int,U6 F R d 0=l7 (ieq R 0) (some F) (some F):=fun F R=>rfl
 have R1:∀F R:Int,U6 F R d 1=l7 (ieq R 0) (some F) (some (x8 .i64 F 1)):=fun F R=>rfl
 have R2:∀F R:Int,U6 F R d 2=l7 (ieq R 0) (some F) (l9 (l7 (ilt F 0) (some true) (some false)) fun x=>l7 x (some (x8 .i64 F 1)) (some F)):=fun F R=>rfl
 have R3:∀F R:Int,U6 F R d 3=l7 (ieq R 0) (some F) (l9 (some (ile 0 F)) fun x=>l7 x (some (x8 .i64 F 1)) (some F)):=fun F R=>rfl
 have R4:∀F R:Int,U6 F R d 4=l7 (ieq R 0) (some F) (l7 (ieq R (G8 .i64 d R)) (l7 (ile 0 F) (some (x8 .i64 F 1)) (some F)) (l7 (ilt (G8 .i64 d R) R) (some (x8 .i64 F 1)) (some F))):=fun F R=>rfl
 have R5:∀F R:Int,U6 F R d 5=l7 (ieq R 0) (some F) (l7 (ieq R (G8 .i64 d R)) (l7 (D6 (ieq (X5 F 2) 0)) (some (x8 .i64 F 1)) (some F)) (l7 (ilt (G8 .i64 d R) R) (some (x8 .i64 F 1)) (some F))):=fun F R=>rfl
 have u0:∀q r:Int,∀b,upS q r d b 0=l7 (ieq r 0) false b:=fun q r b=>rfl
 have u1:∀q r:Int,∀b,upS q r d b 1=l7 (ieq r 0) false (D6 b):=fun q r b=>rfl
 have u2:∀q r:Int,∀b,upS q r d b 2=l7 (ieq r 0) false false:=fun q r b=>rfl
 have u3:∀q r:Int,∀b,upS q r d b 3=l7 (ieq r 0) false true:=fun q r b=>rfl
 have u4:∀q r:Int,∀b,upS q r d b 4=l7 (ieq r 0) false (ile (d -r) r):=fun q r b=>rfl
 have u5:∀q r:Int,∀b,upS q r d b 5=l7 (ieq r 0) false (l7 (ilt (d -r) r) true (l7 (ieq r (d -r)) (ieq (X5 q 2) 1) false)):=fun q r b=>rfl
 by_cases h0:0≤n
 ·have e0:=Int.ediv_nonneg h0 (show 0≤d by omega)
  have e1:=Int.ediv_le_self d h0
  rw[show O0 n=n by unfold O0;rw[if_neg (by omega)],E9 h0]
  have hi:x8 .i64 (n / d) 1=n / d+1:=N7 (by unfold I64;omega)
  have hs:G8 .i64 d (n % d)=d -n % d:=J4 (by unfold I64;omega)
  have hir:X5 (n / d) 2=(n / d) % 2:=qW e0
  generalize n / d=F at*
  generalize n % d=R at*
  rcases AL hm with rfl | rfl | rfl | rfl | rfl | rfl
  ·rw[R0,u0];cases ieq R 0 <;> rfl
  ·rw[R1,u1,hi];cases ieq R 0 <;> rfl
  ·rw[R2,u2,hi,E9 e0];cases ieq R 0 <;> rfl
  ·rw[R3,u3,hi,H5 e0];cases ieq R 0 <;> rfl
  ·rw[R4,u4,hi,hs,H5 e0]
   cases ieq R 0
   case true=>rfl
   by_cases ht:R=d -R
   ·rw[F5 ht,H5 (show d -R≤R by omega)];rfl
   ·rw[E5 ht]
    by_cases hl:d -R<R
    ·rw[F7 hl,H5 (show d -R≤R by omega)];rfl
    ·rw[E9 (show R≤d -R by omega),H7 (show R<d -R by omega)];rfl
  ·rw[R5,u5,hi,hs,hir]
   cases ieq R 0
   case true=>rfl
   by_cases ht:R=d -R
   ·rw[F5 ht,E9 (show R≤d -R by omega)]
    by_cases hp:F % 2=0
    ·rw[F5 hp,E5 (show F % 2≠1 by omega)];rfl
    ·rw[E5 hp,F5 (show F % 2=1 by omega)];rfl
   ·rw[E5 ht]
    by_cases hl:d -R<R
    ·rw[F7 hl];rfl
    ·rw[E9 (show R≤d -R by omega)];rfl
 ·obtain⟨m,hmm⟩:∃m,m=-n:=⟨_,rfl⟩
  have e0:=Int.ediv_nonneg (show 0≤m by omega) (show 0≤d by omega)
  have e1:=Int.ediv_le_self d (show 0≤m by omega)
  have e2:=Int.emod_nonneg m (show d≠0 by omega)
  have e3:=Int.emod_lt_of_pos m hd
  have hdm2:=Int.ediv_mul_add_emod m d
  rw[show O0 n=m by unfold O0;rw[if_pos (by omega)];omega,F7 (by omega)]
  by_cases hz:m % d=0
  ·have hne:n=0+(-(m / d))*d:=by rw[Int.neg_mul];omega
   have q1:n / d=-(m / d):=by rw[hne,Int.add_mul_ediv_right _ _ (by omega)];simp
   have q2:n % d=0:=by rw[hne,Int.add_mul_emod_self_right];simp
   rw[q1,q2,hz]
   rcases AL hm with rfl | rfl | rfl | rfl | rfl | rfl <;> rfl
  ·have hne:n=(d -m % d)+(-(m / d) -1)*d:=by rw[Int.sub_mul,Int.neg_mul,Int.one_mul];omega
   have q1:n / d=-(m / d) -1:=by
    rw[hne,Int.add_mul_ediv_right _ _ (by omega),Int.ediv_eq_zero_of_lt (by omega) (by omega)];omega
   have q2:n % d=d -m % d:=by
    rw[hne,Int.add_mul_emod_self_right,Int.emod_eq_of_lt (by omega) (by omega)]
   rw[q1]at h1 h2
   rw[q1,q2]
   generalize m / d=q at*
   generalize m % d=r at*
   have hi:x8 .i64 (-q -1) 1=-q:=by rw[N7 (by unfold I64;omega)];omega
   have hs:G8 .i64 d (d -r)=r:=by rw[J4 (by unfold I64;omega)];omega
   have hF:∀k:Int,Go.GP.q1 q false=q∧Go.GP.q1 q true=q+1:=fun k=>⟨rfl,rfl⟩
   have sg1:sg (Go.GP.q1 q true) true=-q -1:=by show -(q+1)=-q -1;omega
   have sg0:sg (Go.GP.q1 q false) true=-q:=rfl
   have hr0:ieq (d -r) 0=false:=E5 (by omega)
   have hr1:ieq r 0=false:=E5 hz
   rcases AL hm with rfl | rfl | rfl | rfl | rfl | rfl
   ·rw[R0,u0,hr0,hr1,o5,o5,sg1]
   ·rw[R1,u1,hi,hr0,hr1,o5,o5,o9,sg0]
   ·rw[R2,u2,hi,hr0,hr1,o5,o5,sg0,F7 (by omega)];rfl
   ·rw[R3,u3,hi,hr0,hr1,o5,o5,sg1,H7 (by omega)];rfl
   ·rw[R4,u4,hi,hs,hr0,hr1,o5,o5,H7 (show -q -1<0 by omega)]
    by_cases ht:d -r=r
    ·rw[F5 ht,H5 (show d -r≤r by omega),sg1];rfl
    ·rw[E5 ht]
     by_cases hl:r<d -r
     ·rw[F7 hl,H7 hl,sg0];rfl
     ·rw[E9 (show d -r≤r by omega),H5 (show d -r≤r by omega),sg1];rfl
   ·rw[R5,u5,hi,hs,hr0,hr1,o5,o5]
    by_cases ht:d -r=r
    ·rw[F5 ht,E9 (show r≤d -r by omega),F5 ht.symm]
     have hodd:X5 (-q -1) 2=-((q+1) % 2):=by
      unfold X5
      rw[show -q -1=-(q+1) by omega,Int.neg_tmod,Int.tmod_eq_emod_of_nonneg (by omega)]
     have hir:X5 q 2=q % 2:=qW e0
     rw[hodd,hir]
     simp only[o6,o5]
     by_cases hp:q % 2=1
     ·rw[F5 (show -((q+1) % 2)=0 by omega),F5 hp,sg1];rfl
     ·rw[E5 (show -((q+1) % 2)≠0 by omega),E5 hp,sg0];rfl
    ·rw[E5 ht,E5 (show r≠d -r by omega)]
     by_cases hl:r<d -r
     ·rw[F7 hl,E9 (show r≤d -r by omega)]
      simp only[o6,o5];rw[sg0]
     ·rw[E9 (show d -r≤r by omega),F7 (show d -r<r by omega)]
      simp only[o6,o5];rw[sg1]
def a2T (a b mode:Int):Int×Int:=l7 (gy mode) (l7 (dF a 1000000000) (0,3) (l7 (dF b 1000000000) (0,3) (l7 (dF (rnd (a*b) 1000000 mode) 1000000000) (0,3) (rnd (a*b) 1000000 mode,0)))) (0,1)
theorem a2m {a b A B:Int} (h1:-A≤a∧a≤A) (h2:-B≤b∧b≤B):-(A*B)≤a*b∧a*b≤A*B:=by
 have hA:0≤A:=by omega
 have hB:0≤B:=by omega
 have k1:a*b≤A*B∧-(A*B)≤a*b:=by
  rcases Hl a 0 with ha | ha
  ·have e:a*b=-((-a)*b):=by rw[Int.neg_mul];omega
   rcases Hl b 0 with hb | hb
   ·have e2:a*b=(-a)*(-b):=by rw[Int.neg_mul_neg]
    have:=Int.mul_le_mul (show -a≤A by omega) (show -b≤B by omega) (by omega) hA
    have:=Int.mul_nonneg (show 0≤-a by omega) (show 0≤-b by omega)
    have:=Int.mul_nonneg hA hB
    omega
   ·have:=Int.mul_le_mul (show -a≤A by omega) h2.2 hb hA
    have:=Int.mul_nonneg (show 0≤-a by omega) hb
    have:=Int.mul_nonneg hA hB
    omega
  ·rcases Hl b 0 with hb | hb
   ·have e:a*b=-(a*(-b)):=by rw[Int.mul_neg];omega
    have:=Int.mul_le_mul h1.2 (show -b≤B by omega) (by omega) hA
    have:=Int.mul_nonneg ha (show 0≤-b by omega)
    have:=Int.mul_nonneg hA hB
    omega
   ·have:=Int.mul_le_mul h1.2 h2.2 hb hA
    have:=Int.mul_nonneg ha hb
    have:=Int.mul_nonneg hA hB
    omega
 exact⟨k1.2,k1.1⟩
theorem b1b (a b mode:Int):FN a b mode=some (a2T a b mode):=by
 unfold FN a2T
 rw[NS,o7]
 cases hm:gy mode
 ·rfl
 simp only[o9,o5,o6]
 rw[rf a (by omega) (by omega),o7]
 cases h1:dF a 1000000000
 case true=>rfl
 simp only[o5]
 rw[rf b (by omega) (by omega),o7]
 cases h2:dF b 1000000000
 case true=>rfl
 simp only[o5]
 have pb:=a2m (iO h1) (iO h2)
 rw[eG (by unfold I64;omega),Ap,o7]
 unfold Zr
 rw[hm,E5 (show(1000000:Int)≠0 by decide),Gx (by omega),Gx (by omega)]
 simp only[o6,o5,F5 (rfl:(0:Int)=0),o9]
 rw[rf _ (by omega) (by omega),o7]
 cases dF (rnd (a*b) 1000000 mode) 1000000000 <;> rfl
theorem XU {m:Int} {A B:Option (PUnit⊕(Int×Int))} :l7 (ilt m 0) A (l7 (ilt 5 m) A B)=l7 (gy m) B A:=by
 unfold gy
 rw[iQ m 0,iQ 5 m]
 cases ile 0 m <;> cases ile m 5 <;> rfl
theorem a7o (a b mode:Int):CU a b mode=some (a2T a b mode):=by
 unfold CU a2T
 have hmode:∀A B:Option (Int×Int),l7 (ilt mode 0) A (l7 (ilt 5 mode) A B)=l7 (gy mode) B A:=fun A B=>by
  unfold gy
  rw[iQ mode 0,iQ 5 mode]
  cases ile 0 mode <;> cases ile mode 5 <;> rfl
 rw[hmode]
 cases hm:gy mode
 ·rfl
 simp only[o6]
 rw[oV a (by omega) (by omega),o7]
 cases h1:dF a 1000000000
 case true=>rfl
 simp only[o5]
 rw[oV b (by omega) (by omega),o7]
 cases h2:dF b 1000000000
 case true=>rfl
 simp only[o5]
 have pb:=a2m (iO h1) (iO h2)
 rw[eG (by unfold I64;omega),Xu (by omega) (by omega) (by omega) (by omega),o7]
 simp only
 rw[Bd (by omega) (by omega) (by omega) (by omega) hm,o7,oV _ (by omega) (by omega),o7]
 cases dF (rnd (a*b) 1000000 mode) 1000000000 <;> rfl
theorem a0q {n d:Int} (mode:Int) (hd:0<d):n / d≤rnd n d mode∧rnd n d mode≤n / d+1:=by
 have hid:O0 d=d:=by unfold O0;rw[if_neg (by omega)]
 have hneg:D6 (dB (ilt n 0) (ilt d 0))=ilt n 0:=by rw[E9 (show(0:Int)≤d by omega)];cases ilt n 0 <;> rfl
 unfold rnd
 rw[hid,hneg]
 by_cases h0:0≤n
 ·rw[show O0 n=n by unfold O0;rw[if_neg (by omega)],E9 h0]
  exact QO _ _
 ·obtain⟨m,hmm⟩:∃m,m=-n:=⟨_,rfl⟩
  have e2:=Int.emod_nonneg m (show d≠0 by omega)
  have e3:=Int.emod_lt_of_pos m hd
  have hdm2:=Int.ediv_mul_add_emod m d
  rw[show O0 n=m by unfold O0;rw[if_pos (by omega)];omega,F7 (by omega)]
  have hq:=QO (m / d) (upS (m / d) (m % d) d true mode)
  by_cases hz:m % d=0
  ·have hne:n=0+(-(m / d))*d:=by rw[Int.neg_mul];omega
   have q1:n / d=-(m / d):=by rw[hne,Int.add_mul_ediv_right _ _ (by omega)];simp
   have hu:upS (m / d) (m % d) d true mode=false:=by unfold upS;rw[F5 hz];rfl
   rw[q1,hu]
   show -(m / d)≤-(m / d)∧-(m / d)≤-(m / d)+1
   omega
  ·have hne:n=(d -m % d)+(-(m / d) -1)*d:=by rw[Int.sub_mul,Int.neg_mul,Int.one_mul];omega
   have q1:n / d=-(m / d) -1:=by
    rw[hne,Int.add_mul_ediv_right _ _ (by omega),Int.ediv_eq_zero_of_lt (by omega) (by omega)];omega
   rw[q1]
   show -(m / d) -1≤-(Go.GP.q1 _ _)∧-(Go.GP.q1 _ _)≤_
   omega
theorem b1c (n d mode:Int) (hd:d<0):rnd n d mode=rnd (-n) (-d) mode:=by
 have e1:O0 (-n)=O0 n:=by unfold O0;split <;> split <;> omega
 have e2:O0 (-d)=O0 d:=by unfold O0;rw[if_neg (by omega),if_pos hd]
 unfold rnd
 rw[e1,e2,F7 hd,E9 (show 0≤-d by omega)]
 by_cases h0:n=0
 ·subst h0
  have hz:O0 0=0:=rfl
  rw[hz,Int.zero_ediv,Int.zero_emod]
  have hu:∀b,upS 0 0 (O0 d) b mode=false:=fun b=>rfl
  rw[hu,hu];rfl
 ·by_cases h1:n<0
  ·rw[F7 h1,E9 (show 0≤-n by omega)];rfl
  ·rw[E9 (by omega),F7 (show -n<0 by omega)];rfl
def b0R (num den mode:Int):Int×Int:=l7 (gy mode) (l7 (ieq den 0) (0,12) (l7 (dF num 1000000000000000) (0,3) (l7 (dF den 1000000000000000) (0,3) (l7 (dF (rnd (num*1000000) den mode) 1000000000) (0,3) (rnd (num*1000000) den mode,0))))) (0,1)
theorem JC {n:Int} (h:-9000000000000000000≤n) (h2:n≤9000000000000000000):wrap .u64 (fO n (G8 .i64 0 n))=O0 n:=by
 rw[J4 (by unfold I64;omega)]
 unfold fO O0
 by_cases h0:n<0
 ·rw[if_pos (by omega),if_pos h0,show(0:Int) -n=-n by omega]
  exact xY (by omega) (by omega)
 ·rw[if_neg h0]
  by_cases hz:n=0
  ·subst hz;rfl
  ·rw[if_neg (by omega)];exact xY (by omega) (by omega)
theorem Vm (num den mode:Int):oZ num den mode=some (b0R num den mode):=by
 unfold oZ b0R
 rw[NS,o7]
 cases hm:gy mode
 ·rfl
 simp only[o9,o5,o6]
 cases hd:ieq den 0
 case true=>rfl
 rw[ww]at hd
 simp only[o5]
 rw[rf num (by omega) (by omega),o7]
 cases h1:dF num 1000000000000000
 case true=>rfl
 simp only[o5]
 rw[rf den (by omega) (by omega),o7]
 cases h2:dF den 1000000000000000
 case true=>rfl
 simp only[o5]
 have b1:=iO h1;have b2:=iO h2
 have a1:=dV num;have a2:=qg b1;have d1:=Fg hd;have d2:=qg b2
 rw[JC (by omega) (by omega),JC (by omega) (by omega),JM a1 (by omega) (by omega) (by omega),o7]
 have hN:O0 (num*1000000)=O0 num*1000000:=by unfold O0;split <;> split <;> omega
 have hsgn:ilt (num*1000000) 0=ilt num 0:=by
  by_cases h:num<0
  ·rw[F7 h,F7 (by omega)]
  ·rw[E9 (by omega),E9 (by omega)]
 have hA:0≤O0 num*1000000:=by omega
 have hrn:rnd (num*1000000) den mode=sg (q1 (O0 num*1000000 / O0 den) (upS (O0 num*1000000 / O0 den) (O0 num*1000000 % O0 den) (O0 den) (D6 (dB (ilt num 0) (ilt den 0))) mode)) (D6 (dB (ilt num 0) (ilt den 0))):=by
  unfold rnd;rw[hN,hsgn]
 rw[hrn]
 have hA2:O0 num*1000000<18446744073709551616*1000:=by omega
 generalize O0 num*1000000=A at*
 generalize O0 den=b at*
 generalize D6 (dB (ilt num 0) (ilt den 0))=neg at*
 have hre:A / 18446744073709551616*18446744073709551616+A % 18446744073709551616=A:=by omega
 have q:=QO (A / b) (upS (A / b) (A % b) b neg mode)
 have e0:=Int.ediv_nonneg hA (show 0≤b by omega)
 have e2:=Int.emod_nonneg A (show b≠0 by omega)
 have e3:=Int.emod_lt_of_pos A d1
 rw[a5N (by omega) _ (by omega)]
 by_cases hh:b≤A / 18446744073709551616
 ·have hge:18446744073709551616≤A / b:=Int.le_ediv_of_mul_le d1 (by omega)
  rw[H5 hh,F7 (show(1000000000:Int)<q1 (A / b) (upS (A / b) (A % b) b neg mode) by omega)];rfl
 ·rw[H7 (by omega),o5,PP (by omega) (by omega) (by omega) (by omega) (by omega),o7,hre]
  simp only
  by_cases hM:1000000000<A / b
  ·rw[F7 hM,F7 (show(1000000000:Int)<q1 (A / b) (upS (A / b) (A % b) b neg mode) by omega)];rfl
  ·have w1:wrap .i64 (A / b)=A / b:=fA (by unfold I64;omega)
   have w2:x8 .i64 (A / b) 1=A / b+1:=N7 (by unfold I64;omega)
   have w3:G8 .i64 0 (A / b+1)=-(A / b+1):=by rw[J4 (by unfold I64;omega)];omega
   have w4:G8 .i64 0 (A / b)=-(A / b):=by rw[J4 (by unfold I64;omega)];omega
   rw[E9 (by omega),o5,Yy _ _ e2 e3 (by omega),o7,w1,w2,w3,w4]
   unfold Go.GP.q1 sg
   cases upS (A / b) (A % b) b neg mode
   ·simp only[o5]
    cases ilt 1000000000 (A / b) <;> cases neg <;> rfl
   ·simp only[o6]
    cases ilt 1000000000 (A / b+1) <;> cases neg <;> rfl
theorem QX {n d mode:Int} (h1:-1000000000000000≤n) (h2:n≤1000000000000000) (hd:0<d) (hd2:d≤1000000000000000) (hm:gy mode=true):
  (l9 (pz n d) fun(x:Int×Int)=>l9 (bU x.1 1001) fun(x_1:Bool)=>l7 x_1 (some ((0:Int),(3:Int))) (l9 (iI .i64 (N9 .i64 x.2 1000) d) fun(x_2:Int)=>l9 (kQ (N9 .i64 x.2 1000) d) fun(x_3:Int)=>
   l9 (iI .i64 (N9 .i64 x_3 1000) d) fun(x_4:Int)=>l9 (kQ (N9 .i64 x_3 1000) d) fun(x_5:Int)=>l9 (U6 (x8 .i64 (x8 .i64 (N9 .i64 x.1 1000000) (N9 .i64 x_2 1000)) x_4) x_5 d mode) fun(x:Int)=>
    l9 (bU x 1000000000) fun(x_6:Bool)=>l7 x_6 (some (0,3)) (some (x,0))))=some (l7 (dF (rnd (n*1000000) d mode) 1000000000) (0,3) (rnd (n*1000000) d mode,0)):=by
 have hdm:=Int.ediv_mul_add_emod n d
 have r0:=Int.emod_nonneg n (show d≠0 by omega)
 have r1:=Int.emod_lt_of_pos n hd
 have hrb:=a0q (n:=n*1000000) mode hd
 rw[Xu (by omega) (by omega) hd (by omega),o7]
 simp only
 rw[oV _ (by omega) (by omega),o7]
 have hN:n*1000000=n % d*1000000+(n / d*1000000)*d:=by rw[Int.mul_right_comm];omega
 have hF:n*1000000 / d=n % d*1000000 / d+n / d*1000000:=by rw[hN,Int.add_mul_ediv_right _ _ (by omega)]
 have hR:n*1000000 % d=n % d*1000000 % d:=by rw[hN,Int.add_mul_emod_self_right]
 have s0:0≤n % d*1000000 / d:=Int.ediv_nonneg (by omega) (by omega)
 have s1:n % d*1000000 / d<1000000:=Int.ediv_lt_of_lt_mul hd (by omega)
 cases hb:dF (n / d) 1001
 case true=>
  have hbb:=Zj hb
  have:dF (rnd (n*1000000) d mode) 1000000000=true:=Jl.2 (by omega)
  rw[this];rfl
 have bb:=iO hb
 simp only[o5]
 generalize n % d=r at*
 generalize n / d=q at*
 have t1:N9 .i64 r 1000=r*1000:=eG (by unfold I64;omega)
 have e1:=Int.ediv_mul_add_emod (r*1000) d
 have e2:=Int.emod_nonneg (r*1000) (show d≠0 by omega)
 have e3:=Int.emod_lt_of_pos (r*1000) hd
 have e4:=Int.ediv_nonneg (show 0≤r*1000 by omega) (show 0≤d by omega)
 have e5:r*1000 / d<1000:=Int.ediv_lt_of_lt_mul hd (by omega)
 rw[t1,nJ (by omega) (by omega) hd,o7,tN (by omega) hd,o7]
 generalize hr1:r*1000 % d=r1 at*
 generalize ha:r*1000 / d=a at*
 have t2:N9 .i64 r1 1000=r1*1000:=eG (by unfold I64;omega)
 have f1:=Int.ediv_mul_add_emod (r1*1000) d
 have f2:=Int.emod_nonneg (r1*1000) (show d≠0 by omega)
 have f3:=Int.emod_lt_of_pos (r1*1000) hd
 have f4:=Int.ediv_nonneg (show 0≤r1*1000 by omega) (show 0≤d by omega)
 have f5:r1*1000 / d<1000:=Int.ediv_lt_of_lt_mul hd (by omega)
 rw[t2,nJ (by omega) (by omega) hd,o7,tN (by omega) hd,o7]
 have hr6:r*1000000=r1*1000+(a*1000)*d:=by rw[Int.mul_right_comm];omega
 have hF2:r*1000000 / d=r1*1000 / d+a*1000:=by rw[hr6,Int.add_mul_ediv_right _ _ (by omega)]
 have hR2:r*1000000 % d=r1*1000 % d:=by rw[hr6,Int.add_mul_emod_self_right]
 rw[eG (show I64 (q*1000000) by unfold I64;omega),eG (show I64 (a*1000) by unfold I64;omega),N7 (show I64 (q*1000000+a*1000) by unfold I64;omega),N7 (show I64 (q*1000000+a*1000+r1*1000 / d) by unfold I64;omega)]
 rw[show q*1000000+a*1000+r1*1000 / d=n*1000000 / d by rw[hF,hF2];omega,show r1*1000 % d=n*1000000 % d by rw[hR,hR2]]
 rw[Bd (by rw[hF];omega) (by rw[hF];omega) hd (by omega) hm,o7,oV _ (by omega) (by omega),o7]
 cases dF (rnd (n*1000000) d mode) 1000000000 <;> rfl
theorem Ti (num den mode:Int):nz num den mode=some (b0R num den mode):=by
 unfold nz b0R
 rw[XU]
 cases hm:gy mode
 ·rfl
 simp only[o6,o7,C9]
 cases hd:ieq den 0
 case true=>rfl
 rw[ww]at hd
 simp only[o5]
 rw[oV num (by omega) (by omega),o7]
 cases h1:dF num 1000000000000000
 case true=>rfl
 simp only[o5]
 rw[oV den (by omega) (by omega),o7]
 cases h2:dF den 1000000000000000
 case true=>rfl
 simp only[o5]
 have b1:=iO h1;have b2:=iO h2
 by_cases hn:den<0
 ·rw[F7 hn,o6,J4 (show I64 (0 -num) by unfold I64;omega),J4 (show I64 (0 -den) by unfold I64;omega),show(0:Int) -num=-num by omega,show(0:Int) -den=-den by omega,b1c _ _ _ hn,show -(num*1000000)=-num*1000000 by rw[Int.neg_mul]]
  exact QX (by omega) (by omega) (by omega) (by omega) hm
 ·rw[E9 (by omega),o5]
  exact QX (by omega) (by omega) (by omega) (by omega) hm
def xu (len n:Int):Int×Int×Bool:=l7 (ilt 1000000000000000 (len*O0 n / 1000000)) (0,0,false) (l7 (ilt n 0) (-(len*O0 n / 1000000),-(len*O0 n % 1000000),true) (len*O0 n / 1000000,len*O0 n % 1000000,true))
theorem b0z {len n:Int} (h1:1≤len) (h2:len≤1000000000000000) (hn:I64 n):mW len n=some (xu len n):=by
 unfold I64 at hn
 have key:∀m:Int,m=O0 n→(l9 (kV (wrap .u64 len) m) fun(x:Int×Int)=>l7 (ile 1000000 x.1) (some ((0:Int),(0:Int),false)) (l9 (fC x.1 x.2 1000000) fun(x:Int×Int)=>l7 (ilt 1000000000000000 x.1) (some (0,0,false))
   (l7 (ilt n 0) (some (G8 .i64 0 (wrap .i64 x.1),G8 .i64 0 (wrap .i64 x.2),true)) (some (wrap .i64 x.1,wrap .i64 x.2,true)))))=some (xu len n):=by
  intro m hm
  have m0:=dV n
  have m1:m≤9223372036854775808:=by rw[hm];unfold O0;split <;> omega
  rw[←hm]at m0
  rw[show wrap .u64 len=len from xY (by omega) (by omega),JM (by omega) (by omega) m0 (by omega),o7]
  unfold xu
  rw[←hm]
  have hA:0≤len*m:=Int.mul_nonneg (by omega) m0
  generalize len*m=A at*
  have hre:A / 18446744073709551616*18446744073709551616+A % 18446744073709551616=A:=by omega
  simp only
  by_cases hh:1000000≤A / 18446744073709551616
  ·rw[H5 hh,F7 (show(1000000000000000:Int)<A / 1000000 by omega)];rfl
  ·rw[H7 (by omega),o5,PP (by omega) (by omega) (by omega) (by omega) (by omega),o7,hre]
   simp only
   by_cases hM:1000000000000000<A / 1000000
   ·rw[F7 hM];rfl
   ·rw[E9 (by omega),o5,o5,show wrap .i64 (A / 1000000)=A / 1000000 from fA (by unfold I64;omega),show wrap .i64 (A % 1000000)=A % 1000000 from fA (by unfold I64;omega),J4 (by unfold I64;omega),J4 (by unfold I64;omega),
     show(0:Int) -A / 1000000=-(A / 1000000) by omega,show(0:Int) -A % 1000000=-(A % 1000000) by omega]
    cases ilt n 0 <;> rfl
 unfold mW
 by_cases h0:n<0
 ·have hk:=key (G8 .u64 0 (wrap .u64 n)) (by
   show IntKind.wrap .u64 (0 -IntKind.wrap .u64 n)=_
   unfold O0;rw[if_pos h0,rM,rM];omega)
  rw[F7 h0]at hk ⊢
  exact hk
 ·have hk:=key (wrap .u64 n) (by
   show IntKind.wrap .u64 n=_
   unfold O0;rw[if_neg h0,rM];omega)
  rw[E9 (by omega)]at hk ⊢
  exact hk
theorem a7l {len n:Int} (h1:1≤len) (h2:len≤1000000000000000) (hn:I64 n):mJ len n=some (xu len n):=by
 unfold I64 at hn
 have hm:(l7 (ilt n 0) (some (x8 .u64 (wrap .u64 (G8 .i64 0 (x8 .i64 n 1))) 1)) (some (wrap .u64 n)))=some (O0 n):=by
  by_cases h0:n<0
  ·rw[F7 h0,o6,N7 (by unfold I64;omega),J4 (by unfold I64;omega),show wrap .u64 (0 -(n+1))=-n -1 from(xY (by omega) (by omega)).trans (by omega),show x8 .u64 (-n -1) 1=-n from(xY (by omega) (by omega)).trans (by omega)]
   unfold O0;rw[if_pos h0]
  ·rw[E9 (by omega),o5,show wrap .u64 n=n from xY (by omega) (by omega)]
   unfold O0;rw[if_neg h0]
 have m0:=dV n
 have m1:O0 n≤9223372036854775808:=by unfold O0;split <;> omega
 unfold mJ xu
 rw[hm,o7]
 generalize O0 n=m at*
 have c1:X4 .u64 m 1000000=m / 1000000:=by unfold X4;rw[cO m0,xY (by omega) (by omega)]
 have c2:X5 m 1000000=m % 1000000:=qW m0
 have c3:wrap .i64 (m / 1000000)=m / 1000000:=fA (by unfold I64;omega)
 have c4:wrap .i64 (m % 1000000)=m % 1000000:=fA (by unfold I64;omega)
 have c5:X4 .i64 len 1000000=len / 1000000:=by rw[uK (by rw[cO (by omega)];unfold I64;omega),cO (by omega)]
 have c6:X5 len 1000000=len % 1000000:=qW (by omega)
 rw[c1,c2,c3,c4,c5,c6]
 have hmd:m=m / 1000000*1000000+m % 1000000:=by omega
 have b0:0≤m % 1000000:=by omega
 have b1:m % 1000000<1000000:=by omega
 have a0:0≤m / 1000000:=by omega
 have a1:m / 1000000≤9223372036855:=by omega
 have hA:len*m=(len*(m / 1000000)+len / 1000000*(m % 1000000))*1000000+len % 1000000*(m % 1000000):=by
  have e1:len*m=len*(m / 1000000)*1000000+len*(m % 1000000):=by
   calc len*m=len*(m / 1000000*1000000+m % 1000000):=by rw[←hmd]
    _=_:=by rw[Int.mul_add,Int.mul_assoc]
  have e2:len*(m % 1000000)=len / 1000000*(m % 1000000)*1000000+len % 1000000*(m % 1000000):=by
   calc len*(m % 1000000)=(len / 1000000*1000000+len % 1000000)*(m % 1000000):=by rw[show len / 1000000*1000000+len % 1000000=len by omega]
    _=_:=by rw[Int.add_mul,Int.mul_right_comm]
  rw[e1,e2];omega
 have l0:0≤len % 1000000*(m % 1000000):=Int.mul_nonneg (by omega) b0
 have l1:len % 1000000*(m % 1000000)≤1000000*1000000:=Int.mul_le_mul (by omega) (by omega) b0 (by omega)
 have p0:0≤len / 1000000*(m % 1000000):=Int.mul_nonneg (by omega) b0
 have p1:len / 1000000*(m % 1000000)≤1000000000*1000000:=Int.mul_le_mul (by omega) (by omega) b0 (by omega)
 have k0:0≤len*(m / 1000000):=Int.mul_nonneg (by omega) a0
 have c7:N9 .i64 (len % 1000000) (m % 1000000)=len % 1000000*(m % 1000000):=eG (by unfold I64;omega)
 have c8:N9 .i64 (len / 1000000) (m % 1000000)=len / 1000000*(m % 1000000):=eG (by unfold I64;omega)
 rw[c7,c8]
 have hdiv:len*m / 1000000=len*(m / 1000000)+len / 1000000*(m % 1000000)+len % 1000000*(m % 1000000) / 1000000:=by rw[hA];omega
 have hmod:len*m % 1000000=len % 1000000*(m % 1000000) % 1000000:=by rw[hA];omega
 rw[hdiv,hmod]
 have c9:X4 .i64 (len % 1000000*(m % 1000000)) 1000000=len % 1000000*(m % 1000000) / 1000000:=by rw[uK (by rw[cO l0];unfold I64;omega),cO l0]
 have c10:X5 (len % 1000000*(m % 1000000)) 1000000=len % 1000000*(m % 1000000) % 1000000:=qW l0
 rw[c9,c10]
 have tail:len*(m / 1000000)≤1000000000000000→l7 (ilt 1000000000000000 (x8 .i64 (x8 .i64 (N9 .i64 len (m / 1000000)) (len / 1000000*(m % 1000000))) (len % 1000000*(m % 1000000) / 1000000))) (some ((0:Int),(0:Int),false))
   (l7 (ilt n 0) (some (G8 .i64 0 (x8 .i64 (x8 .i64 (N9 .i64 len (m / 1000000)) (len / 1000000*(m % 1000000))) (len % 1000000*(m % 1000000) / 1000000)),G8 .i64 0 (len % 1000000*(m % 1000000) % 1000000),true)) (some (x8 .i64 (x8 .i64 (N9 .i64 len (m / 1000000)) (len / 1000000*(m % 1000000))) (len % 1000000*(m % 1000000) / 1000000),len % 1000000*(m % 1000000) % 1000000,true)))=
   some (l7 (ilt 1000000000000000 (len*(m / 1000000)+len / 1000000*(m % 1000000)+len % 1000000*(m % 1000000) / 1000000)) (0,0,false) (l7 (ilt n 0) (-(len*(m / 1000000)+len / 1000000*(m % 1000000)+len % 1000000*(m % 1000000) / 1000000),-(len % 1000000*(m % 1000000) % 1000000),true) (len*(m / 1000000)+len / 1000000*(m % 1000000)+len % 1000000*(m % 1000000) / 1000000,len % 1000000*(m % 1000000) % 1000000,true))):=by
  intro hle
  rw[eG (show I64 (len*(m / 1000000)) by unfold I64;omega)]
  generalize len*(m / 1000000)=K at*
  generalize len / 1000000*(m % 1000000)=P at*
  generalize len % 1000000*(m % 1000000)=L at*
  rw[N7 (show I64 (K+P) by unfold I64;omega),N7 (show I64 (K+P+L / 1000000) by unfold I64;omega),J4 (show I64 (0 -(K+P+L / 1000000)) by unfold I64;omega),J4 (show I64 (0 -L % 1000000) by unfold I64;omega),show(0:Int) -(K+P+L / 1000000)=-(K+P+L / 1000000) by omega,show(0:Int) -L % 1000000=-(L % 1000000) by omega]
  cases ilt 1000000000000000 (K+P+L / 1000000) <;> cases ilt n 0 <;> rfl
 by_cases ha:0<m / 1000000
 ·rw[F7 ha,o6,nJ (by omega) (by omega) ha,o7]
  have hMx:=Int.ediv_mul_add_emod 1000000000000000 (m / 1000000)
  have hMr:=Int.emod_lt_of_pos 1000000000000000 ha
  have hMr0:=Int.emod_nonneg 1000000000000000 (show m / 1000000≠0 by omega)
  by_cases hc:1000000000000000 / (m / 1000000)<len
  ·have:=Int.mul_le_mul_of_nonneg_right (show 1000000000000000 / (m / 1000000)+1≤len by omega) a0
   rw[Int.add_mul,Int.one_mul]at this
   rw[F7 hc,F7 (show(1000000000000000:Int)<len*(m / 1000000)+len / 1000000*(m % 1000000)+len % 1000000*(m % 1000000) / 1000000 by omega)];rfl
  ·have:=Int.mul_le_mul_of_nonneg_right (show len≤1000000000000000 / (m / 1000000) by omega) a0
   rw[E9 (by omega),o5]
   exact tail (by omega)
 ·have:m / 1000000=0:=by omega
  rw[E9 (by omega),o5]
  exact tail (by rw[this];simp)
theorem Rn {F R j:Int} {mode:Int} (hm:gy mode=true) (h1:-4000000000000000000≤F) (h2:F≤4000000000000000000) (h3:-2000000000000000000≤j) (h4:j≤2000000000000000000) (hR:0≤R) (hR2:R<1000000) (hs:0≤F↔0≤F+2*j):
  U6 (F+2*j) R 1000000 mode=(U6 F R 1000000 mode).map fun v=>v+2*j:=by
 have R0:∀F R:Int,U6 F R 1000000 0=l7 (ieq R 0) (some F) (some F):=fun F R=>rfl
 have R1:∀F R:Int,U6 F R 1000000 1=l7 (ieq R 0) (some F) (some (x8 .i64 F 1)):=fun F R=>rfl
 have R2:∀F R:Int,U6 F R 1000000 2=l7 (ieq R 0) (some F) (l9 (l7 (ilt F 0) (some true) (some false)) fun x=>l7 x (some (x8 .i64 F 1)) (some F)):=fun F R=>rfl
 have R3:∀F R:Int,U6 F R 1000000 3=l7 (ieq R 0) (some F) (l9 (some (ile 0 F)) fun x=>l7 x (some (x8 .i64 F 1)) (some F)):=fun F R=>rfl
 have R4:∀F R:Int,U6 F R 1000000 4=l7 (ieq R 0) (some F) (l7 (ieq R (G8 .i64 1000000 R)) (l7 (ile 0 F) (some (x8 .i64 F 1)) (some F)) (l7 (ilt (G8 .i64 1000000 R) R) (some (x8 .i64 F 1)) (some F))):=fun F R=>rfl
 have R5:∀F R:Int,U6 F R 1000000 5=l7 (ieq R 0) (some F) (l7 (ieq R (G8 .i64 1000000 R)) (l7 (D6 (ieq (X5 F 2) 0)) (some (x8 .i64 F 1)) (some F)) (l7 (ilt (G8 .i64 1000000 R) R) (some (x8 .i64 F 1)) (some F))):=fun F R=>rfl
 have hi:x8 .i64 F 1=F+1:=N7 (by unfold I64;omega)
 have hi2:x8 .i64 (F+2*j) 1=F+1+2*j:=by rw[N7 (by unfold I64;omega)];omega
 have hlt:ilt (F+2*j) 0=ilt F 0:=by
  by_cases h:0≤F
  ·rw[E9 h,E9 (hs.1 h)]
  ·rw[F7 (by omega),F7 (by have:=fun h' =>h (hs.2 h');omega)]
 have hle:ile 0 (F+2*j)=ile 0 F:=by rw[wW,wW,hlt]
 have hpar:ieq (X5 (F+2*j) 2) 0=ieq (X5 F 2) 0:=by
  unfold X5 ieq
  congr 1
  have e1:∀x:Int,x.tmod 2=0↔x % 2=0:=fun x=>by
   rw[←Int.dvd_iff_tmod_eq_zero,Int.dvd_iff_emod_eq_zero]
  simp only[e1]
  congr 1;omega
 rcases AL hm with rfl | rfl | rfl | rfl | rfl | rfl
 ·rw[R0,R0];cases ieq R 0 <;> rfl
 ·rw[R1,R1,hi,hi2];cases ieq R 0 <;> rfl
 ·rw[R2,R2,hi,hi2,hlt];cases ieq R 0 <;> cases ilt F 0 <;> rfl
 ·rw[R3,R3,hi,hi2,hle];cases ieq R 0 <;> cases ile 0 F <;> rfl
 ·rw[R4,R4,hi,hi2,hle];cases ieq R 0 <;> cases ieq R (G8 .i64 1000000 R) <;> cases ile 0 F <;> cases ilt (G8 .i64 1000000 R) R <;> rfl
 ·rw[R5,R5,hi,hi2,hpar];cases ieq R 0 <;> cases ieq R (G8 .i64 1000000 R) <;> cases ieq (X5 F 2) 0 <;> cases ilt (G8 .i64 1000000 R) R <;> rfl
theorem a4Y {n j mode:Int} (hm:gy mode=true) (h1:-4000000000000000000≤n) (h2:n≤4000000000000000000) (h3:-2000000000000000≤j) (h4:j≤2000000000000000) (hs:0≤n↔0≤n+2*j*1000000):rnd (n+2*j*1000000) 1000000 mode=rnd n 1000000 mode+2*j:=by
 have a1:=Bd (n:=n) (d:=1000000) (mode:=mode) (by omega) (by omega) (by omega) (by omega) hm
 have a2:=Bd (n:=n+2*j*1000000) (d:=1000000) (mode:=mode) (by omega) (by omega) (by omega) (by omega) hm
 rw[show(n+2*j*1000000) / 1000000=n / 1000000+2*j by omega,show(n+2*j*1000000) % 1000000=n % 1000000 by omega,
  Rn hm (by omega) (by omega) (by omega) (by omega) (by omega) (by omega) (by omega),a1]at a2
 exact(Option.some.inj a2).symm
def TA (W L mode:Int):Int×Int:=l7 (dF (rnd (W*1000000+L) 1000000 mode) 1000000000000000) (0,3) (rnd (W*1000000+L) 1000000 mode,0)
theorem RS {V p L j mode:Int} (hm:gy mode=true) (hV:-2000000000000000≤V) (hV2:V≤2000000000000000) (hp:-3≤p) (hp2:p≤3) (hL:-1000000<L) (hL2:L<1000000) (hj:V -p=2*j) (hs:0≤p*1000000+L↔0≤V*1000000+L):
  (l9 (bC (x8 .i64 (N9 .i64 p 1000000) L) 1000000 mode) fun(x:Int×Int)=>l7 (D6 (ieq x.2 0)) (some ((0:Int),x.2)) (l7 (ilt (x8 .i64 (G8 .i64 V p) x.1) (-1000000000000000)) (some (0,3)) (l7 (ilt 1000000000000000 (x8 .i64 (G8 .i64 V p) x.1)) (some (0,3)) (some (x8 .i64 (G8 .i64 V p) x.1,0)))))=
  some (TA V L mode):=by
 rw[eG (show I64 (p*1000000) by unfold I64;omega),N7 (show I64 (p*1000000+L) by unfold I64;omega),J4 (show I64 (V -p) by unfold I64;omega),Ap,o7]
 unfold Zr
 rw[hm,E5 (show(1000000:Int)≠0 by decide),Gx (by omega),Gx (by omega)]
 have hb:=a0q (n:=p*1000000+L) (d:=1000000) mode (by omega)
 have hsh:=a4Y (n:=p*1000000+L) (j:=j) hm (by omega) (by omega) (by omega) (by omega) (by rw[show p*1000000+L+2*j*1000000=V*1000000+L by omega];exact hs)
 rw[show p*1000000+L+2*j*1000000=V*1000000+L by omega]at hsh
 simp only[o6,o5,F5 (rfl:(0:Int)=0),o9]
 unfold TA dF
 rw[hsh,hj,N7 (show I64 (2*j+rnd (p*1000000+L) 1000000 mode) by unfold I64;omega),show rnd (p*1000000+L) 1000000 mode+2*j=2*j+rnd (p*1000000+L) 1000000 mode by omega]
 cases ilt (2*j+rnd (p*1000000+L) 1000000 mode) (-1000000000000000) <;> cases ilt 1000000000000000 (2*j+rnd (p*1000000+L) 1000000 mode) <;> rfl
theorem a3B {n d:Int} (hd:0<d):(0≤n→0≤n.tmod d∧n.tmod d<d)∧(n≤0→-d<n.tmod d∧n.tmod d≤0):=by
 refine⟨fun h=>?_,fun h=>?_⟩
 ·rw[Int.tmod_eq_emod_of_nonneg h]
  exact⟨Int.emod_nonneg n (by omega),Int.emod_lt_of_pos n hd⟩
 ·obtain⟨m,hm⟩:∃m,n=-m:=⟨-n,by omega⟩
  subst hm
  rw[Int.neg_tmod,Int.tmod_eq_emod_of_nonneg (by omega)]
  have:=Int.emod_nonneg m (show d≠0 by omega)
  have:=Int.emod_lt_of_pos m hd
  omega
theorem Yx {W L mode:Int} (hm:gy mode=true) (hW:-1000000000000000000≤W) (hW2:W≤1000000000000000000) (hL:-1000000000≤L) (hL2:L≤1000000000):vP W L mode=some (TA W L mode):=by
 unfold vP
 have hd:=Int.tdiv_mul_add_tmod L 1000000
 have htm:=a3B (n:=L) (d:=1000000) (by omega)
 have t1:X4 .i64 L 1000000=L.tdiv 1000000:=uK (by unfold I64;omega)
 have t2:X5 L 1000000=L.tmod 1000000:=rfl
 have hr1:-1000000<L.tmod 1000000:=by omega
 have hr2:L.tmod 1000000<1000000:=by omega
 rw[t1,t2,N7 (show I64 (W+L.tdiv 1000000) by unfold I64;omega)]
 have hT:W*1000000+L=(W+L.tdiv 1000000)*1000000+L.tmod 1000000:=by omega
 have hsum:TA W L mode=TA (W+L.tdiv 1000000) (L.tmod 1000000) mode:=by unfold TA;rw[hT]
 rw[hsum]
 have hVb:-2000000000000000000≤W+L.tdiv 1000000∧W+L.tdiv 1000000≤2000000000000000000:=by omega
 generalize W+L.tdiv 1000000=V at*
 generalize L.tmod 1000000=M at*
 have hb:=a0q (n:=V*1000000+M) (d:=1000000) mode (by omega)
 by_cases c1:V< -2000000000000000
 ·rw[F7 c1,o6]
  unfold TA
  rw[Jl.2 (by omega)];rfl
 by_cases c2:2000000000000000<V
 ·rw[E9 (by omega),o5,F7 c2,o6]
  unfold TA
  rw[Jl.2 (by omega)];rfl
 rw[E9 (by omega),o5,E9 (by omega),o5]
 have t3:X5 V 2=V.tmod 2:=rfl
 rw[t3]
 have hv2:=Int.tdiv_mul_add_tmod V 2
 have htv:=a3B (n:=V) (d:=2) (by omega)
 by_cases c3:1<V
 ·rw[F7 c3,o6,N7 (show I64 (V.tmod 2+2) by unfold I64;omega)]
  exact RS (j:=V.tdiv 2 -1) hm (by omega) (by omega) (by omega) (by omega) hr1 hr2 (by omega) (by omega)
 rw[E9 (by omega),o5]
 by_cases c4:V< -1
 ·rw[F7 c4,o6,J4 (show I64 (V.tmod 2 -2) by unfold I64;omega)]
  exact RS (j:=V.tdiv 2+1) hm (by omega) (by omega) (by omega) (by omega) hr1 hr2 (by omega) (by omega)
 rw[E9 (by omega),o5]
 exact RS (j:=V.tdiv 2) hm (by omega) (by omega) (by omega) (by omega) hr1 hr2 (by omega) (by omega)
theorem Tj {W L mode:Int} (hm:gy mode=true) (hW:-1000000000000000000≤W) (hW2:W≤1000000000000000000) (hL:-1000000000≤L) (hL2:L≤1000000000):xg W L mode=some (rnd (W*1000000+L) 1000000 mode):=by
 unfold xg
 obtain⟨e,k1,k2⟩:=Z9 (f:=fun(x:Int×Int)=>l7 (ilt x.2 0) (some (.inl (G8 .i64 x.1 1,x8 .i64 x.2 1000000))) (some (.inr x)))
  (s:=(W,L)) (fun x=>x.1*1000000+x.2=W*1000000+L∧-1000000000≤x.2∧x.2≤1000000000∧-2000000000000000000≤x.1∧x.1≤2000000000000000000) (fun x=>x.1*1000000+x.2=W*1000000+L∧0≤x.2∧x.2≤1000000000∧-2000000000000000000≤x.1∧x.1≤2000000000000000000) (fun x=>(1000000000 -x.2).toNat) ⟨by rfl,hL,hL2,by omega,by omega⟩ (by omega) (by
  rintro⟨a,b⟩ ⟨h1,h2,h3,h4,h5⟩
  simp only at h1 h2 h3 h4 h5 ⊢
  by_cases hb:b<0
  ·left
   rw[F7 hb,o6,J4 (show I64 (a -1) by unfold I64;omega),N7 (show I64 (b+1000000) by unfold I64;omega)]
   exact⟨_,rfl,⟨by simp only;omega,by simp only;omega,by simp only;omega,by simp only;omega,by simp only;omega⟩,by simp only;omega⟩
  ·right
   rw[E9 (by omega)]
   exact⟨(a,b),rfl,h1,by omega,h3,h4,h5⟩)
 refine(dH k1 _).trans ?_
 obtain⟨a,b⟩:=e
 simp only at k2
 obtain⟨e,l1,l2⟩:=Z9 (f:=fun(x:Int×Int)=>l7 (ile 1000000 x.2) (some (.inl (x8 .i64 x.1 1,G8 .i64 x.2 1000000))) (some (.inr x)))
  (s:=(a,b)) (fun x=>x.1*1000000+x.2=W*1000000+L∧0≤x.2∧x.2≤1000000000∧-2000000000000000000≤x.1∧x.1≤2000000000000000000) (fun x=>x.1=(W*1000000+L) / 1000000∧x.2=(W*1000000+L) % 1000000) (fun x=>x.2.toNat) k2 (by simp only;omega) (by
  rintro⟨a,b⟩ ⟨h1,h2,h3,h4,h5⟩
  simp only at h1 h2 h3 h4 h5 ⊢
  by_cases hb:1000000≤b
  ·left
   rw[H5 hb,o6,N7 (show I64 (a+1) by unfold I64;omega),J4 (show I64 (b -1000000) by unfold I64;omega)]
   exact⟨_,rfl,⟨by simp only;omega,by simp only;omega,by simp only;omega,by simp only;omega,by simp only;omega⟩,by simp only;omega⟩
  ·right
   rw[H7 (by omega)]
   exact⟨(a,b),rfl,by simp only;omega,by simp only;omega⟩)
 refine(dH l1 _).trans ?_
 obtain⟨F,R⟩:=e
 simp only at l2 ⊢
 obtain⟨rfl,rfl⟩:=l2
 generalize hT:W*1000000+L=T at*
 have hid:O0 1000000=1000000:=rfl
 have hneg:D6 (dB (ilt T 0) (ilt 1000000 0))=ilt T 0:=by rw[E9 (show(0:Int)≤1000000 by omega)];cases ilt T 0 <;> rfl
 by_cases h0:0≤T
 ·rw[H5 (show 0≤T / 1000000 by omega),o6,xB _ _ (by omega) (by omega) (by omega) (by omega) (by omega),o7]
  unfold rnd
  rw[hid,hneg,E9 h0,show O0 T=T by unfold O0;rw[if_neg (by omega)]]
 ·rw[H7 (show T / 1000000<0 by omega),o5]
  unfold rnd
  rw[hid,hneg,F7 (by omega),show O0 T=-T by unfold O0;rw[if_pos (by omega)]]
  by_cases hz:T % 1000000=0
  ·rw[F5 hz,o6]
   have hu:upS (-T / 1000000) (-T % 1000000) 1000000 true mode=false:=by unfold upS;rw[F5 (show -T % 1000000=0 by omega)];rfl
   rw[hu]
   show some (T / 1000000)=some (-(-T / 1000000))
   congr 1;omega
  ·rw[E5 hz,o5,J4 (show I64 (0 -T / 1000000) by unfold I64;omega),J4 (show I64 (0 -T / 1000000 -1) by unfold I64;omega),J4 (show I64 (1000000 -T % 1000000) by unfold I64;omega),xB _ _ (by omega) (by omega) (by omega) (by omega) (by omega),o7]
   rw[show 0 -T / 1000000 -1=-T / 1000000 by omega,show 1000000 -T % 1000000=-T % 1000000 by omega]
def a1x (r:uw):Prop:=I64 r.2.1∧I64 r.2.2.1∧I64 r.2.2.2
def ku (t:V8):Prop:=t.2.2.2.length≤200∧∀r∈t.2.2.2,a1x r
theorem Vj {len n:Int} (h:(xu len n).2.2=true) (hl:0≤len):-1000000000000000≤(xu len n).1∧(xu len n).1≤1000000000000000∧-1000000≤(xu len n).2.1∧(xu len n).2.1≤1000000:=by
 have hA:0≤len*O0 n:=Int.mul_nonneg hl (dV n)
 unfold xu at*
 generalize len*O0 n=A at*
 cases h1:ilt 1000000000000000 (A / 1000000) <;> rw[h1]at h
 ·rw[aV]at h1
  cases ilt n 0
  ·simp only[o5];omega
  ·simp only[o5,o6];omega
 ·cases h
def brG (date c:Int) (b:Int×Int) (r:uw):(Int×Int)⊕(Int×Int):=l7 (Jq r.1 date) (l7 (ile (jf r.2.2.1 c) (fO r.2.1 0)) (.inl b)
 (l7 (xu (jf r.2.2.1 c -fO r.2.1 0) r.2.2.2).2.2 (.inl (b.1+(xu (jf r.2.2.1 c -fO r.2.1 0) r.2.2.2).1,b.2+(xu (jf r.2.2.1 c -fO r.2.1 0) r.2.2.2).2.1)) (.inr (0,3)))) (.inl b)
def b0x (t:V8) (date c mode:Int):Int×Int:=l7 (gy mode) (l7 (aH (ieq t.2.1.1 3) (ieq t.2.1.2 0)) (l7 (aH (ieq t.2.2.1.1 4) (ieq t.2.2.1.2 0)) (l7 (dF c 1000000000000000) (0,3)
 (match U0 (brG date c) t.2.2.2 (0,0)with | .inl b=>TA b.1 b.2 mode | .inr r=>r)) (0,8)) (0,8)) (0,1)
def OX (i:Nat) (b:Int×Int):Prop:=-(1000000000000000*(i:Int))≤b.1∧b.1≤1000000000000000*(i:Int)∧-(1000000*(i:Int))≤b.2∧b.2≤1000000*(i:Int)
theorem Po {r:uw} {c:Int} (hr:a1x r) (hc:-1000000000000000≤c) (hc2:c≤1000000000000000) (h:ile (jf r.2.2.1 c) (fO r.2.1 0)=false):G8 .i64 (jf r.2.2.1 c) (fO r.2.1 0)=jf r.2.2.1 c -fO r.2.1 0∧1≤jf r.2.2.1 c -fO r.2.1 0∧jf r.2.2.1 c -fO r.2.1 0≤1000000000000000:=by
 obtain⟨h1,h2,h3⟩:=hr
 obtain⟨lo,hlo⟩:∃lo:Int,r.2.1=lo:=⟨_,rfl⟩
 obtain⟨hi,hhi⟩:∃hi:Int,r.2.2.1=hi:=⟨_,rfl⟩
 rw[hlo]at h h1 ⊢;rw[hhi]at h h2 ⊢
 rw[BF]at h
 have a1:0≤fO lo 0:=by unfold fO;split <;> omega
 have a2:jf hi c≤c:=by unfold jf;split <;> omega
 refine⟨J4 (by unfold I64;omega),by omega,by omega⟩
theorem a5R {date c:Int} {r:uw} {b:Int×Int} {i:Nat} (hr:a1x r) (hc:-1000000000000000≤c) (hc2:c≤1000000000000000) (hi:i≤200) (hb:OX i b):∀b',brG date c b r= .inl b' →OX (i+1) b' :=by
 intro b' h
 unfold OX at*
 unfold brG at h
 cases h1:Jq r.1 date <;> rw[h1]at h
 ·cases h;omega
 simp only[o6]at h
 cases h2:ile (jf r.2.2.1 c) (fO r.2.1 0) <;> rw[h2]at h
 ·obtain⟨_,g1,g2⟩:=Po hr hc hc2 h2
  simp only[o5]at h
  cases h3:(xu (jf r.2.2.1 c -fO r.2.1 0) r.2.2.2).2.2 <;> rw[h3]at h
  ·cases h
  ·have hbd:=Vj h3 (by omega)
   cases h
   simp only
   omega
 ·cases h;omega
theorem Xb {t:V8} (date c mode:Int) (ht:ku t):vM t date c mode=some (b0x t date c mode):=by
 unfold vM b0x
 rw[XU]
 cases hm:gy mode
 ·rfl
 simp only[o6,o7,C9]
 cases aH (ieq t.2.1.1 3) (ieq t.2.1.2 0)
 ·rfl
 cases aH (ieq t.2.2.1.1 4) (ieq t.2.2.1.2 0)
 ·rfl
 simp only[o9,o5,o6,o7,C9]
 have hbey:∀A B:Option (PUnit⊕(Int×Int)),l7 (ilt c (-1000000000000000)) A (l7 (ilt 1000000000000000 c) A B)=l7 (dF c 1000000000000000) A B:=fun A B=>by
  unfold dF;cases ilt c (-1000000000000000) <;> cases ilt 1000000000000000 c <;> rfl
 rw[hbey]
 cases hb:dF c 1000000000000000
 case true=>rfl
 have bb:=iO hb
 simp only[o5,o7,C9]
 refine eP t.2.2.2 (brG date c) (fun b i=>(b.1,b.2,i)) (fun b=>b) OX ((0,0):Int×Int) (by have:=ht.1;omega) (by unfold OX;simp) (fun i r b hr hi hI=>?_) (fun b hI=>?_) (fun hI=>?_)
 ·have hro:=ht.2 r (bZ hr)
  have hlt:=(O6.1 hr).1
  have h200:=ht.1
  refine⟨?_,a5R hro bb.1 bb.2 (by omega) hI⟩
  simp only[G6 hr,o6,D8,hr,o7,Ai]
  rw[O5 (by omega)]
  unfold brG
  cases Jq r.1 date
  ·rfl
  simp only[o9,o5,o6]
  cases h2:ile (jf r.2.2.1 c) (fO r.2.1 0)
  case true=>rfl
  obtain⟨g0,g1,g2⟩:=Po hro bb.1 bb.2 h2
  rw[g0,b0z g1 g2 hro.2.2]
  simp only[o5,o7]
  cases h3:(xu (jf r.2.2.1 c -fO r.2.1 0) r.2.2.2).2.2
  ·rfl
  ·have hbd:=Vj h3 (by omega)
   unfold OX at hI
   rw[N7 (by unfold I64;omega),N7 (by unfold I64;omega)];rfl
 ·simp only[G5];rfl
 ·cases hf:U0 (brG date c) t.2.2.2 (0,0)with
  | inr r=>rfl
  | inl b=>
   have:=hI b hf
   unfold OX at this
   have h200:=ht.1
   simp only[C9]
   rw[Yx hm (by omega) (by omega) (by omega) (by omega)];rfl
theorem VL {t:V8} (date c mode:Int) (ht:ku t):uZ t date c mode=some (b0x t date c mode):=by
 unfold uZ b0x
 rw[JX,o7]
 cases hm:gy mode
 ·rfl
 simp only[o9,o5,o6]
 cases aH (ieq t.2.1.1 3) (ieq t.2.1.2 0)
 ·rfl
 cases aH (ieq t.2.2.1.1 4) (ieq t.2.2.1.2 0)
 ·rfl
 simp only[o9,o5,o6,o7,C9]
 rw[kK c (by omega) (by omega),o7]
 cases hb:dF c 1000000000000000
 case true=>rfl
 have bb:=iO hb
 simp only[o5]
 refine eP t.2.2.2 (brG date c) (fun b i=>(b.1,b.2,i)) (fun b=>b) OX ((0,0):Int×Int) (by have:=ht.1;omega) (by unfold OX;simp) (fun i r b hr hi hI=>?_) (fun b hI=>?_) (fun hI=>?_)
 ·have hro:=ht.2 r (bZ hr)
  have hlt:=(O6.1 hr).1
  have h200:=ht.1
  refine⟨?_,a5R hro bb.1 bb.2 (by omega) hI⟩
  simp only[G6 hr,o6,D8,hr,o7,DX]
  rw[O5 (by omega)]
  unfold brG
  cases h2:ile (jf r.2.2.1 c) (fO r.2.1 0)
  case true=>cases Jq r.1 date <;> rfl
  simp only[o5]
  cases Jq r.1 date
  ·rfl
  obtain⟨g0,g1,g2⟩:=Po hro bb.1 bb.2 h2
  rw[g0,a7l g1 g2 hro.2.2]
  simp only[o9,o5,o6,o7]
  cases h3:(xu (jf r.2.2.1 c -fO r.2.1 0) r.2.2.2).2.2
  ·rfl
  ·have hbd:=Vj h3 (by omega)
   unfold OX at hI
   rw[N7 (by unfold I64;omega),N7 (by unfold I64;omega)];rfl
 ·simp only[G5];rfl
 ·cases hf:U0 (brG date c) t.2.2.2 (0,0)with
  | inr r=>rfl
  | inl b=>
   have:=hI b hf
   unfold OX at this
   have h200:=ht.1
   simp only[C9]
   rw[Tj hm (by omega) (by omega) (by omega) (by omega),o7,kK _ (by omega) (by omega),o7]
   unfold TA
   cases dF (rnd (b.1*1000000+b.2) 1000000 mode) 1000000000000000 <;> rfl
def b0H (r:uw) (date key:Int):Bool:=l7 (Jq r.1 date) (l7 (ile r.2.1 key) (ilt key r.2.2.1) false) false
def Nw (rows:List uw) (date key:Int) (i:Nat):Option (Int×Bool):=match rows[i]? with | some r=>l7 (b0H r date key) (some ((i:Int),true)) none | none=>none
def Qs (rows:List uw) (date key:Int):Int×Bool:=match P9 rows.length (Nw rows date key)with | some x=>x | none=>(0,false)
theorem a4l {t:V8} (date key:Int) (ht:t.2.2.2.length≤1000000):yS t date key=some (Qs t.2.2.2 date key):=by
 unfold yS mX Qs
 rw[X7]
 refine J3 (jG (p:=Nw t.2.2.2 date key) t.2.2.2.length ht PUnit.unit (fun i hi=>?_) ?_) ?_
 rotate_left 2
 ·cases P9 t.2.2.2.length (Nw t.2.2.2 date key) <;> rfl
 ·have e:=Y8 hi
  simp only[G6 e,o6,D8,e,o7,zW,Ai,Nw,b0H]
  cases Jq t.2.2.2[i].1 date
  ·rfl
  cases ile t.2.2.2[i].2.1 key
  ·rfl
  cases ilt key t.2.2.2[i].2.2.1 <;> rfl
 ·simp only[G5];rfl
theorem a0k {t:V8} (date key:Int) (ht:t.2.2.2.length≤1000000):yJ t date key=some (Qs t.2.2.2 date key):=by
 unfold yJ Qs
 refine J3 (jG (p:=Nw t.2.2.2 date key) t.2.2.2.length ht PUnit.unit (fun i hi=>?_) ?_) ?_
 rotate_left 2
 ·cases P9 t.2.2.2.length (Nw t.2.2.2 date key) <;> rfl
 ·have e:=Y8 hi
  simp only[G6 e,o6,D8,e,o7,BI,DX,Nw,b0H]
  cases Jq t.2.2.2[i].1 date
  ·rfl
  cases ile t.2.2.2[i].2.1 key
  ·rfl
  cases ilt key t.2.2.2[i].2.2.1 <;> rfl
 ·simp only[G5];rfl
theorem a6v {rows:List uw} {date key i:Int} (h:Qs rows date key=(i,true)):0≤i∧i<o8 rows:=by
 unfold Qs at h
 split at h
 ·rename_i x hx
  subst h
  obtain⟨k,hk,hp⟩:=aW hx
  unfold Nw at hp
  split at hp
  ·rename_i r hr
   cases hmb:b0H r date key <;> rw[hmb]at hp
   ·cases hp
   ·cases hp;simp only[o8];omega
  ·cases hp
 ·cases h
abbrev V3:Type:=Int×Int×Int
def zq (k:Int):Int×Int:=l7 (ieq k 1) (0,1) (l7 (ieq k 2) (-1000000000000,1000000000000) (l7 (ieq k 3) (-1000000000000000,1000000000000000) (l7 (ieq k 4) (-1000000000,1000000000) (l7 (ieq k 5) (0,109572) (l7 (ieq k 6) (0,15) (0,-1))))))
theorem a1H (k:Int):qp k=some (zq k):=by
 unfold qp zq
 cases ieq k 1 <;> cases ieq k 2 <;> cases ieq k 3 <;> cases ieq k 4 <;> cases ieq k 5 <;> cases ieq k 6 <;> rfl
def plB (v:V3):Bool:=l7 (ile (zq v.1).1 v.2.2) (l7 (ile v.2.2 (zq v.1).2) (l7 (ieq v.1 6) (l7 (ile 0 v.2.1) (ilt v.2.1 8) false) (ieq v.2.1 0)) false) false
theorem D5 (v:V3):Z4 v=some (plB v):=by
 unfold Z4 plB
 rw[a1H,o7,iQ,iQ]
 cases ile (zq v.1).1 v.2.2
 ·rfl
 cases ile v.2.2 (zq v.1).2
 ·rfl
 cases ieq v.1 6
 ·rfl
 cases ile 0 v.2.1 <;> rfl
theorem D7 (v:V3):au v=some (plB v):=by
 obtain⟨k,e,n⟩:=v
 unfold au plB
 simp only
 by_cases h6:k=6
 ·subst h6
  rw[show zq 6=(0,15)from rfl,F5 (rfl:(6:Int)=6)]
  simp only[o9,o5,o7,C9,E5 (show(6:Int)≠1 by decide),E5 (show(6:Int)≠2 by decide),E5 (show(6:Int)≠3 by decide),E5 (show(6:Int)≠4 by decide),E5 (show(6:Int)≠5 by decide),o6]
  rw[show ilt n 16=ile n 15 by unfold ilt ile;congr 1;simp;omega]
  cases ile 0 e <;> cases ilt e 8 <;> cases ile 0 n <;> cases ile n 15 <;> rfl
 rw[E5 h6]
 simp only[D9,o6,o5]
 by_cases he:e=0
 case neg=>
  rw[E5 he]
  simp only[D9,o6,o7,H8]
  cases ile (zq k).1 n <;> cases ile n (zq k).2 <;> rfl
 rw[F5 he]
 simp only[o9,o5,o7,C9]
 by_cases h1:k=1
 ·subst h1
  rw[show zq 1=(0,1)from rfl]
  simp only[F5 (rfl:(1:Int)=1),o6]
  by_cases n0:n=0
  ·subst n0;rfl
  by_cases n1:n=1
  ·subst n1;rfl
  rw[E5 n0,E5 n1]
  by_cases g:0≤n
  ·rw[H5 g,H7 (by omega)];rfl
  ·rw[H7 (by omega)];rfl
 rw[E5 h1,o5]
 by_cases h2:k=2
 ·subst h2
  rw[show zq 2=(-1000000000000,1000000000000)from rfl,F5 (rfl:(2:Int)=2)]
  simp only[o6]
  cases ile (-1000000000000) n <;> cases ile n 1000000000000 <;> rfl
 rw[E5 h2,o5]
 by_cases h3:k=3
 ·subst h3
  rw[show zq 3=(-1000000000000000,1000000000000000)from rfl,F5 (rfl:(3:Int)=3)]
  simp only[o6]
  cases ile (-1000000000000000) n <;> cases ile n 1000000000000000 <;> rfl
 rw[E5 h3,o5]
 by_cases h4:k=4
 ·subst h4
  rw[show zq 4=(-1000000000,1000000000)from rfl,F5 (rfl:(4:Int)=4)]
  simp only[o6]
  cases ile (-1000000000) n <;> cases ile n 1000000000 <;> rfl
 rw[E5 h4,o5]
 by_cases h5:k=5
 ·subst h5
  rw[show zq 5=(0,109572)from rfl,F5 (rfl:(5:Int)=5)]
  simp only[o6]
  cases ile 0 n <;> cases ile n 109572 <;> rfl
 rw[E5 h5,o5,show zq k=(0,-1) by unfold zq;rw[E5 h1,E5 h2,E5 h3,E5 h4,E5 h5,E5 h6];rfl]
 simp only[o5]
 by_cases g:0≤n
 ·rw[H5 g,H7 (show(-1:Int)<n by omega)];rfl
 ·rw[H7 (show n<0 by omega)];rfl
def PV (v:V3):Prop:=(∃n,v=(1,0,n)∧(n=0∨n=1))∨(∃n,v=(2,0,n)∧-1000000000000≤n∧n≤1000000000000)∨(∃n,v=(3,0,n)∧-1000000000000000≤n∧n≤1000000000000000)∨(∃n,v=(4,0,n)∧-1000000000≤n∧n≤1000000000)∨(∃n,v=(5,0,n)∧0≤n∧n≤109572)∨(∃e n,v=(6,e,n)∧0≤n∧n≤15)
theorem a0g {v:V3} (h:plB v=true):PV v:=by
 obtain⟨k,e,n⟩:=v
 unfold plB at h
 simp only at h
 cases h1:ile (zq k).1 n <;> rw[h1]at h
 ·cases h
 cases h2:ile n (zq k).2 <;> rw[h2]at h
 ·cases h
 simp only[o6]at h
 rw[jv]at h1 h2
 unfold PV
 by_cases k6:k=6
 ·subst k6
  rw[show zq 6=(0,15)from rfl]at h1 h2
  exact .inr (.inr (.inr (.inr (.inr ⟨e,n,rfl,h1,h2⟩))))
 rw[E5 k6,o5,P6]at h
 subst h
 by_cases k1:k=1
 ·subst k1
  rw[show zq 1=(0,1)from rfl]at h1 h2
  exact .inl ⟨n,rfl,by simp only at h1 h2;omega⟩
 by_cases k2:k=2
 ·subst k2;exact .inr (.inl ⟨n,rfl,h1,h2⟩)
 by_cases k3:k=3
 ·subst k3;exact .inr (.inr (.inl ⟨n,rfl,h1,h2⟩))
 by_cases k4:k=4
 ·subst k4;exact .inr (.inr (.inr (.inl ⟨n,rfl,h1,h2⟩)))
 by_cases k5:k=5
 ·subst k5;exact .inr (.inr (.inr (.inr (.inl ⟨n,rfl,h1,h2⟩))))
 ·rw[show zq k=(0,-1) by unfold zq;rw[E5 k1,E5 k2,E5 k3,E5 k4,E5 k5,E5 k6];rfl]at h1 h2
  simp only at h1 h2;omega
def zZ (v:V3):V3×Int:=l7 (plB v) (v,0) ((0,0,0),3)
def Sv (v:V3) (c:Int):V3×Int:=l7 (ieq c 0) (zZ v) ((0,0,0),c)
theorem J6 (k n:Int):U7 k n=some (zZ (k,0,n)):=by
 unfold U7 zZ
 rw[D5,o7]
 cases plB (k,0,n) <;> rfl
theorem J7 (k n c:Int):jk k n c=some (Sv (k,0,n) c):=by
 unfold jk Sv
 cases ieq c 0
 ·rfl
 simp only[o9,o5,o6]
 rw[J6];rfl
def d5J (b:Bool):V3×Int:=((1,0,l7 b 1 0),0)
theorem H6 (b:Bool):iY b=some (d5J b):=by cases b <;> rfl
theorem I7 (b:Bool):je b=some (1,0,l7 b 1 0):=by cases b <;> rfl
theorem I5 (b:Bool):zZ (1,0,l7 b 1 0)=d5J b:=by cases b <;> rfl
def a3Z (c:Option (V3×Int)):Option (V3×Int):=l9 c fun(x:V3×Int)=>l7 (D6 (ieq x.2 0)) (some ((0,0,0),x.2)) (l9 (au x.1) fun(x_1:Bool)=>l7 (D6 x_1) (some ((0,0,0),3)) (some (x.1,0)))
theorem G7 (v:V3) (c:Int):a3Z (some (v,c))=some (Sv v c):=by
 unfold a3Z Sv zZ
 simp only[o7]
 cases ieq c 0
 ·rfl
 simp only[o9,o5,o6]
 rw[D7,o7]
 cases plB v <;> rfl
theorem L9 (v:V3):Sv v 0=zZ v:=rfl
def EP (n:Int×Int) (args:List V3) (env:P5):Option (V3×Int):=l9 (O7 n args env) fun(x:Bool)=>l7 (D6 x) (some ((0,0,0),8)) (a3Z (O8 n args env))
def RP (a0:Int×Int) (a1:List V3) (a2:P5):Option (V3×Int):=
 l7 (ieq (o8 a1) 0) (l7 (ile 36 a0.1) (l7 (ile a0.1 39) (l9 (iW a0 a2) fun(x:V3×Int)=>some x) (l9 (aA a0 a2) fun(x:V3×Int)=>some x)) (l9 (aA a0 a2) fun(x:V3×Int)=>some x))
  (l7 (ieq (o8 a1) 1) (l9 (lat a1 0) fun(x:V3)=>l9 (fV a0 x a2) fun(x:V3×Int)=>some x)
  (l7 (ieq (o8 a1) 2) (l9 (lat a1 0) fun(x:V3)=>l9 (lat a1 1) fun(x_1:V3)=>l9 (aK a0 x x_1) fun(x:V3×Int)=>some x)
  (l9 (lat a1 0) fun(x:V3)=>l9 (lat a1 1) fun(x_1:V3)=>l9 (lat a1 2) fun(x_2:V3)=>l7 (D6 (ieq x.1 1)) (some ((0,0,0),8)) (l7 (D6 (ieq x_1.1 x_2.1)) (some ((0,0,0),8)) (l7 (D6 (ieq x_1.2.1 x_2.2.1)) (some ((0,0,0),8)) (l7 (ieq x.2.2 1) (some (x_1,0)) (some (x_2,0))))))))
def aZ (n:Int×Int) (args:List V3) (env:P5):Prop:=∃r:V3×Int,RP n args env=some r∧EP n args env=some r
theorem ll0:o8 ([]:List V3)=0:=rfl
theorem ll1 (a:V3):o8 [a]=1:=rfl
theorem ll2 (a b:V3):o8 [a,b]=2:=rfl
theorem ll3 (a b c:V3):o8 [a,b,c]=3:=rfl
theorem la0 (a:V3) (l:List V3):lat (a::l) 0=some a:=rfl
theorem la1 (a b:V3) (l:List V3):lat (a::b::l) 1=some b:=rfl
theorem la2 (a b c:V3) (l:List V3):lat (a::b::c::l) 2=some c:=rfl
theorem Ji (k N:Int) (env:P5) (hk:k=1∨k=2∨k=3∨k=4∨k=5):aZ (k,N) [] env:=by
 rcases hk with rfl | rfl | rfl | rfl | rfl <;>
 ·unfold aZ RP aA EP O7 O8
  simp (disch:=decide) only[F5,E5,H5,H7,F7,E9,o6,o5,o7,C9,H8,o9,D9,ll0,ll1,ll2,ll3,la0,la1,la2,J6,J7,D5,D7,G7,L9,H6,I7,I5]
  exact⟨_,rfl,rfl⟩
theorem c8M (N:Int) (env:P5):aZ (6,N) [] env:=by
 unfold aZ RP aA EP O7 O8
 simp (disch:=decide) only[F5,E5,H5,H7,F7,E9,o6,o5,o7,C9,H8,o9,D9,ll0,ll1,ll2,ll3,la0,la1,la2,J6,J7,D5,D7,G7,L9,H6,I7,I5]
 unfold zZ
 cases plB (6,X4 IntKind.i64 N 16,X5 N 16) <;> exact⟨_,rfl,rfl⟩
theorem c8P (N:Int) (env:P5):aZ (9,N) [] env:=by
 unfold aZ RP aA EP O7 O8
 simp (disch:=decide) only[F5,E5,H5,H7,F7,E9,o6,o5,o7,C9,H8,o9,D9,ll0,ll1,ll2,ll3,la0,la1,la2,J6,J7,D5,D7,G7,L9,H6,I7,I5]
 exact⟨_,rfl,rfl⟩
theorem c0l (N:Int) (env:P5):aZ (35,N) [] env:=by
 unfold aZ RP aA EP O7 O8
 simp (disch:=decide) only[F5,E5,H5,H7,F7,E9,o6,o5,o7,C9,H8,o9,D9,ll0,ll1,ll2,ll3,la0,la1,la2,J6,J7,D5,D7,G7,L9,H6,I7,I5]
 exact⟨_,rfl,rfl⟩
theorem c8N (N:Int) (env:P5) (h:bn (7,N) env=some true):aZ (7,N) [] env:=by
 unfold bn at h
 simp (disch:=decide) only[F5,E5,o6,o5]at h
 by_cases g:0≤N
 case neg=>rw[H7 (by omega)]at h;cases h
 rw[H5 g,o6]at h
 have h2:=dZ.1 (Option.some.inj h)
 obtain⟨x,hx,hm⟩:=ed g h2
 unfold aZ RP aA EP O7 O8
 simp (disch:=decide) only[F5,E5,H5,H7,F7,E9,o6,o5,o7,C9,H8,o9,D9,ll0,ll1,ll2,ll3,la0,la1,la2,J6,J7,D5,D7,G7,L9,H6,I7,I5]
 rw[hx]
 simp (disch:=decide) only[F5,E5,H5,H7,F7,E9,o6,o5,o7,C9,H8,o9,D9,ll0,ll1,ll2,ll3,la0,la1,la2,J6,J7,D5,D7,G7,L9,H6,I7,I5]
 unfold zZ
 cases plB x <;> exact⟨_,rfl,rfl⟩
theorem c8O (N:Int) (env:P5) (h:bn (8,N) env=some true):aZ (8,N) [] env:=by
 unfold bn at h
 simp (disch:=decide) only[F5,E5,o6,o5]at h
 by_cases g:0≤N
 case neg=>rw[H7 (by omega)]at h;cases h
 rw[H5 g,o6]at h
 by_cases h2:N<o8 env.2.2.1
 case neg=>rw[E9 (by omega)]at h;cases h
 obtain⟨x,hx,hm⟩:=ed g h2
 unfold aZ RP aA EP O7 O8
 simp (disch:=decide) only[F5,E5,H5,H7,F7,E9,o6,o5,o7,C9,H8,o9,D9,ll0,ll1,ll2,ll3,la0,la1,la2,J6,J7,D5,D7,G7,L9,H6,I7,I5]
 rw[hx]
 simp (disch:=decide) only[F5,E5,H5,H7,F7,E9,o6,o5,o7,C9,H8,o9,D9,ll0,ll1,ll2,ll3,la0,la1,la2,J6,J7,D5,D7,G7,L9,H6,I7,I5]
 unfold zZ
 cases plB x <;> exact⟨_,rfl,rfl⟩
def IB (k:Int) (t:Int×Int):Bool:=l7 (ieq t.2 0) (l7 (ieq k 36) (l7 (ieq t.1 2) true (ieq t.1 3)) (l7 (ieq k 39) (l7 (ile 2 t.1) (ile t.1 5) false) (ieq t.1 1))) false
theorem VK (k:Int) (t:Int×Int):xh k t=some (IB k t):=by
 unfold xh IB
 cases ieq t.2 0 <;> cases ieq k 36 <;> cases ieq k 39 <;> cases ieq t.1 2 <;> cases ile 2 t.1 <;> rfl
theorem wI (t:Int):kD t=some (l7 (ile 2 t) (ile t 4) false):=by
 unfold kD
 by_cases h2:t=2
 ·subst h2;rfl
 by_cases h3:t=3
 ·subst h3;rfl
 by_cases h4:t=4
 ·subst h4;rfl
 rw[E5 h2,E5 h3,E5 h4]
 by_cases g:2≤t
 ·rw[H5 g,H7 (by omega)];rfl
 ·rw[H7 (by omega)];rfl
theorem zI (t:Int):vC t=some (l7 (ile 2 t) (ile t 4) false):=wI t
theorem SN (k:Int) (t:Int×Int):lW k t=some (IB k t):=by
 unfold lW IB
 cases ieq t.2 0
 ·rfl
 cases ieq k 36
 ·cases ieq k 39
  ·rfl
  ·rw[wI]
   simp only[o9,o5,o6,o7]
   by_cases g:2≤t.1
   ·rw[H5 g]
    simp only[o6]
    by_cases g4:t.1≤4
    ·rw[H5 g4,H5 (show t.1≤5 by omega)];rfl
    ·rw[H7 (by omega)]
     by_cases g5:t.1=5
     ·rw[F5 g5,H5 (by omega)];rfl
     ·rw[E5 g5,H7 (by omega)];rfl
   ·rw[H7 (by omega),E5 (by omega)];rfl
 ·cases ieq t.1 2 <;> rfl
def Lc (v:V3) (t:Int×Int):Bool:=l7 (plB v) (l7 (ieq v.1 t.1) (ieq v.2.1 t.2) false) false
theorem Qj (v:V3) (t:Int×Int):uH v t=some (Lc v t):=by
 unfold uH Lc;rw[D7,o7]
 cases plB v <;> cases ieq v.1 t.1 <;> rfl
theorem a7n (v:V3) (t:Int×Int):GX v t=some (Lc v t):=by
 unfold GX Lc;rw[D5,o7]
 cases plB v <;> cases ieq v.1 t.1 <;> rfl
def zY (k a b:Int) (first:Bool):Int:=l7 (ieq k 36) (x8 .i64 a b) (l7 (ieq k 37) (N9 .i64 a b) (l7 (ieq k 38) (l7 (ilt a b) b a) (l7 first b (l7 (ilt a b) b a))))
theorem a7m (k a b:Int) (f:Bool):Ec k a b f=some (zY k a b f):=by
 unfold Ec zY
 cases ieq k 36 <;> cases ieq k 37 <;> cases ieq k 38 <;> cases f <;> cases ilt a b <;> rfl
def Vy (m:List V3) (N:Int) (t:Int×Int):V3⊕Int:=
 match lat m N with
 | none=> .inr 6
 | some x=>l7 (ieq x.1 0) (.inr 6) (l7 (Lc x t) (.inl x) (.inr 8))
def Aa (k N:Int) (t:Int×Int) (b:Int×Bool) (m:List V3):(Int×Bool)⊕(V3×Int):=
 match Vy m N t with
 | .inr c=> .inr ((0,0,0),c)
 | .inl x=>l7 (plB (t.1,0,zY k b.1 x.2.2 b.2)) (.inl (zY k b.1 x.2.2 b.2,false)) (.inr ((0,0,0),3))
def XO (k N:Int) (t:Int×Int) (ms:List (List V3)):V3×Int:=
 l7 (IB k t) (match U0 (Aa k N t) ms (l7 (ieq k 37) 1 0,true)with
  | .inr c=>c
  | .inl a=>l7 (ieq k 39) (l7 (ieq (o8 ms) 0) ((0,0,0),6) (zZ (t.1,0,a.1))) (zZ (t.1,0,a.1))) ((0,0,0),8)
theorem FM (k N:Int) (env:P5) (t:Int×Int) (ht:lat env.2.2.2.2.1 N=some t) (h0:0≤N) (hl:env.2.2.2.1.length≤1000000):iW (k,N) env=some (XO k N t env.2.2.2.1):=by
 unfold iW XO
 simp only[ht,o7,VK]
 cases IB k t
 ·rfl
 simp only[o9,o5,o6]
 rw[show l7 (ieq k 37) (some (1:Int)) (some 0)=some (l7 (ieq k 37) 1 0) by cases ieq k 37 <;> rfl,o7]
 apply eP env.2.2.2.1 (Aa k N t) (fun b i=>(((0,0,0),b.1,i):V3×Int×Int)) (fun b=>(((0,0,0),b.1):V3×Int)) (fun i b=>b.2=decide (i=0)) (l7 (ieq k 37) 1 0,true) hl rfl
 ·intro i m b hi hi' hb
  have hm:=D8 env.2.2.2.1 i
  rw[hi]at hm
  have hlt:(i:Int)<o8 env.2.2.2.1:=by
   have:=O6.1 hi;obtain⟨h,_⟩:=this;unfold o8;omega
  simp only[F7 hlt,o6,hm,o7]
  refine⟨?_,?_⟩
  ·unfold Aa Vy
   by_cases g:o8 m≤N
   ·rw[H5 g,jg (.inr (E9 g))];rfl
   ·rw[H7 (by omega)]
    obtain⟨x,hx,_⟩:=ed h0 (show N<o8 m by omega)
    simp only[o5,hx,o7]
    cases ieq x.1 0
    case true=>rfl
    simp only[o5,o7,C9,a7n]
    cases Lc x t
    ·rfl
    simp only[o9,o5,o6,a7m,o7,J6]
    have hz:ieq (i:Int) 0=b.2:=by rw[hb];unfold ieq;congr 1;simp
    rw[hz]
    unfold zZ
    cases plB (t.1,0,zY k b.1 x.2.2 b.2)
    ·rfl
    ·rw[O5 (by omega)];rfl
  ·intro b' hb'
   unfold Aa at hb'
   cases hf:Vy m N t with
   | inr c=>rw[hf]at hb';cases hb'
   | inl x=>
    rw[hf]at hb'
    simp only at hb'
    cases hp:plB (t.1,0,zY k b.1 x.2.2 b.2) <;> rw[hp]at hb' <;> cases hb'
    simp
 ·intro b hb
  rw[E9 (show o8 env.2.2.2.1≤(env.2.2.2.1.length:Int)from Int.le_refl _)]
  rfl
 ·intro _
  cases U0 (Aa k N t) env.2.2.2.1 (l7 (ieq k 37) 1 0,true)with
  | inr c=>rfl
  | inl a=>
   simp only[C9,J6,o7]
   cases ieq k 39 <;> cases ieq (o8 env.2.2.2.1) 0 <;> rfl
theorem ZH {x:V3} {t:Int×Int} (h:Lc x t=true):plB x=true∧x.1=t.1∧x.2.1=t.2:=by
 unfold Lc at h
 cases h1:plB x <;> rw[h1]at h
 ·cases h
 cases h2:ieq x.1 t.1 <;> rw[h2]at h
 ·cases h
 simp only[o6]at h
 exact⟨rfl,P6.1 h2,P6.1 h⟩
theorem GN {k:Int} (hk:k=1) {n:Int} (h:plB (k,0,n)=true):n=0∨n=1:=by
 subst hk
 rcases a0g h with⟨m,h,g⟩ | ⟨m,h,g⟩ | ⟨m,h,g⟩ | ⟨m,h,g⟩ | ⟨m,h,g⟩ | ⟨e',m,h,g⟩ <;> cases h
 exact g
theorem Lt {k:Int} {t:Int×Int} (h:IB k t=true):t.2=0:=by
 unfold IB at h
 cases g:ieq t.2 0 <;> rw[g]at h
 ·cases h
 exact P6.1 g
theorem a1Y {t:Int×Int} (h:IB 37 t=true):t.1=1:=by
 have:=Lt h
 unfold IB at h
 rw[F5 this]at h
 exact P6.1 h
theorem a4C (k N:Int) (t:Int×Int) (hk:k=36∨k=37∨k=38∨k=39) (ha:IB k t=true) (b:Int×Bool) (x:V3) (hx:Lc x t=true) (i:Nat) (hi:i≤1000000) (hb:b.2=decide (i=0)) (hp:k=36∨b.2=true∧k=39∨plB (t.1,0,b.1)=true) (v:V3) (hv:v=(0,0,0)):
  (l7 (ieq k 36) (l9 (au (t.1,t.2,x8 .i64 b.1 x.2.2)) fun(q:Bool)=>l7 (D6 q) (some (Out.rt (((0,0,0),3):V3×Int))) (some (Out.nx ((v,(t.1,t.2,x8 .i64 b.1 x.2.2),x8 .i64 (i:Int) 1):V3×V3×Int))))
   (l7 (ieq k 37) (some (Out.nx (v,(t.1,t.2,jf b.1 x.2.2),x8 .i64 (i:Int) 1)))
    (l7 (ieq k 38) (some (Out.nx (v,(t.1,t.2,fO b.1 x.2.2),x8 .i64 (i:Int) 1)))
     (l7 (ieq k 39) (l7 (ieq (i:Int) 0) (some (Out.nx (v,x,x8 .i64 (i:Int) 1))) (l7 (ilt b.1 x.2.2) (some (Out.nx (v,x,x8 .i64 (i:Int) 1))) (some (Out.nx (v,(t.1,t.2,b.1),x8 .i64 (i:Int) 1)))))
      (some (Out.nx (v,(t.1,t.2,b.1),x8 .i64 (i:Int) 1)))))):Option (Out (V3×V3×Int) (V3×V3) (V3×Int)))=
  some (match(l7 (plB (t.1,0,zY k b.1 x.2.2 b.2)) (.inl (zY k b.1 x.2.2 b.2,false)) (.inr ((0,0,0),3)):(Int×Bool)⊕(V3×Int))with | .inl b' => .nx ((0,0,0),(t.1,t.2,b'.1),((i+1:Nat):Int)) | .inr r=> .rt r)∧
  (k≠36→plB (t.1,0,zY k b.1 x.2.2 b.2)=true):=by
 subst hv
 have hz:=Lt ha
 obtain⟨hx1,hx2,hx3⟩:=ZH hx
 have hxe:x=(t.1,t.2,x.2.2):=by rw[←hx2,←hx3]
 have hxp:plB (t.1,0,x.2.2)=true:=by rw[←hz,←hxe];exact hx1
 obtain⟨acc,fi⟩:=b
 simp only at hb hp ⊢
 rw[O5 (by omega)]
 rcases hk with rfl | rfl | rfl | rfl
 ·refine⟨?_,fun h=>absurd rfl h⟩
  simp (disch:=decide) only[F5,o6,D7,o7]
  rw[hz,show zY 36 acc x.2.2 fi=x8 .i64 acc x.2.2 from rfl]
  cases plB (t.1,0,x8 .i64 acc x.2.2) <;> rfl
 ·have ht1:=a1Y ha
  have hp' :plB (t.1,0,acc)=true:=by
   rcases hp with h | h | h
   ·exact absurd h (by decide)
   ·exact absurd h.2 (by decide)
   ·exact h
  have e1:=GN ht1 hp'
  have e2:=GN ht1 hxp
  have e3:zY 37 acc x.2.2 fi=jf acc x.2.2∧plB (t.1,0,zY 37 acc x.2.2 fi)=true:=by
   rw[ht1]
   generalize x.2.2=q at e2 ⊢
   rcases e1 with rfl | rfl <;> rcases e2 with rfl | rfl <;> exact⟨rfl,rfl⟩
  refine⟨?_,fun _=>e3.2⟩
  simp (disch:=decide) only[F5,E5,o6,o5]
  rw[e3.2,e3.1,o6]
 ·have ht1:t.1=1:=by
   unfold IB at ha
   rw[F5 hz]at ha
   exact P6.1 ha
  have hp' :plB (t.1,0,acc)=true:=by
   rcases hp with h | h | h
   ·exact absurd h (by decide)
   ·exact absurd h.2 (by decide)
   ·exact h
  have e1:=GN ht1 hp'
  have e2:=GN ht1 hxp
  have e3:zY 38 acc x.2.2 fi=fO acc x.2.2∧plB (t.1,0,zY 38 acc x.2.2 fi)=true:=by
   rw[ht1]
   generalize x.2.2=q at e2 ⊢
   rcases e1 with rfl | rfl <;> rcases e2 with rfl | rfl <;> exact⟨rfl,rfl⟩
  refine⟨?_,fun _=>e3.2⟩
  simp (disch:=decide) only[F5,E5,o6,o5]
  rw[e3.2,e3.1,o6]
 ·have hf:zY 39 acc x.2.2 fi=l7 fi x.2.2 (l7 (ilt acc x.2.2) x.2.2 acc):=rfl
  simp (disch:=decide) only[F5,E5,o6,o5]
  rw[hf]
  have hz' :ieq (i:Int) 0=fi:=by rw[hb];unfold ieq;congr 1;simp
  rw[hz']
  cases fi
  case true=>
   simp only[o6,hxp]
   exact⟨by rw[←hxe],fun _=>trivial⟩
  case false=>
   have hp' :plB (t.1,0,acc)=true:=by
    rcases hp with h | h | h
    ·exact absurd h (by decide)
    ·exact absurd h.1 (by simp)
    ·exact h
   simp only[o5]
   cases ilt acc x.2.2
   ·simp only[o5,hp',o6];exact⟨trivial,fun _=>trivial⟩
   ·simp only[o6,hxp];exact⟨by rw[←hxe],fun _=>trivial⟩
theorem a4a {γ:Type} (c:Option γ) (K:γ→Option (V3×Int)):a3Z (l9 c K)=l9 c fun o=>a3Z (K o):=by cases c <;> rfl
theorem gY {α β ρ:Type} (G:β→α→β⊕ρ) (P:ρ→Prop) (hG:∀b a r,G b a= .inr r→P r):∀(l:List α) (b:β) (r:ρ),U0 G l b= .inr r→P r
 | [],b,r,h=>by cases h
 | a::l,b,r,h=>by
  unfold U0 at h
  cases hg:G b a with
  | inr r' =>rw[hg]at h;simp only at h;cases h;exact hG _ _ _ hg
  | inl b' =>rw[hg]at h;exact gY G P hG l b' r h
theorem a6x (k N:Int) (t:Int×Int) (b:Int×Bool) (m:List V3) (r:V3×Int) (h:Aa k N t b m= .inr r):r=((0,0,0),6)∨r=((0,0,0),8)∨r=((0,0,0),3):=by
 unfold Aa at h
 cases hf:Vy m N t with
 | inr c=>
  rw[hf]at h;simp only at h;cases h
  unfold Vy at hf
  cases hm:lat m N with
  | none=>rw[hm]at hf;cases hf;exact .inl rfl
  | some x=>
   rw[hm]at hf;simp only at hf
   cases h1:ieq x.1 0 <;> rw[h1]at hf
   ·cases h2:Lc x t <;> rw[h2]at hf <;> cases hf
    exact .inr (.inl rfl)
   ·cases hf;exact .inl rfl
 | inl x=>
  rw[hf]at h;simp only at h
  cases h1:plB (t.1,0,zY k b.1 x.2.2 b.2) <;> rw[h1]at h <;> cases h
  exact .inr (.inr rfl)
theorem OH (k N:Int) (env:P5) (hk:k=36∨k=37∨k=38∨k=39) (he:bn (k,N) env=some true) (hl:env.2.2.2.1.length≤1000000):aZ (k,N) [] env:=by
 have hN:0≤N∧N<o8 env.2.2.2.2.1:=by
  unfold bn at he
  rcases hk with rfl | rfl | rfl | rfl <;>
  ·simp (disch:=decide) only[F5,E5,o6,o5,o7]at he
   by_cases g:0≤N
   case neg=>rw[H7 (by omega)]at he;cases he
   rw[H5 g,o6]at he
   exact⟨g,dZ.1 (Option.some.inj he)⟩
 obtain⟨t,ht,_⟩:=ed hN.1 hN.2
 refine⟨XO k N t env.2.2.2.1,?_,?_⟩
 ·unfold RP
  rw[ll0,show ile 36 k=true from H5 (by omega),show ile k 39=true from H5 (by omega),FM k N env t ht hN.1 hl]
  rfl
 have hA:O7 (k,N) [] env=some (IB k t):=by
  unfold O7
  rcases hk with rfl | rfl | rfl | rfl <;>
  ·simp (disch:=decide) only[F5,E5,o6,o5,o7,ht,SN,H8]
 have hC:O8 (k,N) [] env=kY (k,N) env:=by
  unfold O8
  rcases hk with rfl | rfl | rfl | rfl <;>
  ·simp (disch:=decide) only[F5,E5,o6,o5,o7]
   generalize kY _ env=o
   cases o <;> rfl
 unfold EP
 rw[hA,o7,hC]
 unfold XO
 cases ha:IB k t
 ·rfl
 simp only[o9,o5,o6]
 have hz:=Lt ha
 unfold kY
 simp only[ht,o7]
 rw[show l7 (ieq k 37) (some (t.1,t.2,(1:Int))) (some (t.1,t.2,0))=some (t.1,t.2,l7 (ieq k 37) 1 0) by cases ieq k 37 <;> rfl,o7]
 have hinit:k=36∨(true=true∧k=39)∨plB (t.1,0,l7 (ieq k 37) 1 0)=true:=by
  rcases hk with rfl | rfl | rfl | rfl
  ·exact .inl rfl
  ·right;right;rw[a1Y ha];rfl
  ·right;right
   have ht1:t.1=1:=by
    unfold IB at ha
    rw[F5 hz]at ha
    exact P6.1 ha
   rw[ht1];rfl
  ·exact .inr (.inl ⟨rfl,rfl⟩)
 by_cases hz0:k=39∧o8 env.2.2.2.1=0
 ·rw[F5 hz0.1,F5 hz0.2]
  have:env.2.2.2.1=[]:=by have:=hz0.2;unfold o8 at this;exact List.length_eq_zero_iff.1 (by omega)
  rw[this];rfl
 rw[show(l7 (ieq k 39) (l7 (ieq (o8 env.2.2.2.1) 0) (some (Sum.inr (((0,0,0),6):V3×Int))) (some (Sum.inl ((0,0,0):V3)))) (some (Sum.inl (0,0,0))))=some (.inl (0,0,0)) by
  by_cases h1:k=39
  ·rw[F5 h1,E5 (fun h=>hz0 ⟨h1,h⟩)];rfl
  ·rw[E5 h1];rfl]
 simp only[o7,C9]
 have hend:(match U0 (Aa k N t) env.2.2.2.1 (l7 (ieq k 37) 1 0,true)with
  | .inr c=>c
  | .inl a=>l7 (ieq k 39) (l7 (ieq (o8 env.2.2.2.1) 0) ((0,0,0),6) (zZ (t.1,0,a.1))) (zZ (t.1,0,a.1)))=(match U0 (Aa k N t) env.2.2.2.1 (l7 (ieq k 37) 1 0,true)with
  | .inr c=>c
  | .inl a=>zZ (t.1,0,a.1)):=by
  cases U0 (Aa k N t) env.2.2.2.1 (l7 (ieq k 37) 1 0,true)with
  | inr c=>rfl
  | inl a=>
   by_cases h1:k=39
   ·rw[F5 h1,E5 (fun h=>hz0 ⟨h1,h⟩)];rfl
   ·rw[E5 h1];rfl
 refine Eq.trans ?_ (congrArg some hend.symm)
 rw[a4a]
 apply eP env.2.2.2.1 (Aa k N t) (fun b i=>(((0,0,0),(t.1,t.2,b.1),i):V3×V3×Int)) (fun b=>(((0,0,0),(t.1,t.2,b.1)):V3×V3)) (fun i b=>b.2=decide (i=0)∧(k=36∨(b.2=true∧k=39)∨plB (t.1,0,b.1)=true)) (l7 (ieq k 37) 1 0,true) hl ⟨rfl,hinit⟩
 ·intro i m b hi hi' hb
  have hm:=D8 env.2.2.2.1 i
  rw[hi]at hm
  have hlt:(i:Int)<o8 env.2.2.2.1:=by
   have:=O6.1 hi;obtain⟨h,_⟩:=this;unfold o8;omega
  simp only[F7 hlt,o6,hm,o7]
  by_cases g:o8 m≤N
  ·have e:Aa k N t b m= .inr ((0,0,0),6):=by unfold Aa Vy;rw[jg (.inr (E9 g))]
   rw[e]
   refine⟨?_,fun _ h=>by cases h⟩
   rw[H5 g];rfl
  rw[H7 (by omega)]
  obtain⟨x,hx,_⟩:=ed hN.1 (show N<o8 m by omega)
  simp only[o5,hx,o7]
  cases h0:ieq x.1 0
  case true=>
   have e:Aa k N t b m= .inr ((0,0,0),6):=by unfold Aa Vy;rw[hx];simp only[h0];rfl
   rw[e]
   exact⟨rfl,fun _ h=>by cases h⟩
  simp only[o5,o7,C9,Qj]
  cases hh:Lc x t
  ·have e:Aa k N t b m= .inr ((0,0,0),8):=by unfold Aa Vy;rw[hx];simp only[h0,hh];rfl
   rw[e]
   exact⟨rfl,fun _ h=>by cases h⟩
  have e:Aa k N t b m=l7 (plB (t.1,0,zY k b.1 x.2.2 b.2)) (.inl (zY k b.1 x.2.2 b.2,false)) (.inr ((0,0,0),3)):=by unfold Aa Vy;rw[hx];simp only[h0,hh,o6,o5]
  obtain⟨s1,s2⟩:=a4C k N t hk ha b x hh i hi' hb.1 hb.2 (0,0,0) rfl
  refine⟨?_,?_⟩
  ·rw[e,o9,o5]
   refine Eq.trans (Eq.trans ?_ s1) ?_
   ·rfl
   ·cases plB (t.1,0,zY k b.1 x.2.2 b.2) <;> rfl
  ·intro b' hb'
   rw[e]at hb'
   cases hp:plB (t.1,0,zY k b.1 x.2.2 b.2) <;> rw[hp]at hb' <;> cases hb'
   exact⟨by simp,.inr (.inr hp)⟩
 ·intro b hb
  rw[E9 (show o8 env.2.2.2.1≤(env.2.2.2.1.length:Int)from Int.le_refl _)]
  rfl
 ·intro hf
  cases hq:U0 (Aa k N t) env.2.2.2.1 (l7 (ieq k 37) 1 0,true)with
  | inr c=>
   rcases gY (Aa k N t) (fun r=>r=((0,0,0),6)∨r=((0,0,0),8)∨r=((0,0,0),3)) (a6x k N t) _ _ _ hq with rfl | rfl | rfl <;> rfl
  | inl a=>
   simp only[C9,G7,L9,hz]
theorem a2k {k e n:Int} (hk:k=5) (h:plB (k,e,n)=true):0≤n∧n≤109572:=by
 subst hk
 rcases a0g h with⟨m,h,g⟩ | ⟨m,h,g⟩ | ⟨m,h,g⟩ | ⟨m,h,g⟩ | ⟨m,h,g⟩ | ⟨e',m,h,g⟩ <;> cases h
 exact g
theorem b9X (N:Int) (x:V3) (env:P5):aZ (10,N) [x] env:=by
 unfold aZ RP EP fV O7 O8 zy jS
 simp (disch:=decide) only[F5,E5,H5,H7,F7,E9,o6,o5,o7,C9,H8,o9,D9,ll0,ll1,ll2,ll3,la0,la1,la2,J6,J7,D5,D7,G7,L9,H6,I7,I5]
 simp only[zI,wI,o7]
 cases l7 (ile 2 x.1) (ile x.1 4) false
 ·exact⟨_,rfl,rfl⟩
 ·simp (disch:=decide) only[F5,E5,H5,H7,F7,E9,o6,o5,o7,C9,H8,o9,D9,ll0,ll1,ll2,ll3,la0,la1,la2,J6,J7,D5,D7,G7,L9,H6,I7,I5];exact⟨_,rfl,rfl⟩
theorem c0e (N:Int) (x:V3) (env:P5):aZ (25,N) [x] env:=by
 unfold aZ RP EP fV O7 O8 zy jS
 simp (disch:=decide) only[F5,E5,H5,H7,F7,E9,o6,o5,o7,C9,H8,o9,D9,ll0,ll1,ll2,ll3,la0,la1,la2,J6,J7,D5,D7,G7,L9,H6,I7,I5]
 cases ieq x.1 1
 ·exact⟨_,rfl,rfl⟩
 ·simp (disch:=decide) only[F5,E5,H5,H7,F7,E9,o6,o5,o7,C9,H8,o9,D9,ll0,ll1,ll2,ll3,la0,la1,la2,J6,J7,D5,D7,G7,L9,H6,I7,I5];exact⟨_,rfl,rfl⟩
theorem a1E (k N:Int) (x:V3) (env:P5) (hk:k=31∨k=32) (hx:plB x=true):aZ (k,N) [x] env:=by
 have hAB:∃q:Int×Int×Int,x.1=5→oJ x.2.2=some q∧ug x.2.2=some q:=⟨_,fun h=>⟨wU (a2k h hx).1 (a2k h hx).2,FO (a2k h hx).1 (a2k h hx).2⟩⟩
 obtain⟨q,hAB⟩:=hAB
 rcases hk with rfl | rfl
 all_goals
  unfold aZ RP EP fV O7 O8 zy jS
  simp (disch:=decide) only[F5,E5,H5,H7,F7,E9,o6,o5,o7,C9,H8,o9,D9,ll0,ll1,ll2,ll3,la0,la1,la2,J6,J7,D5,D7,G7,L9,H6,I7,I5]
  cases h5:ieq x.1 5
  ·simp only[D9,o6,o7,H8];exact⟨_,rfl,rfl⟩
  rw[(hAB (P6.1 h5)).1,(hAB (P6.1 h5)).2]
  simp (disch:=decide) only[F5,E5,H5,H7,F7,E9,o6,o5,o7,C9,H8,o9,D9,ll0,ll1,ll2,ll3,la0,la1,la2,J6,J7,D5,D7,G7,L9,H6,I7,I5]
  exact⟨_,rfl,rfl⟩
theorem c0j (N:Int) (x:V3) (env:P5) (hx:plB x=true) (he:bn (33,N) env=some true) (ht:∀t∈env.2.2.2.2.2,ku t):aZ (33,N) [x] env:=by
 unfold bn at he
 simp (disch:=decide) only[F5,E5,o6,o5,o7]at he
 by_cases g:0≤N
 case neg=>rw[H7 (by omega)]at he;cases he
 rw[H5 g,o6]at he
 obtain⟨t,hq,hm⟩:=ed g (dZ.1 (Option.some.inj he))
 have hr:=ht t hm
 unfold aZ RP EP fV O7 O8 Ed
 simp (disch:=decide) only[F5,E5,H5,H7,F7,E9,o6,o5,o7,C9,H8,o9,D9,ll0,ll1,ll2,ll3,la0,la1,la2,J6,J7,D5,D7,G7,L9,H6,I7,I5]
 simp only[hq,o7,Qj,Lc,hx,o6]
 by_cases h1:x.1=t.2.1.1
 case neg=>rw[E5 h1];exact⟨_,rfl,rfl⟩
 rw[F5 h1]
 by_cases h2:x.2.1=t.2.1.2
 case neg=>rw[E5 h2];exact⟨_,rfl,rfl⟩
 rw[F5 h2]
 by_cases h3:1≤t.2.2.1.1
 case neg=>rw[H7 (Int.not_le.1 h3),F7 (Int.not_le.1 h3)];exact⟨_,rfl,rfl⟩
 rw[H5 h3,E9 h3]
 by_cases h4:t.2.2.1.1≤6
 case neg=>rw[H7 (Int.not_le.1 h4),F7 (Int.not_le.1 h4)];exact⟨_,rfl,rfl⟩
 rw[H5 h4,E9 h4]
 simp (disch:=decide) only[F5,E5,H5,H7,F7,E9,o6,o5,o7,C9,H8,o9,D9,ll0,ll1,ll2,ll3,la0,la1,la2,J6,J7,D5,D7,G7,L9,H6,I7,I5]
 rw[a4l _ _ (by have:=hr.1;omega),a0k _ _ (by have:=hr.1;omega)]
 simp (disch:=decide) only[F5,E5,H5,H7,F7,E9,o6,o5,o7,C9,H8,o9,D9,ll0,ll1,ll2,ll3,la0,la1,la2,J6,J7,D5,D7,G7,L9,H6,I7,I5]
 cases hl:Qs t.2.2.2 env.1 x.2.2 with
 | mk i b=>
  cases b
  ·exact⟨_,rfl,rfl⟩
  ·obtain⟨l1,l2⟩:=a6v hl
   obtain⟨row,hrow,_⟩:=ed l1 l2
   simp (disch:=decide) only[F5,E5,H5,H7,F7,E9,o6,o5,o7,C9,H8,o9,D9,ll0,ll1,ll2,ll3,la0,la1,la2,J6,J7,D5,D7,G7,L9,H6,I7,I5]
   rw[hrow]
   simp (disch:=decide) only[F5,E5,H5,H7,F7,E9,o6,o5,o7,C9,H8,o9,D9,ll0,ll1,ll2,ll3,la0,la1,la2,J6,J7,D5,D7,G7,L9,H6,I7,I5]
   unfold zZ
   cases plB (t.2.2.1.1,t.2.2.1.2,row.2.2.2) <;> exact⟨_,rfl,rfl⟩
theorem c0k (N:Int) (x:V3) (env:P5) (h0:0≤N) (hI:N≤9223372036854775807) (he:bn (34,N) env=some true) (ht:∀t∈env.2.2.2.2.2,ku t):aZ (34,N) [x] env:=by
 unfold bn at he
 simp (disch:=decide) only[F5,E5,o6,o5,o7]at he
 have hq0:0≤X4 .i64 N 8:=by
  rw[show X4 .i64 N 8=N / 8 by
   unfold X4;rw[Int.tdiv_eq_ediv_of_nonneg h0];exact fA (by unfold I64;omega)]
  omega
 obtain⟨t,hq,hm⟩:=ed hq0 (dZ.1 (Option.some.inj he))
 have hr:=ht t hm
 unfold aZ RP EP fV O7 O8
 simp (disch:=decide) only[F5,E5,H5,H7,F7,E9,o6,o5,o7,C9,H8,o9,D9,ll0,ll1,ll2,ll3,la0,la1,la2,J6,J7,D5,D7,G7,L9,H6,I7,I5]
 simp only[hq,o7]
 cases ieq x.1 3
 ·exact⟨_,rfl,rfl⟩
 cases ieq t.2.1.1 3
 ·exact⟨_,rfl,rfl⟩
 cases ieq t.2.1.2 0
 ·exact⟨_,rfl,rfl⟩
 cases ieq t.2.2.1.1 4
 ·exact⟨_,rfl,rfl⟩
 cases ieq t.2.2.1.2 0
 ·exact⟨_,rfl,rfl⟩
 simp (disch:=decide) only[F5,E5,H5,H7,F7,E9,o6,o5,o7,C9,H8,o9,D9,ll0,ll1,ll2,ll3,la0,la1,la2,J6,J7,D5,D7,G7,L9,H6,I7,I5]
 rw[show aH true true=true from rfl]
 simp (disch:=decide) only[F5,E5,H5,H7,F7,E9,o6,o5,o7,C9,H8,o9,D9,ll0,ll1,ll2,ll3,la0,la1,la2,J6,J7,D5,D7,G7,L9,H6,I7,I5]
 rw[Xb _ _ _ hr,VL _ _ _ hr]
 simp (disch:=decide) only[F5,E5,H5,H7,F7,E9,o6,o5,o7,C9,H8,o9,D9,ll0,ll1,ll2,ll3,la0,la1,la2,J6,J7,D5,D7,G7,L9,H6,I7,I5]
 exact⟨_,rfl,rfl⟩
theorem OQ (x y:V3):kE x y=some (l7 (ieq x.1 y.1) (ieq x.2.1 y.2.1) false):=by
 unfold kE;cases ieq x.1 y.1 <;> rfl
theorem a1C (k N:Int) (x y:V3) (env:P5) (hk:k=11∨k=12):aZ (k,N) [x,y] env:=by
 rcases hk with rfl | rfl
 all_goals
  (unfold aZ RP EP O7 O8 di U1 aK;simp (disch:=decide) only[F5,E5,H5,H7,F7,E9,o6,o5,o7,C9,H8,o9,D9,ll0,ll1,ll2,ll3,la0,la1,la2,J6,J7,D5,D7,G7,L9,H6,I7,I5])
  unfold ji
  simp (disch:=decide) only[F5,E5,H5,H7,F7,E9,o6,o5,o7,C9,H8,o9,D9,ll0,ll1,ll2,ll3,la0,la1,la2,J6,J7,D5,D7,G7,L9,H6,I7,I5]
  simp only[OQ,wI,zI,o7]
  cases ieq x.1 y.1
  ·exact⟨_,rfl,rfl⟩
  cases ieq x.2.1 y.2.1
  ·exact⟨_,rfl,rfl⟩
  cases l7 (ile 2 x.1) (ile x.1 4) false
  ·exact⟨_,rfl,rfl⟩
  simp (disch:=decide) only[F5,E5,H5,H7,F7,E9,o6,o5,o7,C9,H8,o9,D9,ll0,ll1,ll2,ll3,la0,la1,la2,J6,J7,D5,D7,G7,L9,H6,I7,I5]
  exact⟨_,rfl,rfl⟩
theorem a5G (k N:Int) (x y:V3) (env:P5) (hk:k=19∨k=20):aZ (k,N) [x,y] env:=by
 rcases hk with rfl | rfl
 all_goals
  (unfold aZ RP EP O7 O8 di U1 aK;simp (disch:=decide) only[F5,E5,H5,H7,F7,E9,o6,o5,o7,C9,H8,o9,D9,ll0,ll1,ll2,ll3,la0,la1,la2,J6,J7,D5,D7,G7,L9,H6,I7,I5])
  unfold ji
  simp (disch:=decide) only[F5,E5,H5,H7,F7,E9,o6,o5,o7,C9,H8,o9,D9,ll0,ll1,ll2,ll3,la0,la1,la2,J6,J7,D5,D7,G7,L9,H6,I7,I5]
  simp only[OQ,wI,zI,o7]
  cases ieq x.1 y.1
  ·exact⟨_,rfl,rfl⟩
  cases ieq x.2.1 y.2.1
  ·exact⟨_,rfl,rfl⟩
  simp (disch:=decide) only[F5,E5,H5,H7,F7,E9,o6,o5,o7,C9,H8,o9,D9,ll0,ll1,ll2,ll3,la0,la1,la2,J6,J7,D5,D7,G7,L9,H6,I7,I5]
  exact⟨_,rfl,rfl⟩
theorem a1D (k N:Int) (x y:V3) (env:P5) (hk:k=21∨k=22):aZ (k,N) [x,y] env:=by
 rcases hk with rfl | rfl
 all_goals
  (unfold aZ RP EP O7 O8 di U1 aK;simp (disch:=decide) only[F5,E5,H5,H7,F7,E9,o6,o5,o7,C9,H8,o9,D9,ll0,ll1,ll2,ll3,la0,la1,la2,J6,J7,D5,D7,G7,L9,H6,I7,I5])
  unfold ji
  simp (disch:=decide) only[F5,E5,H5,H7,F7,E9,o6,o5,o7,C9,H8,o9,D9,ll0,ll1,ll2,ll3,la0,la1,la2,J6,J7,D5,D7,G7,L9,H6,I7,I5]
  simp only[OQ,wI,zI,o7]
  cases ieq x.1 y.1
  ·exact⟨_,rfl,rfl⟩
  cases ieq x.2.1 y.2.1
  ·exact⟨_,rfl,rfl⟩
  simp (disch:=decide) only[F5,E5,H5,H7,F7,E9,o6,o5,o7,C9,H8,o9,D9,ll0,ll1,ll2,ll3,la0,la1,la2,J6,J7,D5,D7,G7,L9,H6,I7,I5]
  cases l7 (ile 2 x.1) (ile x.1 4) false
  ·simp (disch:=decide) only[F5,E5,H5,H7,F7,E9,o6,o5,o7,C9,H8,o9,D9,ll0,ll1,ll2,ll3,la0,la1,la2,J6,J7,D5,D7,G7,L9,H6,I7,I5]
   cases ieq x.1 5
   ·exact⟨_,rfl,rfl⟩
   simp (disch:=decide) only[F5,E5,H5,H7,F7,E9,o6,o5,o7,C9,H8,o9,D9,ll0,ll1,ll2,ll3,la0,la1,la2,J6,J7,D5,D7,G7,L9,H6,I7,I5]
   exact⟨_,rfl,rfl⟩
  simp (disch:=decide) only[F5,E5,H5,H7,F7,E9,o6,o5,o7,C9,H8,o9,D9,ll0,ll1,ll2,ll3,la0,la1,la2,J6,J7,D5,D7,G7,L9,H6,I7,I5]
  exact⟨_,rfl,rfl⟩
theorem Pi (k N:Int) (x y:V3) (env:P5) (hk:k=17∨k=18) (hx:plB x=true) (hy:plB y=true):aZ (k,N) [x,y] env:=by
 have mx:zZ x=(x,0):=by unfold zZ;rw[hx];rfl
 have my:zZ y=(y,0):=by unfold zZ;rw[hy];rfl
 have hE:x.1=y.1→x.2.1=y.2.1→x.2.2=y.2.2→x=y:=fun h1 h2 h3=>by rw[show x=(x.1,x.2.1,x.2.2)from rfl,h1,h2,h3]
 have fin:x.1=y.1→x.2.1=y.2.1→∀b:Bool,(∃r:V3×Int,l7 (dB b (ilt x.2.2 y.2.2)) (some (x,0)) (some (y,0))=some r∧a3Z (l7 (dB b (ilt y.2.2 x.2.2)) (some (y,0)) (some (x,0)))=some r):=by
  intro h1 h2 b
  by_cases g:x.2.2<y.2.2
  ·rw[F7 g,E9 (Int.le_of_lt g)]
   cases b
   ·exact⟨(y,0),rfl,by rw[show l7 (dB false false) (some (y,(0:Int))) (some (x,0))=some (y,0)from rfl,G7,L9,my]⟩
   ·exact⟨(x,0),rfl,by rw[show l7 (dB true false) (some (y,(0:Int))) (some (x,0))=some (x,0)from rfl,G7,L9,mx]⟩
  by_cases g' :y.2.2<x.2.2
  ·rw[F7 g',E9 (Int.le_of_lt g')]
   cases b
   ·exact⟨(x,0),rfl,by rw[show l7 (dB false true) (some (y,(0:Int))) (some (x,0))=some (x,0)from rfl,G7,L9,mx]⟩
   ·exact⟨(y,0),rfl,by rw[show l7 (dB true true) (some (y,(0:Int))) (some (x,0))=some (y,0)from rfl,G7,L9,my]⟩
  have e:=hE h1 h2 (Int.le_antisymm (Int.not_lt.1 g') (Int.not_lt.1 g))
  refine⟨(x,0),?_,?_⟩
  ·rw[e];cases dB b (ilt y.2.2 y.2.2) <;> rfl
  ·rw[←e]
   rw[show l7 (dB b (ilt x.2.2 x.2.2)) (some (x,(0:Int))) (some (x,0))=some (x,0) by cases dB b (ilt x.2.2 x.2.2) <;> rfl,G7,L9,mx]
 have osum:∀(c:Bool),(l9 (l7 c (some (Sum.inr (y,(0:Int)):V3⊕(V3×Int))) (some (.inr (x,0)))) fun o=>L8 o (fun _=>l9 (gX x.2.2 y.2.2) fun(q:Int)=>some ((2,0,q),(0:Int))) fun r=>some r)=l7 c (some (y,0)) (some (x,0)):=fun c=>by cases c <;> rfl
 rcases hk with rfl | rfl
 all_goals
  (unfold aZ RP EP O7 O8 di U1 aK;simp (disch:=decide) only[F5,E5,H5,H7,F7,E9,o6,o5,o7,C9,H8,o9,D9,ll0,ll1,ll2,ll3,la0,la1,la2,J6,J7,D5,D7,G7,L9,H6,I7,I5])
  unfold ji
  simp (disch:=decide) only[F5,E5,H5,H7,F7,E9,o6,o5,o7,C9,H8,o9,D9,ll0,ll1,ll2,ll3,la0,la1,la2,J6,J7,D5,D7,G7,L9,H6,I7,I5]
  simp only[OQ,wI,zI,o7]
  cases g1:ieq x.1 y.1
  ·exact⟨_,rfl,rfl⟩
  cases g2:ieq x.2.1 y.2.1
  ·exact⟨_,rfl,rfl⟩
  simp (disch:=decide) only[F5,E5,H5,H7,F7,E9,o6,o5,o7,C9,H8,o9,D9,ll0,ll1,ll2,ll3,la0,la1,la2,J6,J7,D5,D7,G7,L9,H6,I7,I5]
  have F:=fin (P6.1 g1) (P6.1 g2)
  rw[osum]
  cases l7 (ile 2 x.1) (ile x.1 4) false
  ·simp (disch:=decide) only[F5,E5,H5,H7,F7,E9,o6,o5,o7,C9,H8,o9,D9,ll0,ll1,ll2,ll3,la0,la1,la2,J6,J7,D5,D7,G7,L9,H6,I7,I5]
   cases ieq x.1 5
   ·exact⟨_,rfl,rfl⟩
   simp (disch:=decide) only[F5,E5,H5,H7,F7,E9,o6,o5,o7,C9,H8,o9,D9,ll0,ll1,ll2,ll3,la0,la1,la2,J6,J7,D5,D7,G7,L9,H6,I7,I5]
   simp only[X7];first | exact F true | exact F false
  simp (disch:=decide) only[F5,E5,H5,H7,F7,E9,o6,o5,o7,C9,H8,o9,D9,ll0,ll1,ll2,ll3,la0,la1,la2,J6,J7,D5,D7,G7,L9,H6,I7,I5]
  simp only[X7];first | exact F true | exact F false
theorem c0f (N:Int) (x y:V3) (env:P5):aZ (27,N) [x,y] env:=by
 (unfold aZ RP EP O7 O8 di U1 aK;simp (disch:=decide) only[F5,E5,H5,H7,F7,E9,o6,o5,o7,C9,H8,o9,D9,ll0,ll1,ll2,ll3,la0,la1,la2,J6,J7,D5,D7,G7,L9,H6,I7,I5])
 unfold pI
 simp (disch:=decide) only[F5,E5,H5,H7,F7,E9,o6,o5,o7,C9,H8,o9,D9,ll0,ll1,ll2,ll3,la0,la1,la2,J6,J7,D5,D7,G7,L9,H6,I7,I5]
 cases g1:ieq x.1 5
 ·exact⟨_,rfl,rfl⟩
 cases ieq y.1 2
 ·exact⟨_,rfl,rfl⟩
 simp (disch:=decide) only[F5,E5,H5,H7,F7,E9,o6,o5,o7,C9,H8,o9,D9,ll0,ll1,ll2,ll3,la0,la1,la2,J6,J7,D5,D7,G7,L9,H6,I7,I5]
 rw[P6.1 g1]
 exact⟨_,rfl,rfl⟩
theorem c0g (N:Int) (x y:V3) (env:P5):aZ (28,N) [x,y] env:=by
 have hA:∃q,kW x.2.2 y.2.2=some q∧fE x.2.2 y.2.2=some q:=⟨_,Jh _ _,Ic _ _⟩
 obtain⟨q,h1,h2⟩:=hA
 (unfold aZ RP EP O7 O8 di U1 aK;simp (disch:=decide) only[F5,E5,H5,H7,F7,E9,o6,o5,o7,C9,H8,o9,D9,ll0,ll1,ll2,ll3,la0,la1,la2,J6,J7,D5,D7,G7,L9,H6,I7,I5])
 unfold pI
 simp (disch:=decide) only[F5,E5,H5,H7,F7,E9,o6,o5,o7,C9,H8,o9,D9,ll0,ll1,ll2,ll3,la0,la1,la2,J6,J7,D5,D7,G7,L9,H6,I7,I5]
 cases g1:ieq x.1 5
 ·exact⟨_,rfl,rfl⟩
 cases ieq y.1 2
 ·exact⟨_,rfl,rfl⟩
 simp (disch:=decide) only[F5,E5,H5,H7,F7,E9,o6,o5,o7,C9,H8,o9,D9,ll0,ll1,ll2,ll3,la0,la1,la2,J6,J7,D5,D7,G7,L9,H6,I7,I5]
 rw[h1,h2]
 simp (disch:=decide) only[F5,E5,H5,H7,F7,E9,o6,o5,o7,C9,H8,o9,D9,ll0,ll1,ll2,ll3,la0,la1,la2,J6,J7,D5,D7,G7,L9,H6,I7,I5]
 exact⟨_,rfl,rfl⟩
theorem c0h (N:Int) (x y:V3) (env:P5):aZ (29,N) [x,y] env:=by
 (unfold aZ RP EP O7 O8 di U1 aK;simp (disch:=decide) only[F5,E5,H5,H7,F7,E9,o6,o5,o7,C9,H8,o9,D9,ll0,ll1,ll2,ll3,la0,la1,la2,J6,J7,D5,D7,G7,L9,H6,I7,I5])
 unfold pI
 simp (disch:=decide) only[F5,E5,H5,H7,F7,E9,o6,o5,o7,C9,H8,o9,D9,ll0,ll1,ll2,ll3,la0,la1,la2,J6,J7,D5,D7,G7,L9,H6,I7,I5]
 cases g1:ieq x.1 5
 ·exact⟨_,rfl,rfl⟩
 cases ieq y.1 5
 ·exact⟨_,rfl,rfl⟩
 simp (disch:=decide) only[F5,E5,H5,H7,F7,E9,o6,o5,o7,C9,H8,o9,D9,ll0,ll1,ll2,ll3,la0,la1,la2,J6,J7,D5,D7,G7,L9,H6,I7,I5]
 exact⟨_,rfl,rfl⟩
theorem c0i (N:Int) (x y:V3) (env:P5):aZ (30,N) [x,y] env:=by
 have hA:∃q,gX x.2.2 y.2.2=some q∧jh x.2.2 y.2.2=some q:=⟨_,OD _ _,LU _ _⟩
 obtain⟨q,h1,h2⟩:=hA
 (unfold aZ RP EP O7 O8 di U1 aK;simp (disch:=decide) only[F5,E5,H5,H7,F7,E9,o6,o5,o7,C9,H8,o9,D9,ll0,ll1,ll2,ll3,la0,la1,la2,J6,J7,D5,D7,G7,L9,H6,I7,I5])
 unfold pI
 simp (disch:=decide) only[F5,E5,H5,H7,F7,E9,o6,o5,o7,C9,H8,o9,D9,ll0,ll1,ll2,ll3,la0,la1,la2,J6,J7,D5,D7,G7,L9,H6,I7,I5]
 cases g1:ieq x.1 5
 ·exact⟨_,rfl,rfl⟩
 cases ieq y.1 5
 ·exact⟨_,rfl,rfl⟩
 simp (disch:=decide) only[F5,E5,H5,H7,F7,E9,o6,o5,o7,C9,H8,o9,D9,ll0,ll1,ll2,ll3,la0,la1,la2,J6,J7,D5,D7,G7,L9,H6,I7,I5]
 rw[h1,h2]
 simp (disch:=decide) only[F5,E5,H5,H7,F7,E9,o6,o5,o7,C9,H8,o9,D9,ll0,ll1,ll2,ll3,la0,la1,la2,J6,J7,D5,D7,G7,L9,H6,I7,I5]
 exact⟨_,rfl,rfl⟩
theorem b9Z (N:Int) (x y:V3) (env:P5):aZ (14,N) [x,y] env:=by
 have hA:∃q,zK x.2.2 y.2.2 N=some q∧xE x.2.2 y.2.2 N=some q:=⟨_,a5H _ _ _,a4L _ _ _⟩
 have hB:∃q,FN x.2.2 y.2.2 N=some q∧CU x.2.2 y.2.2 N=some q:=⟨_,b1b _ _ _,a7o _ _ _⟩
 obtain⟨q,h1,h2⟩:=hA
 obtain⟨q',h3,h4⟩:=hB
 (unfold aZ RP EP O7 O8 di U1 aK;simp (disch:=decide) only[F5,E5,H5,H7,F7,E9,o6,o5,o7,C9,H8,o9,D9,ll0,ll1,ll2,ll3,la0,la1,la2,J6,J7,D5,D7,G7,L9,H6,I7,I5])
 unfold qw tK
 simp (disch:=decide) only[F5,E5,H5,H7,F7,E9,o6,o5,o7,C9,H8,o9,D9,ll0,ll1,ll2,ll3,la0,la1,la2,J6,J7,D5,D7,G7,L9,H6,I7,I5]
 rw[h1,h2,h3,h4]
 cases ieq y.1 4
 ·exact⟨_,rfl,rfl⟩
 by_cases g3:x.1=3
 ·rw[F5 g3]
  simp (disch:=decide) only[F5,E5,H5,H7,F7,E9,o6,o5,o7,C9,H8,o9,D9,ll0,ll1,ll2,ll3,la0,la1,la2,J6,J7,D5,D7,G7,L9,H6,I7,I5]
  exact⟨_,rfl,rfl⟩
 rw[E5 g3]
 simp (disch:=decide) only[F5,E5,H5,H7,F7,E9,o6,o5,o7,C9,H8,o9,D9,ll0,ll1,ll2,ll3,la0,la1,la2,J6,J7,D5,D7,G7,L9,H6,I7,I5]
 cases ieq x.1 4
 ·exact⟨_,rfl,rfl⟩
 simp (disch:=decide) only[F5,E5,H5,H7,F7,E9,o6,o5,o7,C9,H8,o9,D9,ll0,ll1,ll2,ll3,la0,la1,la2,J6,J7,D5,D7,G7,L9,H6,I7,I5]
 exact⟨_,rfl,rfl⟩
theorem c0d (N:Int) (x y:V3) (env:P5):aZ (16,N) [x,y] env:=by
 have hA:∃q,qZ x.2.2 y.2.2 N=some q∧rq x.2.2 y.2.2 N=some q:=⟨_,a0r _ _ _,Yo _ _ _⟩
 obtain⟨q,h1,h2⟩:=hA
 (unfold aZ RP EP O7 O8 di U1 aK;simp (disch:=decide) only[F5,E5,H5,H7,F7,E9,o6,o5,o7,C9,H8,o9,D9,ll0,ll1,ll2,ll3,la0,la1,la2,J6,J7,D5,D7,G7,L9,H6,I7,I5])
 unfold qw tK
 simp (disch:=decide) only[F5,E5,H5,H7,F7,E9,o6,o5,o7,C9,H8,o9,D9,ll0,ll1,ll2,ll3,la0,la1,la2,J6,J7,D5,D7,G7,L9,H6,I7,I5]
 rw[h1,h2]
 cases ieq x.1 3
 ·exact⟨_,rfl,rfl⟩
 cases ieq y.1 3
 ·exact⟨_,rfl,rfl⟩
 simp (disch:=decide) only[F5,E5,H5,H7,F7,E9,o6,o5,o7,C9,H8,o9,D9,ll0,ll1,ll2,ll3,la0,la1,la2,J6,J7,D5,D7,G7,L9,H6,I7,I5]
 exact⟨_,rfl,rfl⟩
theorem c0c (N:Int) (x y:V3) (env:P5):aZ (15,N) [x,y] env:=by
 have hA:∃q,bC x.2.2 y.2.2 N=some q∧pq x.2.2 y.2.2 N=some q:=⟨_,Ap _ _ _,VN _ _ _⟩
 have hB:∃q,oZ x.2.2 y.2.2 N=some q∧nz x.2.2 y.2.2 N=some q:=⟨_,Vm _ _ _,Ti _ _ _⟩
 obtain⟨q,h1,h2⟩:=hA
 obtain⟨q',h3,h4⟩:=hB
 (unfold aZ RP EP O7 O8 di U1 aK;simp (disch:=decide) only[F5,E5,H5,H7,F7,E9,o6,o5,o7,C9,H8,o9,D9,ll0,ll1,ll2,ll3,la0,la1,la2,J6,J7,D5,D7,G7,L9,H6,I7,I5])
 unfold qw tK
 simp (disch:=decide) only[F5,E5,H5,H7,F7,E9,o6,o5,o7,C9,H8,o9,D9,ll0,ll1,ll2,ll3,la0,la1,la2,J6,J7,D5,D7,G7,L9,H6,I7,I5]
 rw[h1,h2,h3,h4]
 by_cases g2:y.1=2
 ·rw[F5 g2,E5 (show y.1≠3 by rw[g2];decide)]
  simp (disch:=decide) only[F5,E5,H5,H7,F7,E9,o6,o5,o7,C9,H8,o9,D9,ll0,ll1,ll2,ll3,la0,la1,la2,J6,J7,D5,D7,G7,L9,H6,I7,I5]
  by_cases g3:x.1=3
  ·rw[F5 g3,E5 (show x.1≠2 by rw[g3];decide)]
   simp (disch:=decide) only[F5,E5,H5,H7,F7,E9,o6,o5,o7,C9,H8,o9,D9,ll0,ll1,ll2,ll3,la0,la1,la2,J6,J7,D5,D7,G7,L9,H6,I7,I5]
   exact⟨_,rfl,rfl⟩
  rw[E5 g3]
  cases ieq x.1 2
  ·exact⟨_,rfl,rfl⟩
  simp (disch:=decide) only[F5,E5,H5,H7,F7,E9,o6,o5,o7,C9,H8,o9,D9,ll0,ll1,ll2,ll3,la0,la1,la2,J6,J7,D5,D7,G7,L9,H6,I7,I5]
  exact⟨_,rfl,rfl⟩
 rw[E5 g2]
 simp (disch:=decide) only[F5,E5,H5,H7,F7,E9,o6,o5,o7,C9,H8,o9,D9,ll0,ll1,ll2,ll3,la0,la1,la2,J6,J7,D5,D7,G7,L9,H6,I7,I5]
 cases ieq x.1 3
 ·exact⟨_,rfl,rfl⟩
 simp (disch:=decide) only[F5,E5,H5,H7,F7,E9,o6,o5,o7,C9,H8,o9,D9,ll0,ll1,ll2,ll3,la0,la1,la2,J6,J7,D5,D7,G7,L9,H6,I7,I5]
 cases ieq y.1 3
 ·exact⟨_,rfl,rfl⟩
 simp (disch:=decide) only[F5,E5,H5,H7,F7,E9,o6,o5,o7,C9,H8,o9,D9,ll0,ll1,ll2,ll3,la0,la1,la2,J6,J7,D5,D7,G7,L9,H6,I7,I5]
 exact⟨_,rfl,rfl⟩
theorem tH (n:Int):(n<0∧O0 n=-n)∨(0≤n∧O0 n=n):=by
 unfold O0
 by_cases h:n<0
 ·left;exact⟨h,if_pos h⟩
 ·right;exact⟨by omega,if_neg h⟩
theorem a1z (a b:Int):(l7 (D6 (dB (ilt a 0) (ilt b 0))) (-(O0 a*O0 b)) (O0 a*O0 b))=a*b:=by
 rcases tH a with⟨h1,e1⟩ | ⟨h1,e1⟩ <;> rcases tH b with⟨h2,e2⟩ | ⟨h2,e2⟩ <;> rw[e1,e2]
 ·rw[F7 h1,F7 h2];show -a*-b=a*b;rw[Int.neg_mul_neg]
 ·rw[F7 h1,E9 h2];show -(-a*b)=a*b;rw[Int.neg_mul,Int.neg_neg]
 ·rw[E9 h1,F7 h2];show -(a*-b)=a*b;rw[Int.mul_neg,Int.neg_neg]
 ·rw[E9 h1,E9 h2];rfl
theorem a0h {a b:Int} (ha:-1000000000000000≤a∧a≤1000000000000000) (hb:-1000000000000≤b∧b≤1000000000000):qc a b=some (l7 (ilt 1000000000000000 (O0 a*O0 b)) (0,3) (a*b,0)):=by
 unfold qc
 rw[JC (by omega) (by omega),JC (by omega) (by omega)]
 have A0:0≤O0 a∧O0 a≤1000000000000000:=by rcases tH a with⟨h1,e1⟩ | ⟨h1,e1⟩ <;> omega
 have B0:0≤O0 b∧O0 b≤1000000000000:=by rcases tH b with⟨h1,e1⟩ | ⟨h1,e1⟩ <;> omega
 rw[JM A0.1 (by omega) B0.1 (by omega),o7]
 have hm:=a1z a b
 have hp:0≤O0 a*O0 b:=Int.mul_nonneg A0.1 B0.1
 generalize O0 a*O0 b=p at hm hp ⊢
 simp only
 by_cases g:p / 18446744073709551616=0
 case neg=>rw[E5 g,F7 (show(1000000000000000:Int)<p by omega)];rfl
 rw[F5 g,show p % 18446744073709551616=p by omega]
 by_cases g2:1000000000000000<p
 ·rw[F7 g2];rfl
 rw[E9 (by omega)]
 simp only[o9,o5]
 rw[show wrap .i64 p=p from fA (by unfold I64;omega),J4 (by unfold I64;omega),show(0:Int) -p=-p by omega]
 rw[←hm]
 cases D6 (dB (ilt a 0) (ilt b 0)) <;> rfl
theorem Eg {x y M:Int} (W:V3×Int) (hy:0≤y) (hM:0≤M) (hM2:M≤1000000000000000):l7 (D6 (ieq y 0)) (l9 (iI .i64 M y) fun(q:Int)=>l7 (ilt q x) (some ((0,0,0),3)) (some W)) (some W)=some (l7 (ilt M (x*y)) ((0,0,0),3) W):=by
 by_cases h:y=0
 ·subst h
  rw[F5 rfl,Int.mul_zero,E9 hM];rfl
 rw[E5 h]
 simp only[D9,o6]
 rw[nJ hM (by omega) (by omega),o7]
 have e:M / y<x↔M<x*y:=Int.ediv_lt_iff_lt_mul (by omega)
 by_cases g:M / y<x
 ·rw[F7 g,F7 (e.1 g)];rfl
 ·rw[E9 (Int.not_lt.1 g),E9 (Int.not_lt.1 fun h=>g (e.2 h))];rfl
theorem Yn {k a b M:Int} (hM:qp k=some (-M,M)) (hM0:0≤M) (hM2:M≤1000000000000000) (ha:-1000000000000000≤a∧a≤1000000000000000) (hb:-1000000000000≤b∧b≤1000000000000):nP k a b=some (l7 (ilt M (O0 a*O0 b)) ((0,0,0),3) (zZ (k,0,N9 .i64 a b))):=by
 unfold nP
 rw[hM,o7]
 simp only[J6,o7]
 have sa:G8 .i64 0 a=-a:=by rw[J4 (by unfold I64;omega)];omega
 have sb:G8 .i64 0 b=-b:=by rw[J4 (by unfold I64;omega)];omega
 rw[sa,sb]
 rcases tH a with⟨h1,e1⟩ | ⟨h1,e1⟩ <;> rcases tH b with⟨h2,e2⟩ | ⟨h2,e2⟩ <;> rw[e1,e2]
 ·rw[F7 h1,F7 h2]
  exact Eg _ (by omega) hM0 hM2
 ·rw[F7 h1,E9 h2]
  exact Eg _ (by omega) hM0 hM2
 ·rw[E9 h1,F7 h2]
  exact Eg _ (by omega) hM0 hM2
 ·rw[E9 h1,E9 h2]
  exact Eg _ (by omega) hM0 hM2
theorem QN {k a b M:Int} (hk:zq k=(-M,M)) (hM0:0≤M) (hM2:M≤1000000000000000) (ha:-1000000000000000≤a∧a≤1000000000000000) (hb:-1000000000000≤b∧b≤1000000000000):∃r:V3×Int,nP k a b=some r∧∃q:Int×Int,qc a b=some q∧Sv (k,0,q.1) q.2=r:=by
 refine⟨_,Yn (by rw[a1H,hk]) hM0 hM2 ha hb,_,a0h ha hb,?_⟩
 have hm:=a1z a b
 have hmd:O0 a*O0 b=O0 (a*b):=by
  rcases tH (a*b)with⟨h,e⟩ | ⟨h,e⟩ <;> (have hn:=Int.mul_nonneg (dV a) (dV b);cases hq:D6 (dB (ilt a 0) (ilt b 0)) <;> rw[hq]at hm <;> simp only[o6,o5]at hm <;> omega)
 rw[hmd]
 have habs:=tH (a*b)
 have hI:O0 (a*b)≤1000000000000000→N9 .i64 a b=a*b:=fun h=>eG (by unfold I64;omega)
 have hpl:M<O0 (a*b)→plB (k,0,a*b)=false:=by
  intro h
  unfold plB
  rw[hk]
  simp only
  by_cases g:-M≤a*b
  ·rw[H5 g,H7 (show M<a*b by omega)];rfl
  ·rw[H7 (by omega)];rfl
 generalize a*b=p at*
 by_cases g:1000000000000000<O0 p
 ·rw[F7 g,F7 (by omega)];rfl
 rw[E9 (by omega),hI (by omega)]
 simp only[o5,L9]
 by_cases g2:M<O0 p
 ·rw[F7 g2];unfold zZ;rw[hpl g2];rfl
 ·rw[E9 (by omega)];rfl
theorem a2l {k e n:Int} (h:plB (k,e,n)=true):(k=2→-1000000000000≤n∧n≤1000000000000)∧(k=3→-1000000000000000≤n∧n≤1000000000000000):=by
 rcases a0g h with⟨m,h,g⟩ | ⟨m,h,g⟩ | ⟨m,h,g⟩ | ⟨m,h,g⟩ | ⟨m,h,g⟩ | ⟨e',m,h,g⟩ <;> cases h <;> exact⟨fun h=>by first | exact g | exact absurd h (by decide),fun h=>by first | exact g | exact absurd h (by decide)⟩
theorem b9Y (N:Int) (x y:V3) (env:P5) (hx:plB x=true) (hy:plB y=true):aZ (13,N) [x,y] env:=by
 have hX:=a2l (k:=x.1) (e:=x.2.1) (n:=x.2.2) hx
 have hY:=a2l (k:=y.1) (e:=y.2.1) (n:=y.2.2) hy
 have key:y.1=2→x.1=2∨x.1=3→∃r:V3×Int,nP x.1 x.2.2 y.2.2=some r∧∃q:Int×Int,qc x.2.2 y.2.2=some q∧Sv (x.1,0,q.1) q.2=r:=by
  intro h2 h
  have hb:=hY.1 h2
  rcases h with h | h
  ·have ha:=hX.1 h
   exact QN (M:=1000000000000) (by rw[h];rfl) (by decide) (by decide) ⟨Int.le_trans (by decide) ha.1,Int.le_trans ha.2 (by decide)⟩ hb
  ·have ha:=hX.2 h
   exact QN (M:=1000000000000000) (by rw[h];rfl) (by decide) (by decide) ha hb
 (unfold aZ RP EP O7 O8 di U1 aK;simp (disch:=decide) only[F5,E5,H5,H7,F7,E9,o6,o5,o7,C9,H8,o9,D9,ll0,ll1,ll2,ll3,la0,la1,la2,J6,J7,D5,D7,G7,L9,H6,I7,I5])
 unfold qw tK
 simp (disch:=decide) only[F5,E5,H5,H7,F7,E9,o6,o5,o7,C9,H8,o9,D9,ll0,ll1,ll2,ll3,la0,la1,la2,J6,J7,D5,D7,G7,L9,H6,I7,I5]
 cases g2:ieq y.1 2
 ·exact⟨_,rfl,rfl⟩
 by_cases g3:x.1=3
 ·obtain⟨r,e1,q,e2,e3⟩:=key (P6.1 g2) (.inr g3)
  rw[F5 g3,E5 (show x.1≠2 by rw[g3];decide)]
  simp (disch:=decide) only[F5,E5,H5,H7,F7,E9,o6,o5,o7,C9,H8,o9,D9,ll0,ll1,ll2,ll3,la0,la1,la2,J6,J7,D5,D7,G7,L9,H6,I7,I5]
  rw[e1,e2]
  simp (disch:=decide) only[F5,E5,H5,H7,F7,E9,o6,o5,o7,C9,H8,o9,D9,ll0,ll1,ll2,ll3,la0,la1,la2,J6,J7,D5,D7,G7,L9,H6,I7,I5]
  exact⟨_,rfl,congrArg some e3⟩
 rw[E5 g3]
 cases g4:ieq x.1 2
 ·exact⟨_,rfl,rfl⟩
 obtain⟨r,e1,q,e2,e3⟩:=key (P6.1 g2) (.inl (P6.1 g4))
 simp (disch:=decide) only[F5,E5,H5,H7,F7,E9,o6,o5,o7,C9,H8,o9,D9,ll0,ll1,ll2,ll3,la0,la1,la2,J6,J7,D5,D7,G7,L9,H6,I7,I5]
 rw[e1,e2]
 simp (disch:=decide) only[F5,E5,H5,H7,F7,E9,o6,o5,o7,C9,H8,o9,D9,ll0,ll1,ll2,ll3,la0,la1,la2,J6,J7,D5,D7,G7,L9,H6,I7,I5]
 exact⟨_,rfl,congrArg some e3⟩
theorem a5t:∀i:Fin 40,dL ((i.1:Nat):Int)=kM ((i.1:Nat):Int):=by decide+kernel
theorem a5I:∀i:Fin 40,(arF ((i.1:Nat):Int)=0→i.1∈[1,2,3,4,5,6,7,8,9,35,36,37,38,39])∧(arF ((i.1:Nat):Int)=1→i.1∈[10,25,31,32,33,34])∧(arF ((i.1:Nat):Int)=2→i.1∈[11,12,13,14,15,16,17,18,19,20,21,22,23,24,27,28,29,30])∧(arF ((i.1:Nat):Int)=3→i.1=26):=by decide+kernel
theorem c8Q {k:Int} (h:k<1∨39<k):arF k=-1:=by
 unfold arF aU
 rw[E5 (show k≠10 by omega),E5 (show k≠25 by omega),E5 (show k≠31 by omega),E5 (show k≠32 by omega),E5 (show k≠33 by omega),E5 (show k≠34 by omega),E5 (show k≠26 by omega)]
 rcases h with h | h
 ·rw[H7 (show k<1 by omega),H7 (show k<35 by omega),H7 (show k<11 by omega)];rfl
 ·rw[H5 (show 1≤k by omega),H7 (show 9<k by omega),H5 (show 35≤k by omega),H7 (show 39<k by omega),H5 (show 11≤k by omega),H7 (show 30<k by omega)];rfl
theorem c0n {k:Int} (h:arF k≠-1):∃i:Fin 40,k=((i.1:Nat):Int):=by
 by_cases g:1≤k∧k≤39
 ·exact⟨⟨k.toNat,by omega⟩,by simp;omega⟩
 ·exact absurd (c8Q (by omega)) h
theorem a9P {k:Int} (h:arF k≠-1):dL k=kM k:=by
 obtain⟨i,rfl⟩:=c0n h
 exact a5t i
theorem Uw (k:Int):∃b,kM k=some b:=by
 unfold kM
 cases ile 1 k <;> cases ile k 8 <;> cases ile 36 k <;> cases ile k 39 <;> cases ieq k 14 <;> cases ieq k 15 <;> cases ieq k 16 <;> cases ieq k 33 <;> exact⟨_,rfl⟩
def a4e (k N:Int):Bool:=l7 (l7 (ieq k 14) true (l7 (ieq k 15) true (ieq k 16))) (l7 (ile 0 N) (ile N 5) false) (l7 (ieq k 34) (l7 (ile 0 N) (ile (X5 N 8) 5) false) (l7 (ieq k 6) (ile 0 N) true))
theorem Xv (k N:Int):(l9 (l7 (ieq k 14) (some (ieq k 14)) (l7 (ieq k 15) (some (ieq k 15)) (some (ieq k 16)))) fun(x:Bool)=>l7 x (l7 (ile 0 N) (some (ile N 5)) (some false)) (l7 (ieq k 34) (l7 (ile 0 N) (some (ile (X5 N 8) 5)) (some false)) (l7 (ieq k 6) (some (ile 0 N)) (some true))))=some (a4e k N):=by
 unfold a4e
 cases ieq k 14 <;> cases ieq k 15 <;> cases ieq k 16 <;> cases ile 0 N <;> cases ieq k 34 <;> cases ieq k 6 <;> rfl
def ZE (k N:Int):Bool:=l7 (ieq N 0) (a4e k N) (l7 ((kM k).getD false) (a4e k N) false)
theorem a4c {k N c:Int} (h:arF k=c):vz (k,N) c=some (ZE k N):=by
 unfold vz ZE
 rw[QW,o7,F5 h]
 simp only[o9,o5,Xv]
 obtain⟨b,hb⟩:=Uw k
 rw[hb]
 cases ieq N 0 <;> cases b <;> rfl
theorem Zb {k N:Int} (h:arF k≠-1):jE (k,N)=some (ZE k N):=by
 unfold jE ZE
 rw[Pj,o7,E9 (show 0≤arF k by have:=(BQ k).2.2;omega)]
 simp only[o5,Xv]
 rw[a9P h]
 obtain⟨b,hb⟩:=Uw k
 rw[hb]
 cases ieq N 0 <;> cases b <;> rfl
theorem a1q (k N:Int):∃b,jE (k,N)=some b:=by
 by_cases h:arF k=-1
 ·refine⟨false,?_⟩
  unfold jE
  rw[Pj,o7,h];rfl
 ·exact⟨_,Zb h⟩
theorem Xr (n:Int×Int) (env:P5):∃b,bn n env=some b:=by
 unfold bn
 by_cases h7:n.1=7
 ·rw[F5 h7,o6];cases ile 0 n.2 <;> exact⟨_,rfl⟩
 rw[E5 h7,o5]
 by_cases h8:n.1=8
 ·rw[F5 h8,o6]
  by_cases g:0≤n.2
  case neg=>rw[H7 (Int.not_le.1 g)];exact⟨_,rfl⟩
  by_cases g2:n.2<o8 env.2.2.1
  case neg=>rw[H5 g,E9 (Int.not_lt.1 g2)];exact⟨_,rfl⟩
  obtain⟨x,hx,_⟩:=ed g g2
  rw[H5 g,F7 g2,hx];exact⟨_,rfl⟩
 rw[E5 h8,o5]
 cases ieq n.1 33
 ·cases ieq n.1 34
  ·cases ieq n.1 36 <;> cases ieq n.1 37 <;> cases ieq n.1 38 <;> cases ieq n.1 39 <;> cases ile 0 n.2 <;> exact⟨_,rfl⟩
  ·exact⟨_,rfl⟩
 ·cases ile 0 n.2 <;> exact⟨_,rfl⟩
theorem a9W {α:Type} (l:List α) (p:α→Bool):l.all p= !l.any fun v=> !p v:=by
 induction l with
 | nil=>rfl
 | cons a l ih=>rw[List.all_cons,List.any_cons,Bool.not_or,Bool.not_not,ih]
theorem a5F (l:List V3) (hl:l.length≤1000000):nY l=some (l.all plB):=by
 unfold nY
 have e:=lS l (fun v=> !plB v) false PUnit.unit (f:=fun(x:Int)=>l7 (ilt x (o8 l)) (l9 (lat l x) fun(x_1:V3)=>l9 (au x_1) fun(x_2:Bool)=>l7 (D6 x_2) (some (Out.rt false)) (some (Out.nx (x8 IntKind.i64 x 1)))) (some (Out.ex PUnit.unit))) hl
  (fun i a hi=>by
   have hlt:(i:Int)<o8 l:=by
    have:=O6.1 hi;obtain⟨h,_⟩:=this;unfold o8;omega
   have hm:=D8 l i
   rw[hi]at hm
   simp only[F7 hlt,o6,hm,o7,D7]
   cases plB a <;> rfl) (by rw[E9 (show o8 l≤(l.length:Int)from Int.le_refl _)];rfl)
 rw[show J9 _ _=_ from e]
 rw[a9W l plB]
 cases l.any fun v=> !plB v <;> rfl
theorem a4K (l:List V3) (hl:l.length≤1000000) {γ:Type} {K:V3⊕(V3×Int)→Option γ} :(l9 (J9
      (fun(x:V3×Int)=>
       l7 (ilt x.2 (o8 l))
        (l9 (lat l x.2) fun(x_1:V3)=>
         l9 (Z4 x_1) fun(x_2:Bool)=>
          l7 (D6 x_2) (some (Out.rt (((0,0,0),8):V3×Int))) (some (Out.nx (x.1,x8 IntKind.i64 x.2 1))))
        (some (Out.ex x.1)))
      ((0,0,0),0)) K)=K (l7 (l.all plB) (.inl (0,0,0)) (.inr ((0,0,0),8))):=by
 have hf:∀(l:List V3) (u:V3),U0 (fun(_:V3) (v:V3)=>(l7 (plB v) (.inl ((0,0,0):V3)) (.inr (((0,0,0),8):V3×Int)):V3⊕(V3×Int))) l (0,0,0)=l7 (l.all plB) (.inl (0,0,0)) (.inr ((0,0,0),8)):=by
  intro l u
  induction l with
  | nil=>rfl
  | cons a l ih=>
   unfold U0
   rw[List.all_cons]
   cases plB a
   ·rfl
   ·exact ih
 apply eP l (fun(_:V3) (v:V3)=>(l7 (plB v) (.inl ((0,0,0):V3)) (.inr (((0,0,0),8):V3×Int)):V3⊕(V3×Int))) (fun b i=>((b,i):V3×Int)) (fun b=>b) (fun i b=>b=(0,0,0)) (0,0,0) hl rfl
 ·intro i a b hi hi' hb
  subst hb
  have hlt:(i:Int)<o8 l:=by
   have:=O6.1 hi;obtain⟨h,_⟩:=this;unfold o8;omega
  have hm:=D8 l i
  rw[hi]at hm
  simp only[F7 hlt,o6,hm,o7,D5]
  cases plB a
  ·exact⟨rfl,fun _ h=>by cases h⟩
  ·exact⟨by rw[O5 (by omega)];rfl,fun _ h=>by cases h;rfl⟩
 ·intro b hb
  simp only[E9 (show o8 l≤(l.length:Int)from Int.le_refl _),o5]
 ·intro _
  rw[hf l (0,0,0)]
  cases l.all plB <;> rfl
structure EvOk (env:P5):Prop where
 ms:env.2.2.2.1.length≤1000000
 tb:∀t∈env.2.2.2.2.2,ku t
theorem b9W (k N:Int) (args:List V3) (env:P5) (hE:EvOk env) (hN:-9223372036854775808≤N∧N≤9223372036854775807) (hk:k≠23∧k≠24∧k≠26) (ha:arF k=o8 args) (hf:ZE k N=true) (he:bn (k,N) env=some true) (hp:args.all plB=true):aZ (k,N) args env:=by
 have hne:arF k≠-1:=by rw[ha];unfold o8;omega
 have hN34:k=34→0≤N:=by
  rintro rfl
  unfold ZE at hf
  have:a4e 34 N=true:=by
   cases g:ieq N 0 <;> rw[g]at hf
   ·exact hf
   ·exact hf
  unfold a4e at this
  by_cases g:0≤N
  ·exact g
  ·rw[H7 (by omega)]at this;cases this
 obtain⟨i,hi⟩:=c0n hne
 obtain⟨a0,a1,a2,a3⟩:=a5I i
 rw[←hi,ha]at a0 a1 a2 a3
 match args,ha,hp with
 | [],ha,hp=>
  have:=a0 rfl
  simp only[List.mem_cons,List.not_mem_nil,or_false]at this
  rcases this with h | h | h | h | h | h | h | h | h | h | h | h | h | h <;> rw[h]at hi <;> subst hi
  ·exact Ji _ _ _ (by decide)
  ·exact Ji _ _ _ (by decide)
  ·exact Ji _ _ _ (by decide)
  ·exact Ji _ _ _ (by decide)
  ·exact Ji _ _ _ (by decide)
  ·exact c8M _ _
  ·exact c8N _ _ he
  ·exact c8O _ _ he
  ·exact c8P _ _
  ·exact c0l _ _
  ·exact OH _ _ _ (by decide) he hE.ms
  ·exact OH _ _ _ (by decide) he hE.ms
  ·exact OH _ _ _ (by decide) he hE.ms
  ·exact OH _ _ _ (by decide) he hE.ms
 | [x],ha,hp=>
  have hx:plB x=true:=by simpa using hp
  have:=a1 rfl
  simp only[List.mem_cons,List.not_mem_nil,or_false]at this
  rcases this with h | h | h | h | h | h <;> rw[h]at hi <;> subst hi
  ·exact b9X _ _ _
  ·exact c0e _ _ _
  ·exact a1E _ _ _ _ (by decide) hx
  ·exact a1E _ _ _ _ (by decide) hx
  ·exact c0j _ _ _ hx he hE.tb
  ·exact c0k _ _ _ (hN34 rfl) hN.2 he hE.tb
 | [x,y],ha,hp=>
  have hxy:plB x=true∧plB y=true:=by simpa using hp
  have:=a2 rfl
  simp only[List.mem_cons,List.not_mem_nil,or_false]at this
  rcases this with h | h | h | h | h | h | h | h | h | h | h | h | h | h | h | h | h | h <;> rw[h]at hi <;> subst hi
  ·exact a1C _ _ _ _ _ (by decide)
  ·exact a1C _ _ _ _ _ (by decide)
  ·exact b9Y _ _ _ _ hxy.1 hxy.2
  ·exact b9Z _ _ _ _
  ·exact c0c _ _ _ _
  ·exact c0d _ _ _ _
  ·exact Pi _ _ _ _ _ (by decide) hxy.1 hxy.2
  ·exact Pi _ _ _ _ _ (by decide) hxy.1 hxy.2
  ·exact a5G _ _ _ _ _ (by decide)
  ·exact a5G _ _ _ _ _ (by decide)
  ·exact a1D _ _ _ _ _ (by decide)
  ·exact a1D _ _ _ _ _ (by decide)
  ·exact absurd rfl hk.1
  ·exact absurd rfl hk.2.1
  ·exact c0f _ _ _ _
  ·exact c0g _ _ _ _
  ·exact c0h _ _ _ _
  ·exact c0i _ _ _ _
 | [x,y,z],ha,hp=>
  have h:=a3 rfl
  rw[h]at hi
  exact absurd hi hk.2.2
 | x::y::z::w::l,ha,hp=>
  have h1:=(BQ k).2.2
  have:o8 (x::y::z::w::l)=(l.length:Int)+4:=by unfold o8;simp <;> omega
  rw[this]at ha
  omega
theorem WU (k N:Int) (args:List V3) (env:P5) (hE:EvOk env) (hN:-9223372036854775808≤N∧N≤9223372036854775807) (hk:k≠23∧k≠24∧k≠26) (hl:args.length≤1000000):∃r:V3×Int,iV (k,N) args env=some r∧sU (k,N) args env=some r:=by
 by_cases ha:arF k=o8 args
 case neg=>
  refine⟨((0,0,0),2),?_,?_⟩
  ·unfold iV vz
   rw[QW,o7,E5 ha];rfl
  ·unfold sU
   obtain⟨b,hb⟩:=a1q k N
   rw[hb,o7]
   cases b
   ·rfl
   ·rw[Pj,o7,E5 (fun h=>ha h.symm)];rfl
 have hne:arF k≠-1:=by rw[ha];unfold o8;omega
 unfold iV sU
 rw[a4c ha,Zb hne,Pj]
 simp only[o7,F5 ha.symm]
 cases hf:ZE k N
 ·exact⟨_,rfl,rfl⟩
 simp only[o9,o5,o7,C9]
 obtain⟨b,hb⟩:=Xr (k,N) env
 rw[show uh (k,N) env=some b from hb,hb]
 cases b
 ·exact⟨_,rfl,rfl⟩
 simp only[o7,o9,o5]
 rw[a4K args hl,a5F args hl,o7]
 cases hp:args.all plB
 ·exact⟨_,rfl,rfl⟩
 exact b9W k N args env hE hN hk ha hf hb hp
def XT.node:XT→Int×Int
 | .l0 n=>n | .l1 n _=>n | .l2 n _ _=>n | .l3 n _ _ _=>n
def rtI (t:XT) (o:Nat):Nat:=o+t.size -1
def At (e:List (Int×Int)) (S:List Int) (t:XT) (o:Nat):Prop:=∃pre suf S1 S2,e=pre++t.post++suf∧S=S1++t.sts o++S2∧pre.length=o∧S1.length=o
theorem a5L {e:List (Int×Int)} {S:List Int} {n:Int×Int} {a:XT} {o:Nat} (h:At e S (.l1 n a) o):At e S a o:=by
 obtain⟨p,s,S1,S2,h1,h2,h3,h4⟩:=h
 exact⟨p,[n]++s,S1,[(o:Int)]++S2,by rw[h1];simp[XT.post],by rw[h2];simp[XT.sts],h3,h4⟩
theorem Ht {e:List (Int×Int)} {S:List Int} {n:Int×Int} {a b:XT} {o:Nat} (h:At e S (.l2 n a b) o):At e S a o∧At e S b (o+a.size):=by
 obtain⟨p,s,S1,S2,h1,h2,h3,h4⟩:=h
 exact⟨⟨p,b.post++[n]++s,S1,b.sts (o+a.size)++[(o:Int)]++S2,by rw[h1];simp[XT.post],by rw[h2];simp[XT.sts],h3,h4⟩,
  ⟨p++a.post,[n]++s,S1++a.sts o,[(o:Int)]++S2,by rw[h1];simp[XT.post],by rw[h2];simp[XT.sts],by simp[XT.post_len,h3],by simp[XT.sts_len,h4]⟩⟩
theorem Jk {e:List (Int×Int)} {S:List Int} {n:Int×Int} {a b c:XT} {o:Nat} (h:At e S (.l3 n a b c) o):At e S a o∧At e S b (o+a.size)∧At e S c (o+a.size+b.size):=by
 obtain⟨p,s,S1,S2,h1,h2,h3,h4⟩:=h
 exact⟨⟨p,b.post++c.post++[n]++s,S1,b.sts (o+a.size)++c.sts (o+a.size+b.size)++[(o:Int)]++S2,by rw[h1];simp[XT.post],by rw[h2];simp[XT.sts],h3,h4⟩,
  ⟨p++a.post,c.post++[n]++s,S1++a.sts o,c.sts (o+a.size+b.size)++[(o:Int)]++S2,by rw[h1];simp[XT.post],by rw[h2];simp[XT.sts],by simp[XT.post_len,h3],by simp[XT.sts_len,h4]⟩,
  ⟨p++a.post++b.post,[n]++s,S1++a.sts o++b.sts (o+a.size),[(o:Int)]++S2,by rw[h1];simp[XT.post],by rw[h2];simp[XT.sts],by simp[XT.post_len,h3];try omega,by simp[XT.sts_len,h4];try omega⟩⟩
theorem a4G (t:XT):∃p,t.post=p++[t.node]∧p.length+1=t.size:=by
 have hl:=t.post_len
 cases t with
 | l0 n=>exact⟨[],rfl,rfl⟩
 | l1 n a=>refine⟨a.post,rfl,?_⟩;simp only[XT.post,List.length_append,List.length_singleton]at hl;exact hl
 | l2 n a b=>refine⟨a.post++b.post,rfl,?_⟩;simp only[XT.post,List.length_append,List.length_singleton]at hl ⊢;exact hl
 | l3 n a b c=>refine⟨a.post++b.post++c.post,rfl,?_⟩;simp only[XT.post,List.length_append,List.length_singleton]at hl ⊢;exact hl
theorem a9D (t:XT) (o:Nat):∃p,t.sts o=p++[(o:Int)]∧p.length+1=t.size:=by
 have hl:=t.sts_len o
 cases t with
 | l0 n=>exact⟨[],rfl,rfl⟩
 | l1 n a=>refine⟨a.sts o,rfl,?_⟩;simp only[XT.sts,List.length_append,List.length_singleton]at hl;exact hl
 | l2 n a b=>refine⟨a.sts o++b.sts (o+a.size),rfl,?_⟩;simp only[XT.sts,List.length_append,List.length_singleton]at hl ⊢;exact hl
 | l3 n a b c=>refine⟨a.sts o++b.sts (o+a.size)++c.sts (o+a.size+b.size),rfl,?_⟩;simp only[XT.sts,List.length_append,List.length_singleton]at hl ⊢;exact hl
theorem jO {e:List (Int×Int)} {S:List Int} {t:XT} {o:Nat} (h:At e S t o):e[rtI t o]? =some t.node∧S[rtI t o]? =some (o:Int)∧rtI t o<e.length:=by
 obtain⟨p,s,S1,S2,h1,h2,h3,h4⟩:=h
 obtain⟨q,e1,e2⟩:=a4G t
 obtain⟨q',e1',e2'⟩:=a9D t o
 have hp:=t.size_pos
 have a1:e[rtI t o]? =some t.node:=by
  rw[h1,e1,List.append_assoc,List.append_assoc,←List.append_assoc p,List.getElem?_append_right (by simp[rtI];omega)]
  rw[show rtI t o -(p++q).length=0 by simp[rtI];omega];rfl
 refine⟨a1,?_,(O6.1 a1).1⟩
 rw[h2,e1',List.append_assoc,List.append_assoc,←List.append_assoc S1,List.getElem?_append_right (by simp[rtI];omega)]
 rw[show rtI t o -(S1++q').length=0 by simp[rtI];omega];rfl
def DT:XT→Nat→List Int
 | .l0 _,_=>[]
 | .l1 _ a,o=>[(rtI a o:Int)]
 | .l2 _ a b,o=>[(rtI a o:Int),(rtI b (o+a.size):Int)]
 | .l3 _ a b c,o=>[(rtI a o:Int),(rtI b (o+a.size):Int),(rtI c (o+a.size+b.size):Int)]
structure OStep (S:List Int) (f:List Int×Int×Int→Option ((List Int×Int×Int)⊕List Int)):Prop where
 step:∀(l:List Int) (c:Nat) (j:Nat) (x:Nat),j<l.length→l.length≤3→S[c]? =some ((x:Nat):Int)→x≤100→f (l,(c:Int),(j:Int))=some (.inl (l.set j (c:Int),(x:Int) -1,(j:Int) -1))
 stop:∀(l:List Int) (c:Int),f (l,c,-1)=some (.inr l)
theorem tY {σ ε:Type} {f:σ→Option (σ⊕ε)} {s s' :σ} {n:Nat} (h:f s=some (.inl s')):jy f (n+1) s=jy f n s' :=by rw[jy,h]
theorem yY {σ ε:Type} {f:σ→Option (σ⊕ε)} {s:σ} {e:ε} {n:Nat} (h:f s=some (.inr e)):jy f (n+1) s=some e:=by rw[jy,h]
theorem Ye {e:List (Int×Int)} {S:List Int} {t:XT} {o:Nat} {f:List Int×Int×Int→Option ((List Int×Int×Int)⊕List Int)} (hs:OStep S f) (h:At e S t o) (he:e.length≤48) (hw:t.wf):
  N8 f (List.replicate (arF t.node.1).toNat 0,(rtI t o:Int) -1,arF t.node.1 -1)=some (DT t o):=by
 obtain⟨k,hk⟩:∃k,bJ=k+1+1+1+1:=⟨bJ -4,by unfold bJ;omega⟩
 unfold N8
 rw[hk]
 have hr:=jO h
 cases t with
 | l0 n=>
  rw[show arF (XT.l0 n).node.1=0 from hw]
  exact yY (hs.stop _ _)
 | l1 n a=>
  rw[show arF (XT.l1 n a).node.1=1 from hw.1]
  have ha:=jO (a5L h)
  have p1:=a.size_pos
  rw[show((rtI (.l1 n a) o:Nat):Int) -1=((rtI a o:Nat):Int) by simp only[rtI,XT.size];omega]
  rw[show((1:Int) -1)=((0:Nat):Int)from rfl,tY (hs.step _ _ 0 o (by simp) (by simp) ha.2.1 (by unfold rtI at hr;omega))]
  rw[show(((0:Nat):Int) -1)=-1 from rfl,yY (hs.stop _ _)]
  rfl
 | l2 n a b=>
  rw[show arF (XT.l2 n a b).node.1=2 from hw.1]
  have ha:=jO (Ht h).1
  have hb:=jO (Ht h).2
  have p1:=a.size_pos
  have p2:=b.size_pos
  rw[show((rtI (.l2 n a b) o:Nat):Int) -1=((rtI b (o+a.size):Nat):Int) by simp only[rtI,XT.size];omega]
  rw[show((2:Int) -1)=((1:Nat):Int)from rfl,tY (hs.step _ _ 1 (o+a.size) (by simp) (by simp) hb.2.1 (by unfold rtI at hb;omega))]
  rw[show((o+a.size:Nat):Int) -1=((rtI a o:Nat):Int) by unfold rtI;omega,show(((1:Nat):Int) -1)=((0:Nat):Int)from rfl]
  rw[tY (hs.step _ _ 0 o (by simp) (by simp) ha.2.1 (by unfold rtI at hr;omega))]
  rw[show(((0:Nat):Int) -1)=-1 from rfl,yY (hs.stop _ _)]
  rfl
 | l3 n a b c=>
  rw[show arF (XT.l3 n a b c).node.1=3 from hw.1]
  have ha:=jO (Jk h).1
  have hb:=jO (Jk h).2.1
  have hc:=jO (Jk h).2.2
  have p1:=a.size_pos
  have p2:=b.size_pos
  have p3:=c.size_pos
  rw[show((rtI (.l3 n a b c) o:Nat):Int) -1=((rtI c (o+a.size+b.size):Nat):Int) by simp only[rtI,XT.size];omega]
  rw[show((3:Int) -1)=((2:Nat):Int)from rfl,tY (hs.step _ _ 2 (o+a.size+b.size) (by simp) (by simp) hc.2.1 (by unfold rtI at hc;omega))]
  rw[show((o+a.size+b.size:Nat):Int) -1=((rtI b (o+a.size):Nat):Int) by unfold rtI;omega,show(((2:Nat):Int) -1)=((1:Nat):Int)from rfl]
  rw[tY (hs.step _ _ 1 (o+a.size) (by simp) (by simp) hb.2.1 (by unfold rtI at hb;omega))]
  rw[show((o+a.size:Nat):Int) -1=((rtI a o:Nat):Int) by unfold rtI;omega,show(((1:Nat):Int) -1)=((0:Nat):Int)from rfl]
  rw[tY (hs.step _ _ 0 o (by simp) (by simp) ha.2.1 (by unfold rtI at hr;omega))]
  rw[show(((0:Nat):Int) -1)=-1 from rfl,yY (hs.stop _ _)]
  rfl
theorem b9O {t:XT} (h:t.wf):0≤arF t.node.1∧arF t.node.1≤3:=by
 cases t with
 | l0 n=>rw[show arF (XT.l0 n).node.1=0 from h];decide
 | l1 n a=>rw[show arF (XT.l1 n a).node.1=1 from h.1];decide
 | l2 n a b=>rw[show arF (XT.l2 n a b).node.1=2 from h.1];decide
 | l3 n a b c=>rw[show arF (XT.l3 n a b c).node.1=3 from h.1];decide
theorem yZ {α:Type} {k:Int} (h:0≤k) (h2:k≤1000000) (x:α):gU k x=some (List.replicate k.toNat x):=if_pos ⟨h,by omega⟩
theorem AO {e:List (Int×Int)} {S:List Int} {t:XT} {o:Nat} (env:P5) (h:At e S t o) (he:e.length≤48) (hw:t.wf):dR (e,S,env) (rtI t o:Int)=some (DT t o):=by
 have hr:=jO h
 have ha:=b9O hw
 unfold dR
 simp only[D8,hr.1,o7,Pj]
 rw[yZ ha.1 (by omega),o7,X7]
 rw[show G8 .i64 ((rtI t o:Nat):Int) 1=(rtI t o:Int) -1 from J4 (by unfold I64;omega)]
 rw[show G8 .i64 (o8 (List.replicate (arF t.node.1).toNat (0:Int))) 1=arF t.node.1 -1 by
  rw[show o8 (List.replicate (arF t.node.1).toNat (0:Int))=arF t.node.1 by unfold o8;rw[List.length_replicate];omega]
  exact J4 (by unfold I64;omega)]
 refine Ye ⟨fun l c j x hj hl hx hx2=>?_,fun l c=>?_⟩ h he hw
 ·have hjl:l[j]? =some l[j]:=Y8 hj
  simp only[H5 (show(0:Int)≤(j:Int) by omega),o6,D8,hjl,o7,hx,I9,toN,Int.toNat_natCast,S9]
  rw[J4 (by unfold I64;omega),J4 (by unfold I64;omega)]
 ·rfl
theorem yF {e:List (Int×Int)} {T t:XT} {o:Nat} (hT:eY e= .inr T) (h:At e (T.sts 0) t o) (hw:t.wf):pG e (rtI t o:Int)=some (DT t o):=by
 obtain⟨hp,he⟩:=xN hT
 have hr:=jO h
 have ha:=b9O hw
 unfold pG
 rw[BH,o7]
 unfold ou
 rw[hT]
 simp only[D8,hr.1,o7,QW,F5 (rfl:(0:Int)=0),o9,o5]
 rw[E9 (show(0:Int)≤((rtI t o:Nat):Int) by omega),H7 (show((rtI t o:Nat):Int)<o8 e by unfold o8;omega)]
 simp only[o5,o7,C9]
 rw[yZ ha.1 (by omega),o7,X7]
 rw[show G8 .i64 ((rtI t o:Nat):Int) 1=(rtI t o:Int) -1 from J4 (by unfold I64;omega)]
 rw[show G8 .i64 (arF t.node.1) 1=arF t.node.1 -1 from J4 (by unfold I64;omega)]
 refine Ye ⟨fun l c j x hj hl hx hx2=>?_,fun l c=>?_⟩ h he hw
 ·have hjl:l[j]? =some l[j]:=Y8 hj
  simp only[H5 (show(0:Int)≤(j:Int) by omega),o6,D8,hjl,o7,hx,I9,toN,Int.toNat_natCast,S9]
  rw[J4 (by unfold I64;omega),J4 (by unfold I64;omega)]
 ·rfl
def uz (n:Int×Int) (args:List V3) (env:P5):V3×Int:=(iV n args env).getD ((0,0,0),0)
theorem yT {n:Int×Int} {env:P5} (args:List V3) (hE:EvOk env) (hI:I64 n.2) (hk:n.1≠23∧n.1≠24∧n.1≠26) (hl:args.length≤3):iV n args env=some (uz n args env)∧sU n args env=some (uz n args env):=by
 obtain⟨r,h1,h2⟩:=WU n.1 n.2 args env hE (by unfold I64 at hI;omega) hk (by omega)
 have e:uz n args env=r:=by unfold uz;rw[show iV n args env=some r from h1];rfl
 rw[e];exact⟨h1,h2⟩
def lzB (k:Int):Bool:=l7 (ieq k 23) true (l7 (ieq k 24) true (ieq k 26))
theorem b1S {k:Int} (h:lzB k=false):k≠23∧k≠24∧k≠26:=by
 refine⟨?_,?_,?_⟩ <;> (rintro rfl;revert h;decide)
def uA (r:V3×Int):V3×Int:=l7 (ieq r.2 0) (l7 (ieq r.1.1 1) (l7 (plB r.1) (r.1,0) ((0,0,0),8)) ((0,0,0),8)) ((0,0,0),r.2)
def Qp (n:Int×Int) (ra rb:V3×Int):V3×Int:=l7 (ieq n.2 0) (l7 (ieq (uA ra).2 0) (l7 (dB (ieq n.1 23) (ieq (uA ra).1.2.2 0)) ((uA ra).1,0) (uA rb)) ((0,0,0),(uA ra).2)) ((0,0,0),2)
def XG (n:Int×Int) (ra rb rc:V3×Int):V3×Int:=l7 (ieq n.2 0) (l7 (ieq (uA ra).2 0) (l7 (ieq (uA ra).1.2.2 1) rb rc) ((0,0,0),(uA ra).2)) ((0,0,0),2)
def evT (env:P5):XT→V3×Int
 | .l0 n=>uz n [] env
 | .l1 n a=>l7 (ieq (evT env a).2 0) (uz n [(evT env a).1] env) ((0,0,0),(evT env a).2)
 | .l2 n a b=>l7 (lzB n.1) (Qp n (evT env a) (evT env b)) (l7 (ieq (evT env a).2 0) (l7 (ieq (evT env b).2 0) (uz n [(evT env a).1,(evT env b).1] env) ((0,0,0),(evT env b).2)) ((0,0,0),(evT env a).2))
 | .l3 n a b c=>XG n (evT env a) (evT env b) (evT env c)
abbrev VSt:Type:=V3×List V3×Int
structure VStep (ops:List Int) (ev:Int→Option (V3×Int)) (pad:List V3→List V3) (f:VSt→Option (Out VSt (V3×List V3) (V3×Int))):Prop where
 step:∀(l:List V3) (c:Int) (r:V3×Int),ops[l.length]? =some c→ev c=some r→f ((0,0,0),pad l,(l.length:Int))=some (l7 (ieq r.2 0) (.nx ((0,0,0),pad (l++[r.1]),((l.length+1:Nat):Int))) (.rt ((0,0,0),r.2)))
 stop:∀(l:List V3),l.length=ops.length→f ((0,0,0),pad l,(l.length:Int))=some (.ex ((0,0,0),l))
section
variable {ev:Int→Option (V3×Int)} {pad:List V3→List V3} {f:VSt→Option (Out VSt (V3×List V3) (V3×Int))}
theorem v0 (h:VStep [] ev pad f):J9 f ((0,0,0),pad [],0)=some (.inl ((0,0,0),[])):=by
 obtain⟨k,hk⟩:∃k,bJ=k+1:=⟨bJ -1,by unfold bJ;omega⟩
 unfold J9
 rw[hk,iK,show f ((0,0,0),pad [],0)=some (.ex ((0,0,0),[]))from h.stop [] rfl]
theorem v1 {c:Int} {r:V3×Int} (h:VStep [c] ev pad f) (h1:ev c=some r):J9 f ((0,0,0),pad [],0)=some (l7 (ieq r.2 0) (.inl ((0,0,0),[r.1])) (.inr ((0,0,0),r.2))):=by
 obtain⟨k,hk⟩:∃k,bJ=k+1+1:=⟨bJ -2,by unfold bJ;omega⟩
 unfold J9
 rw[hk,iK,show f ((0,0,0),pad [],0)=_ from h.step [] c r rfl h1]
 cases ieq r.2 0
 ·rfl
 ·simp only[o6]
  rw[iK,show f ((0,0,0),pad ([]++[r.1]),(([].length+1:Nat):Int))=_ from h.stop [r.1] rfl]
theorem v2 {c d:Int} {r q:V3×Int} (h:VStep [c,d] ev pad f) (h1:ev c=some r) (h2:ev d=some q):J9 f ((0,0,0),pad [],0)=some (l7 (ieq r.2 0) (l7 (ieq q.2 0) (.inl ((0,0,0),[r.1,q.1])) (.inr ((0,0,0),q.2))) (.inr ((0,0,0),r.2))):=by
 obtain⟨k,hk⟩:∃k,bJ=k+1+1+1:=⟨bJ -3,by unfold bJ;omega⟩
 unfold J9
 rw[hk,iK,show f ((0,0,0),pad [],0)=_ from h.step [] c r rfl h1]
 cases ieq r.2 0
 ·rfl
 ·simp only[o6]
  rw[iK,show f ((0,0,0),pad ([]++[r.1]),(([].length+1:Nat):Int))=_ from h.step [r.1] d q rfl h2]
  cases ieq q.2 0
  ·rfl
  ·simp only[o6]
   rw[iK,show f ((0,0,0),pad ([r.1]++[q.1]),(([r.1].length+1:Nat):Int))=_ from h.stop [r.1,q.1] rfl]
end
theorem Va {k:Int} (h:arF k=0∨arF k=1):k≠23∧k≠24∧k≠26:=by
 refine⟨?_,?_,?_⟩ <;> (rintro rfl;revert h;decide)
theorem a5J {k:Int} (h:arF k=2):k≠26:=by rintro rfl;revert h;decide
theorem a5K {k:Int} (h:arF k=3):k=26:=by
 obtain⟨i,rfl⟩:=c0n (by rw[h];decide)
 rw[(a5I i).2.2.2 h];rfl
theorem d4O (n:Nat) (E:P7) (i:Int):(A7 (n+1)).1 E i=iP (A7 n).1 (A7 n).2.1 (A7 n).2.2 E i:=rfl
theorem d4P (n:Nat) (E:P7) (i:Int):(A7 (n+1)).2.1 E i=kC (A7 n).1 (A7 n).2.1 (A7 n).2.2 E i:=rfl
theorem b9A (n:Nat) (E:P7) (x:Int×Int) (l:List Int):(A7 (n+1)).2.2 E x l=fK (A7 n).1 (A7 n).2.1 (A7 n).2.2 E x l:=rfl
theorem Io {n:Nat} {E:P7} {i:Int} {r:V3×Int} (h:(A7 n).2.1 E i=some r):(A7 (n+1)).1 E i=some (uA r):=by
 rw[d4O]
 unfold iP uA
 rw[h,o7]
 cases ieq r.2 0
 ·rfl
 cases ieq r.1.1 1
 ·rfl
 simp only[o9,o5,o6]
 rw[D7,o7]
 cases plB r.1 <;> rfl
theorem a6o {n:Nat} {E:P7} {x:Int×Int} {i j:Int} {ra rb:V3×Int} (hx:x.1≠26) (h1:(A7 n).2.1 E i=some ra) (h2:(A7 n).2.1 E j=some rb):(A7 (n+2)).2.2 E x [i,j]=some (Qp x ra rb):=by
 rw[show n+2=(n+1)+1 from rfl,b9A]
 unfold fK Qp
 rw[show lat [i,j] 0=some i from rfl,show lat [i,j] 1=some j from rfl]
 simp only[o7]
 rw[Io h1,Io h2,E5 hx]
 cases ieq x.2 0
 ·rfl
 simp only[o7,o9,o5,o6]
 cases ieq (uA ra).2 0
 ·rfl
 simp only[o9,o5,o6]
 cases dB (ieq x.1 23) (ieq (uA ra).1.2.2 0) <;> rfl
theorem a6p {n:Nat} {E:P7} {x:Int×Int} {i j l:Int} {ra rb rc:V3×Int} (hx:x.1=26) (h1:(A7 n).2.1 E i=some ra) (h2:(A7 (n+1)).2.1 E j=some rb) (h3:(A7 (n+1)).2.1 E l=some rc):(A7 (n+2)).2.2 E x [i,j,l]=some (XG x ra rb rc):=by
 rw[show n+2=(n+1)+1 from rfl,b9A]
 unfold fK XG
 rw[show lat [i,j,l] 0=some i from rfl,show lat [i,j,l] 1=some j from rfl,show lat [i,j,l] 2=some l from rfl]
 simp only[o7]
 rw[Io h1,h2,h3,F5 hx]
 cases ieq x.2 0
 ·rfl
 simp only[o7,o9,o5,o6]
 cases ieq (uA ra).2 0
 ·rfl
 simp only[o9,o5,o6]
 cases ieq (uA ra).1.2.2 1 <;> rfl
def Td (m:Nat) (l:List V3):List V3:=l++List.replicate (m -l.length) (0,0,0)
theorem a7a {m:Nat} {l:List V3} (h:l.length<m):(Td m l)[l.length]? =some (0,0,0):=by
 unfold Td
 rw[List.getElem?_append_right (Nat.le_refl _),Nat.sub_self,List.getElem?_replicate,if_pos (by omega)]
theorem a7b {m:Nat} {l:List V3} (v:V3) (h:l.length<m):(Td m l).set l.length v=Td m (l++[v]):=by
 unfold Td
 obtain⟨k,hk⟩:∃k,m -l.length=k+1:=⟨m -l.length -1,by omega⟩
 rw[List.set_append_right _ _ (Nat.le_refl _),Nat.sub_self,hk,List.replicate_succ,List.set_cons_zero]
 rw[show m -(l++[v]).length=k by simp;omega]
 simp
theorem a4E {m:Nat} {l:List V3} (h:l.length=m):Td m l=l:=by unfold Td;rw[h,Nat.sub_self];simp
def a2g (ev:Int→Option (V3×Int)) (ops:List Int) (x:VSt):Option (Out VSt (V3×List V3) (V3×Int)):=
 l7 (ilt x.2.2 (o8 ops))
  (l9 (lat ops x.2.2) fun(x_4:Int)=>
   l9 (I9 ops (toN x.2.2)) fun(x_5:Int)=>
    l9 (ev x_5) fun(x_6:V3×Int)=>
     l7 (D6 (ieq x_6.2 0)) (some (Out.rt ((0,0,0),x_6.2)))
      (l9 (lat x.2.1 x.2.2) fun(x_7:V3)=>
       l9 (I9 x.2.1 (toN x.2.2)) fun(x_8:V3)=>
        some (Out.nx (x.1,S9 x.2.1 (toN x.2.2) x_6.1,x8 IntKind.i64 x.2.2 1))))
  (some (Out.ex (x.1,x.2.1)))
theorem II (ev:Int→Option (V3×Int)) (ops:List Int) (ho:ops.length≤3):VStep ops ev (Td ops.length) (a2g ev ops):=by
 refine⟨fun l c r h1 h2=>?_,fun l h=>?_⟩
 ·have hl:=(O6.1 h1).1
  unfold a2g
  simp only[G6 h1,o6,D8,h1,o7,I9,toN,Int.toNat_natCast,h2,a7a hl,S9,a7b _ hl]
  cases ieq r.2 0
  ·rfl
  ·simp only[o9,o5,o6]
   rw[O5 (by omega)]
 ·unfold a2g
  rw[a4E h,h,G5];rfl
theorem OJ (n:Nat) (E:P7) (i:Int) (x:Int×Int) (ops:List Int) (h1:lat E.1 i=some x) (h2:dR E i=some ops) (ho:ops.length≤3):
  (A7 (n+1)).2.1 E i=l7 (lzB x.1) ((A7 n).2.2 E x ops)
   (l9 (J9 (a2g ((A7 n).2.1 E) ops) ((0,0,0),Td ops.length [],0)) fun(o:V3×List V3⊕V3×Int)=>L8 o (fun(y:V3×List V3)=>sU x y.2 E.2.2) fun(r:V3×Int)=>some r):=by
 rw[d4P]
 unfold kC lzB
 simp only[h1,h2,o7,X7]
 rw[show o8 ops=(ops.length:Int)from rfl]
 have hp:gU (ops.length:Int) (((0,0,0):Int×Int×Int))=some (Td ops.length []):=by
  rw[yZ (by omega) (by omega)];rfl
 cases g1:ieq x.1 23
 ·cases g2:ieq x.1 24
  ·cases g3:ieq x.1 26
   ·simp only[o5,o7,C9]
    rw[show gU (ops.length:Int) _=_ from hp,o7]
    rfl
   ·simp only[o5,o6]
    generalize (A7 n).2.2 E x ops=q
    cases q <;> rfl
  ·simp only[o5,o6]
   generalize (A7 n).2.2 E x ops=q
   cases q <;> rfl
 ·simp only[o6]
  generalize (A7 n).2.2 E x ops=q
  cases q <;> rfl
theorem JS (t:XT) (o:Nat):(DT t o).length≤3:=by cases t <;> simp[DT]
theorem Xo {e:List (Int×Int)} {S:List Int} {env:P5} (hE:EvOk env) (he:e.length≤48) (hI:∀n∈e,I64 n.2):∀(t:XT) (o k:Nat),At e S t o→t.wf→3*t.size≤k→(A7 k).2.1 (e,S,env) (rtI t o:Int)=some (evT env t):=by
 intro t
 induction t with
 | l0 n=>
  intro o k h hw hk
  have hr:=jO h
  obtain⟨k,rfl⟩:∃m,k=m+3:=⟨k -3,by simp only[XT.size]at hk;omega⟩
  have hz:=Va (.inl (show arF n.1=0 from hw))
  rw[show k+3=(k+2)+1 from rfl,OJ _ _ _ n (DT (.l0 n) o) (by rw[D8];exact hr.1) (AO env h he hw) (JS _ _)]
  rw[show lzB n.1=false by unfold lzB;rw[E5 hz.1,E5 hz.2.1,E5 hz.2.2];rfl,o5]
  rw[show DT (.l0 n) o=[]from rfl,v0 (II _ _ (by simp)),o7,C9]
  exact(yT [] hE (hI n (bZ hr.1)) hz (by simp)).2
 | l1 n a iha=>
  intro o k h hw hk
  have hr:=jO h
  simp only[XT.size]at hk
  obtain⟨k,rfl⟩:∃m,k=m+3:=⟨k -3,by omega⟩
  have hz:=Va (.inr (show arF n.1=1 from hw.1))
  rw[show k+3=(k+2)+1 from rfl,OJ _ _ _ n (DT (.l1 n a) o) (by rw[D8];exact hr.1) (AO env h he hw) (JS _ _)]
  rw[show lzB n.1=false by unfold lzB;rw[E5 hz.1,E5 hz.2.1,E5 hz.2.2];rfl,o5]
  rw[show DT (.l1 n a) o=[(rtI a o:Int)]from rfl,v1 (II _ _ (by simp)) (iha o (k+2) (a5L h) hw.2 (by omega)),o7]
  rw[show evT env (.l1 n a)=l7 (ieq (evT env a).2 0) (uz n [(evT env a).1] env) ((0,0,0),(evT env a).2)from rfl]
  cases ieq (evT env a).2 0
  ·rfl
  exact(yT [(evT env a).1] hE (hI n (bZ hr.1)) hz (by simp)).2
 | l2 n a b iha ihb=>
  intro o k h hw hk
  have hr:=jO h
  simp only[XT.size]at hk
  obtain⟨k,rfl⟩:∃m,k=m+3:=⟨k -3,by omega⟩
  have hz:=a5J (show arF n.1=2 from hw.1)
  rw[show k+3=(k+2)+1 from rfl,OJ _ _ _ n (DT (.l2 n a b) o) (by rw[D8];exact hr.1) (AO env h he hw) (JS _ _)]
  rw[show DT (.l2 n a b) o=[(rtI a o:Int),(rtI b (o+a.size):Int)]from rfl]
  rw[show evT env (.l2 n a b)=l7 (lzB n.1) (Qp n (evT env a) (evT env b)) (l7 (ieq (evT env a).2 0) (l7 (ieq (evT env b).2 0) (uz n [(evT env a).1,(evT env b).1] env) ((0,0,0),(evT env b).2)) ((0,0,0),(evT env a).2))from rfl]
  cases hl:lzB n.1
  ·have hz:=b1S hl
   simp only[o5]
   rw[v2 (II _ _ (by simp)) (iha o (k+2) (Ht h).1 hw.2.1 (by omega)) (ihb (o+a.size) (k+2) (Ht h).2 hw.2.2 (by omega)),o7]
   cases ieq (evT env a).2 0
   ·rfl
   cases ieq (evT env b).2 0
   ·rfl
   exact(yT [(evT env a).1,(evT env b).1] hE (hI n (bZ hr.1)) hz (by simp)).2
  ·simp only[o6]
   exact a6o hz (iha o k (Ht h).1 hw.2.1 (by omega)) (ihb (o+a.size) k (Ht h).2 hw.2.2 (by omega))
 | l3 n a b c iha ihb ihc=>
  intro o k h hw hk
  have hr:=jO h
  simp only[XT.size]at hk
  obtain⟨k,rfl⟩:∃m,k=m+3:=⟨k -3,by omega⟩
  have hz:=a5K (show arF n.1=3 from hw.1)
  rw[show k+3=(k+2)+1 from rfl,OJ _ _ _ n (DT (.l3 n a b c) o) (by rw[D8];exact hr.1) (AO env h he hw) (JS _ _)]
  rw[show lzB n.1=true by rw[hz];decide,o6]
  exact a6p hz (iha o k (Jk h).1 hw.2.1 (by omega)) (ihb (o+a.size) (k+1) (Jk h).2.1 hw.2.2.1 (by omega)) (ihc (o+a.size+b.size) (k+1) (Jk h).2.2 hw.2.2.2 (by omega))
theorem c1h (n:Nat) (e:List (Int×Int)) (i:Int) (env:P5):(J5 (n+1)).1 e i env=wO (J5 n).1 (J5 n).2 e i env:=rfl
theorem a7y (n:Nat) (e:List (Int×Int)) (i:Int) (l:List Int) (env:P5):(J5 (n+1)).2 e i l env=su (J5 n).1 (J5 n).2 e i l env:=rfl
def Wn (ev:Int→Option (V3×Int)) (ops:List Int) (x:VSt):Option (Out VSt (V3×List V3) (V3×Int)):=
 l7 (ilt x.2.2 (o8 ops))
  (l9 (lat ops x.2.2) fun(x_4:Int)=>
   l9 (I9 ops (toN x.2.2)) fun(x_5:Int)=>
    l9 (ev x_5) fun(x_6:V3×Int)=>
     l7 (D6 (ieq x_6.2 0)) (some (Out.rt ((0,0,0),x_6.2)))
      (l9 (X9 x.2.1 [x_6.1]) fun(y:List V3)=>some (Out.nx (x.1,y,x8 IntKind.i64 x.2.2 1))))
  (some (Out.ex (x.1,x.2.1)))
theorem FX (ev:Int→Option (V3×Int)) (ops:List Int) (ho:ops.length≤3):VStep ops ev (fun l=>l) (Wn ev ops):=by
 refine⟨fun l c r h1 h2=>?_,fun l h=>?_⟩
 ·have hl:=(O6.1 h1).1
  unfold Wn
  simp only[G6 h1,o6,D8,h1,o7,I9,toN,Int.toNat_natCast,h2]
  cases ieq r.2 0
  ·rfl
  ·simp only[o9,o5,o6]
   rw[ay _ (by omega),o7,O5 (by omega)]
 ·unfold Wn
  rw[h,G5];rfl
theorem Kv (n:Nat) (e:List (Int×Int)) (env:P5) (i:Int) (x:Int×Int) (ops:List Int) (h1:lat e i=some x) (h2:pG e i=some ops):
  (J5 (n+1)).1 e i env=l7 (lzB x.1) ((J5 n).2 e i ops env)
   (l9 (J9 (Wn (fun c=>(J5 n).1 e c env) ops) ((0,0,0),[],0)) fun(o:V3×List V3⊕V3×Int)=>L8 o (fun(y:V3×List V3)=>iV x y.2 env) fun(r:V3×Int)=>some r):=by
 rw[c1h]
 unfold wO lzB
 simp only[h1,h2,o7,X7]
 cases g1:ieq x.1 23
 ·cases g2:ieq x.1 24
  ·cases g3:ieq x.1 26
   ·rfl
   ·simp only[o5,o6]
    generalize (J5 n).2 e i ops env=q
    cases q <;> rfl
  ·simp only[o5,o6]
   generalize (J5 n).2 e i ops env=q
   cases q <;> rfl
 ·simp only[o6]
  generalize (J5 n).2 e i ops env=q
  cases q <;> rfl
theorem ES (r:V3×Int):(ieq r.2 0=false∧(uA r)=((0,0,0),r.2))∨(ieq r.2 0=true∧ieq r.1.1 1=false∧uA r=((0,0,0),8))∨(ieq r.2 0=true∧ieq r.1.1 1=true∧plB r.1=false∧uA r=((0,0,0),8))∨(ieq r.2 0=true∧ieq r.1.1 1=true∧plB r.1=true∧uA r=(r.1,0)):=by
 unfold uA
 cases ieq r.2 0
 ·exact .inl ⟨rfl,rfl⟩
 cases ieq r.1.1 1
 ·exact .inr (.inl ⟨rfl,rfl,rfl⟩)
 cases plB r.1
 ·exact .inr (.inr (.inl ⟨rfl,rfl,rfl,rfl⟩))
 ·exact .inr (.inr (.inr ⟨rfl,rfl,rfl,rfl⟩))
theorem a4W {n:Nat} {e:List (Int×Int)} {env:P5} {c:Int} {x:Int×Int} {i j:Int} {ra rb:V3×Int} (hc:lat e c=some x) (hx:x.1≠26) (h1:(J5 n).1 e i env=some ra) (h2:(J5 n).1 e j env=some rb):(J5 (n+1)).2 e c [i,j] env=some (Qp x ra rb):=by
 rw[a7y]
 unfold su Qp
 rw[show lat [i,j] 0=some i from rfl,show lat [i,j] 1=some j from rfl]
 simp only[hc,o7,h1,h2,D5,E5 hx]
 cases ieq x.2 0
 ·rfl
 rcases ES ra with⟨g1,g2⟩ | ⟨g1,g2,g3⟩ | ⟨g1,g2,g3,g4⟩ | ⟨g1,g2,g3,g4⟩
 ·rw[g2,g1];rfl
 ·rw[g1,g2,g3];rfl
 ·rw[g1,g2,g3,g4];rfl
 ·rw[g1,g2,g3,g4]
  simp only[o9,o5,o6,o7,C9,F5 (rfl:(0:Int)=0)]
  cases dB (ieq x.1 23) (ieq ra.1.2.2 0)
  ·rcases ES rb with⟨g1,g2⟩ | ⟨g1,g2,g3⟩ | ⟨g1,g2,g3,g4⟩ | ⟨g1,g2,g3,g4⟩
   ·rw[g2,g1];rfl
   ·rw[g1,g2,g3];rfl
   ·rw[g1,g2,g3,g4];rfl
   ·rw[g1,g2,g3,g4];rfl
  ·rfl
theorem a4X {n:Nat} {e:List (Int×Int)} {env:P5} {c:Int} {x:Int×Int} {i j l:Int} {ra rb rc:V3×Int} (hc:lat e c=some x) (hx:x.1=26) (h1:(J5 n).1 e i env=some ra) (h2:(J5 n).1 e j env=some rb) (h3:(J5 n).1 e l env=some rc):(J5 (n+1)).2 e c [i,j,l] env=some (XG x ra rb rc):=by
 rw[a7y]
 unfold su XG
 rw[show lat [i,j,l] 0=some i from rfl,show lat [i,j,l] 1=some j from rfl,show lat [i,j,l] 2=some l from rfl]
 simp only[hc,o7,h1,h2,h3,D5,F5 hx]
 cases ieq x.2 0
 ·rfl
 rcases ES ra with⟨g1,g2⟩ | ⟨g1,g2,g3⟩ | ⟨g1,g2,g3,g4⟩ | ⟨g1,g2,g3,g4⟩
 ·rw[g2,g1];rfl
 ·rw[g1,g2,g3];rfl
 ·rw[g1,g2,g3,g4];rfl
 ·rw[g1,g2,g3,g4]
  simp only[o9,o5,o6,o7,C9,F5 (rfl:(0:Int)=0)]
  cases ieq ra.1.2.2 1 <;> rfl
theorem VP {e:List (Int×Int)} {T:XT} {env:P5} (hE:EvOk env) (hT:eY e= .inr T) (hI:∀n∈e,I64 n.2):∀(t:XT) (o k:Nat),At e (T.sts 0) t o→t.wf→3*t.size≤k→(J5 k).1 e (rtI t o:Int) env=some (evT env t):=by
 intro t
 induction t with
 | l0 n=>
  intro o k h hw hk
  have hr:=jO h
  obtain⟨k,rfl⟩:∃m,k=m+3:=⟨k -3,by simp only[XT.size]at hk;omega⟩
  have hz:=Va (.inl (show arF n.1=0 from hw))
  rw[show k+3=(k+2)+1 from rfl,Kv _ _ _ _ n (DT (.l0 n) o) (by rw[D8];exact hr.1) (yF hT h hw)]
  rw[show lzB n.1=false by unfold lzB;rw[E5 hz.1,E5 hz.2.1,E5 hz.2.2];rfl,o5]
  rw[show DT (.l0 n) o=[]from rfl,v0 (FX _ _ (by simp)),o7,C9]
  exact(yT [] hE (hI n (bZ hr.1)) hz (by simp)).1
 | l1 n a iha=>
  intro o k h hw hk
  have hr:=jO h
  simp only[XT.size]at hk
  obtain⟨k,rfl⟩:∃m,k=m+3:=⟨k -3,by omega⟩
  have hz:=Va (.inr (show arF n.1=1 from hw.1))
  rw[show k+3=(k+2)+1 from rfl,Kv _ _ _ _ n (DT (.l1 n a) o) (by rw[D8];exact hr.1) (yF hT h hw)]
  rw[show lzB n.1=false by unfold lzB;rw[E5 hz.1,E5 hz.2.1,E5 hz.2.2];rfl,o5]
  rw[show DT (.l1 n a) o=[(rtI a o:Int)]from rfl,v1 (FX _ _ (by simp)) (iha o (k+2) (a5L h) hw.2 (by omega)),o7]
  rw[show evT env (.l1 n a)=l7 (ieq (evT env a).2 0) (uz n [(evT env a).1] env) ((0,0,0),(evT env a).2)from rfl]
  cases ieq (evT env a).2 0
  ·rfl
  exact(yT [(evT env a).1] hE (hI n (bZ hr.1)) hz (by simp)).1
 | l2 n a b iha ihb=>
  intro o k h hw hk
  have hr:=jO h
  simp only[XT.size]at hk
  obtain⟨k,rfl⟩:∃m,k=m+3:=⟨k -3,by omega⟩
  have hz:=a5J (show arF n.1=2 from hw.1)
  rw[show k+3=(k+2)+1 from rfl,Kv _ _ _ _ n (DT (.l2 n a b) o) (by rw[D8];exact hr.1) (yF hT h hw)]
  rw[show DT (.l2 n a b) o=[(rtI a o:Int),(rtI b (o+a.size):Int)]from rfl]
  rw[show evT env (.l2 n a b)=l7 (lzB n.1) (Qp n (evT env a) (evT env b)) (l7 (ieq (evT env a).2 0) (l7 (ieq (evT env b).2 0) (uz n [(evT env a).1,(evT env b).1] env) ((0,0,0),(evT env b).2)) ((0,0,0),(evT env a).2))from rfl]
  cases hl:lzB n.1
  ·have hz:=b1S hl
   simp only[o5]
   rw[v2 (FX _ _ (by simp)) (iha o (k+2) (Ht h).1 hw.2.1 (by omega)) (ihb (o+a.size) (k+2) (Ht h).2 hw.2.2 (by omega)),o7]
   cases ieq (evT env a).2 0
   ·rfl
   cases ieq (evT env b).2 0
   ·rfl
   exact(yT [(evT env a).1,(evT env b).1] hE (hI n (bZ hr.1)) hz (by simp)).1
  ·simp only[o6]
   exact a4W (by rw[D8];exact hr.1) hz (iha o (k+1) (Ht h).1 hw.2.1 (by omega)) (ihb (o+a.size) (k+1) (Ht h).2 hw.2.2 (by omega))
 | l3 n a b c iha ihb ihc=>
  intro o k h hw hk
  have hr:=jO h
  simp only[XT.size]at hk
  obtain⟨k,rfl⟩:∃m,k=m+3:=⟨k -3,by omega⟩
  have hz:=a5K (show arF n.1=3 from hw.1)
  rw[show k+3=(k+2)+1 from rfl,Kv _ _ _ _ n (DT (.l3 n a b c) o) (by rw[D8];exact hr.1) (yF hT h hw)]
  rw[show lzB n.1=true by rw[hz];decide,o6]
  exact a4X (by rw[D8];exact hr.1) hz (iha o (k+1) (Jk h).1 hw.2.1 (by omega)) (ihb (o+a.size) (k+1) (Jk h).2.1 hw.2.2.1 (by omega)) (ihc (o+a.size+b.size) (k+1) (Jk h).2.2 hw.2.2.2 (by omega))
def qM (e:List (Int×Int)) (env:P5):V3×Int:=match eY e with
 | .inl x=>((0,0,0),x.2)
 | .inr t=>evT env t
theorem WZ {e:List (Int×Int)} {t:XT} (h:eY e= .inr t):At e (t.sts 0) t 0∧e.length≤48∧e.length=t.size∧G8 .i64 (o8 e) 1=(rtI t 0:Int):=by
 obtain⟨hp,h48⟩:=xN h
 have hsz:e.length=t.size:=by rw[hp,XT.post_len]
 have hpos:=t.size_pos
 refine⟨⟨[],[],[],[],by simp[←hp],by simp,rfl,rfl⟩,h48,hsz,?_⟩
 rw[J4 (by unfold I64 o8;omega)]
 unfold o8 rtI;omega
theorem Vl {e:List (Int×Int)} {env:P5} (hE:EvOk env) (hI:∀n∈e,I64 n.2):wo e env=some (qM e env):=by
 unfold wo EY qM
 rw[KC]
 unfold ou
 cases h:eY e with
 | inl x=>simp only[o7,E5 (xM h)];rfl
 | inr t=>
  obtain⟨h1,h2,h3,h4⟩:=WZ h
  simp only[o7,F5 (rfl:(0:Int)=0),o9,o5,X7]
  rw[h4,show qN (e,t.sts 0,env) ((rtI t 0:Nat):Int)=some (evT env t)from Xo hE h2 hI t 0 bJ h1 (GY h) (by unfold bJ;omega)] <;> rfl
theorem Yl {e:List (Int×Int)} {env:P5} (hE:EvOk env) (hI:∀n∈e,I64 n.2):zN e env=some (qM e env):=by
 unfold zN Eb qM
 rw[BH]
 unfold ou
 cases h:eY e with
 | inl x=>simp only[o7,E5 (xM h)];rfl
 | inr t=>
  obtain⟨h1,h2,h3,h4⟩:=WZ h
  simp only[o7,F5 (rfl:(0:Int)=0),o9,o5,X7]
  rw[h4,show FQ e ((rtI t 0:Nat):Int) env=some (evT env t)from VP hE h hI t 0 bJ h1 (GY h) (by unfold bJ;omega)] <;> rfl
abbrev E4:Type:=Int×Int×Int×Int
def DJ (s:A8) (env:P5) (m d:Int) (ap:List Bool) (i:Int):List Bool⊕(Int×E4):=
 match lat s.2.2.2.2 i with
 | none=> .inl ap
 | some r=>l7 (ieq (o8 r.2.2.2.2.2.1) 0) (.inl (ap++[true])) (l7 (ieq (qM r.2.2.2.2.2.1 env).2 0) (.inl (ap++[ieq (qM r.2.2.2.2.2.1 env).1.2.2 1])) (.inr (0,(qM r.2.2.2.2.2.1 env).2,m,d,i)))
def P8 (s:A8) (env:P5) (m d:Int):Int×E4:=
 match U0 (DJ s env m d) (W9 s d env.1).1 []with
 | .inr e=>e
 | .inl ap=>l7 (ilt (Ad (W9 s d env.1).2.1 (W9 s d env.1).2.2 ap) 0) (Ad (W9 s d env.1).2.1 (W9 s d env.1).2.2 ap,0,0,0,0) (((W9 s d env.1).1.getD (Ad (W9 s d env.1).2.1 (W9 s d env.1).2.2 ap).toNat 0),0,0,0,0)
theorem RX {s:A8} {d t i:Int} (h:i∈(W9 s d t).1):∃r,lat s.2.2.2.2 i=some r∧r∈s.2.2.2.2:=by
 have h:i∈castL (aN s d t):=h
 obtain⟨k,hk,rfl⟩:=List.mem_map.1 h
 have:=(CX hk).1
 exact ed (by omega) (by unfold o8;omega)
theorem Gn (s:A8) (d t:Int):(W9 s d t).1.length≤s.2.2.2.2.length∧(W9 s d t).2.1.length=(W9 s d t).1.length:=by
 refine⟨?_,?_⟩
 ·show(castL (aN s d t)).length≤_
  rw[yU];exact uX _ _
 ·show((aN s d t).map _).length=(castL (aN s d t)).length
  rw[yU,List.length_map]
theorem a5U {oc pr:Int→Int} {l:List Int} {n:Int} (hn:0≤n) (h:∀x∈l,oc x<n):chF oc pr l<n:=by
 unfold chF
 cases hb:Ah oc pr l with
 | nil=>show(-1:Int)<n;omega
 | cons b r=>
  cases r with
  | nil=>exact h b (BR (oc:=oc) (pr:=pr) (by rw[hb];simp))
  | cons c r=>show(-2:Int)<n;omega
theorem a6L (par prio:List Int) (ap:List Bool):∀(k:Nat) (i:Int),i<par.length→ocF par prio ap k i<par.length
 | 0,i,h=>by show(-1:Int)<_;omega
 | k+1,i,h=>by
  unfold ocF
  have hb:chF (ocF par prio ap k) (prF prio) (castL (sW par i))<(par.length:Int):=a5U (by omega) fun x hx=>by
   unfold castL at hx
   obtain⟨j,hj,rfl⟩:=List.mem_map.1 hx
   have:=(Vt hj).1
   exact a6L par prio ap k _ (by omega)
  cases ieq (chF (ocF par prio ap k) (prF prio) (castL (sW par i))) (-1)
  ·exact hb
  ·cases apF ap i
   ·show(-1:Int)<_;omega
   ·exact h
theorem Wq (par prio:List Int) (ap:List Bool):Ad par prio ap<par.length:=by
 unfold Ad
 cases ieq (Bi par prio) 0
 ·show(-1:Int)<_;omega
 cases ieq (o8 ap) (o8 par)
 ·show(-1:Int)<_;omega
 show chS par prio ap (-1)<_
 unfold chS
 refine a5U (by omega) fun x hx=>?_
 unfold castL at hx
 obtain⟨j,hj,rfl⟩:=List.mem_map.1 hx
 have:=(Vt hj).1
 unfold OC
 exact a6L par prio ap _ _ (by omega)
def VG (m:Nat) (l:List Bool):List Bool:=l++List.replicate (m -l.length) false
theorem a6Y {m:Nat} {l:List Bool} (h:l.length<m):(VG m l)[l.length]? =some false:=by
 unfold VG
 rw[List.getElem?_append_right (Nat.le_refl _),Nat.sub_self,List.getElem?_replicate,if_pos (by omega)]
theorem a6Z {m:Nat} {l:List Bool} (v:Bool) (h:l.length<m):(VG m l).set l.length v=VG m (l++[v]):=by
 unfold VG
 obtain⟨k,hk⟩:∃k,m -l.length=k+1:=⟨m -l.length -1,by omega⟩
 rw[List.set_append_right _ _ (Nat.le_refl _),Nat.sub_self,hk,List.replicate_succ,List.set_cons_zero]
 rw[show m -(l++[v]).length=k by simp;omega]
 simp
theorem a4D {m:Nat} {l:List Bool} (h:l.length=m):VG m l=l:=by unfold VG;rw[h,Nat.sub_self];simp
theorem PH (s:A8) (env:P5) (m d:Int) (ap:List Bool):
  l7 (ilt (Ad (W9 s d env.1).2.1 (W9 s d env.1).2.2 ap) 0) (some ((Ad (W9 s d env.1).2.1 (W9 s d env.1).2.2 ap,0,0,0,0):Int×E4))
   (l9 (lat (W9 s d env.1).1 (Ad (W9 s d env.1).2.1 (W9 s d env.1).2.2 ap)) fun(x_3:Int)=>l9 (I9 (W9 s d env.1).1 (toN (Ad (W9 s d env.1).2.1 (W9 s d env.1).2.2 ap))) fun(x:Int)=>some (x,0,0,0,0))=
  some (l7 (ilt (Ad (W9 s d env.1).2.1 (W9 s d env.1).2.2 ap) 0) (Ad (W9 s d env.1).2.1 (W9 s d env.1).2.2 ap,0,0,0,0) (((W9 s d env.1).1.getD (Ad (W9 s d env.1).2.1 (W9 s d env.1).2.2 ap).toNat 0),0,0,0,0)):=by
 have hb:=Wq (W9 s d env.1).2.1 (W9 s d env.1).2.2 ap
 have hl:=(Gn s d env.1).2
 generalize Ad (W9 s d env.1).2.1 (W9 s d env.1).2.2 ap=q at*
 generalize (W9 s d env.1).1=L at*
 by_cases g:q<0
 ·rw[F7 g];rfl
 rw[E9 (Int.not_lt.1 g)]
 obtain⟨i,rfl⟩:∃i:Nat,q=(i:Int):=⟨q.toNat,by omega⟩
 have hi:i<L.length:=by omega
 have e:=Y8 hi
 simp only[o5,D8,e,o7,I9,toN,Int.toNat_natCast,qh,Option.getD_some]
theorem NZ {s:A8} {env:P5} (hs:SmS s) (hE:EvOk env) (m d:Int):ng s env m d=some (P8 s env m d):=by
 have hnr:=hs.nr
 have hlen:=(Gn s d env.1).1
 unfold ng
 rw[a5q (by omega),o7]
 rw[show gU (o8 (W9 s d env.1).1) false=some (VG (W9 s d env.1).1.length []) by rw[show o8 (W9 s d env.1).1=((W9 s d env.1).1.length:Int)from rfl,yZ (by omega) (by omega)];rfl,o7]
 unfold P8
 apply eP (W9 s d env.1).1 (DJ s env m d) (fun b i=>(((0,0,0,0),VG (W9 s d env.1).1.length b,i):E4×List Bool×Int)) (fun b=>(((0,0,0,0),b):E4×List Bool)) (fun i b=>b.length=i) [] (by omega) rfl
 ·intro i a b hi hi' hb
  obtain⟨r,hr,hm⟩:=RX (bZ hi)
  have hlt:=(O6.1 hi).1
  have hI:=(hs.ro r hm).1.2.2
  subst hb
  simp only[G6 hi,o6,D8,hi,o7,I9,toN,Int.toNat_natCast,hr,a6Y hlt,S9,a6Z _ hlt]
  unfold DJ
  rw[hr]
  simp only
  cases ieq (o8 r.2.2.2.2.2.1) 0
  ·simp only[o5]
   rw[Vl hE hI.1,o7]
   cases ieq (qM r.2.2.2.2.2.1 env).2 0
   ·exact⟨rfl,fun _ h=>by cases h⟩
   ·simp only[o9,o5,o6]
    rw[O5 (by omega)]
    exact⟨rfl,fun _ h=>by cases h;simp⟩
  ·simp only[o6]
   rw[O5 (by omega)]
   exact⟨rfl,fun _ h=>by cases h;simp⟩
 ·intro b hb
  rw[G5,a4D hb];rfl
 ·intro _
  cases U0 (DJ s env m d) (W9 s d env.1).1 []with
  | inr e=>rfl
  | inl ap=>
   simp only[C9,a5i,o7]
   exact PH s env m d ap
theorem TV {s:A8} {env:P5} (hs:SmS s) (hE:EvOk env) (m d:Int):vI s env m d=some (P8 s env m d):=by
 have hnr:=hs.nr
 have hlen:=(Gn s d env.1).1
 unfold vI
 rw[a0o (by omega),o7]
 unfold P8
 apply eP (W9 s d env.1).1 (DJ s env m d) (fun b i=>(((0,0,0,0),b,i):E4×List Bool×Int)) (fun b=>(((0,0,0,0),b):E4×List Bool)) (fun i b=>b.length=i) [] (by omega) rfl
 ·intro i a b hi hi' hb
  obtain⟨r,hr,hm⟩:=RX (bZ hi)
  have hlt:=(O6.1 hi).1
  have hI:=(hs.ro r hm).1.2.2
  subst hb
  simp only[G6 hi,o6,D8,hi,o7,I9,toN,Int.toNat_natCast,hr]
  unfold DJ
  rw[hr]
  simp only
  cases ieq (o8 r.2.2.2.2.2.1) 0
  ·simp only[o5]
   rw[Yl hE hI.1,o7]
   cases ieq (qM r.2.2.2.2.2.1 env).2 0
   ·exact⟨rfl,fun _ h=>by cases h⟩
   ·simp only[o9,o5,o6]
    rw[ay _ (by omega),o7,O5 (by omega)]
    exact⟨rfl,fun _ h=>by cases h;simp⟩
  ·simp only[o6]
   rw[ay _ (by omega),o7,O5 (by omega)]
   exact⟨rfl,fun _ h=>by cases h;simp⟩
 ·intro b hb
  rw[G5];rfl
 ·intro _
  cases U0 (DJ s env m d) (W9 s d env.1).1 []with
  | inr e=>rfl
  | inl ap=>
   simp only[C9,a0n,o7]
   exact PH s env m d ap
theorem a5V {oc pr:Int→Int} {l:List Int} (h:∀x∈l,-2≤oc x):-2≤chF oc pr l:=by
 unfold chF
 cases hb:Ah oc pr l with
 | nil=>show -2≤(-1:Int);omega
 | cons b r=>
  cases r with
  | nil=>exact h b (BR (oc:=oc) (pr:=pr) (by rw[hb];simp))
  | cons c r=>show -2≤(-2:Int);omega
theorem a6M (par prio:List Int) (ap:List Bool):∀(k:Nat) (i:Int),0≤i→-2≤ocF par prio ap k i
 | 0,i,h=>by show -2≤(-1:Int);omega
 | k+1,i,h=>by
  unfold ocF
  have hb:-2≤chF (ocF par prio ap k) (prF prio) (castL (sW par i)):=a5V fun x hx=>by
   unfold castL at hx
   obtain⟨j,hj,rfl⟩:=List.mem_map.1 hx
   exact a6M par prio ap k _ (by omega)
  cases ieq (chF (ocF par prio ap k) (prF prio) (castL (sW par i))) (-1)
  ·exact hb
  ·cases apF ap i
   ·show -2≤(-1:Int);omega
   ·show -2≤i;omega
theorem a3u (par prio:List Int) (ap:List Bool):-2≤Ad par prio ap:=by
 unfold Ad
 cases ieq (Bi par prio) 0
 ·show -2≤(-1:Int);omega
 cases ieq (o8 ap) (o8 par)
 ·show -2≤(-1:Int);omega
 show -2≤chS par prio ap (-1)
 unfold chS
 refine a5V fun x hx=>?_
 unfold castL at hx
 obtain⟨j,hj,rfl⟩:=List.mem_map.1 hx
 unfold OC
 exact a6M par prio ap _ _ (by omega)
theorem Qi {s:A8} {env:P5} {m d:Int} (b:List Bool) (i:Int) (r:Int×E4) (h:DJ s env m d b i= .inr r):r.2.1≠0:=by
 unfold DJ at h
 cases hl:lat s.2.2.2.2 i with
 | none=>rw[hl]at h;cases h
 | some q=>
  rw[hl]at h
  simp only at h
  cases h1:ieq (o8 q.2.2.2.2.2.1) 0 <;> rw[h1]at h
  ·cases h2:ieq (qM q.2.2.2.2.2.1 env).2 0 <;> rw[h2]at h <;> cases h
   simp only
   intro h3
   rw[F5 h3]at h2;cases h2
  ·cases h
theorem MW {s:A8} {env:P5} {m d:Int} (h0:(P8 s env m d).2.1=0) (h1:(P8 s env m d).1≠-1) (h2:(P8 s env m d).1≠-2):∃r,lat s.2.2.2.2 (P8 s env m d).1=some r∧r∈s.2.2.2.2:=by
 unfold P8 at*
 cases hf:U0 (DJ s env m d) (W9 s d env.1).1 []with
 | inr e=>
  rw[hf]at h0
  exact absurd h0 (gY (DJ s env m d) (fun r=>r.2.1≠0) Qi _ _ _ hf)
 | inl ap=>
  rw[hf]at h0 h1 h2
  simp only at*
  have hb:=Wq (W9 s d env.1).2.1 (W9 s d env.1).2.2 ap
  have hlo:=a3u (W9 s d env.1).2.1 (W9 s d env.1).2.2 ap
  have hl:=(Gn s d env.1).2
  generalize Ad (W9 s d env.1).2.1 (W9 s d env.1).2.2 ap=q at*
  by_cases g:q<0
  ·rw[F7 g]at h1 h2
   simp only[o6]at h1 h2
   omega
  rw[E9 (Int.not_lt.1 g)]
  have hi:q.toNat<(W9 s d env.1).1.length:=by omega
  simp only[o5,qh,Y8 hi,Option.getD_some]
  exact RX (List.getElem_mem hi)
def Bq (s:A8) (env:P5) (m d:Int):(V3×Int)⊕E4:=
 l7 (ieq (P8 s env m d).2.1 0) (l7 (ieq (P8 s env m d).1 (-1)) (.inr (10,m,d,-1)) (l7 (ieq (P8 s env m d).1 (-2)) (.inr (11,m,d,-1))
  (match lat s.2.2.2.2 (P8 s env m d).1 with
  | none=> .inr (1,0,0,0)
  | some r=>l7 (ieq (qM r.2.2.2.2.2.2.1 env).2 0) (.inl ((qM r.2.2.2.2.2.2.1 env).1,(P8 s env m d).1)) (.inr ((qM r.2.2.2.2.2.2.1 env).2,m,d,(P8 s env m d).1))))) (.inr (P8 s env m d).2)
theorem Xe {s:A8} {env:P5} {m d:Int} {e:E4} (h:Bq s env m d= .inr e):e.1≠0:=by
 unfold Bq at h
 cases h0:ieq (P8 s env m d).2.1 0 <;> rw[h0]at h
 ·cases h
  intro h3;rw[F5 h3]at h0;cases h0
 cases h1:ieq (P8 s env m d).1 (-1) <;> rw[h1]at h
 case true=>cases h;show(10:Int)≠0;decide
 cases h2:ieq (P8 s env m d).1 (-2) <;> rw[h2]at h
 case true=>cases h;show(11:Int)≠0;decide
 simp only[o6,o5]at h
 cases hl:lat s.2.2.2.2 (P8 s env m d).1 with
 | none=>rw[hl]at h;cases h;show(1:Int)≠0;decide
 | some r=>
  rw[hl]at h
  simp only at h
  cases h4:ieq (qM r.2.2.2.2.2.2.1 env).2 0 <;> rw[h4]at h <;> cases h
  simp only
  intro h3;rw[F5 h3]at h4;cases h4
theorem a3U {s:A8} {env:P5} (hs:SmS s) (hE:EvOk env) (m d:Int):yN s env m d=some (match Bq s env m d with | .inl v=>(v.1,v.2,0,0,0,0) | .inr e=>((0,0,0),0,e)):=by
 unfold yN Bq
 rw[TV hs hE,o7]
 cases h0:ieq (P8 s env m d).2.1 0
 ·rfl
 cases h1:ieq (P8 s env m d).1 (-1)
 case true=>rfl
 cases h2:ieq (P8 s env m d).1 (-2)
 case true=>rfl
 obtain⟨r,hr,hm⟩:=MW (P6.1 h0) (fun h=>by rw[F5 h]at h1;cases h1) (fun h=>by rw[F5 h]at h2;cases h2)
 simp only[o9,o5,o6,hr,o7]
 rw[Yl hE (hs.ro r hm).1.2.2.2,o7]
 cases ieq (qM r.2.2.2.2.2.2.1 env).2 0 <;> rfl
theorem UE {s:A8} :∀(k:Nat) (O:List Int),(∀d∈O,0≤d∧d<nD s)→match JU s k O with | .inl O' =>(∀d∈O',0≤d∧d<nD s)∧O'.length≤O.length+k | .inr x=>x.1=[]
 | 0,O,h=>⟨h,by omega⟩
 | k+1,O,h=>by
  unfold JU
  by_cases hc:O.length<s.2.2.2.1.length
  ·rw[if_pos hc]
   cases hn:ED s O with
   | none=>rfl
   | some d=>
    have hd:=(QE hn).1
    have:=UE k (O++[(d:Int)]) (fun x hx=>by
     rcases List.mem_append.1 hx with hx | hx
     ·exact h x hx
     ·rw[List.mem_singleton]at hx;subst hx;unfold nD o8;omega)
    simp only
    cases ho:JU s k (O++[(d:Int)])with
    | inl O' =>rw[ho]at this;exact⟨this.1,by have:=this.2;simp at this;omega⟩
    | inr x=>rw[ho]at this;exact this
  ·rw[if_neg hc];exact⟨h,by omega⟩
theorem FD (s:A8):(∀d∈(kJ s).1,0≤d∧d<nD s)∧(kJ s).1.length≤100:=by
 have:=UE (s:=s) 100 [] (by simp)
 unfold kJ
 cases ho:JU s 100 []with
 | inl O=>rw[ho]at this;exact⟨this.1,by have:=this.2;simp at this;exact this⟩
 | inr x=>rw[ho]at this;simp only at this ⊢;rw[this];simp
abbrev DB:Type:=List V3×List Int
def qU (env:P5) (ds:List V3):P5:=(env.1,env.2.1,ds,env.2.2.2)
theorem rQ {env:P5} (h:EvOk env) (ds:List V3):EvOk (qU env ds):=⟨h.ms,h.tb⟩
def scG (s:A8) (env:P5) (m:Int) (need:List Bool) (b:DB) (d:Int):DB⊕(E4×List V3):=
 l7 ((lat need d).getD false) (match Bq s (qU env b.1) m d with
  | .inl v=> .inl (b.1.set d.toNat v.1,b.2.set d.toNat v.2)
  | .inr e=> .inr (e,b.1)) (.inl b)
def scS (s:A8) (env:P5) (m:Int) (need:List Bool):DB⊕(E4×List V3):=U0 (scG s env m need) (kJ s).1 (List.replicate s.2.2.2.1.length (0,0,0),List.replicate s.2.2.2.1.length 0)
theorem b1x {s:A8} {env:P5} {m:Int} {need:List Bool} (b:DB) (d:Int) (r:E4×List V3) (h:scG s env m need b d= .inr r):r.1.1≠0:=by
 unfold scG at h
 cases hb:(lat need d).getD false <;> rw[hb]at h
 ·cases h
 simp only[o6]at h
 cases hd:Bq s (qU env b.1) m d with
 | inl v=>rw[hd]at h;cases h
 | inr e=>rw[hd]at h;cases h;exact Xe hd
theorem xn {s:A8} {env:P5} {m:Int} {need:List Bool} {r:E4×List V3} (h:scS s env m need= .inr r):r.1.1≠0:=gY (scG s env m need) (fun r=>r.1.1≠0) b1x _ _ _ h
def Lp {β ρ ρ' :Type} (h:ρ→ρ'):β⊕ρ→β⊕ρ' | .inl b=> .inl b | .inr r=> .inr (h r)
theorem Ce {α β ρ ρ' :Type} (G:β→α→β⊕ρ) (G' :β→α→β⊕ρ') (h:ρ→ρ') (hG:∀b a,G' b a=Lp h (G b a)):∀(l:List α) (b:β),U0 G' l b=Lp h (U0 G l b)
 | [],b=>rfl
 | a::l,b=>by
  unfold U0
  rw[hG b a]
  cases G b a with
  | inl b' =>exact Ce G G' h hG l b'
  | inr r=>rfl
theorem pM {α:Type} (s:A8) (hs:SmS s) (x:α):gU (o8 s.2.2.2.1) x=some (List.replicate s.2.2.2.1.length x):=by
 have:=hs.nd
 rw[show o8 s.2.2.2.1=(s.2.2.2.1.length:Int)from rfl,yZ (by omega) (by omega)];rfl
def scP (env:P5):E4×List V3→List Int×E4×P5:=fun r=>([],r.1,qU env r.2)
theorem Jv {s:A8} {env:P5} {need:List Bool} (hs:SmS s) (hE:EvOk env) (m:Int) (hn:need.length=s.2.2.2.1.length):bu s env m need=some (match scS s env m need with | .inl b=>(b.2,(0,0,0,0),qU env b.1) | .inr r=>([],r.1,qU env r.2)):=by
 obtain⟨o1,o2⟩:=FD s
 unfold bu
 rw[pM s hs,o7,pM s hs,o7,a6W hs,o7]
 have hfold:=Ce (scG s env m need) (fun b d=>Lp (scP env) (scG s env m need b d)) (scP env) (fun _ _=>rfl) (kJ s).1 (List.replicate s.2.2.2.1.length (0,0,0),List.replicate s.2.2.2.1.length 0)
 unfold scS
 apply eP (kJ s).1 (fun b d=>Lp (scP env) (scG s env m need b d)) (fun b i=>((qU env b.1,(0,0,0,0),b.2,i):P5×E4×List Int×Int)) (fun b=>((qU env b.1,(0,0,0,0),b.2):P5×E4×List Int)) (fun i b=>b.1.length=s.2.2.2.1.length∧b.2.length=s.2.2.2.1.length) (List.replicate s.2.2.2.1.length (0,0,0),List.replicate s.2.2.2.1.length 0) (by omega) ⟨by simp,by simp⟩
 ·intro i d b hi hi' hb
  have hr:=o1 d (bZ hi)
  have hnd:nD s=(s.2.2.2.1.length:Int):=rfl
  obtain⟨k,rfl⟩:∃k:Nat,d=(k:Int):=⟨d.toNat,by omega⟩
  have hk:k<s.2.2.2.1.length:=by omega
  have e1:=Y8 (show k<need.length by omega)
  have e2:=Y8 (show k<b.1.length by omega)
  have e3:=Y8 (show k<b.2.length by omega)
  unfold scG
  simp only[G6 hi,o6,D8,hi,o7,I9,toN,Int.toNat_natCast,e1,Option.getD_some]
  cases need[k]
  ·simp only[D9,o6,o5]
   rw[O5 (by omega)]
   exact⟨rfl,fun _ h=>by cases h;exact hb⟩
  simp only[o9,o6,o5]
  rw[NZ hs (rQ hE b.1),o7]
  unfold Bq
  cases h0:ieq (P8 s (qU env b.1) m (k:Int)).2.1 0
  ·exact⟨rfl,fun _ h=>by cases h⟩
  cases h1:ieq (P8 s (qU env b.1) m (k:Int)).1 (-1)
  case true=>exact⟨rfl,fun _ h=>by cases h⟩
  cases h2:ieq (P8 s (qU env b.1) m (k:Int)).1 (-2)
  case true=>exact⟨rfl,fun _ h=>by cases h⟩
  obtain⟨r,hr,hm⟩:=MW (P6.1 h0) (fun h=>by rw[F5 h]at h1;cases h1) (fun h=>by rw[F5 h]at h2;cases h2)
  simp only[o9,o5,o6,hr,o7]
  rw[Vl (rQ hE b.1) (hs.ro r hm).1.2.2.2,o7]
  cases h3:ieq (qM r.2.2.2.2.2.2.1 (qU env b.1)).2 0
  ·exact⟨rfl,fun _ h=>by cases h⟩
  ·simp only[o9,o5,o6]
   refine⟨?_,fun _ h=>by cases h;exact⟨by simp[hb.1],by simp[hb.2]⟩⟩
   rw[O5 (by omega)]
   have e2' :(qU env b.1).2.2.1[k]? =some (b.1[k]'(by omega)):=e2
   simp only[e2',e3,o7]
   rfl
 ·intro b hb
  rw[G5];rfl
 ·intro _
  rw[hfold]
  cases U0 (scG s env m need) (kJ s).1 (List.replicate s.2.2.2.1.length (0,0,0),List.replicate s.2.2.2.1.length 0) <;> rfl
theorem Au {s:A8} {env:P5} {need:List Bool} (hs:SmS s) (hE:EvOk env) (m:Int) (hn:need.length=s.2.2.2.1.length):gI s env m need=some (match scS s env m need with | .inl b=>(b.1,b.2,0,0,0,0) | .inr r=>([],[],r.1)):=by
 obtain⟨o1,o2⟩:=FD s
 unfold gI
 rw[pM s hs,o7,pM s hs,o7,a4N hs,o7]
 have hfold:=Ce (scG s env m need) (fun b d=>Lp (fun r=>(([],[],r.1):List V3×List Int×E4)) (scG s env m need b d)) (fun r=>(([],[],r.1):List V3×List Int×E4)) (fun _ _=>rfl) (kJ s).1 (List.replicate s.2.2.2.1.length (0,0,0),List.replicate s.2.2.2.1.length 0)
 unfold scS
 apply eP (kJ s).1 (fun b d=>Lp (fun r=>(([],[],r.1):List V3×List Int×E4)) (scG s env m need b d)) (fun b i=>(((env.1,env.2.1,PUnit.unit,env.2.2.2),(0,0,0,0),b.1,b.2,i):(Int×List V3×PUnit×List (List V3)×List F6×List V8)×E4×List V3×List Int×Int)) (fun b=>(((0,0,0,0),b.1,b.2):E4×List V3×List Int)) (fun i b=>b.1.length=s.2.2.2.1.length∧b.2.length=s.2.2.2.1.length) (List.replicate s.2.2.2.1.length (0,0,0),List.replicate s.2.2.2.1.length 0) (by omega) ⟨by simp,by simp⟩
 ·intro i d b hi hi' hb
  have hr:=o1 d (bZ hi)
  have hnd:nD s=(s.2.2.2.1.length:Int):=rfl
  obtain⟨k,rfl⟩:∃k:Nat,d=(k:Int):=⟨d.toNat,by omega⟩
  have hk:k<s.2.2.2.1.length:=by omega
  have e1:=Y8 (show k<need.length by omega)
  have e2:=Y8 (show k<b.1.length by omega)
  have e3:=Y8 (show k<b.2.length by omega)
  have hd:=a3U hs (rQ hE b.1) m (k:Int)
  unfold qU at hd
  unfold scG
  simp only[G6 hi,o6,D8,hi,o7,I9,toN,Int.toNat_natCast,e1,Option.getD_some]
  cases need[k]
  ·simp only[D9,o6,o5]
   rw[O5 (by omega)]
   exact⟨rfl,fun _ h=>by cases h;exact hb⟩
  simp only[o9,o6,o5]
  rw[hd,o7]
  unfold qU
  cases hq:Bq s (env.1,env.2.1,b.1,env.2.2.2) m (k:Int)with
  | inr e=>
   simp only[E5 (Xe hq)]
   exact⟨rfl,fun _ h=>by cases h⟩
  | inl v=>
   refine⟨?_,fun _ h=>by cases h;exact⟨by simp[hb.1],by simp[hb.2]⟩⟩
   simp only[e2,e3,o7,F5 (rfl:(0:Int)=0),o9,o5]
   rw[O5 (by omega)]
   rfl
 ·intro b hb
  rw[G5];rfl
 ·intro _
  rw[hfold]
  cases U0 (scG s env m need) (kJ s).1 (List.replicate s.2.2.2.1.length (0,0,0),List.replicate s.2.2.2.1.length 0) <;> rfl
def pV (l:L6) (k:Int) (c:U8) (ex:Bool) (d:Int):E4:=
 l7 (ieq (aP l).1 0) (match lat l.2.2 k with
  | none=>(6,-1,-1,-1)
  | some s=>l7 (l7 ex (l7 (ilt d 0) true (ile (o8 s.2.2.2.1) d)) false) (6,-1,-1,-1) (l7 (ieq (BV l k c).2.2 0) (0,0,0,0) ((BV l k c).2.2,(BV l k c).1,-1,-1))) (1,-1,-1,-1)
theorem XF (l:List A8) (k:Int):(ilt k 0=true∧lat l k=none)∨(ilt k 0=false∧ile (o8 l) k=true∧lat l k=none)∨(ilt k 0=false∧ile (o8 l) k=false∧∃s,lat l k=some s∧s∈l):=by
 by_cases h:k<0
 ·exact .inl ⟨F7 h,jg (.inl (H7 h))⟩
 by_cases h2:o8 l≤k
 ·exact .inr (.inl ⟨E9 (by omega),H5 h2,jg (.inr (E9 h2))⟩)
 ·exact .inr (.inr ⟨E9 (by omega),H7 (by omega),ed (by omega) (by omega)⟩)
theorem Vb {l:L6} (hL:SmL l) (k:Int) {c:U8} (hc:SmC c) (ex:Bool) (d:Int):dC l k c ex d=some (pV l k c ex d):=by
 unfold dC pV
 rw[YZ hL,o7,b0y l k hc]
 cases ieq (aP l).1 0
 ·rfl
 simp only[o9,o5,o6]
 rcases XF l.2.2 k with⟨h1,h2⟩ | ⟨h1,h2,h3⟩ | ⟨h1,h2,s,h3,_⟩
 ·rw[h1,h2];rfl
 ·rw[h1,h2,h3];rfl
 ·rw[h1,h2,h3]
  simp only[o5,o7]
  cases ex
  ·simp only[o5,o7,C9]
   cases ieq (BV l k c).2.2 0 <;> rfl
  ·simp only[o6]
   cases ilt d 0
   ·cases ile (o8 s.2.2.2.1) d
    ·simp only[o5,o7,C9]
     cases ieq (BV l k c).2.2 0 <;> rfl
    ·rfl
   ·rfl
theorem QP {l:L6} (hL:SmL l) (k:Int) {c:U8} (hc:SmC c) (ex:Bool) (d:Int):lG l k c d ex=some (pV l k c ex d):=by
 unfold lG pV BJ
 rw[VV hL,o7,o7,a7k l k hc]
 cases ieq (aP l).1 0
 ·rfl
 simp only[o9,o5,o6]
 rcases XF l.2.2 k with⟨h1,h2⟩ | ⟨h1,h2,h3⟩ | ⟨h1,h2,s,h3,_⟩
 ·rw[h1,h2];rfl
 ·rw[h1,h2,h3];rfl
 ·rw[h1,h2,h3]
  simp only[o5,o7]
  cases ex
  ·simp only[o5,o7,C9]
   cases ieq (BV l k c).2.2 0 <;> rfl
  ·simp only[o6]
   cases ilt d 0
   ·cases ile (o8 s.2.2.2.1) d
    ·simp only[o5,o7,C9]
     cases ieq (BV l k c).2.2 0 <;> rfl
    ·rfl
   ·rfl
def rY:A8:=([],0,[],[],[])
def G9 (l:L6) (s:A8):A8:=l7 (ile 0 s.2.1) ((lat l.2.2 s.2.1).getD rY) rY
def X8 (n:Nat):List Bool:=List.replicate n false
def ah (n:Nat):List Bool:=List.replicate n true
theorem pW {l:L6} {k:Int} {c:U8} {ex:Bool} {d:Int} (h:(pV l k c ex d).1=0):(aP l).1=0∧∃s,lat l.2.2 k=some s:=by
 unfold pV at h
 cases h0:ieq (aP l).1 0 <;> rw[h0]at h
 ·exact absurd (show(1:Int)=0 from h) (by decide)
 refine⟨P6.1 h0,?_⟩
 cases h1:lat l.2.2 k with
 | none=>rw[h1]at h;exact absurd (show(6:Int)=0 from h) (by decide)
 | some s=>exact⟨s,rfl⟩
theorem a9Q {l:L6} (h:(aP l).1=0) {i:Nat} {s:A8} (hs:l.2.2[i]? =some s):(xX l i s).1=0:=by
 unfold aP at h
 cases h1:ieq (Iu l).1 0 <;> rw[h1]at h
 ·simp only[o5]at h;rw[F5 h]at h1;cases h1
 cases h2:ieq (Ep l).1 0 <;> rw[h2]at h
 ·simp only[o6,o5]at h;rw[F5 h]at h2;cases h2
 simp only[o6]at h
 unfold Ky at h
 cases h3:ilt 4 (o8 l.2.2) <;> rw[h3]at h
 case true=>exact absurd (show(4:Int)=0 from h) (by decide)
 simp only[o5]at h
 have hi:=(O6.1 hs).1
 cases hf:P9 l.2.2.length (BK l)with
 | some r=>
  rw[hf]at h
  simp only at h
  obtain⟨j,hj,hp⟩:=aW hf
  unfold BK at hp
  cases hq:l.2.2[j]? with
  | none=>rw[hq]at hp;cases hp
  | some q=>
   rw[hq]at hp
   simp only at hp
   unfold KZ at hp
   exact absurd h (by
    cases he:ieq (xX l j q).1 0 <;> rw[he]at hp <;> cases hp
    simp only
    intro h4;rw[F5 h4]at he;cases he)
 | none=>
  have hn:=uI hf i hi
  unfold BK at hn
  rw[hs]at hn
  simp only at hn
  unfold KZ at hn
  cases he:ieq (xX l i s).1 0 <;> rw[he]at hn
  ·cases hn
  exact P6.1 he
theorem MP {l:L6} (h:(aP l).1=0) {i:Nat} {s:A8} (hs:l.2.2[i]? =some s):xR l i s.2.1=false∧(LK l s).1=0:=by
 have he:=a9Q h hs
 unfold xX at he
 cases g1:yz s.1 <;> rw[g1]at he
 ·exact absurd (show(2:Int)=0 from he) (by decide)
 cases g2:yg l 3 i s.1 <;> rw[g2]at he
 case true=>exact absurd (show(7:Int)=0 from he) (by decide)
 cases g3:xR l i s.2.1 <;> rw[g3]at he
 case true=>exact absurd (show(6:Int)=0 from he) (by decide)
 cases g4:ilt 12 (o8 s.2.2.1) <;> rw[g4]at he
 case true=>exact absurd (show(4:Int)=0 from he) (by decide)
 cases g5:ilt 12 (o8 s.2.2.2.1) <;> rw[g5]at he
 case true=>exact absurd (show(4:Int)=0 from he) (by decide)
 exact⟨rfl,he⟩
theorem UT {l:L6} (h:(aP l).1=0) {i:Nat} {s:A8} (hs:l.2.2[i]? =some s):xR l i s.2.1=false:=(MP h hs).1
theorem uu {l:L6} (h:(aP l).1=0) {k:Int} {s:A8} (hs:lat l.2.2 k=some s):(ile 0 s.2.1=false∧ilt s.2.1 0=true∧G9 l s=rY)∨(ile 0 s.2.1=true∧ilt s.2.1 0=false∧ile (o8 l.2.2) s.2.1=false∧lat l.2.2 s.2.1=some (G9 l s)∧G9 l s∈l.2.2):=by
 obtain⟨k0,k1,k2,k3⟩:=V5 hs
 have hm:=UT h k3
 unfold xR at hm
 by_cases g:0≤s.2.1
 ·right
  rw[E5 (show s.2.1≠-1 by intro e;rw[e]at g;exact absurd g (by decide)),E9 g]at hm
  simp only[o5]at hm
  cases g2:ile ((k.toNat:Nat):Int) s.2.1 <;> rw[g2]at hm
  case true=>cases hm
  rw[BF]at g2
  have hlt:s.2.1<o8 l.2.2:=by
   have:((k.toNat:Nat):Int)=k:=Int.toNat_of_nonneg k0
   rw[this]at g2
   exact Int.lt_trans g2 k1
  obtain⟨q,hq,hqm⟩:=ed g hlt
  have e:G9 l s=q:=by unfold G9;rw[H5 g,hq];rfl
  rw[e]
  exact⟨H5 g,E9 g,H7 hlt,hq,hqm⟩
 ·left
  have g' :=Int.not_le.1 g
  refine⟨H7 g',F7 g',?_⟩
  unfold G9;rw[H7 g'];rfl
theorem a1j (i j:Nat):(ah i++X8 (j+1)).set i true=ah (i+1)++X8 j:=by
 unfold ah X8
 rw[List.set_append_right _ _ (by simp),List.length_replicate,Nat.sub_self,List.replicate_succ,List.set_cons_zero,List.replicate_succ',List.append_assoc]
 rfl
theorem a1i (i j:Nat):(ah i++X8 (j+1))[i]? =some false:=by
 unfold ah X8
 rw[List.getElem?_append_right (by simp),List.length_replicate,Nat.sub_self];rfl
theorem TK {σ ε:Type} {f:σ→Option (σ⊕ε)} {mk:List Bool→Int→σ} {fin:List Bool→ε} {n:Nat}
  (hs:∀(i j:Nat),i+j+1=n→f (mk (ah i++X8 (j+1)) (i:Int))=some (.inl (mk (ah (i+1)++X8 j) ((i+1:Nat):Int))))
  (he:f (mk (ah n) (n:Int))=some (.inr (fin (ah n)))):∀(j i k:Nat),i+j=n→jy f (k+1+j) (mk (ah i++X8 j) (i:Int))=some (fin (ah n))
 | 0,i,k,h=>by
  have:i=n:=by omega
  subst this
  rw[show ah i++X8 0=ah i by unfold X8;simp]
  exact yY he
 | j+1,i,k,h=>by
  rw[show k+1+(j+1)=(k+1+j)+1 by omega,tY (hs i j (by omega))]
  exact TK hs he j (i+1) k (by omega)
theorem Pg {σ ε:Type} {f:σ→Option (σ⊕ε)} {mk:List Bool→Int→σ} {fin:List Bool→ε} {n:Nat} (hn:n≤1000000)
  (hs:∀(i j:Nat),i+j+1=n→f (mk (ah i++X8 (j+1)) (i:Int))=some (.inl (mk (ah (i+1)++X8 j) ((i+1:Nat):Int))))
  (he:f (mk (ah n) (n:Int))=some (.inr (fin (ah n)))):N8 f (mk (X8 n) 0)=some (fin (ah n)):=by
 unfold N8
 rw[show bJ=(bJ -n -1)+1+n by unfold bJ;omega]
 exact TK hs he n 0 _ (by omega)
theorem WT {σ ε α β:Type} {f:σ→Option (σ⊕ε)} {mk:List β→Int→σ} {fin:List β→ε} {l:List α} {g:α→β}
  (hs:∀(i:Nat) (a:α) (b:List β),l[i]? =some a→b.length=i→f (mk b (i:Int))=some (.inl (mk (b++[g a]) ((i+1:Nat):Int))))
  (he:∀b,f (mk b (l.length:Int))=some (.inr (fin b))):∀(l2 l1:List α) (k:Nat),l=l1++l2→jy f (k+1+l2.length) (mk (l1.map g) (l1.length:Int))=some (fin (l.map g))
 | [],l1,k,h=>by
  have:l=l1:=by simpa using h
  subst this
  exact yY (he _)
 | a::l2,l1,k,h=>by
  rw[show k+1+(a::l2).length=(k+1+l2.length)+1 by simp;omega,tY (hs l1.length a (l1.map g) (by rw[h];simp) (by simp))]
  have:=WT hs he l2 (l1++[a]) k (by rw[h];simp)
  simpa using this
theorem OG {σ ε α β:Type} {f:σ→Option (σ⊕ε)} (mk:List β→Int→σ) (fin:List β→ε) (l:List α) (g:α→β) (hn:l.length≤1000000)
  (hs:∀(i:Nat) (a:α) (b:List β),l[i]? =some a→b.length=i→f (mk b (i:Int))=some (.inl (mk (b++[g a]) ((i+1:Nat):Int))))
  (he:∀b,f (mk b (l.length:Int))=some (.inr (fin b))):N8 f (mk [] 0)=some (fin (l.map g)):=by
 unfold N8
 rw[show bJ=(bJ -l.length -1)+1+l.length by unfold bJ;omega]
 exact WT hs he l [] _ rfl
theorem WR {n:Nat} (hn:n≤1000000):xH (n:Int)=some (ah n):=by
 unfold xH
 rw[yZ (by omega) (by omega),o7,X7,Int.toNat_natCast]
 refine Pg (n:=n) (mk:=fun L i=>((L,i):List Bool×Int)) (fin:=fun L=>L) hn (fun i j h=>?_) ?_
 ·simp only[F7 (show(i:Int)<(n:Int) by omega),o6,D8,a1i,o7,I9,toN,Int.toNat_natCast,S9,a1j]
  rw[O5 (by omega)]
 ·simp only[E9 (Int.le_refl (n:Int)),o5]
theorem lq {l:L6} (h:(aP l).1=0) {k:Int} {s:A8} (hs:lat l.2.2 k=some s):aB l k=some (G9 l s):=by
 unfold aB
 rw[hs,o7]
 rcases uu h hs with⟨g1,g2,g3⟩ | ⟨g1,g2,g3,g4,g5⟩
 ·rw[g2,g3];rfl
 ·rw[g2,g3,g4];rfl
theorem Fv {l:L6} (hL:SmL l) (h:(aP l).1=0) {k:Int} {s:A8} (hs:lat l.2.2 k=some s):jI l k=some (s,G9 l s,X8 s.2.2.2.1.length,X8 (G9 l s).2.2.2.1.length):=by
 have hm:=(V5 hs).2.2.1
 have hnd:=(hL.sc s hm).nd
 unfold jI
 rw[hs,o7,show gU (o8 s.2.2.2.1) false=some (X8 s.2.2.2.1.length)from pM s (hL.sc s hm) false,o7]
 rcases uu h hs with⟨g1,g2,g3⟩ | ⟨g1,g2,g3,g4,g5⟩
 ·rw[g1,g3];rfl
 ·rw[g1,g4]
  simp only[o6,o7]
  rw[show gU (o8 (G9 l s).2.2.2.1) false=some (X8 (G9 l s).2.2.2.1.length)from pM _ (hL.sc _ g5) false,o7]
theorem ZW:SmS rY:=⟨by simp[rY],by simp[rY],by simp[rY],by simp[rY],⟨by simp[rY],by simp[rY]⟩,by simp[rY]⟩
def JI (l:L6) (c:U8) (v:List V3):P5:=(c.1,v,[],[],[],l.2.1)
def mG (l:L6) (c:U8) (ms:A8) (need:List Bool) (b:List DB) (a:List V3×Nat):List DB⊕E4:=
 match scS ms (JI l c a.1) (a.2:Int) need with
 | .inl x=> .inl (b++[x])
 | .inr e=> .inr e.1
def mS (l:L6) (c:U8) (ms:A8) (need:List Bool):List DB⊕E4:=U0 (mG l c ms need) c.2.2.zipIdx []
theorem Lm {l:L6} {c:U8} {ms:A8} {need:List Bool} (b:List DB) (a:List V3×Nat) (r:E4) (h:mG l c ms need b a= .inr r):r.1≠0:=by
 unfold mG at h
 cases hs:scS ms (JI l c a.1) (a.2:Int) need with
 | inl x=>rw[hs]at h;cases h
 | inr e=>rw[hs]at h;cases h;exact xn hs
theorem a3G {l:List (List V3)} {i:Nat} {a:List V3×Nat} (h:l.zipIdx[i]? =some a):l[i]? =some a.1∧a.2=i:=by
 rw[List.getElem?_zipIdx]at h
 cases hl:l[i]? with
 | none=>rw[hl]at h;cases h
 | some v=>rw[hl]at h;cases h;exact⟨rfl,by simp⟩
theorem JJ {l:L6} (hT:∀t∈l.2.1,ku t) (c:U8) (v:List V3):EvOk (JI l c v):=⟨by simp[JI],hT⟩
theorem zx {l:L6} {k:Int} {s:A8} {c:U8} {need:List Bool} (h:(aP l).1=0) (hs:lat l.2.2 k=some s) (hc:c.2.2.length≤1000) (hM:SmS (G9 l s)) (hT:∀t∈l.2.1,ku t) (hn:need.length=(G9 l s).2.2.2.1.length):
  dD l k c need=some (match mS l c (G9 l s) need with | .inl b=>(b.map (·.1),b.map (·.2),0,0,0,0) | .inr e=>([],[],e)):=by
 unfold dD
 rw[lq h hs,o7]
 have hfold:=Ce (mG l c (G9 l s) need) (fun b a=>Lp (fun e=>(([],[],e):List (List V3)×List (List Int)×E4)) (mG l c (G9 l s) need b a)) (fun e=>(([],[],e):List (List V3)×List (List Int)×E4)) (fun _ _=>rfl) c.2.2.zipIdx []
 unfold mS
 have hzl:c.2.2.zipIdx.length=c.2.2.length:=by simp
 apply eP c.2.2.zipIdx (fun b a=>Lp (fun e=>(([],[],e):List (List V3)×List (List Int)×E4)) (mG l c (G9 l s) need b a)) (fun b i=>(((0,0,0,0),b.map (·.1),b.map (·.2),i):E4×List (List V3)×List (List Int)×Int)) (fun b=>(((0,0,0,0),b.map (·.1),b.map (·.2)):E4×List (List V3)×List (List Int))) (fun i b=>b.length=i) [] (by omega) rfl
 ·intro i a b hi hi' hb
  obtain⟨z1,z2⟩:=a3G hi
  unfold xW mG
  simp only[G6 z1,o6,D8,z1,o7]
  rw[show gI (G9 l s) (c.1,a.1,[],[],[],l.2.1) (i:Int) need=_ from Au hM (JJ hT c a.1) (i:Int) hn,o7,z2]
  unfold JI
  cases hq:scS (G9 l s) (c.1,a.1,[],[],[],l.2.1) (i:Int) need with
  | inr e=>
   simp only[E5 (xn hq)]
   exact⟨rfl,fun _ h=>by cases h⟩
  | inl x=>
   simp only[F5 (rfl:(0:Int)=0),o9,o5]
   rw[ay _ (by simp;omega),o7,ay _ (by simp;omega),o7,O5 (by omega)]
   exact⟨by simp[Lp],fun _ h=>by cases h;simp[hb]⟩
 ·intro b hb
  rw[hzl,G5];rfl
 ·intro _
  rw[hfold]
  cases U0 (mG l c (G9 l s) need) c.2.2.zipIdx [] <;> rfl
def ig (l:L6) (s:A8) (c:U8) (b:List DB):P5:=(c.1,c.2.1,[],b.map (·.1),(G9 l s).2.2.2.1.map (·.2),l.2.1)
def YA (l:L6) (s:A8) (c:U8):dY×E4:=
 match mS l c (G9 l s) (ah (G9 l s).2.2.2.1.length)with
 | .inr e=>(([],[],[]),e)
 | .inl b=>match scS s (ig l s c b) (-1) (ah s.2.2.2.1.length)with
  | .inl x=>((x.1,x.2,b),0,0,0,0)
  | .inr r=>(([],[],[]),r.1)
theorem xy {l:L6} (hL:SmL l) (h:(aP l).1=0) {k:Int} {s:A8} (hs:lat l.2.2 k=some s):SmS (G9 l s):=by
 rcases uu h hs with⟨_,_,g3⟩ | ⟨_,_,_,_,g5⟩
 ·rw[g3];exact ZW
 ·exact hL.sc _ g5
theorem Fp {l:L6} {c:U8} {ms:A8} {need:List Bool} {b:List DB} (h:mS l c ms need= .inl b):b.length=c.2.2.length:=by
 have key:∀(L:List (List V3×Nat)) (b0 b:List DB),U0 (mG l c ms need) L b0= .inl b→b.length=b0.length+L.length:=by
  intro L
  induction L with
  | nil=>intro b0 b h;cases h;simp
  | cons a L ih=>
   intro b0 b h
   unfold U0 at h
   cases hg:mG l c ms need b0 a with
   | inr e=>rw[hg]at h;cases h
   | inl b1=>
    rw[hg]at h
    have:=ih b1 b h
    have h1:b1.length=b0.length+1:=by
     unfold mG at hg
     cases hs:scS ms (JI l c a.1) (a.2:Int) need with
     | inr e=>rw[hs]at hg;cases hg
     | inl x=>rw[hs]at hg;cases hg;simp
    simp only[List.length_cons];omega
 have:=key _ _ _ h
 simpa using this
theorem ny {l:L6} (hT:∀t∈l.2.1,ku t) (s:A8) (c:U8) {b:List DB} (hb:b.length≤1000):EvOk (ig l s c b):=⟨by simp[ig];omega,hT⟩
theorem VO {l:L6} {k:Int} {s:A8} (c:U8) (b:List DB) (h:(aP l).1=0) (hs:lat l.2.2 k=some s) (hM:SmS (G9 l s)):zg l k c (b.map (·.1))=some (ig l s c b):=by
 have hnd:=hM.nd
 unfold zg
 rw[lq h hs,o7,X7]
 refine OG (fun L i=>(((c.1,c.2.1,[],b.map (·.1),L,l.2.1),i):P5×Int)) (fun L=>((c.1,c.2.1,[],b.map (·.1),L,l.2.1):P5)) (G9 l s).2.2.2.1 (fun f=>f.2) (by omega) (fun i a L hi hL=>?_) (fun L=>?_)
 ·have:=(O6.1 hi).1
  simp only[G6 hi,o6,D8,hi,o7]
  rw[ay _ (by omega),o7,O5 (by omega)]
 ·rw[G5];rfl
theorem b0Q {l:L6} {k:Int} {c:U8} (hL:SmL l) (hC:SmC c) (hT:∀t∈l.2.1,ku t):CV l k c=some (if(pV l k c false 0).1=0 then(match lat l.2.2 k with | some s=>YA l s c | none=>(([],[],[]),0,0,0,0))else(([],[],[]),pV l k c false 0)):=by
 unfold CV
 rw[QP hL k hC,o7]
 by_cases hA:(pV l k c false 0).1=0
 case neg=>rw[if_neg hA,E5 hA];rfl
 rw[if_pos hA,F5 hA]
 obtain⟨h,s,hs⟩:=pW hA
 have hM:=xy hL h hs
 have hS:=hL.sc s (V5 hs).2.2.1
 rw[hs]
 simp only[o9,o5]
 rw[lq h hs,o7,show o8 (G9 l s).2.2.2.1=((G9 l s).2.2.2.1.length:Int)from rfl,WR (by have:=hM.nd;omega),o7,zx h hs hC.nm hM hT (by simp[ah]),o7]
 unfold YA
 cases hq:mS l c (G9 l s) (ah (G9 l s).2.2.2.1.length)with
 | inr e=>
  simp only[E5 (gY _ (fun r=>r.1≠0) Lm _ _ _ hq)];rfl
 | inl b=>
  have hbl:=Fp hq
  have hb:=hC.nm
  simp only[F5 (rfl:(0:Int)=0),o9,o5,o7]
  rw[VO c b h hs hM,o7,show o8 s.2.2.2.1=(s.2.2.2.1.length:Int)from rfl,WR (by have:=hS.nd;omega),o7,Au hS (ny hT s c (by omega)) (-1) (by simp[ah]),o7]
  cases hr:scS s (ig l s c b) (-1) (ah s.2.2.2.1.length)with
  | inr e=>simp only[E5 (xn hr)];rfl
  | inl x=>
   simp only[F5 (rfl:(0:Int)=0),o9,o5]
   rw[show(N8 _ _)=some ((x.1,x.2,b.map id):dY)from ?_]
   ·simp only[o7,List.map_id]
   refine OG (fun L i=>(((x.1,x.2,L),i):dY×Int)) (fun L=>((x.1,x.2,L):dY)) b id (by omega) (fun i a L hi hL=>?_) (fun L=>?_)
   ·have hlt:=(O6.1 hi).1
    have e1:(b.map (·.1))[i]? =some a.1:=by rw[List.getElem?_map,hi];rfl
    have e2:(b.map (·.2))[i]? =some a.2:=by rw[List.getElem?_map,hi];rfl
    simp only[G6 e1,o6,D8,e1,e2,o7,I9,toN,Int.toNat_natCast]
    rw[ay _ (by omega),o7,O5 (by omega)]
    rfl
   ·rw[show(b.length:Int)=((b.map (·.1)).length:Int) by simp,G5];rfl
abbrev ZT:Type:=Int×List V3×PUnit×List (List V3)×List (Int×Int)×List V8
def EI (l:L6) (s:A8) (c:U8) (nS nM:List Bool):DB×List DB⊕E4:=
 match mS l c (G9 l s) nM with
 | .inr e=> .inr e
 | .inl b=>match scS s (ig l s c b) (-1) nS with
  | .inl x=> .inl (x,b)
  | .inr r=> .inr r.1
theorem DD {l:L6} {k:Int} {s:A8} {c:U8} {nS nM:List Bool} (hS:SmS s) (hM:SmS (G9 l s)) (hC:SmC c) (hT:∀t∈l.2.1,ku t) (h1:nS.length=s.2.2.2.1.length) (h2:nM.length=(G9 l s).2.2.2.1.length):
  jH l k c (s,G9 l s,nS,nM)=some (match EI l s c nS nM with
   | .inl x=>((x.1.1,x.1.2,x.2),qU (ig l s c x.2) x.1.1,(0,0,0,0),(s,G9 l s,nS,nM))
   | .inr e=>(([],[],[]),(0,[],[],[],[],[]),e,(s,G9 l s,nS,nM))):=by
 have hnd:=hM.nd
 have hnm:=hC.nm
 unfold jH
 rw[show(N8 _ _)=some (((c.1,c.2.1,PUnit.unit,PUnit.unit,(G9 l s).2.2.2.1.map (fun f=>f.2),l.2.1)):Int×List V3×PUnit×PUnit×List (Int×Int)×List V8)from ?_,o7]
 rotate_left
 ·refine OG (fun L i=>(((c.1,c.2.1,PUnit.unit,PUnit.unit,L,l.2.1),i):(Int×List V3×PUnit×PUnit×List (Int×Int)×List V8)×Int)) (fun L=>((c.1,c.2.1,PUnit.unit,PUnit.unit,L,l.2.1):Int×List V3×PUnit×PUnit×List (Int×Int)×List V8)) (G9 l s).2.2.2.1 (fun f=>f.2) (by omega) (fun i a L hi hL=>?_) (fun L=>?_)
  ·have:=(O6.1 hi).1
   simp only[G6 hi,o6,D8,hi,o7]
   rw[ay _ (by omega),o7,O5 (by omega)]
  ·rw[G5];rfl
 have hfold:=Ce (mG l c (G9 l s) nM) (fun b a=>Lp (fun e=>((([],[],[]),(0,[],[],[],[],[]),e,(s,G9 l s,nS,nM)):dY×P5×E4×I4)) (mG l c (G9 l s) nM b a)) (fun e=>((([],[],[]),(0,[],[],[],[],[]),e,(s,G9 l s,nS,nM)):dY×P5×E4×I4)) (fun _ _=>rfl) c.2.2.zipIdx []
 have hzl:c.2.2.zipIdx.length=c.2.2.length:=by simp
 unfold EI mS
 apply eP c.2.2.zipIdx (fun b a=>Lp (fun e=>((([],[],[]),(0,[],[],[],[],[]),e,(s,G9 l s,nS,nM)):dY×P5×E4×I4)) (mG l c (G9 l s) nM b a))
  (fun b i=>((([],[],[]),(0,[],[],[],[],[]),(0,0,0,0),(c.1,c.2.1,PUnit.unit,b.map (·.1),(G9 l s).2.2.2.1.map (fun f=>f.2),l.2.1),([],[],b),i):dY×P5×E4×ZT×dY×Int))
  (fun b=>((([],[],[]),(0,[],[],[],[],[]),(0,0,0,0),(c.1,c.2.1,PUnit.unit,b.map (·.1),(G9 l s).2.2.2.1.map (fun f=>f.2),l.2.1),([],[],b)):dY×P5×E4×ZT×dY))
  (fun i b=>b.length=i) [] (by omega) rfl
 ·intro i a b hi hi' hb
  obtain⟨z1,z2⟩:=a3G hi
  have hil:=(O6.1 z1).1
  unfold mG
  simp only[G6 z1,o6,D8,z1,o7]
  rw[show bu (G9 l s) (c.1,a.1,[],[],[],l.2.1) (i:Int) nM=_ from Jv hM (JJ hT c a.1) (i:Int) h2,o7,z2]
  unfold JI
  cases hq:scS (G9 l s) (c.1,a.1,[],[],[],l.2.1) (i:Int) nM with
  | inr e=>
   simp only[E5 (xn hq)]
   exact⟨rfl,fun _ h=>by cases h⟩
  | inl x=>
   simp only[F5 (rfl:(0:Int)=0),o9,o5]
   rw[ay _ (by simp;omega),o7,ay _ (by omega),o7,O5 (by omega)]
   exact⟨by simp[Lp,qU],fun _ h=>by cases h;simp[hb]⟩
 ·intro b hb
  rw[hzl,G5];rfl
 ·intro _
  rw[hfold]
  cases hq:U0 (mG l c (G9 l s) nM) c.2.2.zipIdx []with
  | inr e=>rfl
  | inl b=>
   have hbl:b.length=c.2.2.length:=Fp (ms:=G9 l s) (need:=nM) hq
   have hsc:=Jv (need:=nS) hS (ny hT s c (b:=b) (by omega)) (-1) h1
   unfold ig at hsc
   simp only[Lp,C9]
   rw[show bu s (c.1,c.2.1,[],b.map (·.1),(G9 l s).2.2.2.1.map (fun f=>f.2),l.2.1) (-1) nS=_ from hsc,o7]
   unfold ig
   cases hr:scS s (c.1,c.2.1,[],b.map (·.1),(G9 l s).2.2.2.1.map (fun f=>f.2),l.2.1) (-1) nS with
   | inr e=>simp only[E5 (xn hr)];rfl
   | inl x=>rfl
theorem a0u {l:L6} {k:Int} {c:U8} (hL:SmL l) (hC:SmC c) (hT:∀t∈l.2.1,ku t):lX l k c=some (if(pV l k c false 0).1=0 then(match lat l.2.2 k with | some s=>YA l s c | none=>(([],[],[]),0,0,0,0))else(([],[],[]),pV l k c false 0)):=by
 unfold lX
 rw[Vb hL k hC,o7]
 by_cases hA:(pV l k c false 0).1=0
 case neg=>rw[if_neg hA,E5 hA];rfl
 rw[if_pos hA,F5 hA]
 obtain⟨h,s,hs⟩:=pW hA
 have hM:=xy hL h hs
 have hS:=hL.sc s (V5 hs).2.2.1
 have hn1:=hS.nd
 have hn2:=hM.nd
 rw[hs]
 simp only[o9,o5]
 rw[Fv hL h hs,o7]
 rw[show(N8 _ _)=some ((s,G9 l s,ah s.2.2.2.1.length,X8 (G9 l s).2.2.2.1.length):I4)from ?_,o7]
 rotate_left
 ·refine Pg (n:=s.2.2.2.1.length) (mk:=fun L i=>(((s,G9 l s,L,X8 (G9 l s).2.2.2.1.length),i):I4×Int)) (fin:=fun L=>((s,G9 l s,L,X8 (G9 l s).2.2.2.1.length):I4)) (by omega) (fun i j hij=>?_) ?_
  ·simp only[show o8 (X8 s.2.2.2.1.length)=(s.2.2.2.1.length:Int) by unfold o8 X8;simp,F7 (show(i:Int)<(s.2.2.2.1.length:Int) by omega),o6,D8,a1i,o7,I9,toN,Int.toNat_natCast,S9,a1j]
   rw[O5 (by omega)]
  ·simp only[show o8 (X8 s.2.2.2.1.length)=(s.2.2.2.1.length:Int) by unfold o8 X8;simp,E9 (Int.le_refl (s.2.2.2.1.length:Int)),o5]
 rw[show(N8 _ _)=some ((s,G9 l s,ah s.2.2.2.1.length,ah (G9 l s).2.2.2.1.length):I4)from ?_,o7]
 rotate_left
 ·refine Pg (n:=(G9 l s).2.2.2.1.length) (mk:=fun L i=>(((s,G9 l s,ah s.2.2.2.1.length,L),i):I4×Int)) (fin:=fun L=>((s,G9 l s,ah s.2.2.2.1.length,L):I4)) (by omega) (fun i j hij=>?_) ?_
  ·simp only[show o8 (X8 (G9 l s).2.2.2.1.length)=((G9 l s).2.2.2.1.length:Int) by unfold o8 X8;simp,F7 (show(i:Int)<((G9 l s).2.2.2.1.length:Int) by omega),o6,D8,a1i,o7,I9,toN,Int.toNat_natCast,S9,a1j]
   rw[O5 (by omega)]
  ·simp only[show o8 (X8 (G9 l s).2.2.2.1.length)=((G9 l s).2.2.2.1.length:Int) by unfold o8 X8;simp,E9 (Int.le_refl ((G9 l s).2.2.2.1.length:Int)),o5]
 rw[DD hS hM hC hT (by simp[ah]) (by simp[ah]),o7]
 unfold EI YA
 cases mS l c (G9 l s) (ah (G9 l s).2.2.2.1.length)with
 | inr e=>rfl
 | inl b=>
  simp only
  cases scS s (ig l s c b) (-1) (ah s.2.2.2.1.length) <;> rfl
theorem bQ {α:Type} {n:Nat} {l:List α} (h:ilt (n:Int) (o8 l)=false):l.length≤n:=by
 rw[aV]at h;unfold o8 at h;omega
def Qq (r:X0):Bool:=l7 (ilt 80 (o8 r.1)) true (l7 (ilt 80 (o8 r.2.2.2.2.2.2.2)) true (l7 (ilt 50 (o8 r.2.2.2.2.2.1)) true (ilt 50 (o8 r.2.2.2.2.2.2.1))))
def smS (s:A8):Bool:=l7 (ilt 80 (o8 s.1)) false (l7 (ilt 14 (o8 s.2.2.1)) false (l7 (ilt 14 (o8 s.2.2.2.1)) false (l7 (ilt 60 (o8 s.2.2.2.2)) false
 (l7 (s.2.2.1.any fun f=>ilt 80 (o8 f.1)) false (l7 (s.2.2.2.1.any fun f=>ilt 80 (o8 f.1)) false (D6 (s.2.2.2.2.any Qq)))))))
theorem PZ {fs:List bi} (h:fs.length≤1000000):J9 (fun(x:Int)=>l7 (ilt x (o8 fs)) (l9 (lat fs x) fun(x_1:bi)=>l7 (ilt 80 (o8 x_1.1)) (some (Out.rt false)) (some (Out.nx (x8 IntKind.i64 x 1)))) (some (Out.ex PUnit.unit))) 0=some (bif fs.any (fun f=>ilt 80 (o8 f.1))then .inr false else .inl PUnit.unit):=by
 refine lS fs (fun f=>ilt 80 (o8 f.1)) false PUnit.unit h (fun i a ha=>?_) ?_
 ·simp only[G6 ha,o6,D8,ha,o7]
  cases ilt 80 (o8 a.1) <;> rfl
 ·rw[G5];rfl
theorem Tv (s:A8):sN s=some (smS s):=by
 unfold sN smS
 cases h1:ilt 80 (o8 s.1)
 case true=>rfl
 cases h2:ilt 14 (o8 s.2.2.1)
 case true=>rfl
 cases h3:ilt 14 (o8 s.2.2.2.1)
 case true=>rfl
 cases h4:ilt 60 (o8 s.2.2.2.2)
 case true=>rfl
 have l2:=bQ (n:=14) h2
 have l3:=bQ (n:=14) h3
 have l4:=bQ (n:=60) h4
 simp only[o5,o7,C9]
 rw[PZ (by omega),PZ (by omega),o7]
 cases s.2.2.1.any fun f=>ilt 80 (o8 f.1)
 case true=>rfl
 simp only[cond_false,C9,o5,o7]
 cases s.2.2.2.1.any fun f=>ilt 80 (o8 f.1)
 case true=>rfl
 simp only[cond_false,C9,o5]
 refine J3 (lS s.2.2.2.2 Qq false PUnit.unit (by omega) (fun i a ha=>?_) ?_) ?_
 rotate_left 2
 ·cases s.2.2.2.2.any Qq <;> rfl
 ·simp only[G6 ha,o6,D8,ha,o7]
  unfold Qq
  cases ilt 80 (o8 a.1) <;> cases ilt 80 (o8 a.2.2.2.2.2.2.2) <;> cases ilt 50 (o8 a.2.2.2.2.2.1) <;> cases ilt 50 (o8 a.2.2.2.2.2.2.1) <;> rfl
 ·rw[G5];rfl
def ScI (s:A8):Prop:=∀r∈s.2.2.2.2,(∀n∈r.2.2.2.2.2.1,I64 n.2)∧∀n∈r.2.2.2.2.2.2.1,I64 n.2
theorem Oo {a b:Bool} (h:l7 a false b=true):a=false∧b=true:=by cases a <;> cases b <;> first | exact⟨rfl,rfl⟩ | cases h
theorem TM {α:Type} {l:List α} {p:α→Bool} (h:l.any p=false):∀a∈l,p a=false:=by
 intro a ha
 rw[List.any_eq_false]at h
 have:=h a ha
 cases hp:p a
 ·rfl
 ·exact absurd hp this
theorem c2b {s:A8} (h:smS s=true) (hI:ScI s):SmS s:=by
 unfold smS at h
 obtain⟨h1,h⟩:=Oo h
 obtain⟨h2,h⟩:=Oo h
 obtain⟨h3,h⟩:=Oo h
 obtain⟨h4,h⟩:=Oo h
 obtain⟨h5,h⟩:=Oo h
 obtain⟨h6,h⟩:=Oo h
 have h7:s.2.2.2.2.any Qq=false:=by cases hq:s.2.2.2.2.any Qq <;> rw[hq]at h <;> first | rfl | cases h
 refine⟨by have:=bQ (n:=80) h1;omega,bQ (n:=14) h2,bQ (n:=14) h3,bQ (n:=60) h4,⟨fun f hf=>?_,fun f hf=>?_⟩,fun r hr=>?_⟩
 ·have:=bQ (n:=80) (TM h5 f hf);omega
 ·have:=bQ (n:=80) (TM h6 f hf);omega
 ·have hl:=TM h7 r hr
  unfold Qq at hl
  cases g1:ilt 80 (o8 r.1) <;> rw[g1]at hl
  case true=>cases hl
  cases g2:ilt 80 (o8 r.2.2.2.2.2.2.2) <;> rw[g2]at hl
  case true=>cases hl
  cases g3:ilt 50 (o8 r.2.2.2.2.2.1) <;> rw[g3]at hl
  case true=>cases hl
  have k1:=bQ (n:=80) g1
  have k2:=bQ (n:=80) g2
  exact⟨⟨by omega,by omega,(hI r hr).1,(hI r hr).2⟩,bQ (n:=50) g3,bQ (n:=50) hl⟩
def smC (c:U8):Bool:=l7 (ilt 14 (o8 c.2.1)) false (l7 (ilt 10 (o8 c.2.2)) false (D6 (c.2.2.any fun v=>ilt 14 (o8 v))))
theorem Wv (c:U8):vJ c=some (smC c):=by
 unfold vJ smC
 cases h1:ilt 14 (o8 c.2.1)
 case true=>rfl
 cases h2:ilt 10 (o8 c.2.2)
 case true=>rfl
 have l2:=bQ (n:=10) h2
 simp only[o5]
 refine J3 (lS c.2.2 (fun v=>ilt 14 (o8 v)) false PUnit.unit (by omega) (fun i a ha=>?_) ?_) ?_
 rotate_left 2
 ·cases c.2.2.any fun v=>ilt 14 (o8 v) <;> rfl
 ·simp only[G6 ha,o6,D8,ha,o7]
  cases ilt 14 (o8 a) <;> rfl
 ·rw[G5];rfl
theorem IZ {c:U8} (h:smC c=true):SmC c:=by
 unfold smC at h
 obtain⟨h1,h⟩:=Oo h
 obtain⟨h2,h⟩:=Oo h
 have h3:(c.2.2.any fun v=>ilt 14 (o8 v))=false:=by cases hq:c.2.2.any fun v=>ilt 14 (o8 v) <;> rw[hq]at h <;> first | rfl | cases h
 exact⟨by have:=bQ (n:=14) h1;omega,by have:=bQ (n:=10) h2;omega,fun v hv=>by have:=bQ (n:=14) (TM h3 v hv);omega⟩
theorem a6C {α:Type} {l:List α} {f:Int→Option (Out Int PUnit Bool)} (hl:l.length≤1000000) (hin:∀(i:Nat) (a:α),l[i]? =some a→f (i:Int)=some (.nx (x8 .i64 (i:Int) 1))) (hend:f (l.length:Int)=some (.ex PUnit.unit)):(l9 (J9 f 0) fun(o:PUnit⊕Bool)=>L8 o (fun _=>some true) fun r=>some r)=some true:=by
 have:=lS l (fun _=>false) false PUnit.unit hl (fun i a ha=>by rw[hin i a ha];rfl) hend
 rw[this,show l.any (fun _=>false)=false by simp];rfl
theorem Oj {a:List V3} (h:a.length≤1000000):xJ a a=some true:=by
 unfold xJ
 rw[F5 rfl]
 refine a6C h (fun i x hx=>?_) ?_
 ·simp only[G6 hx,o6,D8,hx,o7,F5 (rfl:x.1=x.1),F5 (rfl:x.2.1=x.2.1),F5 (rfl:x.2.2=x.2.2)];rfl
 ·rw[G5];rfl
theorem Um {a:List Int} (h:a.length≤1000000):zk a a=some true:=by
 unfold zk
 rw[F5 rfl]
 refine a6C h (fun i x hx=>?_) ?_
 ·simp only[G6 hx,o6,D8,hx,o7,F5 (rfl:x=x)];rfl
 ·rw[G5];rfl
def a5w (b:DB):Prop:=b.1.length≤1000000∧b.2.length≤1000000
theorem XP {b:DB} (h:a5w b):oq b b=some true:=by
 unfold oq
 rw[Oj h.1,o7,Um h.2];rfl
theorem Vx {a:List DB} (h:a.length≤1000000) (hb:∀b∈a,a5w b):mV a a=some true:=by
 unfold mV
 rw[F5 rfl]
 refine a6C h (fun i x hx=>?_) ?_
 ·simp only[G6 hx,o6,D8,hx,o7,XP (hb x (bZ hx))];rfl
 ·rw[G5];rfl
def a5B (r:dY):Prop:=r.1.length≤1000000∧r.2.1.length≤1000000∧r.2.2.length≤1000000∧∀b∈r.2.2,a5w b
theorem Yw {r:dY} (h:a5B r):xI r r=some true:=by
 unfold xI
 rw[Oj h.1,o7,Um h.2.1,o7,Vx h.2.2.1 h.2.2.2];rfl
theorem GG {α β ρ:Type} (G:β→α→β⊕ρ) (Inv:β→Prop) (hG:∀b a b',Inv b→G b a= .inl b' →Inv b'):∀(l:List α) (b b' :β),Inv b→U0 G l b= .inl b' →Inv b'
 | [],b,b',hi,h=>by cases h;exact hi
 | a::l,b,b',hi,h=>by
  unfold U0 at h
  cases hg:G b a with
  | inr r=>rw[hg]at h;cases h
  | inl b1=>rw[hg]at h;exact GG G Inv hG l b1 b' (hG b a b1 hi hg) h
theorem Be {s:A8} {env:P5} {m:Int} {need:List Bool} {b:DB} (h:scS s env m need= .inl b):b.1.length=s.2.2.2.1.length∧b.2.length=s.2.2.2.1.length:=by
 refine GG (scG s env m need) (fun b=>b.1.length=s.2.2.2.1.length∧b.2.length=s.2.2.2.1.length) (fun b a b' hi h=>?_) _ _ _ ⟨by simp,by simp⟩ h
 unfold scG at h
 cases hb:(lat need a).getD false <;> rw[hb]at h
 ·cases h;exact hi
 simp only[o6]at h
 cases hd:Bq s (qU env b.1) m a with
 | inr e=>rw[hd]at h;cases h
 | inl v=>rw[hd]at h;cases h;exact⟨by simp[hi.1],by simp[hi.2]⟩
theorem c9a {l:L6} {c:U8} {ms:A8} {need:List Bool} {b:List DB} (hM:ms.2.2.2.1.length≤14) (h:mS l c ms need= .inl b):∀x∈b,a5w x:=by
 refine GG (mG l c ms need) (fun b=>∀x∈b,a5w x) (fun b a b' hi h=>?_) _ _ _ (by simp) h
 unfold mG at h
 cases hs:scS ms (JI l c a.1) (a.2:Int) need with
 | inr e=>rw[hs]at h;cases h
 | inl x=>
  rw[hs]at h;cases h
  intro y hy
  rcases List.mem_append.1 hy with hy | hy
  ·exact hi y hy
  ·rw[List.mem_singleton]at hy;subst hy
   have:=Be hs
   exact⟨by omega,by omega⟩
theorem ZV:a5B ([],[],[]):=⟨by simp,by simp,by simp,by simp⟩
theorem a7D {l:L6} {s:A8} {c:U8} (hS:SmS s) (hM:SmS (G9 l s)) (hC:SmC c):a5B (YA l s c).1:=by
 unfold YA
 cases hq:mS l c (G9 l s) (ah (G9 l s).2.2.2.1.length)with
 | inr e=>exact ZV
 | inl b=>
  simp only
  cases hr:scS s (ig l s c b) (-1) (ah s.2.2.2.1.length)with
  | inr e=>exact ZV
  | inl x=>
   have h1:=Be hr
   have h2:=Fp hq
   have h3:=hS.nd
   have h4:=hC.nm
   refine⟨?_,?_,?_,c9a hM.nd hq⟩
   ·show x.1.length≤_;omega
   ·show x.2.length≤_;omega
   ·show b.length≤_;omega
theorem a0t {l:L6} {k:Int} {c:U8} (hL:SmL l) (hC:SmC c) (hT:∀t∈l.2.1,ku t):∃r:dY×E4,lX l k c=some r∧CV l k c=some r∧xI r.1 r.1=some true:=by
 refine⟨_,a0u hL hC hT,b0Q hL hC hT,Yw ?_⟩
 by_cases hA:(pV l k c false 0).1=0
 ·rw[if_pos hA]
  obtain⟨h,s,hs⟩:=pW hA
  rw[hs]
  exact a7D (hL.sc s (V5 hs).2.2.1) (xy hL h hs) hC
 ·rw[if_neg hA];exact ZV
def XK (e:bK):Bool:=l7 (ilt 80 (o8 e.1)) true (l7 (ilt 20 (o8 e.2)) true (e.2.any fun m=>ilt 80 (o8 m)))
def tG (b:Int) (t:V8):Int⊕Bool:=l7 (ilt 80 (o8 t.1)) (.inr false) (l7 (ilt 150 (x8 .i64 b (o8 t.2.2.2))) (.inr false) (.inl (x8 .i64 b (o8 t.2.2.2))))
def sG (b:Int) (s:A8):Int⊕Bool:=l7 (ilt 60 (x8 .i64 b (o8 s.2.2.2.2))) (.inr false) (l7 (smS s) (.inl (x8 .i64 b (o8 s.2.2.2.2))) (.inr false))
def smL (l:L6):Bool:=l7 (ilt 9 (o8 l.1)) false (l7 (ilt 9 (o8 l.2.1)) false (l7 (ilt 5 (o8 l.2.2)) false (l7 (l.1.any XK) false
 (match U0 tG l.2.1 0 with | .inr _=>false | .inl _=>match U0 sG l.2.2 0 with | .inr _=>false | .inl _=>true))))
theorem c4M:∀(b:Int) (t:V8) (r:Bool),tG b t= .inr r→r=false:=by
 intro b t r h
 unfold tG at h
 cases g0:ilt 80 (o8 t.1) <;> cases g:ilt 150 (x8 .i64 b (o8 t.2.2.2)) <;> simp only[g0,g,o6,o5]at h <;> cases h <;> rfl
theorem c1Y:∀(b:Int) (s:A8) (r:Bool),sG b s= .inr r→r=false:=by
 intro b s r h
 unfold sG at h
 cases g:ilt 60 (x8 .i64 b (o8 s.2.2.2.2)) <;> cases g2:smS s <;> simp only[g,g2,o6,o5]at h <;> cases h <;> rfl
theorem YG (l:L6):xm l=some (smL l):=by
 unfold xm smL
 cases h1:ilt 9 (o8 l.1)
 case true=>rfl
 cases h2:ilt 9 (o8 l.2.1)
 case true=>rfl
 cases h3:ilt 5 (o8 l.2.2)
 case true=>rfl
 have l1:=bQ (n:=9) h1
 have l2:=bQ (n:=9) h2
 have l3:=bQ (n:=5) h3
 simp only[o5,o7,C9]
 refine J3 (lS l.1 XK false PUnit.unit (by omega) (fun i a ha=>?_) ?_) ?_
 ·simp only[G6 ha,o6,D8,ha,o7]
  unfold XK
  cases ilt 80 (o8 a.1)
  case true=>rfl
  cases h5:ilt 20 (o8 a.2)
  case true=>rfl
  have l5:=bQ (n:=20) h5
  simp only[o5]
  refine J3 (lS a.2 (fun m=>ilt 80 (o8 m)) false PUnit.unit (by omega) (fun j m hm=>?_) ?_) ?_
  ·simp only[G6 hm,o6,D8,hm,o7]
   cases ilt 80 (o8 m) <;> rfl
  ·rw[G5];rfl
  ·cases a.2.any fun m=>ilt 80 (o8 m) <;> rfl
 ·rw[G5];rfl
 cases l.1.any XK
 case true=>rfl
 simp only[cond_false,C9,o5]
 apply eP l.2.1 tG (fun b i=>((b,i):Int×Int)) (fun _=>PUnit.unit) (fun _ _=>True) 0 (by omega) trivial
 ·intro i t b hi hi' _
  refine⟨?_,fun _ _=>trivial⟩
  simp only[G6 hi,o6,D8,hi,o7]
  unfold tG
  rw[O5 (by omega)]
  cases ilt 80 (o8 t.1) <;> cases ilt 150 (x8 .i64 b (o8 t.2.2.2)) <;> rfl
 ·intro b _
  rw[G5];rfl
 ·intro _
  cases ht:U0 tG l.2.1 0 with
  | inr r=>rw[gY tG (fun r=>r=false) c4M _ _ _ ht];rfl
  | inl b=>
   simp only[C9]
   apply eP l.2.2 sG (fun b i=>((b,i):Int×Int)) (fun _=>PUnit.unit) (fun _ _=>True) 0 (by omega) trivial
   ·intro i s b hi hi' _
    refine⟨?_,fun _ _=>trivial⟩
    simp only[G6 hi,o6,D8,hi,o7,Tv]
    unfold sG
    rw[O5 (by omega)]
    cases ilt 60 (x8 .i64 b (o8 s.2.2.2.2)) <;> cases smS s <;> rfl
   ·intro b _
    rw[G5];rfl
   ·intro _
    cases hs:U0 sG l.2.2 0 with
    | inr r=>rw[gY sG (fun r=>r=false) c1Y _ _ _ hs];rfl
    | inl b=>rfl
theorem Gi (l:L6) (c:U8):lL l c=some (l7 (smL l) (smC c) false):=by
 unfold lL
 rw[YG,o7,Wv]
 cases smL l <;> rfl
structure WfL (l:L6):Prop where
 rl:∀t∈l.2.1,t.2.2.2.length≤4611686018427387904
 ri:∀t∈l.2.1,∀r∈t.2.2.2,a1x r
 sl:∀s∈l.2.2,s.2.2.2.2.length≤4611686018427387904
 si:∀s∈l.2.2,ScI s
theorem a9F:∀(L:List V8) (b b' :Int),0≤b→b≤150→(∀t∈L,t.2.2.2.length≤4611686018427387904)→U0 tG L b= .inl b' →∀t∈L,t.1.length≤80∧t.2.2.2.length≤150
 | [],_,_,_,_,_,_=>by simp
 | t::L,b,b',h0,h1,hw,h=>by
  have hwt:=hw t (by simp)
  have ha:x8 .i64 b (o8 t.2.2.2)=b+o8 t.2.2.2:=N7 (by unfold I64 o8;omega)
  unfold U0 tG at h
  rw[ha]at h
  cases g0:ilt 80 (o8 t.1) <;> rw[g0]at h
  case true=>cases h
  cases g1:ilt 150 (b+o8 t.2.2.2) <;> rw[g1]at h
  case true=>cases h
  rw[aV]at g1
  intro x hx
  rcases List.mem_cons.1 hx with rfl | hx
  ·exact⟨bQ (n:=80) g0,by unfold o8 at g1;omega⟩
  ·exact a9F L (b+o8 t.2.2.2) b' (by unfold o8;omega) g1 (fun q hq=>hw q (by simp[hq])) h x hx
theorem a8d:∀(L:List A8) (b b' :Int),0≤b→b≤60→(∀s∈L,s.2.2.2.2.length≤4611686018427387904)→U0 sG L b= .inl b' →∀s∈L,smS s=true
 | [],_,_,_,_,_,_=>by simp
 | s::L,b,b',h0,h1,hw,h=>by
  have hwt:=hw s (by simp)
  have ha:x8 .i64 b (o8 s.2.2.2.2)=b+o8 s.2.2.2.2:=N7 (by unfold I64 o8;omega)
  unfold U0 sG at h
  rw[ha]at h
  cases g1:ilt 60 (b+o8 s.2.2.2.2) <;> rw[g1]at h
  case true=>cases h
  cases g2:smS s <;> rw[g2]at h
  case false=>cases h
  rw[aV]at g1
  intro x hx
  rcases List.mem_cons.1 hx with rfl | hx
  ·exact g2
  ·exact a8d L (b+o8 s.2.2.2.2) b' (by unfold o8;omega) g1 (fun q hq=>hw q (by simp[hq])) h x hx
theorem RF {l:L6} (h:smL l=true) (hW:WfL l):SmL l∧∀t∈l.2.1,ku t:=by
 unfold smL at h
 obtain⟨h1,h⟩:=Oo h
 obtain⟨h2,h⟩:=Oo h
 obtain⟨h3,h⟩:=Oo h
 obtain⟨h4,h⟩:=Oo h
 have l1:=bQ (n:=9) h1
 have l2:=bQ (n:=9) h2
 have l3:=bQ (n:=5) h3
 cases ht:U0 tG l.2.1 0 with
 | inr r=>rw[ht]at h;cases h
 | inl b=>
  rw[ht]at h
  simp only at h
  cases hs:U0 sG l.2.2 0 with
  | inr r=>rw[hs]at h;cases h
  | inl b' =>
   have T:=a9F l.2.1 0 b (by omega) (by omega) hW.rl ht
   have S:=a8d l.2.2 0 b' (by omega) (by omega) hW.sl hs
   refine⟨⟨⟨by omega,by omega,by omega⟩,fun e he=>?_,fun t ht=>by have:=(T t ht).1;omega,fun s hs=>c2b (S s hs) (hW.si s hs)⟩,fun t ht=>⟨by have:=(T t ht).2;omega,hW.ri t ht⟩⟩
   have hl:=TM h4 e he
   unfold XK at hl
   cases g1:ilt 80 (o8 e.1) <;> rw[g1]at hl
   case true=>cases hl
   cases g2:ilt 20 (o8 e.2) <;> rw[g2]at hl
   case true=>cases hl
   have k1:=bQ (n:=80) g1
   exact⟨by omega,fun m hm=>by have:=bQ (n:=80) (TM hl m hm);omega⟩
theorem ER:bz=some true:=by decide+kernel
theorem Vs {l:L6} (hW:WfL l) (k:Int) (c:U8):xP l k c=some true:=by
 unfold xP
 rw[Gi,o7,ER]
 cases hl:smL l
 ·rfl
 cases hc:smC c
 ·rfl
 obtain⟨hL,hT⟩:=RF hl hW
 obtain⟨r,h1,h2,h3⟩:=a0t (k:=k) hL (IZ hc) hT
 rw[h1,h2]
 simp only[o6,o9,o5,o7]
 rw[h3,o7,F5 rfl,F5 rfl,F5 rfl,F5 rfl]
 rfl
theorem Yp:reachBytes≤4611686018427387904:=by decide
theorem Zc {l:L6} (h:wf y27 l):WfL l:=by
 refine⟨fun t ht=>?_,fun t ht r hr=>?_,fun s hs=>?_,fun s hs r hr=>⟨fun n hn=>?_,fun n hn=>?_⟩⟩
 ·have:=(h.2.1.2 t ht).2.2.2.1;exact Nat.le_trans this Yp
 ·have:=(h.2.1.2 t ht).2.2.2.2 r hr
  exact⟨Su this.2.1,Su this.2.2.1,Su this.2.2.2⟩
 ·have:=(h.2.2.2 s hs).2.2.2.2.1;exact Nat.le_trans this Yp
 ·have:=(h.2.2.2 s hs).2.2.2.2.2 r hr
  exact Su (this.2.2.2.2.2.1.2 n hn).2
 ·have:=(h.2.2.2 s hs).2.2.2.2.2 r hr
  exact Su (this.2.2.2.2.2.2.1.2 n hn).2
theorem QL:∀x,Di Gt.ps3 x→(Gt.s3.fn x:Option Bool)=some true:=fun x h=>Vs (Zc h.1) x.2.1 x.2.2
def OB (w:List Bool) (L:List Int):List Bool:=L.foldl (fun w x=>w.set x.toNat true) w
theorem Rz:∀(L:List Int) (w:List Bool),(OB w L).length=w.length
 | [],w=>rfl
 | x::L,w=>(Rz L (w.set x.toNat true)).trans (by simp)
def yP (s:A8) (w:List Bool) (d:Int):List Bool:=OB (w.set d.toNat true) (U3 s d)
theorem rF (s:A8) (w:List Bool) (d:Int):(yP s w d).length=w.length:=by unfold yP;rw[Rz];simp
theorem yj {w:List Bool} {n:Nat} (hw:w.length=n) {x:Int} (h0:0≤x) (h1:x<(n:Int)):∃b,lat w x=some b∧I9 w (toN x)=some b:=by
 have h:x.toNat<w.length:=by omega
 exact⟨w[x.toNat],by unfold lat;rw[if_pos h0];exact Y8 h,Y8 h⟩
theorem Df {s:A8} (h:SmS s) (d:Int):(U3 s d).length≤14:=wB h (qK s d).1 (fun x hx=>rJ hx)
theorem Ef {s:A8} (h:SmS s) {w:List Bool} (hw:w.length=s.2.2.2.1.length) {d:Int} (h0:0≤d) (h1:d<nD s):kN s w d=some (yP s w d):=by
 have hn:nD s=((s.2.2.2.1.length:Nat):Int):=rfl
 have hl:=Df h d
 obtain⟨b,e1,e2⟩:=yj hw h0 (by omega)
 unfold kN
 rw[e1,o7,e2,o7,zJ h,o7,X7]
 refine(ax (U3 s d) (fun(w:List Bool) (x:Int)=>w.set x.toNat true) (fun w i=>(w,i)) (fun w=>w) (fun _ w=>w.length=s.2.2.2.1.length) (b:=w.set d.toNat true) (by omega) (by simp[hw]) (fun i x v hx hi hv=>?_) (fun v hv=>?_)).1
 ·have hr:=rJ (bZ hx)
  obtain⟨b,e1,e2⟩:=yj hv hr.1 (by omega)
  simp only[G6 hx,o6,D8,hx,o7]
  rw[e1,o7,e2,o7,O5 (by omega)]
  exact⟨rfl,by simp[hv]⟩
 ·simp only[G5];rfl
theorem Jg {s m:A8} (h:SmS m) {u w:List Bool} (hw:w.length=m.2.2.2.1.length) {d:Int} (h0:0≤d) (h1:d<nD m):bY (s,m,u,w) d=some (s,m,u,yP m w d):=by
 have hn:nD m=((m.2.2.2.1.length:Nat):Int):=rfl
 have hl:=Df h d
 obtain⟨b,e1,e2⟩:=yj hw h0 (by omega)
 unfold bY
 simp only
 rw[e1,o7,e2,o7,BM h h0 h1,o7,X7]
 refine(ax (U3 m d) (fun(w:List Bool) (x:Int)=>w.set x.toNat true) (fun w i=>(((s,m,u,w),i):I4×Int)) (fun w=>((s,m,u,w):I4)) (fun _ w=>w.length=m.2.2.2.1.length) (b:=w.set d.toNat true) (by omega) (by simp[hw]) (fun i x v hx hi hv=>?_) (fun v hv=>?_)).1
 ·have hr:=rJ (bZ hx)
  obtain⟨b,e1,e2⟩:=yj hv hr.1 (by omega)
  simp only[G6 hx,o6,D8,hx,o7]
  rw[show I9 (U3 m d) (toN (i:Int))=some x from hx,o7,e1,o7,e2,o7,O5 (by omega)]
  exact⟨rfl,by simp[hv]⟩
 ·simp only[G5];rfl
def xx (r:X0):List Int:=(Y4 r.2.2.2.2.2.1).2.2++(Y4 r.2.2.2.2.2.2.1).2.2
def mdl (rs:List X0) (C:List Int):List Int:=rs.flatMap fun r=>l7 (iD C r.2.1) (xx r) []
def mbS (s:A8) (d:Int):List Int:=l7 (inD (nD s) d) (Em (mdl s.2.2.2.2 (ins d (U3 s d)))) []
theorem Ls {s:A8} (h:SmS s) {r:X0} (hr:r∈s.2.2.2.2):(xx r).length≤100:=by
 obtain⟨_,h1,h2⟩:=h.ro r hr
 have a1:=ul r.2.2.2.2.2.1
 have a2:=ul r.2.2.2.2.2.2.1
 unfold xx;rw[List.length_append];omega
theorem Vw {s:A8} (h:SmS s) (C:List Int):∀(rs:List X0),(∀r∈rs,r∈s.2.2.2.2)→(mdl rs C).length≤100*rs.length
 | [],_=>by simp[mdl]
 | r::rs,hr=>by
  have h1:=Vw h C rs (fun x hx=>hr x (by simp[hx]))
  have h2:=Ls h (hr r (by simp))
  have:mdl (r::rs) C=l7 (iD C r.2.1) (xx r) []++mdl rs C:=rfl
  rw[this,List.length_append,List.length_cons]
  cases iD C r.2.1
  ·simp only[o5,List.length_nil];omega
  ·simp only[o6];omega
theorem a2a {rs:List X0} {C:List Int} {x:Int} :x∈mdl rs C↔∃r∈rs,iD C r.2.1=true∧x∈xx r:=by
 unfold mdl
 rw[List.mem_flatMap]
 constructor
 ·rintro⟨r,h1,h2⟩
  cases h:iD C r.2.1 <;> rw[h]at h2
  ·simp at h2
  ·exact⟨r,h1,h,h2⟩
 ·rintro⟨r,h1,h2,h3⟩
  exact⟨r,h1,by rw[h2];exact h3⟩
theorem a1S {f:List Int×Int→Option ((List Int×Int)⊕List Int)} (l b:List Int) (hl:l.length≤1000) (hb:b.length≤100000)
  (hin:∀(i:Nat) (a:Int) (acc:List Int),l[i]? =some a→i≤1000000→f (acc,(i:Int))=l9 (dJ acc a) fun x=>some (.inl (x,x8 .i64 (i:Int) 1)))
  (hend:∀acc,f (acc,(l.length:Int))=some (.inr acc)):N8 f (b,0)=some (xw l b):=by
 refine(ax l (fun(acc:List Int) x=>ins x acc) (fun b i=>(b,i)) (fun b=>b) (fun i acc=>acc.length≤100000+i) (f:=f) (b:=b) (by omega) (by omega) (fun i a acc ha hi hI=>?_) (fun acc hI=>hend acc)).1
 have hlt:=(O6.1 ha).1
 have h2:=mf a acc
 rw[hin i a acc ha hi,O5 (by omega),tq _ (by omega)]
 exact⟨rfl,by show(ins a acc).length≤_;omega⟩
theorem QS {s:A8} (h:SmS s) (d:Int):qy s d=some (mbS s d):=by
 have hnr:=h.nr
 have hl:=Df h d
 have hli:=mf d (U3 s d)
 unfold qy mbS
 rw[a0j,o7]
 change l7 (D6 (inD (nD s) d)) _ _=_
 cases inD (nD s) d
 ·rfl
 simp only[o9,o5,o6]
 rw[zJ h,o7,tq _ (by omega),o7]
 generalize hC:ins d (U3 s d)=C at*
 refine fH s.2.2.2.2 (fun(acc:List Int) r=>l7 (iD C r.2.1) (xw (xx r) acc) acc) (fun b i=>(b,i)) (fun b=>b) (fun i acc=>acc.length≤100*i) [] (by omega) (by simp) (fun i r acc ha hi hI=>?_) (fun acc hI=>?_) (fun h2=>?_)
 ·have hlt:=(O6.1 ha).1
  obtain⟨_,h1,h2⟩:=h.ro r (bZ ha)
  have a1:=ul r.2.2.2.2.2.1
  have a2:=ul r.2.2.2.2.2.2.1
  have hlen:=tX (xx r) acc
  have hrl:=Ls h (bZ ha)
  simp only[G6 ha,o6,D8,ha,o7]
  rw[O5 (by omega),VQ (by omega),o7]
  cases iD C r.2.1
  ·exact⟨rfl,by show acc.length≤_;omega⟩
  simp only[o9,o5,o6,oW (show r.2.2.2.2.2.1.length≤500000 by omega),oW (show r.2.2.2.2.2.2.1.length≤500000 by omega),o7]
  refine⟨?_,by show(xw (xx r) acc).length≤_;omega⟩
  refine J3 (a1S (Y4 r.2.2.2.2.2.1).2.2 acc (by omega) (by omega) (fun i a acc ha hi=>?_) (fun acc=>?_)) ?_
  rotate_left 2
  ·rw[o7]
   have hl2:=tX (Y4 r.2.2.2.2.2.1).2.2 acc
   refine J3 (a1S (Y4 r.2.2.2.2.2.2.1).2.2 _ (by omega) (by omega) (fun i a acc ha hi=>?_) (fun acc=>?_)) ?_
   rotate_left 2
   ·rw[o7];unfold xx;rw[AA]
   ·simp only[G6 ha,o6,D8,ha,o7]
    rw[show I9 (Y4 r.2.2.2.2.2.2.1).2.2 (toN (i:Int))=some a from ha];rfl
   ·simp only[G5];rfl
  ·simp only[G6 ha,o6,D8,ha,o7]
   rw[show I9 (Y4 r.2.2.2.2.2.1).2.2 (toN (i:Int))=some a from ha];rfl
  ·simp only[G5];rfl
 ·simp only[G5];rfl
 ·have hf:∀(l:List X0) (b:List Int),l.foldl (fun(acc:List Int) r=>l7 (iD C r.2.1) (xw (xx r) acc) acc) b=xw (mdl l C) b:=by
   intro l
   induction l with
   | nil=>intro b;rfl
   | cons a l ih=>
    intro b
    rw[List.foldl_cons,ih,show mdl (a::l) C=l7 (iD C a.2.1) (xx a) []++mdl l C from rfl,AA]
    cases iD C a.2.1 <;> rfl
  rw[hf];rfl
theorem Vz:∀(L:List Int) (w:List Bool),(∀x∈L,0≤x∧x<o8 w)→∀x,mk (OB w L) x=true↔mk w x=true∨x∈L
 | [],w,_,x=>by simp[OB]
 | y::L,w,h,x=>by
  have hy:=h y (by simp)
  have ih:=Vz L (w.set y.toNat true) (fun z hz=>by have:=h z (by simp[hz]);simp only[o8,List.length_set]at this ⊢;exact this) x
  rw[show OB w (y::L)=OB (w.set y.toNat true) L from rfl,ih,QB hy.1 hy.2]
  cases hq:ieq x y
  ·have:x≠y:=fun e=>by rw[F5 e]at hq;cases hq
   simp[this]
  ·rw[P6]at hq;simp[hq]
theorem Lu (n:Nat) (x:Int):mk (List.replicate n false) x=false:=by
 unfold mk
 split
 ·rw[qh,List.getElem?_replicate];split <;> rfl
 ·rfl
theorem SS {s:A8} (h:SmS s) {d:Int} (h0:0≤d) (h1:d<nD s):rP s d=some (mbS s d):=by
 have hn:nD s=((s.2.2.2.1.length:Nat):Int):=rfl
 have hnr:=h.nr
 have hnd:=h.nd
 have hl:=Df h d
 have hr:pX ((List.range s.2.2.2.1.length).map fun(d:Nat)=>H9 s (d:Int)) d=some (U3 s d):=by
  obtain⟨L,k1,k2⟩:=QY (D:=H9 s) h.nd (tJ s) (fun x y hy=>nH hy) h0 (show d<((s.2.2.2.1.length:Nat):Int) by omega)
  rw[k1,Rch.unique k2 (qK s d)]
 obtain⟨b,e1,e2⟩:=yj (w:=List.replicate s.2.2.2.1.length false) (by simp) h0 (show d<((s.2.2.2.1.length:Nat):Int) by omega)
 unfold rP mbS
 rw[show inD (nD s) d=true by unfold inD;rw[H5 h0,F7 h1];rfl,o6]
 change l9 (l7 (ilt d 0) _ (l7 (ile (nD s) d) _ _)) _=_
 rw[E9 h0,o5,H7 h1,o5,o7]
 simp only[C9]
 rw[pM s h false,o7,e1,o7,e2,o7,Dk h,o7,hr,o7]
 refine J3 (o' :=some (OB ((List.replicate s.2.2.2.1.length false).set d.toNat true) (U3 s d))) ?_ ?_
 ·refine(ax (U3 s d) (fun(w:List Bool) (x:Int)=>w.set x.toNat true) (fun w i=>(w,i)) (fun w=>w) (fun _ w=>w.length=s.2.2.2.1.length) (b:=(List.replicate s.2.2.2.1.length false).set d.toNat true) (by omega) (by simp) (fun i x v hx hi hv=>?_) (fun v hv=>?_)).1
  ·have hr:=rJ (bZ hx)
   obtain⟨b,e1,e2⟩:=yj hv hr.1 (by omega)
   simp only[G6 hx,o6,D8,hx,o7]
   rw[show I9 (U3 s d) (toN (i:Int))=some x from hx,o7,e1,o7,e2,o7,O5 (by omega)]
   exact⟨rfl,by simp[hv]⟩
  ·simp only[G5];rfl
 rw[o7]
 have hW:∀x,0≤x→x<nD s→mk (OB ((List.replicate s.2.2.2.1.length false).set d.toNat true) (U3 s d)) x=iD (ins d (U3 s d)) x:=fun x x0 x1=>by
  have hm:=Vz (U3 s d) ((List.replicate s.2.2.2.1.length false).set d.toNat true) (fun y hy=>by have:=rJ hy;simp only[o8,List.length_set,List.length_replicate];omega) x
  have hd:=QB (S:=List.replicate s.2.2.2.1.length false) (e:=d) h0 (by simp only[o8,List.length_replicate];omega) x
  have hh:iD (ins d (U3 s d)) x=true↔x=d∨x∈U3 s d:=by rw[oP,GL]
  have key:mk (OB ((List.replicate s.2.2.2.1.length false).set d.toNat true) (U3 s d)) x=true↔iD (ins d (U3 s d)) x=true:=by
   rw[hm,hh,hd,Lu]
   cases hq:ieq x d
   ·have:x≠d:=fun e=>by rw[F5 e]at hq;cases hq
    simp[this]
   ·rw[P6]at hq;simp[hq]
  rcases Bool.eq_false_or_eq_true (iD (ins d (U3 s d)) x)with hb | hb
  ·rw[hb];exact key.2 hb
  ·rw[hb];cases hc:mk (OB ((List.replicate s.2.2.2.1.length false).set d.toNat true) (U3 s d)) x
   ·rfl
   ·rw[key.1 hc]at hb;cases hb
 have hWl:(OB ((List.replicate s.2.2.2.1.length false).set d.toNat true) (U3 s d)).length=s.2.2.2.1.length:=by rw[Rz];simp
 have hCin:∀x∈ins d (U3 s d),0≤x∧x<nD s:=fun x hx=>by
  rcases(GL d x _).1 hx with rfl | hx
  ·exact⟨h0,h1⟩
  ·exact rJ hx
 generalize OB ((List.replicate s.2.2.2.1.length false).set d.toNat true) (U3 s d)=W at*
 generalize ins d (U3 s d)=C at*
 refine fH s.2.2.2.2 (fun(acc:List Int) r=>l7 (iD C r.2.1) (acc++xx r) acc) (fun b i=>(b,i)) (fun b=>b) (fun i acc=>acc.length≤100*i) [] (by omega) (by simp) (fun i r acc ha hi hI=>?_) (fun acc hI=>?_) (fun h2=>?_)
 ·have hlt:=(O6.1 ha).1
  obtain⟨_,h1,h2⟩:=h.ro r (bZ ha)
  have a1:=ul r.2.2.2.2.2.1
  have a2:=ul r.2.2.2.2.2.2.1
  have hrl:=Ls h (bZ ha)
  simp only[G6 ha,o6,D8,ha,o7]
  rw[O5 (by omega)]
  obtain⟨e,he⟩:∃e:Int,r.2.1=e:=⟨_,rfl⟩
  rw[he]
  change l7 (ilt e 0) _ (l7 (ile (nD s) e) _ _)=_∧_
  by_cases q0:0≤e
  case neg=>
   have:iD C e=false:=by
    cases hq:iD C e
    ·rfl
    ·exact absurd (hCin _ (oP.1 hq)).1 q0
   rw[F7 (show e<0 by omega),this]
   exact⟨rfl,by show acc.length≤_;omega⟩
  by_cases q1:e<nD s
  case neg=>
   have:iD C e=false:=by
    cases hq:iD C e
    ·rfl
    ·exact absurd (hCin _ (oP.1 hq)).2 q1
   rw[E9 q0,H5 (show nD s≤e by omega),this]
   exact⟨rfl,by show acc.length≤_;omega⟩
  obtain⟨b,f1,f2⟩:=yj hWl q0 (show e<((s.2.2.2.1.length:Nat):Int) by omega)
  have hb:b=iD C e:=by
   have:=ZP (S:=W) q0 (by simp only[o8];omega)
   rw[←hW _ q0 q1]
   have e3:W[e.toNat]? =some b:=f2
   rw[this]at e3;exact(Option.some.inj e3).symm
  rw[E9 q0,o5,H7 q1,o5,f1,o7,f2,o7,hb]
  cases iD C e
  ·exact⟨rfl,by show acc.length≤_;omega⟩
  simp only[o9,o5,o6,rD (show r.2.2.2.2.2.1.length≤1000000 by omega),rD (show r.2.2.2.2.2.2.1.length≤1000000 by omega),o7]
  rw[DK (by omega),o7,DK (by rw[List.length_append];omega),o7]
  refine⟨by unfold xx;rw[List.append_assoc],by show(acc++xx r).length≤_;rw[List.length_append];omega⟩
 ·simp only[G5];rfl
 ·have hf:∀(l:List X0) (b:List Int),l.foldl (fun(acc:List Int) r=>l7 (iD C r.2.1) (acc++xx r) acc) b=b++mdl l C:=by
   intro l
   induction l with
   | nil=>intro b;simp[mdl]
   | cons a l ih=>
    intro b
    rw[List.foldl_cons,ih,show mdl (a::l) C=l7 (iD C a.2.1) (xx a) []++mdl l C from rfl]
    cases iD C a.2.1 <;> simp
  rw[hf,List.nil_append]
  have hml:=Vw h C s.2.2.2.2 (fun _ h=>h)
  rw[KA (by omega)];rfl
def lm (m:A8) (w:List Bool) (L:List Int):List Bool:=L.foldl (yP m) w
theorem wG (m:A8):∀(L:List Int) (w:List Bool),(lm m w L).length=w.length
 | [],w=>rfl
 | x::L,w=>(wG m L (yP m w x)).trans (rF m w x)
theorem a1X {s:A8} (h:SmS s) (d:Int):(mbS s d).length≤6000:=by
 unfold mbS
 cases inD (nD s) d
 ·simp
 ·have h1:=AB (mdl s.2.2.2.2 (ins d (U3 s d)))
  have h2:=Vw h (ins d (U3 s d)) s.2.2.2.2 (fun _ h=>h)
  have:=h.nr
  simp only[o6];omega
theorem TE {s m:A8} (h:SmS s) (hm:SmS m) {u w:List Bool} (hu:u.length=s.2.2.2.1.length) (hw:w.length=m.2.2.2.1.length) {d:Int} (h0:0≤d) (h1:d<nD s) (hr:∀x∈mbS s d,0≤x∧x<nD m):
  iH (s,m,u,w) d=some (s,m,yP s u d,lm m w (mbS s d)):=by
 have hn:nD s=((s.2.2.2.1.length:Nat):Int):=rfl
 have hl:=Df h d
 have hml:=a1X h d
 obtain⟨b,e1,e2⟩:=yj hu h0 (by omega)
 unfold iH
 simp only
 rw[e1,o7,e2,o7,BM h h0 h1,o7]
 refine J3 (o' :=some ((s,m,yP s u d,w):I4)) ?_ ?_
 ·refine(ax (U3 s d) (fun(v:List Bool) (x:Int)=>v.set x.toNat true) (fun v i=>(((s,m,v,w),i):I4×Int)) (fun v=>((s,m,v,w):I4)) (fun _ v=>v.length=s.2.2.2.1.length) (b:=u.set d.toNat true) (by omega) (by simp[hu]) (fun i x v hx hi hv=>?_) (fun v hv=>?_)).1
  ·have hr:=rJ (bZ hx)
   obtain⟨b,e1,e2⟩:=yj hv hr.1 (by omega)
   simp only[G6 hx,o6,D8,hx,o7]
   rw[show I9 (U3 s d) (toN (i:Int))=some x from hx,o7,e1,o7,e2,o7,O5 (by omega)]
   exact⟨rfl,by simp[hv]⟩
  ·simp only[G5];rfl
 rw[o7]
 simp only
 rw[SS h h0 h1,o7,X7]
 refine(ax (mbS s d) (yP m) (fun v i=>(((s,m,yP s u d,v),i):I4×Int)) (fun v=>((s,m,yP s u d,v):I4)) (fun _ v=>v.length=m.2.2.2.1.length) (b:=w) (by omega) hw (fun i x v hx hi hv=>?_) (fun v hv=>?_)).1
 ·have hq:=hr x (bZ hx)
  simp only[G6 hx,o6,D8,hx,o7]
  rw[show I9 (mbS s d) (toN (i:Int))=some x from hx,o7,Jg hm hv hq.1 hq.2,o7,O5 (by omega)]
  exact⟨rfl,(rF m v x).trans hv⟩
 ·simp only[G5];rfl
theorem Ba {l:L6} {k:Int} {s:A8} (hv:(aP l).1=0) (hs:lat l.2.2 k=some s) (h:SmS s) (hm:SmS (G9 l s)) {w:List Bool} (hw:w.length=(G9 l s).2.2.2.1.length) (d:Int) (hr:∀x∈mbS s d,0≤x∧x<nD (G9 l s)):
  gJ l k w d=some (lm (G9 l s) w (mbS s d)):=by
 have hml:=a1X h d
 unfold gJ
 rw[hs,o7,QS h,o7,X7]
 refine(ax (mbS s d) (yP (G9 l s)) (fun v i=>(v,i)) (fun v=>v) (fun _ v=>v.length=(G9 l s).2.2.2.1.length) (b:=w) (by omega) hw (fun i x v hx hi hq=>?_) (fun v hv=>?_)).1
 ·have hx2:=hr x (bZ hx)
  simp only[G6 hx,o6,D8,hx,o7]
  rw[lq hv hs,o7,show I9 (mbS s d) (toN (i:Int))=some x from hx,o7,Ef hm hq hx2.1 hx2.2,o7,O5 (by omega)]
  exact⟨rfl,(rF _ v x).trans hq⟩
 ·simp only[G5];rfl
theorem b5H {k N:Int} {sg:I8} (hk:az k=some true) (h:(MB (k,N) [] sg).2=0):((RR (k,N) [] sg).getD ((0,0),0)).2=0:=by
 unfold MB at h
 rw[b9Q]at h
 revert h
 cases D6 (ieq N 0)
 ·exact id
 ·rw[show az (k,N).1=some true from hk];exact id
theorem b0X {N:Int} {sg:I8} (h:(MB (8,N) [] sg).2=0):0≤N∧N<o8 sg.2.2.2.1:=by
 have h:=b5H rfl h
 have hf:lN (8,N) sg=l7 (ile 0 N) (some (ilt N (o8 sg.2.2.2.1))) (some false):=rfl
 unfold RR at h
 rw[hf,show jW (8,N) sg=some true from rfl]at h
 cases h1:ile 0 N <;> rw[h1]at h
 ·exact absurd (show(6:Int)=0 from h) (by decide)
 cases h2:ilt N (o8 sg.2.2.2.1) <;> rw[h2]at h
 ·exact absurd (show(6:Int)=0 from h) (by decide)
 exact⟨jv.1 h1,dZ.1 h2⟩
theorem b0Y {k N:Int} {sg:I8} (hk:k=36∨k=37∨k=38∨k=39) (h:(MB (k,N) [] sg).2=0):0≤N∧N<o8 sg.2.2.2.2.1∧sg.2.2.2.2.2=true:=by
 have h:=b5H (by rcases hk with rfl | rfl | rfl | rfl <;> rfl) h
 have hr:RR (k,N) [] sg=l9 (l7 sg.2.2.2.2.2 (l7 (ile 0 N) (some (ilt N (o8 sg.2.2.2.2.1))) (some false)) (some false)) fun(x:Bool)=>l7 (D6 x) (some ((0,0),6))
   (l9 (eU (k,N) sg) fun(x:F6×Bool)=>l7 (D6 x.2) (some ((0,0),8)) (some (x.1,0))):=by rcases hk with rfl | rfl | rfl | rfl <;> rfl
 rw[hr]at h
 cases h0:sg.2.2.2.2.2 <;> rw[h0]at h
 ·exact absurd (show(6:Int)=0 from h) (by decide)
 cases h1:ile 0 N <;> rw[h1]at h
 ·exact absurd (show(6:Int)=0 from h) (by decide)
 cases h2:ilt N (o8 sg.2.2.2.2.1) <;> rw[h2]at h
 ·exact absurd (show(6:Int)=0 from h) (by decide)
 exact⟨jv.1 h1,dZ.1 h2,rfl⟩
def OY (sg:I8) (n:Int×Int):Prop:=(ieq n.1 8=true→0≤n.2∧n.2<o8 sg.2.2.2.1)∧(isM n.1=true→0≤n.2∧n.2<o8 sg.2.2.2.2.1∧sg.2.2.2.2.2=true)
theorem Uo {k:Int} (h:isM k=true):k=36∨k=37∨k=38∨k=39:=by
 unfold isM at h
 cases h1:ile 36 k <;> rw[h1]at h
 ·cases h
 have h2:=jv.1 h1
 have h3:=jv.1 (show ile k 39=true from h)
 omega
theorem a6I {sg:I8} {n:Int×Int} {i:Nat} {t:Int×Int} (h:zG sg n [] i= .inr t):OY sg n:=by
 unfold zG at h
 split at h
 ·rename_i h0
  obtain⟨k,N⟩:=n
  refine⟨fun hk=>?_,fun hk=>b0Y (Uo hk) h0⟩
  have hk:k=8:=P6.1 hk
  subst hk;exact b0X h0
 ·cases h
theorem QG {sg:I8} {n:Int×Int} (h:arF n.1≠0):OY sg n:=by
 refine⟨fun hk=>absurd ?_ h,fun hk=>absurd ?_ h⟩
 ·rw[P6.1 hk];rfl
 ·rcases Uo hk with e | e | e | e <;> rw[e] <;> rfl
theorem Es {sg:I8} :∀(t:XT) (o:Nat) {r:Int×Int},t.wf→dX sg t o= .inr r→∀n∈t.post,OY sg n
 | .l0 n,o,r,hw,h,x,hx=>by
  unfold XT.post at hx
  rw[List.mem_singleton.1 hx]
  unfold dX at h;exact a6I h
 | .l1 n a,o,r,hw,h,x,hx=>by
  unfold XT.wf at hw
  unfold XT.post at hx
  unfold dX at h
  cases ha:dX sg a o with
  | inl e=>rw[ha]at h;cases h
  | inr ta=>
   rcases List.mem_append.1 hx with hx | hx
   ·exact Es a o hw.2 ha x hx
   ·rw[List.mem_singleton.1 hx];exact QG (by rw[hw.1];decide)
 | .l2 n a b,o,r,hw,h,x,hx=>by
  unfold XT.wf at hw
  unfold XT.post at hx
  unfold dX at h
  cases ha:dX sg a o with
  | inl e=>rw[ha]at h;cases h
  | inr ta=>
   rw[ha]at h
   simp only at h
   cases hb:dX sg b (o+a.size)with
   | inl e=>rw[hb]at h;cases h
   | inr tb=>
    rcases List.mem_append.1 hx with hx | hx
    ·rcases List.mem_append.1 hx with hx | hx
     ·exact Es a o hw.2.1 ha x hx
     ·exact Es b _ hw.2.2 hb x hx
    ·rw[List.mem_singleton.1 hx];exact QG (by rw[hw.1];decide)
 | .l3 n a b c,o,r,hw,h,x,hx=>by
  unfold XT.wf at hw
  unfold XT.post at hx
  unfold dX at h
  cases ha:dX sg a o with
  | inl e=>rw[ha]at h;cases h
  | inr ta=>
   rw[ha]at h
   simp only at h
   cases hb:dX sg b (o+a.size)with
   | inl e=>rw[hb]at h;cases h
   | inr tb=>
    rw[hb]at h
    simp only at h
    cases hc:dX sg c (o+a.size+b.size)with
    | inl e=>rw[hc]at h;cases h
    | inr tc=>
     rcases List.mem_append.1 hx with hx | hx
     ·rcases List.mem_append.1 hx with hx | hx
      ·rcases List.mem_append.1 hx with hx | hx
       ·exact Es a o hw.2.1 ha x hx
       ·exact Es b _ hw.2.2.1 hb x hx
      ·exact Es c _ hw.2.2.2 hc x hx
     ·rw[List.mem_singleton.1 hx];exact QG (by rw[hw.1];decide)
theorem DR {sg:I8} {n:Int×Int} {ops:List (Int×Int)} {i:Nat} {x:Int×Int} (h:zG sg n ops i= .inl x):x.2≠0:=by
 unfold zG at h
 split at h
 ·cases h
 ·rename_i h0;cases h;exact h0
theorem wR {sg:I8} :∀(t:XT) (o:Nat) {x:Int×Int},dX sg t o= .inl x→x.2≠0
 | .l0 n,o,x,h=>DR h
 | .l1 n a,o,x,h=>by
  unfold dX at h
  cases ha:dX sg a o with
  | inl e=>rw[ha]at h;cases h;exact wR a o ha
  | inr ta=>rw[ha]at h;exact DR h
 | .l2 n a b,o,x,h=>by
  unfold dX at h
  cases ha:dX sg a o with
  | inl e=>rw[ha]at h;cases h;exact wR a o ha
  | inr ta=>
   rw[ha]at h
   simp only at h
   cases hb:dX sg b (o+a.size)with
   | inl e=>rw[hb]at h;cases h;exact wR b _ hb
   | inr tb=>rw[hb]at h;exact DR h
 | .l3 n a b c,o,x,h=>by
  unfold dX at h
  cases ha:dX sg a o with
  | inl e=>rw[ha]at h;cases h;exact wR a o ha
  | inr ta=>
   rw[ha]at h
   simp only at h
   cases hb:dX sg b (o+a.size)with
   | inl e=>rw[hb]at h;cases h;exact wR b _ hb
   | inr tb=>
    rw[hb]at h
    simp only at h
    cases hc:dX sg c (o+a.size+b.size)with
    | inl e=>rw[hc]at h;cases h;exact wR c _ hc
    | inr tc=>rw[hc]at h;exact DR h
theorem UR {e:List (Int×Int)} {sg:I8} (h:(fZ e sg).2.2=0):∀n∈e,OY sg n:=by
 unfold fZ at h
 cases hs:eY e with
 | inl x=>rw[hs]at h;exact absurd h (xM hs)
 | inr t=>
  rw[hs]at h
  simp only at h
  cases ht:dX sg t 0 with
  | inl x=>
   rw[ht]at h
   exact absurd h (wR t 0 ht)
  | inr r=>
   intro n hn
   rw[(xN hs).1]at hn
   exact Es t 0 (GY hs) ht n hn
theorem UV {e:List (Int×Int)} {sg:I8} {t:Int×Int} (h:zX e sg t=0):fZ e sg=(t,(fZ e sg).2.1,0):=by
 unfold zX at h
 cases h1:ieq (fZ e sg).2.2 0 <;> rw[h1]at h
 ·simp only[o5]at h;rw[F5 h]at h1;cases h1
 cases h2:ieq (fZ e sg).1.1 t.1 <;> rw[h2]at h
 ·exact absurd (show(8:Int)=0 from h) (by decide)
 cases h3:ieq (fZ e sg).1.2 t.2 <;> rw[h3]at h
 ·exact absurd (show(8:Int)=0 from h) (by decide)
 rw[P6]at h1 h2 h3
 exact Prod.ext (Prod.ext h2 h3) (Prod.ext rfl h1)
theorem a1p {l:L6} (h:(aP l).1=0) {i:Nat} {s:A8} (hs:l.2.2[i]? =some s) {k:Nat} {r:X0} (hr:s.2.2.2.2[k]? =some r):FY s (BL l s) k r=0:=by
 have hp:=(MP h hs).2
 unfold LK at hp
 cases h1:yu l s with
 | some q=>rw[h1]at hp;exact absurd hp (Fb h1)
 | none=>
  rw[h1]at hp
  simp only at hp
  cases h2:P9 s.2.2.2.2.length (CW l s)with
  | some q=>
   rw[h2]at hp
   obtain⟨j,hj,hq⟩:=aW h2
   unfold CW at hq
   cases h3:s.2.2.2.2[j]? with
   | none=>rw[h3]at hq;cases hq
   | some q2=>rw[h3]at hq;exact absurd hp (Cb hq)
  | none=>
   have hn:=uI h2 k (O6.1 hr).1
   unfold CW at hn
   rw[hr]at hn
   simp only at hn
   unfold Oz at hn
   cases he:ieq (FY s (BL l s) k r) 0 <;> rw[he]at hn
   ·cases hn
   ·exact P6.1 he
theorem a0s {s:A8} {sg:I8} {k:Nat} {r:X0} (h:FY s sg k r=0):∃d,lat s.2.2.2.1 r.2.1=some d∧PY r sg d.2=0:=by
 unfold FY at h
 cases g1:yz r.1 <;> rw[g1]at h
 ·exact absurd (show(2:Int)=0 from h) (by decide)
 cases g2:(s.2.2.2.2.take k).any fun x=>seq x.1 r.1 <;> rw[g2]at h
 case true=>exact absurd (show(7:Int)=0 from h) (by decide)
 cases g3:lat s.2.2.2.1 r.2.1 with
 | none=>rw[g3]at h;exact absurd (show(6:Int)=0 from h) (by decide)
 | some d=>
  rw[g3]at h
  refine⟨d,rfl,?_⟩
  simp only[o6,o5]at h
  revert h
  generalize l7 (ieq r.2.2.1 (-1)) false (l7 (ilt r.2.2.1 0) true (l7 (ile k r.2.2.1) true (match lat s.2.2.2.2 r.2.2.1 with | some q=>D6 (ieq q.2.1 r.2.1) | none=>true)))=b1
  generalize ilt r.2.2.2.1 0=b2
  generalize ilt 9 r.2.2.2.1=b3
  generalize Bv r.2.2.2.2.1=b4
  generalize ieq r.2.2.2.2.1.1 r.2.2.2.2.1.2=b5
  generalize ile 8 (Oq (s.2.2.2.2.take k) r.2.1)=b6
  generalize YV r.2.2.2.2.2.2.2=b7
  intro h
  cases b1
  case true=>exact absurd (show(9:Int)=0 from h) (by decide)
  cases b2
  case true=>exact absurd (show(3:Int)=0 from h) (by decide)
  cases b3
  case true=>exact absurd (show(3:Int)=0 from h) (by decide)
  cases b4
  case false=>exact absurd (show(3:Int)=0 from h) (by decide)
  cases b5
  case true=>exact absurd (show(3:Int)=0 from h) (by decide)
  cases b6
  case true=>exact absurd (show(4:Int)=0 from h) (by decide)
  cases b7
  case false=>exact absurd (show(2:Int)=0 from h) (by decide)
  exact h
theorem Oi {l:L6} (h:(aP l).1=0) {i:Nat} {s:A8} (hs:l.2.2[i]? =some s) {r:X0} (hr:r∈s.2.2.2.2):
  (r.2.2.2.2.2.1=[]∨zX r.2.2.2.2.2.1 (BL l s) (1,0)=0)∧∃d,lat s.2.2.2.1 r.2.1=some d∧zX r.2.2.2.2.2.2.1 (BL l s) d.2=0:=by
 obtain⟨k,hk,e⟩:=List.getElem_of_mem hr
 obtain⟨d,h1,h2⟩:=a0s (a1p h hs (r:=r) (k:=k) (by rw[Y8 hk,e]))
 unfold PY at h2
 cases h3:ilt 0 (o8 r.2.2.2.2.2.1) <;> rw[h3]at h2
 ·refine⟨.inl ?_,d,h1,h2⟩
  rw[aV]at h3
  exact List.length_eq_zero_iff.1 (by simp only[o8]at h3;omega)
 ·simp only[o6]at h2
  cases h4:ieq (zX r.2.2.2.2.2.1 (BL l s) (1,0)) 0 <;> rw[h4]at h2
  ·simp only[o5]at h2;rw[F5 h2]at h4;cases h4
  ·exact⟨.inr (P6.1 h4),d,h1,h2⟩
theorem a8i (l:L6) (s:A8):(BL l s).2.2.2.1=s.2.2.2.1.map (·.2):=by unfold BL;split <;> rfl
theorem b1A {l:L6} {s:A8} (h:(BL l s).2.2.2.2.2=true):(BL l s).2.2.2.2.1=(G9 l s).2.2.2.1.map (·.2):=by
 unfold BL at h ⊢
 unfold G9 lat
 by_cases g:0≤s.2.1
 ·rw[if_pos g]at h ⊢
  rw[H5 g]
  cases hq:l.2.2[s.2.1.toNat]? with
  | none=>rw[hq]at h;cases h
  | some q=>rfl
 ·rw[if_neg g]at h;cases h
theorem zh {l:L6} (h:(aP l).1=0) {i:Nat} {s:A8} (hs:l.2.2[i]? =some s) {r:X0} (hr:r∈s.2.2.2.2) {e:List (Int×Int)} (he:e=r.2.2.2.2.2.1∨e=r.2.2.2.2.2.2.1):
  (∀x∈(Y4 e).2.1,0≤x∧x<nD s)∧∀x∈(Y4 e).2.2,0≤x∧x<nD (G9 l s):=by
 obtain⟨h1,d,h2,h3⟩:=Oi h hs hr
 have hn:∀n∈e,OY (BL l s) n:=by
  rcases he with rfl | rfl
  ·rcases h1 with h1 | h1
   ·rw[h1];simp
   ·exact UR (by rw[UV h1])
  ·exact UR (by rw[UV h3])
 constructor
 ·intro x hx
  have hx:=(qY x _).1 (show x∈Em (JP (fun o=>ieq o 8) e)from hx)
  obtain⟨n,hn1,rfl⟩:=List.mem_map.1 hx
  obtain⟨hn2,hn3⟩:=List.mem_filter.1 hn1
  have:=(hn n hn2).1 hn3
  rw[a8i]at this
  simpa[o8,nD]using this
 ·intro x hx
  have hx:=(qY x _).1 (show x∈Em (JP isM e)from hx)
  obtain⟨n,hn1,rfl⟩:=List.mem_map.1 hx
  obtain⟨hn2,hn3⟩:=List.mem_filter.1 hn1
  have:=(hn n hn2).2 hn3
  rw[b1A this.2.2]at this
  refine⟨this.1,?_⟩
  have h2:=this.2.1
  simpa[o8,nD]using h2
theorem Qx {l:L6} (h:(aP l).1=0) {i:Nat} {s:A8} (hs:l.2.2[i]? =some s) (d:Int):∀x∈mbS s d,0≤x∧x<nD (G9 l s):=by
 intro x hx
 unfold mbS at hx
 cases hq:inD (nD s) d <;> rw[hq]at hx
 ·simp at hx
 ·obtain⟨r,hr,_,h3⟩:=a2a.1 ((qY x _).1 hx)
  rcases List.mem_append.1 h3 with h3 | h3
  ·exact(zh h hs hr (.inl rfl)).2 x h3
  ·exact(zh h hs hr (.inr rfl)).2 x h3
theorem Xn {l:L6} {s:A8} {c:U8} {nS nM:List Bool} {e:E4} (h:EI l s c nS nM= .inr e):e.1≠0:=by
 unfold EI at h
 cases hm:mS l c (G9 l s) nM with
 | inr e=>rw[hm]at h;cases h;exact gY _ (fun r=>r.1≠0) Lm _ _ _ hm
 | inl b=>
  rw[hm]at h
  simp only at h
  cases hs:scS s (ig l s c b) (-1) nS with
  | inr r=>rw[hs]at h;cases h;exact xn hs
  | inl x=>rw[hs]at h;cases h
theorem a5Z {l:L6} {s:A8} {c:U8} {nS nM:List Bool} {x:DB×List DB} (h:EI l s c nS nM= .inl x):x.1.1.length=s.2.2.2.1.length∧x.1.2.length=s.2.2.2.1.length:=by
 unfold EI at h
 cases hm:mS l c (G9 l s) nM with
 | inr e=>rw[hm]at h;cases h
 | inl b=>
  rw[hm]at h
  simp only at h
  cases hs:scS s (ig l s c b) (-1) nS with
  | inr r=>rw[hs]at h;cases h
  | inl y=>rw[hs]at h;cases h;exact Be hs
theorem WV {l:L6} {k:Int} {c:U8} {d:Int} {s:A8} (h:(pV l k c true d).1=0) (hs:lat l.2.2 k=some s):0≤d∧d<nD s:=by
 unfold pV at h
 cases h0:ieq (aP l).1 0 <;> rw[h0]at h
 ·exact absurd (show(1:Int)=0 from h) (by decide)
 rw[hs]at h
 simp only[o6]at h
 cases h1:ilt d 0 <;> rw[h1]at h
 case true=>exact absurd (show(6:Int)=0 from h) (by decide)
 cases h2:ile (o8 s.2.2.2.1) d <;> rw[h2]at h
 case true=>exact absurd (show(6:Int)=0 from h) (by decide)
 rw[aV]at h1;rw[BF]at h2
 exact⟨h1,h2⟩
theorem oQ {α:Type} {l:List α} {d:Int} (a:α) (h0:0≤d) (h1:d<(l.length:Int)):lat l d=some (l.getD d.toNat a)∧I9 l (toN d)=some (l.getD d.toNat a):=by
 have h:d.toNat<l.length:=by omega
 have e:l[d.toNat]? =some (l.getD d.toNat a):=by rw[qh,Y8 h];rfl
 exact⟨by unfold lat;rw[if_pos h0];exact e,e⟩
def e1k (d:Int) (r:DB×List DB⊕E4):V3×Int×E4:=match r with
 | .inr e=>((0,0,0),0,e)
 | .inl x=>(x.1.1.getD d.toNat (0,0,0),x.1.2.getD d.toNat 0,0,0,0,0)
def a3X (l:L6) (s:A8) (c:U8) (d:Int):V3×Int×E4:=
 e1k d (EI l s c (yP s (X8 s.2.2.2.1.length) d) (lm (G9 l s) (X8 (G9 l s).2.2.2.1.length) (mbS s d)))
theorem iC (n:Nat):(X8 n).length=n:=by simp[X8]
theorem PW {l:L6} {k:Int} {c:U8} {d:Int} (hL:SmL l) (hC:SmC c) (hT:∀t∈l.2.1,ku t):
  lg l k c d=some (if(pV l k c true d).1=0 then(match lat l.2.2 k with | some s=>a3X l s c d | none=>((0,0,0),0,0,0,0,0))else((0,0,0),0,pV l k c true d)):=by
 unfold lg
 rw[Vb hL k hC,o7]
 by_cases hA:(pV l k c true d).1=0
 case neg=>rw[if_neg hA,E5 hA];rfl
 rw[if_pos hA,F5 hA]
 obtain⟨h,s,hs⟩:=pW hA
 obtain⟨h0,h1⟩:=WV hA hs
 have hM:=xy hL h hs
 have hS:=hL.sc s (V5 hs).2.2.1
 have hn:nD s=((s.2.2.2.1.length:Nat):Int):=rfl
 rw[hs]
 simp only[o9,o5]
 rw[Fv hL h hs,o7,TE hS hM (iC _) (iC _) h0 h1 (Qx h (V5 hs).2.2.2 d),o7,DD hS hM hC hT (by rw[rF,iC]) (by rw[wG,iC]),o7]
 unfold a3X
 cases hq:EI l s c (yP s (X8 s.2.2.2.1.length) d) (lm (G9 l s) (X8 (G9 l s).2.2.2.1.length) (mbS s d))with
 | inr e=>simp only[E5 (Xn hq)];rfl
 | inl x=>
  obtain⟨g1,g2⟩:=a5Z hq
  simp only[F5 (rfl:(0:Int)=0),o9,o5]
  rw[(oQ (0,0,0) h0 (by omega)).1,o7,(oQ 0 h0 (by omega)).1];rfl
theorem Yk {l:L6} {k:Int} {c:U8} {d:Int} (hL:SmL l) (hC:SmC c) (hT:∀t∈l.2.1,ku t):
  rC l k c d=some (if(pV l k c true d).1=0 then(match lat l.2.2 k with | some s=>a3X l s c d | none=>((0,0,0),0,0,0,0,0))else((0,0,0),0,pV l k c true d)):=by
 unfold rC
 rw[QP hL k hC,o7]
 by_cases hA:(pV l k c true d).1=0
 case neg=>rw[if_neg hA,E5 hA];rfl
 rw[if_pos hA,F5 hA]
 obtain⟨h,s,hs⟩:=pW hA
 obtain⟨h0,h1⟩:=WV hA hs
 have hM:=xy hL h hs
 have hS:=hL.sc s (V5 hs).2.2.1
 have hn:nD s=((s.2.2.2.1.length:Nat):Int):=rfl
 have hcm:=hC.nm
 simp only[o9,o5]
 rw[X7]
 unfold tC
 rw[hs,o7,pM s hS false,o7,Ef hS (by simp) h0 h1,o7,lq h hs,o7,pM (G9 l s) hM false,o7,Ba h hs hS hM (by simp) d (Qx h (V5 hs).2.2.2 d),o7,zx h hs hC.nm hM hT (by rw[wG];simp),o7]
 dsimp only
 unfold a3X EI X8
 cases hq:mS l c (G9 l s) (lm (G9 l s) (List.replicate (G9 l s).2.2.2.1.length false) (mbS s d))with
 | inr e=>simp only[E5 (gY _ (fun r=>r.1≠0) Lm _ _ _ hq)];rfl
 | inl b=>
  have hbl:=Fp hq
  simp only[F5 (rfl:(0:Int)=0),o9,o5]
  rw[VO c b h hs hM,o7,Au hS (ny hT s c (by omega)) (-1) (by rw[rF];simp),o7]
  cases hr:scS s (ig l s c b) (-1) (yP s (List.replicate s.2.2.2.1.length false) d)with
  | inr e=>simp only[E5 (xn hr)];rfl
  | inl x=>
   obtain⟨g1,g2⟩:=Be hr
   have k1:=oQ (l:=x.1) (0,0,0) h0 (by omega)
   have k2:=oQ (l:=x.2) 0 h0 (by omega)
   simp only[F5 (rfl:(0:Int)=0),o9,o5]
   rw[k1.1,o7,k1.2,o7,k2.1,o7,k2.2];rfl
theorem Ld {l:L6} (hW:WfL l) (k:Int) (c:U8) (d:Int):qO l k c d=some true:=by
 unfold qO
 rw[Gi,o7,ER]
 cases hl:smL l
 ·rfl
 cases hc:smC c
 ·rfl
 obtain⟨hL,hT⟩:=RF hl hW
 obtain⟨r,h1,h2⟩:∃r,lg l k c d=some r∧rC l k c d=some r:=⟨_,PW hL (IZ hc) hT,Yk hL (IZ hc) hT⟩
 rw[h1,h2]
 simp only[o6,o9,o5,o7,F5]
 rfl
theorem IM:∀x,Di Gt.ps6 x→(Gt.s6.fn x:Option Bool)=some true:=fun x h=>Ld (Zc h.1) x.2.1 x.2.2.1 x.2.2.2
end Go.GP
