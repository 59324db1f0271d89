import Derived.Test.YtpgdlhcmenjcgaaGreatDoorT5
set_option linter.all false
namespace Gt
open Go Go.GP
def il (y:Int):Bool:=if y % 4=0 then(if y % 100≠0 then true else decide (y % 400=0))else false
def ys (y:Int):Int:=(y -1900)*365+((y -1) / 4 -(y -1) / 100+(y -1) / 400) -460
def diy (y:Int):Int:=if il y then 366 else 365
theorem Ah (y:Int):ys (y+1)=ys y+diy y:=by
 unfold ys diy il
 by_cases h4:y % 4=0 <;> by_cases h100:y % 100=0 <;> by_cases h400:y % 400=0 <;> simp[h4,h100,h400] <;> omega
theorem FY (a b:Int):a<b∨b≤a:=by omega
theorem JM (y:Int):365≤diy y∧diy y≤366:=by unfold diy;split <;> omega
theorem jT {y y' :Int} (h:y≤y'):ys y≤ys y' :=by
 obtain⟨n,rfl⟩:∃n:Nat,y' =y+n:=⟨(y' -y).toNat,by omega⟩
 clear h
 induction n with
 | zero=>simp
 | succ n ih=>
  have:=Ah (y+n)
  have:=JM (y+n)
  have e:y+((n+1:Nat):Int)=y+n+1:=by omega
  rw[e];omega
theorem FW {y:Int} (h:1900≤y):0≤ys y:=by
 have:=jT h
 have e:ys 1900=0:=by decide+kernel
 omega
theorem a3y {y y' d:Int} (h1:ys y≤d) (h2:d<ys (y+1)) (h3:ys y' ≤d) (h4:d<ys (y' +1)):y=y' :=by
 rcases Int.lt_trichotomy y y' with h | h | h
 ·have:=jT (y:=y+1) (y' :=y') (by omega);omega
 ·exact h
 ·have:=jT (y:=y' +1) (y' :=y) (by omega);omega
def dim (y m:Int):Int:=
 if m=2 then(if il y then 29 else 28)else if m=4∨m=6∨m=9∨m=11 then 30 else 31
theorem uX (y m:Int):28≤dim y m∧dim y m≤31:=by
 unfold dim;repeat' split
 all_goals omega
theorem DZ {y:Int} (h:0≤y):zq y=some (il y):=by
 unfold zq il
 simp only[qo h]
 by_cases h4:y % 4=0
 ·rw[xn (F8 h4),if_pos h4]
  by_cases h100:y % 100=0
  ·simp[ieq,h100]
  ·simp[ieq,h100]
 ·rw[BU (F5 h4),if_neg h4]
theorem DC {y:Int} (h:0≤y):xH y=some (il y):=DZ h
theorem xk {y:Int} (h:0≤y):bF y=some (diy y):=by
 unfold bF diy
 rw[DC h,o7]
 cases il y <;> rfl
theorem m12 {m:Int} (h:1≤m∧m≤12):m=1∨m=2∨m=3∨m=4∨m=5∨m=6∨m=7∨m=8∨m=9∨m=10∨m=11∨m=12:=by omega
theorem kG {y m:Int} (h:0≤y) (hm:1≤m∧m≤12):bi y m=some (dim y m):=by
 unfold bi
 rcases m12 hm with rfl | rfl | rfl | rfl | rfl | rfl | rfl | rfl | rfl | rfl | rfl | rfl
 all_goals first | rfl | (rw[DZ h];unfold dim;cases il y <;> rfl)
theorem jK {y m:Int} (h:0≤y) (hm:1≤m∧m≤12):Y8 y m=some (dim y m):=by
 unfold Y8
 rcases m12 hm with rfl | rfl | rfl | rfl | rfl | rfl | rfl | rfl | rfl | rfl | rfl | rfl
 all_goals first | rfl | (rw[DC h];unfold dim;cases il y <;> rfl)
theorem zt {y:Int} (h:0≤y) (h2:y≤1000000):nT y=some (y / 4 -y / 100+y / 400):=by
 unfold nT
 simp only[V5,aC h]
 rw[dZ (by unfold I64;omega),dZ (by unfold I64;omega),dZ (by unfold I64;omega),I5 (by unfold I64;omega),J6 (by unfold I64;omega)]
theorem sZ {y:Int} (h:1≤y) (h2:y≤1000000):iR y=some (ys y):=by
 unfold iR
 have e1:G5 .i64 y 1900=y -1900:=I5 (by unfold I64;omega)
 have e2:L9 .i64 (y -1900) 365=(y -1900)*365:=dL (by unfold I64;omega)
 rw[I5 (a:=y) (b:=1) (by unfold I64;omega),zt (by omega) (by omega),o7,zt (by omega) (by omega),o7,e1,e2,J6 (by unfold I64;omega),I5 (by unfold I64;omega)]
 unfold ys
 congr 1
def mo (y:Int):Nat→Int→Int×Int
 | 0,d=>(d,13)
 | n+1,d=>if d<dim y (12 -n)then(d,12 -n)else mo y n (d -dim y (12 -n))
theorem a0w (y:Int) (n:Nat) (d:Int):mo y (n+1) d=if d<dim y (12 -(n:Int))then(d,12 -(n:Int))else mo y n (d -dim y (12 -(n:Int))):=rfl
def rem (y:Int):Nat→Int
 | 0=>0
 | n+1=>dim y (12 -n)+rem y n
theorem a5G (y:Int):rem y 12=diy y:=by
 unfold diy
 cases h:il y <;> simp[rem,dim,h]
theorem a4H (y:Int):∀(n:Nat) (d:Int),n≤12→0≤d→d<rem y n→1≤(mo y n d).2∧(mo y n d).2≤12∧0≤(mo y n d).1∧(mo y n d).1<dim y (mo y n d).2
 | 0,d,_,h0,h=>by simp[rem]at h;omega
 | n+1,d,hn,h0,h=>by
  unfold mo
  by_cases hd:d<dim y (12 -n)
  ·rw[if_pos hd];refine⟨?_,?_,h0,hd⟩ <;> simp <;> omega
  ·rw[if_neg hd]
   refine a4H y n _ (by omega) (by omega) ?_
   simp only[rem]at h;omega
def yOf (d:Int):Int:=((((List.range 300).find? (fun(k:Nat)=>decide (d<ys (1900+(k:Int)+1)))).getD 0:Nat):Int)+1900
theorem Jw {d:Int} (h0:0≤d) (h:d≤109572):1900≤yOf d∧yOf d≤2199∧ys (yOf d)≤d∧d<ys (yOf d+1):=by
 unfold yOf
 cases hf:(List.range 300).find? (fun(k:Nat)=>decide (d<ys (1900+(k:Int)+1)))with
 | none=>
  have:=List.find?_eq_none.1 hf 299 (by simp)
  simp only[decide_eq_true_eq]at this
  have e:ys (1900+(299:Nat)+1)=109573:=by decide+kernel
  omega
 | some k=>
  have h1:=List.find?_some hf
  simp only[decide_eq_true_eq]at h1
  have h2:=List.mem_of_find?_eq_some hf
  simp only[List.mem_range]at h2
  simp only[Option.getD_some]
  refine⟨by omega,by omega,?_,?_⟩
  ·cases k with
   | zero=>
    have e:ys 1900=0:=by decide+kernel
    simp[e,h0]
   | succ j=>
    have h3:=List.find?_range_eq_some.1 hf
    have h4:=h3.2.2 j (by omega)
    simp only[Bool.not_eq_true',decide_eq_false_iff_not,Int.not_lt]at h4
    have e:(((j+1:Nat):Int)+1900)=1900+(j:Int)+1:=by omega
    rw[e];exact h4
  ·have e:(k:Int)+1900+1=1900+k+1:=by omega
   rw[e];exact h1
def ymd (d:Int):Int×Int×Int:=let y:=yOf d;let r:=mo y 12 (d -ys y);(y,r.2,r.1+1)
theorem vU {d:Int} (h0:0≤d) (h:d≤109572):nR d=some (ymd d):=by
 obtain⟨y1,y2,y3,y4⟩:=Jw h0 h
 have y0:=FW y1
 unfold nR nU
 rw[xn (G7 h0),o7,G7 h,x8,o5]
 have e0:x9 .i64 1900 (V5 .i64 d 366)=1900+d / 366:=by
  have e:V5 .i64 d 366=d / 366:=by rw[tV (by rw[aC h0];unfold I64;omega),aC h0]
  rw[e,J6 (by unfold I64;omega)]
 rw[e0]
 obtain⟨y,hy,hq⟩:=Z5 (f:=fun(x:Int)=>l9 (iR (x9 IntKind.i64 x 1)) fun(x_1:Int)=>l7 (ile x_1 d) (some (Sum.inl (x9 IntKind.i64 x 1))) (some (Sum.inr x))) (s:=1900+d / 366)
  (fun y=>1900≤y∧y≤yOf d) (fun y=>y=yOf d) (fun y=>(2200 -y).toNat) (by
   refine⟨by omega,?_⟩
   have e:∀n:Nat,ys (1900+n)≤366*n:=by
    intro n
    induction n with
    | zero=>decide+kernel
    | succ n ih=>
     have:=Ah (1900+n)
     have:=JM (1900+n)
     have e:(1900:Int)+((n+1:Nat):Int)=1900+n+1:=by omega
     rw[e];omega
   have e1:=e (d / 366).toNat
   have e2:((d / 366).toNat:Int)=d / 366:=by omega
   rw[e2]at e1
   rcases FY (yOf d) (1900+d / 366)with hlt | hge
   ·have:=jT (y:=yOf d+1) (y' :=1900+d / 366) (by omega)
    omega
   ·exact hge) (by omega) (by
   intro y ⟨hy1,hy2⟩
   try simp only
   rw[J6 (by unfold I64;omega),sZ (by omega) (by omega),o7]
   by_cases hle:ys (y+1)≤d
   ·refine .inl ⟨y+1,by rw[xn (G7 hle)],⟨by omega,?_⟩,by omega⟩
    rcases FY (yOf d) (y+1)with hlt | hge
    ·have:=jT (y:=yOf d+1) (y' :=y+1) (by omega)
     omega
    ·exact hge
   ·refine .inr ⟨y,by rw[BU (G8 (by omega))],?_⟩
    rcases FY y (yOf d)with hlt | hge
    ·have:=jT (y:=y+1) (y' :=yOf d) (by omega)
     omega
    ·omega)
 rw[hy,o7,hq,sZ (by omega) (by omega),o7,I5 (by unfold I64;omega)]
 have hs:=Ah (yOf d)
 have hr:=a5G (yOf d)
 rcases lM (f:=fun(x:Int×Int)=>l7 (ilt x.2 12) (l9 (bi (yOf d) (x9 IntKind.i64 x.2 1)) fun(x_1:Int)=>l7 (ilt x.1 x_1) (some (Out.rt (yOf d,x9 IntKind.i64 x.2 1,x9 IntKind.i64 x.1 1))) (some (Out.nx (G5 IntKind.i64 x.1 x_1,x9 IntKind.i64 x.2 1)))) (some (Out.ex PUnit.unit))) (s:=(d -ys (yOf d),0))
  (fun s=>∃n:Nat,n≤12∧s.2=12 -n∧mo (yOf d) n s.1=mo (yOf d) 12 (d -ys (yOf d))∧0≤s.1∧s.1<rem (yOf d) n∧s.1≤400) (fun _=>False) (fun r=>r=ymd d) (fun s=>(12 -s.2).toNat)
  ⟨12,by omega,by simp,rfl,by omega,by rw[hr];show d -ys (yOf d)<_;omega,by have:=JM (yOf d);show d -ys (yOf d)≤400;omega⟩ (by simp) (by
   rintro⟨r,i⟩ ⟨n,hn,hi,hm,hr0,hrn,hr4⟩
   simp only at hi hm hr0 hrn hr4 ⊢
   cases n with
   | zero=>simp[rem]at hrn;omega
   | succ n=>
    have ei:i+1=12 -n:=by omega
    rw[xn (F6 (by omega)),J6 (by unfold I64;omega),ei,kG (by omega) (by omega),o7]
    have hb:=uX (yOf d) (12 -n)
    rw[a0w (yOf d) n r]at hm
    by_cases hlt:r<dim (yOf d) (12 -n)
    ·rw[if_pos hlt]at hm
     refine .inr (.inr ⟨_,by rw[xn (F6 hlt)],?_⟩)
     rw[J6 (by unfold I64;omega)]
     unfold ymd
     try simp only
     rw[←hm]
    ·rw[if_neg hlt]at hm
     refine .inl ⟨_,by rw[BU (E8 (by omega)),I5 (by unfold I64;omega)],⟨n,by omega,by simp,hm,?_,?_,?_⟩,?_⟩
     ·simp;omega
     ·simp only[rem]at hrn ⊢;omega
     ·simp;omega
     ·simp;omega)with⟨_,_,hf⟩ | ⟨r,he,hr⟩
 ·exact hf.elim
 ·rw[he,o7,H7,hr]
theorem EC {d:Int} (h0:0≤d) (h:d≤109572):sJ d=some (ymd d):=by
 obtain⟨y1,y2,y3,y4⟩:=Jw h0 h
 have y0:=FW y1
 unfold sJ lF
 rw[xn (G7 h0),o7,G7 h,x8,o5]
 obtain⟨⟨r,y⟩,hy,hq⟩:=Z5 (f:=fun(x:Int×Int)=>l9 (bF x.2) fun(x_1:Int)=>l7 (ile x_1 x.1) (l9 (bF x.2) fun(x_2:Int)=>some (Sum.inl (G5 IntKind.i64 x.1 x_2,x9 IntKind.i64 x.2 1))) (some (Sum.inr x))) (s:=(d,1900))
  (fun s=>1900≤s.2∧s.2≤yOf d∧s.1=d -ys s.2) (fun s=>s=(d -ys (yOf d),yOf d)) (fun s=>(2200 -s.2).toNat)
  ⟨by simp,by simpa using y1,by(have e:ys 1900=0:=by decide+kernel);simp[e]⟩ (by simp) (by
   rintro⟨r,y⟩ ⟨h1,h2,h3⟩
   simp only at h1 h2 h3 ⊢
   have hb:=JM y
   have hs:=Ah y
   have hm:=jT h2
   have hpos:0≤ys y:=by
     have:=jT (y:=1900) (y' :=y) h1;have e:ys 1900=0:=by decide+kernel
     omega
   rw[xk (by omega),o7]
   by_cases hle:diy y≤r
   ·refine .inl ⟨(r -diy y,y+1),?_,⟨by simp;omega,?_,?_⟩,?_⟩
    ·rw[xn (G7 hle),o7,I5 (by unfold I64;omega),J6 (by unfold I64;omega)]
    ·simp only
     rcases FY (yOf d) (y+1)with hlt | hge
     ·have:=jT (y:=yOf d+1) (y' :=y+1) (by omega)
      omega
     ·exact hge
    ·simp only;omega
    ·simp;omega
   ·refine .inr ⟨_,by rw[BU (G8 (by omega))],?_⟩
    have e:y=yOf d:=a3y (d:=d) (by omega) (by omega) y3 y4
    subst e
    rw[h3])
 rw[hy,o7,hq]
 try simp only
 have hs:=Ah (yOf d)
 have hr:=a5G (yOf d)
 obtain⟨⟨r,m⟩,he,hq2⟩:=Z5 (f:=fun(x:Int×Int)=>l9 (Y8 (yOf d) x.2) fun(x_1:Int)=>l7 (ile x_1 x.1) (l9 (Y8 (yOf d) x.2) fun(x_2:Int)=>some (Sum.inl (G5 IntKind.i64 x.1 x_2,x9 IntKind.i64 x.2 1))) (some (Sum.inr x))) (s:=(d -ys (yOf d),1))
  (fun s=>∃n:Nat,n≤12∧s.2=13 -n∧mo (yOf d) n s.1=mo (yOf d) 12 (d -ys (yOf d))∧0≤s.1∧s.1<rem (yOf d) n∧s.1≤400) (fun s=>s=mo (yOf d) 12 (d -ys (yOf d))) (fun s=>(13 -s.2).toNat)
  ⟨12,by omega,by simp,rfl,by omega,by rw[hr];show d -ys (yOf d)<_;omega,by have:=JM (yOf d);show d -ys (yOf d)≤400;omega⟩ (by simp) (by
   rintro⟨r,i⟩ ⟨n,hn,hi,hm,hr0,hrn,hr4⟩
   simp only at hi hm hr0 hrn hr4 ⊢
   cases n with
   | zero=>simp[rem]at hrn;omega
   | succ n=>
    have ei:i=12 -n:=by omega
    subst ei
    rw[jK (by omega) (by omega),o7]
    have hb:=uX (yOf d) (12 -n)
    rw[a0w (yOf d) n r]at hm
    by_cases hlt:r<dim (yOf d) (12 -n)
    ·rw[if_pos hlt]at hm
     exact .inr ⟨_,by rw[BU (G8 (by omega))],hm⟩
    ·rw[if_neg hlt]at hm
     refine .inl ⟨(r -dim (yOf d) (12 -n),12 -n+1),by rw[xn (G7 (by omega)),o7,I5 (by unfold I64;omega),J6 (by unfold I64;omega)],⟨n,by omega,by simp;omega,hm,?_,?_,?_⟩,?_⟩
     ·simp;omega
     ·simp only[rem]at hrn ⊢;omega
     ·simp;omega
     ·simp;omega)
 rw[he,o7,hq2]
 have hb:=a4H (yOf d) 12 (d -ys (yOf d)) (by omega) (by omega) (by rw[hr];omega)
 have hb2:=uX (yOf d) (mo (yOf d) 12 (d -ys (yOf d))).2
 rw[J6 (by unfold I64;omega)]
 rfl
theorem Fb {d:Int} (h0:0≤d) (h:d≤109572):1900≤(ymd d).1∧(ymd d).1≤2199∧1≤(ymd d).2.1∧(ymd d).2.1≤12∧1≤(ymd d).2.2∧(ymd d).2.2≤31:=by
 obtain⟨y1,y2,y3,y4⟩:=Jw h0 h
 have y0:=FW y1
 have hs:=Ah (yOf d)
 have hb:=a4H (yOf d) 12 (d -ys (yOf d)) (by omega) (by omega) (by rw[a5G];omega)
 have hb2:=uX (yOf d) (mo (yOf d) 12 (d -ys (yOf d))).2
 unfold ymd
 try simp only
 omega
end Gt
namespace Go.GP
open Gt
set_option maxRecDepth 100000
def lN (y:Int):Nat→Int
 | 0=>0
 | k+1=>lN y k+dim y ((k:Int)+1)
def VE (y m d:Int):Int:=ys y+lN y (m -1).toNat+d -1
theorem IW (y:Int):∀k:Nat,k≤12→28*k≤lN y k∧lN y k≤31*k
 | 0,_=>by simp[lN]
 | k+1,h=>by
  have:=IW y k (by omega)
  have:=uX y ((k:Int)+1)
  unfold lN;omega
theorem a2v (y:Int):lN y 12=diy y:=by
 unfold lN lN lN lN lN lN lN lN lN lN lN lN lN dim diy
 simp
 cases il y <;> simp
theorem a0x (y:Int):∀j k:Nat,j≤k→lN y j≤lN y k
 | j,0,h=>by
   have:j=0:=by omega
   subst this;omega
 | j,k+1,h=>by
  by_cases hq:j=k+1
  ·subst hq;omega
  ·have:=a0x y j k (by omega)
   have:=uX y ((k:Int)+1)
   show lN y j≤lN y k+dim y ((k:Int)+1)
   omega
theorem a8z {y m d:Int} (hm:1≤m∧m≤12) (h1:1≤d) (h2:d≤dim y m):ys y≤VE y m d∧VE y m d<ys (y+1):=by
 have h3:=a0x y ((m -1).toNat+1) 12 (by omega)
 rw[a2v]at h3
 have h4:lN y ((m -1).toNat+1)=lN y (m -1).toNat+dim y m:=by
  show lN y (m -1).toNat+dim y (((m -1).toNat:Int)+1)=_
  rw[Int.toNat_of_nonneg (by omega)]
  congr 2;omega
 have h5:=IW y (m -1).toNat (by omega)
 have h6:=Ah y
 unfold VE
 omega
theorem a7Z {y:Int} (h:1900≤y) (h2:y≤2200):0≤ys y∧ys y≤109573:=by
 have h1:=FW h
 have h3:=jT h2
 have:ys 2200=109573:=by decide
 omega
theorem Yf {y m d:Int} (hy:1900≤y∧y≤2199) (hm:1≤m∧m≤12) (h1:1≤d) (h2:d≤dim y m):xu y m d=some (VE y m d,0):=by
 have hyb:=a7Z hy.1 (by omega)
 have hdb:=uX y m
 unfold xu
 rw[E8 hy.1,o5,E8 hy.2,o5,E8 hm.1,o5,E8 hm.2,o5,E8 h1,o5,kG (by omega) hm,o7,E8 h2,o5,o7,D5,sZ (by omega) (by omega),o7]
 have hs:G5 .i64 m 1=m -1:=I5 (by unfold I64;omega)
 obtain⟨e,k1,k2⟩:=Z5 (f:=fun(x:Int×Int)=>l7 (ilt x.2 (G5 .i64 m 1)) (l9 (bi y (x9 .i64 x.2 1)) fun(x_1:Int)=>some (.inl (x9 .i64 x.1 x_1,x9 .i64 x.2 1))) (some (.inr x.1)))
  (s:=(ys y,0)) (fun x=>∃i:Nat,x=(ys y+lN y i,(i:Int))∧(i:Int)≤m -1) (fun e=>e=ys y+lN y (m -1).toNat) (fun x=>(m -1 -x.2).toNat) ⟨0,by simp[lN],by omega⟩ (by simp;omega) (by
  rintro x ⟨i,rfl,hi⟩
  simp only[hs]
  by_cases hlt:(i:Int)<m -1
  ·have hb:=IW y i (by omega)
   have hd:=uX y ((i:Int)+1)
   left
   refine⟨(ys y+lN y (i+1),((i+1:Nat):Int)),?_,⟨i+1,rfl,by omega⟩,by simp;omega⟩
   rw[F6 hlt,o6,O8 (by omega),show(((i+1:Nat):Int))=(i:Int)+1 by omega,kG (by omega) (by omega),o7,J6 (by unfold I64;omega)]
   simp only[lN]
   rw[Int.add_assoc]
  ·right
   have:i=(m -1).toNat:=by omega
   subst this
   exact⟨_,by rw[E8 (by omega)];rfl,rfl⟩)
 refine(dh k1 _).trans ?_
 have hb:=IW y (m -1).toNat (by omega)
 rw[k2,J6 (by unfold I64;omega),I5 (by unfold I64;omega)];rfl
theorem WR {y m d:Int} (hy:1900≤y∧y≤2199) (hm:1≤m∧m≤12) (h1:1≤d) (h2:d≤dim y m):mO y m d=some (VE y m d,0):=by
 have hyb:=a7Z hy.1 (by omega)
 have hdb:=uX y m
 unfold mO
 rw[E8 hy.1,o5,E8 hy.2,o5,E8 h1,o5,jK (by omega) hm,o7,E8 h2,o5,o7,D5,I5 (by unfold I64;omega)]
 obtain⟨e,k1,k2⟩:=Z5 (f:=fun(x:Int×Int)=>l7 (ilt x.2 y) (l9 (bF x.2) fun(x_1:Int)=>some (.inl (x9 .i64 x.1 x_1,x9 .i64 x.2 1))) (some (.inr x.1)))
  (s:=(d -1,1900)) (fun x=>∃i:Int,x=(d -1+ys i,i)∧1900≤i∧i≤y) (fun e=>e=d -1+ys y) (fun x=>(y -x.2).toNat) ⟨1900,by simp[show ys 1900=0 by decide],by omega,by omega⟩ (by simp;omega) (by
  rintro x ⟨i,rfl,hi,hi2⟩
  by_cases hlt:i<y
  ·left
   have hb:=a7Z hi (by omega)
   have hd:=JM i
   refine⟨(d -1+ys (i+1),i+1),?_,⟨i+1,rfl,by omega,by omega⟩,by simp;omega⟩
   simp only
   rw[F6 hlt,o6,xk (by omega),o7,J6 (by unfold I64;omega),J6 (by unfold I64;omega),Ah,Int.add_assoc]
  ·right
   have:i=y:=by omega
   subst this
   exact⟨_,by simp only[E8 (show i≤i by omega)];rfl,rfl⟩)
 refine(dh k1 _).trans ?_
 subst k2
 obtain⟨e,k1,k2⟩:=Z5 (f:=fun(x:Int×Int)=>l7 (ilt x.2 m) (l9 (Y8 y x.2) fun(x_1:Int)=>some (.inl (x9 .i64 x.1 x_1,x9 .i64 x.2 1))) (some (.inr x.1)))
  (s:=(d -1+ys y,1)) (fun x=>∃i:Nat,x=(d -1+ys y+lN y i,(i:Int)+1)∧(i:Int)≤m -1) (fun e=>e=d -1+ys y+lN y (m -1).toNat) (fun x=>(m -x.2).toNat) ⟨0,by simp[lN],by omega⟩ (by simp;omega) (by
  rintro x ⟨i,rfl,hi⟩
  by_cases hlt:(i:Int)+1<m
  ·have hb:=IW y i (by omega)
   have hd:=uX y ((i:Int)+1)
   left
   refine⟨(d -1+ys y+lN y (i+1),((i+1:Nat):Int)+1),?_,⟨i+1,rfl,by omega⟩,by simp;omega⟩
   simp only
   rw[F6 hlt,o6,jK (by omega) (by omega),o7,J6 (by unfold I64;omega),J6 (by unfold I64;omega)]
   simp only[lN]
   rw[Int.add_assoc (d -1+ys y)];simp
  ·right
   have:i=(m -1).toNat:=by omega
   subst this
   exact⟨_,by simp only[E8 (show m≤((m -1).toNat:Int)+1 by omega)];rfl,rfl⟩)
 refine(dh k1 _).trans ?_
 rw[k2];unfold VE
 rw[show d -1+ys y+lN y (m -1).toNat=ys y+lN y (m -1).toNat+d -1 by omega]
def a1R (d n:Int):Int×Int:=
 if ¬(0≤d∧d≤109572)∨n< -3600∨3600<n then(0,3)else
  if((ymd d).1 -1900)*12+(ymd d).2.1 -1+n<0∨3599<((ymd d).1 -1900)*12+(ymd d).2.1 -1+n then(0,3)else
   (VE (1900+(((ymd d).1 -1900)*12+(ymd d).2.1 -1+n) / 12) ((((ymd d).1 -1900)*12+(ymd d).2.1 -1+n) % 12+1) (eX (ymd d).2.2 (dim (1900+(((ymd d).1 -1900)*12+(ymd d).2.1 -1+n) / 12) ((((ymd d).1 -1900)*12+(ymd d).2.1 -1+n) % 12+1))),0)
theorem Fz (a b:Int):eX a b=if b<a then b else a:=rfl
theorem Ii (d n:Int):kN d n=some (a1R d n):=by
 unfold kN nU a1R
 by_cases h0:0≤d∧d≤109572
 case neg=>
  rw[if_pos (.inl h0)]
  by_cases h1:0≤d
  ·rw[G7 h1,G8 (by omega)];rfl
  ·rw[G8 (by omega)];rfl
 rw[G7 h0.1,G7 h0.2,o6,o7,x8,o5]
 by_cases h1:n< -3600
 ·rw[F6 h1,if_pos (.inr (.inl h1))];rfl
 by_cases h2:3600<n
 ·rw[E8 (by omega),F6 h2,if_pos (.inr (.inr h2))];rfl
 rw[E8 (by omega),E8 (by omega),if_neg (by omega),o5,o5,o7,D5,vU h0.1 h0.2,o7]
 obtain⟨b1,b2,b3,b4,b5,b6⟩:=Fb h0.1 h0.2
 generalize ymd d=q at*
 obtain⟨y,m,dd⟩:=q
 simp only at b1 b2 b3 b4 b5 b6 ⊢
 have e1:G5 .i64 y 1900=y -1900:=I5 (by unfold I64;omega)
 have e2:L9 .i64 (y -1900) 12=(y -1900)*12:=dL (by unfold I64;omega)
 have e3:x9 .i64 ((y -1900)*12) m=(y -1900)*12+m:=J6 (by unfold I64;omega)
 have e4:G5 .i64 ((y -1900)*12+m) 1=(y -1900)*12+m -1:=I5 (by unfold I64;omega)
 have e5:x9 .i64 ((y -1900)*12+m -1) n=(y -1900)*12+m -1+n:=J6 (by unfold I64;omega)
 rw[e1,e2,e3,e4,e5]
 generalize ht:(y -1900)*12+m -1+n=t
 by_cases t0:t<0
 ·rw[F6 t0,if_pos (.inl t0)];rfl
 by_cases t1:3599<t
 ·rw[E8 (by omega),F6 t1,if_pos (.inr t1)];rfl
 rw[E8 (by omega),E8 (by omega),if_neg (by omega),o5,o5]
 have e6:V5 .i64 t 12=t / 12:=by rw[tV (by rw[aC (by omega)];unfold I64;omega),aC (by omega)]
 have e7:V6 t 12=t % 12:=qo (by omega)
 have e8:x9 .i64 1900 (t / 12)=1900+t / 12:=J6 (by unfold I64;omega)
 have e9:x9 .i64 (t % 12) 1=t % 12+1:=J6 (by unfold I64;omega)
 rw[e6,e7,e8,e9,kG (by omega) (by omega),o7]
 have hd:=uX (1900+t / 12) (t % 12+1)
 rw[Yf (by omega) (by omega) (by rw[Fz];split <;> omega) (by rw[Fz];split <;> omega)];rfl
theorem Gw (d n:Int):eH d n=some (a1R d n):=by
 unfold eH lF a1R
 by_cases h0:0≤d∧d≤109572
 case neg=>
  rw[if_pos (.inl h0)]
  by_cases h1:0≤d
  ·rw[G7 h1,G8 (by omega)];rfl
  ·rw[G8 (by omega)];rfl
 rw[G7 h0.1,G7 h0.2,o6,o7,x8,o5]
 by_cases h1:n< -3600
 ·rw[F6 h1,if_pos (.inr (.inl h1))];rfl
 by_cases h2:3600<n
 ·rw[E8 (by omega),F6 h2,if_pos (.inr (.inr h2))];rfl
 rw[E8 (by omega),E8 (by omega),if_neg (by omega),o5,o5,o7,D5,EC h0.1 h0.2,o7]
 obtain⟨b1,b2,b3,b4,b5,b6⟩:=Fb h0.1 h0.2
 generalize ymd d=q at*
 obtain⟨y,m,dd⟩:=q
 simp only at b1 b2 b3 b4 b5 b6 ⊢
 have e2:L9 .i64 12 y=12*y:=dL (by unfold I64;omega)
 have e3:x9 .i64 (12*y) m=12*y+m:=J6 (by unfold I64;omega)
 have e4:G5 .i64 (12*y+m) 1=12*y+m -1:=I5 (by unfold I64;omega)
 have e5:x9 .i64 (12*y+m -1) n=12*y+m -1+n:=J6 (by unfold I64;omega)
 rw[e2,e3,e4,e5]
 generalize ht:(y -1900)*12+m -1+n=t
 have hk:12*y+m -1+n=t+22800:=by omega
 rw[hk]
 have e6:V5 .i64 (t+22800) 12=1900+t / 12:=by rw[tV (by rw[aC (by omega)];unfold I64;omega),aC (by omega)];omega
 have e7:V6 (t+22800) 12=t % 12:=by rw[qo (by omega)];omega
 have e9:x9 .i64 (t % 12) 1=t % 12+1:=J6 (by unfold I64;omega)
 rw[e6,e7,e9,jK (by omega) (by omega),o7]
 have hd:=uX (1900+t / 12) (t % 12+1)
 by_cases t0:t<0
 ·rw[if_pos (.inl t0)]
  unfold mO
  rw[F6 (show 1900+t / 12<1900 by omega)];rfl
 by_cases t1:3599<t
 ·rw[if_pos (.inr t1)]
  unfold mO
  rw[E8 (show 1900≤1900+t / 12 by omega),F6 (show 2199<1900+t / 12 by omega)];rfl
 rw[if_neg (by omega),WR (by omega) (by omega) (by rw[Fz];split <;> omega) (by rw[Fz];split <;> omega)];rfl
def yrl (a k:Int):Int:=VE ((ymd a).1+k) (ymd a).2.1 (eX (ymd a).2.2 (dim ((ymd a).1+k) (ymd a).2.1))
theorem QW {a:Int} (h0:0≤a∧a≤109572) {k:Int} (hk:0≤k) (hk2:k≤300):a1R a (12*k)=if(ymd a).1+k≤2199 then(yrl a k,0)else(0,3):=by
 obtain⟨b1,b2,b3,b4,b5,b6⟩:=Fb h0.1 h0.2
 unfold a1R yrl
 rw[if_neg (by omega)]
 generalize ymd a=q at*
 obtain⟨y,m,dd⟩:=q
 simp only at b1 b2 b3 b4 b5 b6 ⊢
 have e1:1900+((y -1900)*12+m -1+12*k) / 12=y+k:=by omega
 have e2:((y -1900)*12+m -1+12*k) % 12+1=m:=by omega
 by_cases h:y+k≤2199
 ·rw[if_neg (by omega),if_pos h,e1,e2]
 ·rw[if_pos (by omega),if_neg h]
theorem a7Y {a:Int} (h0:0≤a∧a≤109572) (k:Int):ys ((ymd a).1+k)≤yrl a k∧yrl a k<ys ((ymd a).1+k+1):=by
 obtain⟨b1,b2,b3,b4,b5,b6⟩:=Fb h0.1 h0.2
 have hd:=uX ((ymd a).1+k) (ymd a).2.1
 unfold yrl
 exact a8z ⟨b3,b4⟩ (by rw[Fz];split <;> omega) (by rw[Fz];split <;> omega)
theorem Jy {a:Int} (h0:0≤a∧a≤109572):ys (ymd a).1≤a∧a<ys ((ymd a).1+1):=by
 have:=Jw h0.1 h0.2
 exact⟨this.2.2.1,this.2.2.2⟩
def Ve (a b:Int):Int:=if 0≤a∧a≤109572∧0≤b∧b≤109572∧a≤b then
  (if(ymd b).1 -(ymd a).1≤0 then 0 else if yrl a ((ymd b).1 -(ymd a).1)≤b then(ymd b).1 -(ymd a).1 else(ymd b).1 -(ymd a).1 -1)else 0
theorem Nb (a b:Int):gK a b=some (Ve a b):=by
 unfold gK nU Ve
 by_cases ha0:0≤a
 case neg=>rw[G8 (by omega),if_neg (by omega)];rfl
 by_cases ha1:a≤109572
 case neg=>rw[G7 ha0,G8 (by omega),if_neg (by omega)];rfl
 rw[G7 ha0,G7 ha1,o6,o7,x8,o5]
 by_cases hb0:0≤b
 case neg=>rw[G8 (by omega),if_neg (by omega)];rfl
 by_cases hb1:b≤109572
 case neg=>rw[G7 hb0,G8 (by omega),if_neg (by omega)];rfl
 rw[G7 hb0,G7 hb1,o6,o7,x8,o5]
 by_cases hab:a≤b
 case neg=>rw[F6 (by omega),if_neg (by omega)];rfl
 rw[E8 hab,o5,if_pos ⟨ha0,ha1,hb0,hb1,hab⟩,vU ha0 ha1,o7,vU hb0 hb1,o7]
 obtain⟨p1,p2,_,_,_,_⟩:=Fb ha0 ha1
 obtain⟨q1,q2,_,_,_,_⟩:=Fb hb0 hb1
 have ya:=Jy ⟨ha0,ha1⟩
 have yb:=Jy ⟨hb0,hb1⟩
 have hK:0≤(ymd b).1 -(ymd a).1:=by
  rcases FY (ymd b).1 (ymd a).1 with h | h
  ·have:=jT (show(ymd b).1+1≤(ymd a).1 by omega);omega
  ·omega
 rw[I5 (show I64 ((ymd b).1 -(ymd a).1) by unfold I64;omega)]
 have hle:(ymd a).1+((ymd b).1 -(ymd a).1)≤2199:=by omega
 generalize (ymd b).1 -(ymd a).1=K at*
 rw[dL (show I64 (12*K) by unfold I64;omega),Ii,o7,QW ⟨ha0,ha1⟩ hK (by omega),if_pos hle]
 simp only[F8 (rfl:(0:Int)=0),x8,o5]
 rw[I5 (show I64 (K -1) by unfold I64;omega)]
 have im:∀x:Int,fO x 0=if x<0 then 0 else x:=fun x=>rfl
 by_cases hz:K≤0
 ·have:K=0:=by omega
  subst this
  rw[if_pos (by omega)]
  cases ilt b (yrl a 0) <;> rfl
 ·rw[if_neg hz]
  by_cases hq:yrl a K≤b
  ·rw[if_pos hq,E8 hq,o5,im,if_neg (by omega)]
  ·rw[if_neg hq,F6 (by omega),o6,im,if_neg (by omega)]
theorem KA (a b:Int):iV a b=some (Ve a b):=by
 unfold iV lF Ve
 by_cases ha0:0≤a
 case neg=>rw[G8 (by omega),if_neg (by omega)];rfl
 by_cases ha1:a≤109572
 case neg=>rw[G7 ha0,G8 (by omega),if_neg (by omega)];rfl
 rw[G7 ha0,G7 ha1,o6,o7,x8,o5]
 by_cases hb0:0≤b
 case neg=>rw[G8 (by omega),if_neg (by omega)];rfl
 by_cases hb1:b≤109572
 case neg=>rw[G7 hb0,G8 (by omega),if_neg (by omega)];rfl
 rw[G7 hb0,G7 hb1,o6,o7,x8,o5]
 obtain⟨p1,p2,_,_,_,_⟩:=Fb ha0 ha1
 obtain⟨q1,q2,_,_,_,_⟩:=Fb hb0 hb1
 have ya:=Jy ⟨ha0,ha1⟩
 have yb:=Jy ⟨hb0,hb1⟩
 have key:=lM (f:=fun(x:Int)=>l9 (eH a (L9 .i64 12 (x9 .i64 x 1))) fun(x_1:Int×Int)=>l7 (D6 (ieq x_1.2 0)) (some (.rt x)) (l7 (ilt b x_1.1) (some (.rt x)) (some (.nx (x9 .i64 x 1)))))
  (s:=0) (fun x=>0≤x∧(x=0∨(x≤(ymd b).1 -(ymd a).1∧yrl a x≤b))) (fun(_:PUnit)=>False) (fun r=>r=(if a≤b then(if(ymd b).1 -(ymd a).1≤0 then 0 else if yrl a ((ymd b).1 -(ymd a).1)≤b then(ymd b).1 -(ymd a).1 else(ymd b).1 -(ymd a).1 -1)else 0)) (fun x=>(300 -x).toNat) ⟨by omega,.inl rfl⟩ (by simp) (by
  rintro x ⟨hx0,hx⟩
  have hx300:x≤299:=by omega
  rw[J6 (show I64 (x+1) by unfold I64;omega),dL (show I64 (12*(x+1)) by unfold I64;omega),Gw,o7,QW ⟨ha0,ha1⟩ (by omega) (by omega)]
  have hyb:=a7Y ⟨ha0,ha1⟩ (x+1)
  have hyx:=a7Y ⟨ha0,ha1⟩ x
  have hmono:ys ((ymd a).1+x+1)≤ys ((ymd a).1+(x+1)):=jT (by omega)
  have hax:a<yrl a (x+1):=by
   have:=jT (show(ymd a).1+1≤(ymd a).1+(x+1) by omega)
   omega
  by_cases hq:(ymd a).1+(x+1)≤2199∧yrl a (x+1)≤b
  ·left
   obtain⟨hq1,hq2⟩:=hq
   have hK:x+1≤(ymd b).1 -(ymd a).1:=by
    rcases FY (ymd b).1 ((ymd a).1+(x+1))with h | h
    ·have:=jT (show(ymd b).1+1≤(ymd a).1+(x+1) by omega);omega
    ·omega
   refine⟨x+1,?_,⟨by omega,.inr ⟨hK,hq2⟩⟩,by omega⟩
   rw[if_pos hq1]
   simp only[F8 (rfl:(0:Int)=0),x8,o5,E8 hq2]
  ·right;right
   refine⟨x,?_,?_⟩
   ·by_cases hq1:(ymd a).1+(x+1)≤2199
    ·rw[if_pos hq1]
     simp only[F8 (rfl:(0:Int)=0),x8,o5,F6 (show b<yrl a (x+1) by omega),o6]
    ·rw[if_neg hq1];rfl
   ·by_cases hab:a≤b
    case neg=>
     rw[if_neg hab]
     by_cases hx1:x=0
     ·exact hx1
     ·exfalso
      have:=jT (show(ymd a).1+1≤(ymd a).1+x by omega)
      omega
    rw[if_pos hab]
    have hK:0≤(ymd b).1 -(ymd a).1:=by
     rcases FY (ymd b).1 (ymd a).1 with h | h
     ·have:=jT (show(ymd b).1+1≤(ymd a).1 by omega);omega
     ·omega
    have hxK:x≤(ymd b).1 -(ymd a).1:=by omega
    by_cases hxe:x=(ymd b).1 -(ymd a).1
    ·by_cases hz:(ymd b).1 -(ymd a).1≤0
     ·rw[if_pos hz];omega
     ·rw[if_neg hz]
      rcases hx with hx | hx
      ·omega
      ·rw[←hxe,if_pos hx.2]
    ·have hlt:x+1≤(ymd b).1 -(ymd a).1:=by omega
     rw[if_neg (by omega)]
     have hyr:(ymd a).1+(x+1)≤2199:=by omega
     have hgt:b<yrl a (x+1):=by
      have:=fun h=>hq ⟨hyr,h⟩
      omega
     have heq:x+1=(ymd b).1 -(ymd a).1:=by
      rcases FY (x+1) ((ymd b).1 -(ymd a).1)with h | h
      ·have:=jT (show(ymd a).1+(x+1)+1≤(ymd b).1 by omega);omega
      ·omega
     rw[←heq,if_neg (by omega)];omega)
 rcases key with⟨e,_,h⟩ | ⟨r,k1,k2⟩
 ·exact h.elim
 ·refine(dh k1 _).trans ?_
  rw[k2]
  by_cases hab:a≤b
  ·rw[if_pos hab,if_pos (show 0≤a∧a≤109572∧0≤b∧b≤109572∧a≤b from⟨ha0,ha1,hb0,hb1,hab⟩)];rfl
  ·rw[if_neg hab,if_neg (by omega)];rfl
def a0o:List UInt8:=(List.range 256).map fun n=>UInt8.ofNat (if n=0 then 0 else Nat.log2 n+1)
theorem a4z:∀n:Fin 256,∃k:Fin 9,a0o[n.val]? =some (UInt8.ofNat k.val)∧n.val<2^k.val∧(0<n.val→0<k.val∧2^(k.val -1)≤n.val):=by decide+kernel
def a1P (n:Int) (k:Nat):Prop:=n<2^k∧(0<n→0<k∧2^(k -1)≤n)
theorem a9U {n:Int} (h0:0≤n) (h:n<256):wrap .u8 n=n:=by
 unfold wrap IntKind.wrap
 simp[IntKind.signed,IntKind.bits]
 omega
theorem a8H {n:Int} (h0:0≤n) (h:n<256):∃k:Nat,k≤8∧sat a0o (wrap .u8 n)=some (k:Int)∧a1P n k:=by
 rw[a9U h0 h]
 obtain⟨k,k1,k2,k3⟩:=a4z ⟨n.toNat,by omega⟩
 refine⟨k.val,by omega,?_,?_,fun hp=>?_⟩
 ·unfold sat
  rw[if_pos h0]
  simp only at k1
  rw[k1]
  simp
  have:=k.isLt
  omega
 ·simp only at k2
  have:((n.toNat:Nat):Int)<((2^k.val:Nat):Int):=by omega
  rw[Int.toNat_of_nonneg h0,Int.natCast_pow]at this
  exact this
 ·simp only at k3
  obtain⟨a,b⟩:=k3 (by omega)
  refine⟨a,?_⟩
  have:((2^(k.val -1):Nat):Int)≤((n.toNat:Nat):Int):=by omega
  rw[Int.toNat_of_nonneg h0,Int.natCast_pow]at this
  exact this
theorem IL {n:Int} {k:Nat} (hk:k≤64):jY .u64 n (k:Int)=n / 2^k:=by
 unfold jY
 rw[Int.toNat_natCast,show IntKind.bits .u64=64 from rfl,show min k 64=k by omega]
 exact Int.fdiv_eq_ediv_of_nonneg _ (Int.pow_nonneg (by omega))
theorem a1P.shift {n:Int} {j k:Nat} (h:a1P (n / 2^j) k) (hn:2^j≤n):a1P n (j+k):=by
 have hp:(0:Int)<2^j:=Int.pow_pos (by omega)
 have h1:0<n / 2^j:=by have:=Int.le_ediv_of_mul_le hp (show 1*2^j≤n by omega);omega
 obtain⟨a,b⟩:=h
 obtain⟨b1,b2⟩:=b h1
 have hdm:=Int.mul_ediv_add_emod n (2^j)
 have hm:=Int.emod_lt_of_pos n hp
 have hm0:=Int.emod_nonneg n (show(2:Int)^j≠0 by omega)
 refine⟨?_,fun _=>⟨by omega,?_⟩⟩
 ·have:(2:Int)^j*(n / 2^j+1)≤2^j*2^k:=Int.mul_le_mul_of_nonneg_left (by omega) (by omega)
  rw[Int.mul_add,Int.mul_one]at this
  rw[Int.pow_add];omega
 ·have:(2:Int)^j*2^(k -1)≤2^j*(n / 2^j):=Int.mul_le_mul_of_nonneg_left b2 (by omega)
  rw[show j+k -1=j+(k -1) by omega,Int.pow_add];omega
theorem a4y:([0,1,2,2,3,3,3,3,4,4,4,4,4,4,4,4,5,5,5,5,5,5,5,5,5,5,5,5,5,5,5,5,6,6,6,6,6,6,6,6,6,6,6,6,6,6,6,6,6,6,
  6,6,6,6,6,6,6,6,6,6,6,6,6,6,7,7,7,7,7,7,7,7,7,7,7,7,7,7,7,7,7,7,7,7,7,7,7,7,7,7,7,7,7,7,7,7,7,7,7,7,
  7,7,7,7,7,7,7,7,7,7,7,7,7,7,7,7,7,7,7,7,7,7,7,7,7,7,7,7,8,8,8,8,8,8,8,8,8,8,8,8,8,8,8,8,8,8,8,8,8,8,
  8,8,8,8,8,8,8,8,8,8,8,8,8,8,8,8,8,8,8,8,8,8,8,8,8,8,8,8,8,8,8,8,8,8,8,8,8,8,8,8,8,8,8,8,8,8,8,8,8,8,
  8,8,8,8,8,8,8,8,8,8,8,8,8,8,8,8,8,8,8,8,8,8,8,8,8,8,8,8,8,8,8,8,8,8,8,8,8,8,8,8,8,8,8,8,8,8,8,8,8,8,
  8,8,8,8,8,8]:List UInt8)=a0o:=by decide+kernel
theorem gp {n:Int} (h0:0≤n) (h:n≤1000):wrap .i64 n=n:=dZ (by unfold I64;omega)
theorem Dy {a b:Int} (h0:0≤a) (h1:a≤1000) (h2:0≤b) (h3:b≤1000):x9 .i64 a b=a+b:=J6 (by unfold I64;omega)
theorem a4x {n:Int} (h0:0≤n) (h:n<18446744073709551616):∃k:Nat,k≤64∧qU n=some (k:Int)∧a1P n k:=by
 have s32:∀m:Int,jY .u64 m 32=m / 2^32:=fun m=>IL (k:=32) (by omega)
 have s16:∀m:Int,jY .u64 m 16=m / 2^16:=fun m=>IL (k:=16) (by omega)
 have s8:∀m:Int,jY .u64 m 8=m / 2^8:=fun m=>IL (k:=8) (by omega)
 unfold qU
 rw[a4y,s32,s16,s16,s8,s8,s8,s8]
 have ow:∀(m:Int) (a:Int) (K:Nat),0≤m→m<256→a=(K:Int)→K≤56→∀(g:Int→Int),(∀x,0≤x→x≤8→g x=a+x)→∃k:Nat,k≤8∧(l9 (sat a0o (wrap .u8 m)) fun(x:Int)=>some (g x))=some (((K+k:Nat):Int))∧a1P m k:=by
  intro m a K m0 m1 ha hK g hg
  obtain⟨k,k1,k2,k3⟩:=a8H m0 m1
  refine⟨k,k1,?_,k3⟩
  rw[k2,o7,hg _ (by omega) (by omega),ha];simp
 by_cases c32:4294967296≤n
 ·rw[G7 c32,o6]
  by_cases c16:65536≤n / 2^32
  ·rw[G7 c16,o6]
   by_cases c8:256≤n / 2^32 / 2^16
   ·rw[G7 c8,o6]
    obtain⟨k,k1,k2,k3⟩:=ow (n / 2^32 / 2^16 / 2^8) 56 56 (by omega) (by omega) rfl (by omega) (fun x=>x9 .i64 (x9 .i64 (x9 .i64 32 16) 8) (wrap .i64 x)) (fun x x0 x1=>by
     rw[gp x0 (by omega),show x9 .i64 (x9 .i64 32 16) 8=56 by decide,Dy (by omega) (by omega) (by omega) (by omega)])
    exact⟨56+k,by omega,k2,by have:=((k3.shift (j:=8) (by omega)).shift (j:=16) (by omega)).shift (j:=32) (by omega);rw[show 32+(16+(8+k))=56+k by omega]at this;exact this⟩
   ·rw[G8 (by omega),o5]
    obtain⟨k,k1,k2,k3⟩:=ow (n / 2^32 / 2^16) 48 48 (by omega) (by omega) rfl (by omega) (fun x=>x9 .i64 (x9 .i64 32 16) (wrap .i64 x)) (fun x x0 x1=>by
     rw[gp x0 (by omega),Dy (a:=32) (by omega) (by omega) (by omega) (by omega),Dy (by omega) (by omega) (by omega) (by omega)];rfl)
    exact⟨48+k,by omega,k2,by have:=(k3.shift (j:=16) (by omega)).shift (j:=32) (by omega);rw[show 32+(16+k)=48+k by omega]at this;exact this⟩
  ·rw[G8 (by omega),o5]
   by_cases c8:256≤n / 2^32
   ·rw[G7 c8,o6]
    obtain⟨k,k1,k2,k3⟩:=ow (n / 2^32 / 2^8) 40 40 (by omega) (by omega) rfl (by omega) (fun x=>x9 .i64 (x9 .i64 32 8) (wrap .i64 x)) (fun x x0 x1=>by
     rw[gp x0 (by omega),Dy (a:=32) (by omega) (by omega) (by omega) (by omega),Dy (by omega) (by omega) (by omega) (by omega)];rfl)
    exact⟨40+k,by omega,k2,by have:=(k3.shift (j:=8) (by omega)).shift (j:=32) (by omega);rw[show 32+(8+k)=40+k by omega]at this;exact this⟩
   ·rw[G8 (by omega),o5]
    obtain⟨k,k1,k2,k3⟩:=ow (n / 2^32) 32 32 (by omega) (by omega) rfl (by omega) (fun x=>x9 .i64 32 (wrap .i64 x)) (fun x x0 x1=>by
     rw[gp x0 (by omega),Dy (by omega) (by omega) (by omega) (by omega)])
    exact⟨32+k,by omega,k2,k3.shift (j:=32) (by omega)⟩
 ·rw[G8 (by omega),o5]
  by_cases c16:65536≤n
  ·rw[G7 c16,o6]
   by_cases c8:256≤n / 2^16
   ·rw[G7 c8,o6]
    obtain⟨k,k1,k2,k3⟩:=ow (n / 2^16 / 2^8) 24 24 (by omega) (by omega) rfl (by omega) (fun x=>x9 .i64 (x9 .i64 (x9 .i64 0 16) 8) (wrap .i64 x)) (fun x x0 x1=>by
     rw[gp x0 (by omega),show x9 .i64 (x9 .i64 0 16) 8=24 by decide,Dy (by omega) (by omega) (by omega) (by omega)])
    exact⟨24+k,by omega,k2,by have:=(k3.shift (j:=8) (by omega)).shift (j:=16) (by omega);rw[show 16+(8+k)=24+k by omega]at this;exact this⟩
   ·rw[G8 (by omega),o5]
    obtain⟨k,k1,k2,k3⟩:=ow (n / 2^16) 16 16 (by omega) (by omega) rfl (by omega) (fun x=>x9 .i64 (x9 .i64 0 16) (wrap .i64 x)) (fun x x0 x1=>by
     rw[gp x0 (by omega),Dy (a:=0) (by omega) (by omega) (by omega) (by omega),Dy (by omega) (by omega) (by omega) (by omega)];rfl)
    exact⟨16+k,by omega,k2,k3.shift (j:=16) (by omega)⟩
  ·rw[G8 (by omega),o5]
   by_cases c8:256≤n
   ·rw[G7 c8,o6]
    obtain⟨k,k1,k2,k3⟩:=ow (n / 2^8) 8 8 (by omega) (by omega) rfl (by omega) (fun x=>x9 .i64 (x9 .i64 0 8) (wrap .i64 x)) (fun x x0 x1=>by
     rw[gp x0 (by omega),Dy (a:=0) (by omega) (by omega) (by omega) (by omega),Dy (by omega) (by omega) (by omega) (by omega)];rfl)
    exact⟨8+k,by omega,k2,k3.shift (j:=8) (by omega)⟩
   ·rw[G8 (by omega),o5]
    obtain⟨k,k1,k2,k3⟩:=ow n 0 0 (by omega) (by omega) rfl (by omega) (fun x=>x9 .i64 0 (wrap .i64 x)) (fun x x0 x1=>by
     rw[gp x0 (by omega),Dy (by omega) (by omega) (by omega) (by omega)])
    exact⟨0+k,by omega,k2,by rw[Nat.zero_add];exact k3⟩
theorem xe {n:Int} (h0:0≤n) (h:n<18446744073709551616):IntKind.wrap .u64 n=n:=a7X (by unfold U64;omega)
theorem qI (n:Int):IntKind.wrap .u64 n=n % 18446744073709551616:=by
 unfold IntKind.wrap
 simp[IntKind.signed,IntKind.bits]
def Yy {σ ε:Type} (f:σ→Option (σ⊕ε)) (m:Nat) (o:Option (σ⊕ε)):Option ε:=match o with
 | some (.inl s')=>ku f m s'
 | some (.inr e)=>some e
 | none=>none
theorem a2t {σ ε:Type} (f:σ→Option (σ⊕ε)) (m:Nat) (s:σ):ku f (m+1) s=Yy f m (f s):=by
 rw[ku];unfold Yy
 cases f s with
 | none=>rfl
 | some o=>cases o <;> rfl
theorem Oe {σ:Type} (mkp:Int→Int→σ) {f:σ→Option (σ⊕Int)} {y1 y0 U d:Int} (hy1:2147483648≤y1) (hy1' :y1<4294967296) (hy0:0≤y0) (hy0' :y0<4294967296) (hU:0≤U) (hUY:U<y1*4294967296+y0) (hd:0≤d) (hd' :d<4294967296)
  (hf:∀q r,0≤q→q≤4294967297→0≤r→r<4294967296→f (mkp q r)=l7 (ile 4294967296 q) (l7 (ile 4294967296 (x9 .u64 r y1)) (some (.inr (G5 .u64 q 1))) (some (.inl (mkp (G5 .u64 q 1) (x9 .u64 r y1)))))
   (l7 (ilt (x9 .u64 (L9 .u64 4294967296 r) d) (L9 .u64 q y0)) (l7 (ile 4294967296 (x9 .u64 r y1)) (some (.inr (G5 .u64 q 1))) (some (.inl (mkp (G5 .u64 q 1) (x9 .u64 r y1))))) (some (.inr q)))):
  ∃Q,P5 f (mkp (U / y1) (U -U / y1*y1))=some Q∧0≤Q∧Q<4294967296∧Q*(y1*4294967296+y0)≤U*4294967296+d∧U*4294967296+d<(Q+1)*(y1*4294967296+y0):=by
 obtain⟨Y,hY⟩:∃Y,Y=y1*4294967296+y0:=⟨_,rfl⟩
 have hYe:∀q:Int,q*Y=q*y1*4294967296+q*y0:=fun q=>by rw[hY,Int.mul_add,←Int.mul_assoc]
 have hq0:0≤U / y1:=Int.ediv_nonneg hU (by omega)
 have hdm:=Int.ediv_mul_add_emod U y1
 have hm0:=Int.emod_nonneg U (show y1≠0 by omega)
 have hm1:=Int.emod_lt_of_pos U (show 0<y1 by omega)
 have hqB:U / y1≤4294967297:=by
  rcases FY 4294967297 (U / y1)with h | h
  ·have:=Int.mul_le_mul_of_nonneg_right (show 4294967298≤U / y1 by omega) (show 0≤y1 by omega)
   omega
  ·exact h
 obtain⟨n,hn⟩:∃n,n=(U / y1).toNat+1:=⟨_,rfl⟩
 have key:∀(n:Nat) (q r:Int),0≤q→q≤4294967297→0≤r→r<4294967296→U=q*y1+r→U*4294967296+d<(q+1)*Y→q.toNat<n→∀m,n≤m→∃Q,ku f m (mkp q r)=some Q∧0≤Q∧Q<4294967296∧Q*Y≤U*4294967296+d∧U*4294967296+d<(Q+1)*Y:=by
  intro n
  induction n with
  | zero=>intro q r _ _ _ _ _ _ h;omega
  | succ n ih=>
   intro q r q0 qB r0 rB hUq hlt hqn m hm
   obtain⟨m,rfl⟩:∃m',m=m' +1:=⟨m -1,by omega⟩
   rw[a2t,hf q r q0 qB r0 rB]
   have e1:=hYe q
   have e2:(q+1)*Y=q*Y+Y:=by rw[Int.add_mul,Int.one_mul]
   have hry:x9 .u64 r y1=r+y1:=xe (by omega) (by omega)
   have g0:0≤q*y0:=Int.mul_nonneg q0 hy0
   have less:U*4294967296+d<q*Y→1≤q∧G5 .u64 q 1=q -1∧U=(q -1)*y1+(r+y1)∧(q -1+1)*Y=q*Y∧(q -1)*Y=q*Y -Y∧(q -1)*y0=q*y0 -y0:=by
    intro hgt
    have hq1:1≤q:=by
     rcases FY q 1 with h | h
     ·have:q=0:=by omega
      subst this;simp at hgt;omega
     ·exact h
    refine⟨hq1,xe (by omega) (by omega),?_,?_,?_,?_⟩
    ·rw[Int.sub_mul,Int.one_mul];omega
    ·rw[show q -1+1=q by omega]
    ·rw[Int.sub_mul,Int.one_mul]
    ·rw[Int.sub_mul,Int.one_mul]
   have dec:U*4294967296+d<q*Y→∃Q,Yy f m (l7 (ile 4294967296 (r+y1)) (some (Sum.inr (G5 .u64 q 1))) (some (Sum.inl (mkp (G5 .u64 q 1) (r+y1)))))=some Q∧0≤Q∧Q<4294967296∧Q*Y≤U*4294967296+d∧U*4294967296+d<(Q+1)*Y:=by
    intro hgt
    obtain⟨l1,l2,l3,l4,l5,l6⟩:=less hgt
    rw[l2]
    by_cases hr:4294967296≤r+y1
    ·rw[G7 hr]
     have h6:(q -1)*y0≤4294967296*y0:=Int.mul_le_mul_of_nonneg_right (by omega) hy0
     have h7:=hYe (q -1)
     have hle:(q -1)*Y≤U*4294967296+d:=by rw[h7,l3];omega
     refine⟨q -1,rfl,by omega,?_,hle,by rw[l4];exact hgt⟩
     rcases FY (q -1) 4294967296 with h | h
     ·exact h
     ·have:=Int.mul_le_mul_of_nonneg_right h (show 0≤Y by omega)
      omega
    ·rw[G8 (by omega)]
     exact ih (q -1) (r+y1) (by omega) (by omega) (by omega) (by omega) l3 (by rw[l4];exact hgt) (by omega) m (by omega)
   by_cases hqb:4294967296≤q
   ·rw[G7 hqb,o6,hry]
    have:=Int.mul_le_mul_of_nonneg_right hqb (show 0≤Y by omega)
    exact dec (by omega)
   ·rw[G8 (by omega),o5,hry]
    have g1:q*y0≤4294967295*y0:=Int.mul_le_mul_of_nonneg_right (by omega) hy0
    have m1:L9 .u64 4294967296 r=4294967296*r:=xe (by omega) (by omega)
    have m2:x9 .u64 (4294967296*r) d=4294967296*r+d:=xe (by omega) (by omega)
    have m3:L9 .u64 q y0=q*y0:=xe g0 (by omega)
    rw[m1,m2,m3]
    by_cases hc:4294967296*r+d<q*y0
    ·rw[F6 hc,o6]
     exact dec (by rw[e1];omega)
    ·rw[E8 (by omega),o5]
     exact⟨q,rfl,q0,by omega,by rw[e1];omega,hlt⟩
 rw[←hY]
 refine key n (U / y1) (U -U / y1*y1) hq0 hqB (by omega) (by omega) (by omega) ?_ (by omega) bK (by unfold bK;omega)
 have e1:=hYe (U / y1)
 rw[Int.add_mul,Int.one_mul,e1]
 have:=Int.mul_nonneg hq0 hy0
 omega
theorem Ip {n:Int} (h0:0≤n) (h:n<18446744073709551616):(BitVec.ofInt 64 n).toNat=n.toNat:=by
 rw[BitVec.toNat_ofInt]
 have e:((2^64:Nat):Int)=18446744073709551616:=rfl
 rw[e,Int.emod_eq_of_lt h0 h]
theorem RN {n:Int} (h0:0≤n) (h:n<18446744073709551616):VU .u64 n 4294967295=n % 4294967296:=by
 unfold VU
 rw[show IntKind.bits .u64=64 from rfl,BitVec.toNat_and,Ip h0 h,Ip (by decide) (by decide)]
 rw[show(4294967295:Int).toNat=2^32 -1 from rfl,Nat.and_two_pow_sub_one_eq_mod]
 rw[xe (by omega) (by omega)];omega
theorem a8F {a c:Int} {s:Nat} (ha0:0≤a) (hc0:0≤c) (hc:c<2^s) (h:a*2^s+c<18446744073709551616):ior .u64 (a*2^s) c=a*2^s+c:=by
 have hp:(0:Int)<2^s:=Int.pow_pos (by omega)
 have hap:0≤a*2^s:=Int.mul_nonneg ha0 (by omega)
 unfold ior
 rw[show IntKind.bits .u64=64 from rfl,BitVec.toNat_or,Ip hap (by omega),Ip hc0 (by omega)]
 obtain⟨m,rfl⟩:∃m:Nat,a=(m:Int):=⟨a.toNat,by omega⟩
 obtain⟨k,rfl⟩:∃k:Nat,c=(k:Int):=⟨c.toNat,by omega⟩
 have hk:k<2^s:=by exact_mod_cast hc
 have e1:((m:Int)*2^s).toNat=m<<<s:=by
  rw[Nat.shiftLeft_eq]
  have:((m:Int)*2^s)=((m*2^s:Nat):Int):=by rw[Int.natCast_mul,Int.natCast_pow];rfl
  rw[this];rfl
 rw[e1,Int.toNat_natCast,←Nat.shiftLeft_add_eq_or_of_lt hk,Nat.shiftLeft_eq]
 have e2:((m*2^s+k:Nat):Int)=(m:Int)*2^s+(k:Int):=by rw[Int.natCast_add,Int.natCast_mul,Int.natCast_pow];rfl
 rw[e2]
 exact xe (by omega) h
theorem VD (a b c d:Int):G5 .u64 (x9 .u64 (L9 .u64 a 4294967296) b) (L9 .u64 c d)=(a*4294967296+b -c*d) % 18446744073709551616:=by
 unfold G5 x9 L9
 rw[qI,qI,qI,qI]
 generalize c*d=z
 omega
theorem c6Z {y:Int} (h0:0<y) (h:y<18446744073709551616):∃s:Nat,s≤63∧fP y=some (s:Int)∧9223372036854775808≤y*2^s∧y*2^s<18446744073709551616:=by
 obtain⟨k,k1,k2,k3,k4⟩:=a4x (n:=y) (by omega) h
 obtain⟨k5,k6⟩:=k4 h0
 refine⟨64 -k,by omega,?_,?_,?_⟩
 ·unfold fP
  rw[k2,o7,I5 (by unfold I64;omega)]
  congr 1;omega
 ·have:=Int.mul_le_mul_of_nonneg_right k6 (show(0:Int)≤2^(64 -k)from Int.pow_nonneg (by omega))
  rw[←Int.pow_add,show k -1+(64 -k)=63 by omega]at this
  exact this
 ·have:=Int.mul_lt_mul_of_pos_right k3 (show(0:Int)<2^(64 -k)from Int.pow_pos (by omega))
  rw[←Int.pow_add,show k+(64 -k)=64 by omega]at this
  exact this
theorem FB {a b:Int} (ha:0≤a) (ha' :a<18446744073709551616) (hb:0<b):fH .u64 a b=some (a / b):=by
 unfold fH
 rw[if_neg (by omega),aC ha]
 have h1:=Int.ediv_nonneg ha (show 0≤b by omega)
 have h2:=Int.ediv_le_self b ha
 rw[xe h1 (by omega)]
theorem rZ {a b:Int} (ha:0≤a) (hb:0<b):qf a b=some (a % b):=by
 unfold qf
 rw[if_neg (by omega)]
 congr 1
 exact qo ha
theorem Og {hi lo y:Int} (h0:0≤hi) (h1:hi<y) (hy:y<18446744073709551616) (l0:0≤lo) (l1:lo<18446744073709551616):
  eF hi lo y=some ((hi*18446744073709551616+lo) / y,(hi*18446744073709551616+lo) % y):=by
 unfold eF
 rw[F5 (show y≠0 by omega),o5,o7,G8 h1,o5,o7]
 by_cases hz:hi=0
 ·subst hz
  rw[F8 rfl,o6,FB l0 l1 (by omega),o7,rZ l0 (by omega),o7];simp
 rw[F5 hz,o5]
 obtain⟨s,s1,s2,s3,s4⟩:=c6Z (y:=y) (by omega) hy
 rw[s2,o7,show wrap .u64 ((s:Nat):Int)=(s:Int)from xe (by omega) (by omega),show G5 .u64 64 (s:Int)=((64 -s:Nat):Int) by unfold G5;rw[xe (by omega) (by omega)];omega]
 have hshl:∀v:Int,OJ .u64 v (s:Int)=some ((v*2^s) % 18446744073709551616):=fun v=>by
  unfold OJ a4r
  rw[if_neg (by omega),Int.toNat_natCast,show IntKind.bits .u64=64 from rfl,show min s 64=s by omega,qI]
 have hshr:∀(v:Int) (k:Nat),k≤64→OL .u64 v (k:Int)=some (v / 2^k):=fun v k hk=>by
  unfold OL
  rw[if_neg (by omega),IL hk]
 rw[hshl,o7,hshl,o7,hshr _ _ (by omega),o7,hshl,o7]
 have hpp:(2:Int)^s*2^(64 -s)=18446744073709551616:=by rw[←Int.pow_add,show s+(64 -s)=64 by omega];rfl
 have hp:(0:Int)<2^s:=Int.pow_pos (by omega)
 have hp' :(0:Int)<2^(64 -s):=Int.pow_pos (by omega)
 have hcb:lo / 2^(64 -s)<2^s:=Int.ediv_lt_of_lt_mul hp' (by rw[hpp];exact l1)
 have hc0:0≤lo / 2^(64 -s):=Int.ediv_nonneg l0 (by omega)
 have hcd:=Int.ediv_mul_add_emod lo (2^(64 -s))
 have he0:=Int.emod_nonneg lo (show(2:Int)^(64 -s)≠0 by omega)
 have he1:=Int.emod_lt_of_pos lo hp'
 have hioP:∀a c:Int,0≤a→0≤c→c<2^s→a*2^s+c<18446744073709551616→ior .u64 (a*2^s) c=a*2^s+c:=fun a c a0 c0 c1 h=>a8F a0 c0 c1 h
 have hshrs:∀v:Int,OL .u64 v (s:Int)=some (v / 2^s):=fun v=>hshr v s (by omega)
 generalize (2:Int)^s=p at*
 generalize (2:Int)^(64 -s)=p' at*
 generalize lo / p' =c at*
 generalize lo % p' =e at*
 have hlop:lo*p=c*18446744073709551616+e*p:=by
  rw[←hcd,Int.add_mul,Int.mul_assoc,Int.mul_comm p' p,hpp]
 have hep0:0≤e*p:=Int.mul_nonneg he0 (by omega)
 have hep1:e*p<18446744073709551616:=by
  have:=Int.mul_lt_mul_of_pos_right he1 hp
  rw[Int.mul_comm p' p,hpp]at this;exact this
 rw[show(lo*p) % 18446744073709551616=e*p by omega]
 have hhp0:0≤hi*p:=Int.mul_nonneg h0 (by omega)
 have hhp1:hi*p≤y*p -p:=by
  have:=Int.mul_le_mul_of_nonneg_right (show hi≤y -1 by omega) (show 0≤p by omega)
  rw[Int.sub_mul,Int.one_mul]at this;exact this
 rw[show(y*p) % 18446744073709551616=y*p by omega,show(hi*p) % 18446744073709551616=hi*p by omega,hioP hi c h0 hc0 hcb (by omega)]
 have hN:(hi*18446744073709551616+lo)*p=(hi*p+c)*18446744073709551616+e*p:=by
  rw[Int.add_mul,hlop,Int.mul_right_comm];omega
 have hsh32:∀v:Int,jY .u64 v 32=v / 4294967296:=fun v=>IL (k:=32) (by omega)
 rw[hsh32,hsh32,RN (by omega) s4,RN hep0 hep1]
 obtain⟨Y,hY⟩:∃Y,Y=y*p:=⟨_,rfl⟩
 obtain⟨N,hNN⟩:∃N,N=hi*18446744073709551616+lo:=⟨_,rfl⟩
 rw[←hNN]at hN ⊢
 rw[←hY]at s3 s4 hhp1 ⊢
 generalize hU:hi*p+c=U at*
 generalize e*p=E at*
 have hUY:U<Y:=by omega
 have hU0:0≤U:=by omega
 obtain⟨Q1,q1,q2,q3,q4,q5⟩:=Oe (σ:=Int×Int) (fun q r=>(q,r)) (y1:=Y / 4294967296) (y0:=Y % 4294967296) (U:=U) (d:=E / 4294967296) (by omega) (by omega) (by omega) (by omega) hU0 (by omega) (by omega) (by omega)
  (f:=fun(x:Int×Int)=>l7 (ile 4294967296 x.1) (l7 (ile 4294967296 (x9 .u64 x.2 (Y / 4294967296))) (some (.inr (G5 .u64 x.1 1))) (some (.inl (G5 .u64 x.1 1,x9 .u64 x.2 (Y / 4294967296))))) (l7 (ilt (x9 .u64 (L9 .u64 4294967296 x.2) (E / 4294967296)) (L9 .u64 x.1 (Y % 4294967296))) (l7 (ile 4294967296 (x9 .u64 x.2 (Y / 4294967296))) (some (.inr (G5 .u64 x.1 1))) (some (.inl (G5 .u64 x.1 1,x9 .u64 x.2 (Y / 4294967296))))) (some (.inr x.1))))
  (fun q r _ _ _ _=>rfl)
 have hYe:Y / 4294967296*4294967296+Y % 4294967296=Y:=by omega
 rw[hYe]at q4 q5
 have hst:∀V:Int,0≤V→V<Y→G5 .u64 V (L9 .u64 (V / (Y / 4294967296)) (Y / 4294967296))=V -V / (Y / 4294967296)*(Y / 4294967296):=fun V v0 v1=>by
  have a1:=Int.ediv_mul_add_emod V (Y / 4294967296)
  have a2:=Int.emod_nonneg V (show Y / 4294967296≠0 by omega)
  have a3:=Int.emod_lt_of_pos V (show 0<Y / 4294967296 by omega)
  have a4:=Int.mul_nonneg (Int.ediv_nonneg v0 (show 0≤Y / 4294967296 by omega)) (show 0≤Y / 4294967296 by omega)
  rw[show L9 .u64 (V / (Y / 4294967296)) (Y / 4294967296)=V / (Y / 4294967296)*(Y / 4294967296)from xe a4 (by omega)]
  exact xe (by omega) (by omega)
 rw[FB hU0 (by omega) (by omega),o7,hst U hU0 hUY]
 refine(dh q1 _).trans ?_
 rw[VD]
 have hA1:(Q1+1)*Y=Q1*Y+Y:=by rw[Int.add_mul,Int.one_mul]
 rw[hA1]at q5
 obtain⟨A1,hAA⟩:∃A1,A1=Q1*Y:=⟨_,rfl⟩
 rw[←hAA]at q4 q5 ⊢
 rw[show(U*4294967296+E / 4294967296 -A1) % 18446744073709551616=U*4294967296+E / 4294967296 -A1 by omega]
 generalize hV:U*4294967296+E / 4294967296 -A1=V at*
 have hV0:0≤V:=by omega
 have hVY:V<Y:=by omega
 obtain⟨Q0,r1,r2,r3,r4,r5⟩:=Oe (σ:=Int×Int) (fun q r=>(r,q)) (y1:=Y / 4294967296) (y0:=Y % 4294967296) (U:=V) (d:=E % 4294967296) (by omega) (by omega) (by omega) (by omega) hV0 (by omega) (by omega) (by omega)
  (f:=fun(x:Int×Int)=>l7 (ile 4294967296 x.2) (l7 (ile 4294967296 (x9 .u64 x.1 (Y / 4294967296))) (some (.inr (G5 .u64 x.2 1))) (some (.inl (x9 .u64 x.1 (Y / 4294967296),G5 .u64 x.2 1)))) (l7 (ilt (x9 .u64 (L9 .u64 4294967296 x.1) (E % 4294967296)) (L9 .u64 x.2 (Y % 4294967296))) (l7 (ile 4294967296 (x9 .u64 x.1 (Y / 4294967296))) (some (.inr (G5 .u64 x.2 1))) (some (.inl (x9 .u64 x.1 (Y / 4294967296),G5 .u64 x.2 1)))) (some (.inr x.2))))
  (fun q r _ _ _ _=>rfl)
 rw[hYe]at r4 r5
 rw[FB hV0 (by omega) (by omega),o7,hst V hV0 hVY]
 refine(dh r1 _).trans ?_
 rw[VD]
 have hA0:(Q0+1)*Y=Q0*Y+Y:=by rw[Int.add_mul,Int.one_mul]
 rw[hA0]at r5
 have hQY:(Q1*4294967296+Q0)*Y=A1*4294967296+Q0*Y:=by rw[Int.add_mul,Int.mul_right_comm,←hAA]
 generalize Q0*Y=A0 at*
 rw[show(V*4294967296+E % 4294967296 -A0) % 18446744073709551616=V*4294967296+E % 4294967296 -A0 by omega,hshrs,o7]
 rw[show L9 .u64 Q1 4294967296=Q1*4294967296 from xe (by omega) (by omega),show x9 .u64 (Q1*4294967296) Q0=Q1*4294967296+Q0 from xe (by omega) (by omega)]
 generalize hQ:Q1*4294967296+Q0=Q at*
 have hR:V*4294967296+E % 4294967296 -A0=(N -Q*y)*p:=by
  rw[Int.sub_mul,Int.mul_assoc,←hY,hQY,hN];omega
 rw[hR]
 have hge:0≤N -Q*y:=by
  rcases FY (N -Q*y) 0 with h | h
  ·have:=Int.mul_le_mul_of_nonneg_right (show N -Q*y≤-1 by omega) (show 0≤p by omega)
   omega
  ·exact h
 have hlt:N -Q*y<y:=by
  rcases FY (N -Q*y) y with h | h
  ·exact h
  ·have:=Int.mul_le_mul_of_nonneg_right h (show 0≤p by omega)
   omega
 have hq:N / y=Q:=by
  have e1:N=(N -Q*y)+Q*y:=by omega
  rw[e1,Int.add_mul_ediv_right _ _ (by omega),Int.ediv_eq_zero_of_lt hge hlt];omega
 have hr:N % y=N -Q*y:=by
  have:=Int.ediv_mul_add_emod N y
  rw[hq]at this;omega
 rw[hq,hr,Int.mul_ediv_cancel _ (by omega)]
def N7 (n:Int):Int:=if n<0 then -n else n
def upS (q r d:Int) (neg:Bool) (mode:Int):Bool:=l7 (ieq r 0) false (l7 (ieq mode 0) neg (l7 (ieq mode 1) (D6 neg) (l7 (ieq mode 3) true (l7 (ieq mode 4) (ile (d -r) r) (l7 (ieq mode 5) (l7 (ilt (d -r) r) true (l7 (ieq r (d -r)) (ieq (V6 q 2) 1) false)) false)))))
def q1 (q:Int) (u:Bool):Int:=l7 u (q+1) q
def sg (q:Int) (neg:Bool):Int:=l7 neg (-q) q
def gu (m:Int):Bool:=l7 (ile 0 m) (ile m 5) false
theorem uO (m:Int):jy m=some (gu m):=by unfold jy gu;cases ile 0 m <;> rfl
theorem Jg (m:Int):vK m=some (gu m):=uO m
theorem Md (m:Int):uu m=some (gu m):=uO m
def cO (n m:Int):Bool:=l7 (ilt m n) true (ilt n (-m))
theorem mi (n:Int) {m:Int} (h0:0≤m) (h:m≤9000000000000000000):fQ n m=some (cO n m):=by
 unfold fQ cO
 rw[I5 (by unfold I64;omega),show(0:Int) -m=-m by omega]
 cases ilt m n <;> rfl
theorem kw (n:Int) {m:Int} (h0:0≤m) (h:m≤9000000000000000000):aN n m=some (cO n m):=mi n h0 h
theorem qA (n:Int) {m:Int} (h0:0≤m) (h:m≤9000000000000000000):oq n m=some (cO n m):=mi n h0 h
theorem oh (n:Int) {m:Int} (h0:0≤m) (h:m≤9000000000000000000):bD n m=some (cO n m):=mi n h0 h
theorem iD {n m:Int} (h:cO n m=false):-m≤n∧n≤m:=by
 unfold cO at h
 cases h1:ilt m n <;> rw[h1]at h
 ·rw[X6]at h1;simp only[o5]at h;rw[X6]at h;omega
 ·cases h
theorem XI {n m:Int} (h:cO n m=true):n< -m∨m<n:=by
 unfold cO at h
 cases h1:ilt m n <;> rw[h1]at h
 ·simp only[o5]at h;rw[Y4]at h;omega
 ·rw[Y4]at h1;omega
theorem Io {n m:Int} :cO n m=true↔n< -m∨m<n:=by
 constructor
 ·exact XI
 ·intro h
  cases hq:cO n m
  ·have:=iD hq;omega
  ·rfl
theorem Fh {n m:Int} (h:-m≤n∧n≤m):cO n m=false:=by
 cases hq:cO n m
 ·rfl
 ·have:=XI hq;omega
theorem uk {n:Int} (h:-9000000000000000000≤n) (h2:n≤9000000000000000000):eG n=some (N7 n):=by
 unfold eG N7
 by_cases h0:n<0
 ·rw[F6 h0,if_pos h0,o6]
  congr 1
  show IntKind.wrap .u64 (0 -IntKind.wrap .u64 n)=_
  rw[qI,qI];omega
 ·rw[E8 (by omega),if_neg h0,o5,show wrap .u64 n=n from xe (by omega) (by omega)]
theorem FN {n:Int} (h:-9000000000000000000≤n) (h2:n≤9000000000000000000):oZ n=some (N7 n):=by
 unfold oZ N7
 by_cases h0:n<0
 ·rw[F6 h0,if_pos h0,I5 (by unfold I64;omega)];simp
 ·rw[E8 (by omega),if_neg h0];rfl
theorem SY {q:Int} (neg:Bool) (h0:0≤q) (h:q≤9000000000000000000):um q neg=some (sg q neg):=by
 unfold um sg
 rw[show wrap .i64 q=q from dZ (by unfold I64;omega),I5 (by unfold I64;omega),show(0:Int) -q=-q by omega]
 cases neg <;> rfl
theorem MF {q r d:Int} (neg:Bool) (mode:Int) (hq:0≤q) (hq2:q≤9000000000000000000) (hr:0≤r) (hrd:r<d) (hd:d≤9000000000000000000):gy q r d neg mode=some (q1 q (upS q r d neg mode)):=by
 unfold gy upS q1
 rw[show x9 .u64 q 1=q+1 from xe (by omega) (by omega),show G5 .u64 d r=d -r from xe (by omega) (by omega)]
 cases ieq r 0
 case true=>rfl
 cases ieq mode 0
 case true=>cases neg <;> rfl
 cases ieq mode 1
 case true=>cases neg <;> rfl
 cases ieq mode 3
 case true=>rfl
 cases ieq mode 4
 case true=>cases ile (d -r) r <;> rfl
 cases ieq mode 5
 ·rfl
 cases ilt (d -r) r
 case true=>rfl
 cases ieq r (d -r)
 ·rfl
 cases ieq (V6 q 2) 1 <;> rfl
theorem Xe {q r d:Int} (neg:Bool) (mode:Int) (hr:0≤r) (hrd:r<d) (hd:d≤9000000000000000000):wu q r d neg mode=some (upS q r d neg mode):=by
 unfold wu upS
 rw[show G5 .u64 d r=d -r from xe (by omega) (by omega)]
 cases ieq r 0
 case true=>rfl
 cases ieq mode 0
 case true=>rfl
 cases ieq mode 1
 case true=>rfl
 cases ieq mode 3
 case true=>rfl
 cases ieq mode 4
 case true=>rfl
 cases ieq mode 5
 ·rfl
 cases ilt (d -r) r
 case true=>rfl
 cases ieq r (d -r) <;> rfl
theorem wL {q r d:Int} (neg:Bool) (mode:Int) (hq:0≤q) (hq2:q≤9000000000000000000) (hr:0≤r) (hrd:r<d) (hd:d≤9000000000000000000):dQ q r d neg mode=some (sg (q1 q (upS q r d neg mode)) neg):=by
 unfold dQ upS q1 sg
 rw[J6 (show I64 (q+1) by unfold I64;omega),I5 (show I64 (d -r) by unfold I64;omega),I5 (show I64 (0 -(q+1)) by unfold I64;omega),I5 (show I64 (0 -q) by unfold I64;omega),show(0:Int) -(q+1)=-(q+1) by omega,show(0:Int) -q=-q by omega]
 by_cases hz:r=0
 ·rw[F8 hz,E8 (show r≤0 by omega),G8 (show r<d -r by omega),E8 (show r≤d -r by omega),F5 (show r≠d -r by omega)]
  cases ieq mode 0 <;> cases ieq mode 1 <;> cases ieq mode 3 <;> cases ieq mode 4 <;> cases ieq mode 5 <;> cases neg <;> rfl
 ·rw[F5 hz,F6 (show 0<r by omega)]
  cases ieq mode 0
  case true=>cases neg <;> rfl
  cases ieq mode 1
  case true=>cases neg <;> rfl
  cases ieq mode 3
  case true=>cases neg <;> rfl
  cases ieq mode 4
  case true=>cases ile (d -r) r <;> cases neg <;> rfl
  cases ieq mode 5
  ·cases neg <;> rfl
  cases ilt (d -r) r
  case true=>cases neg <;> rfl
  cases ieq r (d -r)
  ·cases neg <;> rfl
  cases ieq (V6 q 2) 1 <;> cases neg <;> rfl
theorem dK (n:Int):0≤N7 n:=by unfold N7;split <;> omega
theorem oV {n m:Int} (h:-m≤n∧n≤m):N7 n≤m:=by unfold N7;split <;> omega
theorem Ef {n:Int} (h:n≠0):0<N7 n:=by unfold N7;split <;> omega
def rnd (n d mode:Int):Int:=sg (q1 (N7 n / N7 d) (upS (N7 n / N7 d) (N7 n % N7 d) (N7 d) (D6 (bZ (ilt n 0) (ilt d 0))) mode)) (D6 (bZ (ilt n 0) (ilt d 0)))
def XQ (n d mode:Int):Int×Int:=l7 (gu mode) (l7 (ieq d 0) (0,12) (l7 (cO n 4611686018427387904) (0,3) (l7 (cO d 4611686018427387904) (0,3) (rnd n d mode,0)))) (0,1)
theorem PD (q:Int) (u:Bool):q≤q1 q u∧q1 q u≤q+1:=by unfold q1;cases u <;> simp only[o6,o5] <;> omega
theorem zx (n d mode:Int):aV n d mode=some (XQ n d mode):=by
 unfold aV XQ
 rw[uO,o7]
 cases gu mode
 ·rfl
 simp only[x8,o5,o6]
 cases hd:ieq d 0
 case true=>rfl
 rw[qh]at hd
 simp only[o5]
 rw[mi n (by omega) (by omega),o7]
 cases h1:cO n 4611686018427387904
 case true=>rfl
 simp only[o5]
 rw[mi d (by omega) (by omega),o7]
 cases h2:cO d 4611686018427387904
 case true=>rfl
 have b1:=iD h1
 have b2:=iD h2
 have a1:=dK n;have a2:=oV b1;have a3:=Ef hd;have a4:=oV b2
 have e0:=Int.ediv_nonneg a1 (show 0≤N7 d by omega)
 have e1:=Int.ediv_le_self (N7 d) a1
 have e2:=Int.emod_nonneg (N7 n) (show N7 d≠0 by omega)
 have e3:=Int.emod_lt_of_pos (N7 n) a3
 have q:=PD (N7 n / N7 d) (upS (N7 n / N7 d) (N7 n % N7 d) (N7 d) (D6 (bZ (ilt n 0) (ilt d 0))) mode)
 simp only[o5]
 rw[uk (by omega) (by omega),o7,uk (by omega) (by omega),o7,FB a1 (by omega) a3,o7,rZ a1 a3,o7,MF _ _ e0 (by omega) e2 e3 (by omega),o7,SY _ (by omega) (by omega)];rfl
theorem kT {a b:Int} (ha:0≤a) (ha' :a≤9000000000000000000) (hb:0<b):fH .i64 a b=some (a / b):=by
 unfold fH
 rw[if_neg (by omega),aC ha]
 have h1:=Int.ediv_nonneg ha (show 0≤b by omega)
 have h2:=Int.ediv_le_self b ha
 rw[dZ (by unfold I64;omega)]
theorem Ut (n d mode:Int):ou n d mode=some (XQ n d mode):=by
 unfold ou XQ
 rw[Jg,o7]
 cases gu mode
 ·rfl
 simp only[x8,o5,o6]
 cases hd:ieq d 0
 case true=>rfl
 rw[qh]at hd
 simp only[o5]
 rw[kw n (by omega) (by omega),o7]
 cases h1:cO n 4611686018427387904
 case true=>rfl
 simp only[o5]
 rw[kw d (by omega) (by omega),o7]
 cases h2:cO d 4611686018427387904
 case true=>rfl
 have b1:=iD h1
 have b2:=iD h2
 have a1:=dK n;have a2:=oV b1;have a3:=Ef hd;have a4:=oV b2
 have e0:=Int.ediv_nonneg a1 (show 0≤N7 d by omega)
 have e1:=Int.ediv_le_self (N7 d) a1
 have e2:=Int.emod_nonneg (N7 n) (show N7 d≠0 by omega)
 have e3:=Int.emod_lt_of_pos (N7 n) a3
 simp only[o5]
 rw[FN (by omega) (by omega),o7,FN (by omega) (by omega),o7,kT a1 (by omega) a3,o7,rZ a1 a3,o7,wL _ _ e0 (by omega) e2 e3 (by omega)];rfl
def toS (c u mode:Int):Int×Int:=l7 (gu mode) (l7 (ilt u 1) (0,12) (l7 (cO c 1000000000000000) (0,3) (l7 (ilt 1000000000000000 u) (0,3) (l7 (cO (L9 .i64 (rnd c u mode) u) 1000000000000000) (0,3) (L9 .i64 (rnd c u mode) u,0))))) (0,1)
theorem YO (c u mode:Int):qy c u mode=some (toS c u mode):=by
 unfold qy toS
 rw[uO,o7]
 cases hm:gu mode
 ·rfl
 simp only[x8,o5,o6]
 cases hu:ilt u 1
 case true=>rfl
 rw[X6]at hu
 simp only[o5]
 rw[mi c (by omega) (by omega),o7]
 cases h1:cO c 1000000000000000
 case true=>rfl
 have b1:=iD h1
 simp only[o5]
 cases h2:ilt 1000000000000000 u
 case true=>rfl
 rw[X6]at h2
 simp only[o5]
 have n1:cO c 4611686018427387904=false:=Fh (by omega)
 have n2:cO u 4611686018427387904=false:=Fh (by omega)
 rw[zx,o7]
 unfold XQ
 rw[hm,F5 (show u≠0 by omega),n1,n2]
 simp only[o6,o5,F8 (rfl:(0:Int)=0),x8]
 rw[mi _ (by omega) (by omega),o7]
 cases cO (L9 .i64 (rnd c u mode) u) 1000000000000000 <;> rfl
theorem WU (c u mode:Int):qC c u mode=some (toS c u mode):=by
 unfold qC toS
 rw[Jg,o7]
 cases hm:gu mode
 ·rfl
 simp only[x8,o5,o6]
 cases hu:ilt u 1
 case true=>rfl
 rw[X6]at hu
 simp only[o5]
 rw[kw c (by omega) (by omega),o7]
 cases h1:cO c 1000000000000000
 case true=>rfl
 have b1:=iD h1
 simp only[o5]
 cases h2:ilt 1000000000000000 u
 case true=>rfl
 rw[X6]at h2
 simp only[o5]
 have a1:=dK c;have a2:=oV b1
 have hu' :N7 u=u:=by unfold N7;rw[if_neg (by omega)]
 have e0:=Int.ediv_nonneg a1 (show 0≤u by omega)
 have e1:=Int.ediv_le_self u a1
 have e2:=Int.emod_nonneg (N7 c) (show u≠0 by omega)
 have e3:=Int.emod_lt_of_pos (N7 c) (show 0<u by omega)
 rw[FN (by omega) (by omega),o7,kT a1 (by omega) (by omega),o7,rZ a1 (by omega),o7,wL _ _ e0 (by omega) e2 e3 (by omega),o7]
 have hr:sg (q1 (N7 c / u) (upS (N7 c / u) (N7 c % u) u (ilt c 0) mode)) (ilt c 0)=rnd c u mode:=by
  unfold rnd
  rw[hu',show D6 (bZ (ilt c 0) (ilt u 0))=ilt c 0 by rw[E8 (show(0:Int)≤u by omega)];cases ilt c 0 <;> rfl]
 rw[hr,kw _ (by omega) (by omega),o7]
 cases cO (L9 .i64 (rnd c u mode) u) 1000000000000000 <;> rfl
def mdS (c num den mode:Int):Int×Int:=l7 (gu mode) (l7 (ieq den 0) (0,12) (l7 (cO c 1000000000000000) (0,3) (l7 (cO num 1000000000) (0,3) (l7 (cO den 1000000000) (0,3)
 (l7 (ilt 1000000000000000 (q1 (N7 c*N7 num / N7 den) (upS (N7 c*N7 num / N7 den) (N7 c*N7 num % N7 den) (N7 den) (D6 (bZ (D6 (bZ (ilt c 0) (ilt num 0))) (ilt den 0))) mode))) (0,3)
  (sg (q1 (N7 c*N7 num / N7 den) (upS (N7 c*N7 num / N7 den) (N7 c*N7 num % N7 den) (N7 den) (D6 (bZ (D6 (bZ (ilt c 0) (ilt num 0))) (ilt den 0))) mode)) (D6 (bZ (D6 (bZ (ilt c 0) (ilt num 0))) (ilt den 0))),0)))))) (0,1)
theorem IX {a b:Int} (a0:0≤a) (a1:a<18446744073709551616) (b0:0≤b) (b1:b<18446744073709551616):kM a b=some (a*b / 18446744073709551616,a*b % 18446744073709551616):=by
 unfold kM
 rw[if_pos ⟨a0,a1,b0,b1⟩]
theorem a2w (c num den mode:Int):xC c num den mode=some (mdS c num den mode):=by
 unfold xC mdS
 rw[uO,o7]
 cases gu mode
 ·rfl
 simp only[x8,o5,o6]
 cases hd:ieq den 0
 case true=>rfl
 rw[qh]at hd
 simp only[o5]
 rw[mi c (by omega) (by omega),o7]
 cases h1:cO c 1000000000000000
 case true=>rfl
 rw[mi num (by omega) (by omega)]
 cases h2:cO num 1000000000
 case true=>rfl
 rw[mi den (by omega) (by omega)]
 cases h3:cO den 1000000000
 case true=>rfl
 have b1:=iD h1;have b2:=iD h2;have b3:=iD h3
 have a1:=dK c;have a2:=oV b1;have x1:=dK num;have x2:=oV b2;have d1:=Ef hd;have d2:=oV b3
 simp only[o5,o7,D5]
 rw[uk (by omega) (by omega),o7,uk (by omega) (by omega),o7,IX a1 (by omega) x1 (by omega),o7,uk (by omega) (by omega),o7]
 have hA:0≤N7 c*N7 num:=Int.mul_nonneg a1 x1
 generalize N7 c*N7 num=A at*
 generalize N7 den=b at*
 have hre:A / 18446744073709551616*18446744073709551616+A % 18446744073709551616=A:=by omega
 have q:=PD (A / b) (upS (A / b) (A % b) b (D6 (bZ (D6 (bZ (ilt c 0) (ilt num 0))) (ilt den 0))) mode)
 have hdm:=Int.ediv_mul_add_emod A b
 have e2:=Int.emod_nonneg A (show b≠0 by omega)
 have e3:=Int.emod_lt_of_pos A d1
 have e0:=Int.ediv_nonneg hA (show 0≤b by omega)
 by_cases hh:b≤A / 18446744073709551616
 ·have hge:18446744073709551616≤A / b:=Int.le_ediv_of_mul_le d1 (by omega)
  rw[G7 hh,F6 (show(1000000000000000:Int)<q1 (A / b) (upS (A / b) (A % b) b (D6 (bZ (D6 (bZ (ilt c 0) (ilt num 0))) (ilt den 0))) mode) by omega)];rfl
 ·rw[G8 (by omega),o5,Og (by omega) (by omega) (by omega) (by omega) (by omega),o7,hre]
  simp only
  by_cases hM:1000000000000000<A / b
  ·rw[F6 hM,F6 (show(1000000000000000:Int)<q1 (A / b) (upS (A / b) (A % b) b (D6 (bZ (D6 (bZ (ilt c 0) (ilt num 0))) (ilt den 0))) mode) by omega)];rfl
  ·rw[E8 (by omega),o5,MF _ _ e0 (by omega) e2 e3 (by omega),o7]
   cases hq:ilt 1000000000000000 (q1 (A / b) (upS (A / b) (A % b) b (D6 (bZ (D6 (bZ (ilt c 0) (ilt num 0))) (ilt den 0))) mode))
   ·rw[X6]at hq
    rw[o5,SY _ (by omega) (by omega)];rfl
   ·rfl
theorem a3O {q:Int} (h:0≤q) (neg:Bool) {m:Int} (hm:0≤m):cO (sg q neg) m=ilt m q:=by
 rw[Bool.eq_iff_iff,Io,Y4]
 unfold sg
 cases neg <;> simp only[o6,o5] <;> omega
theorem YI (c num den mode:Int):xG c num den mode=some (mdS c num den mode):=by
 unfold xG mdS
 rw[Jg,o7]
 cases gu mode
 ·rfl
 simp only[x8,o5,o6]
 cases hd:ieq den 0
 case true=>rfl
 rw[qh]at hd
 simp only[o5]
 rw[kw c (by omega) (by omega),o7]
 cases h1:cO c 1000000000000000
 case true=>rfl
 rw[kw num (by omega) (by omega)]
 cases h2:cO num 1000000000
 case true=>rfl
 rw[kw den (by omega) (by omega)]
 cases h3:cO den 1000000000
 case true=>rfl
 have b1:=iD h1;have b2:=iD h2;have b3:=iD h3
 have a1:=dK c;have a2:=oV b1;have x1:=dK num;have x2:=oV b2;have d1:=Ef hd;have d2:=oV b3
 simp only[o5,o7,D5]
 rw[FN (by omega) (by omega),o7,FN (by omega) (by omega),o7,FN (by omega) (by omega),o7]
 generalize D6 (bZ (D6 (bZ (ilt c 0) (ilt num 0))) (ilt den 0))=neg
 generalize N7 c=a at*
 generalize N7 num=x at*
 generalize N7 den=b at*
 have hdm:=Int.ediv_mul_add_emod a b
 have f0:=Int.ediv_nonneg a1 (show 0≤b by omega)
 have f1:=Int.emod_nonneg a (show b≠0 by omega)
 have f2:=Int.emod_lt_of_pos a d1
 have m1:0≤a % b*x:=Int.mul_nonneg f1 x1
 have m2:a % b*x≤1000000000*1000000000:=Int.mul_le_mul (by omega) x2 x1 (by omega)
 have m3:0≤a / b*x:=Int.mul_nonneg f0 x1
 have hA:a*x=a / b*x*b+a % b*x:=by
  calc a*x=(a / b*b+a % b)*x:=by rw[hdm]
   _=_:=by rw[Int.add_mul,Int.mul_right_comm]
 have hQ:a*x / b=a / b*x+a % b*x / b:=by
  rw[hA,Int.add_comm,Int.add_mul_ediv_right _ _ (by omega),Int.add_comm]
 have hR:a*x % b=a % b*x % b:=by
  rw[hA,Int.add_comm,Int.add_mul_emod_self_right]
 have g0:=Int.ediv_nonneg m1 (show 0≤b by omega)
 have g1:=Int.ediv_le_self b m1
 have g2:=Int.emod_nonneg (a % b*x) (show b≠0 by omega)
 have g3:=Int.emod_lt_of_pos (a % b*x) d1
 have tail:a / b*x≤1000000000000000→(l9 (qf a b) fun(x_5:Int)=>l9 (some (a / b)) fun(x_8:Int)=>l9 (fH .i64 (L9 .i64 x_5 x) b) fun(x_6:Int)=>l9 (qf (L9 .i64 x_5 x) b) fun(x_7:Int)=>
   l9 (dQ (x9 .i64 (L9 .i64 x_8 x) x_6) x_7 b neg mode) fun(x_9:Int)=>l9 (aN x_9 1000000000000000) fun(x_8:Bool)=>l7 x_8 (some ((0:Int),(3:Int))) (some (x_9,0)))=
   some (l7 (ilt 1000000000000000 (q1 (a*x / b) (upS (a*x / b) (a*x % b) b neg mode))) (0,3) (sg (q1 (a*x / b) (upS (a*x / b) (a*x % b) b neg mode)) neg,0)):=by
  intro hle
  have q:=PD (a / b*x+a % b*x / b) (upS (a / b*x+a % b*x / b) (a % b*x % b) b neg mode)
  rw[rZ a1 d1,o7,o7,dL (show I64 (a % b*x) by unfold I64;omega),kT m1 (by omega) d1,o7,rZ m1 d1,o7,dL (show I64 (a / b*x) by unfold I64;omega),J6 (show I64 (a / b*x+a % b*x / b) by unfold I64;omega),
   wL _ _ (by omega) (by omega) g2 g3 (by omega),o7,kw _ (by omega) (by omega),o7,a3O (by omega) _ (by omega),hQ,hR]
  cases ilt 1000000000000000 (q1 (a / b*x+a % b*x / b) (upS (a / b*x+a % b*x / b) (a % b*x % b) b neg mode)) <;> rfl
 by_cases hx:0<x
 ·rw[F6 hx,o6,kT a1 (by omega) d1,o7,kT (by omega) (by omega) hx,o7]
  have hMx:=Int.ediv_mul_add_emod 1000000000000000 x
  have hMr:=Int.emod_lt_of_pos 1000000000000000 hx
  have hMr0:=Int.emod_nonneg 1000000000000000 (show x≠0 by omega)
  by_cases hc:1000000000000000 / x<a / b
  ·have:=Int.mul_le_mul_of_nonneg_right (show 1000000000000000 / x+1≤a / b by omega) x1
   rw[Int.add_mul,Int.one_mul]at this
   have q:=PD (a*x / b) (upS (a*x / b) (a*x % b) b neg mode)
   rw[F6 hc,F6 (show(1000000000000000:Int)<q1 (a*x / b) (upS (a*x / b) (a*x % b) b neg mode) by omega)];rfl
  ·have:=Int.mul_le_mul_of_nonneg_right (show a / b≤1000000000000000 / x by omega) x1
   rw[E8 (by omega),o5]
   exact tail (by omega)
 ·have:x=0:=by omega
  rw[E8 (by omega),o5,kT a1 (by omega) d1]
  exact tail (by subst this;simp)
theorem a3G (c r mode:Int):yQ c r mode=some (mdS c r 1000000 mode):=by
 unfold yQ;rw[a2w];rfl
theorem a2S (c r mode:Int):wM c r mode=some (mdS c r 1000000 mode):=by
 unfold wM;rw[YI];rfl
theorem VM {n d:Int} (h1:-9000000000000000000≤n) (h2:n≤9000000000000000000) (hd:0<d) (hd2:d≤9000000000000000000):oz n d=some (n / d,n % d):=by
 unfold oz fH qf
 rw[if_neg (by omega),if_neg (by omega),o7,o7]
 by_cases h0:0≤n
 ·have e0:=Int.ediv_nonneg h0 (show 0≤d by omega)
  have e1:=Int.ediv_le_self d h0
  have e2:=Int.emod_nonneg n (show d≠0 by omega)
  rw[aC h0,Int.tmod_eq_emod_of_nonneg h0,dZ (by unfold I64;omega),E8 e2];rfl
 ·obtain⟨m,hm⟩:∃m,m=-n:=⟨_,rfl⟩
  have hn:n=-m:=by omega
  subst hn
  have e0:=Int.ediv_nonneg (show 0≤m by omega) (show 0≤d by omega)
  have e1:=Int.ediv_le_self d (show 0≤m by omega)
  have e2:=Int.emod_nonneg m (show d≠0 by omega)
  have e3:=Int.emod_lt_of_pos m hd
  have hdm:=Int.ediv_mul_add_emod m d
  rw[Int.neg_tdiv,Int.neg_tmod,aC (by omega),Int.tmod_eq_emod_of_nonneg (by omega),dZ (by unfold I64;omega)]
  by_cases hz:m % d=0
  ·rw[hz,show -(0:Int)=0 from rfl,E8 (by omega),o5]
   have hme:-m=0+(-(m / d))*d:=by rw[Int.neg_mul];omega
   have q1:-m / d=-(m / d):=by rw[hme,Int.add_mul_ediv_right _ _ (by omega)];simp
   have q2:-m % d=0:=by rw[hme,Int.add_mul_emod_self_right];simp
   rw[q1,q2]
  ·rw[F6 (by omega),o6,I5 (by unfold I64;omega),J6 (by unfold I64;omega)]
   have hme:-m=(d -m % d)+(-(m / d) -1)*d:=by rw[Int.sub_mul,Int.neg_mul,Int.one_mul];omega
   have q1:-m / d=-(m / d) -1:=by
    rw[hme,Int.add_mul_ediv_right _ _ (by omega),Int.ediv_eq_zero_of_lt (by omega) (by omega)];omega
   have q2:-m % d=d -m % d:=by
    rw[hme,Int.add_mul_emod_self_right,Int.emod_eq_of_lt (by omega) (by omega)]
   rw[q1,q2,show -(m % d)+d=d -m % d by omega]
theorem zH {m:Int} (h:gu m=true):m=0∨m=1∨m=2∨m=3∨m=4∨m=5:=by
 unfold gu at h
 cases h0:ile 0 m <;> rw[h0]at h
 ·cases h
 ·simp only[o6]at h;rw[fM]at h0 h;omega
theorem zW {n d mode:Int} (h1:-9000000000000000000≤n / d) (h2:n / d≤9000000000000000000) (hd:0<d) (hd2:d≤9000000000000000000) (hm:gu mode=true):U3 (n / d) (n % d) d mode=some (rnd n d mode):=by
 have hdm:=Int.ediv_mul_add_emod n d
 have f0:=Int.emod_nonneg n (show d≠0 by omega)
 have f1:=Int.emod_lt_of_pos n hd
 have hid:N7 d=d:=by unfold N7;rw[if_neg (by omega)]
 have hneg:D6 (bZ (ilt n 0) (ilt d 0))=ilt n 0:=by rw[E8 (show(0:Int)≤d by omega)];cases ilt n 0 <;> rfl
 unfold rnd
 rw[hid,hneg]
 have R0:∀F R:Int,U3 F R d 0=l7 (ieq R 0) (some F) (some F):=fun F R=>rfl
 have R1:∀F R:Int,U3 F R d 1=l7 (ieq R 0) (some F) (some (x9 .i64 F 1)):=fun F R=>rfl
 have R2:∀F R:Int,U3 F R d 2=l7 (ieq R 0) (some F) (l9 (l7 (ilt F 0) (some true) (some false)) fun x=>l7 x (some (x9 .i64 F 1)) (some F)):=fun F R=>rfl
 have R3:∀F R:Int,U3 F R d 3=l7 (ieq R 0) (some F) (l9 (some (ile 0 F)) fun x=>l7 x (some (x9 .i64 F 1)) (some F)):=fun F R=>rfl
 have R4:∀F R:Int,U3 F R d 4=l7 (ieq R 0) (some F) (l7 (ieq R (G5 .i64 d R)) (l7 (ile 0 F) (some (x9 .i64 F 1)) (some F)) (l7 (ilt (G5 .i64 d R) R) (some (x9 .i64 F 1)) (some F))):=fun F R=>rfl
 have R5:∀F R:Int,U3 F R d 5=l7 (ieq R 0) (some F) (l7 (ieq R (G5 .i64 d R)) (l7 (D6 (ieq (V6 F 2) 0)) (some (x9 .i64 F 1)) (some F)) (l7 (ilt (G5 .i64 d R) R) (some (x9 .i64 F 1)) (some F))):=fun F R=>rfl
 have u0:∀q r:Int,∀b,upS q r d b 0=l7 (ieq r 0) false b:=fun q r b=>rfl
 have u1:∀q r:Int,∀b,upS q r d b 1=l7 (ieq r 0) false (D6 b):=fun q r b=>rfl
 have u2:∀q r:Int,∀b,upS q r d b 2=l7 (ieq r 0) false false:=fun q r b=>rfl
 have u3:∀q r:Int,∀b,upS q r d b 3=l7 (ieq r 0) false true:=fun q r b=>rfl
 have u4:∀q r:Int,∀b,upS q r d b 4=l7 (ieq r 0) false (ile (d -r) r):=fun q r b=>rfl
 have u5:∀q r:Int,∀b,upS q r d b 5=l7 (ieq r 0) false (l7 (ilt (d -r) r) true (l7 (ieq r (d -r)) (ieq (V6 q 2) 1) false)):=fun q r b=>rfl
 by_cases h0:0≤n
 ·have e0:=Int.ediv_nonneg h0 (show 0≤d by omega)
  have e1:=Int.ediv_le_self d h0
  rw[show N7 n=n by unfold N7;rw[if_neg (by omega)],E8 h0]
  have hi:x9 .i64 (n / d) 1=n / d+1:=J6 (by unfold I64;omega)
  have hs:G5 .i64 d (n % d)=d -n % d:=I5 (by unfold I64;omega)
  have hir:V6 (n / d) 2=(n / d) % 2:=qo e0
  generalize n / d=F at*
  generalize n % d=R at*
  rcases zH hm with rfl | rfl | rfl | rfl | rfl | rfl
  ·rw[R0,u0];cases ieq R 0 <;> rfl
  ·rw[R1,u1,hi];cases ieq R 0 <;> rfl
  ·rw[R2,u2,hi,E8 e0];cases ieq R 0 <;> rfl
  ·rw[R3,u3,hi,G7 e0];cases ieq R 0 <;> rfl
  ·rw[R4,u4,hi,hs,G7 e0]
   cases ieq R 0
   case true=>rfl
   by_cases ht:R=d -R
   ·rw[F8 ht,G7 (show d -R≤R by omega)];rfl
   ·rw[F5 ht]
    by_cases hl:d -R<R
    ·rw[F6 hl,G7 (show d -R≤R by omega)];rfl
    ·rw[E8 (show R≤d -R by omega),G8 (show R<d -R by omega)];rfl
  ·rw[R5,u5,hi,hs,hir]
   cases ieq R 0
   case true=>rfl
   by_cases ht:R=d -R
   ·rw[F8 ht,E8 (show R≤d -R by omega)]
    by_cases hp:F % 2=0
    ·rw[F8 hp,F5 (show F % 2≠1 by omega)];rfl
    ·rw[F5 hp,F8 (show F % 2=1 by omega)];rfl
   ·rw[F5 ht]
    by_cases hl:d -R<R
    ·rw[F6 hl];rfl
    ·rw[E8 (show R≤d -R by omega)];rfl
 ·obtain⟨m,hmm⟩:∃m,m=-n:=⟨_,rfl⟩
  have e0:=Int.ediv_nonneg (show 0≤m by omega) (show 0≤d by omega)
  have e1:=Int.ediv_le_self d (show 0≤m by omega)
  have e2:=Int.emod_nonneg m (show d≠0 by omega)
  have e3:=Int.emod_lt_of_pos m hd
  have hdm2:=Int.ediv_mul_add_emod m d
  rw[show N7 n=m by unfold N7;rw[if_pos (by omega)];omega,F6 (by omega)]
  by_cases hz:m % d=0
  ·have hne:n=0+(-(m / d))*d:=by rw[Int.neg_mul];omega
   have q1:n / d=-(m / d):=by rw[hne,Int.add_mul_ediv_right _ _ (by omega)];simp
   have q2:n % d=0:=by rw[hne,Int.add_mul_emod_self_right];simp
   rw[q1,q2,hz]
   rcases zH hm with rfl | rfl | rfl | rfl | rfl | rfl <;> rfl
  ·have hne:n=(d -m % d)+(-(m / d) -1)*d:=by rw[Int.sub_mul,Int.neg_mul,Int.one_mul];omega
   have q1:n / d=-(m / d) -1:=by
    rw[hne,Int.add_mul_ediv_right _ _ (by omega),Int.ediv_eq_zero_of_lt (by omega) (by omega)];omega
   have q2:n % d=d -m % d:=by
    rw[hne,Int.add_mul_emod_self_right,Int.emod_eq_of_lt (by omega) (by omega)]
   rw[q1]at h1 h2
   rw[q1,q2]
   generalize m / d=q at*
   generalize m % d=r at*
   have hi:x9 .i64 (-q -1) 1=-q:=by rw[J6 (by unfold I64;omega)];omega
   have hs:G5 .i64 d (d -r)=r:=by rw[I5 (by unfold I64;omega)];omega
   have hF:∀k:Int,Go.GP.q1 q false=q∧Go.GP.q1 q true=q+1:=fun k=>⟨rfl,rfl⟩
   have sg1:sg (Go.GP.q1 q true) true=-q -1:=by show -(q+1)=-q -1;omega
   have sg0:sg (Go.GP.q1 q false) true=-q:=rfl
   have hr0:ieq (d -r) 0=false:=F5 (by omega)
   have hr1:ieq r 0=false:=F5 hz
   rcases zH hm with rfl | rfl | rfl | rfl | rfl | rfl
   ·rw[R0,u0,hr0,hr1,o5,o5,sg1]
   ·rw[R1,u1,hi,hr0,hr1,o5,o5,x8,sg0]
   ·rw[R2,u2,hi,hr0,hr1,o5,o5,sg0,F6 (by omega)];rfl
   ·rw[R3,u3,hi,hr0,hr1,o5,o5,sg1,G8 (by omega)];rfl
   ·rw[R4,u4,hi,hs,hr0,hr1,o5,o5,G8 (show -q -1<0 by omega)]
    by_cases ht:d -r=r
    ·rw[F8 ht,G7 (show d -r≤r by omega),sg1];rfl
    ·rw[F5 ht]
     by_cases hl:r<d -r
     ·rw[F6 hl,G8 hl,sg0];rfl
     ·rw[E8 (show d -r≤r by omega),G7 (show d -r≤r by omega),sg1];rfl
   ·rw[R5,u5,hi,hs,hr0,hr1,o5,o5]
    by_cases ht:d -r=r
    ·rw[F8 ht,E8 (show r≤d -r by omega),F8 ht.symm]
     have hodd:V6 (-q -1) 2=-((q+1) % 2):=by
      unfold V6
      rw[show -q -1=-(q+1) by omega,Int.neg_tmod,Int.tmod_eq_emod_of_nonneg (by omega)]
     have hir:V6 q 2=q % 2:=qo e0
     rw[hodd,hir]
     simp only[o6,o5]
     by_cases hp:q % 2=1
     ·rw[F8 (show -((q+1) % 2)=0 by omega),F8 hp,sg1];rfl
     ·rw[F5 (show -((q+1) % 2)≠0 by omega),F5 hp,sg0];rfl
    ·rw[F5 ht,F5 (show r≠d -r by omega)]
     by_cases hl:r<d -r
     ·rw[F6 hl,E8 (show r≤d -r by omega)]
      simp only[o6,o5];rw[sg0]
     ·rw[E8 (show d -r≤r by omega),F6 (show d -r<r by omega)]
      simp only[o6,o5];rw[sg1]
def a1f (a b mode:Int):Int×Int:=l7 (gu mode) (l7 (cO a 1000000000) (0,3) (l7 (cO b 1000000000) (0,3) (l7 (cO (rnd (a*b) 1000000 mode) 1000000000) (0,3) (rnd (a*b) 1000000 mode,0)))) (0,1)
theorem a0G {a b A B:Int} (h1:-A≤a∧a≤A) (h2:-B≤b∧b≤B):-(A*B)≤a*b∧a*b≤A*B:=by
 have hA:0≤A:=by omega
 have hB:0≤B:=by omega
 have k1:a*b≤A*B∧-(A*B)≤a*b:=by
  rcases FY a 0 with ha | ha
  ·have e:a*b=-((-a)*b):=by rw[Int.neg_mul];omega
   rcases FY b 0 with hb | hb
   ·have e2:a*b=(-a)*(-b):=by rw[Int.neg_mul_neg]
    have:=Int.mul_le_mul (show -a≤A by omega) (show -b≤B by omega) (by omega) hA
    have:=Int.mul_nonneg (show 0≤-a by omega) (show 0≤-b by omega)
    have:=Int.mul_nonneg hA hB
    omega
   ·have:=Int.mul_le_mul (show -a≤A by omega) h2.2 hb hA
    have:=Int.mul_nonneg (show 0≤-a by omega) hb
    have:=Int.mul_nonneg hA hB
    omega
  ·rcases FY b 0 with hb | hb
   ·have e:a*b=-(a*(-b)):=by rw[Int.mul_neg];omega
    have:=Int.mul_le_mul h1.2 (show -b≤B by omega) (by omega) hA
    have:=Int.mul_nonneg ha (show 0≤-b by omega)
    have:=Int.mul_nonneg hA hB
    omega
   ·have:=Int.mul_le_mul h1.2 h2.2 hb hA
    have:=Int.mul_nonneg ha hb
    have:=Int.mul_nonneg hA hB
    omega
 exact⟨k1.2,k1.1⟩
theorem a9f (a b mode:Int):Ez a b mode=some (a1f a b mode):=by
 unfold Ez a1f
 rw[Md,o7]
 cases hm:gu mode
 ·rfl
 simp only[x8,o5,o6]
 rw[qA a (by omega) (by omega),o7]
 cases h1:cO a 1000000000
 case true=>rfl
 simp only[o5]
 rw[qA b (by omega) (by omega),o7]
 cases h2:cO b 1000000000
 case true=>rfl
 simp only[o5]
 have pb:=a0G (iD h1) (iD h2)
 rw[dL (by unfold I64;omega),zx,o7]
 unfold XQ
 rw[hm,F5 (show(1000000:Int)≠0 by decide),Fh (by omega),Fh (by omega)]
 simp only[o6,o5,F8 (rfl:(0:Int)=0),x8]
 rw[qA _ (by omega) (by omega),o7]
 cases cO (rnd (a*b) 1000000 mode) 1000000000 <;> rfl
theorem Wu {m:Int} {A B:Option (PUnit⊕(Int×Int))} :l7 (ilt m 0) A (l7 (ilt 5 m) A B)=l7 (gu m) B A:=by
 unfold gu
 rw[iF m 0,iF 5 m]
 cases ile 0 m <;> cases ile m 5 <;> rfl
theorem a5B (a b mode:Int):BG a b mode=some (a1f a b mode):=by
 unfold BG a1f
 have hmode:∀A B:Option (Int×Int),l7 (ilt mode 0) A (l7 (ilt 5 mode) A B)=l7 (gu mode) B A:=fun A B=>by
  unfold gu
  rw[iF mode 0,iF 5 mode]
  cases ile 0 mode <;> cases ile mode 5 <;> rfl
 rw[hmode]
 cases hm:gu mode
 ·rfl
 simp only[o6]
 rw[oh a (by omega) (by omega),o7]
 cases h1:cO a 1000000000
 case true=>rfl
 simp only[o5]
 rw[oh b (by omega) (by omega),o7]
 cases h2:cO b 1000000000
 case true=>rfl
 simp only[o5]
 have pb:=a0G (iD h1) (iD h2)
 rw[dL (by unfold I64;omega),VM (by omega) (by omega) (by omega) (by omega),o7]
 simp only
 rw[zW (by omega) (by omega) (by omega) (by omega) hm,o7,oh _ (by omega) (by omega),o7]
 cases cO (rnd (a*b) 1000000 mode) 1000000000 <;> rfl
theorem YN {n d:Int} (mode:Int) (hd:0<d):n / d≤rnd n d mode∧rnd n d mode≤n / d+1:=by
 have hid:N7 d=d:=by unfold N7;rw[if_neg (by omega)]
 have hneg:D6 (bZ (ilt n 0) (ilt d 0))=ilt n 0:=by rw[E8 (show(0:Int)≤d by omega)];cases ilt n 0 <;> rfl
 unfold rnd
 rw[hid,hneg]
 by_cases h0:0≤n
 ·rw[show N7 n=n by unfold N7;rw[if_neg (by omega)],E8 h0]
  exact PD _ _
 ·obtain⟨m,hmm⟩:∃m,m=-n:=⟨_,rfl⟩
  have e2:=Int.emod_nonneg m (show d≠0 by omega)
  have e3:=Int.emod_lt_of_pos m hd
  have hdm2:=Int.ediv_mul_add_emod m d
  rw[show N7 n=m by unfold N7;rw[if_pos (by omega)];omega,F6 (by omega)]
  have hq:=PD (m / d) (upS (m / d) (m % d) d true mode)
  by_cases hz:m % d=0
  ·have hne:n=0+(-(m / d))*d:=by rw[Int.neg_mul];omega
   have q1:n / d=-(m / d):=by rw[hne,Int.add_mul_ediv_right _ _ (by omega)];simp
   have hu:upS (m / d) (m % d) d true mode=false:=by unfold upS;rw[F8 hz];rfl
   rw[q1,hu]
   show -(m / d)≤-(m / d)∧-(m / d)≤-(m / d)+1
   omega
  ·have hne:n=(d -m % d)+(-(m / d) -1)*d:=by rw[Int.sub_mul,Int.neg_mul,Int.one_mul];omega
   have q1:n / d=-(m / d) -1:=by
    rw[hne,Int.add_mul_ediv_right _ _ (by omega),Int.ediv_eq_zero_of_lt (by omega) (by omega)];omega
   rw[q1]
   show -(m / d) -1≤-(Go.GP.q1 _ _)∧-(Go.GP.q1 _ _)≤_
   omega
theorem a9g (n d mode:Int) (hd:d<0):rnd n d mode=rnd (-n) (-d) mode:=by
 have e1:N7 (-n)=N7 n:=by unfold N7;split <;> split <;> omega
 have e2:N7 (-d)=N7 d:=by unfold N7;rw[if_neg (by omega),if_pos hd]
 unfold rnd
 rw[e1,e2,F6 hd,E8 (show 0≤-d by omega)]
 by_cases h0:n=0
 ·subst h0
  have hz:N7 0=0:=rfl
  rw[hz,Int.zero_ediv,Int.zero_emod]
  have hu:∀b,upS 0 0 (N7 d) b mode=false:=fun b=>rfl
  rw[hu,hu];rfl
 ·by_cases h1:n<0
  ·rw[F6 h1,E8 (show 0≤-n by omega)];rfl
  ·rw[E8 (by omega),F6 (show -n<0 by omega)];rfl
def a8W (num den mode:Int):Int×Int:=l7 (gu mode) (l7 (ieq den 0) (0,12) (l7 (cO num 1000000000000000) (0,3) (l7 (cO den 1000000000000000) (0,3) (l7 (cO (rnd (num*1000000) den mode) 1000000000) (0,3) (rnd (num*1000000) den mode,0))))) (0,1)
theorem IK {n:Int} (h:-9000000000000000000≤n) (h2:n≤9000000000000000000):wrap .u64 (fO n (G5 .i64 0 n))=N7 n:=by
 rw[I5 (by unfold I64;omega)]
 unfold fO N7
 by_cases h0:n<0
 ·rw[if_pos (by omega),if_pos h0,show(0:Int) -n=-n by omega]
  exact xe (by omega) (by omega)
 ·rw[if_neg h0]
  by_cases hz:n=0
  ·subst hz;rfl
  ·rw[if_neg (by omega)];exact xe (by omega) (by omega)
theorem IC (num den mode:Int):kX num den mode=some (a8W num den mode):=by
 unfold kX a8W
 rw[Md,o7]
 cases hm:gu mode
 ·rfl
 simp only[x8,o5,o6]
 cases hd:ieq den 0
 case true=>rfl
 rw[qh]at hd
 simp only[o5]
 rw[qA num (by omega) (by omega),o7]
 cases h1:cO num 1000000000000000
 case true=>rfl
 simp only[o5]
 rw[qA den (by omega) (by omega),o7]
 cases h2:cO den 1000000000000000
 case true=>rfl
 simp only[o5]
 have b1:=iD h1;have b2:=iD h2
 have a1:=dK num;have a2:=oV b1;have d1:=Ef hd;have d2:=oV b2
 rw[IK (by omega) (by omega),IK (by omega) (by omega),IX a1 (by omega) (by omega) (by omega),o7]
 have hN:N7 (num*1000000)=N7 num*1000000:=by unfold N7;split <;> split <;> omega
 have hsgn:ilt (num*1000000) 0=ilt num 0:=by
  by_cases h:num<0
  ·rw[F6 h,F6 (by omega)]
  ·rw[E8 (by omega),E8 (by omega)]
 have hA:0≤N7 num*1000000:=by omega
 have hrn:rnd (num*1000000) den mode=sg (q1 (N7 num*1000000 / N7 den) (upS (N7 num*1000000 / N7 den) (N7 num*1000000 % N7 den) (N7 den) (D6 (bZ (ilt num 0) (ilt den 0))) mode)) (D6 (bZ (ilt num 0) (ilt den 0))):=by
  unfold rnd;rw[hN,hsgn]
 rw[hrn]
 have hA2:N7 num*1000000<18446744073709551616*1000:=by omega
 generalize N7 num*1000000=A at*
 generalize N7 den=b at*
 generalize D6 (bZ (ilt num 0) (ilt den 0))=neg at*
 have hre:A / 18446744073709551616*18446744073709551616+A % 18446744073709551616=A:=by omega
 have q:=PD (A / b) (upS (A / b) (A % b) b neg mode)
 have e0:=Int.ediv_nonneg hA (show 0≤b by omega)
 have e2:=Int.emod_nonneg A (show b≠0 by omega)
 have e3:=Int.emod_lt_of_pos A d1
 rw[a3O (by omega) _ (by omega)]
 by_cases hh:b≤A / 18446744073709551616
 ·have hge:18446744073709551616≤A / b:=Int.le_ediv_of_mul_le d1 (by omega)
  rw[G7 hh,F6 (show(1000000000:Int)<q1 (A / b) (upS (A / b) (A % b) b neg mode) by omega)];rfl
 ·rw[G8 (by omega),o5,Og (by omega) (by omega) (by omega) (by omega) (by omega),o7,hre]
  simp only
  by_cases hM:1000000000<A / b
  ·rw[F6 hM,F6 (show(1000000000:Int)<q1 (A / b) (upS (A / b) (A % b) b neg mode) by omega)];rfl
  ·have w1:wrap .i64 (A / b)=A / b:=dZ (by unfold I64;omega)
   have w2:x9 .i64 (A / b) 1=A / b+1:=J6 (by unfold I64;omega)
   have w3:G5 .i64 0 (A / b+1)=-(A / b+1):=by rw[I5 (by unfold I64;omega)];omega
   have w4:G5 .i64 0 (A / b)=-(A / b):=by rw[I5 (by unfold I64;omega)];omega
   rw[E8 (by omega),o5,Xe _ _ e2 e3 (by omega),o7,w1,w2,w3,w4]
   unfold Go.GP.q1 sg
   cases upS (A / b) (A % b) b neg mode
   ·simp only[o5]
    cases ilt 1000000000 (A / b) <;> cases neg <;> rfl
   ·simp only[o6]
    cases ilt 1000000000 (A / b+1) <;> cases neg <;> rfl
theorem PM {n d mode:Int} (h1:-1000000000000000≤n) (h2:n≤1000000000000000) (hd:0<d) (hd2:d≤1000000000000000) (hm:gu mode=true):
  (l9 (oz n d) fun(x:Int×Int)=>l9 (bD x.1 1001) fun(x_1:Bool)=>l7 x_1 (some ((0:Int),(3:Int))) (l9 (fH .i64 (L9 .i64 x.2 1000) d) fun(x_2:Int)=>l9 (qf (L9 .i64 x.2 1000) d) fun(x_3:Int)=>
   l9 (fH .i64 (L9 .i64 x_3 1000) d) fun(x_4:Int)=>l9 (qf (L9 .i64 x_3 1000) d) fun(x_5:Int)=>l9 (U3 (x9 .i64 (x9 .i64 (L9 .i64 x.1 1000000) (L9 .i64 x_2 1000)) x_4) x_5 d mode) fun(x:Int)=>
    l9 (bD x 1000000000) fun(x_6:Bool)=>l7 x_6 (some (0,3)) (some (x,0))))=some (l7 (cO (rnd (n*1000000) d mode) 1000000000) (0,3) (rnd (n*1000000) d mode,0)):=by
 have hdm:=Int.ediv_mul_add_emod n d
 have r0:=Int.emod_nonneg n (show d≠0 by omega)
 have r1:=Int.emod_lt_of_pos n hd
 have hrb:=YN (n:=n*1000000) mode hd
 rw[VM (by omega) (by omega) hd (by omega),o7]
 simp only
 rw[oh _ (by omega) (by omega),o7]
 have hN:n*1000000=n % d*1000000+(n / d*1000000)*d:=by rw[Int.mul_right_comm];omega
 have hF:n*1000000 / d=n % d*1000000 / d+n / d*1000000:=by rw[hN,Int.add_mul_ediv_right _ _ (by omega)]
 have hR:n*1000000 % d=n % d*1000000 % d:=by rw[hN,Int.add_mul_emod_self_right]
 have s0:0≤n % d*1000000 / d:=Int.ediv_nonneg (by omega) (by omega)
 have s1:n % d*1000000 / d<1000000:=Int.ediv_lt_of_lt_mul hd (by omega)
 cases hb:cO (n / d) 1001
 case true=>
  have hbb:=XI hb
  have:cO (rnd (n*1000000) d mode) 1000000000=true:=Io.2 (by omega)
  rw[this];rfl
 have bb:=iD hb
 simp only[o5]
 generalize n % d=r at*
 generalize n / d=q at*
 have t1:L9 .i64 r 1000=r*1000:=dL (by unfold I64;omega)
 have e1:=Int.ediv_mul_add_emod (r*1000) d
 have e2:=Int.emod_nonneg (r*1000) (show d≠0 by omega)
 have e3:=Int.emod_lt_of_pos (r*1000) hd
 have e4:=Int.ediv_nonneg (show 0≤r*1000 by omega) (show 0≤d by omega)
 have e5:r*1000 / d<1000:=Int.ediv_lt_of_lt_mul hd (by omega)
 rw[t1,kT (by omega) (by omega) hd,o7,rZ (by omega) hd,o7]
 generalize hr1:r*1000 % d=r1 at*
 generalize ha:r*1000 / d=a at*
 have t2:L9 .i64 r1 1000=r1*1000:=dL (by unfold I64;omega)
 have f1:=Int.ediv_mul_add_emod (r1*1000) d
 have f2:=Int.emod_nonneg (r1*1000) (show d≠0 by omega)
 have f3:=Int.emod_lt_of_pos (r1*1000) hd
 have f4:=Int.ediv_nonneg (show 0≤r1*1000 by omega) (show 0≤d by omega)
 have f5:r1*1000 / d<1000:=Int.ediv_lt_of_lt_mul hd (by omega)
 rw[t2,kT (by omega) (by omega) hd,o7,rZ (by omega) hd,o7]
 have hr6:r*1000000=r1*1000+(a*1000)*d:=by rw[Int.mul_right_comm];omega
 have hF2:r*1000000 / d=r1*1000 / d+a*1000:=by rw[hr6,Int.add_mul_ediv_right _ _ (by omega)]
 have hR2:r*1000000 % d=r1*1000 % d:=by rw[hr6,Int.add_mul_emod_self_right]
 rw[dL (show I64 (q*1000000) by unfold I64;omega),dL (show I64 (a*1000) by unfold I64;omega),J6 (show I64 (q*1000000+a*1000) by unfold I64;omega),J6 (show I64 (q*1000000+a*1000+r1*1000 / d) by unfold I64;omega)]
 rw[show q*1000000+a*1000+r1*1000 / d=n*1000000 / d by rw[hF,hF2];omega,show r1*1000 % d=n*1000000 % d by rw[hR,hR2]]
 rw[zW (by rw[hF];omega) (by rw[hF];omega) hd (by omega) hm,o7,oh _ (by omega) (by omega),o7]
 cases cO (rnd (n*1000000) d mode) 1000000000 <;> rfl
theorem Gy (num den mode:Int):jA num den mode=some (a8W num den mode):=by
 unfold jA a8W
 rw[Wu]
 cases hm:gu mode
 ·rfl
 simp only[o6,o7,D5]
 cases hd:ieq den 0
 case true=>rfl
 rw[qh]at hd
 simp only[o5]
 rw[oh num (by omega) (by omega),o7]
 cases h1:cO num 1000000000000000
 case true=>rfl
 simp only[o5]
 rw[oh den (by omega) (by omega),o7]
 cases h2:cO den 1000000000000000
 case true=>rfl
 simp only[o5]
 have b1:=iD h1;have b2:=iD h2
 by_cases hn:den<0
 ·rw[F6 hn,o6,I5 (show I64 (0 -num) by unfold I64;omega),I5 (show I64 (0 -den) by unfold I64;omega),show(0:Int) -num=-num by omega,show(0:Int) -den=-den by omega,a9g _ _ _ hn,show -(num*1000000)=-num*1000000 by rw[Int.neg_mul]]
  exact PM (by omega) (by omega) (by omega) (by omega) hm
 ·rw[E8 (by omega),o5]
  exact PM (by omega) (by omega) (by omega) (by omega) hm
def wH (len n:Int):Int×Int×Bool:=l7 (ilt 1000000000000000 (len*N7 n / 1000000)) (0,0,false) (l7 (ilt n 0) (-(len*N7 n / 1000000),-(len*N7 n % 1000000),true) (len*N7 n / 1000000,len*N7 n % 1000000,true))
theorem a8y {len n:Int} (h1:1≤len) (h2:len≤1000000000000000) (hn:I64 n):lX len n=some (wH len n):=by
 unfold I64 at hn
 have key:∀m:Int,m=N7 n→(l9 (kM (wrap .u64 len) m) fun(x:Int×Int)=>l7 (ile 1000000 x.1) (some ((0:Int),(0:Int),false)) (l9 (eF x.1 x.2 1000000) fun(x:Int×Int)=>l7 (ilt 1000000000000000 x.1) (some (0,0,false))
   (l7 (ilt n 0) (some (G5 .i64 0 (wrap .i64 x.1),G5 .i64 0 (wrap .i64 x.2),true)) (some (wrap .i64 x.1,wrap .i64 x.2,true)))))=some (wH len n):=by
  intro m hm
  have m0:=dK n
  have m1:m≤9223372036854775808:=by rw[hm];unfold N7;split <;> omega
  rw[←hm]at m0
  rw[show wrap .u64 len=len from xe (by omega) (by omega),IX (by omega) (by omega) m0 (by omega),o7]
  unfold wH
  rw[←hm]
  have hA:0≤len*m:=Int.mul_nonneg (by omega) m0
  generalize len*m=A at*
  have hre:A / 18446744073709551616*18446744073709551616+A % 18446744073709551616=A:=by omega
  simp only
  by_cases hh:1000000≤A / 18446744073709551616
  ·rw[G7 hh,F6 (show(1000000000000000:Int)<A / 1000000 by omega)];rfl
  ·rw[G8 (by omega),o5,Og (by omega) (by omega) (by omega) (by omega) (by omega),o7,hre]
   simp only
   by_cases hM:1000000000000000<A / 1000000
   ·rw[F6 hM];rfl
   ·rw[E8 (by omega),o5,o5,show wrap .i64 (A / 1000000)=A / 1000000 from dZ (by unfold I64;omega),show wrap .i64 (A % 1000000)=A % 1000000 from dZ (by unfold I64;omega),I5 (by unfold I64;omega),I5 (by unfold I64;omega),
     show(0:Int) -A / 1000000=-(A / 1000000) by omega,show(0:Int) -A % 1000000=-(A % 1000000) by omega]
    cases ilt n 0 <;> rfl
 unfold lX
 by_cases h0:n<0
 ·have hk:=key (G5 .u64 0 (wrap .u64 n)) (by
   show IntKind.wrap .u64 (0 -IntKind.wrap .u64 n)=_
   unfold N7;rw[if_pos h0,qI,qI];omega)
  rw[F6 h0]at hk ⊢
  exact hk
 ·have hk:=key (wrap .u64 n) (by
   show IntKind.wrap .u64 n=_
   unfold N7;rw[if_neg h0,qI];omega)
  rw[E8 (by omega)]at hk ⊢
  exact hk
theorem a5y {len n:Int} (h1:1≤len) (h2:len≤1000000000000000) (hn:I64 n):lS len n=some (wH len n):=by
 unfold I64 at hn
 have hm:(l7 (ilt n 0) (some (x9 .u64 (wrap .u64 (G5 .i64 0 (x9 .i64 n 1))) 1)) (some (wrap .u64 n)))=some (N7 n):=by
  by_cases h0:n<0
  ·rw[F6 h0,o6,J6 (by unfold I64;omega),I5 (by unfold I64;omega),show wrap .u64 (0 -(n+1))=-n -1 from(xe (by omega) (by omega)).trans (by omega),show x9 .u64 (-n -1) 1=-n from(xe (by omega) (by omega)).trans (by omega)]
   unfold N7;rw[if_pos h0]
  ·rw[E8 (by omega),o5,show wrap .u64 n=n from xe (by omega) (by omega)]
   unfold N7;rw[if_neg h0]
 have m0:=dK n
 have m1:N7 n≤9223372036854775808:=by unfold N7;split <;> omega
 unfold lS wH
 rw[hm,o7]
 generalize N7 n=m at*
 have c1:V5 .u64 m 1000000=m / 1000000:=by unfold V5;rw[aC m0,xe (by omega) (by omega)]
 have c2:V6 m 1000000=m % 1000000:=qo m0
 have c3:wrap .i64 (m / 1000000)=m / 1000000:=dZ (by unfold I64;omega)
 have c4:wrap .i64 (m % 1000000)=m % 1000000:=dZ (by unfold I64;omega)
 have c5:V5 .i64 len 1000000=len / 1000000:=by rw[tV (by rw[aC (by omega)];unfold I64;omega),aC (by omega)]
 have c6:V6 len 1000000=len % 1000000:=qo (by omega)
 rw[c1,c2,c3,c4,c5,c6]
 have hmd:m=m / 1000000*1000000+m % 1000000:=by omega
 have b0:0≤m % 1000000:=by omega
 have b1:m % 1000000<1000000:=by omega
 have a0:0≤m / 1000000:=by omega
 have a1:m / 1000000≤9223372036855:=by omega
 have hA:len*m=(len*(m / 1000000)+len / 1000000*(m % 1000000))*1000000+len % 1000000*(m % 1000000):=by
  have e1:len*m=len*(m / 1000000)*1000000+len*(m % 1000000):=by
   calc len*m=len*(m / 1000000*1000000+m % 1000000):=by rw[←hmd]
    _=_:=by rw[Int.mul_add,Int.mul_assoc]
  have e2:len*(m % 1000000)=len / 1000000*(m % 1000000)*1000000+len % 1000000*(m % 1000000):=by
   calc len*(m % 1000000)=(len / 1000000*1000000+len % 1000000)*(m % 1000000):=by rw[show len / 1000000*1000000+len % 1000000=len by omega]
    _=_:=by rw[Int.add_mul,Int.mul_right_comm]
  rw[e1,e2];omega
 have l0:0≤len % 1000000*(m % 1000000):=Int.mul_nonneg (by omega) b0
 have l1:len % 1000000*(m % 1000000)≤1000000*1000000:=Int.mul_le_mul (by omega) (by omega) b0 (by omega)
 have p0:0≤len / 1000000*(m % 1000000):=Int.mul_nonneg (by omega) b0
 have p1:len / 1000000*(m % 1000000)≤1000000000*1000000:=Int.mul_le_mul (by omega) (by omega) b0 (by omega)
 have k0:0≤len*(m / 1000000):=Int.mul_nonneg (by omega) a0
 have c7:L9 .i64 (len % 1000000) (m % 1000000)=len % 1000000*(m % 1000000):=dL (by unfold I64;omega)
 have c8:L9 .i64 (len / 1000000) (m % 1000000)=len / 1000000*(m % 1000000):=dL (by unfold I64;omega)
 rw[c7,c8]
 have hdiv:len*m / 1000000=len*(m / 1000000)+len / 1000000*(m % 1000000)+len % 1000000*(m % 1000000) / 1000000:=by rw[hA];omega
 have hmod:len*m % 1000000=len % 1000000*(m % 1000000) % 1000000:=by rw[hA];omega
 rw[hdiv,hmod]
 have c9:V5 .i64 (len % 1000000*(m % 1000000)) 1000000=len % 1000000*(m % 1000000) / 1000000:=by rw[tV (by rw[aC l0];unfold I64;omega),aC l0]
 have c10:V6 (len % 1000000*(m % 1000000)) 1000000=len % 1000000*(m % 1000000) % 1000000:=qo l0
 rw[c9,c10]
 have tail:len*(m / 1000000)≤1000000000000000→l7 (ilt 1000000000000000 (x9 .i64 (x9 .i64 (L9 .i64 len (m / 1000000)) (len / 1000000*(m % 1000000))) (len % 1000000*(m % 1000000) / 1000000))) (some ((0:Int),(0:Int),false))
   (l7 (ilt n 0) (some (G5 .i64 0 (x9 .i64 (x9 .i64 (L9 .i64 len (m / 1000000)) (len / 1000000*(m % 1000000))) (len % 1000000*(m % 1000000) / 1000000)),G5 .i64 0 (len % 1000000*(m % 1000000) % 1000000),true)) (some (x9 .i64 (x9 .i64 (L9 .i64 len (m / 1000000)) (len / 1000000*(m % 1000000))) (len % 1000000*(m % 1000000) / 1000000),len % 1000000*(m % 1000000) % 1000000,true)))=
   some (l7 (ilt 1000000000000000 (len*(m / 1000000)+len / 1000000*(m % 1000000)+len % 1000000*(m % 1000000) / 1000000)) (0,0,false) (l7 (ilt n 0) (-(len*(m / 1000000)+len / 1000000*(m % 1000000)+len % 1000000*(m % 1000000) / 1000000),-(len % 1000000*(m % 1000000) % 1000000),true) (len*(m / 1000000)+len / 1000000*(m % 1000000)+len % 1000000*(m % 1000000) / 1000000,len % 1000000*(m % 1000000) % 1000000,true))):=by
  intro hle
  rw[dL (show I64 (len*(m / 1000000)) by unfold I64;omega)]
  generalize len*(m / 1000000)=K at*
  generalize len / 1000000*(m % 1000000)=P at*
  generalize len % 1000000*(m % 1000000)=L at*
  rw[J6 (show I64 (K+P) by unfold I64;omega),J6 (show I64 (K+P+L / 1000000) by unfold I64;omega),I5 (show I64 (0 -(K+P+L / 1000000)) by unfold I64;omega),I5 (show I64 (0 -L % 1000000) by unfold I64;omega),show(0:Int) -(K+P+L / 1000000)=-(K+P+L / 1000000) by omega,show(0:Int) -L % 1000000=-(L % 1000000) by omega]
  cases ilt 1000000000000000 (K+P+L / 1000000) <;> cases ilt n 0 <;> rfl
 by_cases ha:0<m / 1000000
 ·rw[F6 ha,o6,kT (by omega) (by omega) ha,o7]
  have hMx:=Int.ediv_mul_add_emod 1000000000000000 (m / 1000000)
  have hMr:=Int.emod_lt_of_pos 1000000000000000 ha
  have hMr0:=Int.emod_nonneg 1000000000000000 (show m / 1000000≠0 by omega)
  by_cases hc:1000000000000000 / (m / 1000000)<len
  ·have:=Int.mul_le_mul_of_nonneg_right (show 1000000000000000 / (m / 1000000)+1≤len by omega) a0
   rw[Int.add_mul,Int.one_mul]at this
   rw[F6 hc,F6 (show(1000000000000000:Int)<len*(m / 1000000)+len / 1000000*(m % 1000000)+len % 1000000*(m % 1000000) / 1000000 by omega)];rfl
  ·have:=Int.mul_le_mul_of_nonneg_right (show len≤1000000000000000 / (m / 1000000) by omega) a0
   rw[E8 (by omega),o5]
   exact tail (by omega)
 ·have:m / 1000000=0:=by omega
  rw[E8 (by omega),o5]
  exact tail (by rw[this];simp)
theorem PW {F R j:Int} {mode:Int} (hm:gu mode=true) (h1:-4000000000000000000≤F) (h2:F≤4000000000000000000) (h3:-2000000000000000000≤j) (h4:j≤2000000000000000000) (hR:0≤R) (hR2:R<1000000) (hs:0≤F↔0≤F+2*j):
  U3 (F+2*j) R 1000000 mode=(U3 F R 1000000 mode).map fun v=>v+2*j:=by
 have R0:∀F R:Int,U3 F R 1000000 0=l7 (ieq R 0) (some F) (some F):=fun F R=>rfl
 have R1:∀F R:Int,U3 F R 1000000 1=l7 (ieq R 0) (some F) (some (x9 .i64 F 1)):=fun F R=>rfl
 have R2:∀F R:Int,U3 F R 1000000 2=l7 (ieq R 0) (some F) (l9 (l7 (ilt F 0) (some true) (some false)) fun x=>l7 x (some (x9 .i64 F 1)) (some F)):=fun F R=>rfl
 have R3:∀F R:Int,U3 F R 1000000 3=l7 (ieq R 0) (some F) (l9 (some (ile 0 F)) fun x=>l7 x (some (x9 .i64 F 1)) (some F)):=fun F R=>rfl
 have R4:∀F R:Int,U3 F R 1000000 4=l7 (ieq R 0) (some F) (l7 (ieq R (G5 .i64 1000000 R)) (l7 (ile 0 F) (some (x9 .i64 F 1)) (some F)) (l7 (ilt (G5 .i64 1000000 R) R) (some (x9 .i64 F 1)) (some F))):=fun F R=>rfl
 have R5:∀F R:Int,U3 F R 1000000 5=l7 (ieq R 0) (some F) (l7 (ieq R (G5 .i64 1000000 R)) (l7 (D6 (ieq (V6 F 2) 0)) (some (x9 .i64 F 1)) (some F)) (l7 (ilt (G5 .i64 1000000 R) R) (some (x9 .i64 F 1)) (some F))):=fun F R=>rfl
 have hi:x9 .i64 F 1=F+1:=J6 (by unfold I64;omega)
 have hi2:x9 .i64 (F+2*j) 1=F+1+2*j:=by rw[J6 (by unfold I64;omega)];omega
 have hlt:ilt (F+2*j) 0=ilt F 0:=by
  by_cases h:0≤F
  ·rw[E8 h,E8 (hs.1 h)]
  ·rw[F6 (by omega),F6 (by have:=fun h' =>h (hs.2 h');omega)]
 have hle:ile 0 (F+2*j)=ile 0 F:=by rw[vW,vW,hlt]
 have hpar:ieq (V6 (F+2*j) 2) 0=ieq (V6 F 2) 0:=by
  unfold V6 ieq
  congr 1
  have e1:∀x:Int,x.tmod 2=0↔x % 2=0:=fun x=>by
   rw[←Int.dvd_iff_tmod_eq_zero,Int.dvd_iff_emod_eq_zero]
  simp only[e1]
  congr 1;omega
 rcases zH hm with rfl | rfl | rfl | rfl | rfl | rfl
 ·rw[R0,R0];cases ieq R 0 <;> rfl
 ·rw[R1,R1,hi,hi2];cases ieq R 0 <;> rfl
 ·rw[R2,R2,hi,hi2,hlt];cases ieq R 0 <;> cases ilt F 0 <;> rfl
 ·rw[R3,R3,hi,hi2,hle];cases ieq R 0 <;> cases ile 0 F <;> rfl
 ·rw[R4,R4,hi,hi2,hle];cases ieq R 0 <;> cases ieq R (G5 .i64 1000000 R) <;> cases ile 0 F <;> cases ilt (G5 .i64 1000000 R) R <;> rfl
 ·rw[R5,R5,hi,hi2,hpar];cases ieq R 0 <;> cases ieq R (G5 .i64 1000000 R) <;> cases ieq (V6 F 2) 0 <;> cases ilt (G5 .i64 1000000 R) R <;> rfl
theorem a3e {n j mode:Int} (hm:gu mode=true) (h1:-4000000000000000000≤n) (h2:n≤4000000000000000000) (h3:-2000000000000000≤j) (h4:j≤2000000000000000) (hs:0≤n↔0≤n+2*j*1000000):rnd (n+2*j*1000000) 1000000 mode=rnd n 1000000 mode+2*j:=by
 have a1:=zW (n:=n) (d:=1000000) (mode:=mode) (by omega) (by omega) (by omega) (by omega) hm
 have a2:=zW (n:=n+2*j*1000000) (d:=1000000) (mode:=mode) (by omega) (by omega) (by omega) (by omega) hm
 rw[show(n+2*j*1000000) / 1000000=n / 1000000+2*j by omega,show(n+2*j*1000000) % 1000000=n % 1000000 by omega,
  PW hm (by omega) (by omega) (by omega) (by omega) (by omega) (by omega) (by omega),a1]at a2
 exact(Option.some.inj a2).symm
def QU (W L mode:Int):Int×Int:=l7 (cO (rnd (W*1000000+L) 1000000 mode) 1000000000000000) (0,3) (rnd (W*1000000+L) 1000000 mode,0)
theorem Qi {V p L j mode:Int} (hm:gu mode=true) (hV:-2000000000000000≤V) (hV2:V≤2000000000000000) (hp:-3≤p) (hp2:p≤3) (hL:-1000000<L) (hL2:L<1000000) (hj:V -p=2*j) (hs:0≤p*1000000+L↔0≤V*1000000+L):
  (l9 (aV (x9 .i64 (L9 .i64 p 1000000) L) 1000000 mode) fun(x:Int×Int)=>l7 (D6 (ieq x.2 0)) (some ((0:Int),x.2)) (l7 (ilt (x9 .i64 (G5 .i64 V p) x.1) (-1000000000000000)) (some (0,3)) (l7 (ilt 1000000000000000 (x9 .i64 (G5 .i64 V p) x.1)) (some (0,3)) (some (x9 .i64 (G5 .i64 V p) x.1,0)))))=
  some (QU V L mode):=by
 rw[dL (show I64 (p*1000000) by unfold I64;omega),J6 (show I64 (p*1000000+L) by unfold I64;omega),I5 (show I64 (V -p) by unfold I64;omega),zx,o7]
 unfold XQ
 rw[hm,F5 (show(1000000:Int)≠0 by decide),Fh (by omega),Fh (by omega)]
 have hb:=YN (n:=p*1000000+L) (d:=1000000) mode (by omega)
 have hsh:=a3e (n:=p*1000000+L) (j:=j) hm (by omega) (by omega) (by omega) (by omega) (by rw[show p*1000000+L+2*j*1000000=V*1000000+L by omega];exact hs)
 rw[show p*1000000+L+2*j*1000000=V*1000000+L by omega]at hsh
 simp only[o6,o5,F8 (rfl:(0:Int)=0),x8]
 unfold QU cO
 rw[hsh,hj,J6 (show I64 (2*j+rnd (p*1000000+L) 1000000 mode) by unfold I64;omega),show rnd (p*1000000+L) 1000000 mode+2*j=2*j+rnd (p*1000000+L) 1000000 mode by omega]
 cases ilt (2*j+rnd (p*1000000+L) 1000000 mode) (-1000000000000000) <;> cases ilt 1000000000000000 (2*j+rnd (p*1000000+L) 1000000 mode) <;> rfl
theorem a1I {n d:Int} (hd:0<d):(0≤n→0≤n.tmod d∧n.tmod d<d)∧(n≤0→-d<n.tmod d∧n.tmod d≤0):=by
 refine⟨fun h=>?_,fun h=>?_⟩
 ·rw[Int.tmod_eq_emod_of_nonneg h]
  exact⟨Int.emod_nonneg n (by omega),Int.emod_lt_of_pos n hd⟩
 ·obtain⟨m,hm⟩:∃m,n=-m:=⟨-n,by omega⟩
  subst hm
  rw[Int.neg_tmod,Int.tmod_eq_emod_of_nonneg (by omega)]
  have:=Int.emod_nonneg m (show d≠0 by omega)
  have:=Int.emod_lt_of_pos m hd
  omega
theorem Xd {W L mode:Int} (hm:gu mode=true) (hW:-1000000000000000000≤W) (hW2:W≤1000000000000000000) (hL:-1000000000≤L) (hL2:L≤1000000000):uM W L mode=some (QU W L mode):=by
 unfold uM
 have hd:=Int.tdiv_mul_add_tmod L 1000000
 have htm:=a1I (n:=L) (d:=1000000) (by omega)
 have t1:V5 .i64 L 1000000=L.tdiv 1000000:=tV (by unfold I64;omega)
 have t2:V6 L 1000000=L.tmod 1000000:=rfl
 have hr1:-1000000<L.tmod 1000000:=by omega
 have hr2:L.tmod 1000000<1000000:=by omega
 rw[t1,t2,J6 (show I64 (W+L.tdiv 1000000) by unfold I64;omega)]
 have hT:W*1000000+L=(W+L.tdiv 1000000)*1000000+L.tmod 1000000:=by omega
 have hsum:QU W L mode=QU (W+L.tdiv 1000000) (L.tmod 1000000) mode:=by unfold QU;rw[hT]
 rw[hsum]
 have hVb:-2000000000000000000≤W+L.tdiv 1000000∧W+L.tdiv 1000000≤2000000000000000000:=by omega
 generalize W+L.tdiv 1000000=V at*
 generalize L.tmod 1000000=M at*
 have hb:=YN (n:=V*1000000+M) (d:=1000000) mode (by omega)
 by_cases c1:V< -2000000000000000
 ·rw[F6 c1,o6]
  unfold QU
  rw[Io.2 (by omega)];rfl
 by_cases c2:2000000000000000<V
 ·rw[E8 (by omega),o5,F6 c2,o6]
  unfold QU
  rw[Io.2 (by omega)];rfl
 rw[E8 (by omega),o5,E8 (by omega),o5]
 have t3:V6 V 2=V.tmod 2:=rfl
 rw[t3]
 have hv2:=Int.tdiv_mul_add_tmod V 2
 have htv:=a1I (n:=V) (d:=2) (by omega)
 by_cases c3:1<V
 ·rw[F6 c3,o6,J6 (show I64 (V.tmod 2+2) by unfold I64;omega)]
  exact Qi (j:=V.tdiv 2 -1) hm (by omega) (by omega) (by omega) (by omega) hr1 hr2 (by omega) (by omega)
 rw[E8 (by omega),o5]
 by_cases c4:V< -1
 ·rw[F6 c4,o6,I5 (show I64 (V.tmod 2 -2) by unfold I64;omega)]
  exact Qi (j:=V.tdiv 2+1) hm (by omega) (by omega) (by omega) (by omega) hr1 hr2 (by omega) (by omega)
 rw[E8 (by omega),o5]
 exact Qi (j:=V.tdiv 2) hm (by omega) (by omega) (by omega) (by omega) hr1 hr2 (by omega) (by omega)
theorem QN {W L mode:Int} (hm:gu mode=true) (hW:-1000000000000000000≤W) (hW2:W≤1000000000000000000) (hL:-1000000000≤L) (hL2:L≤1000000000):ww W L mode=some (rnd (W*1000000+L) 1000000 mode):=by
 unfold ww
 obtain⟨e,k1,k2⟩:=Z5 (f:=fun(x:Int×Int)=>l7 (ilt x.2 0) (some (.inl (G5 .i64 x.1 1,x9 .i64 x.2 1000000))) (some (.inr x)))
  (s:=(W,L)) (fun x=>x.1*1000000+x.2=W*1000000+L∧-1000000000≤x.2∧x.2≤1000000000∧-2000000000000000000≤x.1∧x.1≤2000000000000000000) (fun x=>x.1*1000000+x.2=W*1000000+L∧0≤x.2∧x.2≤1000000000∧-2000000000000000000≤x.1∧x.1≤2000000000000000000) (fun x=>(1000000000 -x.2).toNat) ⟨by rfl,hL,hL2,by omega,by omega⟩ (by omega) (by
  rintro⟨a,b⟩ ⟨h1,h2,h3,h4,h5⟩
  simp only at h1 h2 h3 h4 h5 ⊢
  by_cases hb:b<0
  ·left
   rw[F6 hb,o6,I5 (show I64 (a -1) by unfold I64;omega),J6 (show I64 (b+1000000) by unfold I64;omega)]
   exact⟨_,rfl,⟨by simp only;omega,by simp only;omega,by simp only;omega,by simp only;omega,by simp only;omega⟩,by simp only;omega⟩
  ·right
   rw[E8 (by omega)]
   exact⟨(a,b),rfl,h1,by omega,h3,h4,h5⟩)
 refine(dh k1 _).trans ?_
 obtain⟨a,b⟩:=e
 simp only at k2
 obtain⟨e,l1,l2⟩:=Z5 (f:=fun(x:Int×Int)=>l7 (ile 1000000 x.2) (some (.inl (x9 .i64 x.1 1,G5 .i64 x.2 1000000))) (some (.inr x)))
  (s:=(a,b)) (fun x=>x.1*1000000+x.2=W*1000000+L∧0≤x.2∧x.2≤1000000000∧-2000000000000000000≤x.1∧x.1≤2000000000000000000) (fun x=>x.1=(W*1000000+L) / 1000000∧x.2=(W*1000000+L) % 1000000) (fun x=>x.2.toNat) k2 (by simp only;omega) (by
  rintro⟨a,b⟩ ⟨h1,h2,h3,h4,h5⟩
  simp only at h1 h2 h3 h4 h5 ⊢
  by_cases hb:1000000≤b
  ·left
   rw[G7 hb,o6,J6 (show I64 (a+1) by unfold I64;omega),I5 (show I64 (b -1000000) by unfold I64;omega)]
   exact⟨_,rfl,⟨by simp only;omega,by simp only;omega,by simp only;omega,by simp only;omega,by simp only;omega⟩,by simp only;omega⟩
  ·right
   rw[G8 (by omega)]
   exact⟨(a,b),rfl,by simp only;omega,by simp only;omega⟩)
 refine(dh l1 _).trans ?_
 obtain⟨F,R⟩:=e
 simp only at l2 ⊢
 obtain⟨rfl,rfl⟩:=l2
 generalize hT:W*1000000+L=T at*
 have hid:N7 1000000=1000000:=rfl
 have hneg:D6 (bZ (ilt T 0) (ilt 1000000 0))=ilt T 0:=by rw[E8 (show(0:Int)≤1000000 by omega)];cases ilt T 0 <;> rfl
 by_cases h0:0≤T
 ·rw[G7 (show 0≤T / 1000000 by omega),o6,wL _ _ (by omega) (by omega) (by omega) (by omega) (by omega),o7]
  unfold rnd
  rw[hid,hneg,E8 h0,show N7 T=T by unfold N7;rw[if_neg (by omega)]]
 ·rw[G8 (show T / 1000000<0 by omega),o5]
  unfold rnd
  rw[hid,hneg,F6 (by omega),show N7 T=-T by unfold N7;rw[if_pos (by omega)]]
  by_cases hz:T % 1000000=0
  ·rw[F8 hz,o6]
   have hu:upS (-T / 1000000) (-T % 1000000) 1000000 true mode=false:=by unfold upS;rw[F8 (show -T % 1000000=0 by omega)];rfl
   rw[hu]
   show some (T / 1000000)=some (-(-T / 1000000))
   congr 1;omega
  ·rw[F5 hz,o5,I5 (show I64 (0 -T / 1000000) by unfold I64;omega),I5 (show I64 (0 -T / 1000000 -1) by unfold I64;omega),I5 (show I64 (1000000 -T % 1000000) by unfold I64;omega),wL _ _ (by omega) (by omega) (by omega) (by omega) (by omega),o7]
   rw[show 0 -T / 1000000 -1=-T / 1000000 by omega,show 1000000 -T % 1000000=-T % 1000000 by omega]
def ZL (r:uQ):Prop:=I64 r.2.1∧I64 r.2.2.1∧I64 r.2.2.2
def jk (t:Y1):Prop:=t.2.2.2.length≤200∧∀r∈t.2.2.2,ZL r
theorem TL {len n:Int} (h:(wH len n).2.2=true) (hl:0≤len):-1000000000000000≤(wH len n).1∧(wH len n).1≤1000000000000000∧-1000000≤(wH len n).2.1∧(wH len n).2.1≤1000000:=by
 have hA:0≤len*N7 n:=Int.mul_nonneg hl (dK n)
 unfold wH at*
 generalize len*N7 n=A at*
 cases h1:ilt 1000000000000000 (A / 1000000) <;> rw[h1]at h
 ·rw[X6]at h1
  cases ilt n 0
  ·simp only[o5];omega
  ·simp only[o5,o6];omega
 ·cases h
def brG (date c:Int) (b:Int×Int) (r:uQ):(Int×Int)⊕(Int×Int):=l7 (GR r.1 date) (l7 (ile (eX r.2.2.1 c) (fO r.2.1 0)) (.inl b)
 (l7 (wH (eX r.2.2.1 c -fO r.2.1 0) r.2.2.2).2.2 (.inl (b.1+(wH (eX r.2.2.1 c -fO r.2.1 0) r.2.2.2).1,b.2+(wH (eX r.2.2.1 c -fO r.2.1 0) r.2.2.2).2.1)) (.inr (0,3)))) (.inl b)
def a8w (t:Y1) (date c mode:Int):Int×Int:=l7 (gu mode) (l7 (aK (ieq t.2.1.1 3) (ieq t.2.1.2 0)) (l7 (aK (ieq t.2.2.1.1 4) (ieq t.2.2.1.2 0)) (l7 (cO c 1000000000000000) (0,3)
 (match az (brG date c) t.2.2.2 (0,0)with | .inl b=>QU b.1 b.2 mode | .inr r=>r)) (0,8)) (0,8)) (0,1)
def NE (i:Nat) (b:Int×Int):Prop:=-(1000000000000000*(i:Int))≤b.1∧b.1≤1000000000000000*(i:Int)∧-(1000000*(i:Int))≤b.2∧b.2≤1000000*(i:Int)
theorem NQ {r:uQ} {c:Int} (hr:ZL r) (hc:-1000000000000000≤c) (hc2:c≤1000000000000000) (h:ile (eX r.2.2.1 c) (fO r.2.1 0)=false):G5 .i64 (eX r.2.2.1 c) (fO r.2.1 0)=eX r.2.2.1 c -fO r.2.1 0∧1≤eX r.2.2.1 c -fO r.2.1 0∧eX r.2.2.1 c -fO r.2.1 0≤1000000000000000:=by
 obtain⟨h1,h2,h3⟩:=hr
 obtain⟨lo,hlo⟩:∃lo:Int,r.2.1=lo:=⟨_,rfl⟩
 obtain⟨hi,hhi⟩:∃hi:Int,r.2.2.1=hi:=⟨_,rfl⟩
 rw[hlo]at h h1 ⊢;rw[hhi]at h h2 ⊢
 rw[tN]at h
 have a1:0≤fO lo 0:=by unfold fO;split <;> omega
 have a2:eX hi c≤c:=by unfold eX;split <;> omega
 refine⟨I5 (by unfold I64;omega),by omega,by omega⟩
theorem a3S {date c:Int} {r:uQ} {b:Int×Int} {i:Nat} (hr:ZL r) (hc:-1000000000000000≤c) (hc2:c≤1000000000000000) (hi:i≤200) (hb:NE i b):∀b',brG date c b r= .inl b' →NE (i+1) b' :=by
 intro b' h
 unfold NE at*
 unfold brG at h
 cases h1:GR r.1 date <;> rw[h1]at h
 ·cases h;omega
 simp only[o6]at h
 cases h2:ile (eX r.2.2.1 c) (fO r.2.1 0) <;> rw[h2]at h
 ·obtain⟨_,g1,g2⟩:=NQ hr hc hc2 h2
  simp only[o5]at h
  cases h3:(wH (eX r.2.2.1 c -fO r.2.1 0) r.2.2.2).2.2 <;> rw[h3]at h
  ·cases h
  ·have hbd:=TL h3 (by omega)
   cases h
   simp only
   omega
 ·cases h;omega
theorem Vt {t:Y1} (date c mode:Int) (ht:jk t):uI t date c mode=some (a8w t date c mode):=by
 unfold uI a8w
 rw[Wu]
 cases hm:gu mode
 ·rfl
 simp only[o6,o7,D5]
 cases aK (ieq t.2.1.1 3) (ieq t.2.1.2 0)
 ·rfl
 cases aK (ieq t.2.2.1.1 4) (ieq t.2.2.1.2 0)
 ·rfl
 simp only[x8,o5,o6,o7,D5]
 have hbey:∀A B:Option (PUnit⊕(Int×Int)),l7 (ilt c (-1000000000000000)) A (l7 (ilt 1000000000000000 c) A B)=l7 (cO c 1000000000000000) A B:=fun A B=>by
  unfold cO;cases ilt c (-1000000000000000) <;> cases ilt 1000000000000000 c <;> rfl
 rw[hbey]
 cases hb:cO c 1000000000000000
 case true=>rfl
 have bb:=iD hb
 simp only[o5,o7,D5]
 refine fC t.2.2.2 (brG date c) (fun b i=>(b.1,b.2,i)) (fun b=>b) NE ((0,0):Int×Int) (by have:=ht.1;omega) (by unfold NE;simp) (fun i r b hr hi hI=>?_) (fun b hI=>?_) (fun hI=>?_)
 ·have hro:=ht.2 r (dN hr)
  have hlt:=(O5.1 hr).1
  have h200:=ht.1
  refine⟨?_,a3S hro bb.1 bb.2 (by omega) hI⟩
  simp only[H6 hr,o6,E9,hr,o7,zo]
  rw[O8 (by omega)]
  unfold brG
  cases GR r.1 date
  ·rfl
  simp only[x8,o5,o6]
  cases h2:ile (eX r.2.2.1 c) (fO r.2.1 0)
  case true=>rfl
  obtain⟨g0,g1,g2⟩:=NQ hro bb.1 bb.2 h2
  rw[g0,a8y g1 g2 hro.2.2]
  simp only[o5,o7]
  cases h3:(wH (eX r.2.2.1 c -fO r.2.1 0) r.2.2.2).2.2
  ·rfl
  ·have hbd:=TL h3 (by omega)
   unfold NE at hI
   rw[J6 (by unfold I64;omega),J6 (by unfold I64;omega)];rfl
 ·simp only[H5];rfl
 ·cases hf:az (brG date c) t.2.2.2 (0,0)with
  | inr r=>rfl
  | inl b=>
   have:=hI b hf
   unfold NE at this
   have h200:=ht.1
   simp only[D5]
   rw[Xd hm (by omega) (by omega) (by omega) (by omega)];rfl
theorem Ur {t:Y1} (date c mode:Int) (ht:jk t):uw t date c mode=some (a8w t date c mode):=by
 unfold uw a8w
 rw[Jg,o7]
 cases hm:gu mode
 ·rfl
 simp only[x8,o5,o6]
 cases aK (ieq t.2.1.1 3) (ieq t.2.1.2 0)
 ·rfl
 cases aK (ieq t.2.2.1.1 4) (ieq t.2.2.1.2 0)
 ·rfl
 simp only[x8,o5,o6,o7,D5]
 rw[kw c (by omega) (by omega),o7]
 cases hb:cO c 1000000000000000
 case true=>rfl
 have bb:=iD hb
 simp only[o5]
 refine fC t.2.2.2 (brG date c) (fun b i=>(b.1,b.2,i)) (fun b=>b) NE ((0,0):Int×Int) (by have:=ht.1;omega) (by unfold NE;simp) (fun i r b hr hi hI=>?_) (fun b hI=>?_) (fun hI=>?_)
 ·have hro:=ht.2 r (dN hr)
  have hlt:=(O5.1 hr).1
  have h200:=ht.1
  refine⟨?_,a3S hro bb.1 bb.2 (by omega) hI⟩
  simp only[H6 hr,o6,E9,hr,o7,CU]
  rw[O8 (by omega)]
  unfold brG
  cases h2:ile (eX r.2.2.1 c) (fO r.2.1 0)
  case true=>cases GR r.1 date <;> rfl
  simp only[o5]
  cases GR r.1 date
  ·rfl
  obtain⟨g0,g1,g2⟩:=NQ hro bb.1 bb.2 h2
  rw[g0,a5y g1 g2 hro.2.2]
  simp only[x8,o5,o6,o7]
  cases h3:(wH (eX r.2.2.1 c -fO r.2.1 0) r.2.2.2).2.2
  ·rfl
  ·have hbd:=TL h3 (by omega)
   unfold NE at hI
   rw[J6 (by unfold I64;omega),J6 (by unfold I64;omega)];rfl
 ·simp only[H5];rfl
 ·cases hf:az (brG date c) t.2.2.2 (0,0)with
  | inr r=>rfl
  | inl b=>
   have:=hI b hf
   unfold NE at this
   have h200:=ht.1
   simp only[D5]
   rw[QN hm (by omega) (by omega) (by omega) (by omega),o7,kw _ (by omega) (by omega),o7]
   unfold QU
   cases cO (rnd (b.1*1000000+b.2) 1000000 mode) 1000000000000000 <;> rfl
def a8K (r:uQ) (date key:Int):Bool:=l7 (GR r.1 date) (l7 (ile r.2.1 key) (ilt key r.2.2.1) false) false
def LH (rows:List uQ) (date key:Int) (i:Nat):Option (Int×Bool):=match rows[i]? with | some r=>l7 (a8K r date key) (some ((i:Int),true)) none | none=>none
def OQ (rows:List uQ) (date key:Int):Int×Bool:=match O9 rows.length (LH rows date key)with | some x=>x | none=>(0,false)
theorem a2s {t:Y1} (date key:Int) (ht:t.2.2.2.length≤1000000):xX t date key=some (OQ t.2.2.2 date key):=by
 unfold xX lY OQ
 rw[Y7]
 refine J5 (jw (p:=LH t.2.2.2 date key) t.2.2.2.length ht PUnit.unit (fun i hi=>?_) ?_) ?_
 rotate_left 2
 ·cases O9 t.2.2.2.length (LH t.2.2.2 date key) <;> rfl
 ·have e:=Y5 hi
  simp only[H6 e,o6,E9,e,o7,yZ,zo,LH,a8K]
  cases GR t.2.2.2[i].1 date
  ·rfl
  cases ile t.2.2.2[i].2.1 key
  ·rfl
  cases ilt key t.2.2.2[i].2.2.1 <;> rfl
 ·simp only[H5];rfl
theorem YH {t:Y1} (date key:Int) (ht:t.2.2.2.length≤1000000):xJ t date key=some (OQ t.2.2.2 date key):=by
 unfold xJ OQ
 refine J5 (jw (p:=LH t.2.2.2 date key) t.2.2.2.length ht PUnit.unit (fun i hi=>?_) ?_) ?_
 rotate_left 2
 ·cases O9 t.2.2.2.length (LH t.2.2.2 date key) <;> rfl
 ·have e:=Y5 hi
  simp only[H6 e,o6,E9,e,o7,AA,CU,LH,a8K]
  cases GR t.2.2.2[i].1 date
  ·rfl
  cases ile t.2.2.2[i].2.1 key
  ·rfl
  cases ilt key t.2.2.2[i].2.2.1 <;> rfl
 ·simp only[H5];rfl
theorem a4B {rows:List uQ} {date key i:Int} (h:OQ rows date key=(i,true)):0≤i∧i<o8 rows:=by
 unfold OQ at h
 split at h
 ·rename_i x hx
  subst h
  obtain⟨k,hk,hp⟩:=bn hx
  unfold LH at hp
  split at hp
  ·rename_i r hr
   cases hmb:a8K r date key <;> rw[hmb]at hp
   ·cases hp
   ·cases hp;simp only[o8];omega
  ·cases hp
 ·cases h
abbrev V3:Type:=Int×Int×Int
def yC (k:Int):Int×Int:=l7 (ieq k 1) (0,1) (l7 (ieq k 2) (-1000000000000,1000000000000) (l7 (ieq k 3) (-1000000000000000,1000000000000000) (l7 (ieq k 4) (-1000000000,1000000000) (l7 (ieq k 5) (0,109572) (l7 (ieq k 6) (0,15) (0,-1))))))
theorem ZY (k:Int):pF k=some (yC k):=by
 unfold pF yC
 cases ieq k 1 <;> cases ieq k 2 <;> cases ieq k 3 <;> cases ieq k 4 <;> cases ieq k 5 <;> cases ieq k 6 <;> rfl
def plB (v:V3):Bool:=l7 (ile (yC v.1).1 v.2.2) (l7 (ile v.2.2 (yC v.1).2) (l7 (ieq v.1 6) (l7 (ile 0 v.2.1) (ilt v.2.1 8) false) (ieq v.2.1 0)) false) false
theorem D7 (v:V3):Y2 v=some (plB v):=by
 unfold Y2 plB
 rw[ZY,o7,iF,iF]
 cases ile (yC v.1).1 v.2.2
 ·rfl
 cases ile v.2.2 (yC v.1).2
 ·rfl
 cases ieq v.1 6
 ·rfl
 cases ile 0 v.2.1 <;> rfl
theorem D9 (v:V3):af v=some (plB v):=by
 obtain⟨k,e,n⟩:=v
 unfold af plB
 simp only
 by_cases h6:k=6
 ·subst h6
  rw[show yC 6=(0,15)from rfl,F8 (rfl:(6:Int)=6)]
  simp only[x8,o5,o7,D5,F5 (show(6:Int)≠1 by decide),F5 (show(6:Int)≠2 by decide),F5 (show(6:Int)≠3 by decide),F5 (show(6:Int)≠4 by decide),F5 (show(6:Int)≠5 by decide),o6]
  rw[show ilt n 16=ile n 15 by unfold ilt ile;congr 1;simp;omega]
  cases ile 0 e <;> cases ilt e 8 <;> cases ile 0 n <;> cases ile n 15 <;> rfl
 rw[F5 h6]
 simp only[E5,o6,o5]
 by_cases he:e=0
 case neg=>
  rw[F5 he]
  simp only[E5,o6,o7,H7]
  cases ile (yC k).1 n <;> cases ile n (yC k).2 <;> rfl
 rw[F8 he]
 simp only[x8,o5,o7,D5]
 by_cases h1:k=1
 ·subst h1
  rw[show yC 1=(0,1)from rfl]
  simp only[F8 (rfl:(1:Int)=1),o6]
  by_cases n0:n=0
  ·subst n0;rfl
  by_cases n1:n=1
  ·subst n1;rfl
  rw[F5 n0,F5 n1]
  by_cases g:0≤n
  ·rw[G7 g,G8 (by omega)];rfl
  ·rw[G8 (by omega)];rfl
 rw[F5 h1,o5]
 by_cases h2:k=2
 ·subst h2
  rw[show yC 2=(-1000000000000,1000000000000)from rfl,F8 (rfl:(2:Int)=2)]
  simp only[o6]
  cases ile (-1000000000000) n <;> cases ile n 1000000000000 <;> rfl
 rw[F5 h2,o5]
 by_cases h3:k=3
 ·subst h3
  rw[show yC 3=(-1000000000000000,1000000000000000)from rfl,F8 (rfl:(3:Int)=3)]
  simp only[o6]
  cases ile (-1000000000000000) n <;> cases ile n 1000000000000000 <;> rfl
 rw[F5 h3,o5]
 by_cases h4:k=4
 ·subst h4
  rw[show yC 4=(-1000000000,1000000000)from rfl,F8 (rfl:(4:Int)=4)]
  simp only[o6]
  cases ile (-1000000000) n <;> cases ile n 1000000000 <;> rfl
 rw[F5 h4,o5]
 by_cases h5:k=5
 ·subst h5
  rw[show yC 5=(0,109572)from rfl,F8 (rfl:(5:Int)=5)]
  simp only[o6]
  cases ile 0 n <;> cases ile n 109572 <;> rfl
 rw[F5 h5,o5,show yC k=(0,-1) by unfold yC;rw[F5 h1,F5 h2,F5 h3,F5 h4,F5 h5,F5 h6];rfl]
 simp only[o5]
 by_cases g:0≤n
 ·rw[G7 g,G8 (show(-1:Int)<n by omega)];rfl
 ·rw[G8 (show n<0 by omega)];rfl
def PV (v:V3):Prop:=(∃n,v=(1,0,n)∧(n=0∨n=1))∨(∃n,v=(2,0,n)∧-1000000000000≤n∧n≤1000000000000)∨(∃n,v=(3,0,n)∧-1000000000000000≤n∧n≤1000000000000000)∨(∃n,v=(4,0,n)∧-1000000000≤n∧n≤1000000000)∨(∃n,v=(5,0,n)∧0≤n∧n≤109572)∨(∃e n,v=(6,e,n)∧0≤n∧n≤15)
theorem YD {v:V3} (h:plB v=true):PV v:=by
 obtain⟨k,e,n⟩:=v
 unfold plB at h
 simp only at h
 cases h1:ile (yC k).1 n <;> rw[h1]at h
 ·cases h
 cases h2:ile n (yC k).2 <;> rw[h2]at h
 ·cases h
 simp only[o6]at h
 rw[fM]at h1 h2
 unfold PV
 by_cases k6:k=6
 ·subst k6
  rw[show yC 6=(0,15)from rfl]at h1 h2
  exact .inr (.inr (.inr (.inr (.inr ⟨e,n,rfl,h1,h2⟩))))
 rw[F5 k6,o5,N8]at h
 subst h
 by_cases k1:k=1
 ·subst k1
  rw[show yC 1=(0,1)from rfl]at h1 h2
  exact .inl ⟨n,rfl,by simp only at h1 h2;omega⟩
 by_cases k2:k=2
 ·subst k2;exact .inr (.inl ⟨n,rfl,h1,h2⟩)
 by_cases k3:k=3
 ·subst k3;exact .inr (.inr (.inl ⟨n,rfl,h1,h2⟩))
 by_cases k4:k=4
 ·subst k4;exact .inr (.inr (.inr (.inl ⟨n,rfl,h1,h2⟩)))
 by_cases k5:k=5
 ·subst k5;exact .inr (.inr (.inr (.inr (.inl ⟨n,rfl,h1,h2⟩))))
 ·rw[show yC k=(0,-1) by unfold yC;rw[F5 k1,F5 k2,F5 k3,F5 k4,F5 k5,F5 k6];rfl]at h1 h2
  simp only at h1 h2;omega
def zh (v:V3):V3×Int:=l7 (plB v) (v,0) ((0,0,0),3)
def Qu (v:V3) (c:Int):V3×Int:=l7 (ieq c 0) (zh v) ((0,0,0),c)
theorem I9 (k n:Int):U4 k n=some (zh (k,0,n)):=by
 unfold U4 zh
 rw[D7,o7]
 cases plB (k,0,n) <;> rfl
theorem J3 (k n c:Int):iY k n c=some (Qu (k,0,n) c):=by
 unfold iY Qu
 cases ieq c 0
 ·rfl
 simp only[x8,o5,o6]
 rw[I9];rfl
def d3S (b:Bool):V3×Int:=((1,0,l7 b 1 0),0)
theorem G9 (b:Bool):iI b=some (d3S b):=by cases b <;> rfl
theorem I4 (b:Bool):iT b=some (1,0,l7 b 1 0):=by cases b <;> rfl
theorem H9 (b:Bool):zh (1,0,l7 b 1 0)=d3S b:=by cases b <;> rfl
def a2f (c:Option (V3×Int)):Option (V3×Int):=l9 c fun(x:V3×Int)=>l7 (D6 (ieq x.2 0)) (some ((0,0,0),x.2)) (l9 (af x.1) fun(x_1:Bool)=>l7 (D6 x_1) (some ((0,0,0),3)) (some (x.1,0)))
theorem G6 (v:V3) (c:Int):a2f (some (v,c))=some (Qu v c):=by
 unfold a2f Qu zh
 simp only[o7]
 cases ieq c 0
 ·rfl
 simp only[x8,o5,o6]
 rw[D9,o7]
 cases plB v <;> rfl
theorem L6 (v:V3):Qu v 0=zh v:=rfl
def EP (n:Int×Int) (args:List V3) (env:P9):Option (V3×Int):=l9 (N9 n args env) fun(x:Bool)=>l7 (D6 x) (some ((0,0,0),8)) (a2f (O0 n args env))
def RP (a0:Int×Int) (a1:List V3) (a2:P9):Option (V3×Int):=
 l7 (ieq (o8 a1) 0) (l7 (ile 36 a0.1) (l7 (ile a0.1 39) (l9 (qE a0 a2) fun(x:V3×Int)=>some x) (l9 (di a0 a2) fun(x:V3×Int)=>some x)) (l9 (di a0 a2) fun(x:V3×Int)=>some x))
  (l7 (ieq (o8 a1) 1) (l9 (lat a1 0) fun(x:V3)=>l9 (jO a0 x a2) fun(x:V3×Int)=>some x)
  (l7 (ieq (o8 a1) 2) (l9 (lat a1 0) fun(x:V3)=>l9 (lat a1 1) fun(x_1:V3)=>l9 (ay a0 x x_1) fun(x:V3×Int)=>some x)
  (l9 (lat a1 0) fun(x:V3)=>l9 (lat a1 1) fun(x_1:V3)=>l9 (lat a1 2) fun(x_2:V3)=>l7 (D6 (ieq x.1 1)) (some ((0,0,0),8)) (l7 (D6 (ieq x_1.1 x_2.1)) (some ((0,0,0),8)) (l7 (D6 (ieq x_1.2.1 x_2.2.1)) (some ((0,0,0),8)) (l7 (ieq x.2.2 1) (some (x_1,0)) (some (x_2,0))))))))
def aP (n:Int×Int) (args:List V3) (env:P9):Prop:=∃r:V3×Int,RP n args env=some r∧EP n args env=some r
theorem ll0:o8 ([]:List V3)=0:=rfl
theorem ll1 (a:V3):o8 [a]=1:=rfl
theorem ll2 (a b:V3):o8 [a,b]=2:=rfl
theorem ll3 (a b c:V3):o8 [a,b,c]=3:=rfl
theorem la0 (a:V3) (l:List V3):lat (a::l) 0=some a:=rfl
theorem la1 (a b:V3) (l:List V3):lat (a::b::l) 1=some b:=rfl
theorem la2 (a b c:V3) (l:List V3):lat (a::b::c::l) 2=some c:=rfl
theorem Ij (k N:Int) (env:P9) (hk:k=1∨k=2∨k=3∨k=4∨k=5):aP (k,N) [] env:=by
 rcases hk with rfl | rfl | rfl | rfl | rfl <;>
 ·unfold aP RP di EP N9 O0
  simp (disch:=decide) only[F8,F5,G7,G8,F6,E8,o6,o5,o7,D5,H7,x8,E5,ll0,ll1,ll2,ll3,la0,la1,la2,I9,J3,D7,D9,G6,L6,G9,I4,H9]
  exact⟨_,rfl,rfl⟩
theorem c6F (N:Int) (env:P9):aP (6,N) [] env:=by
 unfold aP RP di EP N9 O0
 simp (disch:=decide) only[F8,F5,G7,G8,F6,E8,o6,o5,o7,D5,H7,x8,E5,ll0,ll1,ll2,ll3,la0,la1,la2,I9,J3,D7,D9,G6,L6,G9,I4,H9]
 unfold zh
 cases plB (6,V5 IntKind.i64 N 16,V6 N 16) <;> exact⟨_,rfl,rfl⟩
theorem c6I (N:Int) (env:P9):aP (9,N) [] env:=by
 unfold aP RP di EP N9 O0
 simp (disch:=decide) only[F8,F5,G7,G8,F6,E8,o6,o5,o7,D5,H7,x8,E5,ll0,ll1,ll2,ll3,la0,la1,la2,I9,J3,D7,D9,G6,L6,G9,I4,H9]
 exact⟨_,rfl,rfl⟩
theorem b8u (N:Int) (env:P9):aP (35,N) [] env:=by
 unfold aP RP di EP N9 O0
 simp (disch:=decide) only[F8,F5,G7,G8,F6,E8,o6,o5,o7,D5,H7,x8,E5,ll0,ll1,ll2,ll3,la0,la1,la2,I9,J3,D7,D9,G6,L6,G9,I4,H9]
 exact⟨_,rfl,rfl⟩
theorem c6G (N:Int) (env:P9) (h:aT (7,N) env=some true):aP (7,N) [] env:=by
 unfold aT at h
 simp (disch:=decide) only[F8,F5,o6,o5]at h
 by_cases g:0≤N
 case neg=>rw[G8 (by omega)]at h;cases h
 rw[G7 g,o6]at h
 have h2:=Y4.1 (Option.some.inj h)
 obtain⟨x,hx,hm⟩:=cZ g h2
 unfold aP RP di EP N9 O0
 simp (disch:=decide) only[F8,F5,G7,G8,F6,E8,o6,o5,o7,D5,H7,x8,E5,ll0,ll1,ll2,ll3,la0,la1,la2,I9,J3,D7,D9,G6,L6,G9,I4,H9]
 rw[hx]
 simp (disch:=decide) only[F8,F5,G7,G8,F6,E8,o6,o5,o7,D5,H7,x8,E5,ll0,ll1,ll2,ll3,la0,la1,la2,I9,J3,D7,D9,G6,L6,G9,I4,H9]
 unfold zh
 cases plB x <;> exact⟨_,rfl,rfl⟩
theorem c6H (N:Int) (env:P9) (h:aT (8,N) env=some true):aP (8,N) [] env:=by
 unfold aT at h
 simp (disch:=decide) only[F8,F5,o6,o5]at h
 by_cases g:0≤N
 case neg=>rw[G8 (by omega)]at h;cases h
 rw[G7 g,o6]at h
 by_cases h2:N<o8 env.2.2.1
 case neg=>rw[E8 (by omega)]at h;cases h
 obtain⟨x,hx,hm⟩:=cZ g h2
 unfold aP RP di EP N9 O0
 simp (disch:=decide) only[F8,F5,G7,G8,F6,E8,o6,o5,o7,D5,H7,x8,E5,ll0,ll1,ll2,ll3,la0,la1,la2,I9,J3,D7,D9,G6,L6,G9,I4,H9]
 rw[hx]
 simp (disch:=decide) only[F8,F5,G7,G8,F6,E8,o6,o5,o7,D5,H7,x8,E5,ll0,ll1,ll2,ll3,la0,la1,la2,I9,J3,D7,D9,G6,L6,G9,I4,H9]
 unfold zh
 cases plB x <;> exact⟨_,rfl,rfl⟩
def Ha (k:Int) (t:Int×Int):Bool:=l7 (ieq t.2 0) (l7 (ieq k 36) (l7 (ieq t.1 2) true (ieq t.1 3)) (l7 (ieq k 39) (l7 (ile 2 t.1) (ile t.1 5) false) (ieq t.1 1))) false
theorem Uo (k:Int) (t:Int×Int):wz k t=some (Ha k t):=by
 unfold wz Ha
 cases ieq t.2 0 <;> cases ieq k 36 <;> cases ieq k 39 <;> cases ieq t.1 2 <;> cases ile 2 t.1 <;> rfl
theorem vG (t:Int):jW t=some (l7 (ile 2 t) (ile t 4) false):=by
 unfold jW
 by_cases h2:t=2
 ·subst h2;rfl
 by_cases h3:t=3
 ·subst h3;rfl
 by_cases h4:t=4
 ·subst h4;rfl
 rw[F5 h2,F5 h3,F5 h4]
 by_cases g:2≤t
 ·rw[G7 g,G8 (by omega)];rfl
 ·rw[G8 (by omega)];rfl
theorem yO (t:Int):uB t=some (l7 (ile 2 t) (ile t 4) false):=vG t
theorem QE (k:Int) (t:Int×Int):lK k t=some (Ha k t):=by
 unfold lK Ha
 cases ieq t.2 0
 ·rfl
 cases ieq k 36
 ·cases ieq k 39
  ·rfl
  ·rw[vG]
   simp only[x8,o5,o6,o7]
   by_cases g:2≤t.1
   ·rw[G7 g]
    simp only[o6]
    by_cases g4:t.1≤4
    ·rw[G7 g4,G7 (show t.1≤5 by omega)];rfl
    ·rw[G8 (by omega)]
     by_cases g5:t.1=5
     ·rw[F8 g5,G7 (by omega)];rfl
     ·rw[F5 g5,G8 (by omega)];rfl
   ·rw[G8 (by omega),F5 (by omega)];rfl
 ·cases ieq t.1 2 <;> rfl
def MW (v:V3) (t:Int×Int):Bool:=l7 (plB v) (l7 (ieq v.1 t.1) (ieq v.2.1 t.2) false) false
theorem OE (v:V3) (t:Int×Int):tJ v t=some (MW v t):=by
 unfold tJ MW;rw[D9,o7]
 cases plB v <;> cases ieq v.1 t.1 <;> rfl
theorem a5A (v:V3) (t:Int×Int):FO v t=some (MW v t):=by
 unfold FO MW;rw[D7,o7]
 cases plB v <;> cases ieq v.1 t.1 <;> rfl
def Bf (k a b:Int) (first:Bool):Int:=l7 (ieq k 36) (x9 .i64 a b) (l7 (ieq k 37) (L9 .i64 a b) (l7 (ieq k 38) (l7 (ilt a b) b a) (l7 first b (l7 (ilt a b) b a))))
theorem a5z (k a b:Int) (f:Bool):CZ k a b f=some (Bf k a b f):=by
 unfold CZ Bf
 cases ieq k 36 <;> cases ieq k 37 <;> cases ieq k 38 <;> cases f <;> cases ilt a b <;> rfl
def Ub (m:List V3) (N:Int) (t:Int×Int):V3⊕Int:=
 match lat m N with
 | none=> .inr 6
 | some x=>l7 (ieq x.1 0) (.inr 6) (l7 (MW x t) (.inl x) (.inr 8))
def Ar (k N:Int) (t:Int×Int) (b:Int×Bool) (m:List V3):(Int×Bool)⊕(V3×Int):=
 match Ub m N t with
 | .inr c=> .inr ((0,0,0),c)
 | .inl x=>l7 (plB (t.1,0,Bf k b.1 x.2.2 b.2)) (.inl (Bf k b.1 x.2.2 b.2,false)) (.inr ((0,0,0),3))
def a0t (k N:Int) (t:Int×Int) (ms:List (List V3)):V3×Int:=
 l7 (Ha k t) (match az (Ar k N t) ms (l7 (ieq k 37) 1 0,true)with
  | .inr c=>c
  | .inl a=>l7 (ieq k 39) (l7 (ieq (o8 ms) 0) ((0,0,0),6) (zh (t.1,0,a.1))) (zh (t.1,0,a.1))) ((0,0,0),8)
theorem WS (k N:Int) (env:P9) (t:Int×Int) (ht:lat env.2.2.2.2.1 N=some t) (h0:0≤N) (hl:env.2.2.2.1.length≤1000000):qE (k,N) env=some (a0t k N t env.2.2.2.1):=by
 unfold qE a0t
 simp only[ht,o7,Uo]
 cases Ha k t
 ·rfl
 simp only[x8,o5,o6]
 rw[show l7 (ieq k 37) (some (1:Int)) (some 0)=some (l7 (ieq k 37) 1 0) by cases ieq k 37 <;> rfl,o7]
 apply fC env.2.2.2.1 (Ar k N t) (fun b i=>(((0,0,0),b.1,i):V3×Int×Int)) (fun b=>(((0,0,0),b.1):V3×Int)) (fun i b=>b.2=decide (i=0)) (l7 (ieq k 37) 1 0,true) hl rfl
 ·intro i m b hi hi' hb
  have hm:=E9 env.2.2.2.1 i
  rw[hi]at hm
  have hlt:(i:Int)<o8 env.2.2.2.1:=by
   have:=O5.1 hi;obtain⟨h,_⟩:=this;unfold o8;omega
  simp only[F6 hlt,o6,hm,o7]
  refine⟨?_,?_⟩
  ·unfold Ar Ub
   by_cases g:o8 m≤N
   ·rw[G7 g,iq (.inr (E8 g))];rfl
   ·rw[G8 (by omega)]
    obtain⟨x,hx,_⟩:=cZ h0 (show N<o8 m by omega)
    simp only[o5,hx,o7]
    cases ieq x.1 0
    case true=>rfl
    simp only[o5,o7,D5,a5A]
    cases MW x t
    ·rfl
    simp only[x8,o5,o6,a5z,o7,I9]
    have hz:ieq (i:Int) 0=b.2:=by rw[hb];unfold ieq;congr 1;simp
    rw[hz]
    unfold zh
    cases plB (t.1,0,Bf k b.1 x.2.2 b.2)
    ·rfl
    ·rw[O8 (by omega)];rfl
  ·intro b' hb'
   unfold Ar at hb'
   cases hf:Ub m N t with
   | inr c=>rw[hf]at hb';cases hb'
   | inl x=>
    rw[hf]at hb'
    simp only at hb'
    cases hp:plB (t.1,0,Bf k b.1 x.2.2 b.2) <;> rw[hp]at hb' <;> cases hb'
    simp
 ·intro b hb
  rw[E8 (show o8 env.2.2.2.1≤(env.2.2.2.1.length:Int)from Int.le_refl _)]
  rfl
 ·intro _
  cases az (Ar k N t) env.2.2.2.1 (l7 (ieq k 37) 1 0,true)with
  | inr c=>rfl
  | inl a=>
   simp only[D5,I9,o7]
   cases ieq k 39 <;> cases ieq (o8 env.2.2.2.1) 0 <;> rfl
theorem Yi {x:V3} {t:Int×Int} (h:MW x t=true):plB x=true∧x.1=t.1∧x.2.1=t.2:=by
 unfold MW at h
 cases h1:plB x <;> rw[h1]at h
 ·cases h
 cases h2:ieq x.1 t.1 <;> rw[h2]at h
 ·cases h
 simp only[o6]at h
 exact⟨rfl,N8.1 h2,N8.1 h⟩
theorem FI {k:Int} (hk:k=1) {n:Int} (h:plB (k,0,n)=true):n=0∨n=1:=by
 subst hk
 rcases YD h with⟨m,h,g⟩ | ⟨m,h,g⟩ | ⟨m,h,g⟩ | ⟨m,h,g⟩ | ⟨m,h,g⟩ | ⟨e',m,h,g⟩ <;> cases h
 exact g
theorem JZ {k:Int} {t:Int×Int} (h:Ha k t=true):t.2=0:=by
 unfold Ha at h
 cases g:ieq t.2 0 <;> rw[g]at h
 ·cases h
 exact N8.1 g
theorem a0s {t:Int×Int} (h:Ha 37 t=true):t.1=1:=by
 have:=JZ h
 unfold Ha at h
 rw[F8 this]at h
 exact N8.1 h
theorem a2K (k N:Int) (t:Int×Int) (hk:k=36∨k=37∨k=38∨k=39) (ha:Ha k t=true) (b:Int×Bool) (x:V3) (hx:MW x t=true) (i:Nat) (hi:i≤1000000) (hb:b.2=decide (i=0)) (hp:k=36∨b.2=true∧k=39∨plB (t.1,0,b.1)=true) (v:V3) (hv:v=(0,0,0)):
  (l7 (ieq k 36) (l9 (af (t.1,t.2,x9 .i64 b.1 x.2.2)) fun(q:Bool)=>l7 (D6 q) (some (Out.rt (((0,0,0),3):V3×Int))) (some (Out.nx ((v,(t.1,t.2,x9 .i64 b.1 x.2.2),x9 .i64 (i:Int) 1):V3×V3×Int))))
   (l7 (ieq k 37) (some (Out.nx (v,(t.1,t.2,eX b.1 x.2.2),x9 .i64 (i:Int) 1)))
    (l7 (ieq k 38) (some (Out.nx (v,(t.1,t.2,fO b.1 x.2.2),x9 .i64 (i:Int) 1)))
     (l7 (ieq k 39) (l7 (ieq (i:Int) 0) (some (Out.nx (v,x,x9 .i64 (i:Int) 1))) (l7 (ilt b.1 x.2.2) (some (Out.nx (v,x,x9 .i64 (i:Int) 1))) (some (Out.nx (v,(t.1,t.2,b.1),x9 .i64 (i:Int) 1)))))
      (some (Out.nx (v,(t.1,t.2,b.1),x9 .i64 (i:Int) 1)))))):Option (Out (V3×V3×Int) (V3×V3) (V3×Int)))=
  some (match(l7 (plB (t.1,0,Bf k b.1 x.2.2 b.2)) (.inl (Bf k b.1 x.2.2 b.2,false)) (.inr ((0,0,0),3)):(Int×Bool)⊕(V3×Int))with | .inl b' => .nx ((0,0,0),(t.1,t.2,b'.1),((i+1:Nat):Int)) | .inr r=> .rt r)∧
  (k≠36→plB (t.1,0,Bf k b.1 x.2.2 b.2)=true):=by
 subst hv
 have hz:=JZ ha
 obtain⟨hx1,hx2,hx3⟩:=Yi hx
 have hxe:x=(t.1,t.2,x.2.2):=by rw[←hx2,←hx3]
 have hxp:plB (t.1,0,x.2.2)=true:=by rw[←hz,←hxe];exact hx1
 obtain⟨acc,fi⟩:=b
 simp only at hb hp ⊢
 rw[O8 (by omega)]
 rcases hk with rfl | rfl | rfl | rfl
 ·refine⟨?_,fun h=>absurd rfl h⟩
  simp (disch:=decide) only[F8,o6,D9,o7]
  rw[hz,show Bf 36 acc x.2.2 fi=x9 .i64 acc x.2.2 from rfl]
  cases plB (t.1,0,x9 .i64 acc x.2.2) <;> rfl
 ·have ht1:=a0s ha
  have hp' :plB (t.1,0,acc)=true:=by
   rcases hp with h | h | h
   ·exact absurd h (by decide)
   ·exact absurd h.2 (by decide)
   ·exact h
  have e1:=FI ht1 hp'
  have e2:=FI ht1 hxp
  have e3:Bf 37 acc x.2.2 fi=eX acc x.2.2∧plB (t.1,0,Bf 37 acc x.2.2 fi)=true:=by
   rw[ht1]
   generalize x.2.2=q at e2 ⊢
   rcases e1 with rfl | rfl <;> rcases e2 with rfl | rfl <;> exact⟨rfl,rfl⟩
  refine⟨?_,fun _=>e3.2⟩
  simp (disch:=decide) only[F8,F5,o6,o5]
  rw[e3.2,e3.1,o6]
 ·have ht1:t.1=1:=by
   unfold Ha at ha
   rw[F8 hz]at ha
   exact N8.1 ha
  have hp' :plB (t.1,0,acc)=true:=by
   rcases hp with h | h | h
   ·exact absurd h (by decide)
   ·exact absurd h.2 (by decide)
   ·exact h
  have e1:=FI ht1 hp'
  have e2:=FI ht1 hxp
  have e3:Bf 38 acc x.2.2 fi=fO acc x.2.2∧plB (t.1,0,Bf 38 acc x.2.2 fi)=true:=by
   rw[ht1]
   generalize x.2.2=q at e2 ⊢
   rcases e1 with rfl | rfl <;> rcases e2 with rfl | rfl <;> exact⟨rfl,rfl⟩
  refine⟨?_,fun _=>e3.2⟩
  simp (disch:=decide) only[F8,F5,o6,o5]
  rw[e3.2,e3.1,o6]
 ·have hf:Bf 39 acc x.2.2 fi=l7 fi x.2.2 (l7 (ilt acc x.2.2) x.2.2 acc):=rfl
  simp (disch:=decide) only[F8,F5,o6,o5]
  rw[hf]
  have hz' :ieq (i:Int) 0=fi:=by rw[hb];unfold ieq;congr 1;simp
  rw[hz']
  cases fi
  case true=>
   simp only[o6,hxp]
   exact⟨by rw[←hxe],fun _=>trivial⟩
  case false=>
   have hp' :plB (t.1,0,acc)=true:=by
    rcases hp with h | h | h
    ·exact absurd h (by decide)
    ·exact absurd h.1 (by simp)
    ·exact h
   simp only[o5]
   cases ilt acc x.2.2
   ·simp only[o5,hp',o6];exact⟨trivial,fun _=>trivial⟩
   ·simp only[o6,hxp];exact⟨by rw[←hxe],fun _=>trivial⟩
theorem a2g {γ:Type} (c:Option γ) (K:γ→Option (V3×Int)):a2f (l9 c K)=l9 c fun o=>a2f (K o):=by cases c <;> rfl
theorem rY {α β ρ:Type} (G:β→α→β⊕ρ) (P:ρ→Prop) (hG:∀b a r,G b a= .inr r→P r):∀(l:List α) (b:β) (r:ρ),az G l b= .inr r→P r
 | [],b,r,h=>by cases h
 | a::l,b,r,h=>by
  unfold az at h
  cases hg:G b a with
  | inr r' =>rw[hg]at h;simp only at h;cases h;exact hG _ _ _ hg
  | inl b' =>rw[hg]at h;exact rY G P hG l b' r h
theorem a4G (k N:Int) (t:Int×Int) (b:Int×Bool) (m:List V3) (r:V3×Int) (h:Ar k N t b m= .inr r):r=((0,0,0),6)∨r=((0,0,0),8)∨r=((0,0,0),3):=by
 unfold Ar at h
 cases hf:Ub m N t with
 | inr c=>
  rw[hf]at h;simp only at h;cases h
  unfold Ub at hf
  cases hm:lat m N with
  | none=>rw[hm]at hf;cases hf;exact .inl rfl
  | some x=>
   rw[hm]at hf;simp only at hf
   cases h1:ieq x.1 0 <;> rw[h1]at hf
   ·cases h2:MW x t <;> rw[h2]at hf <;> cases hf
    exact .inr (.inl rfl)
   ·cases hf;exact .inl rfl
 | inl x=>
  rw[hf]at h;simp only at h
  cases h1:plB (t.1,0,Bf k b.1 x.2.2 b.2) <;> rw[h1]at h <;> cases h
  exact .inr (.inr rfl)
theorem Nh (k N:Int) (env:P9) (hk:k=36∨k=37∨k=38∨k=39) (he:aT (k,N) env=some true) (hl:env.2.2.2.1.length≤1000000):aP (k,N) [] env:=by
 have hN:0≤N∧N<o8 env.2.2.2.2.1:=by
  unfold aT at he
  rcases hk with rfl | rfl | rfl | rfl <;>
  ·simp (disch:=decide) only[F8,F5,o6,o5,o7]at he
   by_cases g:0≤N
   case neg=>rw[G8 (by omega)]at he;cases he
   rw[G7 g,o6]at he
   exact⟨g,Y4.1 (Option.some.inj he)⟩
 obtain⟨t,ht,_⟩:=cZ hN.1 hN.2
 refine⟨a0t k N t env.2.2.2.1,?_,?_⟩
 ·unfold RP
  rw[ll0,show ile 36 k=true from G7 (by omega),show ile k 39=true from G7 (by omega),WS k N env t ht hN.1 hl]
  rfl
 have hA:N9 (k,N) [] env=some (Ha k t):=by
  unfold N9
  rcases hk with rfl | rfl | rfl | rfl <;>
  ·simp (disch:=decide) only[F8,F5,o6,o5,o7,ht,QE,H7]
 have hC:O0 (k,N) [] env=kQ (k,N) env:=by
  unfold O0
  rcases hk with rfl | rfl | rfl | rfl <;>
  ·simp (disch:=decide) only[F8,F5,o6,o5,o7]
   generalize kQ _ env=o
   cases o <;> rfl
 unfold EP
 rw[hA,o7,hC]
 unfold a0t
 cases ha:Ha k t
 ·rfl
 simp only[x8,o5,o6]
 have hz:=JZ ha
 unfold kQ
 simp only[ht,o7]
 rw[show l7 (ieq k 37) (some (t.1,t.2,(1:Int))) (some (t.1,t.2,0))=some (t.1,t.2,l7 (ieq k 37) 1 0) by cases ieq k 37 <;> rfl,o7]
 have hinit:k=36∨(true=true∧k=39)∨plB (t.1,0,l7 (ieq k 37) 1 0)=true:=by
  rcases hk with rfl | rfl | rfl | rfl
  ·exact .inl rfl
  ·right;right;rw[a0s ha];rfl
  ·right;right
   have ht1:t.1=1:=by
    unfold Ha at ha
    rw[F8 hz]at ha
    exact N8.1 ha
   rw[ht1];rfl
  ·exact .inr (.inl ⟨rfl,rfl⟩)
 by_cases hz0:k=39∧o8 env.2.2.2.1=0
 ·rw[F8 hz0.1,F8 hz0.2]
  have:env.2.2.2.1=[]:=by have:=hz0.2;unfold o8 at this;exact List.length_eq_zero_iff.1 (by omega)
  rw[this];rfl
 rw[show(l7 (ieq k 39) (l7 (ieq (o8 env.2.2.2.1) 0) (some (Sum.inr (((0,0,0),6):V3×Int))) (some (Sum.inl ((0,0,0):V3)))) (some (Sum.inl (0,0,0))))=some (.inl (0,0,0)) by
  by_cases h1:k=39
  ·rw[F8 h1,F5 (fun h=>hz0 ⟨h1,h⟩)];rfl
  ·rw[F5 h1];rfl]
 simp only[o7,D5]
 have hend:(match az (Ar k N t) env.2.2.2.1 (l7 (ieq k 37) 1 0,true)with
  | .inr c=>c
  | .inl a=>l7 (ieq k 39) (l7 (ieq (o8 env.2.2.2.1) 0) ((0,0,0),6) (zh (t.1,0,a.1))) (zh (t.1,0,a.1)))=(match az (Ar k N t) env.2.2.2.1 (l7 (ieq k 37) 1 0,true)with
  | .inr c=>c
  | .inl a=>zh (t.1,0,a.1)):=by
  cases az (Ar k N t) env.2.2.2.1 (l7 (ieq k 37) 1 0,true)with
  | inr c=>rfl
  | inl a=>
   by_cases h1:k=39
   ·rw[F8 h1,F5 (fun h=>hz0 ⟨h1,h⟩)];rfl
   ·rw[F5 h1];rfl
 refine Eq.trans ?_ (congrArg some hend.symm)
 rw[a2g]
 apply fC env.2.2.2.1 (Ar k N t) (fun b i=>(((0,0,0),(t.1,t.2,b.1),i):V3×V3×Int)) (fun b=>(((0,0,0),(t.1,t.2,b.1)):V3×V3)) (fun i b=>b.2=decide (i=0)∧(k=36∨(b.2=true∧k=39)∨plB (t.1,0,b.1)=true)) (l7 (ieq k 37) 1 0,true) hl ⟨rfl,hinit⟩
 ·intro i m b hi hi' hb
  have hm:=E9 env.2.2.2.1 i
  rw[hi]at hm
  have hlt:(i:Int)<o8 env.2.2.2.1:=by
   have:=O5.1 hi;obtain⟨h,_⟩:=this;unfold o8;omega
  simp only[F6 hlt,o6,hm,o7]
  by_cases g:o8 m≤N
  ·have e:Ar k N t b m= .inr ((0,0,0),6):=by unfold Ar Ub;rw[iq (.inr (E8 g))]
   rw[e]
   refine⟨?_,fun _ h=>by cases h⟩
   rw[G7 g];rfl
  rw[G8 (by omega)]
  obtain⟨x,hx,_⟩:=cZ hN.1 (show N<o8 m by omega)
  simp only[o5,hx,o7]
  cases h0:ieq x.1 0
  case true=>
   have e:Ar k N t b m= .inr ((0,0,0),6):=by unfold Ar Ub;rw[hx];simp only[h0];rfl
   rw[e]
   exact⟨rfl,fun _ h=>by cases h⟩
  simp only[o5,o7,D5,OE]
  cases hh:MW x t
  ·have e:Ar k N t b m= .inr ((0,0,0),8):=by unfold Ar Ub;rw[hx];simp only[h0,hh];rfl
   rw[e]
   exact⟨rfl,fun _ h=>by cases h⟩
  have e:Ar k N t b m=l7 (plB (t.1,0,Bf k b.1 x.2.2 b.2)) (.inl (Bf k b.1 x.2.2 b.2,false)) (.inr ((0,0,0),3)):=by unfold Ar Ub;rw[hx];simp only[h0,hh,o6,o5]
  obtain⟨s1,s2⟩:=a2K k N t hk ha b x hh i hi' hb.1 hb.2 (0,0,0) rfl
  refine⟨?_,?_⟩
  ·rw[e,x8,o5]
   refine Eq.trans (Eq.trans ?_ s1) ?_
   ·rfl
   ·cases plB (t.1,0,Bf k b.1 x.2.2 b.2) <;> rfl
  ·intro b' hb'
   rw[e]at hb'
   cases hp:plB (t.1,0,Bf k b.1 x.2.2 b.2) <;> rw[hp]at hb' <;> cases hb'
   exact⟨by simp,.inr (.inr hp)⟩
 ·intro b hb
  rw[E8 (show o8 env.2.2.2.1≤(env.2.2.2.1.length:Int)from Int.le_refl _)]
  rfl
 ·intro hf
  cases hq:az (Ar k N t) env.2.2.2.1 (l7 (ieq k 37) 1 0,true)with
  | inr c=>
   rcases rY (Ar k N t) (fun r=>r=((0,0,0),6)∨r=((0,0,0),8)∨r=((0,0,0),3)) (a4G k N t) _ _ _ hq with rfl | rfl | rfl <;> rfl
  | inl a=>
   simp only[D5,G6,L6,hz]
theorem a0E {k e n:Int} (hk:k=5) (h:plB (k,e,n)=true):0≤n∧n≤109572:=by
 subst hk
 rcases YD h with⟨m,h,g⟩ | ⟨m,h,g⟩ | ⟨m,h,g⟩ | ⟨m,h,g⟩ | ⟨m,h,g⟩ | ⟨e',m,h,g⟩ <;> cases h
 exact g
theorem b8i (N:Int) (x:V3) (env:P9):aP (10,N) [x] env:=by
 unfold aP RP EP jO N9 O0 yF jH
 simp (disch:=decide) only[F8,F5,G7,G8,F6,E8,o6,o5,o7,D5,H7,x8,E5,ll0,ll1,ll2,ll3,la0,la1,la2,I9,J3,D7,D9,G6,L6,G9,I4,H9]
 simp only[yO,vG,o7]
 cases l7 (ile 2 x.1) (ile x.1 4) false
 ·exact⟨_,rfl,rfl⟩
 ·simp (disch:=decide) only[F8,F5,G7,G8,F6,E8,o6,o5,o7,D5,H7,x8,E5,ll0,ll1,ll2,ll3,la0,la1,la2,I9,J3,D7,D9,G6,L6,G9,I4,H9];exact⟨_,rfl,rfl⟩
theorem b8n (N:Int) (x:V3) (env:P9):aP (25,N) [x] env:=by
 unfold aP RP EP jO N9 O0 yF jH
 simp (disch:=decide) only[F8,F5,G7,G8,F6,E8,o6,o5,o7,D5,H7,x8,E5,ll0,ll1,ll2,ll3,la0,la1,la2,I9,J3,D7,D9,G6,L6,G9,I4,H9]
 cases ieq x.1 1
 ·exact⟨_,rfl,rfl⟩
 ·simp (disch:=decide) only[F8,F5,G7,G8,F6,E8,o6,o5,o7,D5,H7,x8,E5,ll0,ll1,ll2,ll3,la0,la1,la2,I9,J3,D7,D9,G6,L6,G9,I4,H9];exact⟨_,rfl,rfl⟩
theorem ZV (k N:Int) (x:V3) (env:P9) (hk:k=31∨k=32) (hx:plB x=true):aP (k,N) [x] env:=by
 have hAB:∃q:Int×Int×Int,x.1=5→nR x.2.2=some q∧sJ x.2.2=some q:=⟨_,fun h=>⟨vU (a0E h hx).1 (a0E h hx).2,EC (a0E h hx).1 (a0E h hx).2⟩⟩
 obtain⟨q,hAB⟩:=hAB
 rcases hk with rfl | rfl
 all_goals
  unfold aP RP EP jO N9 O0 yF jH
  simp (disch:=decide) only[F8,F5,G7,G8,F6,E8,o6,o5,o7,D5,H7,x8,E5,ll0,ll1,ll2,ll3,la0,la1,la2,I9,J3,D7,D9,G6,L6,G9,I4,H9]
  cases h5:ieq x.1 5
  ·simp only[E5,o6,o7,H7];exact⟨_,rfl,rfl⟩
  rw[(hAB (N8.1 h5)).1,(hAB (N8.1 h5)).2]
  simp (disch:=decide) only[F8,F5,G7,G8,F6,E8,o6,o5,o7,D5,H7,x8,E5,ll0,ll1,ll2,ll3,la0,la1,la2,I9,J3,D7,D9,G6,L6,G9,I4,H9]
  exact⟨_,rfl,rfl⟩
theorem b8s (N:Int) (x:V3) (env:P9) (hx:plB x=true) (he:aT (33,N) env=some true) (ht:∀t∈env.2.2.2.2.2,jk t):aP (33,N) [x] env:=by
 unfold aT at he
 simp (disch:=decide) only[F8,F5,o6,o5,o7]at he
 by_cases g:0≤N
 case neg=>rw[G8 (by omega)]at he;cases he
 rw[G7 g,o6]at he
 obtain⟨t,hq,hm⟩:=cZ g (Y4.1 (Option.some.inj he))
 have hr:=ht t hm
 unfold aP RP EP jO N9 O0 Dc
 simp (disch:=decide) only[F8,F5,G7,G8,F6,E8,o6,o5,o7,D5,H7,x8,E5,ll0,ll1,ll2,ll3,la0,la1,la2,I9,J3,D7,D9,G6,L6,G9,I4,H9]
 simp only[hq,o7,OE,MW,hx,o6]
 by_cases h1:x.1=t.2.1.1
 case neg=>rw[F5 h1];exact⟨_,rfl,rfl⟩
 rw[F8 h1]
 by_cases h2:x.2.1=t.2.1.2
 case neg=>rw[F5 h2];exact⟨_,rfl,rfl⟩
 rw[F8 h2]
 by_cases h3:1≤t.2.2.1.1
 case neg=>rw[G8 (Int.not_le.1 h3),F6 (Int.not_le.1 h3)];exact⟨_,rfl,rfl⟩
 rw[G7 h3,E8 h3]
 by_cases h4:t.2.2.1.1≤6
 case neg=>rw[G8 (Int.not_le.1 h4),F6 (Int.not_le.1 h4)];exact⟨_,rfl,rfl⟩
 rw[G7 h4,E8 h4]
 simp (disch:=decide) only[F8,F5,G7,G8,F6,E8,o6,o5,o7,D5,H7,x8,E5,ll0,ll1,ll2,ll3,la0,la1,la2,I9,J3,D7,D9,G6,L6,G9,I4,H9]
 rw[a2s _ _ (by have:=hr.1;omega),YH _ _ (by have:=hr.1;omega)]
 simp (disch:=decide) only[F8,F5,G7,G8,F6,E8,o6,o5,o7,D5,H7,x8,E5,ll0,ll1,ll2,ll3,la0,la1,la2,I9,J3,D7,D9,G6,L6,G9,I4,H9]
 cases hl:OQ t.2.2.2 env.1 x.2.2 with
 | mk i b=>
  cases b
  ·exact⟨_,rfl,rfl⟩
  ·obtain⟨l1,l2⟩:=a4B hl
   obtain⟨row,hrow,_⟩:=cZ l1 l2
   simp (disch:=decide) only[F8,F5,G7,G8,F6,E8,o6,o5,o7,D5,H7,x8,E5,ll0,ll1,ll2,ll3,la0,la1,la2,I9,J3,D7,D9,G6,L6,G9,I4,H9]
   rw[hrow]
   simp (disch:=decide) only[F8,F5,G7,G8,F6,E8,o6,o5,o7,D5,H7,x8,E5,ll0,ll1,ll2,ll3,la0,la1,la2,I9,J3,D7,D9,G6,L6,G9,I4,H9]
   unfold zh
   cases plB (t.2.2.1.1,t.2.2.1.2,row.2.2.2) <;> exact⟨_,rfl,rfl⟩
theorem b8t (N:Int) (x:V3) (env:P9) (h0:0≤N) (hI:N≤9223372036854775807) (he:aT (34,N) env=some true) (ht:∀t∈env.2.2.2.2.2,jk t):aP (34,N) [x] env:=by
 unfold aT at he
 simp (disch:=decide) only[F8,F5,o6,o5,o7]at he
 have hq0:0≤V5 .i64 N 8:=by
  rw[show V5 .i64 N 8=N / 8 by
   unfold V5;rw[Int.tdiv_eq_ediv_of_nonneg h0];exact dZ (by unfold I64;omega)]
  omega
 obtain⟨t,hq,hm⟩:=cZ hq0 (Y4.1 (Option.some.inj he))
 have hr:=ht t hm
 unfold aP RP EP jO N9 O0
 simp (disch:=decide) only[F8,F5,G7,G8,F6,E8,o6,o5,o7,D5,H7,x8,E5,ll0,ll1,ll2,ll3,la0,la1,la2,I9,J3,D7,D9,G6,L6,G9,I4,H9]
 simp only[hq,o7]
 cases ieq x.1 3
 ·exact⟨_,rfl,rfl⟩
 cases ieq t.2.1.1 3
 ·exact⟨_,rfl,rfl⟩
 cases ieq t.2.1.2 0
 ·exact⟨_,rfl,rfl⟩
 cases ieq t.2.2.1.1 4
 ·exact⟨_,rfl,rfl⟩
 cases ieq t.2.2.1.2 0
 ·exact⟨_,rfl,rfl⟩
 simp (disch:=decide) only[F8,F5,G7,G8,F6,E8,o6,o5,o7,D5,H7,x8,E5,ll0,ll1,ll2,ll3,la0,la1,la2,I9,J3,D7,D9,G6,L6,G9,I4,H9]
 rw[show aK true true=true from rfl]
 simp (disch:=decide) only[F8,F5,G7,G8,F6,E8,o6,o5,o7,D5,H7,x8,E5,ll0,ll1,ll2,ll3,la0,la1,la2,I9,J3,D7,D9,G6,L6,G9,I4,H9]
 rw[Vt _ _ _ hr,Ur _ _ _ hr]
 simp (disch:=decide) only[F8,F5,G7,G8,F6,E8,o6,o5,o7,D5,H7,x8,E5,ll0,ll1,ll2,ll3,la0,la1,la2,I9,J3,D7,D9,G6,L6,G9,I4,H9]
 exact⟨_,rfl,rfl⟩
theorem Nu (x y:V3):jX x y=some (l7 (ieq x.1 y.1) (ieq x.2.1 y.2.1) false):=by
 unfold jX;cases ieq x.1 y.1 <;> rfl
theorem ZQ (k N:Int) (x y:V3) (env:P9) (hk:k=11∨k=12):aP (k,N) [x,y] env:=by
 rcases hk with rfl | rfl
 all_goals
  (unfold aP RP EP N9 O0 bV P7 ay;simp (disch:=decide) only[F8,F5,G7,G8,F6,E8,o6,o5,o7,D5,H7,x8,E5,ll0,ll1,ll2,ll3,la0,la1,la2,I9,J3,D7,D9,G6,L6,G9,I4,H9])
  unfold iW
  simp (disch:=decide) only[F8,F5,G7,G8,F6,E8,o6,o5,o7,D5,H7,x8,E5,ll0,ll1,ll2,ll3,la0,la1,la2,I9,J3,D7,D9,G6,L6,G9,I4,H9]
  simp only[Nu,vG,yO,o7]
  cases ieq x.1 y.1
  ·exact⟨_,rfl,rfl⟩
  cases ieq x.2.1 y.2.1
  ·exact⟨_,rfl,rfl⟩
  cases l7 (ile 2 x.1) (ile x.1 4) false
  ·exact⟨_,rfl,rfl⟩
  simp (disch:=decide) only[F8,F5,G7,G8,F6,E8,o6,o5,o7,D5,H7,x8,E5,ll0,ll1,ll2,ll3,la0,la1,la2,I9,J3,D7,D9,G6,L6,G9,I4,H9]
  exact⟨_,rfl,rfl⟩
theorem a3F (k N:Int) (x y:V3) (env:P9) (hk:k=19∨k=20):aP (k,N) [x,y] env:=by
 rcases hk with rfl | rfl
 all_goals
  (unfold aP RP EP N9 O0 bV P7 ay;simp (disch:=decide) only[F8,F5,G7,G8,F6,E8,o6,o5,o7,D5,H7,x8,E5,ll0,ll1,ll2,ll3,la0,la1,la2,I9,J3,D7,D9,G6,L6,G9,I4,H9])
  unfold iW
  simp (disch:=decide) only[F8,F5,G7,G8,F6,E8,o6,o5,o7,D5,H7,x8,E5,ll0,ll1,ll2,ll3,la0,la1,la2,I9,J3,D7,D9,G6,L6,G9,I4,H9]
  simp only[Nu,vG,yO,o7]
  cases ieq x.1 y.1
  ·exact⟨_,rfl,rfl⟩
  cases ieq x.2.1 y.2.1
  ·exact⟨_,rfl,rfl⟩
  simp (disch:=decide) only[F8,F5,G7,G8,F6,E8,o6,o5,o7,D5,H7,x8,E5,ll0,ll1,ll2,ll3,la0,la1,la2,I9,J3,D7,D9,G6,L6,G9,I4,H9]
  exact⟨_,rfl,rfl⟩
theorem ZU (k N:Int) (x y:V3) (env:P9) (hk:k=21∨k=22):aP (k,N) [x,y] env:=by
 rcases hk with rfl | rfl
 all_goals
  (unfold aP RP EP N9 O0 bV P7 ay;simp (disch:=decide) only[F8,F5,G7,G8,F6,E8,o6,o5,o7,D5,H7,x8,E5,ll0,ll1,ll2,ll3,la0,la1,la2,I9,J3,D7,D9,G6,L6,G9,I4,H9])
  unfold iW
  simp (disch:=decide) only[F8,F5,G7,G8,F6,E8,o6,o5,o7,D5,H7,x8,E5,ll0,ll1,ll2,ll3,la0,la1,la2,I9,J3,D7,D9,G6,L6,G9,I4,H9]
  simp only[Nu,vG,yO,o7]
  cases ieq x.1 y.1
  ·exact⟨_,rfl,rfl⟩
  cases ieq x.2.1 y.2.1
  ·exact⟨_,rfl,rfl⟩
  simp (disch:=decide) only[F8,F5,G7,G8,F6,E8,o6,o5,o7,D5,H7,x8,E5,ll0,ll1,ll2,ll3,la0,la1,la2,I9,J3,D7,D9,G6,L6,G9,I4,H9]
  cases l7 (ile 2 x.1) (ile x.1 4) false
  ·simp (disch:=decide) only[F8,F5,G7,G8,F6,E8,o6,o5,o7,D5,H7,x8,E5,ll0,ll1,ll2,ll3,la0,la1,la2,I9,J3,D7,D9,G6,L6,G9,I4,H9]
   cases ieq x.1 5
   ·exact⟨_,rfl,rfl⟩
   simp (disch:=decide) only[F8,F5,G7,G8,F6,E8,o6,o5,o7,D5,H7,x8,E5,ll0,ll1,ll2,ll3,la0,la1,la2,I9,J3,D7,D9,G6,L6,G9,I4,H9]
   exact⟨_,rfl,rfl⟩
  simp (disch:=decide) only[F8,F5,G7,G8,F6,E8,o6,o5,o7,D5,H7,x8,E5,ll0,ll1,ll2,ll3,la0,la1,la2,I9,J3,D7,D9,G6,L6,G9,I4,H9]
  exact⟨_,rfl,rfl⟩
theorem NK (k N:Int) (x y:V3) (env:P9) (hk:k=17∨k=18) (hx:plB x=true) (hy:plB y=true):aP (k,N) [x,y] env:=by
 have mx:zh x=(x,0):=by unfold zh;rw[hx];rfl
 have my:zh y=(y,0):=by unfold zh;rw[hy];rfl
 have hE:x.1=y.1→x.2.1=y.2.1→x.2.2=y.2.2→x=y:=fun h1 h2 h3=>by rw[show x=(x.1,x.2.1,x.2.2)from rfl,h1,h2,h3]
 have fin:x.1=y.1→x.2.1=y.2.1→∀b:Bool,(∃r:V3×Int,l7 (bZ b (ilt x.2.2 y.2.2)) (some (x,0)) (some (y,0))=some r∧a2f (l7 (bZ b (ilt y.2.2 x.2.2)) (some (y,0)) (some (x,0)))=some r):=by
  intro h1 h2 b
  by_cases g:x.2.2<y.2.2
  ·rw[F6 g,E8 (Int.le_of_lt g)]
   cases b
   ·exact⟨(y,0),rfl,by rw[show l7 (bZ false false) (some (y,(0:Int))) (some (x,0))=some (y,0)from rfl,G6,L6,my]⟩
   ·exact⟨(x,0),rfl,by rw[show l7 (bZ true false) (some (y,(0:Int))) (some (x,0))=some (x,0)from rfl,G6,L6,mx]⟩
  by_cases g' :y.2.2<x.2.2
  ·rw[F6 g',E8 (Int.le_of_lt g')]
   cases b
   ·exact⟨(x,0),rfl,by rw[show l7 (bZ false true) (some (y,(0:Int))) (some (x,0))=some (x,0)from rfl,G6,L6,mx]⟩
   ·exact⟨(y,0),rfl,by rw[show l7 (bZ true true) (some (y,(0:Int))) (some (x,0))=some (y,0)from rfl,G6,L6,my]⟩
  have e:=hE h1 h2 (Int.le_antisymm (Int.not_lt.1 g') (Int.not_lt.1 g))
  refine⟨(x,0),?_,?_⟩
  ·rw[e];cases bZ b (ilt y.2.2 y.2.2) <;> rfl
  ·rw[←e]
   rw[show l7 (bZ b (ilt x.2.2 x.2.2)) (some (x,(0:Int))) (some (x,0))=some (x,0) by cases bZ b (ilt x.2.2 x.2.2) <;> rfl,G6,L6,mx]
 have osum:∀(c:Bool),(l9 (l7 c (some (Sum.inr (y,(0:Int)):V3⊕(V3×Int))) (some (.inr (x,0)))) fun o=>J9 o (fun _=>l9 (gK x.2.2 y.2.2) fun(q:Int)=>some ((2,0,q),(0:Int))) fun r=>some r)=l7 c (some (y,0)) (some (x,0)):=fun c=>by cases c <;> rfl
 rcases hk with rfl | rfl
 all_goals
  (unfold aP RP EP N9 O0 bV P7 ay;simp (disch:=decide) only[F8,F5,G7,G8,F6,E8,o6,o5,o7,D5,H7,x8,E5,ll0,ll1,ll2,ll3,la0,la1,la2,I9,J3,D7,D9,G6,L6,G9,I4,H9])
  unfold iW
  simp (disch:=decide) only[F8,F5,G7,G8,F6,E8,o6,o5,o7,D5,H7,x8,E5,ll0,ll1,ll2,ll3,la0,la1,la2,I9,J3,D7,D9,G6,L6,G9,I4,H9]
  simp only[Nu,vG,yO,o7]
  cases g1:ieq x.1 y.1
  ·exact⟨_,rfl,rfl⟩
  cases g2:ieq x.2.1 y.2.1
  ·exact⟨_,rfl,rfl⟩
  simp (disch:=decide) only[F8,F5,G7,G8,F6,E8,o6,o5,o7,D5,H7,x8,E5,ll0,ll1,ll2,ll3,la0,la1,la2,I9,J3,D7,D9,G6,L6,G9,I4,H9]
  have F:=fin (N8.1 g1) (N8.1 g2)
  rw[osum]
  cases l7 (ile 2 x.1) (ile x.1 4) false
  ·simp (disch:=decide) only[F8,F5,G7,G8,F6,E8,o6,o5,o7,D5,H7,x8,E5,ll0,ll1,ll2,ll3,la0,la1,la2,I9,J3,D7,D9,G6,L6,G9,I4,H9]
   cases ieq x.1 5
   ·exact⟨_,rfl,rfl⟩
   simp (disch:=decide) only[F8,F5,G7,G8,F6,E8,o6,o5,o7,D5,H7,x8,E5,ll0,ll1,ll2,ll3,la0,la1,la2,I9,J3,D7,D9,G6,L6,G9,I4,H9]
   simp only[Y7];first | exact F true | exact F false
  simp (disch:=decide) only[F8,F5,G7,G8,F6,E8,o6,o5,o7,D5,H7,x8,E5,ll0,ll1,ll2,ll3,la0,la1,la2,I9,J3,D7,D9,G6,L6,G9,I4,H9]
  simp only[Y7];first | exact F true | exact F false
theorem b8o (N:Int) (x y:V3) (env:P9):aP (27,N) [x,y] env:=by
 (unfold aP RP EP N9 O0 bV P7 ay;simp (disch:=decide) only[F8,F5,G7,G8,F6,E8,o6,o5,o7,D5,H7,x8,E5,ll0,ll1,ll2,ll3,la0,la1,la2,I9,J3,D7,D9,G6,L6,G9,I4,H9])
 unfold oG
 simp (disch:=decide) only[F8,F5,G7,G8,F6,E8,o6,o5,o7,D5,H7,x8,E5,ll0,ll1,ll2,ll3,la0,la1,la2,I9,J3,D7,D9,G6,L6,G9,I4,H9]
 cases g1:ieq x.1 5
 ·exact⟨_,rfl,rfl⟩
 cases ieq y.1 2
 ·exact⟨_,rfl,rfl⟩
 simp (disch:=decide) only[F8,F5,G7,G8,F6,E8,o6,o5,o7,D5,H7,x8,E5,ll0,ll1,ll2,ll3,la0,la1,la2,I9,J3,D7,D9,G6,L6,G9,I4,H9]
 rw[N8.1 g1]
 exact⟨_,rfl,rfl⟩
theorem b8p (N:Int) (x y:V3) (env:P9):aP (28,N) [x,y] env:=by
 have hA:∃q,kN x.2.2 y.2.2=some q∧eH x.2.2 y.2.2=some q:=⟨_,Ii _ _,Gw _ _⟩
 obtain⟨q,h1,h2⟩:=hA
 (unfold aP RP EP N9 O0 bV P7 ay;simp (disch:=decide) only[F8,F5,G7,G8,F6,E8,o6,o5,o7,D5,H7,x8,E5,ll0,ll1,ll2,ll3,la0,la1,la2,I9,J3,D7,D9,G6,L6,G9,I4,H9])
 unfold oG
 simp (disch:=decide) only[F8,F5,G7,G8,F6,E8,o6,o5,o7,D5,H7,x8,E5,ll0,ll1,ll2,ll3,la0,la1,la2,I9,J3,D7,D9,G6,L6,G9,I4,H9]
 cases g1:ieq x.1 5
 ·exact⟨_,rfl,rfl⟩
 cases ieq y.1 2
 ·exact⟨_,rfl,rfl⟩
 simp (disch:=decide) only[F8,F5,G7,G8,F6,E8,o6,o5,o7,D5,H7,x8,E5,ll0,ll1,ll2,ll3,la0,la1,la2,I9,J3,D7,D9,G6,L6,G9,I4,H9]
 rw[h1,h2]
 simp (disch:=decide) only[F8,F5,G7,G8,F6,E8,o6,o5,o7,D5,H7,x8,E5,ll0,ll1,ll2,ll3,la0,la1,la2,I9,J3,D7,D9,G6,L6,G9,I4,H9]
 exact⟨_,rfl,rfl⟩
theorem b8q (N:Int) (x y:V3) (env:P9):aP (29,N) [x,y] env:=by
 (unfold aP RP EP N9 O0 bV P7 ay;simp (disch:=decide) only[F8,F5,G7,G8,F6,E8,o6,o5,o7,D5,H7,x8,E5,ll0,ll1,ll2,ll3,la0,la1,la2,I9,J3,D7,D9,G6,L6,G9,I4,H9])
 unfold oG
 simp (disch:=decide) only[F8,F5,G7,G8,F6,E8,o6,o5,o7,D5,H7,x8,E5,ll0,ll1,ll2,ll3,la0,la1,la2,I9,J3,D7,D9,G6,L6,G9,I4,H9]
 cases g1:ieq x.1 5
 ·exact⟨_,rfl,rfl⟩
 cases ieq y.1 5
 ·exact⟨_,rfl,rfl⟩
 simp (disch:=decide) only[F8,F5,G7,G8,F6,E8,o6,o5,o7,D5,H7,x8,E5,ll0,ll1,ll2,ll3,la0,la1,la2,I9,J3,D7,D9,G6,L6,G9,I4,H9]
 exact⟨_,rfl,rfl⟩
theorem b8r (N:Int) (x y:V3) (env:P9):aP (30,N) [x,y] env:=by
 have hA:∃q,gK x.2.2 y.2.2=some q∧iV x.2.2 y.2.2=some q:=⟨_,Nb _ _,KA _ _⟩
 obtain⟨q,h1,h2⟩:=hA
 (unfold aP RP EP N9 O0 bV P7 ay;simp (disch:=decide) only[F8,F5,G7,G8,F6,E8,o6,o5,o7,D5,H7,x8,E5,ll0,ll1,ll2,ll3,la0,la1,la2,I9,J3,D7,D9,G6,L6,G9,I4,H9])
 unfold oG
 simp (disch:=decide) only[F8,F5,G7,G8,F6,E8,o6,o5,o7,D5,H7,x8,E5,ll0,ll1,ll2,ll3,la0,la1,la2,I9,J3,D7,D9,G6,L6,G9,I4,H9]
 cases g1:ieq x.1 5
 ·exact⟨_,rfl,rfl⟩
 cases ieq y.1 5
 ·exact⟨_,rfl,rfl⟩
 simp (disch:=decide) only[F8,F5,G7,G8,F6,E8,o6,o5,o7,D5,H7,x8,E5,ll0,ll1,ll2,ll3,la0,la1,la2,I9,J3,D7,D9,G6,L6,G9,I4,H9]
 rw[h1,h2]
 simp (disch:=decide) only[F8,F5,G7,G8,F6,E8,o6,o5,o7,D5,H7,x8,E5,ll0,ll1,ll2,ll3,la0,la1,la2,I9,J3,D7,D9,G6,L6,G9,I4,H9]
 exact⟨_,rfl,rfl⟩
theorem b8k (N:Int) (x y:V3) (env:P9):aP (14,N) [x,y] env:=by
 have hA:∃q,yQ x.2.2 y.2.2 N=some q∧wM x.2.2 y.2.2 N=some q:=⟨_,a3G _ _ _,a2S _ _ _⟩
 have hB:∃q,Ez x.2.2 y.2.2 N=some q∧BG x.2.2 y.2.2 N=some q:=⟨_,a9f _ _ _,a5B _ _ _⟩
 obtain⟨q,h1,h2⟩:=hA
 obtain⟨q',h3,h4⟩:=hB
 (unfold aP RP EP N9 O0 bV P7 ay;simp (disch:=decide) only[F8,F5,G7,G8,F6,E8,o6,o5,o7,D5,H7,x8,E5,ll0,ll1,ll2,ll3,la0,la1,la2,I9,J3,D7,D9,G6,L6,G9,I4,H9])
 unfold pG rX
 simp (disch:=decide) only[F8,F5,G7,G8,F6,E8,o6,o5,o7,D5,H7,x8,E5,ll0,ll1,ll2,ll3,la0,la1,la2,I9,J3,D7,D9,G6,L6,G9,I4,H9]
 rw[h1,h2,h3,h4]
 cases ieq y.1 4
 ·exact⟨_,rfl,rfl⟩
 by_cases g3:x.1=3
 ·rw[F8 g3]
  simp (disch:=decide) only[F8,F5,G7,G8,F6,E8,o6,o5,o7,D5,H7,x8,E5,ll0,ll1,ll2,ll3,la0,la1,la2,I9,J3,D7,D9,G6,L6,G9,I4,H9]
  exact⟨_,rfl,rfl⟩
 rw[F5 g3]
 simp (disch:=decide) only[F8,F5,G7,G8,F6,E8,o6,o5,o7,D5,H7,x8,E5,ll0,ll1,ll2,ll3,la0,la1,la2,I9,J3,D7,D9,G6,L6,G9,I4,H9]
 cases ieq x.1 4
 ·exact⟨_,rfl,rfl⟩
 simp (disch:=decide) only[F8,F5,G7,G8,F6,E8,o6,o5,o7,D5,H7,x8,E5,ll0,ll1,ll2,ll3,la0,la1,la2,I9,J3,D7,D9,G6,L6,G9,I4,H9]
 exact⟨_,rfl,rfl⟩
theorem b8m (N:Int) (x y:V3) (env:P9):aP (16,N) [x,y] env:=by
 have hA:∃q,qy x.2.2 y.2.2 N=some q∧qC x.2.2 y.2.2 N=some q:=⟨_,YO _ _ _,WU _ _ _⟩
 obtain⟨q,h1,h2⟩:=hA
 (unfold aP RP EP N9 O0 bV P7 ay;simp (disch:=decide) only[F8,F5,G7,G8,F6,E8,o6,o5,o7,D5,H7,x8,E5,ll0,ll1,ll2,ll3,la0,la1,la2,I9,J3,D7,D9,G6,L6,G9,I4,H9])
 unfold pG rX
 simp (disch:=decide) only[F8,F5,G7,G8,F6,E8,o6,o5,o7,D5,H7,x8,E5,ll0,ll1,ll2,ll3,la0,la1,la2,I9,J3,D7,D9,G6,L6,G9,I4,H9]
 rw[h1,h2]
 cases ieq x.1 3
 ·exact⟨_,rfl,rfl⟩
 cases ieq y.1 3
 ·exact⟨_,rfl,rfl⟩
 simp (disch:=decide) only[F8,F5,G7,G8,F6,E8,o6,o5,o7,D5,H7,x8,E5,ll0,ll1,ll2,ll3,la0,la1,la2,I9,J3,D7,D9,G6,L6,G9,I4,H9]
 exact⟨_,rfl,rfl⟩
theorem b8l (N:Int) (x y:V3) (env:P9):aP (15,N) [x,y] env:=by
 have hA:∃q,aV x.2.2 y.2.2 N=some q∧ou x.2.2 y.2.2 N=some q:=⟨_,zx _ _ _,Ut _ _ _⟩
 have hB:∃q,kX x.2.2 y.2.2 N=some q∧jA x.2.2 y.2.2 N=some q:=⟨_,IC _ _ _,Gy _ _ _⟩
 obtain⟨q,h1,h2⟩:=hA
 obtain⟨q',h3,h4⟩:=hB
 (unfold aP RP EP N9 O0 bV P7 ay;simp (disch:=decide) only[F8,F5,G7,G8,F6,E8,o6,o5,o7,D5,H7,x8,E5,ll0,ll1,ll2,ll3,la0,la1,la2,I9,J3,D7,D9,G6,L6,G9,I4,H9])
 unfold pG rX
 simp (disch:=decide) only[F8,F5,G7,G8,F6,E8,o6,o5,o7,D5,H7,x8,E5,ll0,ll1,ll2,ll3,la0,la1,la2,I9,J3,D7,D9,G6,L6,G9,I4,H9]
 rw[h1,h2,h3,h4]
 by_cases g2:y.1=2
 ·rw[F8 g2,F5 (show y.1≠3 by rw[g2];decide)]
  simp (disch:=decide) only[F8,F5,G7,G8,F6,E8,o6,o5,o7,D5,H7,x8,E5,ll0,ll1,ll2,ll3,la0,la1,la2,I9,J3,D7,D9,G6,L6,G9,I4,H9]
  by_cases g3:x.1=3
  ·rw[F8 g3,F5 (show x.1≠2 by rw[g3];decide)]
   simp (disch:=decide) only[F8,F5,G7,G8,F6,E8,o6,o5,o7,D5,H7,x8,E5,ll0,ll1,ll2,ll3,la0,la1,la2,I9,J3,D7,D9,G6,L6,G9,I4,H9]
   exact⟨_,rfl,rfl⟩
  rw[F5 g3]
  cases ieq x.1 2
  ·exact⟨_,rfl,rfl⟩
  simp (disch:=decide) only[F8,F5,G7,G8,F6,E8,o6,o5,o7,D5,H7,x8,E5,ll0,ll1,ll2,ll3,la0,la1,la2,I9,J3,D7,D9,G6,L6,G9,I4,H9]
  exact⟨_,rfl,rfl⟩
 rw[F5 g2]
 simp (disch:=decide) only[F8,F5,G7,G8,F6,E8,o6,o5,o7,D5,H7,x8,E5,ll0,ll1,ll2,ll3,la0,la1,la2,I9,J3,D7,D9,G6,L6,G9,I4,H9]
 cases ieq x.1 3
 ·exact⟨_,rfl,rfl⟩
 simp (disch:=decide) only[F8,F5,G7,G8,F6,E8,o6,o5,o7,D5,H7,x8,E5,ll0,ll1,ll2,ll3,la0,la1,la2,I9,J3,D7,D9,G6,L6,G9,I4,H9]
 cases ieq y.1 3
 ·exact⟨_,rfl,rfl⟩
 simp (disch:=decide) only[F8,F5,G7,G8,F6,E8,o6,o5,o7,D5,H7,x8,E5,ll0,ll1,ll2,ll3,la0,la1,la2,I9,J3,D7,D9,G6,L6,G9,I4,H9]
 exact⟨_,rfl,rfl⟩
theorem rU (n:Int):(n<0∧N7 n=-n)∨(0≤n∧N7 n=n):=by
 unfold N7
 by_cases h:n<0
 ·left;exact⟨h,if_pos h⟩
 ·right;exact⟨by omega,if_neg h⟩
theorem ZN (a b:Int):(l7 (D6 (bZ (ilt a 0) (ilt b 0))) (-(N7 a*N7 b)) (N7 a*N7 b))=a*b:=by
 rcases rU a with⟨h1,e1⟩ | ⟨h1,e1⟩ <;> rcases rU b with⟨h2,e2⟩ | ⟨h2,e2⟩ <;> rw[e1,e2]
 ·rw[F6 h1,F6 h2];show -a*-b=a*b;rw[Int.neg_mul_neg]
 ·rw[F6 h1,E8 h2];show -(-a*b)=a*b;rw[Int.neg_mul,Int.neg_neg]
 ·rw[E8 h1,F6 h2];show -(a*-b)=a*b;rw[Int.mul_neg,Int.neg_neg]
 ·rw[E8 h1,E8 h2];rfl
theorem YE {a b:Int} (ha:-1000000000000000≤a∧a≤1000000000000000) (hb:-1000000000000≤b∧b≤1000000000000):oQ a b=some (l7 (ilt 1000000000000000 (N7 a*N7 b)) (0,3) (a*b,0)):=by
 unfold oQ
 rw[IK (by omega) (by omega),IK (by omega) (by omega)]
 have A0:0≤N7 a∧N7 a≤1000000000000000:=by rcases rU a with⟨h1,e1⟩ | ⟨h1,e1⟩ <;> omega
 have B0:0≤N7 b∧N7 b≤1000000000000:=by rcases rU b with⟨h1,e1⟩ | ⟨h1,e1⟩ <;> omega
 rw[IX A0.1 (by omega) B0.1 (by omega),o7]
 have hm:=ZN a b
 have hp:0≤N7 a*N7 b:=Int.mul_nonneg A0.1 B0.1
 generalize N7 a*N7 b=p at hm hp ⊢
 simp only
 by_cases g:p / 18446744073709551616=0
 case neg=>rw[F5 g,F6 (show(1000000000000000:Int)<p by omega)];rfl
 rw[F8 g,show p % 18446744073709551616=p by omega]
 by_cases g2:1000000000000000<p
 ·rw[F6 g2];rfl
 rw[E8 (by omega)]
 simp only[x8,o5]
 rw[show wrap .i64 p=p from dZ (by unfold I64;omega),I5 (by unfold I64;omega),show(0:Int) -p=-p by omega]
 rw[←hm]
 cases D6 (bZ (ilt a 0) (ilt b 0)) <;> rfl
theorem Di {x y M:Int} (W:V3×Int) (hy:0≤y) (hM:0≤M) (hM2:M≤1000000000000000):l7 (D6 (ieq y 0)) (l9 (fH .i64 M y) fun(q:Int)=>l7 (ilt q x) (some ((0,0,0),3)) (some W)) (some W)=some (l7 (ilt M (x*y)) ((0,0,0),3) W):=by
 by_cases h:y=0
 ·subst h
  rw[F8 rfl,Int.mul_zero,E8 hM];rfl
 rw[F5 h]
 simp only[E5,o6]
 rw[kT hM (by omega) (by omega),o7]
 have e:M / y<x↔M<x*y:=Int.ediv_lt_iff_lt_mul (by omega)
 by_cases g:M / y<x
 ·rw[F6 g,F6 (e.1 g)];rfl
 ·rw[E8 (Int.not_lt.1 g),E8 (Int.not_lt.1 fun h=>g (e.2 h))];rfl
theorem WT {k a b M:Int} (hM:pF k=some (-M,M)) (hM0:0≤M) (hM2:M≤1000000000000000) (ha:-1000000000000000≤a∧a≤1000000000000000) (hb:-1000000000000≤b∧b≤1000000000000):mP k a b=some (l7 (ilt M (N7 a*N7 b)) ((0,0,0),3) (zh (k,0,L9 .i64 a b))):=by
 unfold mP
 rw[hM,o7]
 simp only[I9,o7]
 have sa:G5 .i64 0 a=-a:=by rw[I5 (by unfold I64;omega)];omega
 have sb:G5 .i64 0 b=-b:=by rw[I5 (by unfold I64;omega)];omega
 rw[sa,sb]
 rcases rU a with⟨h1,e1⟩ | ⟨h1,e1⟩ <;> rcases rU b with⟨h2,e2⟩ | ⟨h2,e2⟩ <;> rw[e1,e2]
 ·rw[F6 h1,F6 h2]
  exact Di _ (by omega) hM0 hM2
 ·rw[F6 h1,E8 h2]
  exact Di _ (by omega) hM0 hM2
 ·rw[E8 h1,F6 h2]
  exact Di _ (by omega) hM0 hM2
 ·rw[E8 h1,E8 h2]
  exact Di _ (by omega) hM0 hM2
theorem Pz {k a b M:Int} (hk:yC k=(-M,M)) (hM0:0≤M) (hM2:M≤1000000000000000) (ha:-1000000000000000≤a∧a≤1000000000000000) (hb:-1000000000000≤b∧b≤1000000000000):∃r:V3×Int,mP k a b=some r∧∃q:Int×Int,oQ a b=some q∧Qu (k,0,q.1) q.2=r:=by
 refine⟨_,WT (by rw[ZY,hk]) hM0 hM2 ha hb,_,YE ha hb,?_⟩
 have hm:=ZN a b
 have hmd:N7 a*N7 b=N7 (a*b):=by
  rcases rU (a*b)with⟨h,e⟩ | ⟨h,e⟩ <;> (have hn:=Int.mul_nonneg (dK a) (dK b);cases hq:D6 (bZ (ilt a 0) (ilt b 0)) <;> rw[hq]at hm <;> simp only[o6,o5]at hm <;> omega)
 rw[hmd]
 have habs:=rU (a*b)
 have hI:N7 (a*b)≤1000000000000000→L9 .i64 a b=a*b:=fun h=>dL (by unfold I64;omega)
 have hpl:M<N7 (a*b)→plB (k,0,a*b)=false:=by
  intro h
  unfold plB
  rw[hk]
  simp only
  by_cases g:-M≤a*b
  ·rw[G7 g,G8 (show M<a*b by omega)];rfl
  ·rw[G8 (by omega)];rfl
 generalize a*b=p at*
 by_cases g:1000000000000000<N7 p
 ·rw[F6 g,F6 (by omega)];rfl
 rw[E8 (by omega),hI (by omega)]
 simp only[o5,L6]
 by_cases g2:M<N7 p
 ·rw[F6 g2];unfold zh;rw[hpl g2];rfl
 ·rw[E8 (by omega)];rfl
theorem a0F {k e n:Int} (h:plB (k,e,n)=true):(k=2→-1000000000000≤n∧n≤1000000000000)∧(k=3→-1000000000000000≤n∧n≤1000000000000000):=by
 rcases YD h with⟨m,h,g⟩ | ⟨m,h,g⟩ | ⟨m,h,g⟩ | ⟨m,h,g⟩ | ⟨m,h,g⟩ | ⟨e',m,h,g⟩ <;> cases h <;> exact⟨fun h=>by first | exact g | exact absurd h (by decide),fun h=>by first | exact g | exact absurd h (by decide)⟩
theorem b8j (N:Int) (x y:V3) (env:P9) (hx:plB x=true) (hy:plB y=true):aP (13,N) [x,y] env:=by
 have hX:=a0F (k:=x.1) (e:=x.2.1) (n:=x.2.2) hx
 have hY:=a0F (k:=y.1) (e:=y.2.1) (n:=y.2.2) hy
 have key:y.1=2→x.1=2∨x.1=3→∃r:V3×Int,mP x.1 x.2.2 y.2.2=some r∧∃q:Int×Int,oQ x.2.2 y.2.2=some q∧Qu (x.1,0,q.1) q.2=r:=by
  intro h2 h
  have hb:=hY.1 h2
  rcases h with h | h
  ·have ha:=hX.1 h
   exact Pz (M:=1000000000000) (by rw[h];rfl) (by decide) (by decide) ⟨Int.le_trans (by decide) ha.1,Int.le_trans ha.2 (by decide)⟩ hb
  ·have ha:=hX.2 h
   exact Pz (M:=1000000000000000) (by rw[h];rfl) (by decide) (by decide) ha hb
 (unfold aP RP EP N9 O0 bV P7 ay;simp (disch:=decide) only[F8,F5,G7,G8,F6,E8,o6,o5,o7,D5,H7,x8,E5,ll0,ll1,ll2,ll3,la0,la1,la2,I9,J3,D7,D9,G6,L6,G9,I4,H9])
 unfold pG rX
 simp (disch:=decide) only[F8,F5,G7,G8,F6,E8,o6,o5,o7,D5,H7,x8,E5,ll0,ll1,ll2,ll3,la0,la1,la2,I9,J3,D7,D9,G6,L6,G9,I4,H9]
 cases g2:ieq y.1 2
 ·exact⟨_,rfl,rfl⟩
 by_cases g3:x.1=3
 ·obtain⟨r,e1,q,e2,e3⟩:=key (N8.1 g2) (.inr g3)
  rw[F8 g3,F5 (show x.1≠2 by rw[g3];decide)]
  simp (disch:=decide) only[F8,F5,G7,G8,F6,E8,o6,o5,o7,D5,H7,x8,E5,ll0,ll1,ll2,ll3,la0,la1,la2,I9,J3,D7,D9,G6,L6,G9,I4,H9]
  rw[e1,e2]
  simp (disch:=decide) only[F8,F5,G7,G8,F6,E8,o6,o5,o7,D5,H7,x8,E5,ll0,ll1,ll2,ll3,la0,la1,la2,I9,J3,D7,D9,G6,L6,G9,I4,H9]
  exact⟨_,rfl,congrArg some e3⟩
 rw[F5 g3]
 cases g4:ieq x.1 2
 ·exact⟨_,rfl,rfl⟩
 obtain⟨r,e1,q,e2,e3⟩:=key (N8.1 g2) (.inl (N8.1 g4))
 simp (disch:=decide) only[F8,F5,G7,G8,F6,E8,o6,o5,o7,D5,H7,x8,E5,ll0,ll1,ll2,ll3,la0,la1,la2,I9,J3,D7,D9,G6,L6,G9,I4,H9]
 rw[e1,e2]
 simp (disch:=decide) only[F8,F5,G7,G8,F6,E8,o6,o5,o7,D5,H7,x8,E5,ll0,ll1,ll2,ll3,la0,la1,la2,I9,J3,D7,D9,G6,L6,G9,I4,H9]
 exact⟨_,rfl,congrArg some e3⟩
theorem a3v:∀i:Fin 40,dD ((i.1:Nat):Int)=kC ((i.1:Nat):Int):=by decide+kernel
theorem a3H:∀i:Fin 40,(arF ((i.1:Nat):Int)=0→i.1∈[1,2,3,4,5,6,7,8,9,35,36,37,38,39])∧(arF ((i.1:Nat):Int)=1→i.1∈[10,25,31,32,33,34])∧(arF ((i.1:Nat):Int)=2→i.1∈[11,12,13,14,15,16,17,18,19,20,21,22,23,24,27,28,29,30])∧(arF ((i.1:Nat):Int)=3→i.1=26):=by decide+kernel
theorem c6J {k:Int} (h:k<1∨39<k):arF k=-1:=by
 unfold arF aJ
 rw[F5 (show k≠10 by omega),F5 (show k≠25 by omega),F5 (show k≠31 by omega),F5 (show k≠32 by omega),F5 (show k≠33 by omega),F5 (show k≠34 by omega),F5 (show k≠26 by omega)]
 rcases h with h | h
 ·rw[G8 (show k<1 by omega),G8 (show k<35 by omega),G8 (show k<11 by omega)];rfl
 ·rw[G7 (show 1≤k by omega),G8 (show 9<k by omega),G7 (show 35≤k by omega),G8 (show 39<k by omega),G7 (show 11≤k by omega),G8 (show 30<k by omega)];rfl
theorem b8v {k:Int} (h:arF k≠-1):∃i:Fin 40,k=((i.1:Nat):Int):=by
 by_cases g:1≤k∧k≤39
 ·exact⟨⟨k.toNat,by omega⟩,by simp;omega⟩
 ·exact absurd (c6J (by omega)) h
theorem a7V {k:Int} (h:arF k≠-1):dD k=kC k:=by
 obtain⟨i,rfl⟩:=b8v h
 exact a3v i
theorem Si (k:Int):∃b,kC k=some b:=by
 unfold kC
 cases ile 1 k <;> cases ile k 8 <;> cases ile 36 k <;> cases ile k 39 <;> cases ieq k 14 <;> cases ieq k 15 <;> cases ieq k 16 <;> cases ieq k 33 <;> exact⟨_,rfl⟩
def a2l (k N:Int):Bool:=l7 (l7 (ieq k 14) true (l7 (ieq k 15) true (ieq k 16))) (l7 (ile 0 N) (ile N 5) false) (l7 (ieq k 34) (l7 (ile 0 N) (ile (V6 N 8) 5) false) (l7 (ieq k 6) (ile 0 N) true))
theorem VN (k N:Int):(l9 (l7 (ieq k 14) (some (ieq k 14)) (l7 (ieq k 15) (some (ieq k 15)) (some (ieq k 16)))) fun(x:Bool)=>l7 x (l7 (ile 0 N) (some (ile N 5)) (some false)) (l7 (ieq k 34) (l7 (ile 0 N) (some (ile (V6 N 8) 5)) (some false)) (l7 (ieq k 6) (some (ile 0 N)) (some true))))=some (a2l k N):=by
 unfold a2l
 cases ieq k 14 <;> cases ieq k 15 <;> cases ieq k 16 <;> cases ile 0 N <;> cases ieq k 34 <;> cases ieq k 6 <;> rfl
def Ye (k N:Int):Bool:=l7 (ieq N 0) (a2l k N) (l7 ((kC k).getD false) (a2l k N) false)
theorem a2k {k N c:Int} (h:arF k=c):uA (k,N) c=some (Ye k N):=by
 unfold uA Ye
 rw[PL,o7,F8 h]
 simp only[x8,o5,VN]
 obtain⟨b,hb⟩:=Si k
 rw[hb]
 cases ieq N 0 <;> cases b <;> rfl
theorem XB {k N:Int} (h:arF k≠-1):jr (k,N)=some (Ye k N):=by
 unfold jr Ye
 rw[NL,o7,E8 (show 0≤arF k by have:=(AQ k).2.2;omega)]
 simp only[o5,VN]
 rw[a7V h]
 obtain⟨b,hb⟩:=Si k
 rw[hb]
 cases ieq N 0 <;> cases b <;> rfl
theorem ZF (k N:Int):∃b,jr (k,N)=some b:=by
 by_cases h:arF k=-1
 ·refine⟨false,?_⟩
  unfold jr
  rw[NL,o7,h];rfl
 ·exact⟨_,XB h⟩
theorem VK (n:Int×Int) (env:P9):∃b,aT n env=some b:=by
 unfold aT
 by_cases h7:n.1=7
 ·rw[F8 h7,o6];cases ile 0 n.2 <;> exact⟨_,rfl⟩
 rw[F5 h7,o5]
 by_cases h8:n.1=8
 ·rw[F8 h8,o6]
  by_cases g:0≤n.2
  case neg=>rw[G8 (Int.not_le.1 g)];exact⟨_,rfl⟩
  by_cases g2:n.2<o8 env.2.2.1
  case neg=>rw[G7 g,E8 (Int.not_lt.1 g2)];exact⟨_,rfl⟩
  obtain⟨x,hx,_⟩:=cZ g g2
  rw[G7 g,F6 g2,hx];exact⟨_,rfl⟩
 rw[F5 h8,o5]
 cases ieq n.1 33
 ·cases ieq n.1 34
  ·cases ieq n.1 36 <;> cases ieq n.1 37 <;> cases ieq n.1 38 <;> cases ieq n.1 39 <;> cases ile 0 n.2 <;> exact⟨_,rfl⟩
  ·exact⟨_,rfl⟩
 ·cases ile 0 n.2 <;> exact⟨_,rfl⟩
theorem a8c {α:Type} (l:List α) (p:α→Bool):l.all p= !l.any fun v=> !p v:=by
 induction l with
 | nil=>rfl
 | cons a l ih=>rw[List.all_cons,List.any_cons,Bool.not_or,Bool.not_not,ih]
theorem a3E (l:List V3) (hl:l.length≤1000000):ng l=some (l.all plB):=by
 unfold ng
 have e:=oM l (fun v=> !plB v) false PUnit.unit (f:=fun(x:Int)=>l7 (ilt x (o8 l)) (l9 (lat l x) fun(x_1:V3)=>l9 (af x_1) fun(x_2:Bool)=>l7 (D6 x_2) (some (Out.rt false)) (some (Out.nx (x9 IntKind.i64 x 1)))) (some (Out.ex PUnit.unit))) hl
  (fun i a hi=>by
   have hlt:(i:Int)<o8 l:=by
    have:=O5.1 hi;obtain⟨h,_⟩:=this;unfold o8;omega
   have hm:=E9 l i
   rw[hi]at hm
   simp only[F6 hlt,o6,hm,o7,D9]
   cases plB a <;> rfl) (by rw[E8 (show o8 l≤(l.length:Int)from Int.le_refl _)];rfl)
 rw[show J7 _ _=_ from e]
 rw[a8c l plB]
 cases l.any fun v=> !plB v <;> rfl
theorem a2R (l:List V3) (hl:l.length≤1000000) {γ:Type} {K:V3⊕(V3×Int)→Option γ} :(l9 (J7
      (fun(x:V3×Int)=>
       l7 (ilt x.2 (o8 l))
        (l9 (lat l x.2) fun(x_1:V3)=>
         l9 (Y2 x_1) fun(x_2:Bool)=>
          l7 (D6 x_2) (some (Out.rt (((0,0,0),8):V3×Int))) (some (Out.nx (x.1,x9 IntKind.i64 x.2 1))))
        (some (Out.ex x.1)))
      ((0,0,0),0)) K)=K (l7 (l.all plB) (.inl (0,0,0)) (.inr ((0,0,0),8))):=by
 have hf:∀(l:List V3) (u:V3),az (fun(_:V3) (v:V3)=>(l7 (plB v) (.inl ((0,0,0):V3)) (.inr (((0,0,0),8):V3×Int)):V3⊕(V3×Int))) l (0,0,0)=l7 (l.all plB) (.inl (0,0,0)) (.inr ((0,0,0),8)):=by
  intro l u
  induction l with
  | nil=>rfl
  | cons a l ih=>
   unfold az
   rw[List.all_cons]
   cases plB a
   ·rfl
   ·exact ih
 apply fC l (fun(_:V3) (v:V3)=>(l7 (plB v) (.inl ((0,0,0):V3)) (.inr (((0,0,0),8):V3×Int)):V3⊕(V3×Int))) (fun b i=>((b,i):V3×Int)) (fun b=>b) (fun i b=>b=(0,0,0)) (0,0,0) hl rfl
 ·intro i a b hi hi' hb
  subst hb
  have hlt:(i:Int)<o8 l:=by
   have:=O5.1 hi;obtain⟨h,_⟩:=this;unfold o8;omega
  have hm:=E9 l i
  rw[hi]at hm
  simp only[F6 hlt,o6,hm,o7,D7]
  cases plB a
  ·exact⟨rfl,fun _ h=>by cases h⟩
  ·exact⟨by rw[O8 (by omega)];rfl,fun _ h=>by cases h;rfl⟩
 ·intro b hb
  simp only[E8 (show o8 l≤(l.length:Int)from Int.le_refl _),o5]
 ·intro _
  rw[hf l (0,0,0)]
  cases l.all plB <;> rfl
structure EvOk (env:P9):Prop where
 ms:env.2.2.2.1.length≤1000000
 tb:∀t∈env.2.2.2.2.2,jk t
theorem b8h (k N:Int) (args:List V3) (env:P9) (hE:EvOk env) (hN:-9223372036854775808≤N∧N≤9223372036854775807) (hk:k≠23∧k≠24∧k≠26) (ha:arF k=o8 args) (hf:Ye k N=true) (he:aT (k,N) env=some true) (hp:args.all plB=true):aP (k,N) args env:=by
 have hne:arF k≠-1:=by rw[ha];unfold o8;omega
 have hN34:k=34→0≤N:=by
  rintro rfl
  unfold Ye at hf
  have:a2l 34 N=true:=by
   cases g:ieq N 0 <;> rw[g]at hf
   ·exact hf
   ·exact hf
  unfold a2l at this
  by_cases g:0≤N
  ·exact g
  ·rw[G8 (by omega)]at this;cases this
 obtain⟨i,hi⟩:=b8v hne
 obtain⟨a0,a1,a2,a3⟩:=a3H i
 rw[←hi,ha]at a0 a1 a2 a3
 match args,ha,hp with
 | [],ha,hp=>
  have:=a0 rfl
  simp only[List.mem_cons,List.not_mem_nil,or_false]at this
  rcases this with h | h | h | h | h | h | h | h | h | h | h | h | h | h <;> rw[h]at hi <;> subst hi
  ·exact Ij _ _ _ (by decide)
  ·exact Ij _ _ _ (by decide)
  ·exact Ij _ _ _ (by decide)
  ·exact Ij _ _ _ (by decide)
  ·exact Ij _ _ _ (by decide)
  ·exact c6F _ _
  ·exact c6G _ _ he
  ·exact c6H _ _ he
  ·exact c6I _ _
  ·exact b8u _ _
  ·exact Nh _ _ _ (by decide) he hE.ms
  ·exact Nh _ _ _ (by decide) he hE.ms
  ·exact Nh _ _ _ (by decide) he hE.ms
  ·exact Nh _ _ _ (by decide) he hE.ms
 | [x],ha,hp=>
  have hx:plB x=true:=by simpa using hp
  have:=a1 rfl
  simp only[List.mem_cons,List.not_mem_nil,or_false]at this
  rcases this with h | h | h | h | h | h <;> rw[h]at hi <;> subst hi
  ·exact b8i _ _ _
  ·exact b8n _ _ _
  ·exact ZV _ _ _ _ (by decide) hx
  ·exact ZV _ _ _ _ (by decide) hx
  ·exact b8s _ _ _ hx he hE.tb
  ·exact b8t _ _ _ (hN34 rfl) hN.2 he hE.tb
 | [x,y],ha,hp=>
  have hxy:plB x=true∧plB y=true:=by simpa using hp
  have:=a2 rfl
  simp only[List.mem_cons,List.not_mem_nil,or_false]at this
  rcases this with h | h | h | h | h | h | h | h | h | h | h | h | h | h | h | h | h | h <;> rw[h]at hi <;> subst hi
  ·exact ZQ _ _ _ _ _ (by decide)
  ·exact ZQ _ _ _ _ _ (by decide)
  ·exact b8j _ _ _ _ hxy.1 hxy.2
  ·exact b8k _ _ _ _
  ·exact b8l _ _ _ _
  ·exact b8m _ _ _ _
  ·exact NK _ _ _ _ _ (by decide) hxy.1 hxy.2
  ·exact NK _ _ _ _ _ (by decide) hxy.1 hxy.2
  ·exact a3F _ _ _ _ _ (by decide)
  ·exact a3F _ _ _ _ _ (by decide)
  ·exact ZU _ _ _ _ _ (by decide)
  ·exact ZU _ _ _ _ _ (by decide)
  ·exact absurd rfl hk.1
  ·exact absurd rfl hk.2.1
  ·exact b8o _ _ _ _
  ·exact b8p _ _ _ _
  ·exact b8q _ _ _ _
  ·exact b8r _ _ _ _
 | [x,y,z],ha,hp=>
  have h:=a3 rfl
  rw[h]at hi
  exact absurd hi hk.2.2
 | x::y::z::w::l,ha,hp=>
  have h1:=(AQ k).2.2
  have:o8 (x::y::z::w::l)=(l.length:Int)+4:=by unfold o8;simp <;> omega
  rw[this]at ha
  omega
theorem Vm (k N:Int) (args:List V3) (env:P9) (hE:EvOk env) (hN:-9223372036854775808≤N∧N≤9223372036854775807) (hk:k≠23∧k≠24∧k≠26) (hl:args.length≤1000000):∃r:V3×Int,jM (k,N) args env=some r∧rF (k,N) args env=some r:=by
 by_cases ha:arF k=o8 args
 case neg=>
  refine⟨((0,0,0),2),?_,?_⟩
  ·unfold jM uA
   rw[PL,o7,F5 ha];rfl
  ·unfold rF
   obtain⟨b,hb⟩:=ZF k N
   rw[hb,o7]
   cases b
   ·rfl
   ·rw[NL,o7,F5 (fun h=>ha h.symm)];rfl
 have hne:arF k≠-1:=by rw[ha];unfold o8;omega
 unfold jM rF
 rw[a2k ha,XB hne,NL]
 simp only[o7,F8 ha.symm]
 cases hf:Ye k N
 ·exact⟨_,rfl,rfl⟩
 simp only[x8,o5,o7,D5]
 obtain⟨b,hb⟩:=VK (k,N) env
 rw[show EE (k,N) env=some b from hb,hb]
 cases b
 ·exact⟨_,rfl,rfl⟩
 simp only[o7,x8,o5]
 rw[a2R args hl,a3E args hl,o7]
 cases hp:args.all plB
 ·exact⟨_,rfl,rfl⟩
 exact b8h k N args env hE hN hk ha hf hb hp
def XT.node:XT→Int×Int
 | .l0 n=>n | .l1 n _=>n | .l2 n _ _=>n | .l3 n _ _ _=>n
def rtI (t:XT) (o:Nat):Nat:=o+t.size -1
def At (e:List (Int×Int)) (S:List Int) (t:XT) (o:Nat):Prop:=∃pre suf S1 S2,e=pre++t.post++suf∧S=S1++t.sts o++S2∧pre.length=o∧S1.length=o
theorem a3L {e:List (Int×Int)} {S:List Int} {n:Int×Int} {a:XT} {o:Nat} (h:At e S (.l1 n a) o):At e S a o:=by
 obtain⟨p,s,S1,S2,h1,h2,h3,h4⟩:=h
 exact⟨p,[n]++s,S1,[(o:Int)]++S2,by rw[h1];simp[XT.post],by rw[h2];simp[XT.sts],h3,h4⟩
theorem Gl {e:List (Int×Int)} {S:List Int} {n:Int×Int} {a b:XT} {o:Nat} (h:At e S (.l2 n a b) o):At e S a o∧At e S b (o+a.size):=by
 obtain⟨p,s,S1,S2,h1,h2,h3,h4⟩:=h
 exact⟨⟨p,b.post++[n]++s,S1,b.sts (o+a.size)++[(o:Int)]++S2,by rw[h1];simp[XT.post],by rw[h2];simp[XT.sts],h3,h4⟩,
  ⟨p++a.post,[n]++s,S1++a.sts o,[(o:Int)]++S2,by rw[h1];simp[XT.post],by rw[h2];simp[XT.sts],by simp[XT.post_len,h3],by simp[XT.sts_len,h4]⟩⟩
theorem Il {e:List (Int×Int)} {S:List Int} {n:Int×Int} {a b c:XT} {o:Nat} (h:At e S (.l3 n a b c) o):At e S a o∧At e S b (o+a.size)∧At e S c (o+a.size+b.size):=by
 obtain⟨p,s,S1,S2,h1,h2,h3,h4⟩:=h
 exact⟨⟨p,b.post++c.post++[n]++s,S1,b.sts (o+a.size)++c.sts (o+a.size+b.size)++[(o:Int)]++S2,by rw[h1];simp[XT.post],by rw[h2];simp[XT.sts],h3,h4⟩,
  ⟨p++a.post,c.post++[n]++s,S1++a.sts o,c.sts (o+a.size+b.size)++[(o:Int)]++S2,by rw[h1];simp[XT.post],by rw[h2];simp[XT.sts],by simp[XT.post_len,h3],by simp[XT.sts_len,h4]⟩,
  ⟨p++a.post++b.post,[n]++s,S1++a.sts o++b.sts (o+a.size),[(o:Int)]++S2,by rw[h1];simp[XT.post],by rw[h2];simp[XT.sts],by simp[XT.post_len,h3];try omega,by simp[XT.sts_len,h4];try omega⟩⟩
theorem a2O (t:XT):∃p,t.post=p++[t.node]∧p.length+1=t.size:=by
 have hl:=t.post_len
 cases t with
 | l0 n=>exact⟨[],rfl,rfl⟩
 | l1 n a=>refine⟨a.post,rfl,?_⟩;simp only[XT.post,List.length_append,List.length_singleton]at hl;exact hl
 | l2 n a b=>refine⟨a.post++b.post,rfl,?_⟩;simp only[XT.post,List.length_append,List.length_singleton]at hl ⊢;exact hl
 | l3 n a b c=>refine⟨a.post++b.post++c.post,rfl,?_⟩;simp only[XT.post,List.length_append,List.length_singleton]at hl ⊢;exact hl
theorem a7K (t:XT) (o:Nat):∃p,t.sts o=p++[(o:Int)]∧p.length+1=t.size:=by
 have hl:=t.sts_len o
 cases t with
 | l0 n=>exact⟨[],rfl,rfl⟩
 | l1 n a=>refine⟨a.sts o,rfl,?_⟩;simp only[XT.sts,List.length_append,List.length_singleton]at hl;exact hl
 | l2 n a b=>refine⟨a.sts o++b.sts (o+a.size),rfl,?_⟩;simp only[XT.sts,List.length_append,List.length_singleton]at hl ⊢;exact hl
 | l3 n a b c=>refine⟨a.sts o++b.sts (o+a.size)++c.sts (o+a.size+b.size),rfl,?_⟩;simp only[XT.sts,List.length_append,List.length_singleton]at hl ⊢;exact hl
theorem jE {e:List (Int×Int)} {S:List Int} {t:XT} {o:Nat} (h:At e S t o):e[rtI t o]? =some t.node∧S[rtI t o]? =some (o:Int)∧rtI t o<e.length:=by
 obtain⟨p,s,S1,S2,h1,h2,h3,h4⟩:=h
 obtain⟨q,e1,e2⟩:=a2O t
 obtain⟨q',e1',e2'⟩:=a7K t o
 have hp:=t.size_pos
 have a1:e[rtI t o]? =some t.node:=by
  rw[h1,e1,List.append_assoc,List.append_assoc,←List.append_assoc p,List.getElem?_append_right (by simp[rtI];omega)]
  rw[show rtI t o -(p++q).length=0 by simp[rtI];omega];rfl
 refine⟨a1,?_,(O5.1 a1).1⟩
 rw[h2,e1',List.append_assoc,List.append_assoc,←List.append_assoc S1,List.getElem?_append_right (by simp[rtI];omega)]
 rw[show rtI t o -(S1++q').length=0 by simp[rtI];omega];rfl
def CO:XT→Nat→List Int
 | .l0 _,_=>[]
 | .l1 _ a,o=>[(rtI a o:Int)]
 | .l2 _ a b,o=>[(rtI a o:Int),(rtI b (o+a.size):Int)]
 | .l3 _ a b c,o=>[(rtI a o:Int),(rtI b (o+a.size):Int),(rtI c (o+a.size+b.size):Int)]
structure OStep (S:List Int) (f:List Int×Int×Int→Option ((List Int×Int×Int)⊕List Int)):Prop where
 step:∀(l:List Int) (c:Nat) (j:Nat) (x:Nat),j<l.length→l.length≤3→S[c]? =some ((x:Nat):Int)→x≤100→f (l,(c:Int),(j:Int))=some (.inl (l.set j (c:Int),(x:Int) -1,(j:Int) -1))
 stop:∀(l:List Int) (c:Int),f (l,c,-1)=some (.inr l)
theorem vC {σ ε:Type} {f:σ→Option (σ⊕ε)} {s s' :σ} {n:Nat} (h:f s=some (.inl s')):ku f (n+1) s=ku f n s' :=by rw[ku,h]
theorem Bq {σ ε:Type} {f:σ→Option (σ⊕ε)} {s:σ} {e:ε} {n:Nat} (h:f s=some (.inr e)):ku f (n+1) s=some e:=by rw[ku,h]
theorem WH {e:List (Int×Int)} {S:List Int} {t:XT} {o:Nat} {f:List Int×Int×Int→Option ((List Int×Int×Int)⊕List Int)} (hs:OStep S f) (h:At e S t o) (he:e.length≤48) (hw:t.wf):
  P5 f (List.replicate (arF t.node.1).toNat 0,(rtI t o:Int) -1,arF t.node.1 -1)=some (CO t o):=by
 obtain⟨k,hk⟩:∃k,bK=k+1+1+1+1:=⟨bK -4,by unfold bK;omega⟩
 unfold P5
 rw[hk]
 have hr:=jE h
 cases t with
 | l0 n=>
  rw[show arF (XT.l0 n).node.1=0 from hw]
  exact Bq (hs.stop _ _)
 | l1 n a=>
  rw[show arF (XT.l1 n a).node.1=1 from hw.1]
  have ha:=jE (a3L h)
  have p1:=a.size_pos
  rw[show((rtI (.l1 n a) o:Nat):Int) -1=((rtI a o:Nat):Int) by simp only[rtI,XT.size];omega]
  rw[show((1:Int) -1)=((0:Nat):Int)from rfl,vC (hs.step _ _ 0 o (by simp) (by simp) ha.2.1 (by unfold rtI at hr;omega))]
  rw[show(((0:Nat):Int) -1)=-1 from rfl,Bq (hs.stop _ _)]
  rfl
 | l2 n a b=>
  rw[show arF (XT.l2 n a b).node.1=2 from hw.1]
  have ha:=jE (Gl h).1
  have hb:=jE (Gl h).2
  have p1:=a.size_pos
  have p2:=b.size_pos
  rw[show((rtI (.l2 n a b) o:Nat):Int) -1=((rtI b (o+a.size):Nat):Int) by simp only[rtI,XT.size];omega]
  rw[show((2:Int) -1)=((1:Nat):Int)from rfl,vC (hs.step _ _ 1 (o+a.size) (by simp) (by simp) hb.2.1 (by unfold rtI at hb;omega))]
  rw[show((o+a.size:Nat):Int) -1=((rtI a o:Nat):Int) by unfold rtI;omega,show(((1:Nat):Int) -1)=((0:Nat):Int)from rfl]
  rw[vC (hs.step _ _ 0 o (by simp) (by simp) ha.2.1 (by unfold rtI at hr;omega))]
  rw[show(((0:Nat):Int) -1)=-1 from rfl,Bq (hs.stop _ _)]
  rfl
 | l3 n a b c=>
  rw[show arF (XT.l3 n a b c).node.1=3 from hw.1]
  have ha:=jE (Il h).1
  have hb:=jE (Il h).2.1
  have hc:=jE (Il h).2.2
  have p1:=a.size_pos
  have p2:=b.size_pos
  have p3:=c.size_pos
  rw[show((rtI (.l3 n a b c) o:Nat):Int) -1=((rtI c (o+a.size+b.size):Nat):Int) by simp only[rtI,XT.size];omega]
  rw[show((3:Int) -1)=((2:Nat):Int)from rfl,vC (hs.step _ _ 2 (o+a.size+b.size) (by simp) (by simp) hc.2.1 (by unfold rtI at hc;omega))]
  rw[show((o+a.size+b.size:Nat):Int) -1=((rtI b (o+a.size):Nat):Int) by unfold rtI;omega,show(((2:Nat):Int) -1)=((1:Nat):Int)from rfl]
  rw[vC (hs.step _ _ 1 (o+a.size) (by simp) (by simp) hb.2.1 (by unfold rtI at hb;omega))]
  rw[show((o+a.size:Nat):Int) -1=((rtI a o:Nat):Int) by unfold rtI;omega,show(((1:Nat):Int) -1)=((0:Nat):Int)from rfl]
  rw[vC (hs.step _ _ 0 o (by simp) (by simp) ha.2.1 (by unfold rtI at hr;omega))]
  rw[show(((0:Nat):Int) -1)=-1 from rfl,Bq (hs.stop _ _)]
  rfl
theorem b7S {t:XT} (h:t.wf):0≤arF t.node.1∧arF t.node.1≤3:=by
 cases t with
 | l0 n=>rw[show arF (XT.l0 n).node.1=0 from h];decide
 | l1 n a=>rw[show arF (XT.l1 n a).node.1=1 from h.1];decide
 | l2 n a b=>rw[show arF (XT.l2 n a b).node.1=2 from h.1];decide
 | l3 n a b c=>rw[show arF (XT.l3 n a b c).node.1=3 from h.1];decide
theorem Bv {α:Type} {k:Int} (h:0≤k) (h2:k≤1000000) (x:α):iU k x=some (List.replicate k.toNat x):=if_pos ⟨h,by omega⟩
theorem zJ {e:List (Int×Int)} {S:List Int} {t:XT} {o:Nat} (env:P9) (h:At e S t o) (he:e.length≤48) (hw:t.wf):dI (e,S,env) (rtI t o:Int)=some (CO t o):=by
 have hr:=jE h
 have ha:=b7S hw
 unfold dI
 simp only[E9,hr.1,o7,NL]
 rw[Bv ha.1 (by omega),o7,Y7]
 rw[show G5 .i64 ((rtI t o:Nat):Int) 1=(rtI t o:Int) -1 from I5 (by unfold I64;omega)]
 rw[show G5 .i64 (o8 (List.replicate (arF t.node.1).toNat (0:Int))) 1=arF t.node.1 -1 by
  rw[show o8 (List.replicate (arF t.node.1).toNat (0:Int))=arF t.node.1 by unfold o8;rw[List.length_replicate];omega]
  exact I5 (by unfold I64;omega)]
 refine WH ⟨fun l c j x hj hl hx hx2=>?_,fun l c=>?_⟩ h he hw
 ·have hjl:l[j]? =some l[j]:=Y5 hj
  simp only[G7 (show(0:Int)≤(j:Int) by omega),o6,E9,hjl,o7,hx,J4,toN,Int.toNat_natCast,P6]
  rw[I5 (by unfold I64;omega),I5 (by unfold I64;omega)]
 ·rfl
theorem xF {e:List (Int×Int)} {T t:XT} {o:Nat} (hT:eQ e= .inr T) (h:At e (T.sts 0) t o) (hw:t.wf):oD e (rtI t o:Int)=some (CO t o):=by
 obtain⟨hp,he⟩:=Aa hT
 have hr:=jE h
 have ha:=b7S hw
 unfold oD
 rw[Az,o7]
 unfold nG
 rw[hT]
 simp only[E9,hr.1,o7,PL,F8 (rfl:(0:Int)=0),x8,o5]
 rw[E8 (show(0:Int)≤((rtI t o:Nat):Int) by omega),G8 (show((rtI t o:Nat):Int)<o8 e by unfold o8;omega)]
 simp only[o5,o7,D5]
 rw[Bv ha.1 (by omega),o7,Y7]
 rw[show G5 .i64 ((rtI t o:Nat):Int) 1=(rtI t o:Int) -1 from I5 (by unfold I64;omega)]
 rw[show G5 .i64 (arF t.node.1) 1=arF t.node.1 -1 from I5 (by unfold I64;omega)]
 refine WH ⟨fun l c j x hj hl hx hx2=>?_,fun l c=>?_⟩ h he hw
 ·have hjl:l[j]? =some l[j]:=Y5 hj
  simp only[G7 (show(0:Int)≤(j:Int) by omega),o6,E9,hjl,o7,hx,J4,toN,Int.toNat_natCast,P6]
  rw[I5 (by unfold I64;omega),I5 (by unfold I64;omega)]
 ·rfl
def yB (n:Int×Int) (args:List V3) (env:P9):V3×Int:=(jM n args env).getD ((0,0,0),0)
theorem xY {n:Int×Int} {env:P9} (args:List V3) (hE:EvOk env) (hI:I64 n.2) (hk:n.1≠23∧n.1≠24∧n.1≠26) (hl:args.length≤3):jM n args env=some (yB n args env)∧rF n args env=some (yB n args env):=by
 obtain⟨r,h1,h2⟩:=Vm n.1 n.2 args env hE (by unfold I64 at hI;omega) hk (by omega)
 have e:yB n args env=r:=by unfold yB;rw[show jM n args env=some r from h1];rfl
 rw[e];exact⟨h1,h2⟩
def lzB (k:Int):Bool:=l7 (ieq k 23) true (l7 (ieq k 24) true (ieq k 26))
theorem b0c {k:Int} (h:lzB k=false):k≠23∧k≠24∧k≠26:=by
 refine⟨?_,?_,?_⟩ <;> (rintro rfl;revert h;decide)
def sW (r:V3×Int):V3×Int:=l7 (ieq r.2 0) (l7 (ieq r.1.1 1) (l7 (plB r.1) (r.1,0) ((0,0,0),8)) ((0,0,0),8)) ((0,0,0),r.2)
def OM (n:Int×Int) (ra rb:V3×Int):V3×Int:=l7 (ieq n.2 0) (l7 (ieq (sW ra).2 0) (l7 (bZ (ieq n.1 23) (ieq (sW ra).1.2.2 0)) ((sW ra).1,0) (sW rb)) ((0,0,0),(sW ra).2)) ((0,0,0),2)
def VY (n:Int×Int) (ra rb rc:V3×Int):V3×Int:=l7 (ieq n.2 0) (l7 (ieq (sW ra).2 0) (l7 (ieq (sW ra).1.2.2 1) rb rc) ((0,0,0),(sW ra).2)) ((0,0,0),2)
def evT (env:P9):XT→V3×Int
 | .l0 n=>yB n [] env
 | .l1 n a=>l7 (ieq (evT env a).2 0) (yB n [(evT env a).1] env) ((0,0,0),(evT env a).2)
 | .l2 n a b=>l7 (lzB n.1) (OM n (evT env a) (evT env b)) (l7 (ieq (evT env a).2 0) (l7 (ieq (evT env b).2 0) (yB n [(evT env a).1,(evT env b).1] env) ((0,0,0),(evT env b).2)) ((0,0,0),(evT env a).2))
 | .l3 n a b c=>VY n (evT env a) (evT env b) (evT env c)
abbrev VSt:Type:=V3×List V3×Int
structure VStep (ops:List Int) (ev:Int→Option (V3×Int)) (pad:List V3→List V3) (f:VSt→Option (Out VSt (V3×List V3) (V3×Int))):Prop where
 step:∀(l:List V3) (c:Int) (r:V3×Int),ops[l.length]? =some c→ev c=some r→f ((0,0,0),pad l,(l.length:Int))=some (l7 (ieq r.2 0) (.nx ((0,0,0),pad (l++[r.1]),((l.length+1:Nat):Int))) (.rt ((0,0,0),r.2)))
 stop:∀(l:List V3),l.length=ops.length→f ((0,0,0),pad l,(l.length:Int))=some (.ex ((0,0,0),l))
section
variable {ev:Int→Option (V3×Int)} {pad:List V3→List V3} {f:VSt→Option (Out VSt (V3×List V3) (V3×Int))}
theorem v0 (h:VStep [] ev pad f):J7 f ((0,0,0),pad [],0)=some (.inl ((0,0,0),[])):=by
 obtain⟨k,hk⟩:∃k,bK=k+1:=⟨bK -1,by unfold bK;omega⟩
 unfold J7
 rw[hk,dP,show f ((0,0,0),pad [],0)=some (.ex ((0,0,0),[]))from h.stop [] rfl]
theorem v1 {c:Int} {r:V3×Int} (h:VStep [c] ev pad f) (h1:ev c=some r):J7 f ((0,0,0),pad [],0)=some (l7 (ieq r.2 0) (.inl ((0,0,0),[r.1])) (.inr ((0,0,0),r.2))):=by
 obtain⟨k,hk⟩:∃k,bK=k+1+1:=⟨bK -2,by unfold bK;omega⟩
 unfold J7
 rw[hk,dP,show f ((0,0,0),pad [],0)=_ from h.step [] c r rfl h1]
 cases ieq r.2 0
 ·rfl
 ·simp only[o6]
  rw[dP,show f ((0,0,0),pad ([]++[r.1]),(([].length+1:Nat):Int))=_ from h.stop [r.1] rfl]
theorem v2 {c d:Int} {r q:V3×Int} (h:VStep [c,d] ev pad f) (h1:ev c=some r) (h2:ev d=some q):J7 f ((0,0,0),pad [],0)=some (l7 (ieq r.2 0) (l7 (ieq q.2 0) (.inl ((0,0,0),[r.1,q.1])) (.inr ((0,0,0),q.2))) (.inr ((0,0,0),r.2))):=by
 obtain⟨k,hk⟩:∃k,bK=k+1+1+1:=⟨bK -3,by unfold bK;omega⟩
 unfold J7
 rw[hk,dP,show f ((0,0,0),pad [],0)=_ from h.step [] c r rfl h1]
 cases ieq r.2 0
 ·rfl
 ·simp only[o6]
  rw[dP,show f ((0,0,0),pad ([]++[r.1]),(([].length+1:Nat):Int))=_ from h.step [r.1] d q rfl h2]
  cases ieq q.2 0
  ·rfl
  ·simp only[o6]
   rw[dP,show f ((0,0,0),pad ([r.1]++[q.1]),(([r.1].length+1:Nat):Int))=_ from h.stop [r.1,q.1] rfl]
end
theorem Tz {k:Int} (h:arF k=0∨arF k=1):k≠23∧k≠24∧k≠26:=by
 refine⟨?_,?_,?_⟩ <;> (rintro rfl;revert h;decide)
theorem a3I {k:Int} (h:arF k=2):k≠26:=by rintro rfl;revert h;decide
theorem a3J {k:Int} (h:arF k=3):k=26:=by
 obtain⟨i,rfl⟩:=b8v (by rw[h];decide)
 rw[(a3H i).2.2.2 h];rfl
theorem d2R (n:Nat) (E:O7) (i:Int):(C9 (n+1)).1 E i=iE (C9 n).1 (C9 n).2.1 (C9 n).2.2 E i:=rfl
theorem d2S (n:Nat) (E:O7) (i:Int):(C9 (n+1)).2.1 E i=jV (C9 n).1 (C9 n).2.1 (C9 n).2.2 E i:=rfl
theorem b7z (n:Nat) (E:O7) (x:Int×Int) (l:List Int):(C9 (n+1)).2.2 E x l=fJ (C9 n).1 (C9 n).2.1 (C9 n).2.2 E x l:=rfl
theorem GN {n:Nat} {E:O7} {i:Int} {r:V3×Int} (h:(C9 n).2.1 E i=some r):(C9 (n+1)).1 E i=some (sW r):=by
 rw[d2R]
 unfold iE sW
 rw[h,o7]
 cases ieq r.2 0
 ·rfl
 cases ieq r.1.1 1
 ·rfl
 simp only[x8,o5,o6]
 rw[D9,o7]
 cases plB r.1 <;> rfl
theorem a4u {n:Nat} {E:O7} {x:Int×Int} {i j:Int} {ra rb:V3×Int} (hx:x.1≠26) (h1:(C9 n).2.1 E i=some ra) (h2:(C9 n).2.1 E j=some rb):(C9 (n+2)).2.2 E x [i,j]=some (OM x ra rb):=by
 rw[show n+2=(n+1)+1 from rfl,b7z]
 unfold fJ OM
 rw[show lat [i,j] 0=some i from rfl,show lat [i,j] 1=some j from rfl]
 simp only[o7]
 rw[GN h1,GN h2,F5 hx]
 cases ieq x.2 0
 ·rfl
 simp only[o7,x8,o5,o6]
 cases ieq (sW ra).2 0
 ·rfl
 simp only[x8,o5,o6]
 cases bZ (ieq x.1 23) (ieq (sW ra).1.2.2 0) <;> rfl
theorem a4v {n:Nat} {E:O7} {x:Int×Int} {i j l:Int} {ra rb rc:V3×Int} (hx:x.1=26) (h1:(C9 n).2.1 E i=some ra) (h2:(C9 (n+1)).2.1 E j=some rb) (h3:(C9 (n+1)).2.1 E l=some rc):(C9 (n+2)).2.2 E x [i,j,l]=some (VY x ra rb rc):=by
 rw[show n+2=(n+1)+1 from rfl,b7z]
 unfold fJ VY
 rw[show lat [i,j,l] 0=some i from rfl,show lat [i,j,l] 1=some j from rfl,show lat [i,j,l] 2=some l from rfl]
 simp only[o7]
 rw[GN h1,h2,h3,F8 hx]
 cases ieq x.2 0
 ·rfl
 simp only[o7,x8,o5,o6]
 cases ieq (sW ra).2 0
 ·rfl
 simp only[x8,o5,o6]
 cases ieq (sW ra).1.2.2 1 <;> rfl
def QL (m:Nat) (l:List V3):List V3:=l++List.replicate (m -l.length) (0,0,0)
theorem a5g {m:Nat} {l:List V3} (h:l.length<m):(QL m l)[l.length]? =some (0,0,0):=by
 unfold QL
 rw[List.getElem?_append_right (Nat.le_refl _),Nat.sub_self,List.getElem?_replicate,if_pos (by omega)]
theorem a5h {m:Nat} {l:List V3} (v:V3) (h:l.length<m):(QL m l).set l.length v=QL m (l++[v]):=by
 unfold QL
 obtain⟨k,hk⟩:∃k,m -l.length=k+1:=⟨m -l.length -1,by omega⟩
 rw[List.set_append_right _ _ (Nat.le_refl _),Nat.sub_self,hk,List.replicate_succ,List.set_cons_zero]
 rw[show m -(l++[v]).length=k by simp;omega]
 simp
theorem a2M {m:Nat} {l:List V3} (h:l.length=m):QL m l=l:=by unfold QL;rw[h,Nat.sub_self];simp
def a0A (ev:Int→Option (V3×Int)) (ops:List Int) (x:VSt):Option (Out VSt (V3×List V3) (V3×Int)):=
 l7 (ilt x.2.2 (o8 ops))
  (l9 (lat ops x.2.2) fun(x_4:Int)=>
   l9 (J4 ops (toN x.2.2)) fun(x_5:Int)=>
    l9 (ev x_5) fun(x_6:V3×Int)=>
     l7 (D6 (ieq x_6.2 0)) (some (Out.rt ((0,0,0),x_6.2)))
      (l9 (lat x.2.1 x.2.2) fun(x_7:V3)=>
       l9 (J4 x.2.1 (toN x.2.2)) fun(x_8:V3)=>
        some (Out.nx (x.1,P6 x.2.1 (toN x.2.2) x_6.1,x9 IntKind.i64 x.2.2 1))))
  (some (Out.ex (x.1,x.2.1)))
theorem Hl (ev:Int→Option (V3×Int)) (ops:List Int) (ho:ops.length≤3):VStep ops ev (QL ops.length) (a0A ev ops):=by
 refine⟨fun l c r h1 h2=>?_,fun l h=>?_⟩
 ·have hl:=(O5.1 h1).1
  unfold a0A
  simp only[H6 h1,o6,E9,h1,o7,J4,toN,Int.toNat_natCast,h2,a5g hl,P6,a5h _ hl]
  cases ieq r.2 0
  ·rfl
  ·simp only[x8,o5,o6]
   rw[O8 (by omega)]
 ·unfold a0A
  rw[a2M h,h,H5];rfl
theorem Nk (n:Nat) (E:O7) (i:Int) (x:Int×Int) (ops:List Int) (h1:lat E.1 i=some x) (h2:dI E i=some ops) (ho:ops.length≤3):
  (C9 (n+1)).2.1 E i=l7 (lzB x.1) ((C9 n).2.2 E x ops)
   (l9 (J7 (a0A ((C9 n).2.1 E) ops) ((0,0,0),QL ops.length [],0)) fun(o:V3×List V3⊕V3×Int)=>J9 o (fun(y:V3×List V3)=>rF x y.2 E.2.2) fun(r:V3×Int)=>some r):=by
 rw[d2S]
 unfold jV lzB
 simp only[h1,h2,o7,Y7]
 rw[show o8 ops=(ops.length:Int)from rfl]
 have hp:iU (ops.length:Int) (((0,0,0):Int×Int×Int))=some (QL ops.length []):=by
  rw[Bv (by omega) (by omega)];rfl
 cases g1:ieq x.1 23
 ·cases g2:ieq x.1 24
  ·cases g3:ieq x.1 26
   ·simp only[o5,o7,D5]
    rw[show iU (ops.length:Int) _=_ from hp,o7]
    rfl
   ·simp only[o5,o6]
    generalize (C9 n).2.2 E x ops=q
    cases q <;> rfl
  ·simp only[o5,o6]
   generalize (C9 n).2.2 E x ops=q
   cases q <;> rfl
 ·simp only[o6]
  generalize (C9 n).2.2 E x ops=q
  cases q <;> rfl
theorem Jc (t:XT) (o:Nat):(CO t o).length≤3:=by cases t <;> simp[CO]
theorem VH {e:List (Int×Int)} {S:List Int} {env:P9} (hE:EvOk env) (he:e.length≤48) (hI:∀n∈e,I64 n.2):∀(t:XT) (o k:Nat),At e S t o→t.wf→3*t.size≤k→(C9 k).2.1 (e,S,env) (rtI t o:Int)=some (evT env t):=by
 intro t
 induction t with
 | l0 n=>
  intro o k h hw hk
  have hr:=jE h
  obtain⟨k,rfl⟩:∃m,k=m+3:=⟨k -3,by simp only[XT.size]at hk;omega⟩
  have hz:=Tz (.inl (show arF n.1=0 from hw))
  rw[show k+3=(k+2)+1 from rfl,Nk _ _ _ n (CO (.l0 n) o) (by rw[E9];exact hr.1) (zJ env h he hw) (Jc _ _)]
  rw[show lzB n.1=false by unfold lzB;rw[F5 hz.1,F5 hz.2.1,F5 hz.2.2];rfl,o5]
  rw[show CO (.l0 n) o=[]from rfl,v0 (Hl _ _ (by simp)),o7,D5]
  exact(xY [] hE (hI n (dN hr.1)) hz (by simp)).2
 | l1 n a iha=>
  intro o k h hw hk
  have hr:=jE h
  simp only[XT.size]at hk
  obtain⟨k,rfl⟩:∃m,k=m+3:=⟨k -3,by omega⟩
  have hz:=Tz (.inr (show arF n.1=1 from hw.1))
  rw[show k+3=(k+2)+1 from rfl,Nk _ _ _ n (CO (.l1 n a) o) (by rw[E9];exact hr.1) (zJ env h he hw) (Jc _ _)]
  rw[show lzB n.1=false by unfold lzB;rw[F5 hz.1,F5 hz.2.1,F5 hz.2.2];rfl,o5]
  rw[show CO (.l1 n a) o=[(rtI a o:Int)]from rfl,v1 (Hl _ _ (by simp)) (iha o (k+2) (a3L h) hw.2 (by omega)),o7]
  rw[show evT env (.l1 n a)=l7 (ieq (evT env a).2 0) (yB n [(evT env a).1] env) ((0,0,0),(evT env a).2)from rfl]
  cases ieq (evT env a).2 0
  ·rfl
  exact(xY [(evT env a).1] hE (hI n (dN hr.1)) hz (by simp)).2
 | l2 n a b iha ihb=>
  intro o k h hw hk
  have hr:=jE h
  simp only[XT.size]at hk
  obtain⟨k,rfl⟩:∃m,k=m+3:=⟨k -3,by omega⟩
  have hz:=a3I (show arF n.1=2 from hw.1)
  rw[show k+3=(k+2)+1 from rfl,Nk _ _ _ n (CO (.l2 n a b) o) (by rw[E9];exact hr.1) (zJ env h he hw) (Jc _ _)]
  rw[show CO (.l2 n a b) o=[(rtI a o:Int),(rtI b (o+a.size):Int)]from rfl]
  rw[show evT env (.l2 n a b)=l7 (lzB n.1) (OM n (evT env a) (evT env b)) (l7 (ieq (evT env a).2 0) (l7 (ieq (evT env b).2 0) (yB n [(evT env a).1,(evT env b).1] env) ((0,0,0),(evT env b).2)) ((0,0,0),(evT env a).2))from rfl]
  cases hl:lzB n.1
  ·have hz:=b0c hl
   simp only[o5]
   rw[v2 (Hl _ _ (by simp)) (iha o (k+2) (Gl h).1 hw.2.1 (by omega)) (ihb (o+a.size) (k+2) (Gl h).2 hw.2.2 (by omega)),o7]
   cases ieq (evT env a).2 0
   ·rfl
   cases ieq (evT env b).2 0
   ·rfl
   exact(xY [(evT env a).1,(evT env b).1] hE (hI n (dN hr.1)) hz (by simp)).2
  ·simp only[o6]
   exact a4u hz (iha o k (Gl h).1 hw.2.1 (by omega)) (ihb (o+a.size) k (Gl h).2 hw.2.2 (by omega))
 | l3 n a b c iha ihb ihc=>
  intro o k h hw hk
  have hr:=jE h
  simp only[XT.size]at hk
  obtain⟨k,rfl⟩:∃m,k=m+3:=⟨k -3,by omega⟩
  have hz:=a3J (show arF n.1=3 from hw.1)
  rw[show k+3=(k+2)+1 from rfl,Nk _ _ _ n (CO (.l3 n a b c) o) (by rw[E9];exact hr.1) (zJ env h he hw) (Jc _ _)]
  rw[show lzB n.1=true by rw[hz];decide,o6]
  exact a4v hz (iha o k (Il h).1 hw.2.1 (by omega)) (ihb (o+a.size) (k+1) (Il h).2.1 hw.2.2.1 (by omega)) (ihc (o+a.size+b.size) (k+1) (Il h).2.2 hw.2.2.2 (by omega))
theorem b9f (n:Nat) (e:List (Int×Int)) (i:Int) (env:P9):(I8 (n+1)).1 e i env=vM (I8 n).1 (I8 n).2 e i env:=rfl
theorem a5O (n:Nat) (e:List (Int×Int)) (i:Int) (l:List Int) (env:P9):(I8 (n+1)).2 e i l env=qW (I8 n).1 (I8 n).2 e i l env:=rfl
def UL (ev:Int→Option (V3×Int)) (ops:List Int) (x:VSt):Option (Out VSt (V3×List V3) (V3×Int)):=
 l7 (ilt x.2.2 (o8 ops))
  (l9 (lat ops x.2.2) fun(x_4:Int)=>
   l9 (J4 ops (toN x.2.2)) fun(x_5:Int)=>
    l9 (ev x_5) fun(x_6:V3×Int)=>
     l7 (D6 (ieq x_6.2 0)) (some (Out.rt ((0,0,0),x_6.2)))
      (l9 (X9 x.2.1 [x_6.1]) fun(y:List V3)=>some (Out.nx (x.1,y,x9 IntKind.i64 x.2.2 1))))
  (some (Out.ex (x.1,x.2.1)))
theorem EL (ev:Int→Option (V3×Int)) (ops:List Int) (ho:ops.length≤3):VStep ops ev (fun l=>l) (UL ev ops):=by
 refine⟨fun l c r h1 h2=>?_,fun l h=>?_⟩
 ·have hl:=(O5.1 h1).1
  unfold UL
  simp only[H6 h1,o6,E9,h1,o7,J4,toN,Int.toNat_natCast,h2]
  cases ieq r.2 0
  ·rfl
  ·simp only[x8,o5,o6]
   rw[aB _ (by omega),o7,O8 (by omega)]
 ·unfold UL
  rw[h,H5];rfl
theorem Jo (n:Nat) (e:List (Int×Int)) (env:P9) (i:Int) (x:Int×Int) (ops:List Int) (h1:lat e i=some x) (h2:oD e i=some ops):
  (I8 (n+1)).1 e i env=l7 (lzB x.1) ((I8 n).2 e i ops env)
   (l9 (J7 (UL (fun c=>(I8 n).1 e c env) ops) ((0,0,0),[],0)) fun(o:V3×List V3⊕V3×Int)=>J9 o (fun(y:V3×List V3)=>jM x y.2 env) fun(r:V3×Int)=>some r):=by
 rw[b9f]
 unfold vM lzB
 simp only[h1,h2,o7,Y7]
 cases g1:ieq x.1 23
 ·cases g2:ieq x.1 24
  ·cases g3:ieq x.1 26
   ·rfl
   ·simp only[o5,o6]
    generalize (I8 n).2 e i ops env=q
    cases q <;> rfl
  ·simp only[o5,o6]
   generalize (I8 n).2 e i ops env=q
   cases q <;> rfl
 ·simp only[o6]
  generalize (I8 n).2 e i ops env=q
  cases q <;> rfl
theorem DU (r:V3×Int):(ieq r.2 0=false∧(sW r)=((0,0,0),r.2))∨(ieq r.2 0=true∧ieq r.1.1 1=false∧sW r=((0,0,0),8))∨(ieq r.2 0=true∧ieq r.1.1 1=true∧plB r.1=false∧sW r=((0,0,0),8))∨(ieq r.2 0=true∧ieq r.1.1 1=true∧plB r.1=true∧sW r=(r.1,0)):=by
 unfold sW
 cases ieq r.2 0
 ·exact .inl ⟨rfl,rfl⟩
 cases ieq r.1.1 1
 ·exact .inr (.inl ⟨rfl,rfl,rfl⟩)
 cases plB r.1
 ·exact .inr (.inr (.inl ⟨rfl,rfl,rfl,rfl⟩))
 ·exact .inr (.inr (.inr ⟨rfl,rfl,rfl,rfl⟩))
theorem a3c {n:Nat} {e:List (Int×Int)} {env:P9} {c:Int} {x:Int×Int} {i j:Int} {ra rb:V3×Int} (hc:lat e c=some x) (hx:x.1≠26) (h1:(I8 n).1 e i env=some ra) (h2:(I8 n).1 e j env=some rb):(I8 (n+1)).2 e c [i,j] env=some (OM x ra rb):=by
 rw[a5O]
 unfold qW OM
 rw[show lat [i,j] 0=some i from rfl,show lat [i,j] 1=some j from rfl]
 simp only[hc,o7,h1,h2,D7,F5 hx]
 cases ieq x.2 0
 ·rfl
 rcases DU ra with⟨g1,g2⟩ | ⟨g1,g2,g3⟩ | ⟨g1,g2,g3,g4⟩ | ⟨g1,g2,g3,g4⟩
 ·rw[g2,g1];rfl
 ·rw[g1,g2,g3];rfl
 ·rw[g1,g2,g3,g4];rfl
 ·rw[g1,g2,g3,g4]
  simp only[x8,o5,o6,o7,D5,F8 (rfl:(0:Int)=0)]
  cases bZ (ieq x.1 23) (ieq ra.1.2.2 0)
  ·rcases DU rb with⟨g1,g2⟩ | ⟨g1,g2,g3⟩ | ⟨g1,g2,g3,g4⟩ | ⟨g1,g2,g3,g4⟩
   ·rw[g2,g1];rfl
   ·rw[g1,g2,g3];rfl
   ·rw[g1,g2,g3,g4];rfl
   ·rw[g1,g2,g3,g4];rfl
  ·rfl
theorem a3d {n:Nat} {e:List (Int×Int)} {env:P9} {c:Int} {x:Int×Int} {i j l:Int} {ra rb rc:V3×Int} (hc:lat e c=some x) (hx:x.1=26) (h1:(I8 n).1 e i env=some ra) (h2:(I8 n).1 e j env=some rb) (h3:(I8 n).1 e l env=some rc):(I8 (n+1)).2 e c [i,j,l] env=some (VY x ra rb rc):=by
 rw[a5O]
 unfold qW VY
 rw[show lat [i,j,l] 0=some i from rfl,show lat [i,j,l] 1=some j from rfl,show lat [i,j,l] 2=some l from rfl]
 simp only[hc,o7,h1,h2,h3,D7,F8 hx]
 cases ieq x.2 0
 ·rfl
 rcases DU ra with⟨g1,g2⟩ | ⟨g1,g2,g3⟩ | ⟨g1,g2,g3,g4⟩ | ⟨g1,g2,g3,g4⟩
 ·rw[g2,g1];rfl
 ·rw[g1,g2,g3];rfl
 ·rw[g1,g2,g3,g4];rfl
 ·rw[g1,g2,g3,g4]
  simp only[x8,o5,o6,o7,D5,F8 (rfl:(0:Int)=0)]
  cases ieq ra.1.2.2 1 <;> rfl
theorem Uu {e:List (Int×Int)} {T:XT} {env:P9} (hE:EvOk env) (hT:eQ e= .inr T) (hI:∀n∈e,I64 n.2):∀(t:XT) (o k:Nat),At e (T.sts 0) t o→t.wf→3*t.size≤k→(I8 k).1 e (rtI t o:Int) env=some (evT env t):=by
 intro t
 induction t with
 | l0 n=>
  intro o k h hw hk
  have hr:=jE h
  obtain⟨k,rfl⟩:∃m,k=m+3:=⟨k -3,by simp only[XT.size]at hk;omega⟩
  have hz:=Tz (.inl (show arF n.1=0 from hw))
  rw[show k+3=(k+2)+1 from rfl,Jo _ _ _ _ n (CO (.l0 n) o) (by rw[E9];exact hr.1) (xF hT h hw)]
  rw[show lzB n.1=false by unfold lzB;rw[F5 hz.1,F5 hz.2.1,F5 hz.2.2];rfl,o5]
  rw[show CO (.l0 n) o=[]from rfl,v0 (EL _ _ (by simp)),o7,D5]
  exact(xY [] hE (hI n (dN hr.1)) hz (by simp)).1
 | l1 n a iha=>
  intro o k h hw hk
  have hr:=jE h
  simp only[XT.size]at hk
  obtain⟨k,rfl⟩:∃m,k=m+3:=⟨k -3,by omega⟩
  have hz:=Tz (.inr (show arF n.1=1 from hw.1))
  rw[show k+3=(k+2)+1 from rfl,Jo _ _ _ _ n (CO (.l1 n a) o) (by rw[E9];exact hr.1) (xF hT h hw)]
  rw[show lzB n.1=false by unfold lzB;rw[F5 hz.1,F5 hz.2.1,F5 hz.2.2];rfl,o5]
  rw[show CO (.l1 n a) o=[(rtI a o:Int)]from rfl,v1 (EL _ _ (by simp)) (iha o (k+2) (a3L h) hw.2 (by omega)),o7]
  rw[show evT env (.l1 n a)=l7 (ieq (evT env a).2 0) (yB n [(evT env a).1] env) ((0,0,0),(evT env a).2)from rfl]
  cases ieq (evT env a).2 0
  ·rfl
  exact(xY [(evT env a).1] hE (hI n (dN hr.1)) hz (by simp)).1
 | l2 n a b iha ihb=>
  intro o k h hw hk
  have hr:=jE h
  simp only[XT.size]at hk
  obtain⟨k,rfl⟩:∃m,k=m+3:=⟨k -3,by omega⟩
  have hz:=a3I (show arF n.1=2 from hw.1)
  rw[show k+3=(k+2)+1 from rfl,Jo _ _ _ _ n (CO (.l2 n a b) o) (by rw[E9];exact hr.1) (xF hT h hw)]
  rw[show CO (.l2 n a b) o=[(rtI a o:Int),(rtI b (o+a.size):Int)]from rfl]
  rw[show evT env (.l2 n a b)=l7 (lzB n.1) (OM n (evT env a) (evT env b)) (l7 (ieq (evT env a).2 0) (l7 (ieq (evT env b).2 0) (yB n [(evT env a).1,(evT env b).1] env) ((0,0,0),(evT env b).2)) ((0,0,0),(evT env a).2))from rfl]
  cases hl:lzB n.1
  ·have hz:=b0c hl
   simp only[o5]
   rw[v2 (EL _ _ (by simp)) (iha o (k+2) (Gl h).1 hw.2.1 (by omega)) (ihb (o+a.size) (k+2) (Gl h).2 hw.2.2 (by omega)),o7]
   cases ieq (evT env a).2 0
   ·rfl
   cases ieq (evT env b).2 0
   ·rfl
   exact(xY [(evT env a).1,(evT env b).1] hE (hI n (dN hr.1)) hz (by simp)).1
  ·simp only[o6]
   exact a3c (by rw[E9];exact hr.1) hz (iha o (k+1) (Gl h).1 hw.2.1 (by omega)) (ihb (o+a.size) (k+1) (Gl h).2 hw.2.2 (by omega))
 | l3 n a b c iha ihb ihc=>
  intro o k h hw hk
  have hr:=jE h
  simp only[XT.size]at hk
  obtain⟨k,rfl⟩:∃m,k=m+3:=⟨k -3,by omega⟩
  have hz:=a3J (show arF n.1=3 from hw.1)
  rw[show k+3=(k+2)+1 from rfl,Jo _ _ _ _ n (CO (.l3 n a b c) o) (by rw[E9];exact hr.1) (xF hT h hw)]
  rw[show lzB n.1=true by rw[hz];decide,o6]
  exact a3d (by rw[E9];exact hr.1) hz (iha o (k+1) (Il h).1 hw.2.1 (by omega)) (ihb (o+a.size) (k+1) (Il h).2.1 hw.2.2.1 (by omega)) (ihc (o+a.size+b.size) (k+1) (Il h).2.2 hw.2.2.2 (by omega))
def xf (e:List (Int×Int)) (env:P9):V3×Int:=match eQ e with
 | .inl x=>((0,0,0),x.2)
 | .inr t=>evT env t
theorem Vr {e:List (Int×Int)} {t:XT} (h:eQ e= .inr t):At e (t.sts 0) t 0∧e.length≤48∧e.length=t.size∧G5 .i64 (o8 e) 1=(rtI t 0:Int):=by
 obtain⟨hp,h48⟩:=Aa h
 have hsz:e.length=t.size:=by rw[hp,XT.post_len]
 have hpos:=t.size_pos
 refine⟨⟨[],[],[],[],by simp[←hp],by simp,rfl,rfl⟩,h48,hsz,?_⟩
 rw[I5 (by unfold I64 o8;omega)]
 unfold o8 rtI;omega
theorem a0f {e:List (Int×Int)} {env:P9} (hE:EvOk env) (hI:∀n∈e,I64 n.2):Bc e env=some (xf e env):=by
 unfold Bc Eb xf
 rw[Js]
 unfold nG
 cases h:eQ e with
 | inl x=>simp only[o7,F5 (wS h)];rfl
 | inr t=>
  obtain⟨h1,h2,h3,h4⟩:=Vr h
  simp only[o7,F8 (rfl:(0:Int)=0),x8,o5,Y7]
  rw[h4,show qg (e,t.sts 0,env) ((rtI t 0:Nat):Int)=some (evT env t)from VH hE h2 hI t 0 bK h1 (FU h) (by unfold bK;omega)] <;> rfl
theorem WQ {e:List (Int×Int)} {env:P9} (hE:EvOk env) (hI:∀n∈e,I64 n.2):yS e env=some (xf e env):=by
 unfold yS CY xf
 rw[Az]
 unfold nG
 cases h:eQ e with
 | inl x=>simp only[o7,F5 (wS h)];rfl
 | inr t=>
  obtain⟨h1,h2,h3,h4⟩:=Vr h
  simp only[o7,F8 (rfl:(0:Int)=0),x8,o5,Y7]
  rw[h4,show EF e ((rtI t 0:Nat):Int) env=some (evT env t)from Uu hE h hI t 0 bK h1 (FU h) (by unfold bK;omega)] <;> rfl
abbrev E4:Type:=Int×Int×Int×Int
def OD (s:D8) (env:P9) (m d:Int) (ap:List Bool) (i:Int):List Bool⊕(Int×E4):=
 match lat s.2.2.2.2 i with
 | none=> .inl ap
 | some r=>l7 (ieq (o8 r.2.2.2.2.2.1) 0) (.inl (ap++[true])) (l7 (ieq (xf r.2.2.2.2.2.1 env).2 0) (.inl (ap++[ieq (xf r.2.2.2.2.2.1 env).1.2.2 1])) (.inr (0,(xf r.2.2.2.2.2.1 env).2,m,d,i)))
def bU (s:D8) (env:P9) (m d:Int):Int×E4:=
 match az (OD s env m d) (ai s d env.1).1 []with
 | .inr e=>e
 | .inl ap=>l7 (ilt (BI (ai s d env.1).2.1 (ai s d env.1).2.2 ap) 0) (BI (ai s d env.1).2.1 (ai s d env.1).2.2 ap,0,0,0,0) (((ai s d env.1).1.getD (BI (ai s d env.1).2.1 (ai s d env.1).2.2 ap).toNat 0),0,0,0,0)
theorem Ql {s:D8} {d t i:Int} (h:i∈(ai s d t).1):∃r,lat s.2.2.2.2 i=some r∧r∈s.2.2.2.2:=by
 have h:i∈castL (gZ s d t):=h
 obtain⟨k,hk,rfl⟩:=List.mem_map.1 h
 have:=(KN hk).1
 exact cZ (by omega) (by unfold o8;omega)
theorem Ju (s:D8) (d t:Int):(ai s d t).1.length≤s.2.2.2.2.length∧(ai s d t).2.1.length=(ai s d t).1.length:=by
 refine⟨?_,?_⟩
 ·show(castL (gZ s d t)).length≤_
  rw[Fp];exact vZ _ _
 ·show((gZ s d t).map _).length=(castL (gZ s d t)).length
  rw[Fp,List.length_map]
theorem a3V {oc pr:Int→Int} {l:List Int} {n:Int} (hn:0≤n) (h:∀x∈l,oc x<n):chF oc pr l<n:=by
 unfold chF
 cases hb:zn oc pr l with
 | nil=>show(-1:Int)<n;omega
 | cons b r=>
  cases r with
  | nil=>exact h b (AU (oc:=oc) (pr:=pr) (by rw[hb];simp))
  | cons c r=>show(-2:Int)<n;omega
theorem a4R (par prio:List Int) (ap:List Bool):∀(k:Nat) (i:Int),i<par.length→ocF par prio ap k i<par.length
 | 0,i,h=>by show(-1:Int)<_;omega
 | k+1,i,h=>by
  unfold ocF
  have hb:chF (ocF par prio ap k) (prF prio) (castL (rJ par i))<(par.length:Int):=a3V (by omega) fun x hx=>by
   unfold castL at hx
   obtain⟨j,hj,rfl⟩:=List.mem_map.1 hx
   have:=(TY hj).1
   exact a4R par prio ap k _ (by omega)
  cases ieq (chF (ocF par prio ap k) (prF prio) (castL (rJ par i))) (-1)
  ·exact hb
  ·cases apF ap i
   ·show(-1:Int)<_;omega
   ·exact h
theorem a1z (par prio:List Int) (ap:List Bool):BI par prio ap<par.length:=by
 unfold BI
 cases ieq (Af par prio) 0
 ·show(-1:Int)<_;omega
 cases ieq (o8 ap) (o8 par)
 ·show(-1:Int)<_;omega
 show chS par prio ap (-1)<_
 unfold chS
 refine a3V (by omega) fun x hx=>?_
 unfold castL at hx
 obtain⟨j,hj,rfl⟩:=List.mem_map.1 hx
 have:=(TY hj).1
 unfold OC
 exact a4R par prio ap _ _ (by omega)
def Uj (m:Nat) (l:List Bool):List Bool:=l++List.replicate (m -l.length) false
theorem a5e {m:Nat} {l:List Bool} (h:l.length<m):(Uj m l)[l.length]? =some false:=by
 unfold Uj
 rw[List.getElem?_append_right (Nat.le_refl _),Nat.sub_self,List.getElem?_replicate,if_pos (by omega)]
theorem a5f {m:Nat} {l:List Bool} (v:Bool) (h:l.length<m):(Uj m l).set l.length v=Uj m (l++[v]):=by
 unfold Uj
 obtain⟨k,hk⟩:∃k,m -l.length=k+1:=⟨m -l.length -1,by omega⟩
 rw[List.set_append_right _ _ (Nat.le_refl _),Nat.sub_self,hk,List.replicate_succ,List.set_cons_zero]
 rw[show m -(l++[v]).length=k by simp;omega]
 simp
theorem a2L {m:Nat} {l:List Bool} (h:l.length=m):Uj m l=l:=by unfold Uj;rw[h,Nat.sub_self];simp
theorem NZ (s:D8) (env:P9) (m d:Int) (ap:List Bool):
  l7 (ilt (BI (ai s d env.1).2.1 (ai s d env.1).2.2 ap) 0) (some ((BI (ai s d env.1).2.1 (ai s d env.1).2.2 ap,0,0,0,0):Int×E4))
   (l9 (lat (ai s d env.1).1 (BI (ai s d env.1).2.1 (ai s d env.1).2.2 ap)) fun(x_3:Int)=>l9 (J4 (ai s d env.1).1 (toN (BI (ai s d env.1).2.1 (ai s d env.1).2.2 ap))) fun(x:Int)=>some (x,0,0,0,0))=
  some (l7 (ilt (BI (ai s d env.1).2.1 (ai s d env.1).2.2 ap) 0) (BI (ai s d env.1).2.1 (ai s d env.1).2.2 ap,0,0,0,0) (((ai s d env.1).1.getD (BI (ai s d env.1).2.1 (ai s d env.1).2.2 ap).toNat 0),0,0,0,0)):=by
 have hb:=a1z (ai s d env.1).2.1 (ai s d env.1).2.2 ap
 have hl:=(Ju s d env.1).2
 generalize BI (ai s d env.1).2.1 (ai s d env.1).2.2 ap=q at*
 generalize (ai s d env.1).1=L at*
 by_cases g:q<0
 ·rw[F6 g];rfl
 rw[E8 (Int.not_lt.1 g)]
 obtain⟨i,rfl⟩:∃i:Nat,q=(i:Int):=⟨q.toNat,by omega⟩
 have hi:i<L.length:=by omega
 have e:=Y5 hi
 simp only[o5,E9,e,o7,J4,toN,Int.toNat_natCast,qp,Option.getD_some]
theorem Xl {s:D8} {env:P9} (hs:SmS s) (hE:EvOk env) (m d:Int):qO s env m d=some (bU s env m d):=by
 have hnr:=hs.nr
 have hlen:=(Ju s d env.1).1
 unfold qO
 rw[a3s (by omega),o7]
 rw[show iU (o8 (ai s d env.1).1) false=some (Uj (ai s d env.1).1.length []) by rw[show o8 (ai s d env.1).1=((ai s d env.1).1.length:Int)from rfl,Bv (by omega) (by omega)];rfl,o7]
 unfold bU
 apply fC (ai s d env.1).1 (OD s env m d) (fun b i=>(((0,0,0,0),Uj (ai s d env.1).1.length b,i):E4×List Bool×Int)) (fun b=>(((0,0,0,0),b):E4×List Bool)) (fun i b=>b.length=i) [] (by omega) rfl
 ·intro i a b hi hi' hb
  obtain⟨r,hr,hm⟩:=Ql (dN hi)
  have hlt:=(O5.1 hi).1
  have hI:=(hs.ro r hm).1.2.2
  subst hb
  simp only[H6 hi,o6,E9,hi,o7,J4,toN,Int.toNat_natCast,hr,a5e hlt,P6,a5f _ hlt]
  unfold OD
  rw[hr]
  simp only
  cases ieq (o8 r.2.2.2.2.2.1) 0
  ·simp only[o5]
   rw[a0f hE hI.1,o7]
   cases ieq (xf r.2.2.2.2.2.1 env).2 0
   ·exact⟨rfl,fun _ h=>by cases h⟩
   ·simp only[x8,o5,o6]
    rw[O8 (by omega)]
    exact⟨rfl,fun _ h=>by cases h;simp⟩
  ·simp only[o6]
   rw[O8 (by omega)]
   exact⟨rfl,fun _ h=>by cases h;simp⟩
 ·intro b hb
  rw[H5,a2L hb];rfl
 ·intro _
  cases az (OD s env m d) (ai s d env.1).1 []with
  | inr e=>rfl
  | inl ap=>
   simp only[D5,a3l,o7]
   exact NZ s env m d ap
theorem a2a {s:D8} {env:P9} (hs:SmS s) (hE:EvOk env) (m d:Int):xO s env m d=some (bU s env m d):=by
 have hnr:=hs.nr
 have hlen:=(Ju s d env.1).1
 unfold xO
 rw[YL (by omega),o7]
 unfold bU
 apply fC (ai s d env.1).1 (OD s env m d) (fun b i=>(((0,0,0,0),b,i):E4×List Bool×Int)) (fun b=>(((0,0,0,0),b):E4×List Bool)) (fun i b=>b.length=i) [] (by omega) rfl
 ·intro i a b hi hi' hb
  obtain⟨r,hr,hm⟩:=Ql (dN hi)
  have hlt:=(O5.1 hi).1
  have hI:=(hs.ro r hm).1.2.2
  subst hb
  simp only[H6 hi,o6,E9,hi,o7,J4,toN,Int.toNat_natCast,hr]
  unfold OD
  rw[hr]
  simp only
  cases ieq (o8 r.2.2.2.2.2.1) 0
  ·simp only[o5]
   rw[WQ hE hI.1,o7]
   cases ieq (xf r.2.2.2.2.2.1 env).2 0
   ·exact⟨rfl,fun _ h=>by cases h⟩
   ·simp only[x8,o5,o6]
    rw[aB _ (by omega),o7,O8 (by omega)]
    exact⟨rfl,fun _ h=>by cases h;simp⟩
  ·simp only[o6]
   rw[aB _ (by omega),o7,O8 (by omega)]
   exact⟨rfl,fun _ h=>by cases h;simp⟩
 ·intro b hb
  rw[H5];rfl
 ·intro _
  cases az (OD s env m d) (ai s d env.1).1 []with
  | inr e=>rfl
  | inl ap=>
   simp only[D5,YK,o7]
   exact NZ s env m d ap
theorem a3W {oc pr:Int→Int} {l:List Int} (h:∀x∈l,-2≤oc x):-2≤chF oc pr l:=by
 unfold chF
 cases hb:zn oc pr l with
 | nil=>show -2≤(-1:Int);omega
 | cons b r=>
  cases r with
  | nil=>exact h b (AU (oc:=oc) (pr:=pr) (by rw[hb];simp))
  | cons c r=>show -2≤(-2:Int);omega
theorem a4S (par prio:List Int) (ap:List Bool):∀(k:Nat) (i:Int),0≤i→-2≤ocF par prio ap k i
 | 0,i,h=>by show -2≤(-1:Int);omega
 | k+1,i,h=>by
  unfold ocF
  have hb:-2≤chF (ocF par prio ap k) (prF prio) (castL (rJ par i)):=a3W fun x hx=>by
   unfold castL at hx
   obtain⟨j,hj,rfl⟩:=List.mem_map.1 hx
   exact a4S par prio ap k _ (by omega)
  cases ieq (chF (ocF par prio ap k) (prF prio) (castL (rJ par i))) (-1)
  ·exact hb
  ·cases apF ap i
   ·show -2≤(-1:Int);omega
   ·show -2≤i;omega
theorem a9D (par prio:List Int) (ap:List Bool):-2≤BI par prio ap:=by
 unfold BI
 cases ieq (Af par prio) 0
 ·show -2≤(-1:Int);omega
 cases ieq (o8 ap) (o8 par)
 ·show -2≤(-1:Int);omega
 show -2≤chS par prio ap (-1)
 unfold chS
 refine a3W fun x hx=>?_
 unfold castL at hx
 obtain⟨j,hj,rfl⟩:=List.mem_map.1 hx
 unfold OC
 exact a4S par prio ap _ _ (by omega)
theorem a4k {s:D8} {env:P9} {m d:Int} (b:List Bool) (i:Int) (r:Int×E4) (h:OD s env m d b i= .inr r):r.2.1≠0:=by
 unfold OD at h
 cases hl:lat s.2.2.2.2 i with
 | none=>rw[hl]at h;cases h
 | some q=>
  rw[hl]at h
  simp only at h
  cases h1:ieq (o8 q.2.2.2.2.2.1) 0 <;> rw[h1]at h
  ·cases h2:ieq (xf q.2.2.2.2.2.1 env).2 0 <;> rw[h2]at h <;> cases h
   simp only
   intro h3
   rw[F8 h3]at h2;cases h2
  ·cases h
theorem Ld {s:D8} {env:P9} {m d:Int} (h0:(bU s env m d).2.1=0) (h1:(bU s env m d).1≠-1) (h2:(bU s env m d).1≠-2):∃r,lat s.2.2.2.2 (bU s env m d).1=some r∧r∈s.2.2.2.2:=by
 unfold bU at*
 cases hf:az (OD s env m d) (ai s d env.1).1 []with
 | inr e=>
  rw[hf]at h0
  exact absurd h0 (rY (OD s env m d) (fun r=>r.2.1≠0) a4k _ _ _ hf)
 | inl ap=>
  rw[hf]at h0 h1 h2
  simp only at*
  have hb:=a1z (ai s d env.1).2.1 (ai s d env.1).2.2 ap
  have hlo:=a9D (ai s d env.1).2.1 (ai s d env.1).2.2 ap
  have hl:=(Ju s d env.1).2
  generalize BI (ai s d env.1).2.1 (ai s d env.1).2.2 ap=q at*
  by_cases g:q<0
  ·rw[F6 g]at h1 h2
   simp only[o6]at h1 h2
   omega
  rw[E8 (Int.not_lt.1 g)]
  have hi:q.toNat<(ai s d env.1).1.length:=by omega
  simp only[o5,qp,Y5 hi,Option.getD_some]
  exact Ql (List.getElem_mem hi)
def TM (s:D8) (env:P9) (m d:Int):(V3×Int)⊕E4:=
 l7 (ieq (bU s env m d).2.1 0) (l7 (ieq (bU s env m d).1 (-1)) (.inr (10,m,d,-1)) (l7 (ieq (bU s env m d).1 (-2)) (.inr (11,m,d,-1))
  (match lat s.2.2.2.2 (bU s env m d).1 with
  | none=> .inr (1,0,0,0)
  | some r=>l7 (ieq (xf r.2.2.2.2.2.2.1 env).2 0) (.inl ((xf r.2.2.2.2.2.2.1 env).1,(bU s env m d).1)) (.inr ((xf r.2.2.2.2.2.2.1 env).2,m,d,(bU s env m d).1))))) (.inr (bU s env m d).2)
theorem VA {s:D8} {env:P9} {m d:Int} {e:E4} (h:TM s env m d= .inr e):e.1≠0:=by
 unfold TM at h
 cases h0:ieq (bU s env m d).2.1 0 <;> rw[h0]at h
 ·cases h
  intro h3;rw[F8 h3]at h0;cases h0
 cases h1:ieq (bU s env m d).1 (-1) <;> rw[h1]at h
 case true=>cases h;show(10:Int)≠0;decide
 cases h2:ieq (bU s env m d).1 (-2) <;> rw[h2]at h
 case true=>cases h;show(11:Int)≠0;decide
 simp only[o6,o5]at h
 cases hl:lat s.2.2.2.2 (bU s env m d).1 with
 | none=>rw[hl]at h;cases h;show(1:Int)≠0;decide
 | some r=>
  rw[hl]at h
  simp only at h
  cases h4:ieq (xf r.2.2.2.2.2.2.1 env).2 0 <;> rw[h4]at h <;> cases h
  simp only
  intro h3;rw[F8 h3]at h4;cases h4
theorem a2c {s:D8} {env:P9} (hs:SmS s) (hE:EvOk env) (m d:Int):xP s env m d=some (match TM s env m d with | .inl v=>(v.1,v.2,0,0,0,0) | .inr e=>((0,0,0),0,e)):=by
 unfold xP TM
 rw[a2a hs hE,o7]
 cases h0:ieq (bU s env m d).2.1 0
 ·rfl
 cases h1:ieq (bU s env m d).1 (-1)
 case true=>rfl
 cases h2:ieq (bU s env m d).1 (-2)
 case true=>rfl
 obtain⟨r,hr,hm⟩:=Ld (N8.1 h0) (fun h=>by rw[F8 h]at h1;cases h1) (fun h=>by rw[F8 h]at h2;cases h2)
 simp only[x8,o5,o6,hr,o7]
 rw[WQ hE (hs.ro r hm).1.2.2.2,o7]
 cases ieq (xf r.2.2.2.2.2.2.1 env).2 0 <;> rfl
theorem SB {s:D8} :∀(k:Nat) (O:List Int),(∀d∈O,0≤d∧d<nD s)→match MZ s k O with | .inl O' =>(∀d∈O',0≤d∧d<nD s)∧O'.length≤O.length+k | .inr x=>x.1=[]
 | 0,O,h=>⟨h,by omega⟩
 | k+1,O,h=>by
  unfold MZ
  by_cases hc:O.length<s.2.2.2.1.length
  ·rw[if_pos hc]
   cases hn:En s O with
   | none=>rfl
   | some d=>
    have hd:=(Yt hn).1
    have:=SB k (O++[(d:Int)]) (fun x hx=>by
     rcases List.mem_append.1 hx with hx | hx
     ·exact h x hx
     ·rw[List.mem_singleton]at hx;subst hx;unfold nD o8;omega)
    simp only
    cases ho:MZ s k (O++[(d:Int)])with
    | inl O' =>rw[ho]at this;exact⟨this.1,by have:=this.2;simp at this;omega⟩
    | inr x=>rw[ho]at this;exact this
  ·rw[if_neg hc];exact⟨h,by omega⟩
theorem LX (s:D8):(∀d∈(mV s).1,0≤d∧d<nD s)∧(mV s).1.length≤100:=by
 have:=SB (s:=s) 100 [] (by simp)
 unfold mV
 cases ho:MZ s 100 []with
 | inl O=>rw[ho]at this;exact⟨this.1,by have:=this.2;simp at this;exact this⟩
 | inr x=>rw[ho]at this;simp only at this ⊢;rw[this];simp
abbrev DB:Type:=List V3×List Int
def Ba (env:P9) (ds:List V3):P9:=(env.1,env.2.1,ds,env.2.2.2)
theorem TN {env:P9} (h:EvOk env) (ds:List V3):EvOk (Ba env ds):=⟨h.ms,h.tb⟩
def scG (s:D8) (env:P9) (m:Int) (need:List Bool) (b:DB) (d:Int):DB⊕(E4×List V3):=
 l7 ((lat need d).getD false) (match TM s (Ba env b.1) m d with
  | .inl v=> .inl (b.1.set d.toNat v.1,b.2.set d.toNat v.2)
  | .inr e=> .inr (e,b.1)) (.inl b)
def scS (s:D8) (env:P9) (m:Int) (need:List Bool):DB⊕(E4×List V3):=az (scG s env m need) (mV s).1 (List.replicate s.2.2.2.1.length (0,0,0),List.replicate s.2.2.2.1.length 0)
theorem a9B {s:D8} {env:P9} {m:Int} {need:List Bool} (b:DB) (d:Int) (r:E4×List V3) (h:scG s env m need b d= .inr r):r.1.1≠0:=by
 unfold scG at h
 cases hb:(lat need d).getD false <;> rw[hb]at h
 ·cases h
 simp only[o6]at h
 cases hd:TM s (Ba env b.1) m d with
 | inl v=>rw[hd]at h;cases h
 | inr e=>rw[hd]at h;cases h;exact VA hd
theorem FQ {s:D8} {env:P9} {m:Int} {need:List Bool} {r:E4×List V3} (h:scS s env m need= .inr r):r.1.1≠0:=rY (scG s env m need) (fun r=>r.1.1≠0) a9B _ _ _ h
def JW {β ρ ρ' :Type} (h:ρ→ρ'):β⊕ρ→β⊕ρ' | .inl b=> .inl b | .inr r=> .inr (h r)
theorem Bg {α β ρ ρ' :Type} (G:β→α→β⊕ρ) (G' :β→α→β⊕ρ') (h:ρ→ρ') (hG:∀b a,G' b a=JW h (G b a)):∀(l:List α) (b:β),az G' l b=JW h (az G l b)
 | [],b=>rfl
 | a::l,b=>by
  unfold az
  rw[hG b a]
  cases G b a with
  | inl b' =>exact Bg G G' h hG l b'
  | inr r=>rfl
theorem uG {α:Type} (s:D8) (hs:SmS s) (x:α):iU (o8 s.2.2.2.1) x=some (List.replicate s.2.2.2.1.length x):=by
 have:=hs.nd
 rw[show o8 s.2.2.2.1=(s.2.2.2.1.length:Int)from rfl,Bv (by omega) (by omega)];rfl
def scP (env:P9):E4×List V3→List Int×E4×P9:=fun r=>([],r.1,Ba env r.2)
theorem Iz {s:D8} {env:P9} {need:List Bool} (hs:SmS s) (hE:EvOk env) (m:Int) (hn:need.length=s.2.2.2.1.length):aU s env m need=some (match scS s env m need with | .inl b=>(b.2,(0,0,0,0),Ba env b.1) | .inr r=>([],r.1,Ba env r.2)):=by
 obtain⟨o1,o2⟩:=LX s
 unfold aU
 rw[uG s hs,o7,uG s hs,o7,a5c hs,o7]
 have hfold:=Bg (scG s env m need) (fun b d=>JW (scP env) (scG s env m need b d)) (scP env) (fun _ _=>rfl) (mV s).1 (List.replicate s.2.2.2.1.length (0,0,0),List.replicate s.2.2.2.1.length 0)
 unfold scS
 apply fC (mV s).1 (fun b d=>JW (scP env) (scG s env m need b d)) (fun b i=>((Ba env b.1,(0,0,0,0),b.2,i):P9×E4×List Int×Int)) (fun b=>((Ba env b.1,(0,0,0,0),b.2):P9×E4×List Int)) (fun i b=>b.1.length=s.2.2.2.1.length∧b.2.length=s.2.2.2.1.length) (List.replicate s.2.2.2.1.length (0,0,0),List.replicate s.2.2.2.1.length 0) (by omega) ⟨by simp,by simp⟩
 ·intro i d b hi hi' hb
  have hr:=o1 d (dN hi)
  have hnd:nD s=(s.2.2.2.1.length:Int):=rfl
  obtain⟨k,rfl⟩:∃k:Nat,d=(k:Int):=⟨d.toNat,by omega⟩
  have hk:k<s.2.2.2.1.length:=by omega
  have e1:=Y5 (show k<need.length by omega)
  have e2:=Y5 (show k<b.1.length by omega)
  have e3:=Y5 (show k<b.2.length by omega)
  unfold scG
  simp only[H6 hi,o6,E9,hi,o7,J4,toN,Int.toNat_natCast,e1,Option.getD_some]
  cases need[k]
  ·simp only[E5,o6,o5]
   rw[O8 (by omega)]
   exact⟨rfl,fun _ h=>by cases h;exact hb⟩
  simp only[x8,o6,o5]
  rw[Xl hs (TN hE b.1),o7]
  unfold TM
  cases h0:ieq (bU s (Ba env b.1) m (k:Int)).2.1 0
  ·exact⟨rfl,fun _ h=>by cases h⟩
  cases h1:ieq (bU s (Ba env b.1) m (k:Int)).1 (-1)
  case true=>exact⟨rfl,fun _ h=>by cases h⟩
  cases h2:ieq (bU s (Ba env b.1) m (k:Int)).1 (-2)
  case true=>exact⟨rfl,fun _ h=>by cases h⟩
  obtain⟨r,hr,hm⟩:=Ld (N8.1 h0) (fun h=>by rw[F8 h]at h1;cases h1) (fun h=>by rw[F8 h]at h2;cases h2)
  simp only[x8,o5,o6,hr,o7]
  rw[a0f (TN hE b.1) (hs.ro r hm).1.2.2.2,o7]
  cases h3:ieq (xf r.2.2.2.2.2.2.1 (Ba env b.1)).2 0
  ·exact⟨rfl,fun _ h=>by cases h⟩
  ·simp only[x8,o5,o6]
   refine⟨?_,fun _ h=>by cases h;exact⟨by simp[hb.1],by simp[hb.2]⟩⟩
   rw[O8 (by omega)]
   have e2' :(Ba env b.1).2.2.1[k]? =some (b.1[k]'(by omega)):=e2
   simp only[e2',e3,o7]
   rfl
 ·intro b hb
  rw[H5];rfl
 ·intro _
  rw[hfold]
  cases az (scG s env m need) (mV s).1 (List.replicate s.2.2.2.1.length (0,0,0),List.replicate s.2.2.2.1.length 0) <;> rfl
theorem Lj {s:D8} {env:P9} {need:List Bool} (hs:SmS s) (hE:EvOk env) (m:Int) (hn:need.length=s.2.2.2.1.length):lm s env m need=some (match scS s env m need with | .inl b=>(b.1,b.2,0,0,0,0) | .inr r=>([],[],r.1)):=by
 obtain⟨o1,o2⟩:=LX s
 unfold lm
 rw[uG s hs,o7,uG s hs,o7,a2U hs,o7]
 have hfold:=Bg (scG s env m need) (fun b d=>JW (fun r=>(([],[],r.1):List V3×List Int×E4)) (scG s env m need b d)) (fun r=>(([],[],r.1):List V3×List Int×E4)) (fun _ _=>rfl) (mV s).1 (List.replicate s.2.2.2.1.length (0,0,0),List.replicate s.2.2.2.1.length 0)
 unfold scS
 apply fC (mV s).1 (fun b d=>JW (fun r=>(([],[],r.1):List V3×List Int×E4)) (scG s env m need b d)) (fun b i=>(((env.1,env.2.1,PUnit.unit,env.2.2.2),(0,0,0,0),b.1,b.2,i):(Int×List V3×PUnit×List (List V3)×List nI×List Y1)×E4×List V3×List Int×Int)) (fun b=>(((0,0,0,0),b.1,b.2):E4×List V3×List Int)) (fun i b=>b.1.length=s.2.2.2.1.length∧b.2.length=s.2.2.2.1.length) (List.replicate s.2.2.2.1.length (0,0,0),List.replicate s.2.2.2.1.length 0) (by omega) ⟨by simp,by simp⟩
 ·intro i d b hi hi' hb
  have hr:=o1 d (dN hi)
  have hnd:nD s=(s.2.2.2.1.length:Int):=rfl
  obtain⟨k,rfl⟩:∃k:Nat,d=(k:Int):=⟨d.toNat,by omega⟩
  have hk:k<s.2.2.2.1.length:=by omega
  have e1:=Y5 (show k<need.length by omega)
  have e2:=Y5 (show k<b.1.length by omega)
  have e3:=Y5 (show k<b.2.length by omega)
  have hd:=a2c hs (TN hE b.1) m (k:Int)
  unfold Ba at hd
  unfold scG
  simp only[H6 hi,o6,E9,hi,o7,J4,toN,Int.toNat_natCast,e1,Option.getD_some]
  cases need[k]
  ·simp only[E5,o6,o5]
   rw[O8 (by omega)]
   exact⟨rfl,fun _ h=>by cases h;exact hb⟩
  simp only[x8,o6,o5]
  rw[hd,o7]
  unfold Ba
  cases hq:TM s (env.1,env.2.1,b.1,env.2.2.2) m (k:Int)with
  | inr e=>
   simp only[F5 (VA hq)]
   exact⟨rfl,fun _ h=>by cases h⟩
  | inl v=>
   refine⟨?_,fun _ h=>by cases h;exact⟨by simp[hb.1],by simp[hb.2]⟩⟩
   simp only[e2,e3,o7,F8 (rfl:(0:Int)=0),x8,o5]
   rw[O8 (by omega)]
   rfl
 ·intro b hb
  rw[H5];rfl
 ·intro _
  rw[hfold]
  cases az (scG s env m need) (mV s).1 (List.replicate s.2.2.2.1.length (0,0,0),List.replicate s.2.2.2.1.length 0) <;> rfl
def JD (l:L8) (k:Int) (c:U0) (ex:Bool) (d:Int):E4:=
 l7 (ieq (dn l).1 0) (match lat l.2.2 k with
  | none=>(6,-1,-1,-1)
  | some s=>l7 (l7 ex (l7 (ilt d 0) true (ile (o8 s.2.2.2.1) d)) false) (6,-1,-1,-1) (l7 (ieq (rV l k c).2.2 0) (0,0,0,0) ((rV l k c).2.2,(rV l k c).1,-1,-1))) (1,-1,-1,-1)
theorem a4t (l:List D8) (k:Int):(ilt k 0=true∧lat l k=none)∨(ilt k 0=false∧ile (o8 l) k=true∧lat l k=none)∨(ilt k 0=false∧ile (o8 l) k=false∧∃s,lat l k=some s∧s∈l):=by
 by_cases h:k<0
 ·exact .inl ⟨F6 h,iq (.inl (G8 h))⟩
 by_cases h2:o8 l≤k
 ·exact .inr (.inl ⟨E8 (by omega),G7 h2,iq (.inr (E8 h2))⟩)
 ·exact .inr (.inr ⟨E8 (by omega),G8 (by omega),cZ (by omega) (by omega)⟩)
theorem a8v {l:L8} (hL:SmL l) (k:Int) {c:U0} (hc:SmC c) (ex:Bool) (d:Int):jf l k c ex d=some (JD l k c ex d):=by
 unfold jf JD
 rw[MO hL,o7,a8x l k hc]
 cases ieq (dn l).1 0
 ·rfl
 simp only[x8,o5,o6]
 rcases a4t l.2.2 k with⟨h1,h2⟩ | ⟨h1,h2,h3⟩ | ⟨h1,h2,s,h3,_⟩
 ·rw[h1,h2];rfl
 ·rw[h1,h2,h3];rfl
 ·rw[h1,h2,h3]
  simp only[o5,o7]
  cases ex
  ·simp only[o5,o7,D5]
   cases ieq (rV l k c).2.2 0 <;> rfl
  ·simp only[o6]
   cases ilt d 0
   ·cases ile (o8 s.2.2.2.1) d
    ·simp only[o5,o7,D5]
     cases ieq (rV l k c).2.2 0 <;> rfl
    ·rfl
   ·rfl
def uq:D8:=([],0,[],[],[])
def V8 (l:L8) (s:D8):D8:=l7 (ile 0 s.2.1) ((lat l.2.2 s.2.1).getD uq) uq
def yH (n:Nat):List Bool:=List.replicate n false
theorem a1U {l:L8} {k:Int} {c:U0} {ex:Bool} {d:Int} (h:(JD l k c ex d).1=0):(dn l).1=0∧∃s,lat l.2.2 k=some s:=by
 unfold JD at h
 cases h0:ieq (dn l).1 0 <;> rw[h0]at h
 ·exact absurd (show(1:Int)=0 from h) (by decide)
 refine⟨N8.1 h0,?_⟩
 cases h1:lat l.2.2 k with
 | none=>rw[h1]at h;exact absurd (show(6:Int)=0 from h) (by decide)
 | some s=>exact⟨s,rfl⟩
theorem a7W {l:L8} (h:(dn l).1=0) {i:Nat} {s:D8} (hs:l.2.2[i]? =some s):(vO l i s).1=0:=by
 unfold dn at h
 cases h1:ieq (Ea l).1 0 <;> rw[h1]at h
 ·simp only[o5]at h;rw[F8 h]at h1;cases h1
 cases h2:ieq (Ac l).1 0 <;> rw[h2]at h
 ·simp only[o6,o5]at h;rw[F8 h]at h2;cases h2
 simp only[o6]at h
 unfold FT at h
 cases h3:ilt 4 (o8 l.2.2) <;> rw[h3]at h
 case true=>exact absurd (show(4:Int)=0 from h) (by decide)
 simp only[o5]at h
 have hi:=(O5.1 hs).1
 cases hf:O9 l.2.2.length (wZ l)with
 | some r=>
  rw[hf]at h
  simp only at h
  obtain⟨j,hj,hp⟩:=bn hf
  unfold wZ at hp
  cases hq:l.2.2[j]? with
  | none=>rw[hq]at hp;cases hp
  | some q=>
   rw[hq]at hp
   simp only at hp
   unfold Iy at hp
   exact absurd h (by
    cases he:ieq (vO l j q).1 0 <;> rw[he]at hp <;> cases hp
    simp only
    intro h4;rw[F8 h4]at he;cases he)
 | none=>
  have hn:=Cm hf i hi
  unfold wZ at hn
  rw[hs]at hn
  simp only at hn
  unfold Iy at hn
  cases he:ieq (vO l i s).1 0 <;> rw[he]at hn
  ·cases hn
  exact N8.1 he
theorem Tf {l:L8} (h:(dn l).1=0) {i:Nat} {s:D8} (hs:l.2.2[i]? =some s):yL l i s.2.1=false∧(Pv l s).1=0:=by
 have he:=a7W h hs
 unfold vO at he
 cases g1:wV s.1 <;> rw[g1]at he
 ·exact absurd (show(2:Int)=0 from he) (by decide)
 cases g2:xm l 3 i s.1 <;> rw[g2]at he
 case true=>exact absurd (show(7:Int)=0 from he) (by decide)
 cases g3:yL l i s.2.1 <;> rw[g3]at he
 case true=>exact absurd (show(6:Int)=0 from he) (by decide)
 cases g4:ilt 12 (o8 s.2.2.1) <;> rw[g4]at he
 case true=>exact absurd (show(4:Int)=0 from he) (by decide)
 cases g5:ilt 12 (o8 s.2.2.2.1) <;> rw[g5]at he
 case true=>exact absurd (show(4:Int)=0 from he) (by decide)
 exact⟨rfl,he⟩
theorem a3w {l:L8} (h:(dn l).1=0) {i:Nat} {s:D8} (hs:l.2.2[i]? =some s):yL l i s.2.1=false:=(Tf h hs).1
theorem EX {l:L8} (h:(dn l).1=0) {k:Int} {s:D8} (hs:lat l.2.2 k=some s):(ile 0 s.2.1=false∧ilt s.2.1 0=true∧V8 l s=uq)∨(ile 0 s.2.1=true∧ilt s.2.1 0=false∧ile (o8 l.2.2) s.2.1=false∧lat l.2.2 s.2.1=some (V8 l s)∧V8 l s∈l.2.2):=by
 obtain⟨k0,k1,k2,k3⟩:=iK hs
 have hm:=a3w h k3
 unfold yL at hm
 by_cases g:0≤s.2.1
 ·right
  rw[F5 (show s.2.1≠-1 by intro e;rw[e]at g;exact absurd g (by decide)),E8 g]at hm
  simp only[o5]at hm
  cases g2:ile ((k.toNat:Nat):Int) s.2.1 <;> rw[g2]at hm
  case true=>cases hm
  rw[tN]at g2
  have hlt:s.2.1<o8 l.2.2:=by
   have:((k.toNat:Nat):Int)=k:=Int.toNat_of_nonneg k0
   rw[this]at g2
   exact Int.lt_trans g2 k1
  obtain⟨q,hq,hqm⟩:=cZ g hlt
  have e:V8 l s=q:=by unfold V8;rw[G7 g,hq];rfl
  rw[e]
  exact⟨G7 g,E8 g,G8 hlt,hq,hqm⟩
 ·left
  have g' :=Int.not_le.1 g
  refine⟨G8 g',F6 g',?_⟩
  unfold V8;rw[G8 g'];rfl
theorem Vl {σ ε α β:Type} {f:σ→Option (σ⊕ε)} {mk:List β→Int→σ} {fin:List β→ε} {l:List α} {g:α→β}
  (hs:∀(i:Nat) (a:α) (b:List β),l[i]? =some a→b.length=i→f (mk b (i:Int))=some (.inl (mk (b++[g a]) ((i+1:Nat):Int))))
  (he:∀b,f (mk b (l.length:Int))=some (.inr (fin b))):∀(l2 l1:List α) (k:Nat),l=l1++l2→ku f (k+1+l2.length) (mk (l1.map g) (l1.length:Int))=some (fin (l.map g))
 | [],l1,k,h=>by
  have:l=l1:=by simpa using h
  subst this
  exact Bq (he _)
 | a::l2,l1,k,h=>by
  rw[show k+1+(a::l2).length=(k+1+l2.length)+1 by simp;omega,vC (hs l1.length a (l1.map g) (by rw[h];simp) (by simp))]
  have:=Vl hs he l2 (l1++[a]) k (by rw[h];simp)
  simpa using this
theorem ZR {σ ε α β:Type} {f:σ→Option (σ⊕ε)} (mk:List β→Int→σ) (fin:List β→ε) (l:List α) (g:α→β) (hn:l.length≤1000000)
  (hs:∀(i:Nat) (a:α) (b:List β),l[i]? =some a→b.length=i→f (mk b (i:Int))=some (.inl (mk (b++[g a]) ((i+1:Nat):Int))))
  (he:∀b,f (mk b (l.length:Int))=some (.inr (fin b))):P5 f (mk [] 0)=some (fin (l.map g)):=by
 unfold P5
 rw[show bK=(bK -l.length -1)+1+l.length by unfold bK;omega]
 exact Vl hs he l [] _ rfl
theorem ul {l:L8} (h:(dn l).1=0) {k:Int} {s:D8} (hs:lat l.2.2 k=some s):dX l k=some (V8 l s):=by
 unfold dX
 rw[hs,o7]
 rcases EX h hs with⟨g1,g2,g3⟩ | ⟨g1,g2,g3,g4,g5⟩
 ·rw[g2,g3];rfl
 ·rw[g2,g3,g4];rfl
theorem Wx {l:L8} (hL:SmL l) (h:(dn l).1=0) {k:Int} {s:D8} (hs:lat l.2.2 k=some s):qN l k=some (s,V8 l s,yH s.2.2.2.1.length,yH (V8 l s).2.2.2.1.length):=by
 have hm:=(iK hs).2.2.1
 have hnd:=(hL.sc s hm).nd
 unfold qN
 rw[hs,o7,show iU (o8 s.2.2.2.1) false=some (yH s.2.2.2.1.length)from uG s (hL.sc s hm) false,o7]
 rcases EX h hs with⟨g1,g2,g3⟩ | ⟨g1,g2,g3,g4,g5⟩
 ·rw[g1,g3];rfl
 ·rw[g1,g4]
  simp only[o6,o7]
  rw[show iU (o8 (V8 l s).2.2.2.1) false=some (yH (V8 l s).2.2.2.1.length)from uG _ (hL.sc _ g5) false,o7]
theorem Yu:SmS uq:=⟨by simp[uq],by simp[uq],by simp[uq],by simp[uq],⟨by simp[uq],by simp[uq]⟩,by simp[uq]⟩
def Yo (l:L8) (c:U0) (v:List V3):P9:=(c.1,v,[],[],[],l.2.1)
def mG (l:L8) (c:U0) (ms:D8) (need:List Bool) (b:List DB) (a:List V3×Nat):List DB⊕E4:=
 match scS ms (Yo l c a.1) (a.2:Int) need with
 | .inl x=> .inl (b++[x])
 | .inr e=> .inr e.1
def mS (l:L8) (c:U0) (ms:D8) (need:List Bool):List DB⊕E4:=az (mG l c ms need) c.2.2.zipIdx []
theorem a4C {l:L8} {c:U0} {ms:D8} {need:List Bool} (b:List DB) (a:List V3×Nat) (r:E4) (h:mG l c ms need b a= .inr r):r.1≠0:=by
 unfold mG at h
 cases hs:scS ms (Yo l c a.1) (a.2:Int) need with
 | inl x=>rw[hs]at h;cases h
 | inr e=>rw[hs]at h;cases h;exact FQ hs
theorem a1O {l:List (List V3)} {i:Nat} {a:List V3×Nat} (h:l.zipIdx[i]? =some a):l[i]? =some a.1∧a.2=i:=by
 rw[List.getElem?_zipIdx]at h
 cases hl:l[i]? with
 | none=>rw[hl]at h;cases h
 | some v=>rw[hl]at h;cases h;exact⟨rfl,by simp⟩
theorem a0q {l:L8} (hT:∀t∈l.2.1,jk t) (c:U0) (v:List V3):EvOk (Yo l c v):=⟨by simp[Yo],hT⟩
theorem Oo {l:L8} {k:Int} {s:D8} {c:U0} {need:List Bool} (h:(dn l).1=0) (hs:lat l.2.2 k=some s) (hc:c.2.2.length≤1000) (hM:SmS (V8 l s)) (hT:∀t∈l.2.1,jk t) (hn:need.length=(V8 l s).2.2.2.1.length):
  jh l k c need=some (match mS l c (V8 l s) need with | .inl b=>(b.map (·.1),b.map (·.2),0,0,0,0) | .inr e=>([],[],e)):=by
 unfold jh
 rw[ul h hs,o7]
 have hfold:=Bg (mG l c (V8 l s) need) (fun b a=>JW (fun e=>(([],[],e):List (List V3)×List (List Int)×E4)) (mG l c (V8 l s) need b a)) (fun e=>(([],[],e):List (List V3)×List (List Int)×E4)) (fun _ _=>rfl) c.2.2.zipIdx []
 unfold mS
 have hzl:c.2.2.zipIdx.length=c.2.2.length:=by simp
 apply fC c.2.2.zipIdx (fun b a=>JW (fun e=>(([],[],e):List (List V3)×List (List Int)×E4)) (mG l c (V8 l s) need b a)) (fun b i=>(((0,0,0,0),b.map (·.1),b.map (·.2),i):E4×List (List V3)×List (List Int)×Int)) (fun b=>(((0,0,0,0),b.map (·.1),b.map (·.2)):E4×List (List V3)×List (List Int))) (fun i b=>b.length=i) [] (by omega) rfl
 ·intro i a b hi hi' hb
  obtain⟨z1,z2⟩:=a1O hi
  unfold wY mG
  simp only[H6 z1,o6,E9,z1,o7]
  rw[show lm (V8 l s) (c.1,a.1,[],[],[],l.2.1) (i:Int) need=_ from Lj hM (a0q hT c a.1) (i:Int) hn,o7,z2]
  unfold Yo
  cases hq:scS (V8 l s) (c.1,a.1,[],[],[],l.2.1) (i:Int) need with
  | inr e=>
   simp only[F5 (FQ hq)]
   exact⟨rfl,fun _ h=>by cases h⟩
  | inl x=>
   simp only[F8 (rfl:(0:Int)=0),x8,o5]
   rw[aB _ (by simp;omega),o7,aB _ (by simp;omega),o7,O8 (by omega)]
   exact⟨by simp[JW],fun _ h=>by cases h;simp[hb]⟩
 ·intro b hb
  rw[hzl,H5];rfl
 ·intro _
  rw[hfold]
  cases az (mG l c (V8 l s) need) c.2.2.zipIdx [] <;> rfl
def Gx (l:L8) (s:D8) (c:U0) (b:List DB):P9:=(c.1,c.2.1,[],b.map (·.1),(V8 l s).2.2.2.1.map (·.2),l.2.1)
theorem Wn {l:L8} (hL:SmL l) (h:(dn l).1=0) {k:Int} {s:D8} (hs:lat l.2.2 k=some s):SmS (V8 l s):=by
 rcases EX h hs with⟨_,_,g3⟩ | ⟨_,_,_,_,g5⟩
 ·rw[g3];exact Yu
 ·exact hL.sc _ g5
theorem a4D {l:L8} {c:U0} {ms:D8} {need:List Bool} {b:List DB} (h:mS l c ms need= .inl b):b.length=c.2.2.length:=by
 have key:∀(L:List (List V3×Nat)) (b0 b:List DB),az (mG l c ms need) L b0= .inl b→b.length=b0.length+L.length:=by
  intro L
  induction L with
  | nil=>intro b0 b h;cases h;simp
  | cons a L ih=>
   intro b0 b h
   unfold az at h
   cases hg:mG l c ms need b0 a with
   | inr e=>rw[hg]at h;cases h
   | inl b1=>
    rw[hg]at h
    have:=ih b1 b h
    have h1:b1.length=b0.length+1:=by
     unfold mG at hg
     cases hs:scS ms (Yo l c a.1) (a.2:Int) need with
     | inr e=>rw[hs]at hg;cases hg
     | inl x=>rw[hs]at hg;cases hg;simp
    simp only[List.length_cons];omega
 have:=key _ _ _ h
 simpa using this
theorem WP {l:L8} (hT:∀t∈l.2.1,jk t) (s:D8) (c:U0) {b:List DB} (hb:b.length≤1000):EvOk (Gx l s c b):=⟨by simp[Gx];omega,hT⟩
theorem a8V {l:L8} {k:Int} {s:D8} (c:U0) (b:List DB) (h:(dn l).1=0) (hs:lat l.2.2 k=some s) (hM:SmS (V8 l s)):FP l k c (b.map (·.1))=some (Gx l s c b):=by
 have hnd:=hM.nd
 unfold FP
 rw[ul h hs,o7,Y7]
 refine ZR (fun L i=>(((c.1,c.2.1,[],b.map (·.1),L,l.2.1),i):P9×Int)) (fun L=>((c.1,c.2.1,[],b.map (·.1),L,l.2.1):P9)) (V8 l s).2.2.2.1 (fun f=>f.2) (by omega) (fun i a L hi hL=>?_) (fun L=>?_)
 ·have:=(O5.1 hi).1
  simp only[H6 hi,o6,E9,hi,o7]
  rw[aB _ (by omega),o7,O8 (by omega)]
 ·rw[H5];rfl
abbrev ZT:Type:=Int×List V3×PUnit×List (List V3)×List (Int×Int)×List Y1
def TQ (l:L8) (s:D8) (c:U0) (nS nM:List Bool):DB×List DB⊕E4:=
 match mS l c (V8 l s) nM with
 | .inr e=> .inr e
 | .inl b=>match scS s (Gx l s c b) (-1) nS with
  | .inl x=> .inl (x,b)
  | .inr r=> .inr r.1
theorem TR {l:L8} {k:Int} {s:D8} {c:U0} {nS nM:List Bool} (hS:SmS s) (hM:SmS (V8 l s)) (hC:SmC c) (hT:∀t∈l.2.1,jk t) (h1:nS.length=s.2.2.2.1.length) (h2:nM.length=(V8 l s).2.2.2.1.length):
  qM l k c (s,V8 l s,nS,nM)=some (match TQ l s c nS nM with
   | .inl x=>((x.1.1,x.1.2,x.2),Ba (Gx l s c x.2) x.1.1,(0,0,0,0),(s,V8 l s,nS,nM))
   | .inr e=>(([],[],[]),(0,[],[],[],[],[]),e,(s,V8 l s,nS,nM))):=by
 have hnd:=hM.nd
 have hnm:=hC.nm
 unfold qM
 rw[show(P5 _ _)=some (((c.1,c.2.1,PUnit.unit,PUnit.unit,(V8 l s).2.2.2.1.map (fun f=>f.2),l.2.1)):Int×List V3×PUnit×PUnit×List (Int×Int)×List Y1)from ?_,o7]
 rotate_left
 ·refine ZR (fun L i=>(((c.1,c.2.1,PUnit.unit,PUnit.unit,L,l.2.1),i):(Int×List V3×PUnit×PUnit×List (Int×Int)×List Y1)×Int)) (fun L=>((c.1,c.2.1,PUnit.unit,PUnit.unit,L,l.2.1):Int×List V3×PUnit×PUnit×List (Int×Int)×List Y1)) (V8 l s).2.2.2.1 (fun f=>f.2) (by omega) (fun i a L hi hL=>?_) (fun L=>?_)
  ·have:=(O5.1 hi).1
   simp only[H6 hi,o6,E9,hi,o7]
   rw[aB _ (by omega),o7,O8 (by omega)]
  ·rw[H5];rfl
 have hfold:=Bg (mG l c (V8 l s) nM) (fun b a=>JW (fun e=>((([],[],[]),(0,[],[],[],[],[]),e,(s,V8 l s,nS,nM)):qJ×P9×E4×U1)) (mG l c (V8 l s) nM b a)) (fun e=>((([],[],[]),(0,[],[],[],[],[]),e,(s,V8 l s,nS,nM)):qJ×P9×E4×U1)) (fun _ _=>rfl) c.2.2.zipIdx []
 have hzl:c.2.2.zipIdx.length=c.2.2.length:=by simp
 unfold TQ mS
 apply fC c.2.2.zipIdx (fun b a=>JW (fun e=>((([],[],[]),(0,[],[],[],[],[]),e,(s,V8 l s,nS,nM)):qJ×P9×E4×U1)) (mG l c (V8 l s) nM b a))
  (fun b i=>((([],[],[]),(0,[],[],[],[],[]),(0,0,0,0),(c.1,c.2.1,PUnit.unit,b.map (·.1),(V8 l s).2.2.2.1.map (fun f=>f.2),l.2.1),([],[],b),i):qJ×P9×E4×ZT×qJ×Int))
  (fun b=>((([],[],[]),(0,[],[],[],[],[]),(0,0,0,0),(c.1,c.2.1,PUnit.unit,b.map (·.1),(V8 l s).2.2.2.1.map (fun f=>f.2),l.2.1),([],[],b)):qJ×P9×E4×ZT×qJ))
  (fun i b=>b.length=i) [] (by omega) rfl
 ·intro i a b hi hi' hb
  obtain⟨z1,z2⟩:=a1O hi
  have hil:=(O5.1 z1).1
  unfold mG
  simp only[H6 z1,o6,E9,z1,o7]
  rw[show aU (V8 l s) (c.1,a.1,[],[],[],l.2.1) (i:Int) nM=_ from Iz hM (a0q hT c a.1) (i:Int) h2,o7,z2]
  unfold Yo
  cases hq:scS (V8 l s) (c.1,a.1,[],[],[],l.2.1) (i:Int) nM with
  | inr e=>
   simp only[F5 (FQ hq)]
   exact⟨rfl,fun _ h=>by cases h⟩
  | inl x=>
   simp only[F8 (rfl:(0:Int)=0),x8,o5]
   rw[aB _ (by simp;omega),o7,aB _ (by omega),o7,O8 (by omega)]
   exact⟨by simp[JW,Ba],fun _ h=>by cases h;simp[hb]⟩
 ·intro b hb
  rw[hzl,H5];rfl
 ·intro _
  rw[hfold]
  cases hq:az (mG l c (V8 l s) nM) c.2.2.zipIdx []with
  | inr e=>rfl
  | inl b=>
   have hbl:b.length=c.2.2.length:=a4D (ms:=V8 l s) (need:=nM) hq
   have hsc:=Iz (need:=nS) hS (WP hT s c (b:=b) (by omega)) (-1) h1
   unfold Gx at hsc
   simp only[JW,D5]
   rw[show aU s (c.1,c.2.1,[],b.map (·.1),(V8 l s).2.2.2.1.map (fun f=>f.2),l.2.1) (-1) nS=_ from hsc,o7]
   unfold Gx
   cases hr:scS s (c.1,c.2.1,[],b.map (·.1),(V8 l s).2.2.2.1.map (fun f=>f.2),l.2.1) (-1) nS with
   | inr e=>simp only[F5 (FQ hr)];rfl
   | inl x=>rfl
theorem bu {α:Type} {n:Nat} {l:List α} (h:ilt (n:Int) (o8 l)=false):l.length≤n:=by
 rw[X6]at h;unfold o8 at h;omega
def OO (r:V9):Bool:=l7 (ilt 80 (o8 r.1)) true (l7 (ilt 80 (o8 r.2.2.2.2.2.2.2)) true (l7 (ilt 50 (o8 r.2.2.2.2.2.1)) true (ilt 50 (o8 r.2.2.2.2.2.2.1))))
def smS (s:D8):Bool:=l7 (ilt 80 (o8 s.1)) false (l7 (ilt 14 (o8 s.2.2.1)) false (l7 (ilt 14 (o8 s.2.2.2.1)) false (l7 (ilt 60 (o8 s.2.2.2.2)) false
 (l7 (s.2.2.1.any fun f=>ilt 80 (o8 f.1)) false (l7 (s.2.2.2.1.any fun f=>ilt 80 (o8 f.1)) false (D6 (s.2.2.2.2.any OO)))))))
theorem Ot {fs:List bg} (h:fs.length≤1000000):J7 (fun(x:Int)=>l7 (ilt x (o8 fs)) (l9 (lat fs x) fun(x_1:bg)=>l7 (ilt 80 (o8 x_1.1)) (some (Out.rt false)) (some (Out.nx (x9 IntKind.i64 x 1)))) (some (Out.ex PUnit.unit))) 0=some (bif fs.any (fun f=>ilt 80 (o8 f.1))then .inr false else .inl PUnit.unit):=by
 refine oM fs (fun f=>ilt 80 (o8 f.1)) false PUnit.unit h (fun i a ha=>?_) ?_
 ·simp only[H6 ha,o6,E9,ha,o7]
  cases ilt 80 (o8 a.1) <;> rfl
 ·rw[H5];rfl
theorem QS (s:D8):ru s=some (smS s):=by
 unfold ru smS
 cases h1:ilt 80 (o8 s.1)
 case true=>rfl
 cases h2:ilt 14 (o8 s.2.2.1)
 case true=>rfl
 cases h3:ilt 14 (o8 s.2.2.2.1)
 case true=>rfl
 cases h4:ilt 60 (o8 s.2.2.2.2)
 case true=>rfl
 have l2:=bu (n:=14) h2
 have l3:=bu (n:=14) h3
 have l4:=bu (n:=60) h4
 simp only[o5,o7,D5]
 rw[Ot (by omega),Ot (by omega),o7]
 cases s.2.2.1.any fun f=>ilt 80 (o8 f.1)
 case true=>rfl
 simp only[cond_false,D5,o5,o7]
 cases s.2.2.2.1.any fun f=>ilt 80 (o8 f.1)
 case true=>rfl
 simp only[cond_false,D5,o5]
 refine J5 (oM s.2.2.2.2 OO false PUnit.unit (by omega) (fun i a ha=>?_) ?_) ?_
 rotate_left 2
 ·cases s.2.2.2.2.any OO <;> rfl
 ·simp only[H6 ha,o6,E9,ha,o7]
  unfold OO
  cases ilt 80 (o8 a.1) <;> cases ilt 80 (o8 a.2.2.2.2.2.2.2) <;> cases ilt 50 (o8 a.2.2.2.2.2.1) <;> cases ilt 50 (o8 a.2.2.2.2.2.2.1) <;> rfl
 ·rw[H5];rfl
def ScI (s:D8):Prop:=∀r∈s.2.2.2.2,(∀n∈r.2.2.2.2.2.1,I64 n.2)∧∀n∈r.2.2.2.2.2.2.1,I64 n.2
theorem MR {a b:Bool} (h:l7 a false b=true):a=false∧b=true:=by cases a <;> cases b <;> first | exact⟨rfl,rfl⟩ | cases h
theorem Rf {α:Type} {l:List α} {p:α→Bool} (h:l.any p=false):∀a∈l,p a=false:=by
 intro a ha
 rw[List.any_eq_false]at h
 have:=h a ha
 cases hp:p a
 ·rfl
 ·exact absurd hp this
theorem b9S {s:D8} (h:smS s=true) (hI:ScI s):SmS s:=by
 unfold smS at h
 obtain⟨h1,h⟩:=MR h
 obtain⟨h2,h⟩:=MR h
 obtain⟨h3,h⟩:=MR h
 obtain⟨h4,h⟩:=MR h
 obtain⟨h5,h⟩:=MR h
 obtain⟨h6,h⟩:=MR h
 have h7:s.2.2.2.2.any OO=false:=by cases hq:s.2.2.2.2.any OO <;> rw[hq]at h <;> first | rfl | cases h
 refine⟨by have:=bu (n:=80) h1;omega,bu (n:=14) h2,bu (n:=14) h3,bu (n:=60) h4,⟨fun f hf=>?_,fun f hf=>?_⟩,fun r hr=>?_⟩
 ·have:=bu (n:=80) (Rf h5 f hf);omega
 ·have:=bu (n:=80) (Rf h6 f hf);omega
 ·have hl:=Rf h7 r hr
  unfold OO at hl
  cases g1:ilt 80 (o8 r.1) <;> rw[g1]at hl
  case true=>cases hl
  cases g2:ilt 80 (o8 r.2.2.2.2.2.2.2) <;> rw[g2]at hl
  case true=>cases hl
  cases g3:ilt 50 (o8 r.2.2.2.2.2.1) <;> rw[g3]at hl
  case true=>cases hl
  have k1:=bu (n:=80) g1
  have k2:=bu (n:=80) g2
  exact⟨⟨by omega,by omega,(hI r hr).1,(hI r hr).2⟩,bu (n:=50) g3,bu (n:=50) hl⟩
def smC (c:U0):Bool:=l7 (ilt 14 (o8 c.2.1)) false (l7 (ilt 10 (o8 c.2.2)) false (D6 (c.2.2.any fun v=>ilt 14 (o8 v))))
theorem xU (c:U0):jb c=some (smC c):=by
 unfold jb smC
 cases h1:ilt 14 (o8 c.2.1)
 case true=>rfl
 cases h2:ilt 10 (o8 c.2.2)
 case true=>rfl
 have l2:=bu (n:=10) h2
 simp only[o5]
 refine J5 (oM c.2.2 (fun v=>ilt 14 (o8 v)) false PUnit.unit (by omega) (fun i a ha=>?_) ?_) ?_
 rotate_left 2
 ·cases c.2.2.any fun v=>ilt 14 (o8 v) <;> rfl
 ·simp only[H6 ha,o6,E9,ha,o7]
  cases ilt 14 (o8 a) <;> rfl
 ·rw[H5];rfl
theorem Ia {c:U0} (h:smC c=true):SmC c:=by
 unfold smC at h
 obtain⟨h1,h⟩:=MR h
 obtain⟨h2,h⟩:=MR h
 have h3:(c.2.2.any fun v=>ilt 14 (o8 v))=false:=by cases hq:c.2.2.any fun v=>ilt 14 (o8 v) <;> rw[hq]at h <;> first | rfl | cases h
 exact⟨by have:=bu (n:=14) h1;omega,by have:=bu (n:=10) h2;omega,fun v hv=>by have:=bu (n:=14) (Rf h3 v hv);omega⟩
theorem c7c {α:Type} {l:List α} {f:Int→Option (Out Int PUnit Bool)} (hl:l.length≤1000000) (hin:∀(i:Nat) (a:α),l[i]? =some a→f (i:Int)=some (.nx (x9 .i64 (i:Int) 1))) (hend:f (l.length:Int)=some (.ex PUnit.unit)):(l9 (J7 f 0) fun(o:PUnit⊕Bool)=>J9 o (fun _=>some true) fun r=>some r)=some true:=by
 have:=oM l (fun _=>false) false PUnit.unit hl (fun i a ha=>by rw[hin i a ha];rfl) hend
 rw[this,show l.any (fun _=>false)=false by simp];rfl
theorem RF {α β ρ:Type} (G:β→α→β⊕ρ) (Inv:β→Prop) (hG:∀b a b',Inv b→G b a= .inl b' →Inv b'):∀(l:List α) (b b' :β),Inv b→az G l b= .inl b' →Inv b'
 | [],b,b',hi,h=>by cases h;exact hi
 | a::l,b,b',hi,h=>by
  unfold az at h
  cases hg:G b a with
  | inr r=>rw[hg]at h;cases h
  | inl b1=>rw[hg]at h;exact RF G Inv hG l b1 b' (hG b a b1 hi hg) h
theorem a1y {s:D8} {env:P9} {m:Int} {need:List Bool} {b:DB} (h:scS s env m need= .inl b):b.1.length=s.2.2.2.1.length∧b.2.length=s.2.2.2.1.length:=by
 refine RF (scG s env m need) (fun b=>b.1.length=s.2.2.2.1.length∧b.2.length=s.2.2.2.1.length) (fun b a b' hi h=>?_) _ _ _ ⟨by simp,by simp⟩ h
 unfold scG at h
 cases hb:(lat need a).getD false <;> rw[hb]at h
 ·cases h;exact hi
 simp only[o6]at h
 cases hd:TM s (Ba env b.1) m a with
 | inr e=>rw[hd]at h;cases h
 | inl v=>rw[hd]at h;cases h;exact⟨by simp[hi.1],by simp[hi.2]⟩
def Wh (e:bT):Bool:=l7 (ilt 80 (o8 e.1)) true (l7 (ilt 20 (o8 e.2)) true (e.2.any fun m=>ilt 80 (o8 m)))
def tG (b:Int) (t:Y1):Int⊕Bool:=l7 (ilt 80 (o8 t.1)) (.inr false) (l7 (ilt 150 (x9 .i64 b (o8 t.2.2.2))) (.inr false) (.inl (x9 .i64 b (o8 t.2.2.2))))
def sG (b:Int) (s:D8):Int⊕Bool:=l7 (ilt 60 (x9 .i64 b (o8 s.2.2.2.2))) (.inr false) (l7 (smS s) (.inl (x9 .i64 b (o8 s.2.2.2.2))) (.inr false))
def smL (l:L8):Bool:=l7 (ilt 9 (o8 l.1)) false (l7 (ilt 9 (o8 l.2.1)) false (l7 (ilt 5 (o8 l.2.2)) false (l7 (l.1.any Wh) false
 (match az tG l.2.1 0 with | .inr _=>false | .inl _=>match az sG l.2.2 0 with | .inr _=>false | .inl _=>true))))
theorem c2B:∀(b:Int) (t:Y1) (r:Bool),tG b t= .inr r→r=false:=by
 intro b t r h
 unfold tG at h
 cases g0:ilt 80 (o8 t.1) <;> cases g:ilt 150 (x9 .i64 b (o8 t.2.2.2)) <;> simp only[g0,g,o6,o5]at h <;> cases h <;> rfl
theorem b9P:∀(b:Int) (s:D8) (r:Bool),sG b s= .inr r→r=false:=by
 intro b s r h
 unfold sG at h
 cases g:ilt 60 (x9 .i64 b (o8 s.2.2.2.2)) <;> cases g2:smS s <;> simp only[g,g2,o6,o5]at h <;> cases h <;> rfl
theorem zZ (l:L8):kD l=some (smL l):=by
 unfold kD smL
 cases h1:ilt 9 (o8 l.1)
 case true=>rfl
 cases h2:ilt 9 (o8 l.2.1)
 case true=>rfl
 cases h3:ilt 5 (o8 l.2.2)
 case true=>rfl
 have l1:=bu (n:=9) h1
 have l2:=bu (n:=9) h2
 have l3:=bu (n:=5) h3
 simp only[o5,o7,D5]
 refine J5 (oM l.1 Wh false PUnit.unit (by omega) (fun i a ha=>?_) ?_) ?_
 ·simp only[H6 ha,o6,E9,ha,o7]
  unfold Wh
  cases ilt 80 (o8 a.1)
  case true=>rfl
  cases h5:ilt 20 (o8 a.2)
  case true=>rfl
  have l5:=bu (n:=20) h5
  simp only[o5]
  refine J5 (oM a.2 (fun m=>ilt 80 (o8 m)) false PUnit.unit (by omega) (fun j m hm=>?_) ?_) ?_
  ·simp only[H6 hm,o6,E9,hm,o7]
   cases ilt 80 (o8 m) <;> rfl
  ·rw[H5];rfl
  ·cases a.2.any fun m=>ilt 80 (o8 m) <;> rfl
 ·rw[H5];rfl
 cases l.1.any Wh
 case true=>rfl
 simp only[cond_false,D5,o5]
 apply fC l.2.1 tG (fun b i=>((b,i):Int×Int)) (fun _=>PUnit.unit) (fun _ _=>True) 0 (by omega) trivial
 ·intro i t b hi hi' _
  refine⟨?_,fun _ _=>trivial⟩
  simp only[H6 hi,o6,E9,hi,o7]
  unfold tG
  rw[O8 (by omega)]
  cases ilt 80 (o8 t.1) <;> cases ilt 150 (x9 .i64 b (o8 t.2.2.2)) <;> rfl
 ·intro b _
  rw[H5];rfl
 ·intro _
  cases ht:az tG l.2.1 0 with
  | inr r=>rw[rY tG (fun r=>r=false) c2B _ _ _ ht];rfl
  | inl b=>
   simp only[D5]
   apply fC l.2.2 sG (fun b i=>((b,i):Int×Int)) (fun _=>PUnit.unit) (fun _ _=>True) 0 (by omega) trivial
   ·intro i s b hi hi' _
    refine⟨?_,fun _ _=>trivial⟩
    simp only[H6 hi,o6,E9,hi,o7,QS]
    unfold sG
    rw[O8 (by omega)]
    cases ilt 60 (x9 .i64 b (o8 s.2.2.2.2)) <;> cases smS s <;> rfl
   ·intro b _
    rw[H5];rfl
   ·intro _
    cases hs:az sG l.2.2 0 with
    | inr r=>rw[rY sG (fun r=>r=false) b9P _ _ _ hs];rfl
    | inl b=>rfl
structure WfL (l:L8):Prop where
 rl:∀t∈l.2.1,t.2.2.2.length≤4611686018427387904
 ri:∀t∈l.2.1,∀r∈t.2.2.2,ZL r
 sl:∀s∈l.2.2,s.2.2.2.2.length≤4611686018427387904
 si:∀s∈l.2.2,ScI s
theorem a7M:∀(L:List Y1) (b b' :Int),0≤b→b≤150→(∀t∈L,t.2.2.2.length≤4611686018427387904)→az tG L b= .inl b' →∀t∈L,t.1.length≤80∧t.2.2.2.length≤150
 | [],_,_,_,_,_,_=>by simp
 | t::L,b,b',h0,h1,hw,h=>by
  have hwt:=hw t (by simp)
  have ha:x9 .i64 b (o8 t.2.2.2)=b+o8 t.2.2.2:=J6 (by unfold I64 o8;omega)
  unfold az tG at h
  rw[ha]at h
  cases g0:ilt 80 (o8 t.1) <;> rw[g0]at h
  case true=>cases h
  cases g1:ilt 150 (b+o8 t.2.2.2) <;> rw[g1]at h
  case true=>cases h
  rw[X6]at g1
  intro x hx
  rcases List.mem_cons.1 hx with rfl | hx
  ·exact⟨bu (n:=80) g0,by unfold o8 at g1;omega⟩
  ·exact a7M L (b+o8 t.2.2.2) b' (by unfold o8;omega) g1 (fun q hq=>hw q (by simp[hq])) h x hx
theorem a6w:∀(L:List D8) (b b' :Int),0≤b→b≤60→(∀s∈L,s.2.2.2.2.length≤4611686018427387904)→az sG L b= .inl b' →∀s∈L,smS s=true
 | [],_,_,_,_,_,_=>by simp
 | s::L,b,b',h0,h1,hw,h=>by
  have hwt:=hw s (by simp)
  have ha:x9 .i64 b (o8 s.2.2.2.2)=b+o8 s.2.2.2.2:=J6 (by unfold I64 o8;omega)
  unfold az sG at h
  rw[ha]at h
  cases g1:ilt 60 (b+o8 s.2.2.2.2) <;> rw[g1]at h
  case true=>cases h
  cases g2:smS s <;> rw[g2]at h
  case false=>cases h
  rw[X6]at g1
  intro x hx
  rcases List.mem_cons.1 hx with rfl | hx
  ·exact g2
  ·exact a6w L (b+o8 s.2.2.2.2) b' (by unfold o8;omega) g1 (fun q hq=>hw q (by simp[hq])) h x hx
theorem UQ {l:L8} (h:smL l=true) (hW:WfL l):SmL l∧∀t∈l.2.1,jk t:=by
 unfold smL at h
 obtain⟨h1,h⟩:=MR h
 obtain⟨h2,h⟩:=MR h
 obtain⟨h3,h⟩:=MR h
 obtain⟨h4,h⟩:=MR h
 have l1:=bu (n:=9) h1
 have l2:=bu (n:=9) h2
 have l3:=bu (n:=5) h3
 cases ht:az tG l.2.1 0 with
 | inr r=>rw[ht]at h;cases h
 | inl b=>
  rw[ht]at h
  simp only at h
  cases hs:az sG l.2.2 0 with
  | inr r=>rw[hs]at h;cases h
  | inl b' =>
   have T:=a7M l.2.1 0 b (by omega) (by omega) hW.rl ht
   have S:=a6w l.2.2 0 b' (by omega) (by omega) hW.sl hs
   refine⟨⟨⟨by omega,by omega,by omega⟩,fun e he=>?_,fun t ht=>by have:=(T t ht).1;omega,fun s hs=>b9S (S s hs) (hW.si s hs)⟩,fun t ht=>⟨by have:=(T t ht).2;omega,hW.ri t ht⟩⟩
   have hl:=Rf h4 e he
   unfold Wh at hl
   cases g1:ilt 80 (o8 e.1) <;> rw[g1]at hl
   case true=>cases hl
   cases g2:ilt 20 (o8 e.2) <;> rw[g2]at hl
   case true=>cases hl
   have k1:=bu (n:=80) g1
   exact⟨by omega,fun m hm=>by have:=bu (n:=80) (Rf hl m hm);omega⟩
theorem WX:reachBytes≤4611686018427387904:=by decide
theorem a1J {l:L8} (h:wf y27 l):WfL l:=by
 refine⟨fun t ht=>?_,fun t ht r hr=>?_,fun s hs=>?_,fun s hs r hr=>⟨fun n hn=>?_,fun n hn=>?_⟩⟩
 ·have:=(h.2.1.2 t ht).2.2.2.1;exact Nat.le_trans this WX
 ·have:=(h.2.1.2 t ht).2.2.2.2 r hr
  exact⟨Qs this.2.1,Qs this.2.2.1,Qs this.2.2.2⟩
 ·have:=(h.2.2.2 s hs).2.2.2.2.1;exact Nat.le_trans this WX
 ·have:=(h.2.2.2 s hs).2.2.2.2.2 r hr
  exact Qs (this.2.2.2.2.2.1.2 n hn).2
 ·have:=(h.2.2.2 s hs).2.2.2.2.2 r hr
  exact Qs (this.2.2.2.2.2.2.1.2 n hn).2
def Na (w:List Bool) (L:List Int):List Bool:=L.foldl (fun w x=>w.set x.toNat true) w
theorem Qa:∀(L:List Int) (w:List Bool),(Na w L).length=w.length
 | [],w=>rfl
 | x::L,w=>(Qa L (w.set x.toNat true)).trans (by simp)
def Hz (s:D8) (w:List Bool) (d:Int):List Bool:=Na (w.set d.toNat true) (Z4 s d)
theorem EJ (s:D8) (w:List Bool) (d:Int):(Hz s w d).length=w.length:=by unfold Hz;rw[Qa];simp
theorem xq {w:List Bool} {n:Nat} (hw:w.length=n) {x:Int} (h0:0≤x) (h1:x<(n:Int)):∃b,lat w x=some b∧J4 w (toN x)=some b:=by
 have h:x.toNat<w.length:=by omega
 exact⟨w[x.toNat],by unfold lat;rw[if_pos h0];exact Y5 h,Y5 h⟩
theorem BN {s:D8} (h:SmS s) (d:Int):(Z4 s d).length≤14:=vg h (BO s d).1 (fun x hx=>uN hx)
theorem PU {s:D8} (h:SmS s) {w:List Bool} (hw:w.length=s.2.2.2.1.length) {d:Int} (h0:0≤d) (h1:d<nD s):qF s w d=some (Hz s w d):=by
 have hn:nD s=((s.2.2.2.1.length:Nat):Int):=rfl
 have hl:=BN h d
 obtain⟨b,e1,e2⟩:=xq hw h0 (by omega)
 unfold qF
 rw[e1,o7,e2,o7,yP h,o7,Y7]
 refine(dU (Z4 s d) (fun(w:List Bool) (x:Int)=>w.set x.toNat true) (fun w i=>(w,i)) (fun w=>w) (fun _ w=>w.length=s.2.2.2.1.length) (b:=w.set d.toNat true) (by omega) (by simp[hw]) (fun i x v hx hi hv=>?_) (fun v hv=>?_)).1
 ·have hr:=uN (dN hx)
  obtain⟨b,e1,e2⟩:=xq hv hr.1 (by omega)
  simp only[H6 hx,o6,E9,hx,o7]
  rw[e1,o7,e2,o7,O8 (by omega)]
  exact⟨rfl,by simp[hv]⟩
 ·simp only[H5];rfl
theorem Tv {s m:D8} (h:SmS m) {u w:List Bool} (hw:w.length=m.2.2.2.1.length) {d:Int} (h0:0≤d) (h1:d<nD m):eP (s,m,u,w) d=some (s,m,u,Hz m w d):=by
 have hn:nD m=((m.2.2.2.1.length:Nat):Int):=rfl
 have hl:=BN h d
 obtain⟨b,e1,e2⟩:=xq hw h0 (by omega)
 unfold eP
 simp only
 rw[e1,o7,e2,o7,AL h h0 h1,o7,Y7]
 refine(dU (Z4 m d) (fun(w:List Bool) (x:Int)=>w.set x.toNat true) (fun w i=>(((s,m,u,w),i):U1×Int)) (fun w=>((s,m,u,w):U1)) (fun _ w=>w.length=m.2.2.2.1.length) (b:=w.set d.toNat true) (by omega) (by simp[hw]) (fun i x v hx hi hv=>?_) (fun v hv=>?_)).1
 ·have hr:=uN (dN hx)
  obtain⟨b,e1,e2⟩:=xq hv hr.1 (by omega)
  simp only[H6 hx,o6,E9,hx,o7]
  rw[show J4 (Z4 m d) (toN (i:Int))=some x from hx,o7,e1,o7,e2,o7,O8 (by omega)]
  exact⟨rfl,by simp[hv]⟩
 ·simp only[H5];rfl
def xg (r:V9):List Int:=(ji r.2.2.2.2.2.1).2.2++(ji r.2.2.2.2.2.2.1).2.2
def mdl (rs:List V9) (C:List Int):List Int:=rs.flatMap fun r=>l7 (ik C r.2.1) (xg r) []
def mbS (s:D8) (d:Int):List Int:=l7 (inD (nD s) d) (DK (mdl s.2.2.2.2 (ins d (Z4 s d)))) []
theorem JY {s:D8} (h:SmS s) {r:V9} (hr:r∈s.2.2.2.2):(xg r).length≤100:=by
 obtain⟨_,h1,h2⟩:=h.ro r hr
 have a1:=yl r.2.2.2.2.2.1
 have a2:=yl r.2.2.2.2.2.2.1
 unfold xg;rw[List.length_append];omega
theorem Ua {s:D8} (h:SmS s) (C:List Int):∀(rs:List V9),(∀r∈rs,r∈s.2.2.2.2)→(mdl rs C).length≤100*rs.length
 | [],_=>by simp[mdl]
 | r::rs,hr=>by
  have h1:=Ua h C rs (fun x hx=>hr x (by simp[hx]))
  have h2:=JY h (hr r (by simp))
  have:mdl (r::rs) C=l7 (ik C r.2.1) (xg r) []++mdl rs C:=rfl
  rw[this,List.length_append,List.length_cons]
  cases ik C r.2.1
  ·simp only[o5,List.length_nil];omega
  ·simp only[o6];omega
theorem a8L {rs:List V9} {C:List Int} {x:Int} :x∈mdl rs C↔∃r∈rs,ik C r.2.1=true∧x∈xg r:=by
 unfold mdl
 rw[List.mem_flatMap]
 constructor
 ·rintro⟨r,h1,h2⟩
  cases h:ik C r.2.1 <;> rw[h]at h2
  ·simp at h2
  ·exact⟨r,h1,h,h2⟩
 ·rintro⟨r,h1,h2,h3⟩
  exact⟨r,h1,by rw[h2];exact h3⟩
theorem a0l {f:List Int×Int→Option ((List Int×Int)⊕List Int)} (l b:List Int) (hl:l.length≤1000) (hb:b.length≤100000)
  (hin:∀(i:Nat) (a:Int) (acc:List Int),l[i]? =some a→i≤1000000→f (acc,(i:Int))=l9 (dB acc a) fun x=>some (.inl (x,x9 .i64 (i:Int) 1)))
  (hend:∀acc,f (acc,(l.length:Int))=some (.inr acc)):P5 f (b,0)=some (wJ l b):=by
 refine(dU l (fun(acc:List Int) x=>ins x acc) (fun b i=>(b,i)) (fun b=>b) (fun i acc=>acc.length≤100000+i) (f:=f) (b:=b) (by omega) (by omega) (fun i a acc ha hi hI=>?_) (fun acc hI=>hend acc)).1
 have hlt:=(O5.1 ha).1
 have h2:=lL a acc
 rw[hin i a acc ha hi,O8 (by omega),rP _ (by omega)]
 exact⟨rfl,by show(ins a acc).length≤_;omega⟩
theorem PH {s:D8} (h:SmS s) (d:Int):pJ s d=some (mbS s d):=by
 have hnr:=h.nr
 have hl:=BN h d
 have hli:=lL d (Z4 s d)
 unfold pJ mbS
 rw[YG,o7]
 change l7 (D6 (inD (nD s) d)) _ _=_
 cases inD (nD s) d
 ·rfl
 simp only[x8,o5,o6]
 rw[yP h,o7,rP _ (by omega),o7]
 generalize hC:ins d (Z4 s d)=C at*
 refine fB s.2.2.2.2 (fun(acc:List Int) r=>l7 (ik C r.2.1) (wJ (xg r) acc) acc) (fun b i=>(b,i)) (fun b=>b) (fun i acc=>acc.length≤100*i) [] (by omega) (by simp) (fun i r acc ha hi hI=>?_) (fun acc hI=>?_) (fun h2=>?_)
 ·have hlt:=(O5.1 ha).1
  obtain⟨_,h1,h2⟩:=h.ro r (dN ha)
  have a1:=yl r.2.2.2.2.2.1
  have a2:=yl r.2.2.2.2.2.2.1
  have hlen:=sD (xg r) acc
  have hrl:=JY h (dN ha)
  simp only[H6 ha,o6,E9,ha,o7]
  rw[O8 (by omega),Uw (by omega),o7]
  cases ik C r.2.1
  ·exact⟨rfl,by show acc.length≤_;omega⟩
  simp only[x8,o5,o6,ut (show r.2.2.2.2.2.1.length≤500000 by omega),ut (show r.2.2.2.2.2.2.1.length≤500000 by omega),o7]
  refine⟨?_,by show(wJ (xg r) acc).length≤_;omega⟩
  refine J5 (a0l (ji r.2.2.2.2.2.1).2.2 acc (by omega) (by omega) (fun i a acc ha hi=>?_) (fun acc=>?_)) ?_
  rotate_left 2
  ·rw[o7]
   have hl2:=sD (ji r.2.2.2.2.2.1).2.2 acc
   refine J5 (a0l (ji r.2.2.2.2.2.2.1).2.2 _ (by omega) (by omega) (fun i a acc ha hi=>?_) (fun acc=>?_)) ?_
   rotate_left 2
   ·rw[o7];unfold xg;rw[zF]
   ·simp only[H6 ha,o6,E9,ha,o7]
    rw[show J4 (ji r.2.2.2.2.2.2.1).2.2 (toN (i:Int))=some a from ha];rfl
   ·simp only[H5];rfl
  ·simp only[H6 ha,o6,E9,ha,o7]
   rw[show J4 (ji r.2.2.2.2.2.1).2.2 (toN (i:Int))=some a from ha];rfl
  ·simp only[H5];rfl
 ·simp only[H5];rfl
 ·have hf:∀(l:List V9) (b:List Int),l.foldl (fun(acc:List Int) r=>l7 (ik C r.2.1) (wJ (xg r) acc) acc) b=wJ (mdl l C) b:=by
   intro l
   induction l with
   | nil=>intro b;rfl
   | cons a l ih=>
    intro b
    rw[List.foldl_cons,ih,show mdl (a::l) C=l7 (ik C a.2.1) (xg a) []++mdl l C from rfl,zF]
    cases ik C a.2.1 <;> rfl
  rw[hf];rfl
theorem a0v:∀(L:List Int) (w:List Bool),(∀x∈L,0≤x∧x<o8 w)→∀x,mk (Na w L) x=true↔mk w x=true∨x∈L
 | [],w,_,x=>by simp[Na]
 | y::L,w,h,x=>by
  have hy:=h y (by simp)
  have ih:=a0v L (w.set y.toNat true) (fun z hz=>by have:=h z (by simp[hz]);simp only[o8,List.length_set]at this ⊢;exact this) x
  rw[show Na w (y::L)=Na (w.set y.toNat true) L from rfl,ih,Uc hy.1 hy.2]
  cases hq:ieq x y
  ·have:x≠y:=fun e=>by rw[F8 e]at hq;cases hq
   simp[this]
  ·rw[N8]at hq;simp[hq]
theorem a2u (n:Nat) (x:Int):mk (List.replicate n false) x=false:=by
 unfold mk
 split
 ·rw[qp,List.getElem?_replicate];split <;> rfl
 ·rfl
theorem QG {s:D8} (h:SmS s) {d:Int} (h0:0≤d) (h1:d<nD s):qL s d=some (mbS s d):=by
 have hn:nD s=((s.2.2.2.1.length:Nat):Int):=rfl
 have hnr:=h.nr
 have hnd:=h.nd
 have hl:=BN h d
 have hr:oN ((List.range s.2.2.2.1.length).map fun(d:Nat)=>I7 s (d:Int)) d=some (Z4 s d):=by
  obtain⟨L,k1,k2⟩:=PN (D:=I7 s) h.nd (rW s) (fun x y hy=>oO hy) h0 (show d<((s.2.2.2.1.length:Nat):Int) by omega)
  rw[k1,Rch.unique k2 (BO s d)]
 obtain⟨b,e1,e2⟩:=xq (w:=List.replicate s.2.2.2.1.length false) (by simp) h0 (show d<((s.2.2.2.1.length:Nat):Int) by omega)
 unfold qL mbS
 rw[show inD (nD s) d=true by unfold inD;rw[G7 h0,F6 h1];rfl,o6]
 change l9 (l7 (ilt d 0) _ (l7 (ile (nD s) d) _ _)) _=_
 rw[E8 h0,o5,G8 h1,o5,o7]
 simp only[D5]
 rw[uG s h false,o7,e1,o7,e2,o7,BQ h,o7,hr,o7]
 refine J5 (o' :=some (Na ((List.replicate s.2.2.2.1.length false).set d.toNat true) (Z4 s d))) ?_ ?_
 ·refine(dU (Z4 s d) (fun(w:List Bool) (x:Int)=>w.set x.toNat true) (fun w i=>(w,i)) (fun w=>w) (fun _ w=>w.length=s.2.2.2.1.length) (b:=(List.replicate s.2.2.2.1.length false).set d.toNat true) (by omega) (by simp) (fun i x v hx hi hv=>?_) (fun v hv=>?_)).1
  ·have hr:=uN (dN hx)
   obtain⟨b,e1,e2⟩:=xq hv hr.1 (by omega)
   simp only[H6 hx,o6,E9,hx,o7]
   rw[show J4 (Z4 s d) (toN (i:Int))=some x from hx,o7,e1,o7,e2,o7,O8 (by omega)]
   exact⟨rfl,by simp[hv]⟩
  ·simp only[H5];rfl
 rw[o7]
 have hW:∀x,0≤x→x<nD s→mk (Na ((List.replicate s.2.2.2.1.length false).set d.toNat true) (Z4 s d)) x=ik (ins d (Z4 s d)) x:=fun x x0 x1=>by
  have hm:=a0v (Z4 s d) ((List.replicate s.2.2.2.1.length false).set d.toNat true) (fun y hy=>by have:=uN hy;simp only[o8,List.length_set,List.length_replicate];omega) x
  have hd:=Uc (S:=List.replicate s.2.2.2.1.length false) (e:=d) h0 (by simp only[o8,List.length_replicate];omega) x
  have hh:ik (ins d (Z4 s d)) x=true↔x=d∨x∈Z4 s d:=by rw[wI,IU]
  have key:mk (Na ((List.replicate s.2.2.2.1.length false).set d.toNat true) (Z4 s d)) x=true↔ik (ins d (Z4 s d)) x=true:=by
   rw[hm,hh,hd,a2u]
   cases hq:ieq x d
   ·have:x≠d:=fun e=>by rw[F8 e]at hq;cases hq
    simp[this]
   ·rw[N8]at hq;simp[hq]
  rcases Bool.eq_false_or_eq_true (ik (ins d (Z4 s d)) x)with hb | hb
  ·rw[hb];exact key.2 hb
  ·rw[hb];cases hc:mk (Na ((List.replicate s.2.2.2.1.length false).set d.toNat true) (Z4 s d)) x
   ·rfl
   ·rw[key.1 hc]at hb;cases hb
 have hWl:(Na ((List.replicate s.2.2.2.1.length false).set d.toNat true) (Z4 s d)).length=s.2.2.2.1.length:=by rw[Qa];simp
 have hCin:∀x∈ins d (Z4 s d),0≤x∧x<nD s:=fun x hx=>by
  rcases(IU d x _).1 hx with rfl | hx
  ·exact⟨h0,h1⟩
  ·exact uN hx
 generalize Na ((List.replicate s.2.2.2.1.length false).set d.toNat true) (Z4 s d)=W at*
 generalize ins d (Z4 s d)=C at*
 refine fB s.2.2.2.2 (fun(acc:List Int) r=>l7 (ik C r.2.1) (acc++xg r) acc) (fun b i=>(b,i)) (fun b=>b) (fun i acc=>acc.length≤100*i) [] (by omega) (by simp) (fun i r acc ha hi hI=>?_) (fun acc hI=>?_) (fun h2=>?_)
 ·have hlt:=(O5.1 ha).1
  obtain⟨_,h1,h2⟩:=h.ro r (dN ha)
  have a1:=yl r.2.2.2.2.2.1
  have a2:=yl r.2.2.2.2.2.2.1
  have hrl:=JY h (dN ha)
  simp only[H6 ha,o6,E9,ha,o7]
  rw[O8 (by omega)]
  obtain⟨e,he⟩:∃e:Int,r.2.1=e:=⟨_,rfl⟩
  rw[he]
  change l7 (ilt e 0) _ (l7 (ile (nD s) e) _ _)=_∧_
  by_cases q0:0≤e
  case neg=>
   have:ik C e=false:=by
    cases hq:ik C e
    ·rfl
    ·exact absurd (hCin _ (wI.1 hq)).1 q0
   rw[F6 (show e<0 by omega),this]
   exact⟨rfl,by show acc.length≤_;omega⟩
  by_cases q1:e<nD s
  case neg=>
   have:ik C e=false:=by
    cases hq:ik C e
    ·rfl
    ·exact absurd (hCin _ (wI.1 hq)).2 q1
   rw[E8 q0,G7 (show nD s≤e by omega),this]
   exact⟨rfl,by show acc.length≤_;omega⟩
  obtain⟨b,f1,f2⟩:=xq hWl q0 (show e<((s.2.2.2.1.length:Nat):Int) by omega)
  have hb:b=ik C e:=by
   have:=Yq (S:=W) q0 (by simp only[o8];omega)
   rw[←hW _ q0 q1]
   have e3:W[e.toNat]? =some b:=f2
   rw[this]at e3;exact(Option.some.inj e3).symm
  rw[E8 q0,o5,G8 q1,o5,f1,o7,f2,o7,hb]
  cases ik C e
  ·exact⟨rfl,by show acc.length≤_;omega⟩
  simp only[x8,o5,o6,wF (show r.2.2.2.2.2.1.length≤1000000 by omega),wF (show r.2.2.2.2.2.2.1.length≤1000000 by omega),o7]
  rw[tX (by omega),o7,tX (by rw[List.length_append];omega),o7]
  refine⟨by unfold xg;rw[List.append_assoc],by show(acc++xg r).length≤_;rw[List.length_append];omega⟩
 ·simp only[H5];rfl
 ·have hf:∀(l:List V9) (b:List Int),l.foldl (fun(acc:List Int) r=>l7 (ik C r.2.1) (acc++xg r) acc) b=b++mdl l C:=by
   intro l
   induction l with
   | nil=>intro b;simp[mdl]
   | cons a l ih=>
    intro b
    rw[List.foldl_cons,ih,show mdl (a::l) C=l7 (ik C a.2.1) (xg a) []++mdl l C from rfl]
    cases ik C a.2.1 <;> simp
  rw[hf,List.nil_append]
  have hml:=Ua h C s.2.2.2.2 (fun _ h=>h)
  rw[Jr (by omega)];rfl
def Ko (m:D8) (w:List Bool) (L:List Int):List Bool:=L.foldl (Hz m) w
theorem He (m:D8):∀(L:List Int) (w:List Bool),(Ko m w L).length=w.length
 | [],w=>rfl
 | x::L,w=>(He m L (Hz m w x)).trans (EJ m w x)
theorem a0r {s:D8} (h:SmS s) (d:Int):(mbS s d).length≤6000:=by
 unfold mbS
 cases inD (nD s) d
 ·simp
 ·have h1:=Eh (mdl s.2.2.2.2 (ins d (Z4 s d)))
  have h2:=Ua h (ins d (Z4 s d)) s.2.2.2.2 (fun _ h=>h)
  have:=h.nr
  simp only[o6];omega
theorem a1Q {s m:D8} (h:SmS s) (hm:SmS m) {u w:List Bool} (hu:u.length=s.2.2.2.1.length) (hw:w.length=m.2.2.2.1.length) {d:Int} (h0:0≤d) (h1:d<nD s) (hr:∀x∈mbS s d,0≤x∧x<nD m):
  kK (s,m,u,w) d=some (s,m,Hz s u d,Ko m w (mbS s d)):=by
 have hn:nD s=((s.2.2.2.1.length:Nat):Int):=rfl
 have hl:=BN h d
 have hml:=a0r h d
 obtain⟨b,e1,e2⟩:=xq hu h0 (by omega)
 unfold kK
 simp only
 rw[e1,o7,e2,o7,AL h h0 h1,o7]
 refine J5 (o' :=some ((s,m,Hz s u d,w):U1)) ?_ ?_
 ·refine(dU (Z4 s d) (fun(v:List Bool) (x:Int)=>v.set x.toNat true) (fun v i=>(((s,m,v,w),i):U1×Int)) (fun v=>((s,m,v,w):U1)) (fun _ v=>v.length=s.2.2.2.1.length) (b:=u.set d.toNat true) (by omega) (by simp[hu]) (fun i x v hx hi hv=>?_) (fun v hv=>?_)).1
  ·have hr:=uN (dN hx)
   obtain⟨b,e1,e2⟩:=xq hv hr.1 (by omega)
   simp only[H6 hx,o6,E9,hx,o7]
   rw[show J4 (Z4 s d) (toN (i:Int))=some x from hx,o7,e1,o7,e2,o7,O8 (by omega)]
   exact⟨rfl,by simp[hv]⟩
  ·simp only[H5];rfl
 rw[o7]
 simp only
 rw[QG h h0 h1,o7,Y7]
 refine(dU (mbS s d) (Hz m) (fun v i=>(((s,m,Hz s u d,v),i):U1×Int)) (fun v=>((s,m,Hz s u d,v):U1)) (fun _ v=>v.length=m.2.2.2.1.length) (b:=w) (by omega) hw (fun i x v hx hi hv=>?_) (fun v hv=>?_)).1
 ·have hq:=hr x (dN hx)
  simp only[H6 hx,o6,E9,hx,o7]
  rw[show J4 (mbS s d) (toN (i:Int))=some x from hx,o7,Tv hm hv hq.1 hq.2,o7,O8 (by omega)]
  exact⟨rfl,(EJ m v x).trans hv⟩
 ·simp only[H5];rfl
theorem Jn {l:L8} {k:Int} {s:D8} (hv:(dn l).1=0) (hs:lat l.2.2 k=some s) (h:SmS s) (hm:SmS (V8 l s)) {w:List Bool} (hw:w.length=(V8 l s).2.2.2.1.length) (d:Int) (hr:∀x∈mbS s d,0≤x∧x<nD (V8 l s)):
  jP l k w d=some (Ko (V8 l s) w (mbS s d)):=by
 have hml:=a0r h d
 unfold jP
 rw[hs,o7,PH h,o7,Y7]
 refine(dU (mbS s d) (Hz (V8 l s)) (fun v i=>(v,i)) (fun v=>v) (fun _ v=>v.length=(V8 l s).2.2.2.1.length) (b:=w) (by omega) hw (fun i x v hx hi hq=>?_) (fun v hv=>?_)).1
 ·have hx2:=hr x (dN hx)
  simp only[H6 hx,o6,E9,hx,o7]
  rw[ul hv hs,o7,show J4 (mbS s d) (toN (i:Int))=some x from hx,o7,PU hm hq hx2.1 hx2.2,o7,O8 (by omega)]
  exact⟨rfl,(EJ _ v x).trans hq⟩
 ·simp only[H5];rfl
theorem b3J {k N:Int} {sg:H8} (hk:ah k=some true) (h:(KL (k,N) [] sg).2=0):((RR (k,N) [] sg).getD ((0,0),0)).2=0:=by
 unfold KL at h
 rw[b7U]at h
 revert h
 cases D6 (ieq N 0)
 ·exact id
 ·rw[show ah (k,N).1=some true from hk];exact id
theorem a9b {N:Int} {sg:H8} (h:(KL (8,N) [] sg).2=0):0≤N∧N<o8 sg.2.2.2.1:=by
 have h:=b3J rfl h
 have hf:lG (8,N) sg=l7 (ile 0 N) (some (ilt N (o8 sg.2.2.2.1))) (some false):=rfl
 unfold RR at h
 rw[hf,show jL (8,N) sg=some true from rfl]at h
 cases h1:ile 0 N <;> rw[h1]at h
 ·exact absurd (show(6:Int)=0 from h) (by decide)
 cases h2:ilt N (o8 sg.2.2.2.1) <;> rw[h2]at h
 ·exact absurd (show(6:Int)=0 from h) (by decide)
 exact⟨fM.1 h1,Y4.1 h2⟩
theorem a9c {k N:Int} {sg:H8} (hk:k=36∨k=37∨k=38∨k=39) (h:(KL (k,N) [] sg).2=0):0≤N∧N<o8 sg.2.2.2.2.1∧sg.2.2.2.2.2=true:=by
 have h:=b3J (by rcases hk with rfl | rfl | rfl | rfl <;> rfl) h
 have hr:RR (k,N) [] sg=l9 (l7 sg.2.2.2.2.2 (l7 (ile 0 N) (some (ilt N (o8 sg.2.2.2.2.1))) (some false)) (some false)) fun(x:Bool)=>l7 (D6 x) (some ((0,0),6))
   (l9 (dW (k,N) sg) fun(x:nI×Bool)=>l7 (D6 x.2) (some ((0,0),8)) (some (x.1,0))):=by rcases hk with rfl | rfl | rfl | rfl <;> rfl
 rw[hr]at h
 cases h0:sg.2.2.2.2.2 <;> rw[h0]at h
 ·exact absurd (show(6:Int)=0 from h) (by decide)
 cases h1:ile 0 N <;> rw[h1]at h
 ·exact absurd (show(6:Int)=0 from h) (by decide)
 cases h2:ilt N (o8 sg.2.2.2.2.1) <;> rw[h2]at h
 ·exact absurd (show(6:Int)=0 from h) (by decide)
 exact⟨fM.1 h1,Y4.1 h2,rfl⟩
def NF (sg:H8) (n:Int×Int):Prop:=(ieq n.1 8=true→0≤n.2∧n.2<o8 sg.2.2.2.1)∧(isM n.1=true→0≤n.2∧n.2<o8 sg.2.2.2.2.1∧sg.2.2.2.2.2=true)
theorem RU {k:Int} (h:isM k=true):k=36∨k=37∨k=38∨k=39:=by
 unfold isM at h
 cases h1:ile 36 k <;> rw[h1]at h
 ·cases h
 have h2:=fM.1 h1
 have h3:=fM.1 (show ile k 39=true from h)
 omega
theorem a4O {sg:H8} {n:Int×Int} {i:Nat} {t:Int×Int} (h:yM sg n [] i= .inr t):NF sg n:=by
 unfold yM at h
 split at h
 ·rename_i h0
  obtain⟨k,N⟩:=n
  refine⟨fun hk=>?_,fun hk=>a9c (RU hk) h0⟩
  have hk:k=8:=N8.1 hk
  subst hk;exact a9b h0
 ·cases h
theorem Pm {sg:H8} {n:Int×Int} (h:arF n.1≠0):NF sg n:=by
 refine⟨fun hk=>absurd ?_ h,fun hk=>absurd ?_ h⟩
 ·rw[N8.1 hk];rfl
 ·rcases RU hk with e | e | e | e <;> rw[e] <;> rfl
theorem Dq {sg:H8} :∀(t:XT) (o:Nat) {r:Int×Int},t.wf→dM sg t o= .inr r→∀n∈t.post,NF sg n
 | .l0 n,o,r,hw,h,x,hx=>by
  unfold XT.post at hx
  rw[List.mem_singleton.1 hx]
  unfold dM at h;exact a4O h
 | .l1 n a,o,r,hw,h,x,hx=>by
  unfold XT.wf at hw
  unfold XT.post at hx
  unfold dM at h
  cases ha:dM sg a o with
  | inl e=>rw[ha]at h;cases h
  | inr ta=>
   rcases List.mem_append.1 hx with hx | hx
   ·exact Dq a o hw.2 ha x hx
   ·rw[List.mem_singleton.1 hx];exact Pm (by rw[hw.1];decide)
 | .l2 n a b,o,r,hw,h,x,hx=>by
  unfold XT.wf at hw
  unfold XT.post at hx
  unfold dM at h
  cases ha:dM sg a o with
  | inl e=>rw[ha]at h;cases h
  | inr ta=>
   rw[ha]at h
   simp only at h
   cases hb:dM sg b (o+a.size)with
   | inl e=>rw[hb]at h;cases h
   | inr tb=>
    rcases List.mem_append.1 hx with hx | hx
    ·rcases List.mem_append.1 hx with hx | hx
     ·exact Dq a o hw.2.1 ha x hx
     ·exact Dq b _ hw.2.2 hb x hx
    ·rw[List.mem_singleton.1 hx];exact Pm (by rw[hw.1];decide)
 | .l3 n a b c,o,r,hw,h,x,hx=>by
  unfold XT.wf at hw
  unfold XT.post at hx
  unfold dM at h
  cases ha:dM sg a o with
  | inl e=>rw[ha]at h;cases h
  | inr ta=>
   rw[ha]at h
   simp only at h
   cases hb:dM sg b (o+a.size)with
   | inl e=>rw[hb]at h;cases h
   | inr tb=>
    rw[hb]at h
    simp only at h
    cases hc:dM sg c (o+a.size+b.size)with
    | inl e=>rw[hc]at h;cases h
    | inr tc=>
     rcases List.mem_append.1 hx with hx | hx
     ·rcases List.mem_append.1 hx with hx | hx
      ·rcases List.mem_append.1 hx with hx | hx
       ·exact Dq a o hw.2.1 ha x hx
       ·exact Dq b _ hw.2.2.1 hb x hx
      ·exact Dq c _ hw.2.2.2 hc x hx
     ·rw[List.mem_singleton.1 hx];exact Pm (by rw[hw.1];decide)
theorem CJ {sg:H8} {n:Int×Int} {ops:List (Int×Int)} {i:Nat} {x:Int×Int} (h:yM sg n ops i= .inl x):x.2≠0:=by
 unfold yM at h
 split at h
 ·cases h
 ·rename_i h0;cases h;exact h0
theorem vS {sg:H8} :∀(t:XT) (o:Nat) {x:Int×Int},dM sg t o= .inl x→x.2≠0
 | .l0 n,o,x,h=>CJ h
 | .l1 n a,o,x,h=>by
  unfold dM at h
  cases ha:dM sg a o with
  | inl e=>rw[ha]at h;cases h;exact vS a o ha
  | inr ta=>rw[ha]at h;exact CJ h
 | .l2 n a b,o,x,h=>by
  unfold dM at h
  cases ha:dM sg a o with
  | inl e=>rw[ha]at h;cases h;exact vS a o ha
  | inr ta=>
   rw[ha]at h
   simp only at h
   cases hb:dM sg b (o+a.size)with
   | inl e=>rw[hb]at h;cases h;exact vS b _ hb
   | inr tb=>rw[hb]at h;exact CJ h
 | .l3 n a b c,o,x,h=>by
  unfold dM at h
  cases ha:dM sg a o with
  | inl e=>rw[ha]at h;cases h;exact vS a o ha
  | inr ta=>
   rw[ha]at h
   simp only at h
   cases hb:dM sg b (o+a.size)with
   | inl e=>rw[hb]at h;cases h;exact vS b _ hb
   | inr tb=>
    rw[hb]at h
    simp only at h
    cases hc:dM sg c (o+a.size+b.size)with
    | inl e=>rw[hc]at h;cases h;exact vS c _ hc
    | inr tc=>rw[hc]at h;exact CJ h
theorem Td {e:List (Int×Int)} {sg:H8} (h:(fV e sg).2.2=0):∀n∈e,NF sg n:=by
 unfold fV at h
 cases hs:eQ e with
 | inl x=>rw[hs]at h;exact absurd h (wS hs)
 | inr t=>
  rw[hs]at h
  simp only at h
  cases ht:dM sg t 0 with
  | inl x=>
   rw[ht]at h
   exact absurd h (vS t 0 ht)
  | inr r=>
   intro n hn
   rw[(Aa hs).1]at hn
   exact Dq t 0 (FU hs) ht n hn
theorem Tj {e:List (Int×Int)} {sg:H8} {t:Int×Int} (h:zf e sg t=0):fV e sg=(t,(fV e sg).2.1,0):=by
 unfold zf at h
 cases h1:ieq (fV e sg).2.2 0 <;> rw[h1]at h
 ·simp only[o5]at h;rw[F8 h]at h1;cases h1
 cases h2:ieq (fV e sg).1.1 t.1 <;> rw[h2]at h
 ·exact absurd (show(8:Int)=0 from h) (by decide)
 cases h3:ieq (fV e sg).1.2 t.2 <;> rw[h3]at h
 ·exact absurd (show(8:Int)=0 from h) (by decide)
 rw[N8]at h1 h2 h3
 exact Prod.ext (Prod.ext h2 h3) (Prod.ext rfl h1)
theorem ZC {l:L8} (h:(dn l).1=0) {i:Nat} {s:D8} (hs:l.2.2[i]? =some s) {k:Nat} {r:V9} (hr:s.2.2.2.2[k]? =some r):BH s (AC l s) k r=0:=by
 have hp:=(Tf h hs).2
 unfold Pv at hp
 cases h1:zC l s with
 | some q=>rw[h1]at hp;exact absurd hp (Lm h1)
 | none=>
  rw[h1]at hp
  simp only at hp
  cases h2:O9 s.2.2.2.2.length (EM l s)with
  | some q=>
   rw[h2]at hp
   obtain⟨j,hj,hq⟩:=bn h2
   unfold EM at hq
   cases h3:s.2.2.2.2[j]? with
   | none=>rw[h3]at hq;cases hq
   | some q2=>rw[h3]at hq;exact absurd hp (Fv hq)
  | none=>
   have hn:=Cm h2 k (O5.1 hr).1
   unfold EM at hn
   rw[hr]at hn
   simp only at hn
   unfold MV at hn
   cases he:ieq (BH s (AC l s) k r) 0 <;> rw[he]at hn
   ·cases hn
   ·exact N8.1 he
theorem YP {s:D8} {sg:H8} {k:Nat} {r:V9} (h:BH s sg k r=0):∃d,lat s.2.2.2.1 r.2.1=some d∧JO r sg d.2=0:=by
 unfold BH at h
 cases g1:wV r.1 <;> rw[g1]at h
 ·exact absurd (show(2:Int)=0 from h) (by decide)
 cases g2:(s.2.2.2.2.take k).any fun x=>seq x.1 r.1 <;> rw[g2]at h
 case true=>exact absurd (show(7:Int)=0 from h) (by decide)
 cases g3:lat s.2.2.2.1 r.2.1 with
 | none=>rw[g3]at h;exact absurd (show(6:Int)=0 from h) (by decide)
 | some d=>
  rw[g3]at h
  refine⟨d,rfl,?_⟩
  simp only[o6,o5]at h
  revert h
  generalize l7 (ieq r.2.2.1 (-1)) false (l7 (ilt r.2.2.1 0) true (l7 (ile k r.2.2.1) true (match lat s.2.2.2.2 r.2.2.1 with | some q=>D6 (ieq q.2.1 r.2.1) | none=>true)))=b1
  generalize ilt r.2.2.2.1 0=b2
  generalize ilt 9 r.2.2.2.1=b3
  generalize zg r.2.2.2.2.1=b4
  generalize ieq r.2.2.2.2.1.1 r.2.2.2.2.1.2=b5
  generalize ile 8 (JH (s.2.2.2.2.take k) r.2.1)=b6
  generalize UZ r.2.2.2.2.2.2.2=b7
  intro h
  cases b1
  case true=>exact absurd (show(9:Int)=0 from h) (by decide)
  cases b2
  case true=>exact absurd (show(3:Int)=0 from h) (by decide)
  cases b3
  case true=>exact absurd (show(3:Int)=0 from h) (by decide)
  cases b4
  case false=>exact absurd (show(3:Int)=0 from h) (by decide)
  cases b5
  case true=>exact absurd (show(3:Int)=0 from h) (by decide)
  cases b6
  case true=>exact absurd (show(4:Int)=0 from h) (by decide)
  cases b7
  case false=>exact absurd (show(2:Int)=0 from h) (by decide)
  exact h
theorem Xz {l:L8} (h:(dn l).1=0) {i:Nat} {s:D8} (hs:l.2.2[i]? =some s) {r:V9} (hr:r∈s.2.2.2.2):
  (r.2.2.2.2.2.1=[]∨zf r.2.2.2.2.2.1 (AC l s) (1,0)=0)∧∃d,lat s.2.2.2.1 r.2.1=some d∧zf r.2.2.2.2.2.2.1 (AC l s) d.2=0:=by
 obtain⟨k,hk,e⟩:=List.getElem_of_mem hr
 obtain⟨d,h1,h2⟩:=YP (ZC h hs (r:=r) (k:=k) (by rw[Y5 hk,e]))
 unfold JO at h2
 cases h3:ilt 0 (o8 r.2.2.2.2.2.1) <;> rw[h3]at h2
 ·refine⟨.inl ?_,d,h1,h2⟩
  rw[X6]at h3
  exact List.length_eq_zero_iff.1 (by simp only[o8]at h3;omega)
 ·simp only[o6]at h2
  cases h4:ieq (zf r.2.2.2.2.2.1 (AC l s) (1,0)) 0 <;> rw[h4]at h2
  ·simp only[o5]at h2;rw[F8 h2]at h4;cases h4
  ·exact⟨.inr (N8.1 h4),d,h1,h2⟩
theorem a6A (l:L8) (s:D8):(AC l s).2.2.2.1=s.2.2.2.1.map (·.2):=by unfold AC;split <;> rfl
theorem a9E {l:L8} {s:D8} (h:(AC l s).2.2.2.2.2=true):(AC l s).2.2.2.2.1=(V8 l s).2.2.2.1.map (·.2):=by
 unfold AC at h ⊢
 unfold V8 lat
 by_cases g:0≤s.2.1
 ·rw[if_pos g]at h ⊢
  rw[G7 g]
  cases hq:l.2.2[s.2.1.toNat]? with
  | none=>rw[hq]at h;cases h
  | some q=>rfl
 ·rw[if_neg g]at h;cases h
theorem SV {l:L8} (h:(dn l).1=0) {i:Nat} {s:D8} (hs:l.2.2[i]? =some s) {r:V9} (hr:r∈s.2.2.2.2) {e:List (Int×Int)} (he:e=r.2.2.2.2.2.1∨e=r.2.2.2.2.2.2.1):
  (∀x∈(ji e).2.1,0≤x∧x<nD s)∧∀x∈(ji e).2.2,0≤x∧x<nD (V8 l s):=by
 obtain⟨h1,d,h2,h3⟩:=Xz h hs hr
 have hn:∀n∈e,NF (AC l s) n:=by
  rcases he with rfl | rfl
  ·rcases h1 with h1 | h1
   ·rw[h1];simp
   ·exact Td (by rw[Tj h1])
  ·exact Td (by rw[Tj h3])
 constructor
 ·intro x hx
  have hx:=(Em x _).1 (show x∈DK (IZ (fun o=>ieq o 8) e)from hx)
  obtain⟨n,hn1,rfl⟩:=List.mem_map.1 hx
  obtain⟨hn2,hn3⟩:=List.mem_filter.1 hn1
  have:=(hn n hn2).1 hn3
  rw[a6A]at this
  simpa[o8,nD]using this
 ·intro x hx
  have hx:=(Em x _).1 (show x∈DK (IZ isM e)from hx)
  obtain⟨n,hn1,rfl⟩:=List.mem_map.1 hx
  obtain⟨hn2,hn3⟩:=List.mem_filter.1 hn1
  have:=(hn n hn2).2 hn3
  rw[a9E this.2.2]at this
  refine⟨this.1,?_⟩
  have h2:=this.2.1
  simpa[o8,nD]using h2
theorem a4F {l:L8} (h:(dn l).1=0) {i:Nat} {s:D8} (hs:l.2.2[i]? =some s) (d:Int):∀x∈mbS s d,0≤x∧x<nD (V8 l s):=by
 intro x hx
 unfold mbS at hx
 cases hq:inD (nD s) d <;> rw[hq]at hx
 ·simp at hx
 ·obtain⟨r,hr,_,h3⟩:=a8L.1 ((Em x _).1 hx)
  rcases List.mem_append.1 h3 with h3 | h3
  ·exact(SV h hs hr (.inl rfl)).2 x h3
  ·exact(SV h hs hr (.inr rfl)).2 x h3
theorem a4a {l:L8} {s:D8} {c:U0} {nS nM:List Bool} {e:E4} (h:TQ l s c nS nM= .inr e):e.1≠0:=by
 unfold TQ at h
 cases hm:mS l c (V8 l s) nM with
 | inr e=>rw[hm]at h;cases h;exact rY _ (fun r=>r.1≠0) a4C _ _ _ hm
 | inl b=>
  rw[hm]at h
  simp only at h
  cases hs:scS s (Gx l s c b) (-1) nS with
  | inr r=>rw[hs]at h;cases h;exact FQ hs
  | inl x=>rw[hs]at h;cases h
theorem a4b {l:L8} {s:D8} {c:U0} {nS nM:List Bool} {x:DB×List DB} (h:TQ l s c nS nM= .inl x):x.1.1.length=s.2.2.2.1.length∧x.1.2.length=s.2.2.2.1.length:=by
 unfold TQ at h
 cases hm:mS l c (V8 l s) nM with
 | inr e=>rw[hm]at h;cases h
 | inl b=>
  rw[hm]at h
  simp only at h
  cases hs:scS s (Gx l s c b) (-1) nS with
  | inr r=>rw[hs]at h;cases h
  | inl y=>rw[hs]at h;cases h;exact a1y hs
theorem a3K {l:L8} {k:Int} {c:U0} {d:Int} {s:D8} (h:(JD l k c true d).1=0) (hs:lat l.2.2 k=some s):0≤d∧d<nD s:=by
 unfold JD at h
 cases h0:ieq (dn l).1 0 <;> rw[h0]at h
 ·exact absurd (show(1:Int)=0 from h) (by decide)
 rw[hs]at h
 simp only[o6]at h
 cases h1:ilt d 0 <;> rw[h1]at h
 case true=>exact absurd (show(6:Int)=0 from h) (by decide)
 cases h2:ile (o8 s.2.2.2.1) d <;> rw[h2]at h
 case true=>exact absurd (show(6:Int)=0 from h) (by decide)
 rw[X6]at h1;rw[tN]at h2
 exact⟨h1,h2⟩
theorem IP {α:Type} {l:List α} {d:Int} (a:α) (h0:0≤d) (h1:d<(l.length:Int)):lat l d=some (l.getD d.toNat a)∧J4 l (toN d)=some (l.getD d.toNat a):=by
 have h:d.toNat<l.length:=by omega
 have e:l[d.toNat]? =some (l.getD d.toNat a):=by rw[qp,Y5 h];rfl
 exact⟨by unfold lat;rw[if_pos h0];exact e,e⟩
def d9q (d:Int) (r:DB×List DB⊕E4):V3×Int×E4:=match r with
 | .inr e=>((0,0,0),0,e)
 | .inl x=>(x.1.1.getD d.toNat (0,0,0),x.1.2.getD d.toNat 0,0,0,0,0)
def a4c (l:L8) (s:D8) (c:U0) (d:Int):V3×Int×E4:=
 d9q d (TQ l s c (Hz s (yH s.2.2.2.1.length) d) (Ko (V8 l s) (yH (V8 l s).2.2.2.1.length) (mbS s d)))
theorem Cj (n:Nat):(yH n).length=n:=by simp[yH]
theorem Yb {l:L8} {k:Int} {c:U0} {d:Int} (hL:SmL l) (hC:SmC c) (hT:∀t∈l.2.1,jk t):
  kS l k c d=some (if(JD l k c true d).1=0 then(match lat l.2.2 k with | some s=>a4c l s c d | none=>((0,0,0),0,0,0,0,0))else((0,0,0),0,JD l k c true d)):=by
 unfold kS
 rw[a8v hL k hC,o7]
 by_cases hA:(JD l k c true d).1=0
 case neg=>rw[if_neg hA,F5 hA];rfl
 rw[if_pos hA,F8 hA]
 obtain⟨h,s,hs⟩:=a1U hA
 obtain⟨h0,h1⟩:=a3K hA hs
 have hM:=Wn hL h hs
 have hS:=hL.sc s (iK hs).2.2.1
 have hn:nD s=((s.2.2.2.1.length:Nat):Int):=rfl
 rw[hs]
 simp only[x8,o5]
 rw[Wx hL h hs,o7,a1Q hS hM (Cj _) (Cj _) h0 h1 (a4F h (iK hs).2.2.2 d),o7,TR hS hM hC hT (by rw[EJ,Cj]) (by rw[He,Cj]),o7]
 unfold a4c
 cases hq:TQ l s c (Hz s (yH s.2.2.2.1.length) d) (Ko (V8 l s) (yH (V8 l s).2.2.2.1.length) (mbS s d))with
 | inr e=>simp only[F5 (a4a hq)];rfl
 | inl x=>
  obtain⟨g1,g2⟩:=a4b hq
  simp only[F8 (rfl:(0:Int)=0),x8,o5]
  rw[(IP (0,0,0) h0 (by omega)).1,o7,(IP 0 h0 (by omega)).1];rfl
abbrev BB:Type:=List Bool×List Bool
def BOk (s m:D8) (b:BB):Prop:=b.1.length=s.2.2.2.1.length∧b.2.length=m.2.2.2.1.length
structure Sim (P Q:Int→Prop) (a b:P9):Prop where
 e1:a.1=b.1
 e2:a.2.1=b.2.1
 e3:a.2.2.2.2=b.2.2.2.2
 dl:a.2.2.1.length=b.2.2.1.length
 d:∀x,P x→lat a.2.2.1 x=lat b.2.2.1 x
 ml:a.2.2.2.1.length=b.2.2.2.1.length
 m:∀x,Q x→a.2.2.2.1.map (fun v=>lat v x)=b.2.2.2.1.map (fun v=>lat v x)
def b7V (s:D8) (P Q:Int→Prop) (d:Int):Prop:=∀r∈s.2.2.2.2,r.2.1=d→∀e,e=r.2.2.2.2.2.1∨e=r.2.2.2.2.2.2.1→(∀x∈(ji e).2.1,P x)∧∀x∈(ji e).2.2,Q x
def c2C (s:D8) (O:List Int):Prop:=O.Nodup∧(∀d∈O,0≤d∧d<nD s)∧∀(pre:List Int) (d:Int) (suf:List Int),O=pre++d::suf→∀x∈I7 s d,x∈pre
structure SimE (Q:Int→Prop) (a b:P9):Prop where
 e1:a.1=b.1
 e2:a.2.1=b.2.1
 e3:a.2.2.2.2=b.2.2.2.2
 ml:a.2.2.2.1.length=b.2.2.2.1.length
 m:∀x,Q x→a.2.2.2.1.map (fun v=>lat v x)=b.2.2.2.1.map (fun v=>lat v x)
theorem SimE.at {P Q:Int→Prop} {a b:P9} (h:SimE Q a b) {D D' :List V3} (hl:D.length=D'.length) (hd:∀x,P x→lat D x=lat D' x):Sim P Q (Ba a D) (Ba b D'):=⟨h.e1,h.e2,h.e3,hl,hd,h.ml,h.m⟩
abbrev ND (w:List Bool) (x:Int):Prop:=(lat w x).getD false=true
structure DInv (n:Nat) (need:List Bool) (B B' :DB):Prop where
 l1:B.1.length=n∧B.2.length=n
 l2:B'.1.length=n∧B'.2.length=n
 eq:∀x,ND need x→lat B.1 x=lat B'.1 x∧lat B.2 x=lat B'.2 x
structure MInv (need:List Bool) (b b' :List DB):Prop where
 l:b.length=b'.length
 eq:∀x,ND need x→b.map (fun v=>lat v.1 x)=b'.map (fun v=>lat v.1 x)
def a3z (s:D8) (w:List Bool):Prop:=∀d,mk w d=true→∀x∈I7 s d,mk w x=true
structure NI (l:L8) (s:D8) (B:BB):Prop where
 ok:BOk s (V8 l s) B
 c1:a3z s B.1
 c2:a3z (V8 l s) B.2
 hr:∀e,mk B.1 e=true→b7V s (fun x=>x∈I7 s e) (fun x=>mk B.2 x=true) e
structure Grows (B C:BB):Prop where
 g1:∀x,mk B.1 x=true→mk C.1 x=true
 g2:∀x,mk B.2 x=true→mk C.2 x=true
theorem Grows.refl (B:BB):Grows B B:=⟨fun _ h=>h,fun _ h=>h⟩
theorem Grows.trans {A B C:BB} (h:Grows A B) (k:Grows B C):Grows A C:=⟨fun x hx=>k.g1 x (h.g1 x hx),fun x hx=>k.g2 x (h.g2 x hx)⟩
end Go.GP
namespace Go.GP
open Gt
set_option maxRecDepth 100000
section
variable {en:List bT} {t:Int×Int}
end
end Go.GP
namespace Go.GP
open Gt
set_option maxRecDepth 100000
def PVW (en:List bT) (t:Int×Int) (v:V3):Prop:=v.1=t.1∧v.2.1=t.2∧(v.1=6→inB v.2.2 (bnd t en)=true)
structure TOk (sg:H8) (env:P9):Prop where
 inp:∀i t v,lat sg.2.2.1 i=some t→lat env.2.1 i=some v→PVW sg.1 t v
 dfs:∀i t v,lat sg.2.2.2.1 i=some t→lat env.2.2.1 i=some v→v.1≠0→PVW sg.1 t v
 mty:∀i t u,lat sg.2.2.2.2.1 i=some t→lat env.2.2.2.2.1 i=some u→u=t
 tbs:env.2.2.2.2.2=sg.2.1
 row:∀t∈sg.2.1,∀r∈t.2.2.2,inB r.2.2.2 (bnd t.2.2.1 sg.1)=true
end Go.GP
namespace Go.GP
open Gt
set_option maxRecDepth 100000
section
variable {sg:H8} {env:P9}
end
end Go.GP
namespace Go.GP
open Gt
set_option maxRecDepth 100000
abbrev c2E:Int×Int:=(0,109573)
def onA (s:D8) (T:Int) (i:Nat):Bool:=match s.2.2.2.2[i]? with | some r=>GR r.2.2.2.2.1 T | none=>false
def c6X (s:D8) (T:Int):List Nat:=onL (onA s T) s.2.2.2.2.length
def rOn (s:D8) (T:Int) (i:Nat):V9:=match s.2.2.2.2[i]? with
 | some r=>(r.1,r.2.1,anc (onA s T) (Aw s) i,r.2.2.2.1,c2E,r.2.2.2.2.2.1,r.2.2.2.2.2.2.1,r.2.2.2.2.2.2.2)
 | none=>([],0,0,0,c2E,[],[],[])
def sOn (T:Int) (s:D8):D8:=(s.1,s.2.1,s.2.2.1,s.2.2.2.1,(c6X s T).map (rOn s T))
end Go.GP
namespace Go.GP
open Gt
set_option maxRecDepth 100000
section
variable {A R R' :Nat→Bool} {par par' :Nat→Int} {n:Nat} (hRA:∀i,i<n→R i=true→A i=true) (hR:∀i,i<n→A i=true→R' (DY A i)=R i) (hp:∀i,i<n→A i=true→par' (DY A i)=anc A par i)
include hRA hR
omit hR in
omit hR in
include hp
end
end Go.GP
namespace Go.GP
open Gt
set_option maxRecDepth 100000
section
variable {s:D8} {T:Int} (h0:0≤T) (h1:T≤109572)
include h0 h1
omit h0 h1 in
omit h0 h1 in
end
end Go.GP
namespace Go.GP
open Gt
set_option maxRecDepth 100000
structure OnOk (s:D8) (T:Int):Prop where
 h0:0≤T
 h1:T≤109572
 t1:c2C s (mV s).1
 f1:∀d,0≤d→d<nD s→d∈(mV s).1
 t2:c2C (sOn T s) (mV (sOn T s)).1
 f2:∀d,0≤d→d<nD s→d∈(mV (sOn T s)).1
 r1:∀d,b7V s (fun x=>x∈I7 s d) (fun _=>True) d
 r2:∀d,b7V (sOn T s) (fun x=>x∈I7 (sOn T s) d) (fun _=>True) d
def a3N (s:D8) (k:Nat) (r:V9):Bool:=l7 (ieq r.2.2.1 (-1)) false (l7 (ilt r.2.2.1 0) true (l7 (ile k r.2.2.1) true (match lat s.2.2.2.2 r.2.2.1 with | some q=>D6 (ieq q.2.1 r.2.1) | none=>true)))
structure RuleV (s:D8) (sg:H8) (k:Nat) (r:V9):Prop where
 id:wV r.1=true
 nm:((s.2.2.2.2.take k).any fun x=>seq x.1 r.1)=false
 df:∃d,lat s.2.2.2.1 r.2.1=some d∧JO r sg d.2=0
 pa:a3N s k r=false
 p0:ilt r.2.2.2.1 0=false
 p9:ilt 9 r.2.2.2.1=false
 dv:zg r.2.2.2.2.1=true
 ne:ieq r.2.2.2.2.1.1 r.2.2.2.2.1.2=false
 ct:ile 8 (JH (s.2.2.2.2.take k) r.2.1)=false
 sr:UZ r.2.2.2.2.2.2.2=true
theorem RuleV.zero {s:D8} {sg:H8} {k:Nat} {r:V9} (h:RuleV s sg k r):BH s sg k r=0:=by
 obtain⟨d,h1,h2⟩:=h.df
 unfold BH
 rw[h.id,h.nm,h1]
 simp only[o6,o5]
 change l7 (a3N s k r) (9:Int) _=0
 rw[h.pa,h.p0,h.p9,h.dv,h.ne,h.ct,h.sr,h2];rfl
end Go.GP
