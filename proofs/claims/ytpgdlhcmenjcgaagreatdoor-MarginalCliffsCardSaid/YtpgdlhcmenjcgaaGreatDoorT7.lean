import Derived.Test.YtpgdlhcmenjcgaaGreatDoorT6
set_option linter.all false
namespace Go.GP
open Gt
set_option maxRecDepth 100000
theorem ZE {l:L8} (h:(dn l).1=0):dn l=(0,0,0,0):=by
 unfold dn at h ⊢
 cases h1:ieq (Ea l).1 0 <;> rw[h1]at h
 ·simp only[o5]at h;rw[F8 h]at h1;cases h1
 cases h2:ieq (Ac l).1 0 <;> rw[h2]at h
 ·simp only[o6,o5]at h;rw[F8 h]at h2;cases h2
 simp only[o6]at h ⊢
 unfold FT at h ⊢
 cases h3:ilt 4 (o8 l.2.2) <;> rw[h3]at h
 case true=>exact absurd (show(4:Int)=0 from h) (by decide)
 simp only[o5]at h ⊢
 cases hf:O9 l.2.2.length (wZ l)with
 | none=>rfl
 | some r=>
  rw[hf]at h
  simp only at h
  obtain⟨j,hj,hp⟩:=bn hf
  unfold wZ at hp
  cases hq:l.2.2[j]? with
  | none=>rw[hq]at hp;cases hp
  | some q=>
   rw[hq]at hp
   simp only at hp
   unfold Iy at hp
   exact absurd h (by
    cases he:ieq (vO l j q).1 0 <;> rw[he]at hp <;> cases hp
    simp only
    intro h4;rw[F8 h4]at he;cases he)
theorem Kz {l:L8} {k:Int} {c:U0} {d:Int} (hL:SmL l) (hC:SmC c) (hT:∀t∈l.2.1,jk t) (h:(dn l).1=0) {s:D8} (hs:lat l.2.2 k=some s) (h0:0≤d) (h1:d<nD s):
  fG l k c d=some (a4c l s c d):=by
 have hM:=Wn hL h hs
 have hS:=hL.sc s (iK hs).2.2.1
 have hn:nD s=((s.2.2.2.1.length:Nat):Int):=rfl
 have hcm:=hC.nm
 unfold fG
 rw[hs,o7,uG s hS false,o7,PU hS (by simp) h0 h1,o7,ul h hs,o7,uG (V8 l s) hM false,o7,Jn h hs hS hM (by simp) d (a4F h (iK hs).2.2.2 d),o7,Oo h hs hC.nm hM hT (by rw[He];simp),o7]
 unfold a4c TQ yH
 cases hq:mS l c (V8 l s) (Ko (V8 l s) (List.replicate (V8 l s).2.2.2.1.length false) (mbS s d))with
 | inr e=>simp only[F5 (rY _ (fun r=>r.1≠0) a4C _ _ _ hq)];rfl
 | inl b=>
  have hbl:=a4D hq
  simp only[F8 (rfl:(0:Int)=0),x8,o5]
  rw[a8V c b h hs hM,o7,Lj hS (WP hT s c (by omega)) (-1) (by rw[EJ];simp),o7]
  cases hr:scS s (Gx l s c b) (-1) (Hz s (List.replicate s.2.2.2.1.length false) d)with
  | inr e=>simp only[F5 (FQ hr)];rfl
  | inl x=>
   obtain⟨g1,g2⟩:=a1y hr
   have k1:=IP (l:=x.1) (0,0,0) h0 (by omega)
   have k2:=IP (l:=x.2) 0 h0 (by omega)
   simp only[F8 (rfl:(0:Int)=0),x8,o5]
   rw[k1.1,o7,k1.2,o7,k2.1,o7,k2.2];rfl
def BJ (c:U0) (j n:Int):U0:=l7 (ilt j (o8 c.2.1)) (c.1,P6 c.2.1 (toN j) (3,0,n),c.2.2) c
theorem UO {c:U0} (h:SmC c) (j n:Int):SmC (BJ c j n):=by
 unfold BJ
 cases ilt j (o8 c.2.1)
 ·exact h
 ·refine⟨?_,h.nm,h.nv⟩
  show(c.2.1.set (toN j) (3,0,n)).length≤1000
  rw[List.length_set];exact h.ni
def yE (l:L8) (k d j:Int):Int:=l7 (ieq (dn l).1 0) (match lat l.2.2 k with
 | none=>6
 | some s=>match lat s.2.2.2.1 d,lat s.2.2.1 j with
  | some f,some g=>l7 (aK (ieq f.2.1 3) (ieq f.2.2 0)) (l7 (aK (ieq g.2.1 3) (ieq g.2.2 0)) 0 8) 8
  | _,_=>6) 1
theorem AX {l:L8} {k d j:Int} (h:yE l k d j=0):(dn l).1=0∧∃s,lat l.2.2 k=some s∧(0≤d∧d<nD s)∧0≤j∧j<o8 s.2.2.1:=by
 unfold yE at h
 cases h0:ieq (dn l).1 0 <;> rw[h0]at h
 ·exact absurd (show(1:Int)=0 from h) (by decide)
 refine⟨N8.1 h0,?_⟩
 simp only[o6]at h
 cases hs:lat l.2.2 k with
 | none=>rw[hs]at h;exact absurd (show(6:Int)=0 from h) (by decide)
 | some s=>
  rw[hs]at h
  simp only at h
  refine⟨s,rfl,?_⟩
  cases hd:lat s.2.2.2.1 d with
  | none=>rw[hd]at h;exact absurd (show(6:Int)=0 from h) (by decide)
  | some f=>
   rw[hd]at h
   cases hj:lat s.2.2.1 j with
   | none=>rw[hj]at h;exact absurd (show(6:Int)=0 from h) (by decide)
   | some g=>
    obtain⟨a1,a2,_⟩:=iK hd
    obtain⟨b1,b2,_⟩:=iK hj
    exact⟨⟨a1,a2⟩,b1,b2⟩
def a2I (r:V3×Int×E4):Int×Int:=l7 (ieq r.2.2.1 0) (r.1.2.2,0) (0,r.2.2.1)
def vaS (l:L8) (k:Int) (c:U0) (d j n:Int):Int×Int:=
 l7 (ieq (rV l k (BJ c j n)).2.2 0) (match lat l.2.2 k with | some s=>a2I (a4c l s (BJ c j n) d) | none=>(0,0)) (0,(rV l k (BJ c j n)).2.2)
theorem Np (r:V3×Int×E4):l7 (D6 (ieq r.2.2.1 0)) (some (0,r.2.2.1)) (some (r.1.2.2,(0:Int)))=some (a2I r):=by
 unfold a2I;cases ieq r.2.2.1 0 <;> rfl
theorem a8M {l:L8} {k:Int} {c:U0} {d j n:Int} (hL:SmL l) (hC:SmC c) (hT:∀t∈l.2.1,jk t) (hk:yE l k d j=0):
  ∃r,kS l k (BJ c j n) d=some r∧a2I r=vaS l k c d j n:=by
 obtain⟨h,s,hs,⟨h0,h1⟩,hj,_⟩:=AX hk
 refine⟨_,Yb hL (UO hC j n) hT,?_⟩
 have hA:JD l k (BJ c j n) true d=l7 (ieq (rV l k (BJ c j n)).2.2 0) (0,0,0,0) ((rV l k (BJ c j n)).2.2,(rV l k (BJ c j n)).1,-1,-1):=by
  unfold JD
  rw[F8 h,hs]
  simp only[o6,E8 h0,o5]
  rw[show ile (o8 s.2.2.2.1) d=false from G8 h1];rfl
 unfold vaS
 rw[hs]
 cases he:ieq (rV l k (BJ c j n)).2.2 0
 ·rw[he,o5]at hA
  have hne:(JD l k (BJ c j n) true d).1≠0:=by rw[hA];exact qh.1 he
  rw[if_neg hne,hA]
  unfold a2I
  dsimp only
  rw[he];rfl
 ·rw[he,o6]at hA
  have hz:(JD l k (BJ c j n) true d).1=0:=by rw[hA]
  rw[if_pos hz];rfl
theorem a5L {l:L8} {k:Int} {c:U0} {d j n:Int} (hL:SmL l) (hC:SmC c) (hT:∀t∈l.2.1,jk t) (hk:yE l k d j=0):
  lh l k (BJ c j n)=some (rV l k (BJ c j n))∧∃r,fG l k (BJ c j n) d=some r∧vaS l k c d j n=l7 (ieq (rV l k (BJ c j n)).2.2 0) (a2I r) (0,(rV l k (BJ c j n)).2.2):=by
 obtain⟨h,s,hs,⟨h0,h1⟩,hj,_⟩:=AX hk
 refine⟨a5x l k (UO hC j n),_,Kz hL (UO hC j n) hT h hs h0 h1,?_⟩
 unfold vaS
 rw[hs]
def clF (v:Int→Int×Int) (x:Nat→Int):Nat→Nat→List V3→Int→List V3⊕Int
 | 0,_,out,_=> .inl out
 | n+1,i,out,b=>l7 (ieq (v (x i)).2 0) (clF v x n (i+1) (l7 (aK (ilt 0 (i:Int)) (ilt (v (x i)).1 b)) (out++[(x i,b,(v (x i)).1)]) out) (v (x i)).1) (.inr (v (x i)).2)
theorem a0b {v:Int→Int×Int} {x:Nat→Int} :∀n i out b e,clF v x n i out b= .inr e→e≠0
 | 0,_,_,_,_,h=>by cases h
 | n+1,i,out,b,e,h=>by
  unfold clF at h
  cases h0:ieq (v (x i)).2 0 <;> rw[h0]at h
  ·cases h;exact qh.1 h0
  ·exact a0b n _ _ _ _ h
theorem a0c {v:Int→Int×Int} {x:Nat→Int} :∀n i out b a,clF v x n i out b= .inl a→∃t,a=out++t
 | 0,_,out,_,_,h=>by cases h;exact⟨[],by simp⟩
 | n+1,i,out,b,a,h=>by
  unfold clF at h
  cases h0:ieq (v (x i)).2 0 <;> rw[h0]at h
  ·cases h
  simp only[o6]at h
  obtain⟨t,ht⟩:=a0c n _ _ _ _ h
  cases h1:aK (ilt 0 (i:Int)) (ilt (v (x i)).1 b) <;> rw[h1]at ht
  ·exact⟨t,ht⟩
  ·exact⟨(x i,b,(v (x i)).1)::t,by rw[ht];simp⟩
theorem TF {v:Int→Int×Int} {x:Nat→Int} :∀n i out b a,clF v x n i out b= .inl a→a.length≤out.length+n
 | 0,_,out,_,_,h=>by cases h;simp
 | n+1,i,out,b,a,h=>by
  unfold clF at h
  cases h0:ieq (v (x i)).2 0 <;> rw[h0]at h
  ·cases h
  simp only[o6]at h
  have ht:=TF n _ _ _ _ h
  cases h1:aK (ilt 0 (i:Int)) (ilt (v (x i)).1 b) <;> rw[h1]at ht
  ·simp only[o5]at ht;omega
  ·simp only[o6,List.length_append,List.length_cons,List.length_nil]at ht;omega
theorem TG {σ ε ρ:Type} {f:σ→Option (Out σ ε ρ)} {v:Int→Int×Int} {x:Nat→Int} (st:Nat→List V3→Int→σ) (ex:List V3→ε) (rt:Int→ρ) (m:Nat)
  (h1:∀i out b,i<m→out.length≤i→f (st i out b)=some (l7 (ieq (v (x i)).2 0) (.nx (st (i+1) (l7 (aK (ilt 0 (i:Int)) (ilt (v (x i)).1 b)) (out++[(x i,b,(v (x i)).1)]) out) (v (x i)).1)) (.rt (rt (v (x i)).2))))
  (h2:∀out b,out.length≤m→f (st m out b)=some (.ex (ex out))):
  ∀n i out b N,i+n=m→out.length≤i→n<N→dP f N (st i out b)=some (match clF v x n i out b with | .inl a=> .inl (ex a) | .inr e=> .inr (rt e))
 | _,_,_,_,0,_,_,h=>by omega
 | 0,i,out,b,N+1,hm,ho,_=>by
  unfold dP
  have:i=m:=by omega
  subst this
  rw[h2 out b ho];rfl
 | n+1,i,out,b,N+1,hm,ho,hN=>by
  unfold dP
  rw[h1 i out b (by omega) ho]
  unfold clF
  cases h0:ieq (v (x i)).2 0
  ·rfl
  simp only[o6]
  refine TG st ex rt m h1 h2 n (i+1) _ _ N (by omega) ?_ (by omega)
  cases aK (ilt 0 (i:Int)) (ilt (v (x i)).1 b)
  ·simp only[o5];omega
  ·simp only[o6,List.length_append,List.length_cons,List.length_nil];omega
theorem TJ {σ ε ρ:Type} {f:σ→Option (Out σ ε ρ)} {v:Int→Int×Int} {x:Nat→Int} {a:List V3} (st:Nat→Nat→Int→σ) (e:ε) (m:Nat)
  (h1:∀i t b,i<m→(v (x i)).2=0→(aK (ilt 0 (i:Int)) (ilt (v (x i)).1 b)=true→a[t]? =some (x i,b,(v (x i)).1))→t≤i→
   f (st i t b)=some (.nx (st (i+1) (l7 (aK (ilt 0 (i:Int)) (ilt (v (x i)).1 b)) (t+1) t) (v (x i)).1)))
  (h2:∀b,f (st m a.length b)=some (.ex e)):
  ∀n i out b N,i+n=m→out.length≤i→n<N→clF v x n i out b= .inl a→dP f N (st i out.length b)=some (.inl e)
 | _,_,_,_,0,_,_,h,_=>by omega
 | 0,i,out,b,N+1,hm,ho,_,hc=>by
  unfold dP
  have:i=m:=by omega
  subst this
  cases hc
  rw[h2 b]
 | n+1,i,out,b,N+1,hm,ho,hN,hc=>by
  unfold dP
  unfold clF at hc
  cases h0:ieq (v (x i)).2 0 <;> rw[h0]at hc
  ·cases hc
  simp only[o6]at hc
  rw[h1 i out.length b (by omega) (N8.1 h0) (fun hb=>by
   rw[hb]at hc
   simp only[o6]at hc
   obtain⟨t,ht⟩:=a0c _ _ _ _ _ hc
   rw[ht];simp) ho]
  cases hb:aK (ilt 0 (i:Int)) (ilt (v (x i)).1 b) <;> rw[hb]at hc
  ·exact TJ st e m h1 h2 n (i+1) out _ N (by omega) (by omega) (by omega) hc
  ·have:=TJ st e m h1 h2 n (i+1) (out++[(x i,b,(v (x i)).1)]) (v (x i)).1 N (by omega) (by simp;omega) (by omega) hc
   rw[List.length_append]at this
   exact this
def iL (lo hi step:Int):Int:=l7 (ile hi lo) 0 (Int.tdiv (hi -lo -1) step+1)
theorem a5w {lo hi step:Int} (hs:1≤step) (i:Nat):((i:Int)<iL lo hi step)↔lo+i*step<hi:=by
 unfold iL
 cases h:ile hi lo
 ·rw[tN]at h
  simp only[o5]
  rw[aC (by omega)]
  have:((i:Int)<(hi -lo -1) / step+1)↔(i:Int)≤(hi -lo -1) / step:=by omega
  rw[this,Int.le_ediv_iff_mul_le (by omega)]
  omega
 ·rw[fM]at h
  simp only[o6]
  have:0≤(i:Int)*step:=Int.mul_nonneg (by omega) (by omega)
  omega
structure Grid (lo hi step:Int):Prop where
 l1:-1000000000000001≤lo
 h1:hi≤1000000000000001
 l2:lo≤1000000000000001
 h2:-1000000000000001≤hi
 s1:1≤step
 s2:step≤1000000000000000
def gx (lo step:Int) (i:Nat):Int:=lo+i*step
theorem a8E (lo step:Int):gx lo step 0=lo:=by unfold gx;simp
theorem a8D (lo step:Int) (i:Nat):gx lo step i+step=gx lo step (i+1):=by
 unfold gx;rw[Int.natCast_add,Int.add_mul];simp;omega
theorem a0h {lo hi step:Int} (h:Grid lo hi step) (i:Nat):ilt (gx lo step i) hi=ilt (i:Int) (iL lo hi step):=by
 have:=a5w (lo:=lo) (hi:=hi) h.s1 i
 cases h1:ilt (i:Int) (iL lo hi step)
 ·rw[X6]at h1;apply E8;unfold gx;omega
 ·rw[Y4]at h1;apply F6;exact this.1 h1
theorem a4l {lo hi step:Int} (h:Grid lo hi step) (i:Nat):ilt lo (gx lo step i)=ilt 0 (i:Int):=by
 unfold gx
 cases i with
 | zero=>simp[ilt]
 | succ i=>
  have:1*step≤((i+1:Nat):Int)*step:=Int.mul_le_mul_of_nonneg_right (by omega) (by have:=h.s1;omega)
  rw[F6 (by have:=h.s1;omega),F6 (by omega)]
theorem a8C {lo hi step:Int} (h:Grid lo hi step) {i:Nat} (hi' :(i:Int)<iL lo hi step):x9 .i64 (gx lo step i) step=gx lo step (i+1):=by
 rw[←a8D]
 have h1:=(a5w (hi:=hi) h.s1 i).1 hi'
 have:0≤(i:Int)*step:=Int.mul_nonneg (by omega) (by have:=h.s1;omega)
 obtain⟨a,b,c,d,e,f⟩:=h
 refine J6 ?_
 unfold gx I64
 omega
theorem Yg {lo hi step:Int} (h:Grid lo hi step) {i:Nat} (hi' :i≤60):x9 .i64 lo (L9 .i64 (i:Int) step)=gx lo step i:=by
 have h1:0≤(i:Int)*step:=Int.mul_nonneg (by omega) (by have:=h.s1;omega)
 have h2:(i:Int)*step≤60*step:=Int.mul_le_mul_of_nonneg_right (by omega) (by have:=h.s1;omega)
 obtain⟨a,b,c,d,e,f⟩:=h
 rw[dL (by unfold I64;omega),J6 (by unfold I64;omega)];rfl
theorem Un {lo hi step:Int} (h:Grid lo hi step):0≤iL lo hi step:=by
 unfold iL
 cases h1:ile hi lo
 ·rw[tN]at h1
  simp only[o5]
  rw[aC (by omega)]
  have:0≤(hi -lo -1) / step:=Int.ediv_nonneg (by omega) (by have:=h.s1;omega)
  omega
 ·exact Int.le_refl 0
theorem JS {α:Type} (l:List α) (k:Int):(ilt k 0=true∧lat l k=none)∨(ilt k 0=false∧ile (o8 l) k=true∧lat l k=none)∨(ilt k 0=false∧ile (o8 l) k=false∧∃s,lat l k=some s∧s∈l):=by
 by_cases h:k<0
 ·exact .inl ⟨F6 h,iq (.inl (G8 h))⟩
 by_cases h2:o8 l≤k
 ·exact .inr (.inl ⟨E8 (by omega),G7 h2,iq (.inr (E8 h2))⟩)
 ·exact .inr (.inr ⟨E8 (by omega),G8 (by omega),cZ (by omega) (by omega)⟩)
theorem yg {l:L8} (hL:SmL l) (k d j:Int):kV l k d j=some (yE l k d j)∧lq l k d j=some (yE l k d j):=by
 unfold kV lq yE AB
 rw[MO hL,UA hL]
 simp only[o7]
 cases h0:ieq (dn l).1 0
 ·constructor <;> rfl
 rw[ZE (N8.1 h0)]
 simp only[o6,F8,x8,E5,o5,show aK true (aK true (aK true true))=true from rfl]
 rcases JS l.2.2 k with⟨h1,h2⟩ | ⟨h1,h2,h3⟩ | ⟨h1,h2,s,h3,_⟩
 ·rw[h1,h2];constructor <;> rfl
 ·rw[h1,h2,h3];constructor <;> rfl
 ·rw[h1,h2,h3]
  simp only[o5,o7,D5]
  rcases JS s.2.2.2.1 d with⟨g1,g2⟩ | ⟨g1,g2,g3⟩ | ⟨g1,g2,f,g3,_⟩
  ·rw[g1,g2];constructor <;> rfl
  ·rw[g1,g2,g3];constructor <;> rfl
  ·rw[g1,g2,g3]
   simp only[o5]
   rcases JS s.2.2.1 j with⟨i1,i2⟩ | ⟨i1,i2,i3⟩ | ⟨i1,i2,g,i3,_⟩
   ·rw[i1,i2];constructor <;> rfl
   ·rw[i1,i2,i3];constructor <;> rfl
   ·rw[i1,i2,i3]
    simp only[o5,o7,D5]
    cases aK (ieq f.2.1 3) (ieq f.2.2 0)
    ·constructor <;> rfl
    simp only[x8,o5,o6]
    cases aK (ieq g.2.1 3) (ieq g.2.2 0) <;> constructor <;> rfl
theorem zI {l:L8} {k:Int} {c:U0} {d j:Int} (hL:SmL l) (hC:SmC c) (hT:∀t∈l.2.1,jk t) (hk:yE l k d j=0) (n:Int):
  bC l k c d j n=some (vaS l k c d j n):=by
 obtain⟨r,h1,h2⟩:=a8M (c:=c) (n:=n) hL hC hT hk
 obtain⟨_,_,_,_,hj,_⟩:=AX hk
 have hi:=hC.ni
 unfold bC
 unfold BJ at h1
 cases hjl:ilt j (o8 c.2.1) <;> rw[hjl]at h1
 ·simp only[o5]at h1 ⊢
  rw[h1,o7,Np,h2]
 ·simp only[o6]at h1 ⊢
  obtain⟨x,hx,_⟩:=cZ hj (Y4.1 hjl)
  have hx2:J4 c.2.1 (toN j)=some x:=(iK hx).2.2.2
  rw[tX (by simp;omega),o7,List.nil_append,hx,o7,hx2,o7,h1,o7,Np,h2]
theorem zX {l:L8} {k:Int} {c:U0} {d j:Int} (hL:SmL l) (hC:SmC c) (hT:∀t∈l.2.1,jk t) (hk:yE l k d j=0) (n:Int):
  iJ l k c d j n=some (vaS l k c d j n):=by
 obtain⟨h0,r,h1,h2⟩:=a5L (c:=c) (n:=n) hL hC hT hk
 obtain⟨_,_,_,_,hj,_⟩:=AX hk
 have hi:=hC.ni
 rw[h2]
 unfold iJ
 unfold BJ at h0 h1 ⊢
 cases hjl:ilt j (o8 c.2.1) <;> rw[hjl]at h0 h1
 ·simp only[o5]at h0 h1 ⊢
  rw[h0,o7]
  cases ieq (rV l k c).2.2 0
  ·rfl
  simp only[x8,o5,o6]
  rw[h1,o7,Np]
 ·simp only[o6]at h0 h1 ⊢
  obtain⟨x,hx,_⟩:=cZ hj (Y4.1 hjl)
  have hx2:J4 c.2.1 (toN j)=some x:=(iK hx).2.2.2
  rw[tX (by simp;omega),o7,List.nil_append,hx,o7,hx2,o7,h0,o7]
  cases ieq (rV l k (c.1,P6 c.2.1 (toN j) (3,0,n),c.2.2)).2.2 0
  ·rfl
  simp only[x8,o5,o6]
  rw[h1,o7,Np]
def vAS (l:L8) (k:Int) (c:U0) (d j n:Int):Int×Int:=l7 (ieq (yE l k d j) 0) (vaS l k c d j n) (0,yE l k d j)
theorem GL {l:L8} {c:U0} (hL:SmL l) (hC:SmC c) (hT:∀t∈l.2.1,jk t) (k d j n:Int):
  fD l k c d j n=some (vAS l k c d j n)∧wE l k c d j n=some (vAS l k c d j n):=by
 unfold fD wE vAS
 rw[(yg hL k d j).1,(yg hL k d j).2]
 simp only[o7]
 cases hk:ieq (yE l k d j) 0
 ·constructor <;> rfl
 simp only[x8,o5,o6]
 rw[zI hL hC hT (N8.1 hk),zX hL hC hT (N8.1 hk)]
 constructor <;> rfl
theorem WW {l:L8} {c:U0} (hL:SmL l) (hC:SmC c) (hT:∀t∈l.2.1,jk t) (k d j n:Int):
  ∃r,qx l k c d j n=some r∧Df l k c d j n=some r:=by
 unfold qx Df
 rw[(yg hL k d j).1,(yg hL k d j).2]
 simp only[o7]
 cases hk:ieq (yE l k d j) 0
 ·exact⟨_,rfl,rfl⟩
 simp only[x8,o5]
 cases ilt n 1
 case true=>exact⟨_,rfl,rfl⟩
 cases ilt 1000000000000000 n
 case true=>exact⟨_,rfl,rfl⟩
 cases hl:ile (o8 c.2.1) j
 case true=>exact⟨_,rfl,rfl⟩
 obtain⟨_,_,_,_,hj,_⟩:=AX (N8.1 hk)
 obtain⟨x,hx,_⟩:=cZ hj (tN.1 hl)
 simp only[o5]
 rw[hx]
 simp only[o7]
 rw[zI hL hC hT (N8.1 hk),zX hL hC hT (N8.1 hk)]
 simp only[o7]
 cases ieq (vaS l k c d j x.2.2).2 0
 ·exact⟨_,rfl,rfl⟩
 simp only[x8,o5]
 rw[zI hL hC hT (N8.1 hk),zX hL hC hT (N8.1 hk)]
 simp only[o7]
 cases ieq (vaS l k c d j (x9 IntKind.i64 x.2.2 n)).2 0
 ·exact⟨_,rfl,rfl⟩
 simp only[x8,o5]
 rw[IC,Gy]
 exact⟨_,rfl,rfl⟩
theorem FC:Y6=some true:=by decide+kernel
theorem OW (n:Int):mg n=some (l7 (ilt n (-1000000000000001)) true (ilt 1000000000000001 n)):=by
 unfold mg;cases ilt n (-1000000000000001) <;> rfl
def fcS (l:L8) (k:Int) (c:U0) (d j lo hi step:Int):List V3×Int:=
 match clF (vaS l k c d j) (gx lo step) (iL lo hi step).toNat 0 [] 0 with | .inl a=>(a,0) | .inr e=>([],e)
theorem Ws {l:L8} {k:Int} {c:U0} {d j lo hi step:Int} (hL:SmL l) (hC:SmC c) (hT:∀t∈l.2.1,jk t) (hk:yE l k d j=0) (hG:Grid lo hi step) (hn:iL lo hi step≤60)
  {f:List V3×Int×Int→Option (Out (List V3×Int×Int) (List V3) (List V3×Int))}
  (hf:∀x:List V3×Int×Int,f x=l7 (ilt x.2.2 hi) (l9 (bC l k c d j x.2.2) fun(x_1:Int×Int)=>
   l7 (D6 (ieq x_1.2 0)) (some (Out.rt ([],x_1.2))) (l7 (ilt lo x.2.2) (l7 (ilt x_1.1 x.2.1) (l9 (X9 x.1 [(x.2.2,x.2.1,x_1.1)]) fun(x_2:List V3)=>
    some (Out.nx (x_2,x_1.1,x9 IntKind.i64 x.2.2 step))) (some (Out.nx (x.1,x_1.1,x9 IntKind.i64 x.2.2 step)))) (some (Out.nx (x.1,x_1.1,x9 IntKind.i64 x.2.2 step))))) (some (Out.ex x.1))):
  l9 (J7 f ([],0,lo)) (fun(o:List V3⊕List V3×Int)=>J9 o (fun(y:List V3)=>some (y,0)) fun(r:List V3×Int)=>some r)=some (fcS l k c d j lo hi step):=by
 have hp:=Un hG
 have hmi:(((iL lo hi step).toNat:Nat):Int)=iL lo hi step:=by omega
 have key:=TG (f:=f) (v:=vaS l k c d j) (x:=gx lo step) (fun i out b=>(out,b,gx lo step i)) (fun out=>out) (fun e=>(([]:List V3),e)) (iL lo hi step).toNat ?_ ?_ (iL lo hi step).toNat 0 [] 0 18446744073709551616 (by omega) (by simp) (by omega)
 ·rw[a8E]at key
  have key' :J7 f ([],0,lo)=_:=key
  rw[key']
  unfold fcS
  cases clF (vaS l k c d j) (gx lo step) (iL lo hi step).toNat 0 [] 0 <;> rfl
 ·intro i out b hi' ho
  rw[hf]
  simp only
  rw[a0h hG,F6 (by omega),o6,zI hL hC hT hk,o7]
  cases ieq (vaS l k c d j (gx lo step i)).2 0
  ·rfl
  simp only[x8,o5,o6]
  rw[a4l hG,a8C hG (by omega)]
  cases ilt 0 (i:Int)
  ·rfl
  simp only[o6]
  cases ilt (vaS l k c d j (gx lo step i)).1 b
  ·rfl
  rw[tX (by simp;omega)];rfl
 ·intro out b ho
  rw[hf]
  simp only
  rw[a0h hG,E8 (by omega)];rfl
theorem Ey {lo hi step:Int} (hl:hi≤lo):iL lo hi step=0:=by unfold iL;rw[G7 hl];rfl
theorem WO {lo hi step:Int} (h:Grid lo hi step) (hl:lo<hi):∃q,fH .i64 (G5 .i64 (G5 .i64 hi lo) 1) step=some q∧x9 .i64 q 1=iL lo hi step:=by
 obtain⟨a,b,c,d,e,f⟩:=h
 have h1:0≤(hi -lo -1) / step:=Int.ediv_nonneg (by omega) (by omega)
 have h2:(hi -lo -1) / step≤hi -lo -1:=Int.ediv_le_self _ (by omega)
 rw[I5 (a:=hi) (b:=lo) (by unfold I64;omega),I5 (by unfold I64;omega)]
 refine⟨_,kT (by omega) (by omega) (by omega),?_⟩
 rw[J6 (by unfold I64;omega)]
 unfold iL
 rw[G8 hl,aC (by omega)];rfl
def Be (l:L8) (k:Int) (c:U0) (d j lo hi step:Int):List V3×Int:=
 l7 (ieq (yE l k d j) 0) (l7 (ilt step 1) ([],3) (l7 (ilt 1000000000000000 step) ([],3) (l7 (l7 (ilt lo (-1000000000000001)) true (ilt 1000000000000001 lo)) ([],3)
  (l7 (l7 (ilt hi (-1000000000000001)) true (ilt 1000000000000001 hi)) ([],3) (l7 (ilt 4096 (iL lo hi step)) ([],4) (fcS l k c d j lo hi step)))))) ([],yE l k d j)
def b7T (lo hi step:Int):Prop:=Grid lo hi step→iL lo hi step≤60∨4096<iL lo hi step
theorem TT {lo hi step:Int} (h1:ilt step 1=false) (h2:ilt 1000000000000000 step=false) (h3:l7 (ilt lo (-1000000000000001)) true (ilt 1000000000000001 lo)=false) (h4:l7 (ilt hi (-1000000000000001)) true (ilt 1000000000000001 hi)=false):Grid lo hi step:=by
 rw[X6]at h1 h2
 cases a:ilt lo (-1000000000000001) <;> rw[a]at h3
 case true=>cases h3
 cases b:ilt hi (-1000000000000001) <;> rw[b]at h4
 case true=>cases h4
 have h3' :ilt 1000000000000001 lo=false:=h3
 have h4' :ilt 1000000000000001 hi=false:=h4
 rw[X6]at a b h3' h4'
 exact⟨a,h4',h3',b,h1,h2⟩
theorem Wq {l:L8} {k:Int} {c:U0} {d j lo hi step:Int} (hL:SmL l) (hC:SmC c) (hT:∀t∈l.2.1,jk t) (hF:b7T lo hi step):
  ed l k c d j (lo,hi) step=some (Be l k c d j lo hi step):=by
 unfold ed Be
 rw[(yg hL k d j).1,o7]
 cases hk:ieq (yE l k d j) 0
 ·rfl
 simp only[x8,o5,o6]
 cases h1:ilt step 1
 case true=>rfl
 cases h2:ilt 1000000000000000 step
 case true=>rfl
 simp only[o5]
 rw[OW,OW]
 simp only[o7]
 cases h3:l7 (ilt lo (-1000000000000001)) true (ilt 1000000000000001 lo)
 case true=>rfl
 cases h4:l7 (ilt hi (-1000000000000001)) true (ilt 1000000000000001 hi)
 case true=>rfl
 have hG:=TT h1 h2 h3 h4
 simp only[o5,o7,D5]
 cases hlh:ilt lo hi
 ·rw[X6]at hlh
  rw[E8 (by rw[Ey hlh];omega)]
  simp only[o5]
  exact Ws hL hC hT (N8.1 hk) hG (by rw[Ey hlh];omega) (fun x=>rfl)
 ·simp only[o6]
  obtain⟨q,hq,hq2⟩:=WO hG (Y4.1 hlh)
  rw[hq,o7,hq2]
  cases hm:ilt 4096 (iL lo hi step)
  case true=>rfl
  simp only[o5]
  rw[X6]at hm
  exact Ws hL hC hT (N8.1 hk) hG (by have:=hF hG;omega) (fun x=>rfl)
theorem SG {lo hi step:Int} (h:Grid lo hi step):uF (lo,hi) step=some (eX (iL lo hi step) 4097):=by
 unfold uF
 simp only
 cases hl:ile hi lo
 ·obtain⟨q,hq,hq2⟩:=WO h (tN.1 hl)
  simp only[o5]
  rw[hq,o7,hq2]
 ·rw[Ey (fM.1 hl)];rfl
theorem a4g (lo hi step:Int):∃b,Bo (lo,hi) step=some b∧(b=true→b7T lo hi step):=by
 unfold Bo
 simp only
 cases h1:ilt step 1
 case true=>exact⟨true,rfl,fun _ h=>absurd h.s1 (by rw[Y4]at h1;omega)⟩
 cases h2:ilt 1000000000000000 step
 case true=>exact⟨true,rfl,fun _ h=>absurd h.s2 (by rw[Y4]at h2;omega)⟩
 cases h3:ilt lo (-1000000000000001)
 case true=>exact⟨true,rfl,fun _ h=>absurd h.l1 (by rw[Y4]at h3;omega)⟩
 cases h4:ilt 1000000000000001 hi
 case true=>exact⟨true,rfl,fun _ h=>absurd h.h1 (by rw[Y4]at h4;omega)⟩
 cases h5:ile hi lo
 case true=>exact⟨true,rfl,fun _ h=> .inl (by rw[Ey (fM.1 h5)];omega)⟩
 rw[X6]at h1 h2 h3 h4;rw[tN]at h5
 have hG:Grid lo hi step:=⟨h3,h4,by omega,by omega,h1,h2⟩
 simp only[o5]
 rw[SG hG,o7]
 cases h6:ile (eX (iL lo hi step) 4097) 60
 ·refine⟨_,rfl,fun h _=> .inr ?_⟩
  have h' :ilt 4096 (eX (iL lo hi step) 4097)=true:=h
  rw[Y4]at h'
  unfold eX at h'
  split at h' <;> omega
 ·refine⟨_,rfl,fun _ _=> .inl ?_⟩
  rw[fM]at h6
  unfold eX at h6
  split at h6 <;> omega
theorem a5K {l:L8} {k:Int} {c:U0} {d j lo hi step n:Int} (hL:SmL l) (hC:SmC c) (hT:∀t∈l.2.1,jk t) (hk:yE l k d j=0) (hG:Grid lo hi step) (hn:iL lo hi step≤60) (hnn:n=iL lo hi step)
  {f:List V3×Int×Int→Option (Out (List V3×Int×Int) (List V3) (List V3×Int))}
  (hf:∀x_1:List V3×Int×Int,f x_1=l7 (ilt x_1.2.2 n) (l9 (iJ l k c d j (x9 IntKind.i64 lo (L9 IntKind.i64 x_1.2.2 step))) fun(x:Int×Int)=>
   l7 (D6 (ieq x.2 0)) (some (Out.rt ([],x.2))) (l7 (ilt 0 x_1.2.2) (l7 (ilt x.1 x_1.2.1) (l9 (X9 x_1.1 [(x9 IntKind.i64 lo (L9 IntKind.i64 x_1.2.2 step),x_1.2.1,x.1)]) fun(x_2:List V3)=>
    some (Out.nx (x_2,x.1,x9 IntKind.i64 x_1.2.2 1))) (some (Out.nx (x_1.1,x.1,x9 IntKind.i64 x_1.2.2 1)))) (some (Out.nx (x_1.1,x.1,x9 IntKind.i64 x_1.2.2 1))))) (some (Out.ex x_1.1))):
  l9 (J7 f ([],0,0)) (fun(o:List V3⊕List V3×Int)=>J9 o (fun(y:List V3)=>some (y,0)) fun(r:List V3×Int)=>some r)=some (fcS l k c d j lo hi step):=by
 subst hnn
 have hp:=Un hG
 have hmi:(((iL lo hi step).toNat:Nat):Int)=iL lo hi step:=by omega
 have key:=TG (f:=f) (v:=vaS l k c d j) (x:=gx lo step) (fun i out b=>(out,b,(i:Int))) (fun out=>out) (fun e=>(([]:List V3),e)) (iL lo hi step).toNat ?_ ?_ (iL lo hi step).toNat 0 [] 0 18446744073709551616 (by omega) (by simp) (by omega)
 ·have key' :J7 f ([],0,0)=_:=key
  rw[key']
  unfold fcS
  cases clF (vaS l k c d j) (gx lo step) (iL lo hi step).toNat 0 [] 0 <;> rfl
 ·intro i out b hi' ho
  rw[hf]
  simp only
  rw[F6 (by omega),o6,Yg hG (by omega),zX hL hC hT hk,o7]
  cases ieq (vaS l k c d j (gx lo step i)).2 0
  ·rfl
  simp only[x8,o5,o6]
  rw[show x9 IntKind.i64 (i:Int) 1=((i+1:Nat):Int)from by rw[J6 (by unfold I64;omega)];rfl]
  cases ilt 0 (i:Int)
  ·rfl
  simp only[o6]
  cases ilt (vaS l k c d j (gx lo step i)).1 b
  ·rfl
  rw[tX (by simp;omega)];rfl
 ·intro out b ho
  rw[hf]
  simp only
  rw[E8 (by omega)];rfl
theorem a5I {l:L8} {k:Int} {c:U0} {d j lo hi step:Int} (hL:SmL l) (hC:SmC c) (hT:∀t∈l.2.1,jk t) (hF:b7T lo hi step):
  pV l k c d j (lo,hi) step=some (Be l k c d j lo hi step):=by
 unfold pV Be
 rw[(yg hL k d j).2,o7]
 cases hk:ieq (yE l k d j) 0
 ·rfl
 simp only[x8,o5,o6]
 cases h1:ilt step 1
 case true=>rfl
 cases h2:ilt 1000000000000000 step
 case true=>rfl
 cases h3:ilt lo (-1000000000000001)
 case true=>rfl
 cases h3' :ilt 1000000000000001 lo
 case true=>rfl
 cases h4:ilt hi (-1000000000000001)
 case true=>rfl
 cases h4' :ilt 1000000000000001 hi
 case true=>rfl
 have hG:=TT h1 h2 (by rw[h3,h3'];rfl) (by rw[h4,h4'];rfl)
 simp only[o5,o7,D5]
 rw[SG hG,o7]
 cases hm:ilt 4096 (iL lo hi step)
 case true=>rw[F6 (by rw[Y4]at hm;unfold eX;split <;> omega)];rfl
 rw[X6]at hm
 have hi' :eX (iL lo hi step) 4097=iL lo hi step:=by unfold eX;rw[if_neg (by omega)]
 rw[hi',E8 (by omega)]
 simp only[o5]
 exact a5K hL hC hT (N8.1 hk) hG (by have:=hF hG;omega) rfl (fun x=>rfl)
theorem Vw {a:List V3} (h:a.length≤1000000):wQ a a=some true:=by
 unfold wQ
 rw[F8 rfl]
 refine c7c h (fun i x hx=>?_) ?_
 ·simp only[H6 hx,o6,E9,hx,o7,F8 (rfl:x.1=x.1),F8 (rfl:x.2.1=x.2.1),F8 (rfl:x.2.2=x.2.2)];rfl
 ·rw[H5];rfl
theorem a8B {l:L8} {k:Int} {c:U0} {d j lo hi step:Int} (h:iL lo hi step≤4096):(fcS l k c d j lo hi step).1.length≤1000000:=by
 unfold fcS
 cases hq:clF (vaS l k c d j) (gx lo step) (iL lo hi step).toNat 0 [] 0 with
 | inr e=>simp
 | inl a=>have:=TF _ _ _ _ _ hq;simp at this ⊢;omega
theorem a2i {l:L8} {k:Int} {c:U0} {d j lo hi step:Int} :(Be l k c d j lo hi step).1.length≤1000000:=by
 unfold Be
 cases ieq (yE l k d j) 0
 ·exact Nat.zero_le _
 cases ilt step 1
 case true=>exact Nat.zero_le _
 cases ilt 1000000000000000 step
 case true=>exact Nat.zero_le _
 cases l7 (ilt lo (-1000000000000001)) true (ilt 1000000000000001 lo)
 case true=>exact Nat.zero_le _
 cases l7 (ilt hi (-1000000000000001)) true (ilt 1000000000000001 hi)
 case true=>exact Nat.zero_le _
 cases h:ilt 4096 (iL lo hi step)
 case true=>exact Nat.zero_le _
 exact a8B (by rw[X6]at h;omega)
theorem XA {l:L8} (hW:WfL l) (c:U0) (q:bJ):mQ l c q=some true:=by
 unfold mQ
 rw[zZ,o7,xU,FC]
 cases hl:smL l
 ·rfl
 cases hc:smC c
 ·rfl
 obtain⟨hL,hT⟩:=UQ hl hW
 simp only[x8,o5,o7,D5]
 rw[(GL hL (Ia hc) hT _ _ _ _).1,(GL hL (Ia hc) hT _ _ _ _).2]
 simp only[o7,F8,o6]
theorem a5C {l:L8} (hW:WfL l) (c:U0) (q:bJ):rM l c q=some true:=by
 unfold rM
 rw[zZ,o7,xU,FC]
 cases hl:smL l
 ·rfl
 cases hc:smC c
 ·rfl
 obtain⟨hL,hT⟩:=UQ hl hW
 simp only[x8,o5,o7,D5]
 obtain⟨r,h1,h2⟩:=WW hL (Ia hc) hT q.1 q.2.1 q.2.2.1 q.2.2.2
 rw[h1,h2]
 simp only[o7,F8,o6]
theorem a4h {l:L8} (hW:WfL l) (c:U0) (q:bJ) (r:nI):jZ l c q r=some true:=by
 unfold jZ
 rw[zZ,o7,xU,FC]
 cases hl:smL l
 ·rfl
 cases hc:smC c
 ·rfl
 obtain⟨hL,hT⟩:=UQ hl hW
 simp only[x8,o5,o7]
 obtain⟨b,hb,hF⟩:=a4g r.1 r.2 q.2.2.2
 rw[hb,o7]
 cases b
 ·rfl
 simp only[x8,o5,o7,D5]
 rw[Wq hL (Ia hc) hT (hF rfl),a5I hL (Ia hc) hT (hF rfl)]
 simp only[o7]
 rw[Vw a2i]
 simp only[o7,F8,o6]
theorem a2h {l:L8} {k:Int} {c:U0} {d j lo hi step:Int} (h:(Be l k c d j lo hi step).2≠0):(Be l k c d j lo hi step).1=[]:=by
 revert h
 unfold Be
 cases ieq (yE l k d j) 0
 ·exact fun _=>rfl
 cases ilt step 1
 case true=>exact fun _=>rfl
 cases ilt 1000000000000000 step
 case true=>exact fun _=>rfl
 cases l7 (ilt lo (-1000000000000001)) true (ilt 1000000000000001 lo)
 case true=>exact fun _=>rfl
 cases l7 (ilt hi (-1000000000000001)) true (ilt 1000000000000001 hi)
 case true=>exact fun _=>rfl
 cases ilt 4096 (iL lo hi step)
 case true=>exact fun _=>rfl
 simp only[o6,o5]
 unfold fcS
 cases clF (vaS l k c d j) (gx lo step) (iL lo hi step).toNat 0 [] 0
 ·exact fun h=>absurd rfl h
 ·exact fun _=>rfl
theorem Yd {l:L8} {k:Int} {c:U0} {d j lo hi step:Int} (h:(Be l k c d j lo hi step).2=0):
  yE l k d j=0∧Grid lo hi step∧iL lo hi step≤4096∧∃a,clF (vaS l k c d j) (gx lo step) (iL lo hi step).toNat 0 [] 0= .inl a∧Be l k c d j lo hi step=(a,0):=by
 revert h
 unfold Be
 cases h0:ieq (yE l k d j) 0
 ·exact fun h=>absurd h (qh.1 h0)
 cases h1:ilt step 1
 case true=>exact fun h=>absurd (show(3:Int)=0 from h) (by decide)
 cases h2:ilt 1000000000000000 step
 case true=>exact fun h=>absurd (show(3:Int)=0 from h) (by decide)
 cases h3:l7 (ilt lo (-1000000000000001)) true (ilt 1000000000000001 lo)
 case true=>exact fun h=>absurd (show(3:Int)=0 from h) (by decide)
 cases h4:l7 (ilt hi (-1000000000000001)) true (ilt 1000000000000001 hi)
 case true=>exact fun h=>absurd (show(3:Int)=0 from h) (by decide)
 cases h5:ilt 4096 (iL lo hi step)
 case true=>exact fun h=>absurd (show(4:Int)=0 from h) (by decide)
 simp only[o6,o5]
 unfold fcS
 cases hq:clF (vaS l k c d j) (gx lo step) (iL lo hi step).toNat 0 [] 0 with
 | inl a=>exact fun _=>⟨N8.1 h0,TT h1 h2 h3 h4,by rw[X6]at h5;exact h5,a,rfl,rfl⟩
 | inr e=>exact fun h=>absurd h (a0b _ _ _ _ _ hq)
theorem XK {l:L8} (hW:WfL l) (c:U0) (q:bJ) (r:nI):nZ l c q r=some true:=by
 unfold nZ
 rw[zZ,o7,xU,FC]
 cases hl:smL l
 ·rfl
 cases hc:smC c
 ·rfl
 obtain⟨hL,hT⟩:=UQ hl hW
 simp only[x8,o5,o7]
 obtain⟨b,hb,hF⟩:=a4g r.1 r.2 q.2.2.2
 rw[hb,o7]
 cases b
 ·rfl
 simp only[x8,o5,o7,D5]
 rw[Wq hL (Ia hc) hT (hF rfl)]
 simp only[o7]
 cases he:ieq (Be l q.1 c q.2.1 q.2.2.1 r.1 r.2 q.2.2.2).2 0
 ·rw[a2h (qh.1 he)];rfl
 obtain⟨hk,hG,hm,a,ha,hf⟩:=Yd (N8.1 he)
 have hn:iL r.1 r.2 q.2.2.2≤60:=by have:=hF rfl hG;omega
 have hp:=Un hG
 have hal:=TF _ _ _ _ _ ha
 rw[hf]
 simp only[x8,o5]
 rw[E8 hG.s1,E8 hG.s2]
 simp only[o5,o7,D5]
 refine J5 (o' :=some (.inl (a.length:Int))) ?_ ?_
 ·show dP _ 18446744073709551616 (((0:Nat):Int),(0:Int),((0:Nat):Int))=some (.inl (a.length:Int))
  refine TJ (v:=vaS l q.1 c q.2.1 q.2.2.1) (x:=gx r.1 q.2.2.2) (a:=a) (fun i t b=>((t:Int),b,(i:Int))) (a.length:Int) (iL r.1 r.2 q.2.2.2).toNat ?_ ?_ (iL r.1 r.2 q.2.2.2).toNat 0 [] 0 18446744073709551616 (by omega) (by simp) (by omega) ha
  ·intro i t b hi' hv hat hti
   simp only
   rw[F6 (by omega),F6 (by
    cases h:ilt r.1 r.2
    ·rw[X6]at h;rw[Ey h]at hi';simp at hi'
    ·exact Y4.1 h),Yg hG (by omega),a0h hG,F6 (by omega)]
   simp only[o6]
   rw[(GL hL (Ia hc) hT _ _ _ _).1,o7]
   unfold vAS
   rw[F8 hk,o6,hv]
   simp only[F8,x8,o5]
   rw[show x9 IntKind.i64 (i:Int) 1=((i+1:Nat):Int)from by rw[J6 (by unfold I64;omega)];rfl]
   cases h0:ilt 0 (i:Int)
   ·rfl
   cases h1:ilt (vaS l q.1 c q.2.1 q.2.2.1 (gx r.1 q.2.2.2 i)).1 b
   ·rfl
   rw[h0,h1]at hat
   have hat' :=hat rfl
   have htl:=(O5.1 hat').1
   simp only[o6]
   rw[G8 (by unfold o8;omega)]
   simp only[o5,E9]
   rw[hat',o7,show J4 a (toN (t:Int))=a[t]? from rfl,hat',o7]
   simp only[F8]
   rw[show x9 IntKind.i64 (t:Int) 1=((t+1:Nat):Int)from by rw[J6 (by unfold I64;omega)];rfl]
   rfl
  ·intro b
   simp only
   cases h60:ilt (((iL r.1 r.2 q.2.2.2).toNat:Nat):Int) 60
   ·rfl
   cases hlh:ilt r.1 r.2
   ·rfl
   rw[Yg hG (by omega),a0h hG,E8 (by omega)];rfl
 ·simp only[o7,D5]
  rw[F8 (show((a.length:Nat):Int)=o8 a from rfl)];rfl
end Go.GP
namespace Go.GP
open Gt
theorem Eu:∀x,Fa Gt.ps3 x→(Gt.s3.fn x:Option Bool)=some true:=fun x h=>XA (a1J h.1) x.2.1 x.2.2
theorem Jf:∀x,Fa Gt.ps4 x→(Gt.s4.fn x:Option Bool)=some true:=fun x h=>a5C (a1J h.1) x.2.1 x.2.2
theorem BD:∀x,Fa Gt.ps5 x→(Gt.s5.fn x:Option Bool)=some true:=fun x h=>a4h (a1J h.1) x.2.1 x.2.2.1 x.2.2.2
theorem Gf:∀x,Fa Gt.ps6 x→(Gt.s6.fn x:Option Bool)=some true:=fun x h=>XK (a1J h.1) x.2.1 x.2.2.1 x.2.2.2
end Go.GP
