import Derived.Test.YtamfjfpncfkggaaGreatDoorT5
set_option linter.all false
namespace Go.GP
open Gt
set_option maxRecDepth 100000
structure Two (s t:x9) (nS nT:List Bool) (Q:Int→Prop):Prop where
 n:t.2.2.2.1.length=s.2.2.2.1.length
 vs:VR s
 vt:VR t
 os:Pj s (gp s).1∧∀d,0≤d→d<nD s→d∈(gp s).1
 ot:Pj t (gp t).1∧∀d,0≤d→d<nD t→d∈(gp t).1
 at' :∀d,ND nT d→(0≤d∧d<nD s)∧ND nS d∧SameR s t d∧(∀x∈G9 t d,ND nT x)∧Ph t (fun x=>x∈G9 t d) Q d∧Ph s (fun x=>x∈G9 s d) Q d
theorem c0R {s t:x9} {a b:U9} {m:Int} {nS nT:List Bool} {Q:Int→Prop} {X:DB} (hT:Two s t nS nT Q) (hE:SimE Q a b) (ha:EvOk a) (hb:EvOk b) (hX:scS s a m nS= .inl X):
  ∃Y,scS t b m nT= .inl Y∧∀x,ND nT x→lat Y.1 x=lat X.1 x:=by
 have hXl:=TJ hX
 have key:∀(suf pre:List Int) (B:DB),(gp t).1=pre++suf→B.1.length=s.2.2.2.1.length∧B.2.length=s.2.2.2.1.length→(∀x∈pre,ND nT x→lat B.1 x=lat X.1 x)→
   ∃Y,U1 (scG t b m nT) suf B= .inl Y∧∀x∈pre++suf,ND nT x→lat Y.1 x=lat X.1 x:=by
  intro suf
  induction suf with
  | nil=>
   intro pre B he hl hi
   exact⟨B,rfl,fun x hx=>hi x (by simpa using hx)⟩
  | cons d suf ih=>
   intro pre B he hl hi
   have hdr:=hT.ot.1.2.1 d (by rw[he];simp)
   have hnn:nD t=nD s:=by unfold nD o8;rw[hT.n]
   have step:∃B2,scG t b m nT B d= .inl B2∧(B2.1.length=s.2.2.2.1.length∧B2.2.length=s.2.2.2.1.length)∧∀x∈pre++[d],ND nT x→lat B2.1 x=lat X.1 x:=by
    unfold scG
    cases hn:(lat nT d).getD false
    ·refine⟨B,rfl,hl,fun x hx hxn=>?_⟩
     rcases List.mem_append.1 hx with hx | hx
     ·exact hi x hx hxn
     ·rw[List.mem_singleton.1 hx]at hxn
      unfold ND at hxn;rw[hn]at hxn;cases hxn
    ·obtain⟨_,k2,k3,k4,k5,k6⟩:=hT.at' d hn
     obtain⟨v,r,f1,f2,f3⟩:=b3Y ha hT.os.1 hX (hT.os.2 d hdr.1 (by omega)) k2 k6
     have hd:∃j,yC t (tN a X.1) m d= .inl (v,j):=by
      rcases a3o hT.vs hT.vt k3 (tN a X.1) m with⟨v',i,j,g1,g2⟩ | ⟨e,e',g1,g2⟩
      ·rw[f3]at g1;cases g1;exact⟨j,g2⟩
      ·rw[f3]at g1;cases g1
     obtain⟨j,hd⟩:=hd
     have hsim:=UD (s:=t) (hE.at (P:=fun x=>x∈G9 t d) (D:=X.1) (D' :=B.1) (by rw[hXl.1,hl.1]) (fun x hx=>(hi x (hT.ot.1.2.2 pre d suf he x hx) (k4 x hx)).symm)) (CE ha _) (CE hb _) k5 m
     rw[hd]at hsim
     simp only[o5]
     rw[←hsim]
     refine⟨_,rfl,⟨by simp[hl.1],by simp[hl.2]⟩,fun x hx hxn=>?_⟩
     show lat (B.1.set d.toNat v) x=_
     by_cases e:x=d
     ·subst e
      rw[Nh _ hdr.1 (by unfold o8;unfold nD o8 at hdr hnn;omega),f1]
     ·rw[yP _ hdr.1 e]
      rcases List.mem_append.1 hx with hx | hx
      ·exact hi x hx hxn
      ·exact absurd (List.mem_singleton.1 hx) e
   obtain⟨B2,h1,h2,h3⟩:=step
   obtain⟨Y,h4,h5⟩:=ih (pre++[d]) B2 (by rw[he];simp) h2 h3
   refine⟨Y,?_,fun x hx=>h5 x (by simpa using hx)⟩
   unfold U1;rw[h1];exact h4
 obtain⟨Y,h1,h2⟩:=key (gp t).1 [] (List.replicate t.2.2.2.1.length (0,0,0),List.replicate t.2.2.2.1.length 0) rfl ⟨by simp[hT.n],by simp[hT.n]⟩ (fun x hx=>by cases hx)
 refine⟨Y,h1,fun x hx=>h2 x ?_ hx⟩
 have hr:=(hT.at' x hx).1
 have hnn:nD t=nD s:=by unfold nD o8;rw[hT.n]
 exact hT.ot.2 x hr.1 (by omega)
theorem b7O {l l' :J3} {c:aQ} {ms mt:x9} {nM nN:List Bool} (htb:l'.2.1=l.2.1) (hTb:∀t∈l.2.1,kK t) (hT:Two ms mt nM nN (fun _=>False)):
  ∀(L:List (List V3×Nat)) (b b' X:List DB),(b.length=b'.length∧∀x,ND nN x→b.map (fun v=>lat v.1 x)=b'.map (fun v=>lat v.1 x))→U1 (mG l c ms nM) L b= .inl X→
   ∃Y,U1 (mG l' c mt nN) L b' = .inl Y∧X.length=Y.length∧∀x,ND nN x→X.map (fun v=>lat v.1 x)=Y.map (fun v=>lat v.1 x)
 | [],b,b',X,hb,h=>by cases h;exact⟨b',rfl,hb.1,hb.2⟩
 | a::L,b,b',X,hb,h=>by
  unfold U1 at h
  cases hg:mG l c ms nM b a with
  | inr e=>rw[hg]at h;cases h
  | inl b1=>
   rw[hg]at h
   simp only at h
   unfold mG at hg
   cases hs:scS ms (Nr l c a.1) (a.2:Int) nM with
   | inr e=>rw[hs]at hg;cases hg
   | inl x=>
    rw[hs]at hg
    cases hg
    have he:Nr l' c a.1=Nr l c a.1:=by unfold Nr;rw[htb]
    obtain⟨y,y1,y2⟩:=c0R hT (b:=Nr l c a.1) ⟨rfl,rfl,rfl,rfl,fun _ _=>rfl⟩ (SB hTb c a.1) (SB hTb c a.1) hs
    obtain⟨Y,h3,h4,h5⟩:=b7O htb hTb hT L (b++[x]) (b' ++[y]) X ⟨by simp[hb.1],fun z hz=>by rw[List.map_append,List.map_append,hb.2 z hz];exact congrArg (fun q=>_++[q]) (y2 z hz).symm⟩ h
    refine⟨Y,?_,h4,h5⟩
    unfold U1 mG
    rw[he,y1];exact h3
theorem c6A {l l' :J3} {s t:x9} {c:aQ} {nS nM nT nN:List Bool} {X:DB} {b:List DB} (hC:SmC c) (hTb:∀t∈l.2.1,kK t) (htb:l'.2.1=l.2.1) (hmd:(I8 l' t).2.2.2.1=(I8 l s).2.2.2.1)
  (hM:Two (I8 l s) (I8 l' t) nM nN (fun _=>False)) (hS:Two s t nS nT (fun x=>ND nN x)) (h:Am l s c nS nM= .inl (X,b)):
  ∃Y b',Am l' t c nT nN= .inl (Y,b')∧∀x,ND nT x→lat Y.1 x=lat X.1 x:=by
 have hcm:=hC.nm
 unfold Am at h ⊢
 cases hb:mS l c (I8 l s) nM with
 | inr e=>rw[hb]at h;cases h
 | inl b0=>
  rw[hb]at h
  simp only at h
  cases hx:scS s (wX l s c b0) (-1) nS with
  | inr e=>rw[hx]at h;cases h
  | inl X0=>
   rw[hx]at h
   cases h
   obtain⟨b',g1,g2,g3⟩:=b7O htb hTb hM c.2.2.zipIdx [] [] b ⟨rfl,fun _ _=>rfl⟩ hb
   have hbl:b.length=c.2.2.length:=a4c hb
   have hE:SimE (fun x=>ND nN x) (wX l s c b) (wX l' t c b'):=by
    refine⟨rfl,rfl,?_,by simp[wX,g2],fun x hx=>?_⟩
    ·show((I8 l s).2.2.2.1.map (·.2),l.2.1)=((I8 l' t).2.2.2.1.map (·.2),l'.2.1)
     rw[hmd,htb]
    ·have:=g3 x hx
     simp only[wX,List.map_map]
     exact this
   obtain⟨Y,y1,y2⟩:=c0R hS hE (Oe hTb s c (by omega)) (Oe (fun t ht=>hTb t (by rw[htb]at ht;exact ht)) t c (by omega)) hx
   refine⟨Y,b',?_,y2⟩
   rw[show mS l' c (I8 l' t) nN= .inl b' from g1]
   simp only
   rw[y1]
theorem QM {α:Type} {eq:α→α→Bool} (hE:∀a b,eq a b=true↔a=b) {l:List (α×Bool)} {k k' :α} (h:gG eq l k' false=true):gG eq (qc eq l k true) k' false=true:=by
 have:=(CV hE k true k' l).2 false
 show xU eq (zJ eq l k true) k' false=true
 rw[this]
 cases eq k' k
 ·exact h
 ·rfl
theorem VB {α:Type} {eq:α→α→Bool} (hE:∀a b,eq a b=true↔a=b) (l:List (α×Bool)) (k:α):gG eq (qc eq l k true) k false=true:=by
 have:=(CV hE k true k l).2 false
 show xU eq (zJ eq l k true) k false=true
 rw[this,(hE k k).2 rfl];rfl
theorem ZB (a b:Int):(fun(a b:Int)=>ieq a b) a b=true↔a=b:=I9
theorem ZC (a b:P8):eqN a b=true↔a=b:=a6i a b
theorem a5r:∀(D:List Int) (acc:List (Int×Bool)) (x:Int),(x∈D∨gG (fun(a b:Int)=>ieq a b) acc x false=true)→gG (fun(a b:Int)=>ieq a b) (D.foldl (fun(acc:List (Int×Bool)) d=>qc (fun(a b:Int)=>ieq a b) acc d true) acc) x false=true
 | [],acc,x,h=>by
  rcases h with h | h
  ·cases h
  ·exact h
 | d::D,acc,x,h=>by
  rw[List.foldl_cons]
  refine a5r D _ x ?_
  rcases h with h | h
  ·rcases List.mem_cons.1 h with rfl | h
   ·exact .inr (VB ZB acc x)
   ·exact .inl h
  ·exact .inr (QM ZB h)
theorem NL (sn:List UInt8) (p:J6→Bool):∀(rs:List J6) (acc:wo) (nm:P8),(gG eqN acc nm false=true∨∃r∈rs,p r=true∧nm=(sn,r.1))→
  gG eqN (rs.foldl (fun(acc:wo) r=>l7 (p r) (qc eqN acc (sn,r.1) true) acc) acc) nm false=true
 | [],acc,nm,h=>by
  rcases h with h | ⟨r,hr,_⟩
  ·exact h
  ·cases hr
 | r::rs,acc,nm,h=>by
  rw[List.foldl_cons]
  refine NL sn p rs _ nm ?_
  rcases h with h | ⟨q,hq,h1,h2⟩
  ·left
   cases p r
   ·exact h
   ·exact QM ZC h
  ·rcases List.mem_cons.1 hq with rfl | hq
   ·left
    rw[h1,o5,h2]
    exact VB ZC acc _
   ·exact .inr ⟨q,hq,h1,h2⟩
theorem LK {s:x9} (hS:SmS s) (L:wo) {D:List Int} (hD:D.length≤1000000):∃L',iy L s D=some L' ∧(∀nm,gG eqN L nm false=true→gG eqN L' nm false=true)∧∀r∈s.2.2.2.2,r.2.1∈D→gG eqN L' (s.1,r.1) false=true:=by
 have hn:=hS.nr
 refine⟨s.2.2.2.2.foldl (fun(acc:wo) r=>l7 (gG (fun(a b:Int)=>ieq a b) (D.foldl (fun(acc:List (Int×Bool)) d=>qc (fun(a b:Int)=>ieq a b) acc d true) []) r.2.1 false) (qc eqN acc (s.1,r.1) true) acc) L,?_,fun nm h=>NL s.1 (fun r=>gG (fun(a b:Int)=>ieq a b) (D.foldl (fun(acc:List (Int×Bool)) d=>qc (fun(a b:Int)=>ieq a b) acc d true) []) r.2.1 false) _ _ _ (.inl h),
  fun r hr hd=>NL s.1 (fun r=>gG (fun(a b:Int)=>ieq a b) (D.foldl (fun(acc:List (Int×Bool)) d=>qc (fun(a b:Int)=>ieq a b) acc d true) []) r.2.1 false) _ _ _ (.inr ⟨r,hr,a5r D [] _ (.inl hd),rfl⟩)⟩
 unfold iy
 refine aJ D (fun(acc:List (Int×Bool)) d=>qc (fun(a b:Int)=>ieq a b) acc d true) (fun b i=>(b,i)) (fun b=>b) (fun _ _=>True) [] hD trivial (fun i d acc hd hi _=>⟨?_,trivial⟩) (fun acc _=>?_) (fun _=>?_)
 ·simp only[H9 hd,o5,F6,hd,o7,X3 (show i≤9000000000000000000 by omega)]
 ·simp only[I4];rfl
 refine aJ s.2.2.2.2 (fun(acc:wo) r=>l7 (gG (fun(a b:Int)=>ieq a b) (D.foldl (fun(acc:List (Int×Bool)) d=>qc (fun(a b:Int)=>ieq a b) acc d true) []) r.2.1 false) (qc (fun(a b:P8)=>V8 (seq a.1 b.1) (seq a.2 b.2)) acc (s.1,r.1) true) acc) (fun b i=>(b,i)) (fun b=>b) (fun _ _=>True) L (by omega) trivial (fun i r acc hr hi _=>⟨?_,trivial⟩) (fun acc _=>?_) (fun _=>rfl)
 ·simp only[H9 hr,o5,F6,hr,o7,X3 (show i≤9000000000000000000 by omega)]
  cases gG (fun(a b:Int)=>ieq a b) (D.foldl (fun(acc:List (Int×Bool)) d=>qc (fun(a b:Int)=>ieq a b) acc d true) []) r.2.1 false <;> rfl
 ·simp only[I4];rfl
def NdS (s:x9) (d x:Int):Prop:=x=d∨x∈N8 s d
def NdM (s m:x9) (d x:Int):Prop:=∃z∈mbS s d,x=z∨x∈N8 m z
theorem JH {l:J3} (hL:SmL l) (hv:(P5 l).1=0) {k:Int} {s:x9} (hs:lat l.2.2 k=some s) {d:Int} (h0:0≤d) (h1:d<nD s) {L:wo} (hL' :Y7 l k d=some L):
  (∀r∈s.2.2.2.2,NdS s d r.2.1→gG eqN L (s.1,r.1) false=true)∧∀r∈(I8 l s).2.2.2.2,NdM s (I8 l s) d r.2.1→gG eqN L ((I8 l s).1,r.1) false=true:=by
 have hk:=Z7 hs
 have hS:=hL.sc s hk.2.2.1
 have ht:=oq hS d
 obtain⟨L1,hL1,a1,a2⟩:=LK hS [] (D:=N8 s d++[d]) (by rw[List.length_append];simp;omega)
 have own:∀r∈s.2.2.2.2,NdS s d r.2.1→gG eqN L1 (s.1,r.1) false=true:=fun r hr hn=>a2 r hr (by
  rcases hn with hn | hn
  ·rw[hn];simp
  ·exact List.mem_append_left _ hn)
 unfold Y7 at hL'
 rw[hs,o7,jF hS h0 h1,o7,DC (by simp;omega),o7,hL1,o7]at hL'
 rcases nz hv hs with⟨g1,g2,g3⟩ | ⟨g1,g2,g3,g4,g5⟩
 ·rw[g2]at hL'
  have hL' :some L1=some L:=hL'
  cases hL'
  refine⟨own,fun r hr=>?_⟩
  rw[g3]at hr;cases hr
 ·rw[g2,g3]at hL'
  simp only[l9,o7,D7]at hL'
  have hM:=hL.sc _ g5
  have hml:=SC hS d
  rw[g4,o7,xE hS h0 h1,o7]at hL'
  have hfl:(mbS s d).foldl (fun(acc:List Int) x=>acc++[x]++N8 (I8 l s) x) []=(mbS s d).flatMap fun x=>[x]++N8 (I8 l s) x:=by
   rw[show(fun(acc:List Int) x=>acc++[x]++N8 (I8 l s) x)=(fun(acc:List Int) x=>acc++([x]++N8 (I8 l s) x)) by funext acc x;rw[List.append_assoc]]
   rw[rW,List.nil_append]
  obtain⟨L2,hL2,b1,b2⟩:=LK hM L1 (D:=(mbS s d).foldl (fun(acc:List Int) x=>acc++[x]++N8 (I8 l s) x) []) (by
   rw[hfl]
   have:=mJ (fun x=>[x]++N8 (I8 l s) x) 15 (l:=mbS s d) (fun x _=>by have:=oq hM x;rw[List.length_append];simp;omega)
   omega)
  have hend:∀r:Option wo,r=some L→r=some L2→L=L2:=fun r h1 h2=>by rw[h1]at h2;exact Option.some.inj h2
  have e:L=L2:=by
   refine hend _ hL' ?_
   refine aJ (mbS s d) (fun(acc:List Int) x=>acc++[x]++N8 (I8 l s) x) (fun b i=>(b,i)) (fun b=>b) (fun i acc=>acc.length≤15*i) [] (by omega) (by simp) (fun i x acc hx hi hI=>?_) (fun acc _=>?_) (fun _=>?_)
   ·have hlt:=(J7.1 hx).1
    have hin:=Em hv hk.2.2.2 d x (dG hx)
    have htm:=oq hM x
    have hg:L8 (mbS s d) (toN (i:Int))=some x:=by unfold L8 toN;simpa using hx
    refine⟨?_,by simp only[List.length_append,List.length_singleton];omega⟩
    simp only[H9 hx,o5,F6,hx,o7,hg]
    rw[DC (by simp;omega),o7,jF hM hin.1 hin.2,o7,DC (by simp;omega),o7,X3 (show i≤9000000000000000000 by omega)]
   ·simp only[I4];rfl
   ·rw[hL2];rfl
  subst e
  refine⟨fun r hr hn=>b1 _ (own r hr hn),fun r hr hn=>b2 r hr ?_⟩
  rw[hfl,List.mem_flatMap]
  obtain⟨z,hz,hn⟩:=hn
  refine⟨z,hz,?_⟩
  rcases hn with hn | hn
  ·rw[hn];simp
  ·exact List.mem_append_right _ hn
theorem WT {l:J3} (h:(P5 l).1=0) {s:x9} (hs:s∈l.2.2):VR s:=by
 obtain⟨i,hi,rfl⟩:=List.getElem_of_mem hs
 exact⟨_,fun j r hr=>b4p (EI h (Y6 hi) hr)⟩
theorem OG {l:J3} (h:(P5 l).1=0) {s t:x9} (hs:s∈l.2.2) (ht:t∈l.2.2) (e:s.1=t.1):s=t:=by
 obtain⟨i,h1⟩:=BG h hs
 obtain⟨j,h2⟩:=BG h ht
 rw[e,h2]at h1
 cases h1;rfl
theorem Ua {l:J3} (h:(P5 l).1=0) {i:Nat} {s:x9} (hs:l.2.2[i]? =some s) {j:Nat} {f:Y9} (hf:s.2.2.2.1[j]? =some f):∀g∈s.2.2.2.1.take j,g.1≠f.1:=by
 have hp:=(Dk h hs).2
 unfold Iz at hp
 cases h1:wO l s with
 | some q=>rw[h1]at hp;exact absurd hp (Au h1)
 | none=>
  unfold wO at h1
  cases h2:P7 s.2.2.1.length (inP l s)with
  | some q=>rw[h2]at h1;cases h1
  | none=>
   rw[h2]at h1
   have hn:=kP h1 j (J7.1 hf).1
   unfold a1r at hn
   rw[hf]at hn
   simp only at hn
   unfold Pv at hn
   cases he:ieq (Ar l.1 f s.2.2.1 (s.2.2.2.1.take j)) 0 <;> rw[he]at hn
   ·cases hn
   have he:=I9.1 he
   unfold Ar at he
   cases g1:vg f.1 <;> rw[g1]at he
   ·exact absurd (show(2:Int)=0 from he) (by decide)
   cases g2:s.2.2.1.any fun x=>seq x.1 f.1 <;> rw[g2]at he
   case true=>exact absurd (show(7:Int)=0 from he) (by decide)
   cases g3:(s.2.2.2.1.take j).any fun x=>seq x.1 f.1 <;> rw[g3]at he
   case true=>exact absurd (show(7:Int)=0 from he) (by decide)
   intro g hg e
   have:=List.any_eq_false.1 g3 g hg
   exact this (bg.2 e)
theorem a7R {l:J3} (h:(P5 l).1=0) {s:x9} (hs:s∈l.2.2) {i j:Int} {f g:Y9} (hf:lat s.2.2.2.1 i=some f) (hg:lat s.2.2.2.1 j=some g) (e:f.1=g.1):i=j:=by
 obtain⟨k,hk,rfl⟩:=List.getElem_of_mem hs
 have hs' :=Y6 hk
 obtain⟨i0,i1,_,i2⟩:=Z7 hf
 obtain⟨j0,j1,_,j2⟩:=Z7 hg
 have key:∀(a b:Nat) (x y:Y9),(l.2.2[k]).2.2.2.1[a]? =some x→(l.2.2[k]).2.2.2.1[b]? =some y→x.1=y.1→¬a<b:=fun a b x y hx hy he hlt=>
  Ua h hs' hy x (List.mem_take_iff_getElem.2 ⟨a,by have:=(J7.1 hx).1;have:=(J7.1 hy).1;omega,(J7.1 hx).2⟩) he
 have h1:=key i.toNat j.toNat f g i2 j2 e
 have h2:=key j.toNat i.toNat g f j2 i2 e.symm
 omega
theorem a8a {s:List UInt8} (h:vg s=true):s≠[]:=fun e=>by rw[e]at h;cases h
theorem Tc {s:x9} (h:VR s) {i:Nat} {r:J6} (hr:s.2.2.2.2[i]? =some r):(r.2.2.1=-1∧Yb s r.2.2.1=[])∨∃(p:Nat) (q:J6),r.2.2.1=(p:Int)∧s.2.2.2.2[p]? =some q∧Yb s r.2.2.1=q.1∧q.1≠[]:=by
 have e:uj s i=r.2.2.1:=by unfold uj;rw[hr]
 rw[←e]
 rcases h.par hr with g | ⟨p,q,g1,g2,g3,g4⟩
 ·left
  rw[g]
  exact⟨rfl,rfl⟩
 ·right
  obtain⟨sg,h⟩:=h
  refine⟨p,q,g1,g3,?_,a8a (h p q g3).id⟩
  rw[g1]
  unfold Yb
  rw[F6,g3]
theorem a3v {a b:J3} (hA:(P5 a).1=0) (hB:(P5 b).1=0) {s t:x9} (hs:s∈a.2.2) (ht:t∈b.2.2) (hi:iw s=iw t) {i j:Nat} {r q:J6} (hr:s.2.2.2.2[i]? =some r) (hq:t.2.2.2.2[j]? =some q) (hsr:srS s r t q=true) (hn:r.1=q.1):EqR s t r q:=by
 have vs:=WT hA hs
 have vt:=WT hB ht
 have hd:s.2.2.2.1=t.2.2.2.1:=congrArg (fun x:List UInt8×Int×List Y9×List Y9=>x.2.2.2) hi
 unfold srS at hsr
 have e:=nI.1 hsr
 unfold trS prS at e
 have e1:RQ s r.2.1=RQ t q.2.1:=congrArg (fun x:P9×List I7×List I7=>x.1.1) e
 have e2:Yb s r.2.2.1=Yb t q.2.2.1:=congrArg (fun x:P9×List I7×List I7=>x.1.2.1) e
 have e3:r.2.2.2.1=q.2.2.2.1:=congrArg (fun x:P9×List I7×List I7=>x.1.2.2.1) e
 have e4:r.2.2.2.2.1=q.2.2.2.2.1:=congrArg (fun x:P9×List I7×List I7=>x.1.2.2.2.1) e
 have e5:r.2.2.2.2.2.2.2=q.2.2.2.2.2.2.2:=congrArg (fun x:P9×List I7×List I7=>x.1.2.2.2.2) e
 have e6:r.2.2.2.2.2.1=q.2.2.2.2.2.1:=congrArg (fun x:P9×List I7×List I7=>x.2.1) e
 have e7:r.2.2.2.2.2.2.1=q.2.2.2.2.2.2.1:=congrArg (fun x:P9×List I7×List I7=>x.2.2) e
 refine⟨hn,?_,Prod.ext e3 (Prod.ext e4 (Prod.ext e6 (Prod.ext e7 e5))),?_⟩
 ·obtain⟨sg,v1⟩:=id vs
  obtain⟨sg',v2⟩:=id vt
  obtain⟨f,f1,_⟩:=(v1 i r hr).df
  obtain⟨g,g1,_⟩:=(v2 j q hq).df
  rw[←hd]at g1
  have hfn:f.1=g.1:=by
   have a1:RQ s r.2.1=f.1:=by unfold RQ;rw[f1]
   have a2:RQ t q.2.1=g.1:=by unfold RQ;rw[←hd,g1]
   rw[←a1,←a2];exact e1
  exact a7R hA hs f1 g1 hfn
 ·rcases Tc vs hr with⟨p1,p2⟩ | ⟨p,rp,p1,p2,p3,p4⟩
  ·rcases Tc vt hq with⟨k1,k2⟩ | ⟨k,rk,k1,k2,k3,k4⟩
   ·exact .inl ⟨p1,k1⟩
   ·rw[p2,k3]at e2;exact absurd e2.symm k4
  ·rcases Tc vt hq with⟨k1,k2⟩ | ⟨k,rk,k1,k2,k3,k4⟩
   ·rw[p3,k2]at e2;exact absurd e2 p4
   ·exact .inr ⟨p,k,rp,rk,p1,k1,p2,k2,by rw[←p3,←k3];exact e2⟩
section
variable {a b:J3} (hA:(P5 a).1=0) (hB:(P5 b).1=0) {LA LB:wo} (hno:∀x∈yB a b,rvS LA LB x=false)
include hA hB hno
theorem Wx {s t:x9} (hs:s∈a.2.2) (ht:t∈b.2.2) (hi:iw s=iw t) {i:Nat} {r:J6} (hr:s.2.2.2.2[i]? =some r) (hL:gG eqN LA (s.1,r.1) false=true):∃(j:Nat) (q:J6),t.2.2.2.2[j]? =some q∧EqR s t r q:=by
 have hnm:s.1=t.1:=congrArg (fun x:List UInt8×Int×List Y9×List Y9=>x.1) hi
 have hown:=Ky hA hs (dG hr)
 cases hb:cpR b s.1 r.1 with
 | none=>
  have hx:((s.1,r.1,1):V5)∈yB a b:=(SG hA hB).2 (.inl ⟨s,r,hown,.inl ⟨hb,rfl⟩⟩)
  have:=hno _ hx
  have e:rvS LA LB ((s.1,r.1,1):V5)=l7 (gG eqN LA (s.1,r.1) false) true false:=rfl
  rw[e,hL]at this
  cases this
 | some y=>
  obtain⟨t',q⟩:=y
  obtain⟨m1,m2,m3,m4⟩:=Kw hb
  have et:t' =t:=OG hB m1 ht (m3.trans hnm)
  subst et
  obtain⟨j,hj,hje⟩:=List.getElem_of_mem m2
  have hq:t'.2.2.2.2[j]? =some q:=by rw[Y6 hj,hje]
  refine⟨j,q,hq,?_⟩
  cases hsr:srS s r t' q
  ·have hx:((s.1,r.1,3):V5)∈yB a b:=(SG hA hB).2 (.inl ⟨s,r,hown,.inr ⟨t',q,hb,hsr,rfl⟩⟩)
   have:=hno _ hx
   have e:rvS LA LB ((s.1,r.1,3):V5)=l7 (gG eqN LA (s.1,r.1) false) true (gG eqN LB (s.1,r.1) false):=rfl
   rw[e,hL]at this
   cases this
  ·exact a3v hA hB hs ht hi hr hq hsr m4.symm
theorem Wv {s t:x9} (hs:s∈a.2.2) (ht:t∈b.2.2) (hi:iw s=iw t) {j:Nat} {q:J6} (hq:t.2.2.2.2[j]? =some q) (hL:gG eqN LB (t.1,q.1) false=true):∃(i:Nat) (r:J6),s.2.2.2.2[i]? =some r∧EqR s t r q:=by
 have hnm:s.1=t.1:=congrArg (fun x:List UInt8×Int×List Y9×List Y9=>x.1) hi
 have hown:=Ky hB ht (dG hq)
 cases hb:cpR a t.1 q.1 with
 | none=>
  have hx:((t.1,q.1,2):V5)∈yB a b:=(SG hA hB).2 (.inr ⟨t,q,hown,hb,rfl⟩)
  have:=hno _ hx
  have e:rvS LA LB ((t.1,q.1,2):V5)=gG eqN LB (t.1,q.1) false:=rfl
  rw[e,hL]at this
  cases this
 | some y=>
  obtain⟨s',r⟩:=y
  obtain⟨m1,m2,m3,m4⟩:=Kw hb
  have et:s' =s:=OG hA m1 hs (m3.trans hnm.symm)
  subst et
  obtain⟨i,hi',hie⟩:=List.getElem_of_mem m2
  have hr:s'.2.2.2.2[i]? =some r:=by rw[Y6 hi',hie]
  refine⟨i,r,hr,?_⟩
  cases hsr:srS s' r t q
  ·have hx:((t.1,q.1,3):V5)∈yB a b:=(SG hA hB).2 (.inl ⟨s',r,hb,.inr ⟨t,q,hown,hsr,rfl⟩⟩)
   have:=hno _ hx
   have e:rvS LA LB ((t.1,q.1,3):V5)=l7 (gG eqN LA (t.1,q.1) false) true (gG eqN LB (t.1,q.1) false):=rfl
   rw[e,hL]at this
   cases hh:gG eqN LA (t.1,q.1) false <;> rw[hh]at this <;> cases this
  ·exact a3v hA hB hs ht hi hr hq hsr m4
end
def Fwd (s t:x9) (x:Int):Prop:=∀(i:Nat) (r:J6),s.2.2.2.2[i]? =some r→r.2.1=x→∃(j:Nat) (q:J6),t.2.2.2.2[j]? =some q∧EqR s t r q
def Bwd (s t:x9) (x:Int):Prop:=∀(j:Nat) (q:J6),t.2.2.2.2[j]? =some q→q.2.1=x→∃(i:Nat) (r:J6),s.2.2.2.2[i]? =some r∧EqR s t r q
theorem LY {s t:x9} (hn:nD s=nD t) {x:Int} (h:Fwd s t x):∀y∈G9 s x,y∈G9 t x:=by
 intro y hy
 unfold G9 at hy ⊢
 rw[←hn]
 cases hq:inD (nD s) x <;> rw[hq]at hy
 ·cases hy
 ·obtain⟨r,hr,h1,h2⟩:=Il.1 ((jd _ _).1 hy)
  obtain⟨i,hi,rfl⟩:=List.getElem_of_mem hr
  obtain⟨j,q,g1,g2⟩:=h i _ (Y6 hi) h1
  refine(jd _ _).2 (Il.2 ⟨q,dG g1,g2.df.symm.trans h1,?_⟩)
  unfold wY at h2 ⊢
  rw[←g2.rest];exact h2
theorem LX {s t:x9} (hn:nD s=nD t) {x:Int} (h:Bwd s t x):∀y∈G9 t x,y∈G9 s x:=by
 intro y hy
 unfold G9 at hy ⊢
 rw[hn]
 cases hq:inD (nD t) x <;> rw[hq]at hy
 ·cases hy
 ·obtain⟨q,hr,h1,h2⟩:=Il.1 ((jd _ _).1 hy)
  obtain⟨j,hj,rfl⟩:=List.getElem_of_mem hr
  obtain⟨i,r,g1,g2⟩:=h j _ (Y6 hj) h1
  refine(jd _ _).2 (Il.2 ⟨r,dG g1,g2.df.trans h1,?_⟩)
  unfold wY at h2 ⊢
  rw[g2.rest];exact h2
theorem Jb {s t:x9} (hn:nD s=nD t) {d:Int} (h:∀x,NdS s d x→Fwd s t x):∀x∈N8 s d,x∈N8 t d:=by
 obtain⟨_,a2,a3,a4⟩:=gY s d
 obtain⟨_,b2,b3,_⟩:=gY t d
 intro x hx
 exact(a4 (fun z=>z∈N8 s d∧z∈N8 t d) (fun y hy=>⟨a2 y hy,b2 y (LY hn (h d (.inl rfl)) y hy)⟩)
  (fun y hy z hz=>⟨a3 y hy.1 z hz,b3 y hy.2 z (LY hn (h y (.inr hy.1)) z hz)⟩) x hx).2
theorem Ja {s t:x9} (hn:nD s=nD t) {d:Int} (h:∀x,NdS t d x→Bwd s t x):∀x∈N8 t d,x∈N8 s d:=by
 obtain⟨_,a2,a3,a4⟩:=gY t d
 obtain⟨_,b2,b3,_⟩:=gY s d
 intro x hx
 exact(a4 (fun z=>z∈N8 t d∧z∈N8 s d) (fun y hy=>⟨a2 y hy,b2 y (LX hn (h d (.inl rfl)) y hy)⟩)
  (fun y hy z hz=>⟨a3 y hy.1 z hz,b3 y hy.2 z (LX hn (h y (.inr hy.1)) z hz)⟩) x hx).2
theorem CU {s:x9} {d x:Int} :x∈mbS s d↔inD (nD s) d=true∧∃r∈s.2.2.2.2,NdS s d r.2.1∧x∈vG r:=by
 unfold mbS
 cases hq:inD (nD s) d
 ·simp
 ·rw[o5,jd,ZU]
  constructor
  ·rintro⟨r,hr,h1,h2⟩
   exact⟨rfl,r,hr,(yS _ _ _).1 (kZ.1 h1),h2⟩
  ·rintro⟨_,r,hr,h1,h2⟩
   exact⟨r,hr,kZ.2 ((yS _ _ _).2 h1),h2⟩
theorem b4d {s t:x9} (hn:nD s=nD t) {d:Int} (h:∀x,NdS s d x→Fwd s t x):∀x∈mbS s d,x∈mbS t d:=by
 intro x hx
 obtain⟨h0,r,hr,h1,h2⟩:=CU.1 hx
 obtain⟨i,hi,rfl⟩:=List.getElem_of_mem hr
 obtain⟨j,q,g1,g2⟩:=h _ h1 i _ (Y6 hi) rfl
 refine CU.2 ⟨by rw[←hn];exact h0,q,dG g1,?_,?_⟩
 ·rw[←g2.df]
  rcases h1 with h1 | h1
  ·exact .inl h1
  ·exact .inr (Jb hn h _ h1)
 ·unfold vG at h2 ⊢
  rw[←g2.rest];exact h2
theorem b4c {s t:x9} (hn:nD s=nD t) {d:Int} (h:∀x,NdS t d x→Bwd s t x):∀x∈mbS t d,x∈mbS s d:=by
 intro x hx
 obtain⟨h0,q,hr,h1,h2⟩:=CU.1 hx
 obtain⟨j,hj,rfl⟩:=List.getElem_of_mem hr
 obtain⟨i,r,g1,g2⟩:=h _ h1 j _ (Y6 hj) rfl
 refine CU.2 ⟨by rw[hn];exact h0,r,dG g1,?_,?_⟩
 ·rw[g2.df]
  rcases h1 with h1 | h1
  ·exact .inl h1
  ·exact .inr (Ja hn h _ h1)
 ·unfold vG at h2 ⊢
  rw[g2.rest];exact h2
end Go.GP
namespace Go.GP
open Gt
set_option maxRecDepth 100000
theorem KD {a b:J3} (h:a.2.2.map iw=b.2.2.map iw) (i:Int):(lat a.2.2 i).map iw=(lat b.2.2 i).map iw:=by
 rw[←Vh,←Vh,h]
theorem a3R {a b:J3} (h:a.2.2.map iw=b.2.2.map iw) {i:Int} {s:x9} (hs:lat a.2.2 i=some s):∃t,lat b.2.2 i=some t∧iw s=iw t:=by
 have e:=KD h i
 rw[hs]at e
 cases ht:lat b.2.2 i with
 | none=>rw[ht]at e;cases e
 | some t=>rw[ht]at e;exact⟨t,rfl,Option.some.inj e⟩
theorem uz {s t:x9} (h:iw s=iw t):s.1=t.1∧s.2.1=t.2.1∧s.2.2.1=t.2.2.1∧s.2.2.2.1=t.2.2.2.1:=by
 unfold iw at h
 simp only[Prod.mk.injEq]at h
 exact h
theorem a1M {a b:J3} (h:a.2.2.map iw=b.2.2.map iw) {s t:x9} (hi:iw s=iw t):iw (I8 a s)=iw (I8 b t):=by
 obtain⟨_,e,_,_⟩:=uz hi
 unfold I8
 rw[e]
 cases ile 0 t.2.1
 ·rfl
 ·rw[o5,o5]
  have e2:=KD h t.2.1
  cases h1:lat a.2.2 t.2.1 with
  | none=>
   rw[h1]at e2
   cases h2:lat b.2.2 t.2.1 with
   | none=>rfl
   | some y=>rw[h2]at e2;cases e2
  | some x=>
   rw[h1]at e2
   cases h2:lat b.2.2 t.2.1 with
   | none=>rw[h2]at e2;cases e2
   | some y=>rw[h2]at e2;exact Option.some.inj e2
theorem AY {l:J3} (h:(P5 l).1=0) {k:Int} {s:x9} (hs:lat l.2.2 k=some s):I8 l s=nZ∨I8 l s∈l.2.2:=by
 rcases nz h hs with⟨_,_,g⟩ | ⟨_,_,_,_,g⟩
 ·exact .inl g
 ·exact .inr g
theorem Vt {l:J3} (h:(P5 l).1=0) {k:Int} {s:x9} (hs:lat l.2.2 k=some s):VR (I8 l s):=by
 rcases AY h hs with g | g
 ·rw[g];exact⟨Dp l s,fun j r hr=>by cases hr⟩
 ·exact WT h g
theorem a7W {l:J3} {s:x9} {c:aQ} {nS nM:List Bool} {e:E4} (h:Am l s c nS nM= .inr e):e.1≠0:=by
 unfold Am at h
 cases hb:mS l c (I8 l s) nM with
 | inr x=>
  rw[hb]at h
  cases h
  exact nO (mG l c (I8 l s) nM) (fun r=>r.1≠0) a4b _ _ _ hb
 | inl b=>
  rw[hb]at h
  simp only at h
  cases hx:scS s (wX l s c b) (-1) nS with
  | inl X=>rw[hx]at h;cases h
  | inr r=>rw[hx]at h;cases h;exact Gw hx
abbrev a8k (s:x9) (d:Int):List Bool:=zf s (jW s.2.2.2.1.length) d
abbrev a4j (s m:x9) (d:Int):List Bool:=uh m (jW m.2.2.2.1.length) (mbS s d)
theorem a8l {s:x9} {d:Int} (h0:0≤d) (h1:d<nD s) (x:Int):ND (a8k s d) x↔NdS s d x:=by
 rw[a9s,a4h (rV _) h0 h1]
 unfold NdS
 constructor
 ·rintro(h | h | h)
  ·unfold jW at h;rw[Io]at h;cases h
  ·exact .inl h
  ·exact .inr h
 ·rintro(h | h)
  ·exact .inr (.inl h)
  ·exact .inr (.inr h)
theorem a4k {s m:x9} {d:Int} (hr:∀x∈mbS s d,0≤x∧x<nD m) (x:Int):ND (a4j s m d) x↔NdM s m d x:=by
 rw[a9s,a4g _ (rV _) hr]
 unfold NdM
 constructor
 ·rintro(h | h)
  ·unfold jW at h;rw[Io]at h;cases h
  ·exact h
 ·exact fun h=> .inr h
structure Still (a b:J3) (s t:x9) (k d:Int):Prop where
 hA:(P5 a).1=0
 hB:(P5 b).1=0
 sA:SmL a
 sB:SmL b
 la:lat a.2.2 k=some s
 lb:lat b.2.2 k=some t
 ifc:iw s=iw t
 ifm:iw (I8 a s)=iw (I8 b t)
 tb:b.2.1=a.2.1
 d0:0≤d
 d1:d<nD s
 f:∀x,NdS s d x→Fwd s t x
 g:∀x,NdS t d x→Bwd s t x
 fm:∀x,NdM s (I8 a s) d x→Fwd (I8 a s) (I8 b t) x
 gm:∀x,NdM t (I8 b t) d x→Bwd (I8 a s) (I8 b t) x
section
variable {a b:J3} {s t:x9} {k d:Int} (h:Still a b s t k d)
include h
theorem Still.nn:nD s=nD t∧nD (I8 a s)=nD (I8 b t)∧s.2.2.2.1=t.2.2.2.1∧(I8 a s).2.2.2.1=(I8 b t).2.2.2.1:=by
 obtain⟨_,_,_,e1⟩:=uz h.ifc
 obtain⟨_,_,_,e2⟩:=uz h.ifm
 refine⟨?_,?_,e1,e2⟩
 ·unfold nD;rw[e1]
 ·unfold nD;rw[e2]
theorem Still.mem_iff (x:Int):NdM t (I8 b t) d x↔NdM s (I8 a s) d x:=by
 obtain⟨n1,n2,_,_⟩:=h.nn
 constructor
 ·rintro⟨z,hz,hx⟩
  refine⟨z,b4c n1 h.g z hz,?_⟩
  rcases hx with hx | hx
  ·exact .inl hx
  ·exact .inr (Ja n2 (fun y hy=>h.gm y ⟨z,hz,hy⟩) x hx)
 ·rintro⟨z,hz,hx⟩
  refine⟨z,b4d n1 h.f z hz,?_⟩
  rcases hx with hx | hx
  ·exact .inl hx
  ·exact .inr (Jb n2 (fun y hy=>h.fm y ⟨z,hz,hy⟩) x hx)
theorem Still.own_iff (x:Int):NdS t d x↔NdS s d x:=by
 obtain⟨n1,_,_,_⟩:=h.nn
 constructor
 ·rintro(hx | hx)
  ·exact .inl hx
  ·exact .inr (Ja n1 h.g x hx)
 ·rintro(hx | hx)
  ·exact .inl hx
  ·exact .inr (Jb n1 h.f x hx)
theorem Still.two:Two s t (a8k s d) (a8k t d) (fun x=>ND (a4j t (I8 b t) d) x):=by
 obtain⟨n1,n2,e1,e2⟩:=h.nn
 have hk:=Z7 h.la
 have hk' :=Z7 h.lb
 have hd1' :d<nD t:=by rw[←n1];exact h.d1
 have rA:=Em h.hA hk.2.2.2 d
 have rB:=Em h.hB hk'.2.2.2 d
 refine⟨by rw[e1],WT h.hA hk.2.2.1,WT h.hB hk'.2.2.1,yV (h.sA.sc s hk.2.2.1) (EH h.hA hk.2.2.2),yV (h.sB.sc t hk'.2.2.1) (EH h.hB hk'.2.2.2),fun x hx=>?_⟩
 have hxt:=(a8l h.d0 hd1' x).1 hx
 have hxs:=(h.own_iff x).1 hxt
 refine⟨?_,(a8l h.d0 h.d1 x).2 hxs,⟨h.f x hxs,h.g x hxt⟩,fun y hy=>(a8l h.d0 hd1' y).2 ?_,fun r hr hd e he=>?_,fun r hr hd e he=>?_⟩
 ·rcases hxs with e | e
  ·rw[e];exact⟨h.d0,h.d1⟩
  ·exact oU e
 ·obtain⟨_,t1,t2,_⟩:=gY t d
  rcases hxt with e | e
  ·rw[e]at hy;exact .inr (t1 y hy)
  ·exact .inr (t2 x e y hy)
 ·refine⟨(Ec h.hB hk'.2.2.2 x r hr hd e he).1,fun y hy=>(a4k rB y).2 ⟨y,CU.2 ⟨?_,r,hr,by rw[hd];exact hxt,?_⟩,.inl rfl⟩⟩
  ·unfold inD;rw[F7 h.d0];exact E8 hd1'
  ·unfold vG
   rcases he with rfl | rfl
   ·exact List.mem_append_left _ hy
   ·exact List.mem_append_right _ hy
 ·refine⟨(Ec h.hA hk.2.2.2 x r hr hd e he).1,fun y hy=>(a4k rB y).2 ((h.mem_iff y).2 ⟨y,CU.2 ⟨?_,r,hr,by rw[hd];exact hxs,?_⟩,.inl rfl⟩)⟩
  ·unfold inD;rw[F7 h.d0];exact E8 h.d1
  ·unfold vG
   rcases he with rfl | rfl
   ·exact List.mem_append_left _ hy
   ·exact List.mem_append_right _ hy
theorem Still.twoM:Two (I8 a s) (I8 b t) (a4j s (I8 a s) d) (a4j t (I8 b t) d) (fun _=>False):=by
 obtain⟨n1,n2,e1,e2⟩:=h.nn
 have hk:=Z7 h.la
 have hk' :=Z7 h.lb
 have rA:=Em h.hA hk.2.2.2 d
 have rB:=Em h.hB hk'.2.2.2 d
 refine⟨by rw[e2],Vt h.hA h.la,Vt h.hB h.lb,yV (Nz h.sA h.hA h.la) (Vu h.hA h.la),yV (Nz h.sB h.hB h.lb) (Vu h.hB h.lb),fun x hx=>?_⟩
 have hxt:=(a4k rB x).1 hx
 have hxs:=(h.mem_iff x).1 hxt
 refine⟨?_,(a4k rA x).2 hxs,⟨h.fm x hxs,h.gm x hxt⟩,fun y hy=>(a4k rB y).2 ?_,Jh h.hB h.lb x,Jh h.hA h.la x⟩
 ·obtain⟨z,hz,e | e⟩:=hxs
  ·rw[e];exact rA z hz
  ·exact oU e
 ·obtain⟨z,hz,e⟩:=hxt
  obtain⟨_,t1,t2,_⟩:=gY (I8 b t) z
  refine⟨z,hz,.inr ?_⟩
  rcases e with e | e
  ·rw[e]at hy;exact t1 y hy
  ·exact t2 x e y hy
theorem Still.evd {c:aQ} (hC:SmC c) (hTb:∀t∈a.2.1,kK t) (h0:(Hz a s c d).2.2.1=0):(Hz b t c d).2.2.1=0∧(Hz b t c d).1=(Hz a s c d).1:=by
 obtain⟨n1,n2,e1,e2⟩:=h.nn
 unfold Hz at h0 ⊢
 cases he:Am a s c (a8k s d) (a4j s (I8 a s) d)with
 | inr e=>
  rw[show Am a s c (zf s (jW s.2.2.2.1.length) d) (uh (I8 a s) (jW (I8 a s).2.2.2.1.length) (mbS s d))= .inr e from he]at h0
  exact absurd h0 (a7W he)
 | inl x=>
  obtain⟨X,bb⟩:=x
  obtain⟨Y,b',g1,g2⟩:=c6A hC hTb h.tb e2.symm h.twoM h.two he
  rw[show Am b t c (zf t (jW t.2.2.2.1.length) d) (uh (I8 b t) (jW (I8 b t).2.2.2.1.length) (mbS t d))= .inl (Y,b')from g1]
  have:=g2 d ((a8l h.d0 (by rw[←n1];exact h.d1) d).2 (.inl rfl))
  unfold lat at this
  rw[if_pos h.d0,if_pos h.d0]at this
  refine⟨rfl,?_⟩
  show Y.1.getD d.toNat (0,0,0)=X.1.getD d.toNat (0,0,0)
  rw[jZ,jZ,this]
end
end Go.GP
namespace Go.GP
open Gt
set_option maxRecDepth 100000
theorem a0T {a b:J3} (h:siS a b=true):a.1=b.1∧a.2.1=b.2.1∧a.2.2.map iw=b.2.2.map iw:=by
 unfold siS at h
 rw[Bool.and_eq_true,Bool.and_eq_true]at h
 exact⟨nI.1 h.1,nI.1 h.2.1,nI.1 h.2.2⟩
theorem XL {a b:J3} (h:a.2.2.map iw=b.2.2.map iw) {s t:x9} (hi:iw s=iw t):ui a s=ui b t:=by
 obtain⟨_,e,_,_⟩:=uz hi
 unfold ui
 rw[e]
 have e2:=KD h t.2.1
 cases h1:lat a.2.2 t.2.1 with
 | none=>
  rw[h1]at e2
  cases h2:lat b.2.2 t.2.1 with
  | none=>rfl
  | some y=>rw[h2]at e2;cases e2
 | some x=>
  rw[h1]at e2
  cases h2:lat b.2.2 t.2.1 with
  | none=>rw[h2]at e2;cases e2
  | some y=>
   rw[h2]at e2
   obtain⟨_,_,e3,_⟩:=uz (Option.some.inj e2)
   simp only
   rw[e3]
theorem a2Z {a b:J3} (hA:(P5 a).1=0) (hB:(P5 b).1=0) (hs:siS a b=true) (k:Int) (c:aQ) (ex:Bool) (d:Int):xw a k c ex d=xw b k c ex d:=by
 obtain⟨e1,e2,e3⟩:=a0T hs
 have e4:=KD e3 k
 unfold xw
 rw[hA,hB]
 cases h1:lat a.2.2 k with
 | none=>
  rw[h1]at e4
  cases h2:lat b.2.2 k with
  | none=>rfl
  | some y=>rw[h2]at e4;cases e4
 | some s=>
  rw[h1]at e4
  cases h2:lat b.2.2 k with
  | none=>rw[h2]at e4;cases e4
  | some t=>
   rw[h2]at e4
   have hi:=Option.some.inj e4
   obtain⟨i1,i2,i3,i4⟩:=uz hi
   have hc:Dv a k c=Dv b k c:=by
    unfold Dv
    rw[h1,h2]
    simp only
    rw[e1,i3,XL e3 hi]
   simp only
   rw[hc,i4]
theorem a5w {a:J3} {k d:Int} (h:Ym a k d=true):∃s,lat a.2.2 k=some s∧0≤d∧d<nD s:=by
 unfold Ym at h
 cases h1:ilt k 0 <;> rw[h1]at h
 case true=>cases h
 rw[l9]at h
 cases h2:ile (o8 a.2.2) k <;> rw[h2]at h
 case true=>cases h
 rw[l9]at h
 cases h3:ilt d 0 <;> rw[h3]at h
 case true=>cases h
 rw[l9]at h
 cases h4:lat a.2.2 k with
 | none=>rw[h4]at h;cases h
 | some s=>
  rw[h4]at h
  simp only at h
  refine⟨s,rfl,aT.1 h3,?_⟩
  cases h5:ile (o8 s.2.2.2.1) d <;> rw[h5]at h
  ·exact uf.1 h5
  ·cases h
theorem a6W {a b:J3} (sA:SmL a) (sB:SmL b) {k d:Int} (ho:okC a b k d=true) {LA LB:wo} (rA:Y7 a k d=some LA) (rB:Y7 b k d=some LB) (hno:∀x∈yB a b,rvS LA LB x=false):
  ∃s t,Still a b s t k d∧Still b a t s k d:=by
 unfold okC at ho
 rw[Bool.and_eq_true,Bool.and_eq_true,Bool.and_eq_true]at ho
 obtain⟨v1,v2,hr,hsi⟩:=ho
 have hA:=I9.1 v1
 have hB:=I9.1 v2
 obtain⟨e1,e2,e3⟩:=a0T hsi
 obtain⟨s,hs,d0,d1⟩:=a5w hr
 obtain⟨t,ht,hi⟩:=a3R e3 hs
 obtain⟨_,_,_,i4⟩:=uz hi
 have d1' :d<nD t:=by unfold nD at d1 ⊢;rw[←i4];exact d1
 obtain⟨ra1,ra2⟩:=JH sA hA hs d0 d1 rA
 obtain⟨rb1,rb2⟩:=JH sB hB ht d0 d1' rB
 have hsm:=(Z7 hs).2.2.1
 have htm:=(Z7 ht).2.2.1
 have him:=a1M e3 hi
 have f:∀x,NdS s d x→Fwd s t x:=fun x hx i r hr he=>Wx hA hB hno hsm htm hi hr (ra1 r (dG hr) (by rw[he];exact hx))
 have g:∀x,NdS t d x→Bwd s t x:=fun x hx j q hq he=>Wv hA hB hno hsm htm hi hq (rb1 q (dG hq) (by rw[he];exact hx))
 have fm:∀x,NdM s (I8 a s) d x→Fwd (I8 a s) (I8 b t) x:=fun x hx i r hr he=>by
  rcases AY hA hs with q | q
  ·rw[q]at hr;cases hr
  ·rcases AY hB ht with q' | q'
   ·rw[q']at him
    have hz:(I8 a s).1=[]:=(uz him).1
    obtain⟨i',hi',hie⟩:=List.getElem_of_mem q
    have hsc:=GR hA (by rw[←hie];exact Y6 hi' :a.2.2[i']? =some (I8 a s))
    unfold vT at hsc
    rw[hz]at hsc
    exact absurd (show(2:Int)=0 from hsc) (by decide)
   ·exact Wx hA hB hno q q' him hr (ra2 r (dG hr) (by rw[he];exact hx))
 have gm:∀x,NdM t (I8 b t) d x→Bwd (I8 a s) (I8 b t) x:=fun x hx j q hq he=>by
  rcases AY hB ht with w | w
  ·rw[w]at hq;cases hq
  ·rcases AY hA hs with w' | w'
   ·rw[w']at him
    have hz:(I8 b t).1=[]:=(uz him).1.symm
    obtain⟨i',hi',hie⟩:=List.getElem_of_mem w
    have hsc:=GR hB (by rw[←hie];exact Y6 hi' :b.2.2[i']? =some (I8 b t))
    unfold vT at hsc
    rw[hz]at hsc
    exact absurd (show(2:Int)=0 from hsc) (by decide)
   ·exact Wv hA hB hno w' w him hq (rb2 q (dG hq) (by rw[he];exact hx))
 have swE:∀{u v:x9} {r q:J6},EqR u v r q→EqR v u q r:=fun {u v r q} e=>⟨e.nm.symm,e.df.symm,e.rest.symm,by
  rcases e.pa with⟨p1,p2⟩ | ⟨i,j,x,y,p1,p2,p3,p4,p5⟩
  ·exact .inl ⟨p2,p1⟩
  ·exact .inr ⟨j,i,y,x,p2,p1,p4,p3,p5.symm⟩⟩
 have swF:∀{u v:x9} {x:Int},Fwd u v x→Bwd v u x:=fun {u v x} hf j q hq he=>by
  obtain⟨i,r,g1,g2⟩:=hf j q hq he
  exact⟨i,r,g1,swE g2⟩
 have swB:∀{u v:x9} {x:Int},Bwd u v x→Fwd v u x:=fun {u v x} hf j q hq he=>by
  obtain⟨i,r,g1,g2⟩:=hf j q hq he
  exact⟨i,r,g1,swE g2⟩
 exact⟨s,t,⟨hA,hB,sA,sB,hs,ht,hi,him,e2.symm,d0,d1,f,g,fm,gm⟩,
  ⟨hB,hA,sB,sA,ht,hs,hi.symm,him.symm,e2,d0,d1',fun x hx=>swB (g x hx),fun x hx=>swF (f x hx),fun x hx=>swB (gm x hx),fun x hx=>swF (fm x hx)⟩⟩
theorem a2D {a b:J3} (sA:SmL a) (sB:SmL b) {c:aQ} (hC:SmC c) (tA:∀t∈a.2.1,kK t) (tB:∀t∈b.2.1,kK t) {k d:Int} (ho:okC a b k d=true) {LA LB:wo} (rA:Y7 a k d=some LA) (rB:Y7 b k d=some LB) (hno:∀x∈yB a b,rvS LA LB x=false) (R:List V5):
  icS ((evS a k c d).1,(evS b k c d).1,(evS a k c d).2,(evS b k c d).2,R)=false:=by
 obtain⟨s,t,h1,h2⟩:=a6W sA sB ho rA rB hno
 have hsi:siS a b=true:=by
  unfold okC at ho
  rw[Bool.and_eq_true,Bool.and_eq_true,Bool.and_eq_true]at ho
  exact ho.2.2.2
 have harg:=a2Z h1.hA h1.hB hsi k c true d
 have eA:edS a k c d=if(xw a k c true d).1=0 then Hz a s c d else((0,0,0),0,xw a k c true d):=by unfold edS;rw[h1.la]
 have eB:edS b k c d=if(xw a k c true d).1=0 then Hz b t c d else((0,0,0),0,xw a k c true d):=by unfold edS;rw[h1.lb,harg]
 rw[a3y,a3y]
 unfold icS
 simp only
 by_cases hz:(xw a k c true d).1=0
 ·rw[if_pos hz]at eA eB
  rw[eA,eB]
  by_cases q:(Hz a s c d).2.2.1=0
  ·obtain⟨q1,q2⟩:=h1.evd hC tA q
   rw[q,q1,q2]
   simp only[E9 rfl,o5]
   rfl
  ·have q' :(Hz b t c d).2.2.1≠0:=fun e=>q (h2.evd hC tB e).1
   rw[D8 q,D8 q'];rfl
 ·rw[if_neg hz]at eA eB
  rw[eA,eB]
  show l7 (ieq (xw a k c true d).1 0) _ (ieq (xw a k c true d).1 0)=false
  rw[D8 hz];rfl
def eqC (x y:V5):Bool:=V8 (seq x.1 y.1) (V8 (seq x.2.1 y.2.1) (ieq x.2.2 y.2.2))
theorem EY {x y:V5} :eqC x y=true↔x=y:=by
 unfold eqC V8
 rw[Bool.and_eq_true,Bool.and_eq_true,bg,bg,I9]
 exact⟨fun h=>Prod.ext h.1 (Prod.ext h.2.1 h.2.2),fun h=>by subst h;exact⟨rfl,rfl,rfl⟩⟩
theorem c1Y {l:List V5} (hl:l.length≤1000000) {x:V5} {f:Int→Option (Int⊕Int)}
  (hin:∀(i:Nat) y,l[i]? =some y→f (i:Int)=l7 (E5 (eqC y x)) (some (.inl (A7 .i64 (i:Int) 1))) (some (.inr (i:Int)))):
  ∀(n at' :Nat) (N:Nat),l.length -at' ≤n→n<N→(∃i,at' ≤i∧l[i]? =some x)→∃j,at' ≤j∧l[j]? =some x∧(∀i,at' ≤i→l[i]? =some x→j≤i)∧iC f N (at' :Int)=some (j:Int)
 | n,at',N,hn,hN,⟨i,hi,hx⟩=>by
  have hlt:=(J7.1 hx).1
  obtain⟨M,rfl⟩:∃M,N=M+1:=⟨N -1,by omega⟩
  have e:l[at']? =some (l[at']'(by omega)):=Y6 _
  unfold iC
  rw[hin at' _ e]
  cases hq:eqC (l[at']'(by omega)) x
  ·rw[D6,o5,X3 (by omega)]
   have hne:i≠at' :=fun h=>by
    subst h
    rw[hx]at e
    have:=EY.2 (Option.some.inj e).symm
    rw[this]at hq;cases hq
   cases n with
   | zero=>omega
   | succ n=>
    obtain⟨j,j1,j2,j3,j4⟩:=c1Y hl hin n (at' +1) M (by omega) (by omega) ⟨i,by omega,hx⟩
    refine⟨j,by omega,j2,fun i' hi' hx' =>?_,j4⟩
    by_cases h:i' =at'
    ·subst h
     rw[hx']at e
     have:=EY.2 (Option.some.inj e).symm
     rw[this]at hq;cases hq
    ·exact j3 i' (by omega) hx'
  ·rw[o9,l9]
   exact⟨at',Nat.le_refl _,by rw[e,EY.1 hq],fun i' hi' _=>hi',rfl⟩
theorem WN {x:V5} {R:List V5} :∀{l:List V5},List.Sublist (x::R) l→∃i:Nat,l[i]? =some x∧∀j:Nat,l[j]? =some x→(∀i' :Nat,l[i']? =some x→j≤i')→List.Sublist R (l.drop (j+1))
 | [],h=>by cases h
 | y::l,h=>by
  cases h with
  | cons _ h=>
   obtain⟨i,h1,h2⟩:=WN h
   refine⟨i+1,h1,fun j hj hm=>?_⟩
   have hxr:List.Sublist (x::R) l:=h
   cases j with
   | zero=>
    show List.Sublist R l
    exact(List.sublist_cons_self x R).trans hxr
   | succ j=>
    refine h2 j hj fun i' hi' =>?_
    have:=hm (i' +1) hi'
    omega
  | cons_cons _ h=>
   refine⟨0,rfl,fun j hj hm=>?_⟩
   have:=hm 0 rfl
   have hj0:j=0:=by omega
   subst hj0
   exact h
theorem Lh {a b:J3} (wA:WfL a) (wB:WfL b) (k:Int) (c:aQ) (d:Int):kQ (a,b) k c d=some true:=by
 unfold kQ
 rw[YA,o7,a1E]
 cases hl:smL a
 ·rfl
 cases hl' :smL b
 ·rfl
 cases hc:smC c
 ·rfl
 obtain⟨hA,tA⟩:=a6o hl wA
 obtain⟨hB,tB⟩:=a6o hl' wB
 have hC:=b4I hc
 simp only[Bool.true_and,o9,l9]
 rcases Xh hA hB hC tA tB k d with⟨ho,LA,LB,rA,rB,h⟩ | ⟨ho,e,he,h⟩
 ·rw[h,o7]
  have v:=ho
  unfold okC at v
  rw[Bool.and_eq_true,Bool.and_eq_true]at v
  have hvA:=I9.1 v.1
  have hvB:=I9.1 v.2.1
  show l7 (E5 (ieq (0:Int) 0)) _ _=_
  rw[E9 rfl,o9,l9,zD hA hB,o7]
  have hlen:=Uu hA hB
  obtain⟨l,hle⟩:∃l,l=yB a b:=⟨_,rfl⟩
  obtain⟨R,hRe⟩:∃R,R=l.filter (rvS LA LB):=⟨_,rfl⟩
  rw[←hle]at hlen ⊢
  rw[←hRe]
  have hsub:List.Sublist R l:=by rw[hRe];exact List.filter_sublist
  have hRl:=hsub.length_le
  have hfin:o6 (dC ((evS a k c d).1,(evS b k c d).1,(evS a k c d).2,(evS b k c d).2,R)) (fun(x_2:Bool)=>l7 (E5 x_2) (o6 (some true) fun(x:Bool)=>some x) (l7 (ilt 0 (o8 R)) (o6 (some true) fun(x:Bool)=>some x) (some false)))=some true:=by
   rw[Fj,o7]
   cases hR:R with
   | cons x r=>
    rw[E8 (show(0:Int)<o8 (x::r) by show(0:Int)<((r.length+1:Nat):Int);omega)]
    cases icS ((evS a k c d).1,(evS b k c d).1,(evS a k c d).2,(evS b k c d).2,x::r) <;> rfl
   | nil=>
    have hno:∀x∈yB a b,rvS LA LB x=false:=fun x hx=>by
     rw[←hle]at hx
     cases hq:rvS LA LB x
     ·rfl
     ·have:x∈R:=by rw[hRe];exact List.mem_filter.2 ⟨hx,hq⟩
      rw[hR]at this;cases this
    rw[a2D hA hB hC tA tB ho rA rB hno []];rfl
  refine fV R (fun(at' :Nat) (x:V5)=>(.inl (((l.drop at').findIdx (fun y=>eqC y x))+at' +1):Nat⊕Bool)) (fun(at' :Nat) i=>((at' :Int),i)) (fun _=>PUnit.unit) (fun i at' =>at' ≤l.length∧List.Sublist (R.drop i) (l.drop at')) 0 (by omega) ⟨Nat.zero_le _,hsub⟩ (fun i x at' hx hi hI=>?_) (fun at' _=>?_) (fun _=>?_)
  ·obtain⟨hat,hs⟩:=hI
   have hil:=(J7.1 hx).1
   have hd:R.drop i=x::R.drop (i+1):=by
    rw[List.drop_eq_getElem_cons hil,(J7.1 hx).2]
   rw[hd]at hs
   obtain⟨i0,h1,h2⟩:=WN hs
   rw[List.getElem?_drop]at h1
   simp only[show ilt (i:Int) (o8 R)=true from H9 hx,o5,F6,hx,o7]
   have hlook:∀(j:Nat) y,l[j]? =some y→l7 (ilt (j:Int) (o8 l)) (o6 (l[j]?) fun(x_4:V5)=>o6 (L8 l (toN (j:Int))) fun(x_5:V5)=>l7 (E5 (V8 (seq x_5.1 x.1) (V8 (seq x_5.2.1 x.2.1) (ieq x_5.2.2 x.2.2)))) (some (.inl (A7 .i64 (j:Int) 1))) (some (.inr (j:Int)))) (some (.inr (j:Int)))=l7 (E5 (eqC y x)) (some (.inl (A7 .i64 (j:Int) 1))) (some ((.inr (j:Int)):Int⊕Int)):=fun j y hy=>by
    rw[H9 hy,o5,hy,o7]
    have hg:L8 l (toN (j:Int))=some y:=by show l[((j:Int)).toNat]? =_;rw[Int.toNat_natCast];exact hy
    rw[hg,o7];rfl
   obtain⟨j,j1,j2,j3,j4⟩:=c1Y (l:=l) (by omega) (x:=x) (f:=fun(x_3:Int)=>l7 (ilt x_3 (o8 l)) (o6 (lat l x_3) fun(x_4:V5)=>o6 (L8 l (toN x_3)) fun(x_5:V5)=>l7 (E5 (V8 (seq x_5.1 x.1) (V8 (seq x_5.2.1 x.2.1) (ieq x_5.2.2 x.2.2)))) (some (.inl (A7 .i64 x_3 1))) (some (.inr x_3))) (some (.inr x_3)))
    (fun j y hy=>by
     have:=hlook j y hy
     simp only[F6]
     exact this) (l.length -at') at' dN (Nat.le_refl _) (by unfold dN;omega) ⟨at' +i0,by omega,h1⟩
   have hjl:=(J7.1 j2).1
   have hidx:(l.drop at').findIdx (fun y=>eqC y x)=j -at' :=by
    have hjd:(l.drop at')[j -at']? =some x:=by rw[List.getElem?_drop,show at' +(j -at')=j by omega];exact j2
    have hlt:=(J7.1 hjd).1
    rw[List.findIdx_eq hlt]
    refine⟨by rw[(J7.1 hjd).2];exact EY.2 rfl,fun m hm=>?_⟩
    cases hq:eqC ((l.drop at')[m]'(by omega)) x
    ·rfl
    ·have hm2:l[at' +m]? =some x:=by
      have:=Y6 (l:=l.drop at') (i:=m) (by omega)
      rw[List.getElem?_drop,EY.1 hq]at this;exact this
     have:=j3 (at' +m) (by omega) hm2
     omega
   rw[hidx,show j -at' +at' +1=j+1 by omega]
   refine⟨?_,fun b' hb' =>?_⟩
   ·refine ak j4 ?_
    rw[o7,D8 (show(j:Int)≠o8 l by unfold o8;omega),l9,X3 (by omega),X3 (by omega)]
   ·cases hb'
    refine⟨by omega,?_⟩
    have hk:=h2 (j -at') (by rw[List.getElem?_drop,show at' +(j -at')=j by omega];exact j2) (fun i' hi' =>by
     rw[List.getElem?_drop]at hi'
     have:=j3 (at' +i') (by omega) hi'
     omega)
    rw[List.drop_drop,show at' +(j -at' +1)=j+1 by omega]at hk
    exact hk
  ·simp only[I4,l9]
  ·have:∀(L:List V5) (n:Nat),∃m,U1 (fun(at' :Nat) (x:V5)=>(.inl (((l.drop at').findIdx (fun y=>eqC y x))+at' +1):Nat⊕Bool)) L n= .inl m:=fun L=>by
    induction L with
    | nil=>intro n;exact⟨n,rfl⟩
    | cons x L ih=>intro n;exact ih _
   obtain⟨m,hm⟩:=this R 0
   rw[hm]
   exact hfin
 ·rw[h,o7,D8 he,D6,o5,Fj]
  rfl
end Go.GP
namespace Go.GP
open Gt
theorem zW:∀x,WV Gt.ps4 x→(Gt.s4.fn x:Option Bool)=some true:=fun x h=>Lh (b2U h.1.1) (b2U h.1.2) x.2.1 x.2.2.1 x.2.2.2
end Go.GP
