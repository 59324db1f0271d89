import Derived.Test.YtfffbbadpgefmaaGreatDoorU5
set_option linter.all false
namespace Go.GP
open Gt
set_option maxRecDepth 100000
def sgT (T:Int) (sg:I8):I8:=(sg.1,sg.2.1.map (tOn T),sg.2.2)
theorem e4o (l:L6) (s:A8) (T:Int):BL (lOn T l) (sOn T s)=sgT T (BL l s):=by
 unfold BL
 show(match(if 0≤s.2.1 then(l.2.2.map (sOn T))[s.2.1.toNat]? else none)with | some k=>_ | none=>_)=_
 by_cases h:0≤s.2.1
 ·rw[if_pos h,if_pos h,List.getElem?_map]
  cases l.2.2[s.2.1.toNat]? <;> rfl
 ·rw[if_neg h,if_neg h];rfl
theorem e3c (n:Int×Int) (a:Int×Int) (sg:I8) (T:Int):mF n a (sgT T sg)=mF n a sg:=by
 unfold mF sgT
 simp only
 rw[e1v,e1v]
 have e1:∀(K:V8→Option ((Int×Int)×Bool)) (hK:∀t,K (tOn T t)=K t) (o:Option V8),l9 (o.map (tOn T)) K=l9 o K:=fun K hK o=>by
  cases o with
  | none=>rfl
  | some t=>exact hK t
 rw[e1 _ (fun t=>rfl),e1 _ (fun t=>rfl)]
theorem e3n (n:Int×Int) (sg:I8) (T:Int):lN n (sgT T sg)=lN n sg:=by
 unfold lN sgT
 simp only[o8,List.length_map]
theorem e2n (n:Int×Int) (ops:List (Int×Int)) (sg:I8) (T:Int):MB n ops (sgT T sg)=MB n ops sg:=by
 have e:RR n ops (sgT T sg)=RR n ops sg:=by
  unfold RR
  simp only[e3c,e3n]
  rfl
 unfold MB
 rw[b9Q,b9Q,e]
theorem e1E (sg:I8) (T:Int):∀(t:XT) (o:Nat),dX (sgT T sg) t o=dX sg t o
 | .l0 n,o=>by unfold dX zG;rw[e2n]
 | .l1 n a,o=>by
  unfold dX
  rw[e1E sg T a]
  cases dX sg a o with
  | inl e=>rfl
  | inr ta=>simp only;unfold zG;rw[e2n]
 | .l2 n a b,o=>by
  unfold dX
  rw[e1E sg T a,e1E sg T b]
  cases dX sg a o with
  | inl e=>rfl
  | inr ta=>
   simp only
   cases dX sg b (o+a.size)with
   | inl e=>rfl
   | inr tb=>simp only;unfold zG;rw[e2n]
 | .l3 n a b c,o=>by
  unfold dX
  rw[e1E sg T a,e1E sg T b,e1E sg T c]
  cases dX sg a o with
  | inl e=>rfl
  | inr ta=>
   simp only
   cases dX sg b (o+a.size)with
   | inl e=>rfl
   | inr tb=>
    simp only
    cases dX sg c (o+a.size+b.size)with
    | inl e=>rfl
    | inr tc=>simp only;unfold zG;rw[e2n]
theorem e3V (e:List (Int×Int)) (sg:I8) (T:Int) (t:Int×Int):zX e (sgT T sg) t=zX e sg t:=by
 have h:fZ e (sgT T sg)=fZ e sg:=by
  unfold fZ
  cases eY e with
  | inl x=>rfl
  | inr q=>simp only;rw[e1E]
 unfold zX
 rw[h]
def e1J (s:A8) (k:Nat) (r:X0):Bool:=l7 (ieq r.2.2.1 (-1)) false (l7 (ilt r.2.2.1 0) true (l7 (ile k r.2.2.1) true (match lat s.2.2.2.2 r.2.2.1 with | some q=>D6 (ieq q.2.1 r.2.1) | none=>true)))
structure RuleV (s:A8) (sg:I8) (k:Nat) (r:X0):Prop where
 id:yz r.1=true
 nm:((s.2.2.2.2.take k).any fun x=>seq x.1 r.1)=false
 df:∃d,lat s.2.2.2.1 r.2.1=some d∧PY r sg d.2=0
 pa:e1J s k r=false
 p0:ilt r.2.2.2.1 0=false
 p9:ilt 9 r.2.2.2.1=false
 dv:Bv r.2.2.2.2.1=true
 ne:ieq r.2.2.2.2.1.1 r.2.2.2.2.1.2=false
 ct:ile 8 (Oq (s.2.2.2.2.take k) r.2.1)=false
 sr:YV r.2.2.2.2.2.2.2=true
theorem RuleV.zero {s:A8} {sg:I8} {k:Nat} {r:X0} (h:RuleV s sg k r):FY s sg k r=0:=by
 obtain⟨d,h1,h2⟩:=h.df
 unfold FY
 rw[h.id,h.nm,h1]
 simp only[o6,o5]
 change l7 (e1J s k r) (9:Int) _=0
 rw[h.pa,h.p0,h.p9,h.dv,h.ne,h.ct,h.sr,h2];rfl
theorem e4m {s:A8} {sg:I8} {k:Nat} {r:X0} (h:FY s sg k r=0):RuleV s sg k r:=by
 obtain⟨d,hd,hx⟩:=a0s h
 unfold FY at h
 cases g1:yz r.1 <;> rw[g1]at h
 ·exact absurd (show(2:Int)=0 from h) (by decide)
 cases g2:(s.2.2.2.2.take k).any fun x=>seq x.1 r.1 <;> rw[g2]at h
 case true=>exact absurd (show(7:Int)=0 from h) (by decide)
 rw[hd]at h
 simp only[o6,o5]at h
 change l7 (e1J s k r) (9:Int) _=0 at h
 cases b1:e1J s k r <;> rw[b1]at h
 case true=>exact absurd (show(9:Int)=0 from h) (by decide)
 cases b2:ilt r.2.2.2.1 0 <;> rw[b2]at h
 case true=>exact absurd (show(3:Int)=0 from h) (by decide)
 cases b3:ilt 9 r.2.2.2.1 <;> rw[b3]at h
 case true=>exact absurd (show(3:Int)=0 from h) (by decide)
 cases b4:Bv r.2.2.2.2.1 <;> rw[b4]at h
 case false=>exact absurd (show(3:Int)=0 from h) (by decide)
 cases b5:ieq r.2.2.2.2.1.1 r.2.2.2.2.1.2 <;> rw[b5]at h
 case true=>exact absurd (show(3:Int)=0 from h) (by decide)
 cases b6:ile 8 (Oq (s.2.2.2.2.take k) r.2.1) <;> rw[b6]at h
 case true=>exact absurd (show(4:Int)=0 from h) (by decide)
 cases b7:YV r.2.2.2.2.2.2.2 <;> rw[b7]at h
 case false=>exact absurd (show(2:Int)=0 from h) (by decide)
 exact⟨g1,g2,⟨d,hd,hx⟩,b1,b2,b3,b4,b5,b6,b7⟩
theorem e3v (on:Nat→Bool) {n i:Nat} (hi:i≤n):(onL on n).take (Jp on i)=onL on i:=by
 induction n with
 | zero=>
   have e:i=0:=by omega
   subst e;unfold onL Jp;simp
 | succ n ih=>
  by_cases e:i=n+1
  ·subst e
   rw[List.take_of_length_le (by unfold onL Jp;omega)]
  ·rw[FC,List.take_append_of_le_length (by have:=e2t on (show i≤n by omega);exact this)]
   exact ih (by omega)
theorem e3t {s:A8} {A:Nat→Bool} (hp:∀(j:Nat) (r:X0),s.2.2.2.2[j]? =some r→e1J s j r=false):∀i,i<s.2.2.2.2.length→yE A (CP s) i=-1∨∃(a:Nat) (ra ri:X0),a≤i∧A a=true∧yE A (CP s) i=(Jp A a:Int)∧s.2.2.2.2[a]? =some ra∧s.2.2.2.2[i]? =some ri∧ra.2.1=ri.2.1:=by
 intro i
 induction i using Nat.strongRecOn with
 | ind i ih=>
  intro hi
  have hr:s.2.2.2.2[i]? =some s.2.2.2.2[i]:=Y8 hi
  rw[a2e]
  cases ha:A i
  ·rw[if_neg (by simp)]
   unfold anc
   by_cases hq:0≤CP s i∧CP s i<(i:Int)
   ·rw[if_pos hq]
    have hpi:=hp i _ hr
    have hpe:CP s i=s.2.2.2.2[i].2.2.1:=by unfold CP;rw[hr]
    rcases ih (CP s i).toNat (by omega) (by omega)with h | ⟨a,ra,rj,a1,a2,a3,a4,a5,a6⟩
    ·exact .inl h
    ·right
     refine⟨a,ra,_,by omega,a2,a3,a4,hr,?_⟩
     rw[a6]
     unfold e1J at hpi
     rw[←hpe]at hpi
     rw[E5 (show CP s i≠-1 by omega),E9 hq.1,H7 hq.2]at hpi
     simp only[o5]at hpi
     have e:lat s.2.2.2.2 (CP s i)=some rj:=by unfold lat;rw[if_pos hq.1];exact a5
     rw[e]at hpi
     simp only at hpi
     cases g:ieq rj.2.1 s.2.2.2.2[i].2.1 <;> rw[g]at hpi
     ·cases hpi
     ·exact P6.1 g
   ·rw[if_neg hq];exact .inl rfl
  ·rw[if_pos rfl]
   exact .inr ⟨i,_,_,Nat.le_refl i,ha,rfl,hr,hr,rfl⟩
theorem e3M {s:A8} {A:Nat→Bool} (hp:∀(j:Nat) (r:X0),s.2.2.2.2[j]? =some r→e1J s j r=false) {i:Nat} {r:X0} (hr:s.2.2.2.2[i]? =some r):anc A (CP s) i=-1∨∃(a:Nat) (ra:X0),a<i∧A a=true∧anc A (CP s) i=(Jp A a:Int)∧s.2.2.2.2[a]? =some ra∧ra.2.1=r.2.1:=by
 have hi:=(O6.1 hr).1
 have hpe:CP s i=r.2.2.1:=by unfold CP;rw[hr]
 unfold anc
 by_cases hq:0≤CP s i∧CP s i<(i:Int)
 ·rw[if_pos hq]
  rcases e3t (A:=A) hp (CP s i).toNat (by omega)with h | ⟨a,ra,rj,a1,a2,a3,a4,a5,a6⟩
  ·exact .inl h
  ·right
   refine⟨a,ra,by omega,a2,a3,a4,?_⟩
   rw[a6]
   have hpi:=hp i _ hr
   unfold e1J at hpi
   rw[←hpe,E5 (show CP s i≠-1 by omega),E9 hq.1,H7 hq.2]at hpi
   simp only[o5]at hpi
   have e:lat s.2.2.2.2 (CP s i)=some rj:=by unfold lat;rw[if_pos hq.1];exact a5
   rw[e]at hpi
   simp only at hpi
   cases g:ieq rj.2.1 r.2.1 <;> rw[g]at hpi
   ·cases hpi
   ·exact P6.1 g
 ·rw[if_neg hq];exact .inl rfl
theorem e2s (s:A8) (T d:Int):∀i,i≤s.2.2.2.2.length→Oq ((onL (onA s T) i).map (rOn s T)) d≤Oq (s.2.2.2.2.take i) d
 | 0,_=>by simp[onL,Oq]
 | i+1,hi=>by
  have ih:=e2s s T d i (by omega)
  have hr:s.2.2.2.2[i]? =some s.2.2.2.2[i]:=Y8 (by omega)
  rw[FC,List.map_append,List.take_succ_eq_append_getElem (by omega)]
  unfold Oq at ih ⊢
  rw[List.countP_append,List.countP_append]
  cases onA s T i
  ·simp only[cond_false,List.map_nil,List.countP_nil];omega
  ·simp only[cond_true,List.map_cons,List.map_nil]
   rw[e1A hr]
   have e:List.countP (fun(o:X0)=>ieq o.2.1 d) [(s.2.2.2.2[i].1,s.2.2.2.2[i].2.1,anc (onA s T) (CP s) i,s.2.2.2.2[i].2.2.2.1,mi,s.2.2.2.2[i].2.2.2.2.2.1,s.2.2.2.2[i].2.2.2.2.2.2.1,s.2.2.2.2[i].2.2.2.2.2.2.2)]=List.countP (fun(o:X0)=>ieq o.2.1 d) [s.2.2.2.2[i]]:=by simp[List.countP_cons]
   rw[e];omega
theorem e2Z {s:A8} {sg:I8} {T:Int} (hV:∀(j:Nat) (r:X0),s.2.2.2.2[j]? =some r→RuleV s sg j r) {i:Nat} (hi:i<s.2.2.2.2.length) (ha:onA s T i=true):RuleV (sOn T s) (sgT T sg) (kap s T i) (rOn s T i):=by
 have hr:s.2.2.2.2[i]? =some s.2.2.2.2[i]:=Y8 hi
 have h:=hV i _ hr
 have htake:(sOn T s).2.2.2.2.take (kap s T i)=(onL (onA s T) i).map (rOn s T):=by
  show((dG s T).map (rOn s T)).take (Jp (onA s T) i)=_
  rw[←List.map_take]
  unfold dG
  rw[e3v _ (by omega)]
 have hpar:=e3M (A:=onA s T) (fun j r hj=>(hV j r hj).pa) hr
 obtain⟨d,d1,d2⟩:=h.df
 rw[e1A hr]
 refine⟨h.id,?_,⟨d,d1,?_⟩,?_,h.p0,h.p9,rfl,rfl,?_,h.sr⟩
 ·rw[htake]
  rw[List.any_eq_false]
  intro x hx
  obtain⟨j,hj,rfl⟩:=List.mem_map.1 hx
  obtain⟨j1,_⟩:=VB _ hj
  have hrj:s.2.2.2.2[j]? =some s.2.2.2.2[j]:=Y8 (by omega)
  have:=List.any_eq_false.1 h.nm s.2.2.2.2[j] (List.mem_take_iff_getElem.2 ⟨j,by omega,rfl⟩)
  rw[e1A hrj];exact this
 ·unfold PY at d2 ⊢
  simp only[e3V]
  exact d2
 ·unfold e1J
  simp only
  rcases hpar with e | ⟨a,ra,a1,a2,a3,a4,a5⟩
  ·rw[e];rfl
  ·have hlt:=e3k a1 a2
   rw[a3,E5 (show((Jp (onA s T) a:Nat):Int)≠-1 by omega),E9 (show(0:Int)≤(Jp (onA s T) a:Nat) by omega),H7 (show((Jp (onA s T) a:Nat):Int)<((kap s T i:Nat):Int) by unfold kap;omega)]
   simp only[o5]
   rw[D8,show(sOn T s).2.2.2.2[Jp (onA s T) a]? =some (rOn s T a)from e1G (by omega) a2,e1A a4]
   simp only
   rw[F5 a5];rfl
 ·rw[htake]
  simp only
  have h1:=e2s s T s.2.2.2.2[i].2.1 i (by omega)
  have h2:=h.ct
  rw[BF]at h2 ⊢
  omega
theorem e2h (l:L6) (T:Int) (kind k:Nat) (n:List UInt8):yg (lOn T l) kind k n=yg l kind k n:=by
 have e1:∀(L:List V8),(L.map (tOn T)).any (fun x=>seq x.1 n)=L.any fun x=>seq x.1 n:=fun L=>by rw[List.any_map];rfl
 have e2:∀(L:List A8),(L.map (sOn T)).any (fun x=>seq x.1 n)=L.any fun x=>seq x.1 n:=fun L=>by rw[List.any_map];rfl
 unfold yg
 split
 ·rfl
 ·show((l.1.any fun x=>seq x.1 n) || (((l.2.1.map (tOn T)).take k).any fun x=>seq x.1 n))=_
  rw[←List.map_take,e1]
 ·show((l.1.any fun x=>seq x.1 n) || ((l.2.1.map (tOn T)).any fun x=>seq x.1 n) || (((l.2.2.map (sOn T)).take k).any fun x=>seq x.1 n))=_
  rw[←List.map_take,e1,e2]
theorem e2u {r:Int×Int} {T:Int} (h:Jq r T=true):Bv r=true∧r.1≤T∧T<r.2:=by
 unfold Jq at h
 cases h1:Bv r <;> rw[h1]at h
 ·cases h
 cases h2:ile r.1 T <;> rw[h2]at h
 ·cases h
 exact⟨rfl,jv.1 h2,dZ.1 h⟩
theorem e3l {a b:uw} {T:Int} (ha:Jq a.1 T=true) (hb:Jq b.1 T=true) (h:qR a b=false):qR (mi,a.2) (mi,b.2)=false:=by
 obtain⟨a1,a2,a3⟩:=e2u ha
 obtain⟨b1,b2,b3⟩:=e2u hb
 have e:(PT a.1 b.1).2=true:=by
  unfold PT
  rw[a1,b1]
  simp only[o6]
  have hq:fO a.1.1 b.1.1<jf a.1.2 b.1.2:=by
   unfold fO jf;split <;> split <;> omega
  rw[H7 hq];rfl
 unfold qR at h ⊢
 rw[e]at h
 rw[show(PT (mi,a.2).1 (mi,b.2).1).2=true from rfl]
 exact h
theorem e4q {t:V8} {en:List bK} {T:Int} (h:(Hm t en).2=0):(Hm (tOn T t) en).2=0:=by
 unfold Hm at h ⊢
 cases g4:ilt 64 (o8 t.2.2.2) <;> rw[g4]at h
 case true=>exact absurd (show(4:Int)=0 from h) (by decide)
 have hle:(tOn T t).2.2.2.length≤t.2.2.2.length:=by
  show((t.2.2.2.filter _).map _).length≤_
  rw[List.length_map];exact List.length_filter_le _ _
 rw[show ilt 64 (o8 (tOn T t).2.2.2)=false from E9 (by rw[aV]at g4;unfold o8 at g4 ⊢;omega)]
 cases g5:vty t.2.1 en <;> rw[g5]at h
 ·exact absurd (show(8:Int)=0 from h) (by decide)
 cases g6:vty t.2.2.1 en <;> rw[g6]at h
 ·exact absurd (show(8:Int)=0 from h) (by decide)
 rw[show vty (tOn T t).2.1 en=true from g5,show vty (tOn T t).2.2.1 en=true from g6]
 simp only[o6,o5]at h ⊢
 have hn:∀j,j<t.2.2.2.length→Tq t en j=none:=e1x (n:=t.2.2.2.length) (p:=Tq t en) (fun q hf=>by
  rw[show(List.range t.2.2.2.length).findSome? (Tq t en)=some q from hf]at h
  obtain⟨j,_,hj⟩:=aW hf
  unfold Tq at hj
  split at hj
  ·rename_i x _
   cases k1:MQ x (bnd t.2.1 en) (bnd t.2.2.1 en) <;> rw[k1]at hj
   ·revert hj
    cases (t.2.2.2.take j).any fun y=>qR y x
    ·intro hj;cases hj
    ·intro hj;cases hj;exact absurd h (by show ¬(11:Int)=0;decide)
   ·cases hj;exact absurd h (by show ¬(3:Int)=0;decide)
  ·cases hj)
 have hrow:∀(j:Nat) (r:uw),t.2.2.2[j]? =some r→MQ r (bnd t.2.1 en) (bnd t.2.2.1 en)=false∧((t.2.2.2.take j).any fun y=>qR y r)=false:=fun j r hj=>by
  have:=hn j (O6.1 hj).1
  unfold Tq at this
  rw[hj]at this
  simp only at this
  cases k1:MQ r (bnd t.2.1 en) (bnd t.2.2.1 en) <;> rw[k1]at this
  ·refine⟨rfl,?_⟩
   cases k2:(t.2.2.2.take j).any fun y=>qR y r <;> rw[k2]at this
   cases this
  ·cases this
 have hpw:t.2.2.2.Pairwise fun y x=>qR y x=false:=by
  rw[List.pairwise_iff_getElem]
  intro i j hi hj hij
  have:=(hrow j _ (Y8 hj)).2
  have h3:=List.any_eq_false.1 this t.2.2.2[i] (List.mem_take_iff_getElem.2 ⟨i,by omega,rfl⟩)
  simpa using h3
 have hpw2:(tOn T t).2.2.2.Pairwise fun y x=>qR y x=false:=by
  show((t.2.2.2.filter fun r=>Jq r.1 T).map fun r=>((mi,r.2):uw)).Pairwise _
  rw[List.pairwise_map]
  refine List.Pairwise.imp_of_mem ?_ (hpw.filter _)
  intro a b ha hb hc
  exact e3l (List.mem_filter.1 ha).2 (List.mem_filter.1 hb).2 hc
 have hnone:(List.range (tOn T t).2.2.2.length).findSome? (Tq (tOn T t) en)=none:=by
  rw[List.findSome?_eq_none_iff]
  intro j hj
  have hj:=List.mem_range.1 hj
  have e:=Y8 hj
  unfold Tq
  rw[e]
  simp only
  have hm:(tOn T t).2.2.2[j]∈(tOn T t).2.2.2:=List.getElem_mem hj
  obtain⟨q,hq,hqe⟩:=List.mem_map.1 (show(tOn T t).2.2.2[j]∈(t.2.2.2.filter fun r=>Jq r.1 T).map fun r=>((mi,r.2):uw)from hm)
  obtain⟨q1,q2⟩:=List.mem_filter.1 hq
  obtain⟨i,hi,hie⟩:=List.getElem_of_mem q1
  have hw:=(hrow i q (by rw[Y8 hi,hie])).1
  have hw2:MQ (tOn T t).2.2.2[j] (bnd (tOn T t).2.1 en) (bnd (tOn T t).2.2.1 en)=false:=by
   rw[←hqe]
   unfold MQ at hw ⊢
   rw[show Bv (mi,q.2).1=true from rfl,show ieq (mi,q.2).1.1 (mi,q.2).1.2=false from rfl]
   cases d1:Bv q.1 <;> rw[d1]at hw
   ·cases hw
   cases d2:ieq q.1.1 q.1.2 <;> rw[d2]at hw
   case true=>cases hw
   exact hw
  rw[hw2]
  have hc:(((tOn T t).2.2.2.take j).any fun y=>qR y (tOn T t).2.2.2[j])=false:=by
   rw[List.any_eq_false]
   intro y hy
   obtain⟨i,hi,rfl⟩:=List.mem_take_iff_getElem.1 hy
   have:=List.pairwise_iff_getElem.1 hpw2 i j (by omega) hj (by omega)
   simpa using this
  rw[hc];rfl
 rw[hnone]
theorem e3W {s:A8} {T d:Int} :∀x∈H9 (sOn T s) d,x∈H9 s d:=by
 intro x hx
 unfold H9 at hx ⊢
 have hn:nD (sOn T s)=nD s:=rfl
 rw[hn]at hx
 cases hq:inD (nD s) d <;> rw[hq]at hx
 ·simp at hx
 ·obtain⟨r,hr,h1,h2⟩:=a6z.1 ((qY _ _).1 hx)
  obtain⟨i,hi,rfl⟩:=List.mem_map.1 hr
  obtain⟨i1,_⟩:=e1Z hi
  have hri:s.2.2.2.2[i]? =some s.2.2.2.2[i]:=Y8 i1
  rw[e1A hri]at h1 h2
  exact(qY _ _).2 (a6z.2 ⟨s.2.2.2.2[i],List.getElem_mem i1,h1,h2⟩)
theorem e3H {s:A8} {T d:Int} :∀x∈U3 (sOn T s) d,x∈U3 s d:=by
 obtain⟨_,a2,a3,_⟩:=qK s d
 obtain⟨_,_,_,b4⟩:=qK (sOn T s) d
 exact fun x hx=>b4 (fun z=>z∈U3 s d) (fun y hy=>a2 y (e3W y hy)) (fun y hy z hz=>a3 y hy z (e3W z hz)) x hx
theorem e3E {l:L6} (h:(aP l).1=0) {i:Nat} {s:A8} (hs:l.2.2[i]? =some s) (T:Int):(xX (lOn T l) i (sOn T s)).1=0:=by
 have hz:=a9Q h hs
 have hp:=(MP h hs).2
 have hm:=(MP h hs).1
 have hac:=Jc h hs
 unfold xX at hz ⊢
 rw[e2h]
 have e1:xR (lOn T l) i (sOn T s).2.1=xR l i s.2.1:=by
  unfold xR
  show l7 (ieq s.2.1 (-1)) false (l7 (ilt s.2.1 0) true (l7 (ile (i:Int) s.2.1) true (match lat (l.2.2.map (sOn T)) s.2.1 with | some q=>D6 (ieq q.2.1 (-1)) | none=>true)))=_
  rw[e1v]
  cases lat l.2.2 s.2.1 <;> rfl
 rw[e1]
 rw[show(sOn T s).1=s.1 from rfl,show(sOn T s).2.2.1=s.2.2.1 from rfl,show(sOn T s).2.2.2.1=s.2.2.2.1 from rfl]
 cases g1:yz s.1 <;> rw[g1]at hz
 ·exact absurd (show(2:Int)=0 from hz) (by decide)
 cases g2:yg l 3 i s.1 <;> rw[g2]at hz
 case true=>exact absurd (show(7:Int)=0 from hz) (by decide)
 rw[hm]
 cases g4:ilt 12 (o8 s.2.2.1) <;> rw[g4]at hz
 case true=>
  rw[hm]at hz
  exact absurd (show(4:Int)=0 from hz) (by decide)
 cases g5:ilt 12 (o8 s.2.2.2.1) <;> rw[g5]at hz
 case true=>
  rw[hm]at hz
  exact absurd (show(4:Int)=0 from hz) (by decide)
 simp only[o6,o5]
 have hf:yu l s=none:=by
  unfold LK at hp
  cases h1:yu l s with
  | some q=>rw[h1]at hp;exact absurd hp (Fb h1)
  | none=>rfl
 have hf2:yu (lOn T l) (sOn T s)=none:=hf
 have hV:∀(j:Nat) (r:X0),s.2.2.2.2[j]? =some r→RuleV s (BL l s) j r:=fun j r hr=>e4m (a1p h hs hr)
 unfold LK
 rw[hf2]
 simp only
 have hr:P9 (sOn T s).2.2.2.2.length (CW (lOn T l) (sOn T s))=none:=by
  unfold P9
  rw[List.findSome?_eq_none_iff]
  intro j hj
  have hj:j<((dG s T).map (rOn s T)).length:=List.mem_range.1 hj
  rw[List.length_map]at hj
  have hk:(dG s T)[j]? =some (dG s T)[j]:=Y8 hj
  obtain⟨k1,k2⟩:=e1Z (List.getElem_mem hj)
  have hcj:kap s T (dG s T)[j]=j:=by
   have h1:(dG s T)[kap s T (dG s T)[j]]? =some (dG s T)[j]:=a2i _ k1 k2
   exact a4w (a0a _ _) h1 hk
  have hv:=e2Z (T:=T) hV k1 k2
  rw[hcj]at hv
  have hrj:(sOn T s).2.2.2.2[j]? =some (rOn s T (dG s T)[j]):=by
   have:=e1G k1 k2
   rw[hcj]at this;exact this
  unfold CW
  rw[hrj]
  simp only
  rw[e4o,hv.zero];rfl
 rw[hr]
 simp only
 have hc:P9 (sOn T s).2.2.2.1.length (Ou (sOn T s))=none:=by
  unfold P9
  rw[List.findSome?_eq_none_iff]
  intro j hj
  have hj:j<s.2.2.2.1.length:=List.mem_range.1 hj
  unfold Ou
  have e:((U3 (sOn T s) (j:Int)).any fun x=>ieq (j:Int) x)=false:=by
   rw[List.any_eq_false]
   intro x hx hq
   have hx2:=e3H x hx
   rw[←P6.1 hq]at hx2
   exact hac (j:Int) (by omega) (by unfold nD o8;omega) hx2
  rw[e];rfl
 rw[hc]
theorem e2C {l:L6} (h:(aP l).1=0) (T:Int):(aP (lOn T l)).1=0:=by
 have h0:=h
 unfold aP at h0
 cases h1:ieq (Iu l).1 0 <;> rw[h1]at h0
 ·simp only[o5]at h0;rw[F5 h0]at h1;cases h1
 cases h2:ieq (Ep l).1 0 <;> rw[h2]at h0
 ·simp only[o6,o5]at h0;rw[F5 h0]at h2;cases h2
 simp only[o6]at h0
 have ee:Iu (lOn T l)=Iu l:=by
  have:Nb (lOn T l)=Nb l:=by
   funext i
   unfold Nb
   show(match l.1[i]? with | some e=>KZ 1 i (PU (lOn T l) i e) | none=>none)=_
   cases l.1[i]? with
   | none=>rfl
   | some e=>
    simp only
    unfold PU
    rw[e2h]
  unfold Iu
  rw[this];rfl
 have et:(Ep (lOn T l)).1=0:=by
  have h3:=P6.1 h2
  unfold Ep at h3 ⊢
  rw[show o8 (lOn T l).2.1=o8 l.2.1 by show((l.2.1.map _).length:Int)=_;rw[List.length_map];rfl]
  cases g:ilt 8 (o8 l.2.1) <;> rw[g]at h3
  case true=>exact absurd (show(4:Int)=0 from h3) (by decide)
  simp only[o5]at h3 ⊢
  have hn:∀i,i<l.2.1.length→Gl l i=none:=e1x (fun r hf=>by
   rw[hf]at h3
   obtain⟨j,_,hj⟩:=aW hf
   unfold Gl at hj
   split at hj
   ·exact TZ hj h3
   ·cases hj)
  have hn2:P9 (lOn T l).2.1.length (Gl (lOn T l))=none:=by
   unfold P9
   rw[List.findSome?_eq_none_iff]
   intro j hj
   have hj:j<(l.2.1.map (tOn T)).length:=List.mem_range.1 hj
   rw[List.length_map]at hj
   have e:=Y8 hj
   have hz:=hn j hj
   unfold Gl at hz ⊢
   rw[e]at hz
   rw[show(lOn T l).2.1[j]? =some (tOn T l.2.1[j]) by show(l.2.1.map (tOn T))[j]? =_;rw[List.getElem?_map,e];rfl]
   simp only at hz ⊢
   have hz:=e1X hz
   unfold RU at hz ⊢
   rw[e2h]
   rw[show(tOn T l.2.1[j]).1=l.2.1[j].1 from rfl]
   cases g1:yz l.2.1[j].1 <;> rw[g1]at hz
   ·exact absurd (show(2:Int)=0 from hz) (by decide)
   cases g2:yg l 2 j l.2.1[j].1 <;> rw[g2]at hz
   case true=>exact absurd (show(7:Int)=0 from hz) (by decide)
   cases g3:ieq (Hm l.2.1[j] l.1).2 0 <;> rw[g3]at hz
   ·simp only[o6,o5]at hz;rw[F5 hz]at g3;cases g3
   rw[show ieq (Hm (tOn T l.2.1[j]) (lOn T l).1).2 0=true from F5 (e4q (P6.1 g3))]
   rfl
  rw[hn2]
 have es:(Ky (lOn T l)).1=0:=by
  unfold Ky at h0 ⊢
  rw[show o8 (lOn T l).2.2=o8 l.2.2 by show((l.2.2.map _).length:Int)=_;rw[List.length_map];rfl]
  cases g:ilt 4 (o8 l.2.2) <;> rw[g]at h0
  case true=>exact absurd (show(4:Int)=0 from h0) (by decide)
  simp only[o5]
  have hn2:P9 (lOn T l).2.2.length (BK (lOn T l))=none:=by
   unfold P9
   rw[List.findSome?_eq_none_iff]
   intro j hj
   have hj:j<(l.2.2.map (sOn T)).length:=List.mem_range.1 hj
   rw[List.length_map]at hj
   have e:=Y8 hj
   unfold BK
   rw[show(lOn T l).2.2[j]? =some (sOn T l.2.2[j]) by show(l.2.2.map (sOn T))[j]? =_;rw[List.getElem?_map,e];rfl]
   simp only
   unfold KZ
   rw[F5 (e3E h e T)];rfl
  rw[hn2]
 unfold aP
 rw[ee,h1]
 simp only[o6]
 rw[F5 et]
 exact es
theorem e3G {s:A8} (h:SmS s) (T:Int):SmS (sOn T s):=by
 refine⟨h.nm,h.ni,h.nd,?_,h.fo,fun r hr=>?_⟩
 ·show((dG s T).map (rOn s T)).length≤60
  rw[List.length_map];exact Nat.le_trans (e2w s T) h.nr
 ·obtain⟨i,hi,rfl⟩:=List.mem_map.1 (show r∈(dG s T).map (rOn s T)from hr)
  obtain⟨i1,_⟩:=e1Z hi
  rw[e1A (Y8 i1)]
  exact h.ro s.2.2.2.2[i] (List.getElem_mem i1)
theorem e4p {l:L6} (h:SmL l) (T:Int):SmL (lOn T l):=by
 obtain⟨f1,f2,f3⟩:=h.few
 refine⟨⟨f1,?_,?_⟩,h.en,fun t ht=>?_,fun s hs=>?_⟩
 ·show(l.2.1.map (tOn T)).length≤1000
  rw[List.length_map];exact f2
 ·show(l.2.2.map (sOn T)).length≤1000
  rw[List.length_map];exact f3
 ·obtain⟨q,hq,rfl⟩:=List.mem_map.1 (show t∈l.2.1.map (tOn T)from ht)
  exact h.tb q hq
 ·obtain⟨q,hq,rfl⟩:=List.mem_map.1 (show s∈l.2.2.map (sOn T)from hs)
  exact e3G (h.sc q hq) T
theorem e3P (l:L6) (k:Int) (c:U8) (T:Int):BV (lOn T l) k c=BV l k c:=by
 have hm:∀s:A8,wH (lOn T l) (sOn T s)=wH l s:=fun s=>by
  unfold wH
  show(match lat (l.2.2.map (sOn T)) s.2.1 with | some q=>(q.2.2.1,(8:Int)) | none=>([],0))=_
  rw[e1v]
  cases lat l.2.2 s.2.1 <;> rfl
 unfold BV
 rw[show lat (lOn T l).2.2 k=(lat l.2.2 k).map (sOn T)from e1v _ _ _]
 cases lat l.2.2 k with
 | none=>rfl
 | some s=>
  simp only[Option.map_some]
  rw[hm s];rfl
theorem e3N {l:L6} {k:Int} {c:U8} (T:Int) (h:(pV l k c false 0).1=0):(pV (lOn T l) k c false 0).1=0:=by
 obtain⟨hv,s,hs⟩:=pW h
 have hv2:=e2C hv T
 unfold pV at h ⊢
 rw[F5 hv,hs]at h
 rw[F5 hv2,show lat (lOn T l).2.2 k=(lat l.2.2 k).map (sOn T)from e1v _ _ _,hs,e3P]
 exact h
theorem e2U {l:L6} {k:Int} {c:U8} (h:(pV l k c false 0).1=0):0≤c.1∧c.1≤109572:=by
 obtain⟨hv,s,hs⟩:=pW h
 unfold pV at h
 rw[F5 hv,hs]at h
 simp only[o6,o5]at h
 cases h1:ieq (BV l k c).2.2 0 <;> rw[h1]at h
 ·simp only[o5]at h;rw[F5 h]at h1;cases h1
 have h1:=P6.1 h1
 unfold BV at h1
 rw[hs]at h1
 simp only at h1
 cases g1:ilt c.1 0 <;> rw[g1]at h1
 case true=>exact absurd (show(3:Int)=0 from h1) (by decide)
 cases g2:ilt 109572 c.1 <;> rw[g2]at h1
 case true=>exact absurd (show(3:Int)=0 from h1) (by decide)
 rw[aV]at g1 g2
 exact⟨g1,g2⟩
theorem e3i {l:L6} {k:Int} {c:U8} :(pV l k c false 0).1=0∨(pV l k c false 0).2.2.1=-1:=by
 unfold pV
 cases ieq (aP l).1 0
 ·exact .inr rfl
 cases lat l.2.2 k with
 | none=>exact .inr rfl
 | some s=>
  simp only[o6,o5]
  cases ieq (BV l k c).2.2 0
  ·exact .inr rfl
  ·exact .inl rfl
theorem e2Q {l:L6} (hL:SmL l) (h:(aP l).1=0) {k:Int} {s:A8} (hs:lat l.2.2 k=some s) {T:Int} (h0:0≤T) (h1:T≤109572):OnOk s T:=by
 obtain⟨_,_,sm,s2⟩:=V5 hs
 have hv2:=e2C h T
 have hs2:(lOn T l).2.2[k.toNat]? =some (sOn T s):=by show(l.2.2.map (sOn T))[k.toNat]? =_;rw[List.getElem?_map,s2];rfl
 have hS:=hL.sc s sm
 obtain⟨a1,a2⟩:=IK hS (Jc h s2)
 obtain⟨b1,b2⟩:=IK (e3G hS T) (Jc hv2 hs2)
 refine⟨h0,h1,a1,a2,b1,b2,fun d r hr hd e he=>⟨(Du h s2 d r hr hd e he).1,fun _ _=>trivial⟩,fun d r hr hd e he=>⟨(Du hv2 hs2 d r hr hd e he).1,fun _ _=>trivial⟩⟩
theorem e2Y {T:Int} (h0:0≤T) (h1:T≤109572):OnOk rY T:=by
 have hac:∀d,0≤d→d<nD rY→d∉U3 rY d:=fun d d0 d1=>absurd d1 (by show ¬d<(0:Int);omega)
 obtain⟨a1,a2⟩:=IK ZW hac
 refine⟨h0,h1,a1,a2,?_,?_,fun d r hr=>?_,fun d r hr=>?_⟩
 ·rw[e1D];exact a1
 ·rw[e1D];exact a2
 ·cases hr
 ·rw[e1D]at hr;cases hr
theorem e1Y {l:L6} (hW:WfL l) (k:Int) (c:U8):e1w l k c=some true:=by
 unfold e1w
 rw[Gi,o7,ER]
 cases hl:smL l
 ·rfl
 cases hc:smC c
 ·rfl
 obtain⟨hL,hT⟩:=RF hl hW
 have hC:=IZ hc
 have hcm:=hC.nm
 rw[a0u hL hC hT]
 simp only[o6,o9,o5,o7]
 by_cases hA:(pV l k c false 0).1=0
 case neg=>
  rw[if_neg hA]
  rcases e3i (l:=l) (k:=k) (c:=c)with h | h
  ·exact absurd h hA
  simp only
  rw[E5 hA,F7 (show(pV l k c false 0).2.2.1<0 by rw[h];decide)]
  cases ieq (pV l k c false 0).1 1 <;> rfl
 rw[if_pos hA]
 obtain⟨h,s,hs⟩:=pW hA
 obtain⟨d0,d1⟩:=e2U hA
 have hS:=hL.sc s (V5 hs).2.2.1
 have hM:=xy hL h hs
 have hA2:=e3N c.1 hA
 have hs' :lat (lOn c.1 l).2.2 k=some (sOn c.1 s):=by
  rw[show lat (lOn c.1 l).2.2 k=(lat l.2.2 k).map (sOn c.1)from e1v _ _ _,hs];rfl
 have hT' :∀t∈(lOn c.1 l).2.1,ku t:=fun t ht=>by
  obtain⟨q,hq,rfl⟩:=List.mem_map.1 (show t∈l.2.1.map (tOn c.1)from ht)
  exact e1N (hT q hq) c.1
 have hlaw:=e3p hL hT (fun e he=>by have:=e2i h e he;omega) c.1
 have hrun:=a0u (k:=k) (e4p hL c.1) hC hT'
 rw[if_pos hA2,hs']at hrun
 have hOm:OnOk (G9 l s) c.1:=by
  rcases uu h hs with⟨_,_,g⟩ | ⟨_,_,_,g,_⟩
  ·rw[g];exact e2Y d0 d1
  ·exact e2Q hL h g d0 d1
 have key:=e4n (e2Q hL h hs d0 d1) hOm hT hcm
 have hres:=(a7D hS hM hC)
 rw[hs]
 dsimp only at hrun ⊢
 rw[hlaw,o7,hrun,o7]
 generalize YA l s c=R at key hres ⊢
 generalize YA (lOn c.1 l) (sOn c.1 s) c=R' at key ⊢
 rcases key with⟨k1,k2,k3,k4⟩ | ⟨k1,k2,k3,k4⟩
 ·rw[E5 (show R.2.1≠1 by rw[k1];decide),F5 k1,F5 k2,←k3,DL k4]
  simp only[o9,o5,o7,C9]
  rw[Oj hres.1]
  simp only[o7,o6,F5]
  rfl
 ·cases ieq R.2.1 1
  case true=>rfl
  rw[E5 k1,E5 k2]
  cases ilt R.2.2.2.1 0
  case true=>rfl
  rw[k3,k4]
  rfl
theorem e1W:∀x,Di Gt.ps7 x→(Gt.s7.fn x:Option Bool)=some true:=fun x h=>e1Y (Zc h.1) x.2.1 x.2.2
end Go.GP
