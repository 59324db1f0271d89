import Derived.Test.YtajdhhiemabdmaaGreatDoorV0
import Derived.Laws.MakeOwn
import Derived.ArgAppend
import Derived.MapKept
import Derived.WideKeyRuns
import Derived.Lib.AppendStr
import Derived.Laws.IdiomStrings
import Derived.Orders
import Derived.LoopN
set_option linter.all false
namespace Go.GP
variable {α:Type}{us:List α}{L:List α}{p:Nat}
theorem nU(h:p+us.length<=L.length)(i:Nat):
  (Z8 p us L)[i]? =if i<p then L[i]? else if i<p+us.length then us[i -p]? else L[i]?:=by
 unfold Z8;rw[G7];by_cases h1:i<p
 .rw[if_pos h1,S9 az,U1,if_pos h1]
 .rw[if_neg h1,J4 az];have e:(L.take p).length=p:=by simp;omega
  rw[e];by_cases h2:i<p+us.length
  .rw[if_pos h2,S9 o5]
  .rw[if_neg h2,J4 o5,L6];congr 1;omega
theorem qx(h:p+us.length<=L.length):(Z8 p us L).length=L.length:=by unfold Z8;simp;omega
variable {b:Nat}{n:Nat}
theorem a0e(h:p+us.length<=L.length)(hd:b+n<=p\/p+us.length<=b):((Z8 p us L).drop b).take n=(L.drop b).take n:=by
 apply aI;intro i;rw[U1,U1];split
 .rw[L6,L6,nU h];rcases hd with hd|hd
  .rw[if_pos o5]
  .rw[if_neg o5,if_neg o5]
 .rfl
variable {off:Nat}
theorem Jm(h:b+n<=L.length)(ho:off+us.length<=n):((Z8 (b+off) us L).drop b).take n=Z8 off us ((L.drop b).take n):=by
 have hl:((L.drop b).take n).length=n:=by simp;omega
 apply aI;intro i;rw[U1,nU (by rw[hl];exact ho)];by_cases hi:i<n
 .rw[if_pos hi,L6,nU o5,U1,if_pos hi,L6];by_cases h1:i<off
  .rw[if_pos o5,if_pos h1]
  .rw[if_neg o5,if_neg h1];by_cases h2:i<off+us.length
   .rw[if_pos o5,if_pos h2];congr 1;omega
   .rw[if_neg o5,if_neg h2]
 .rw[if_neg hi,if_neg o5,if_neg o5,U1,if_neg hi]
variable {blk:Nat}
theorem Iu{w:World}{c:Array Value}{T:TypeId}{f:Nat×Nat}(hb:w.heap[blk]? =some (.cells c T f))(L:c2h)(off n:Nat)(h:off+n<=L.length):
  bD (w.setRow blk L.toArray).heap blk off n=some ((L.drop off).take n):=by
 rw[fJ (setRow_heap w blk c L.toArray T f hb) off n (by simpa using h)]
theorem a2I{a b:Nat}(h:a<b):Nat.blt a b=true:=by unfold Nat.blt;exact Nat.ble_eq_true_of_le h
theorem a2H{a b:Nat}(h:¬a<b):Nat.blt a b=false:=by
 cases e:Nat.blt a b
 .rfl
 .exact absurd (EG e) h
theorem lw{α:Type} :∀{Os:List (List α)} {i:Nat} {O1 P O2:List α},Os[i]? =some (O1++P++O2)->Os.flatten.Perm ((Os.set i (O1++O2)).flatten++P)
 |[],i,_,_,_,h=>by simp at h|A::Os,0,O1,P,O2,h=>by simp at h;subst h;simp only[List.set_cons_zero,List.flatten_cons,G7];refine mg O1 ?_;have:=(fM (l₁:=P) (l₂:=O2++Os.flatten));simpa using this|A::Os,i+1,O1,P,O2,h=>by simp at h;simp only[List.set_cons_succ,List.flatten_cons,G7];exact mg A (lw (by simpa using h))
variable {Op:c2i}{idx:Nat}{Q:α->Sm->Prop}{t:TypeId}{md:M}{xs:List md.den}{K:Cmd α}{bx:Nat}{u:Value}{i:Nat}{k:Option Nat}{sz:Nat}{q:Nat}{x:Operand}
section
variable {X:Fx} {cl ch:Nat} {S:Sm} {m:Mp} {ok:Nat->Ty->Prop} {a:Act} {w:World} {o:Oper}
theorem a8P{h h' :Array Obj}{ok:Nat->Ty->Prop}{m:Mp}(k:∀b t,ok b t->h'[b]? =h[b]?){cs:List V}{vs:c2h}(hr:dD ⟨h,ok,m⟩ cs vs):dD ⟨h',ok,m⟩ cs vs:=
 CE (C:=⟨h,ok,m⟩) (D:=⟨h',ok,m⟩) ⟨λ_ _ h=>h,k,λ_ _ h=>h⟩ hr
theorem Fp{α:Type}{Q:α->Sm->Prop}{S:Sm}{h:Array Obj}{ok:Nat->Ty->Prop} :∀(md:M) (off:Nat) {x:md.den} {es:c2h} {O:c2i} {K:V->Cmd α} (hr:jm h ok md none x es O)
  (hK:∀v l ks u O1 Op O2,O=O1++Op++O2->jm h ok md (some off) x es (O1++O2)->es[off]? =some u->l.view none u->
   (∀mp n,xY ⟨h,ok,jo mp n l ks⟩ n v/\L9 (jo mp n l ks) n v=Op/\jo mp n l ks n=some l)->v≠.undef->(K v).post S Q),
  (PI md off x K .fail).post S Q
 | .own t,off,x,es,O,K,hr,hK=>by unfold PI;refine aS λhb=>?_;have:=bQ hb;subst this;obtain⟨l,v,rfl,hv,ha,rfl⟩:=rF.1 hr;refine hK _ l [] v [] l.blks [] A8 ⟨v,rfl,iC hv,rfl⟩ rfl hv (λmp n=>⟨⟨l,A8,Aj ha⟩,?_,A8⟩) A8;cases l<;>first|(simp[L9,Loc.blks];done)|cases ha
 | .owns md,off,x,es,O,K,hr,hK=>by unfold PI;refine aS λhb=>?_;have:=bQ hb;subst this;obtain⟨he,l,v,Os,rfl,hv,ha,rfl⟩:=sW.1 hr;refine hK _ l Os.flatten v [] (l.blks++Os.flatten) [] A8 ⟨v,rfl,iC hv,rfl⟩ rfl hv (λmp n=>⟨⟨he,l,Os,A8,⟨ha,trivial⟩,A8⟩,?_,A8⟩) A8;cases l<;>first|(simp[L9,Loc.blks];done)|cases ha
 | .pair p q,off,x,es,O,K,hr,hK=>by
  unfold PI;obtain⟨c,d,O1,O2,rfl,rfl,h1,h2⟩:=hr;have hc:=ae h1;by_cases hlt:off<p.size
  .have hb:Nat.blt off p.size=true:=a2I hlt;simp only[hb,cond_true];refine Fp p off h1 λv l ks u A Op B e1 e2 e3 e4 e5 e6=>?_;refine hK v l ks u A Op (B++O2) (by subst e1;simp) ⟨c,d,A++B,O2,rfl,A8,?_,?_⟩ (by rw[S9 (by rw[hc];exact hlt)];exact e3) e4 e5 e6
   .simp only[hlt,if_true];exact e2
   .simp only[hlt,if_true];exact h2
  .have hb:Nat.blt off p.size=false:=a2H hlt;simp only[hb,cond_false];refine Fp q (off -p.size) h2 λv l ks u A Op B e1 e2 e3 e4 e5 e6=>?_;refine hK v l ks u (O1++A) Op B (by subst e1;simp) ⟨c,d,O1,A++B,rfl,A8,?_,?_⟩ (by rw[J4 o5,hc];exact e3) e4 e5 e6
   .simp only[hlt,if_false];exact h1
   .simp only[hlt,if_false];exact e2
 | .dat _,_,_,_,_,_,_,_=>trivial| .unit,_,_,_,_,_,_,_=>trivial| .box _,_,_,_,_,_,_,_=>trivial| .ownb _,_,_,_,_,_,_,_=>trivial| .cell _,_,_,_,_,_,_,_=>trivial| .fr _,_,_,_,_,_,_,_=>trivial| .sbx _ _,_,_,_,_,_,_,_=>trivial| .lp _,_,_,_,_,_,_,_=>trivial| .dv ..,_,_,_,_,_,_,_=>trivial| .ownr ..,_,_,_,_,_,_,_=>trivial| .sit,_,_,_,_,_,_,_=>trivial| .rp _,_,_,_,_,_,_,_=>trivial| .fn _ _,_,_,_,_,_,_,_=>trivial| .ifc _ _,_,_,_,_,_,_,_=>trivial
def Nk(h:Array Obj)(ok:Nat->Ty->Prop)(v:V)(u:Value)(Op:c2i):Prop:=
 (v= .nl/\u= .slice none 0 0/\Op=[])\/(∃t ys l,v= .barr t ys/\l.view none u/\arrOk ⟨h,ok,nom⟩ t ys l/\Op=l.blks)\/
 (∃md ys l Os,v= .barrs md ys none/\md.el=true/\l.view none u/\pK h md.size (λ_ x es O=>jm h ok md none x es O) ys Os l/\Op=l.blks++Os.flatten)
theorem Nk.one{h:Array Obj}{v:V}(k:Nk h ok v u Op):u.oneCell' =true:=by
 rcases k with⟨_,rfl,_⟩|⟨_,_,l,_,hv,_⟩|⟨_,_,l,_,_,_,hv,_⟩
 .rfl
 .exact iC hv
 .exact iC hv
theorem Eg{α:Type}{Q:α->Sm->Prop}{S:Sm}{h:Array Obj}{ok:Nat->Ty->Prop}{v:V}{u:Value}{Op:c2i}(hp:Nk h ok v u Op):∀(md:M) (off:Nat) {ho:Option Nat} {x:md.den} {es:c2h} {O:c2i} {K:md.den->Cmd α}
  (hr:jm h ok md ho x es O) (hh:ho=none\/ho=some off) (hel:md.el=true)
  (hK:∀y O1 Old O2,O=O1++Old++O2->jm h ok md none y (es.set off u) (O1++Op++O2)->off<es.length->(K y).post S Q),
  (RX md off v x K .fail).post S Q
 | .own t,off,ho,x,es,O,K,hr,hh,hel,hK=>by
  unfold RX;refine aS λhb=>?_;have:=bQ hb;subst this;obtain⟨v0,rfl,_,_⟩:=hr;rcases hp with⟨rfl,rfl,rfl⟩|⟨t',ys,l,rfl,hv,ha,rfl⟩|⟨md',ys,l,Os,rfl,_,hv,ha,rfl⟩
  .have ht:t.isEnt=false:=by simpa[M.el]using hel
   simp only[ht,cond_false];exact hK [] [] O [] A8 ⟨_,rfl,rfl,.nil,rfl,⟨rfl,ht⟩,rfl⟩ A8
  .simp only;refine dw λe=>?_;subst e;exact hK _ [] O [] A8 ⟨u,rfl,iC hv,l,hv,ha,A8⟩ A8
  .trivial
 | .owns md,off,ho,x,es,O,K,hr,hh,hel,hK=>by
  unfold RX;refine aS λhb=>?_;have:=bQ hb;subst this;obtain⟨v0,rfl,_,_⟩:=hr;rcases hp with⟨rfl,rfl,rfl⟩|⟨t',ys,l,rfl,hv,ha,rfl⟩|⟨md',ys,l,Os,rfl,he,hv,ha,rfl⟩
  .exact hK [] [] O [] A8 ⟨_,rfl,rfl,by simpa[M.el]using hel,.nil,[],rfl,⟨rfl,rfl⟩,rfl⟩ A8
  .trivial
  .simp only;refine EH λe=>?_;subst e;exact hK _ [] O [] A8 ⟨u,rfl,iC hv,he,l,Os,hv,ha,A8⟩ A8
 | .pair p q,off,ho,x,es,O,K,hr,hh,hel,hK=>by
  unfold RX;obtain⟨c,d,O1,O2,rfl,rfl,h1,h2⟩:=hr;have hc:=ae h1;have hel' :p.el=true/\q.el=true:=by simpa[M.el]using hel
  by_cases hlt:off<p.size
  .have hb:Nat.blt off p.size=true:=a2I hlt;simp only[hb,cond_true];have h2' :jm h ok q none x.2 d O2:=by
    rcases hh with rfl|rfl
    .exact h2
    .simpa only[hlt,if_true]using h2
   refine Eg hp p off h1 (by rcases hh with rfl|rfl<;>first|exact .inl rfl|(right;simp only[hlt,if_true])) hel'.1 λy A Old B e1 e2 e3=>?_;refine hK _ A Old (B++O2) (by subst e1;simp) ⟨c.set off u,d,A++Op++B,O2,?_,A8,e2,h2'⟩ az;rw[List.set_append_left _ _ o5]
  .have hb:Nat.blt off p.size=false:=a2H hlt;simp only[hb,cond_false];have h1' :jm h ok p none x.1 c O1:=by
    rcases hh with rfl|rfl
    .exact h1
    .simpa only[hlt,if_false]using h1
   refine Eg hp q (off -p.size) h2 (by rcases hh with rfl|rfl<;>first|exact .inl rfl|(right;simp only[hlt,if_false])) hel'.2 λy A Old B e1 e2 e3=>?_;refine hK _ (O1++A) Old B (by subst e1;simp) ⟨c,d.set (off -p.size) u,O1,A++Op++B,?_,A8,h1',e2⟩ az;rw[mD _ _ o5,hc]
 | .dat _,_,_,_,_,_,_,_,_,_,_=>trivial| .unit,_,_,_,_,_,_,_,_,_,_=>trivial| .box _,_,_,_,_,_,_,_,_,_,_=>trivial| .ownb _,_,_,_,_,_,_,_,_,_,_=>trivial| .cell _,_,_,_,_,_,_,_,_,_,_=>trivial| .fr _,_,_,_,_,_,_,_,_,_,_=>trivial| .sbx _ _,_,_,_,_,_,_,_,_,_,_=>trivial| .lp _,_,_,_,_,_,_,_,_,_,_=>trivial| .dv ..,_,_,_,_,_,_,_,_,_,_=>trivial| .ownr ..,_,_,_,_,_,_,_,_,_,_=>trivial| .sit,_,_,_,_,_,_,_,_,_,_=>trivial| .rp _,_,_,_,_,_,_,_,_,_,_=>trivial| .fn _ _,_,_,_,_,_,_,_,_,_,_=>trivial| .ifc _ _,_,_,_,_,_,_,_,_,_,_=>trivial
theorem CY{α:Type}{Q:α->Sm->Prop}{C:Cx}{ln:Ty->Bool} :∀(t:Ty) {cs:List V} {K:t.den->List V->Cmd α} {S:Sm} {vs:c2h} (hf:t.flat=true) (hL:dD C cs vs)
  (hK:∀x r us us',vs=us++us' ->(∀h ok,iY h ok t x us)->dD C r us' ->(K x r).post S Q),(jv ln t cs K).post S Q
 | .bool,cs,K,S,vs,hf,hL,hK=>by
  unfold jv;split
  .obtain⟨v,r,rfl,h1,_,h3⟩:=hL;exact hK _ _ [v] r rfl (λ_ _=>by simp only[pW]at h1;simp[iY,h1]) h3
  .trivial
 | .int k,cs,K,S,vs,hf,hL,hK=>by
  unfold jv;split
  .obtain⟨v,r,rfl,h1,_,h3⟩:=hL;refine V7 λe=>?_;have e:=of_decide_eq_true e;subst e;exact hK _ _ [v] r rfl (λ_ _=>by simp only[pW]at h1;simp[iY,h1]) h3
  .trivial
 | .str,cs,K,S,vs,hf,hL,hK=>by
  unfold jv;split
  .obtain⟨v,r,rfl,h1,_,h3⟩:=hL;exact hK _ _ [v] r rfl (λ_ _=>by simp only[pW]at h1;simp[iY,h1]) h3
  .trivial
 | .unit,cs,K,S,vs,hf,hL,hK=>by unfold jv;exact hK _ _ [] vs rfl (λ_ _=>rfl) hL
 | .prod p q,cs,K,S,vs,hf,hL,hK=>by unfold jv;simp[Ty.flat]at hf;refine CY p hf.1 hL λx r us us' e1 h1 l1=>?_;refine CY q hf.2 l1 λy r' vs2 vs2' e2 h2 l2=>?_;subst e1;subst e2;exact hK _ _ (us++vs2) vs2' A8 (λh ok=>⟨us,vs2,rfl,h1 h ok,h2 h ok⟩) l2| .sl t,cs,K,S,vs,hf,hL,hK=>by simp[Ty.flat]at hf
theorem YR{us c d:List α}(h:off+us.length<=c.length):Z8 off us (c++d)=Z8 off us c++d:=by
 apply aI;intro i;have hs:=qx h;rw[nU az];by_cases hi:i<c.length
 .rw[S9 hi,S9 (l₁:=Z8 off us c) (by rw[hs];exact hi),nU h]
 .rw[J4 o5,J4 (l₁:=Z8 off us c) (by rw[hs];omega),hs,if_neg o5,if_neg o5]
theorem Xd{us c d:List α}(h:(off -c.length)+us.length<=d.length)(h' :c.length<=off):Z8 off us (c++d)=c++Z8 (off -c.length) us d:=by
 apply aI;intro i;rw[nU az];by_cases hi:i<c.length
 .rw[S9 hi,if_pos o5,S9 hi]
 .rw[J4 o5,J4 (l₂:=Z8 (off -c.length) us d) o5,nU h];by_cases h1:i<off
  .simp only[h1,if_true,show i -c.length<off -c.length by omega]
  .by_cases h2:i<off+us.length
   .simp only[h1,if_false,h2,if_true,show ¬(i -c.length<off -c.length) by omega,show i -c.length<off -c.length+us.length by omega];congr 1;omega
   .simp only[h1,if_false,h2,show ¬(i -c.length<off -c.length) by omega,show ¬(i -c.length<off -c.length+us.length) by omega]
theorem ND{α:Type}{Q:α->Sm->Prop}{h:Array Obj}{ok:Nat->Ty->Prop}{m:Mp} :∀(md:M) (off:Nat) {ho:Option Nat} {x:md.den} {es us:c2h} {vs:List V} {O:c2i} {K:md.den->Cmd α} {S:Sm}
  (hr:jm h ok md ho x es O) (hv:dD ⟨h,ok,m⟩ vs us)
  (hK:∀y,off+us.length<=es.length->jm h ok md ho y (Z8 off us es) O->(K y).post S Q),(a1x md off vs x K).post S Q
 | .dat t,off,ho,x,es,us,vs,O,K,S,hr,hv,hK=>by
  unfold a1x;refine V7 λhf=>xX _ _ _ λhle=>?_;rw[jY]at hle;obtain⟨hr,rfl⟩:=hr;have hl:=bY hr;have hlv:=gZ hv;have hnew:=yM (off:=off) hv (lT (C:=⟨h,ok,m⟩) hr);refine CY t hf hnew λy q vs1 vs2 e1 h1 l1=>?_;cases q with
  |cons _ _=>trivial|nil=>
  simp only[dD]at l1;subst l1;simp only[G6]at e1;subst e1;exact hK y o5 ⟨h1 _ _,rfl⟩
 | .pair p q,off,ho,x,es,us,vs,O,K,S,hr,hv,hK=>by
  unfold a1x;obtain⟨c,d,O1,O2,rfl,rfl,h1,h2⟩:=hr;have hc:=ae h1;by_cases hlt:off<p.size
  .have hb:Nat.blt off p.size=true:=a2I hlt;simp only[hb,cond_true];refine ND p off h1 hv λy hle e2=>?_;exact hK _ az ⟨_,d,O1,O2,YR hle,rfl,e2,h2⟩
  .have hb:Nat.blt off p.size=false:=a2H hlt;simp only[hb,cond_false];refine ND q (off -p.size) h2 hv λy hle e2=>?_;refine hK _ az ⟨c,_,O1,O2,?_,rfl,h1,e2⟩;rw[Xd o5 o5,hc]
 | .own _,_,_,_,_,_,_,_,_,_,_,_,_=>trivial| .owns _,_,_,_,_,_,_,_,_,_,_,_,_=>trivial| .unit,_,_,_,_,_,_,_,_,_,_,_,_=>trivial| .box _,_,_,_,_,_,_,_,_,_,_,_,_=>trivial| .ownb _,_,_,_,_,_,_,_,_,_,_,_,_=>trivial| .cell _,_,_,_,_,_,_,_,_,_,_,_,_=>trivial| .fr _,_,_,_,_,_,_,_,_,_,_,_,_=>trivial| .sbx _ _,_,_,_,_,_,_,_,_,_,_,_,_=>trivial| .lp _,_,_,_,_,_,_,_,_,_,_,_,_=>trivial| .dv ..,_,_,_,_,_,_,_,_,_,_,_,_=>trivial| .ownr ..,_,_,_,_,_,_,_,_,_,_,_,_=>trivial| .sit,_,_,_,_,_,_,_,_,_,_,_,_=>trivial| .rp _,_,_,_,_,_,_,_,_,_,_,_,_=>trivial| .fn _ _,_,_,_,_,_,_,_,_,_,_,_,_=>trivial| .ifc _ _,_,_,_,_,_,_,_,_,_,_,_,_=>trivial
theorem Ve(i:Nat):Uo none i=none:=rfl
theorem EW{i o j:Nat}(h:j≠i):Uo (some (i,o,k)) j=none:=by simp[Uo,h]
theorem IZ{i o:Nat} :Uo (some (i,o,k)) i=some o:=by simp[Uo]
theorem Ic{C:Cx}{hole:Option (Nat×Nat×Option Nat)}{blk off len cap sz:Nat}{Os:List c2i}(he:md.el=true)(hm:C.m n=some (.arr blk off len cap sz))
  (ha:pK C.h md.size (λi x es O=>jm C.h C.ok md (Uo hole i) x es O) xs Os (.arr blk off len cap sz)) (hk:C.m.kid n=Os.flatten) (hh:RP C md.size (.arr blk off len cap sz) hole):xY C n (.barrs md xs hole):=⟨he,_,Os,hm,⟨ha,hh⟩,hk⟩
theorem BV{j o2 idx off:Nat}(h:RN (some (j,o2,k)) idx off=true):j=idx/\o2=off:=by
 simp only[RN]at h;cases hb:Nat.beq o2 off<;>rw[hb]at h
 .cases h
 .exact⟨bQ h,bQ hb⟩
theorem a1M(H:FxOk X){S1:Sm}{m1:Mp}{ok1:Nat->Ty->Prop}{w0:World}(R:Rel X (CB*q) (CB*q+CB) S1 m1 ok1 a w)(hT:Tk X S1 m1 ok1 w Op)
  (hm:∀k l,m k=some l->m1 k=some l) (hok:∀b t,ok b t->ok1 b t) {v:V} {l:Loc} {ks:c2i} {x:Value} (hv:v≠.undef)
  (ho:L9 (jo m1 (J5 q o.dst) l ks) (J5 q o.dst) v=Op) (hB:xY ⟨w.heap,ok1,jo m1 (J5 q o.dst) l ks⟩ (J5 q o.dst) v)
  (hx:l.view none x) {bx idx off:Nat} {md:M} {xs:List md.den} (hS:S1 (U8+bx)= .barrs md xs (some (idx,off,none))) {blk o' len cap sz:Nat} (hmb:m1 bx=some (.arr blk o' len cap sz))
  (hc:bD w.heap blk (o' +idx*md.size+off) 1=some [x]) (hsz:sz=md.size)
  (run:(execOp a.eval o).run X.P w0= .ok (.value x) w):
  (pz (J5 q o.dst) v (Cmd.set (U8+bx) (.barrs md xs (some (idx,off,some (J5 q o.dst)))) (bJ X.E o.dst (.own (J5 q o.dst) none)))).post S1 (λ_ S' =>eX X (CB*q) (CB*q+CB) o a w0 m ok S'):=by
 refine kL λhn=>?_;have key:∀n,n=J5 q o.dst->CB*q<=n->n<CB*q+CB->∃R2:Rel X (CB*q) (CB*q+CB) (upd (upd S1 (U8+n) v) (U8+bx) (.barrs md xs (some (idx,off,some n)))) (jo m1 n l ks) ok1 a w,∀k l',m k=some l' ->jo m1 n l ks k=some l' :=by
  rintro n rfl h1 h2;obtain⟨R',_,hm'⟩:=R.adopt (T:=[]) hn h1 hv (by simpa using hT) (λb h=>by rw[ho]at h;exact h) (by rw[ho];exact hT.nodup) hB;rw[yI o5]at R';have hne:bx≠J5 q o.dst:=λe=>by have:=R.fresh _ h1 hn;rw[←e,hmb]at this;cases this
  have hS' :upd S1 (U8+J5 q o.dst) v (U8+bx)= .barrs md xs (some (idx,off,none)):=by rw[aA _ _ o5];exact hS
  have hb:=R'.box bx;rw[hS']at hb;obtain⟨hel,l0,Os,hm0,⟨ha,_⟩,hk⟩:=hb;have hmb' :=hm' _ _ hmb;simp only at hm0;rw[hmb']at hm0;cases hm0;refine⟨R'.mod (by rw[hS'];rfl) A8 rfl rfl rfl rfl (λ_ _=>rfl) ⟨hel,_,Os,hmb',⟨?_,?_⟩,hk⟩,λk l' h=>hm' k l' (hm k l' h)⟩
  .exact pF (λ_ _=>rfl) (λi x es O _ hr=>hr) ha
  .exact⟨blk,o',len,cap,x,l,by rw[hsz],hc,X8 _ _ _ _,hx⟩
 cases hd:o.dst with
 |none=>have hin:=lX H (q:=q) none (λt h=>by cases h);obtain⟨R2,hm2⟩:=key (J5 q none) (by rw[hd]) hin.1 o5;have:=mX (o:=o) H R2 (m0:=m) (ok0:=ok) hm2 hok (v:=.own (J5 q none) none) ⟨l,X8 _ _ _ _,hx⟩ run;rw[hd]at this;exact this
 |some t=>unfold bJ;refine cu (aS λhb' =>?_);have hin:=lX H (q:=q) (some t) (λt' h=>by cases h;exact(vg hb').1);obtain⟨R2,hm2⟩:=key (J5 q (some t)) (by rw[hd]) hin.1 o5;have:=mX (o:=o) H R2 (m0:=m) (ok0:=ok) hm2 hok (v:=.own (J5 q (some t)) none) ⟨l,X8 _ _ _ _,hx⟩ run;rw[hd]at this;unfold bJ at this;simp only[hb',cond_true]at this;exact this
theorem MK{C:Cx}{c:V} :∀{n:Nat} {cs:List V} {vs:c2h},dD C cs vs->(∀u,vs[n]? =some u->pW C c u)->dD C (setCell n c cs) vs
 |0,[],_,h,_=>h|_+1,[],_,h,_=>h|0,_::_,_,⟨v,r,e,h1,h2,h3⟩,hc=>by subst e;exact⟨v,r,rfl,hc v rfl,h2,h3⟩|n+1,_::_,_,⟨v,r,e,h1,h2,h3⟩,hc=>by subst e;exact⟨v,r,rfl,h1,h2,MK h3 (λu hu=>hc u (by simpa using hu))⟩
theorem Yo{C:Cx}{v:V}{es:c2h}{k n:Nat}{l:Loc}{x:Value}(hv:iI C v u)(hu:u= .agg es.toArray)(hx:es[k]? =some x)(hn:C.m n=some l)(hl:l.view none x):iI C (d_ k n v) u:=by
 cases v<;>try exact hv
 case agg cs=>obtain⟨arr,e,h⟩:=hv;refine⟨arr,e,MK h λu' hu' =>?_⟩;rw[e]at hu;injection hu with hu;subst hu;simp only at hu';rw[hx]at hu';cases hu';exact⟨l,hn,hl⟩
theorem Dq{m:M} :∀{n off o:Nat},m.firstOwn off n=some o->off<=o/\o<off+n
 |0,_,_,h=>by cases h|n+1,off,o,h=>by
  unfold M.firstOwn at h;cases hb:m.ownAt off<;>rw[hb]at h
  .have:=Dq (show m.firstOwn (off+1) n=some o from h);omega
  .simp only[cond_true,F5]at h;omega
theorem a6A{E:Env}{d:Option Nat}(h:tkD E d=true):∃t,d=some t/\PG E t=true:=by
 cases d with
 |none=>cases h|some t=>refine⟨t,rfl,?_⟩;unfold tkD at h;simp only[o9]at h;exact h.1
theorem a8H{Z n:Nat}{S1:Sm}{m1:Mp}{ok1:Nat->Ty->Prop}(R:Rel X Z (Z+CB) S1 m1 ok1 a w)(hT:Tk X S1 m1 ok1 w Op)
  (h1:Z<=n) (h2:n<Z+CB) {v:V} {l:Loc} {ks:c2i} {x:Value} (hv:v≠.undef)
  (ho:L9 (jo m1 n l ks) n v=Op) (hB:xY ⟨w.heap,ok1,jo m1 n l ks⟩ n v)
  (hx:l.view none x) {bx idx off:Nat} {md:M} {xs:List md.den} (hS:S1 (U8+bx)= .barrs md xs (some (idx,off,none))) {blk o' len cap sz:Nat} (hmb:m1 bx=some (.arr blk o' len cap sz))
  (hc:bD w.heap blk (o' +idx*md.size+off) 1=some [x]) (hsz:sz=md.size)
  (hK:∀S2 m2,Rel X Z (Z+CB) S2 m2 ok1 a w->(∀k l',m1 k=some l' ->m2 k=some l')->m2 n=some l->K.post S2 Q):
  (pz n v (Cmd.set (U8+bx) (.barrs md xs (some (idx,off,some n))) K)).post S1 Q:=by
 refine kL λhn=>cu ?_;obtain⟨R',_,hm'⟩:=R.adopt (T:=[]) hn h1 hv (by simpa using hT) (λb h=>by rw[ho]at h;exact h) (by rw[ho];exact hT.nodup) hB;rw[yI o5]at R';have hne:bx≠n:=λe=>by have:=R.fresh _ h1 hn;rw[←e,hmb]at this;cases this
 have hS' :upd S1 (U8+n) v (U8+bx)= .barrs md xs (some (idx,off,none)):=by rw[aA _ _ o5];exact hS
 have hb:=R'.box bx;rw[hS']at hb;obtain⟨hel,l0,Os,hm0,⟨ha,_⟩,hk⟩:=hb;have hmb' :=hm' _ _ hmb;simp only at hm0;rw[hmb']at hm0;cases hm0;refine hK _ _ (R'.mod (by rw[hS'];rfl) A8 rfl rfl rfl rfl (λ_ _=>rfl) ⟨hel,_,Os,hmb',⟨?_,?_⟩,hk⟩) hm' (X8 _ _ _ _)
 .exact pF (λ_ _=>rfl) (λi x es O _ hr=>hr) ha
 .exact⟨blk,o',len,cap,x,l,by rw[hsz],hc,X8 _ _ _ _,hx⟩
theorem a6Z(H:FxOk X)(R:Rel X (CB*q) (CB*q+CB) S m ok a w)(ho:o.op= .load t x):(aG X.E q o).post S (λ_ S' =>eX X (CB*q) (CB*q+CB) o a w m ok S'):=by
 unfold aG;simp only[ho];refine Y9 R λp hp=>?_;have plain:(BZ X.E t p λv=>bJ X.E o.dst v).post S (λ_ S' =>eX X (CB*q) (CB*q+CB) o a w m ok S'):=by refine xQ H R hp λv u ad hv hx hr=>Z5 H R hv ?_;simp[execOp,ho,hx,Instr.loadAt,Instr.sureAddr,hr]
 unfold a8d;split
 .rename_i bx idx off;refine V5 ?_;split
  .rename_i md xs hS;cases hown:md.ownAt off
   .simp only[cond_false];cases htk:tkD X.E o.dst
    .simpa only[cond_false]using plain
    simp only[cond_true];obtain⟨dt,hdt,hok1⟩:=a6A htk;refine gB H λi hi=>?_;split
    .exact plain
    rename_i po hfo;obtain⟨hfo1,hfo2⟩:=Dq hfo;refine V7 λhi1=>bF λe0 he0=>?_;simp only[o9]at hi1;obtain⟨hagg,hfit⟩:=hi1;have hfit:=P5 hfit;have hp' :=hp;obtain⟨blk,o',len,cap,sz,hm,hlt,hx⟩:=hp;obtain⟨hel,l,Os,hm',⟨ha,hho⟩,hk⟩:=R.own_barrs hS;simp only at hm;rw[hm]at hm';cases hm';obtain⟨rfl,rfl,h3,h7,c,T,hh,hs,hxs⟩:=ha;obtain⟨es,O,hO,he,hr⟩:=hxs idx e0 he0;refine Fp md po hr λv l2 ks u O1 Op O2 eO hr' hu hv hB hvu=>?_;refine cu ?_;have hOs:Os.flatten.Perm ((Os.set idx (O1++O2)).flatten++Op):=lw (by rw[hO,eO]);have hown0:L9 m bx (S (U8+bx))=blk::Os.flatten:=by simp[L9,hS,hm,hk]
    have hown1:L9 (wW m bx (Os.set idx (O1++O2)).flatten) bx (.barrs md xs (some (idx,po,none)))=blk::(Os.set idx (O1++O2)).flatten:=by simp[L9,hm]
    have hnd:=R.nd bx;rw[hown0]at hnd;have hperm:(blk::Os.flatten).Perm ((blk::(Os.set idx (O1++O2)).flatten)++Op):=by simpa using hOs.cons blk
    have hnd' :=J6.1 (hperm.nodup_iff.1 hnd);have hB1:xY ⟨w.heap,ok,wW m bx (Os.set idx (O1++O2)).flatten⟩ bx (.barrs md xs (some (idx,po,none))):=by
     refine Ic (Os:=Os.set idx (O1++O2)) hel hm ⟨rfl,rfl,h3,by simp[h7],c,T,hh,hs,λj z hz=>?_⟩ A8 trivial;by_cases hj:j=idx
     .subst hj;rw[show xs[j]? =some e0 from he0]at hz;cases hz;refine⟨es,O1++O2,?_,he,by simp only[IZ];exact hr'⟩;rw[I7,if_pos rfl,if_pos (by rw[h7];exact hlt)]
     .obtain⟨es2,O',hO2,he2,hr2⟩:=hxs j z hz;refine⟨es2,O',?_,he2,by simp only[EW hj];exact hr2⟩;rw[I7,if_neg (λe=>hj e.symm)];exact hO2
    obtain⟨R1,T1⟩:=R.modK (T:=[]) Tk.nil (n:=bx) (v:=.barrs md xs (some (idx,po,none))) (ks:=(Os.set idx (O1++O2)).flatten) (w' :=w) (T' :=Op) A8 (by rw[hown1];exact hnd'.1)
     (λb hb=> .inl (by rw[hown0];rw[hown1]at hb;exact hperm.mem_iff.2 (X6 _ hb))) rfl rfl rfl rfl (λ_ _=>rfl) hB1 hnd'.2.1
     (λb hb=>⟨.inl (by rw[hown0];exact hperm.mem_iff.2 (bW _ hb)),λh=>hnd'.2.2 b (by rw[hown1]at h;exact h) b hb rfl⟩)
    obtain⟨hB2,hB3,hB4⟩:=hB (wW m bx (Os.set idx (O1++O2)).flatten) (J5 q o.dst);have hlt2:=(aF.1 hu);have hle:po+1<=md.size:=by have:=ae hr;have:=hlt2.1;omega
    have hc1:=lM he po 1 o5;have h1:(es.drop po).take 1=[u]:=by obtain⟨hlt3,rfl⟩:=hlt2;rw[aW hlt3];rfl
    rw[h1]at hc1;have hin:=lX H (q:=q) (some dt) (λt h=>by cases h;exact(vg hok1).1);rw[hdt]at hB2 hB3;have e:=lM he off i.size hfit;have hr2:=nN hi w e;rw[hagg]at hr2;rw[hdt];refine a8H R1 T1 hin.1 o5 hvu hB3 hB2 hv (by rw[gG]) hm hc1 rfl λS2 m2 R2 k2 hn2=>?_;have hp2:iI ⟨w.heap,ok,m2⟩ (.ep bx idx off) (a.eval x):=FC (C:=⟨w.heap,ok,m⟩) (D:=⟨w.heap,ok,m2⟩) ⟨λ_ _ h=>h,λ_ _ _=>rfl,k2⟩ hp';rw[←hdt]at hn2 ⊢;refine xQ H R2 hp2 λv3 u3 ad hv3 hx3 hr3=>?_;have had:ad=⟨blk,o' +idx*md.size+off,none⟩:=by rw[hx]at hx3;injection hx3 with hx3;injection hx3 with hx3;exact hx3.symm
    subst had;have hu3:u3= .agg ((es.drop off).take i.size).toArray:=by rw[hr2]at hr3;injection hr3 with e1 e2;exact e1.symm
    refine mX (o:=o) H R2 (m0:=m) (ok0:=ok) k2 (λ_ _ h=>h) (Yo (x:=u) (l:=l2) hv3 hu3 ?_ hn2 hv) ?_
    .rw[V4 o5,L6,show off+(po -off)=po by omega];exact hu
    .simp[execOp,ho,hx,Instr.loadAt,Instr.sureAddr,hr3]
   simp only[cond_true];refine gB H λi hi=>V7 λhi1=>?_;simp only[o9,aZ]at hi1;obtain⟨hsz,hagg⟩:=hi1;have hsz:=bQ hsz;have hp' :=hp;obtain⟨blk,o',len,cap,sz,hm,hlt,hx⟩:=hp;obtain⟨hel,l,Os,hm',⟨ha,hho⟩,hk⟩:=R.own_barrs hS;simp only at hm;rw[hm]at hm';cases hm';cases zJ (match o.dst with|some d=>d|none=>U8) X.E.tk<;>simp only[cond_true,cond_false]
   .refine Ad (T:=[]) (.sl md.ty) R Tk.nil (cs:=[.own bx none]) (vs:=[.slice (some ⟨blk,o',none⟩) len cap]) ⟨_,_,rfl,⟨_,hm,rfl⟩,rfl,rfl⟩ λS1 ok1 _ _ us us' R1 T1 k1 s1 e1 h1 l1=>?_;refine xQ H R1 (Jh k1 hp') λv u ad hv hx hr=>mX H R1 (λ_ _ h=>h) k1 hv ?_;simp[execOp,ho,hx,Instr.loadAt,Instr.sureAddr,hr]
   .refine bF λe0 he0=>?_;obtain⟨rfl,rfl,h3,h7,c,T,hh,hs,hxs⟩:=ha;obtain⟨es,O,hO,he,hr⟩:=hxs idx e0 he0;refine Fp md off hr λv l2 ks u O1 Op O2 eO hr' hu hv hB hvu=>?_;refine cu ?_;have hOs:Os.flatten.Perm ((Os.set idx (O1++O2)).flatten++Op):=lw (by rw[hO,eO]);have hown0:L9 m bx (S (U8+bx))=blk::Os.flatten:=by simp[L9,hS,hm,hk]
    have hown1:L9 (wW m bx (Os.set idx (O1++O2)).flatten) bx (.barrs md xs (some (idx,off,none)))=blk::(Os.set idx (O1++O2)).flatten:=by simp[L9,hm]
    have hnd:=R.nd bx;rw[hown0]at hnd;have hperm:(blk::Os.flatten).Perm ((blk::(Os.set idx (O1++O2)).flatten)++Op):=by simpa using hOs.cons blk
    have hnd' :=J6.1 (hperm.nodup_iff.1 hnd);have hB1:xY ⟨w.heap,ok,wW m bx (Os.set idx (O1++O2)).flatten⟩ bx (.barrs md xs (some (idx,off,none))):=by
     refine Ic (Os:=Os.set idx (O1++O2)) hel hm ⟨rfl,rfl,h3,by simp[h7],c,T,hh,hs,λj z hz=>?_⟩ A8 trivial;by_cases hj:j=idx
     .subst hj;rw[show xs[j]? =some e0 from he0]at hz;cases hz;refine⟨es,O1++O2,?_,he,by simp only[IZ];exact hr'⟩;rw[I7,if_pos rfl,if_pos (by rw[h7];exact hlt)]
     .obtain⟨es2,O',hO2,he2,hr2⟩:=hxs j z hz;refine⟨es2,O',?_,he2,by simp only[EW hj];exact hr2⟩;rw[I7,if_neg (λe=>hj e.symm)];exact hO2
    obtain⟨R1,T1⟩:=R.modK (T:=[]) Tk.nil (n:=bx) (v:=.barrs md xs (some (idx,off,none))) (ks:=(Os.set idx (O1++O2)).flatten) (w' :=w) (T' :=Op) A8 (by rw[hown1];exact hnd'.1)
     (λb hb=> .inl (by rw[hown0];rw[hown1]at hb;exact hperm.mem_iff.2 (X6 _ hb))) rfl rfl rfl rfl (λ_ _=>rfl) hB1 hnd'.2.1
     (λb hb=>⟨.inl (by rw[hown0];exact hperm.mem_iff.2 (bW _ hb)),λh=>hnd'.2.2 b (by rw[hown1]at h;exact h) b hb rfl⟩)
    obtain⟨hB2,hB3,hB4⟩:=hB (wW m bx (Os.set idx (O1++O2)).flatten) (J5 q o.dst);have hlt2:=(aF.1 hu);have hle:off+1<=md.size:=by have:=ae hr;have:=hlt2.1;omega
    have e:=lM he off i.size o5;have hr2:=nN hi w e;have h1:(es.drop off).take i.size=[u]:=by obtain⟨hlt3,rfl⟩:=hlt2;rw[hsz,aW hlt3];rfl
    refine a1M (ok:=ok) (m:=m) H R1 T1 (λ_ _ h=>h) (λ_ _ h=>h) hvu hB3 hB2 hv (by rw[gG]) hm (by rw[←h1,←hsz];exact e) rfl ?_;rw[h1,hagg]at hr2;simp[execOp,ho,hx,Instr.loadAt,Instr.sureAddr,hr2,Nh]
  .rename_i md xs i2 o2 n2 hS;cases hown:md.ownAt off
   .simp only[cond_false];cases htk:tkD X.E o.dst
    .simpa only[cond_false]using plain
    simp only[cond_true];refine gB H λi hi=>?_;split
    .exact plain
    rename_i po hfo;obtain⟨hfo1,hfo2⟩:=Dq hfo;refine V7 λhi1=>⟨λhat=>?_,λ_=>trivial⟩;simp only[o9]at hi1;obtain⟨hagg,hfit⟩:=hi1;have hfit:=P5 hfit;obtain⟨e1,e2⟩:=BV hat
    subst e1;subst e2;have hp' :=hp;obtain⟨blk,o',len,cap,sz,hm,hlt,hx⟩:=hp;obtain⟨hel,l,Os,hm',⟨ha,blk',off',len',cap',u,l',hl,hc,hmn,hvw⟩,hk⟩:=R.own_barrs hS;simp only at hm;rw[hm]at hm';cases hm';cases hl;obtain⟨_,rfl,h3,h7,c,T,hh,hs,hxs⟩:=ha;refine xQ H R hp' λv3 u3 ad hv3 hx3 hr3=>?_;have had:ad=⟨blk,o' +i2*md.size+off,none⟩:=by rw[hx]at hx3;injection hx3 with hx3;injection hx3 with hx3;exact hx3.symm
    subst had;have hltx:i2<xs.length:=hlt;obtain⟨es,O,hO,he,hr⟩:=hxs i2 _ (iP hltx);have e:=lM he off i.size hfit;have hr2:=nN hi w e;rw[hagg]at hr2;have hu3:u3= .agg ((es.drop off).take i.size).toArray:=by rw[hr2]at hr3;injection hr3 with e1 e2;exact e1.symm
    refine Z5 H R (Yo (x:=u) (l:=l') hv3 hu3 ?_ hmn hvw) ?_
    .have hes:=jT he;have hc2:=lM he o2 1 o5;rw[hc]at hc2;have:=congrArg (λl=>l[0]?) (iT hc2);simp only[aN,V4 (show 0<1 by omega),L6,aj]at this;rw[V4 o5,L6,show off+(o2 -off)=o2 by omega];exact this.symm
    .simp[execOp,ho,hx,Instr.loadAt,Instr.sureAddr,hr3]
   simp only[cond_true];refine gB H λi hi=>V7 λhi1=>⟨λhat=>?_,λ_=>trivial⟩;simp only[o9,aZ]at hi1;obtain⟨hsz,hagg⟩:=hi1;have hsz:=bQ hsz;obtain⟨e1,e2⟩:=BV hat
   subst e1;subst e2;obtain⟨blk,o',len,cap,sz,hm,hlt,hx⟩:=hp;obtain⟨hel,l,Os,hm',⟨ha,blk',off',len',cap',u,l',hl,hc,hmn,hvw⟩,hk⟩:=R.own_barrs hS;simp only at hm;rw[hm]at hm';cases hm';cases hl;have e:bD w.heap blk (o' +i2*md.size+o2) i.size=some [u]:=by rw[hsz];exact hc
   have hr2:=nN hi w e;rw[hagg]at hr2;refine Z5 H R (v:=.own n2 none) (x:=u) ⟨l',hmn,hvw⟩ ?_;simp[execOp,ho,hx,Instr.loadAt,Instr.sureAddr,hr2,Nh]
  .exact plain
 .exact plain
theorem Bz{S' :Sm}{x y:Operand}{w' :World}{m' :Mp}{ok' :Nat->Ty->Prop}(ho:o.op= .store t x y)(hd:o.dst=none)(run:(Instr.storeAt t (a.eval x) (a.eval y)).run X.P w= .ok () w')
  (R:Rel X cl ch S' m' ok' a w') (hm:∀k l,m k=some l->m' k=some l) (hok:∀b t,ok b t->ok' b t):eX X cl ch o a w m ok S' :=by
 intro next Q hn
 unfold Oper.wp;have e:(execOp a.eval o).run X.P w= .ok .skip w' :=by simp[execOp,ho,run]
 rw[e,Oper.upon_skip,hd];exact hn m' ok' a w' R hm hok
theorem TN{u:α}(h:off<L.length):Z8 off [u] L=L.set off u:=by
 apply aI;intro i;rw[nU az,I7];by_cases h1:i=off
 .subst h1;rw[if_neg o5,if_pos A8,if_pos rfl,if_pos h];simp
 .by_cases h2:i<off
  .rw[if_pos h2,if_neg o5]
  .rw[if_neg h2,if_neg az,if_neg o5]
theorem UO(h:u.oneCell' =true):u.cells.toList=[u]:=by cases u<;>simp[Value.oneCell',Value.cells]at*
theorem MR{w:World}{blk o' sz len cap off idx:Nat}{c:Array Value}{T:TypeId}{f:Nat×Nat}(hh:w.heap[blk]? =some (.cells c T f))(hs:o' +cap*sz<=c.size)(hlc:len<=cap)(hlt:idx<len){us es:c2h}
  (he:bD w.heap blk (o' +idx*sz) sz=some es) (hf:off+us.length<=sz):
  o' +idx*sz+off+us.length<=c.size/\(Z8 (o' +idx*sz+off) us c.toList).length=c.size/\
  bD (w.setRow blk (Z8 (o' +idx*sz+off) us c.toList).toArray).heap blk (o' +idx*sz) sz=some (Z8 off us es)/\
  (∀j,j<len->j≠idx->bD (w.setRow blk (Z8 (o' +idx*sz+off) us c.toList).toArray).heap blk (o' +j*sz) sz=bD w.heap blk (o' +j*sz) sz):=by
 have hcap:(idx+1)*sz<=cap*sz:=F8 _ o5;rw[H8,ax]at hcap;have hfit:o' +idx*sz+off+us.length<=c.size:=o5;have hcl:c.toList.length=c.size:=A8;have hsp:(Z8 (o' +idx*sz+off) us c.toList).length=c.size:=by rw[qx (by rw[hcl];exact hfit)];exact hcl
 refine⟨hfit,hsp,?_,λj hj hne=>?_⟩
 .rw[Iu hh _ _ _ (by rw[hsp];omega),Jm (by rw[hcl];omega) o5];obtain⟨c2,T2,f2,hb2,hn2,rfl⟩:=lY he;rw[hh]at hb2;cases hb2;rfl
 .have hcap' :(j+1)*sz<=cap*sz:=F8 _ o5;rw[H8,ax]at hcap';rw[Iu hh _ _ _ (by rw[hsp];omega),fJ hh _ _ o5,a0e (by rw[hcl];exact hfit)];rcases Nat.lt_or_gt_of_ne hne with hlt'|hgt
  .left;have:(j+1)*sz<=idx*sz:=F8 _ o5;rw[H8,ax]at this;omega
  .right;have:(idx+1)*sz<=j*sz:=F8 _ o5;rw[H8,ax]at this;omega
theorem PW{Q:Unit->Sm->Prop}(R:Rel X cl ch S m ok a w)(hT:Tk X S m ok w Op){i:TI}(hi:TiOk X.P t i)(h1:i.size=1){hole:Option (Nat×Nat×Option Nat)}
  (hS:S (U8+bx)= .barrs md xs hole) {blk o' len cap sz:Nat} (hm:m bx=some (.arr blk o' len cap sz)) {v:V} {u:Value} (hp:Nk w.heap ok v u Op)
  (hK:∀S' m' w',Rel X cl ch S' m' ok a w' ->(∀k l,m k=some l->m' k=some l)->(storeVar t ⟨blk,o' +idx*sz+off,none⟩ u).run X.P w= .ok () w' ->Q () S'):
  (Xe bx idx off md xs hole v (.ret ())).post S Q:=by
 unfold Xe;refine⟨λhb=>?_,λ_=>trivial⟩;refine bF λe0 he0=>?_;have he0' :xs[idx]? =some e0:=he0;obtain⟨hel,l,Os,hm',⟨ha,hho⟩,hk⟩:=R.own_barrs hS;rw[hm]at hm';cases hm';obtain⟨rfl,rfl,h3,h7,c,T,hh,hs,hxs⟩:=ha;obtain⟨es,O,hO,he,hr⟩:=hxs idx e0 he0';have hho:Uo hole idx=none\/Uo hole idx=some off:=by
  rcases hole with _|⟨j,o2,o3⟩
  .exact .inl rfl
  .obtain⟨e1,e2⟩:=BV hb;subst e1;subst e2;exact .inr IZ
 have hho' :∀j,j≠idx->Uo hole j=none:=λj hj=>by
  rcases hole with _|⟨j',o2,o3⟩
  .rfl
  .obtain⟨e1,_⟩:=BV hb;subst e1;exact EW hj
 refine Eg hp md off hr hho hel λy O1 Old O2 eO hr' hoff=>cu ?_;have hlt:idx<xs.length:=(aF.1 he0').1;have hes:es.length=md.size:=ae hr;have hu1:=hp.one;have huc:=UO hu1;obtain⟨hfit,hsp,hnew,hold⟩:=MR (us:=[u]) (off:=off) hh hs h3 hlt he az;have run:=wU hi w (off:=o' +idx*md.size+off) hh (.inl rfl) (v:=u) (by have:=congrArg List.length huc;simp at this;omega) (by simpa[h1]using hfit) (by rw[huc];simp[hu1]);rw[huc]at run;generalize hw' :w.setRow blk (Z8 (o' +idx*md.size+off) [u] c.toList).toArray=w' at run hnew hold;have hrow:w'.heap[blk]? =some (.cells (Z8 (o' +idx*md.size+off) [u] c.toList).toArray T (0,0)):=by subst hw';exact setRow_heap w blk c _ T (0,0) hh
 have hoth:∀b,b≠blk->w'.heap[b]? =w.heap[b]?:=λb hb=>by subst hw';exact setRow_other w blk b _ hb
 have hsize:w'.heap.size=w.heap.size:=by subst hw';simp
 have hos:w'.os=w.os:=by subst hw';rfl
 have htp:w'.tape=w.tape:=by subst hw';rfl
 have hout:w'.output=w.output:=by subst hw';rfl
 have hO1:Os.flatten.Perm ((Os.set idx (O1++O2)).flatten++Old):=lw (by rw[hO,eO]);have hO2:(Os.set idx (O1++Op++O2)).flatten.Perm ((Os.set idx (O1++O2)).flatten++Op):=by have:=lw (Os:=Os.set idx (O1++Op++O2)) (i:=idx) (O1:=O1) (P:=Op) (O2:=O2) (by rw[I7,if_pos rfl,if_pos (by rw[h7];exact hlt)]);rwa[List.set_set]at this
 have hown0:L9 m bx (S (U8+bx))=blk::Os.flatten:=by simp[L9,hS,hm,hk]
 have hown1:L9 (wW m bx (Os.set idx (O1++Op++O2)).flatten) bx (.barrs md (ay xs idx y) none)=blk::(Os.set idx (O1++Op++O2)).flatten:=by simp[L9,hm]
 have hnd:=R.nd bx;rw[hown0]at hnd;have hnd0:=V9.1 hnd;have hndA:=J6.1 (hO1.nodup_iff.1 hnd0.2);have hfreeOp:∀b∈Op,b∉blk::Os.flatten:=λb hb h=>(hT.free b hb).2.2.2 bx (by rw[hown0];exact h);have hsubA:∀b∈(Os.set idx (O1++O2)).flatten,b∈Os.flatten:=λb hb=>hO1.mem_iff.2 (X6 _ hb);have hneO:∀b∈Os.flatten,b≠blk:=λb hb e=>hnd0.1 (e▸hb);have hneP:∀b∈Op,b≠blk:=λb hb e=>hfreeOp b hb (by simp[e]);have hkeep:∀b t,ok b t->w'.heap[b]? =w.heap[b]?:=λb t hb=>hoth b (λe=>(R.sep bx blk (by rw[hown0];simp)).1 t (e▸hb));have hB:xY ⟨w'.heap,ok,wW m bx (Os.set idx (O1++Op++O2)).flatten⟩ bx (.barrs md (ay xs idx y) none):=by
  refine Ic (Os:=Os.set idx (O1++Op++O2)) hel hm ⟨rfl,by simp[ay],h3,by simp[h7,ay],_,T,hrow,by simp[hsp];exact hs,λj z hz=>?_⟩ A8 trivial;unfold ay at hz;rw[I7]at hz;split at hz
  .rename_i hj;subst hj;cases hz;refine⟨_,O1++Op++O2,by rw[I7,if_pos rfl,if_pos (by rw[h7];exact hlt)],hnew,?_⟩;rw[TN o5];refine eF (λ_ _ h=>h) hkeep (λb hb=>hoth b ?_) hr';rcases H5.1 hb with hb|hb
   .rcases H5.1 hb with hb|hb
    .exact hneO b (W9.2 ⟨O,kW hO,by rw[eO];simp[hb]⟩)
    .exact hneP b hb
   .exact hneO b (W9.2 ⟨O,kW hO,by rw[eO];simp[hb]⟩)
  .rename_i hj;obtain⟨es2,O',hO2',he2,hr2⟩:=hxs j z hz;refine⟨es2,O',by rw[I7,if_neg hj];exact hO2',by rw[←he2];exact hold j (aF.1 hz).1 (λe=>hj e.symm),?_⟩;simp only[Ve];rw[hho' j (λe=>hj e.symm)]at hr2;exact eF (λ_ _ h=>h) hkeep (λb hb=>hoth b (hneO b (W9.2 ⟨O',kW hO2',hb⟩))) hr2
 have hmod:=R.modK hT (n:=bx) (v:=.barrs md (ay xs idx y) none) (ks:=(Os.set idx (O1++Op++O2)).flatten) (w' :=w') (T' :=[]) A8
  (by
   rw[hown1];refine V9.2 ⟨λh=>?_,hO2.nodup_iff.2 (J6.2 ⟨hndA.1,hT.nodup,λx hx z hz e=>?_⟩)⟩
   .rcases H5.1 (hO2.mem_iff.1 h)with h|h
    .exact hnd0.1 (hsubA _ h)
    .exact hneP _ h rfl
   .subst e;exact hfreeOp x hz (by simp[hsubA x hx]))
  (λb hb=>by
   rw[hown1]at hb;rw[hown0];rcases C9.1 hb with hb|hb
   .exact .inl (by simp[hb])
   .rcases H5.1 (hO2.mem_iff.1 hb)with h|h
    .exact .inl (by simp[hsubA _ h])
    .exact .inr h)
  hos htp hout hsize (λb hb=>hoth b (λe=>hb (by rw[hown0,e];simp))) hB aY (λb hb=>by cases hb)
 exact hK _ _ w' hmod.1 (λ_ _ h=>h) run
theorem YU{Q:Unit->Sm->Prop}(R:Rel X cl ch S m ok a w)(hT:Tk X S m ok w Op){i:TI}(hi:TiOk X.P t i)(h1:i.size=1){kn:Int}{ko:Nat}
  (hS:S (U8+bx)= .barrp md xs kn ko) (hoff:off=ko) (hidx:idx=kn.toNat) {blk o' len cap sz:Nat} (hm:m bx=some (.arr blk o' len cap sz)) {v:V} {u:Value} (hp:Nk w.heap ok v u Op)
  (hK:∀S' m' w',Rel X cl ch S' m' ok a w' ->(∀k l,m k=some l->m' k=some l)->(storeVar t ⟨blk,o' +idx*sz+off,none⟩ u).run X.P w= .ok () w' ->Q () S'):
  (Cmd.opt (X0 xs idx) λx=>RX md off v x (λy=>Cmd.set (U8+bx) (.barrp md (ay xs idx y) (GH kn) ko) (.ret ())) .fail).post S Q:=by
 refine bF λe0 he0=>?_;have he0' :xs[idx]? =some e0:=he0;obtain⟨hel,hk0,l,Os,hm',ha,hk⟩:=R.own_barrp hS;rw[hm]at hm';cases hm';obtain⟨rfl,rfl,h3,h7,c,T,hh,hs,hxs⟩:=ha;obtain⟨es,O,hO,he,hr⟩:=hxs idx e0 he0';have hho:qy ko kn.toNat idx=none\/qy ko kn.toNat idx=some off:=.inr (by rw[hidx,hoff];simp[qy]);have hsuc:(GH kn).toNat=kn.toNat+1:=by unfold GH;omega
 have hho1:qy ko (GH kn).toNat idx=none:=by unfold qy;rw[if_neg o5]
 have hho' :∀j,j≠idx->qy ko (GH kn).toNat j=qy ko kn.toNat j:=λj hj=>by
  unfold qy;by_cases h:kn.toNat<=j
  .rw[if_pos h,if_pos o5]
  .rw[if_neg h,if_neg o5]
 refine Eg hp md off hr hho hel λy O1 Old O2 eO hr' hoff=>cu ?_;have hlt:idx<xs.length:=(aF.1 he0').1;have hes:es.length=md.size:=ae hr;have hu1:=hp.one;have huc:=UO hu1;obtain⟨hfit,hsp,hnew,hold⟩:=MR (us:=[u]) (off:=off) hh hs h3 hlt he az;have run:=wU hi w (off:=o' +idx*md.size+off) hh (.inl rfl) (v:=u) (by have:=congrArg List.length huc;simp at this;omega) (by simpa[h1]using hfit) (by rw[huc];simp[hu1]);rw[huc]at run;generalize hw' :w.setRow blk (Z8 (o' +idx*md.size+off) [u] c.toList).toArray=w' at run hnew hold;have hrow:w'.heap[blk]? =some (.cells (Z8 (o' +idx*md.size+off) [u] c.toList).toArray T (0,0)):=by subst hw';exact setRow_heap w blk c _ T (0,0) hh
 have hoth:∀b,b≠blk->w'.heap[b]? =w.heap[b]?:=λb hb=>by subst hw';exact setRow_other w blk b _ hb
 have hsize:w'.heap.size=w.heap.size:=by subst hw';simp
 have hos:w'.os=w.os:=by subst hw';rfl
 have htp:w'.tape=w.tape:=by subst hw';rfl
 have hout:w'.output=w.output:=by subst hw';rfl
 have hO1:Os.flatten.Perm ((Os.set idx (O1++O2)).flatten++Old):=lw (by rw[hO,eO]);have hO2:(Os.set idx (O1++Op++O2)).flatten.Perm ((Os.set idx (O1++O2)).flatten++Op):=by have:=lw (Os:=Os.set idx (O1++Op++O2)) (i:=idx) (O1:=O1) (P:=Op) (O2:=O2) (by rw[I7,if_pos rfl,if_pos (by rw[h7];exact hlt)]);rwa[List.set_set]at this
 have hown0:L9 m bx (S (U8+bx))=blk::Os.flatten:=by simp[L9,hS,hm,hk]
 have hown1:L9 (wW m bx (Os.set idx (O1++Op++O2)).flatten) bx (.barrp md (ay xs idx y) (GH kn) ko)=blk::(Os.set idx (O1++Op++O2)).flatten:=by simp[L9,hm]
 have hnd:=R.nd bx;rw[hown0]at hnd;have hnd0:=V9.1 hnd;have hndA:=J6.1 (hO1.nodup_iff.1 hnd0.2);have hfreeOp:∀b∈Op,b∉blk::Os.flatten:=λb hb h=>(hT.free b hb).2.2.2 bx (by rw[hown0];exact h);have hsubA:∀b∈(Os.set idx (O1++O2)).flatten,b∈Os.flatten:=λb hb=>hO1.mem_iff.2 (X6 _ hb);have hneO:∀b∈Os.flatten,b≠blk:=λb hb e=>hnd0.1 (e▸hb);have hneP:∀b∈Op,b≠blk:=λb hb e=>hfreeOp b hb (by simp[e]);have hkeep:∀b t,ok b t->w'.heap[b]? =w.heap[b]?:=λb t hb=>hoth b (λe=>(R.sep bx blk (by rw[hown0];simp)).1 t (e▸hb));have hB:xY ⟨w'.heap,ok,wW m bx (Os.set idx (O1++Op++O2)).flatten⟩ bx (.barrp md (ay xs idx y) (GH kn) ko):=by
  refine⟨hel,by unfold GH;omega,_,Os.set idx (O1++Op++O2),hm,⟨rfl,by simp[ay],h3,by simp[h7,ay],_,T,hrow,by simp[hsp];exact hs,λj z hz=>?_⟩,A8⟩;unfold ay at hz;rw[I7]at hz;split at hz
  .rename_i hj;subst hj;cases hz;refine⟨_,O1++Op++O2,by rw[I7,if_pos rfl,if_pos (by rw[h7];exact hlt)],hnew,?_⟩;rw[TN o5];show jm w'.heap ok md (qy ko (GH kn).toNat idx) y _ _;rw[hho1];refine eF (λ_ _ h=>h) hkeep (λb hb=>hoth b ?_) hr';rcases H5.1 hb with hb|hb
   .rcases H5.1 hb with hb|hb
    .exact hneO b (W9.2 ⟨O,kW hO,by rw[eO];simp[hb]⟩)
    .exact hneP b hb
   .exact hneO b (W9.2 ⟨O,kW hO,by rw[eO];simp[hb]⟩)
  .rename_i hj;obtain⟨es2,O',hO2',he2,hr2⟩:=hxs j z hz;refine⟨es2,O',by rw[I7,if_neg hj];exact hO2',by rw[←he2];exact hold j (aF.1 hz).1 (λe=>hj e.symm),?_⟩;show jm w'.heap ok md (qy ko (GH kn).toNat j) z es2 O';rw[hho' j (λe=>hj e.symm)];exact eF (λ_ _ h=>h) hkeep (λb hb=>hoth b (hneO b (W9.2 ⟨O',kW hO2',hb⟩))) hr2
 have hmod:=R.modK hT (n:=bx) (v:=.barrp md (ay xs idx y) (GH kn) ko) (ks:=(Os.set idx (O1++Op++O2)).flatten) (w' :=w') (T' :=[]) A8
  (by
   rw[hown1];refine V9.2 ⟨λh=>?_,hO2.nodup_iff.2 (J6.2 ⟨hndA.1,hT.nodup,λx hx z hz e=>?_⟩)⟩
   .rcases H5.1 (hO2.mem_iff.1 h)with h|h
    .exact hnd0.1 (hsubA _ h)
    .exact hneP _ h rfl
   .subst e;exact hfreeOp x hz (by simp[hsubA x hx]))
  (λb hb=>by
   rw[hown1]at hb;rw[hown0];rcases C9.1 hb with hb|hb
   .exact .inl (by simp[hb])
   .rcases H5.1 (hO2.mem_iff.1 hb)with h|h
    .exact .inl (by simp[hsubA _ h])
    .exact .inr h)
  hos htp hout hsize (λb hb=>hoth b (λe=>hb (by rw[hown0,e];simp))) hB aY (λb hb=>by cases hb)
 exact hK _ _ w' hmod.1 (λ_ _ h=>h) run
theorem a5a{l:List α}{u:α}(h:l[i]? =some u):l.set i u=l:=by
 apply aI;intro j;rw[I7];split
 .rename_i e;subst e;have:=(aF.1 h).1;simp[this,←h]
 .rfl
theorem ZH(R:Rel X cl ch S m ok a w){T Op:c2i}(hT:Tk X S m ok w (T++Op)){k0:Option Nat}
  (hS:S (U8+bx)= .barrs md xs (some (idx,off,k0))) {blk o' len cap sz:Nat} (hm:m bx=some (.arr blk o' len cap sz)) {v:V} {u:Value} (hp:Nk w.heap ok v u Op)
  (hu:bD w.heap blk (o' +idx*sz+off) 1=some [u])
  (hK:∀S' m',Rel X cl ch S' m' ok a w->Tk X S' m' ok w T->(∀k l,m k=some l->m' k=some l)->K.post S' Q):
  (Cmd.opt (X0 xs idx) λx=>RX md off v x (λy=>Cmd.set (U8+bx) (.barrs md (ay xs idx y) none) K) .fail).post S Q:=by
 refine bF λe0 he0=>?_;have he0' :xs[idx]? =some e0:=he0;obtain⟨hel,l,Os,hm',⟨ha,hho⟩,hk⟩:=R.own_barrs hS;rw[hm]at hm';cases hm';obtain⟨rfl,rfl,h3,h7,c,T0,hh,hs,hxs⟩:=ha;obtain⟨es,O,hO,he,hr⟩:=hxs idx e0 he0';rw[IZ]at hr;refine Eg hp md off hr (.inr rfl) hel λy O1 Old O2 eO hr' hoff=>cu ?_;have hlt:idx<xs.length:=(aF.1 he0').1;have hes:es.length=md.size:=ae hr;have hnd1:=J6.1 hT.nodup;have hTo:Tk X S m ok w Op:=⟨hnd1.2.1,λb hb=>hT.free b (bW _ hb)⟩;have heu:es[off]? =some u:=by obtain⟨c2,T2,f2,hb2,hn2,e2⟩:=lY he;obtain⟨c3,T3,f3,hb3,hn3,e3⟩:=lY hu;rw[hh]at hb2 hb3;cases hb2;cases hb3;have h1:=congrArg (λl=>l[0]?) e3;simp only[aN,V4 (show 0<1 by omega),L6,aj]at h1;rw[e2,V4 o5,L6];exact h1.symm
 rw[a5a heu]at hr';have hO1:Os.flatten.Perm ((Os.set idx (O1++O2)).flatten++Old):=lw (by rw[hO,eO]);have hO2:(Os.set idx (O1++Op++O2)).flatten.Perm ((Os.set idx (O1++O2)).flatten++Op):=by have:=lw (Os:=Os.set idx (O1++Op++O2)) (i:=idx) (O1:=O1) (P:=Op) (O2:=O2) (by rw[I7,if_pos rfl,if_pos (by rw[h7];exact hlt)]);rwa[List.set_set]at this
 have hown0:L9 m bx (S (U8+bx))=blk::Os.flatten:=by simp[L9,hS,hm,hk]
 have hown1:L9 (wW m bx (Os.set idx (O1++Op++O2)).flatten) bx (.barrs md (ay xs idx y) none)=blk::(Os.set idx (O1++Op++O2)).flatten:=by simp[L9,hm]
 have hnd:=R.nd bx;rw[hown0]at hnd;have hnd0:=V9.1 hnd;have hndA:=J6.1 (hO1.nodup_iff.1 hnd0.2);have hfreeOp:∀b∈Op,b∉blk::Os.flatten:=λb hb h=>(hTo.free b hb).2.2.2 bx (by rw[hown0];exact h);have hsubA:∀b∈(Os.set idx (O1++O2)).flatten,b∈Os.flatten:=λb hb=>hO1.mem_iff.2 (X6 _ hb);have hneP:∀b∈Op,b≠blk:=λb hb e=>hfreeOp b hb (by simp[e]);have hB:xY ⟨w.heap,ok,wW m bx (Os.set idx (O1++Op++O2)).flatten⟩ bx (.barrs md (ay xs idx y) none):=by
  refine Ic (Os:=Os.set idx (O1++Op++O2)) hel hm ⟨rfl,by simp[ay],h3,by simp[h7,ay],c,T0,hh,hs,λj z hz=>?_⟩ A8 trivial;unfold ay at hz;rw[I7]at hz;split at hz
  .rename_i hj;subst hj;cases hz;exact⟨es,O1++Op++O2,by rw[I7,if_pos rfl,if_pos (by rw[h7];exact hlt)],he,hr'⟩
  .rename_i hj;obtain⟨es2,O',hO2',he2,hr2⟩:=hxs j z hz;refine⟨es2,O',by rw[I7,if_neg hj];exact hO2',he2,?_⟩;simp only[Ve];rw[EW (λe=>hj e.symm)]at hr2;exact hr2
 have hmod:=R.modK hT (n:=bx) (v:=.barrs md (ay xs idx y) none) (ks:=(Os.set idx (O1++Op++O2)).flatten) (w' :=w) (T' :=T) A8
  (by
   rw[hown1];refine V9.2 ⟨λh=>?_,hO2.nodup_iff.2 (J6.2 ⟨hndA.1,hTo.nodup,λx hx z hz e=>?_⟩)⟩
   .rcases H5.1 (hO2.mem_iff.1 h)with h|h
    .exact hnd0.1 (hsubA _ h)
    .exact hneP _ h rfl
   .subst e;exact hfreeOp x hz (by simp[hsubA x hx]))
  (λb hb=>by
   rw[hown1]at hb;rw[hown0];rcases C9.1 hb with hb|hb
   .exact .inl (by simp[hb])
   .rcases H5.1 (hO2.mem_iff.1 hb)with h|h
    .exact .inl (by simp[hsubA _ h])
    .exact .inr (bW _ h))
  rfl rfl rfl rfl (λb hb=>rfl) hB hnd1.1 (λb hb=>⟨.inr (X6 _ hb),λh=>by
   rw[hown1]at h;have h1:b∉blk::Os.flatten:=λh' =>(hT.free b (X6 _ hb)).2.2.2 bx (by rw[hown0];exact h');rcases C9.1 h with h|h
   .exact h1 (by simp[h])
   .rcases H5.1 (hO2.mem_iff.1 h)with h|h
    .exact h1 (by simp[hsubA _ h])
    .exact hnd1.2.2 b hb b h rfl⟩)
 exact hK _ _ hmod.1 hmod.2 (λ_ _ h=>h)
theorem OQ(R:Rel X cl ch S m ok a w){T:c2i}(hT:Tk X S m ok w T)
  (hK:∀S' m',Rel X cl ch S' m' ok a w->Tk X S' m' ok w T->(∀k l,m k=some l->m' k=some l)->K.post S' Q):(VV bx K).post S Q:=by
 unfold VV;refine V5 ?_;split
 .rename_i md0 xs0 i0 o0 n hS;refine V5 ?_;refine V7 λharr=>cu (V5 ?_);split<;>try trivial
  rename_i md xs i o n' hS2;have hne:n≠bx:=λe=>by subst e;rw[gG]at hS2;cases hS2
  have hS3:S (U8+bx)= .barrs md xs (some (i,o,some n')):=by rw[←hS2,aA _ _ o5]
  have hn:n' =n:=by rw[hS]at hS3;injection hS3 with _ _ h3;injection h3 with h3;injection h3 with _ h3;injection h3 with _ h3;injection h3 with h3;exact h3.symm
  subst hn;obtain⟨hel,l,Os,hm',⟨ha,hho⟩,hk⟩:=R.own_barrs hS3;obtain⟨blk,off,len,cap,u,l',rfl,hu,hmn,hvu⟩:=hho;have T1:=Tk.kill R hT n' (bs:=L9 m n' (S (U8+n'))) (λ_ h=>h) (R.nd n');refine ZH (R.kill n') T1 hS2 hm' (u:=u) ?_ hu hK;cases hb2:S (U8+n')<;>rw[hb2]at harr<;>try cases harr
  .rename_i t2 ys;obtain⟨l2,hm2,ha'⟩:=R.own_arr hb2;have e:l' =l2:=iT (hmn.symm.trans hm2);subst e;refine .inr (.inl ⟨t2,ys,l',rfl,hvu,Aj ha',?_⟩);have hm2:m n' =some l' :=hm2;cases l'<;>first|(simp[L9,hm2,Loc.blks];done)|cases ha'
  .rename_i md3 ys hole3;obtain⟨hel3,l2,Os3,hm2,⟨ha',hho3⟩,hk'⟩:=R.own_barrs hb2;have e:l' =l2:=iT (hmn.symm.trans hm2);subst e;rcases hole3 with _|⟨p1,p2,p3⟩
   .refine .inr (.inr ⟨md3,ys,l',Os3,rfl,hel3,hvu,ha',?_⟩);have hm2:m n' =some l' :=hm2;cases l'<;>first|(simp[L9,hm2,Loc.blks,hk'];done)|cases ha'
   .cases harr
 .exact hK S m R hT (λ_ _ h=>h)
theorem BI{α:Type}{Q:α->Sm->Prop}{K:Cmd α} :∀(cs:List V) {S:Sm} {m:Mp} (R:Rel X cl ch S m ok a w) {T:c2i} (hT:Tk X S m ok w T)
  (hK:∀S' m',Rel X cl ch S' m' ok a w->Tk X S' m' ok w T->(∀k l,m k=some l->m' k=some l)->K.post S' Q),(Ny cs K).post S Q
 |[],S,m,R,T,hT,hK=>hK S m R hT (λ_ _ h=>h)|v::r,S,m,R,T,hT,hK=>by
  unfold Ny;split
  .exact OQ R hT λS1 m1 R1 T1 k1=>BI r R1 T1 λS2 m2 R2 T2 k2=>hK S2 m2 R2 T2 (λk l h=>k2 k l (k1 k l h))
  .exact BI r R hT hK
theorem qQ{α:Type}{Q:α->Sm->Prop}{K:Cmd α} :∀(cs:List V) {S:Sm} {m:Mp} (R:Rel X cl ch S m ok a w) {T:c2i} (hT:Tk X S m ok w T)
  (hK:∀S' m',Rel X cl ch S' m' ok a w->Tk X S' m' ok w T->(∀k l,m k=some l->m' k=some l)->K.post S' Q),(EI cs K).post S Q
 |[],S,m,R,T,hT,hK=>hK S m R hT (λ_ _ h=>h)|v::r,S,m,R,T,hT,hK=>by
  unfold EI;split
  .exact OQ R hT λS1 m1 R1 T1 k1=>qQ r R1 T1 λS2 m2 R2 T2 k2=>hK S2 m2 R2 T2 (λk l h=>k2 k l (k1 k l h))
  .refine V5 ?_;split
   .exact BI _ R hT λS1 m1 R1 T1 k1=>qQ r R1 T1 λS2 m2 R2 T2 k2=>hK S2 m2 R2 T2 (λk l h=>k2 k l (k1 k l h))
   .exact qQ r R hT hK
  .exact BI _ R hT λS1 m1 R1 T1 k1=>qQ r R1 T1 λS2 m2 R2 T2 k2=>hK S2 m2 R2 T2 (λk l h=>k2 k l (k1 k l h))
  .exact qQ r R hT hK
theorem a3w(H:FxOk X)(R:Rel X cl ch S m ok a w){x y:Operand}(ho:o.op= .store t x y):(aG X.E q o).post S (λ_ S' =>eX X cl ch o a w m ok S'):=by
 unfold aG;simp only[ho];cases hd:o.dst with
 |some d=>trivial|none=>
 refine Y9 R λp hp=>Y9 R λv hv=>?_;unfold a6r;refine gB H λi hi=>?_;cases p<;>try trivial
 case ptr bx off=>
  obtain⟨blk,hm,hx⟩:=hp;refine V5 ?_;split<;>try trivial
  rename_i cs hS;obtain⟨blk',arr,T,hm',hh,hl⟩:=R.own_cells hS;simp only at hm hm';rw[hm]at hm';cases hm';refine pG hv λvs hvs=>V7 λhlen=>xX _ _ _ λhle=>cu ?_;have hlen' :=bQ hlen;have hL:=gZ hl;have hL2:=gZ hvs;have hsz:(a.eval y).cells.size=i.size:=by simp at hL2;omega
  have hown:L9 m bx (S (U8+bx))=[blk]:=by simp[L9,hS,hm]
  have hfit:off+i.size<=arr.size:=by simp at hL;omega
  have run:=wU hi w hh (.inl rfl) (v:=a.eval y) hsz hfit (MJ hvs);refine Bz ho hd (w' :=w.setRow blk (Z8 off (a.eval y).cells.toList arr.toList).toArray) (by simp[Instr.storeAt,Instr.sureAddr,hx,run]) ?_ (λ_ _ h=>h) (λ_ _ h=>h);refine R.mod (by rw[hown];simp[L9,hm]) A8 rfl rfl rfl A8 (λb hb=>setRow_other w blk b _ (by rw[hown]at hb;simpa using hb)) ?_;refine⟨blk,_,T,hm,setRow_heap w blk arr _ T (0,0) hh,?_⟩;refine a8P (λb t hb=>setRow_other w blk b _ (λe=>(R.sep bx blk (by rw[hown];simp)).1 t (e▸hb))) ?_;simpa using yM hvs hl
 case ep bx ix off=>
  obtain⟨blk,o',len,cap,sz,hm,hlt,hx⟩:=hp;simp only at hm;refine V5 ?_;split<;>try trivial
  .rename_i u xs hS;obtain⟨l,hm',ha⟩:=R.own_arr hS;rw[hm]at hm';cases hm';obtain⟨hE0,rfl,rfl,h3,c,T,f,hh,hz,hs,hxs⟩:=ha;refine bF λe0 he0=>?_;obtain⟨es,he,hr⟩:=hxs ix e0 he0;refine pG hv λvs hvs=>V7 λhlen=>xX _ _ _ λhle=>?_;rw[jY]at hle;have hlen' :=bQ hlen;have hL2:=gZ hvs;have hsz:(a.eval y).cells.size=i.size:=by simp at hL2;omega
   have hes:=jT he;have hnew:=yM (off:=off) hvs (lT (C:=⟨w.heap,ok,m⟩) hr);refine Ad (T:=[]) u R Tk.nil hnew λS1 ok1 y1 q1 us us' R1 T1 k1 s1 e1 h1 l1=>?_;cases q1 with
   |cons _ _=>trivial|nil=>
   simp only[dD]at l1;subst l1;simp only[G6]at e1;subst e1;refine V5 ?_;split<;>try trivial
   rename_i u' xs' hS1;refine dw λe=>?_;subst e;refine cu ?_;obtain⟨l,hm',ha⟩:=R1.own_arr hS1;rw[hm]at hm';cases hm';obtain⟨_,hszu,hlen2,h3',c',T',f',hh',hz',hs',hxs'⟩:=ha;rw[hh]at hh';cases hh';have hown:L9 m bx (S1 (U8+bx))=[blk]:=by simp[L9,hS1,hm]
   have hvl:(a.eval y).cells.toList.length=i.size:=by simpa using hsz
   obtain⟨hfit,hsp,hnew2,hold⟩:=MR (us:=(a.eval y).cells.toList) (off:=off) hh hs h3 hlt he (by rw[hvl];omega);have run:=wU hi w (off:=o' +ix*u'.size+off) hh hz.of (v:=a.eval y) hsz (by rw[hvl]at hfit;exact hfit) (MJ hvs);refine Bz ho hd (w' :=w.setRow blk (Z8 (o' +ix*u'.size+off) (a.eval y).cells.toList c.toList).toArray) (by simp[Instr.storeAt,Instr.sureAddr,hx,run]) ?_ (λ_ _ h=>h) k1;refine R1.mod (by rw[hown];simp[L9,hm]) A8 rfl rfl rfl A8 (λb hb=>setRow_other w blk b _ (by rw[hown]at hb;simpa using hb)) ?_;have hkeep:∀b t,ok1 b t->(w.setRow blk (Z8 (o' +ix*u'.size+off) (a.eval y).cells.toList c.toList).toArray).heap[b]? =w.heap[b]?:=
    λb t hb=>setRow_other w blk b _ (λe=>(R1.sep bx blk (by rw[hown];simp)).1 t (e▸hb))
   refine⟨_,hm,hE0,rfl,by simp[ay,hlen2],h3,_,T,f,setRow_heap w blk c _ T f hh,by rw[X5,hsp];exact hz,by simp[hsp];exact hs,λj z hz=>?_⟩;unfold ay at hz;rw[I7]at hz;split at hz
   .rename_i hj;subst hj;split at hz
    .cases hz;exact⟨_,hnew2,bZ (λ_ _ h=>h) hkeep h1⟩
    .cases hz
   .rename_i hj;obtain⟨es2,he2,hr2⟩:=hxs' j z hz;have hj2:=(aF.1 hz).1;exact⟨_,(hold j (by rw[hlen2];exact hj2) (λe=>hj e.symm)).trans he2,bZ (λ_ _ h=>h) hkeep hr2⟩
  .rename_i md xs hole hS;cases hcd:(md.ownAt off&&Nat.beq i.size 1&&!aB i.td)
   .simp only[cond_false];cases hole with
    |some _=>trivial|none=>
    refine pG hv λvs hvs=>V7 λhlen=>bF λe0 he0=>?_;have he0' :xs[ix]? =some e0:=he0;obtain⟨hel,l,Os,hm',⟨ha,hho⟩,hk⟩:=R.own_barrs hS;rw[hm]at hm';cases hm';obtain⟨rfl,rfl,h3,h7,c,T,hh,hs,hxs⟩:=ha;obtain⟨es,O,hO,he,hr⟩:=hxs ix e0 he0';refine ND md off hr hvs λy1 hle hr' =>cu ?_;have hes:es.length=md.size:=ae hr;have hlen' :=bQ hlen;have hL2:=gZ hvs;have hsz:(a.eval y).cells.size=i.size:=by simp at hL2;omega
    have hvl:(a.eval y).cells.toList.length=i.size:=by simpa using hsz
    obtain⟨hfit,hsp,hnew2,hold⟩:=MR (us:=(a.eval y).cells.toList) (off:=off) hh hs h3 hlt he o5;have run:=wU hi w (off:=o' +ix*md.size+off) hh (.inl rfl) (v:=a.eval y) hsz (by rw[hvl]at hfit;exact hfit) (MJ hvs);have hown:L9 m bx (S (U8+bx))=blk::Os.flatten:=by simp[L9,hS,hm,hk]
    have hnd:=R.nd bx;rw[hown]at hnd;have hnd0:=V9.1 hnd;have hneO:∀b∈Os.flatten,b≠blk:=λb hb e=>hnd0.1 (e▸hb);refine Bz ho hd (w' :=w.setRow blk (Z8 (o' +ix*md.size+off) (a.eval y).cells.toList c.toList).toArray) (by simp[Instr.storeAt,Instr.sureAddr,hx,run]) ?_ (λ_ _ h=>h) (λ_ _ h=>h);have hkeep:∀b t,ok b t->(w.setRow blk (Z8 (o' +ix*md.size+off) (a.eval y).cells.toList c.toList).toArray).heap[b]? =w.heap[b]?:=
     λb t hb=>setRow_other w blk b _ (λe=>(R.sep bx blk (by rw[hown];simp)).1 t (e▸hb))
    refine R.mod (by rw[hown];simp[L9,hm,hk]) A8 rfl rfl rfl A8 (λb hb=>setRow_other w blk b _ (λe=>hb (by rw[hown,e];simp))) ?_;refine Ic (Os:=Os) hel hm ⟨rfl,by simp[ay],h3,by simp[h7,ay],_,T,setRow_heap w blk c _ T (0,0) hh,by simp[hsp];exact hs,λj z hz=>?_⟩ hk trivial;unfold ay at hz;rw[I7]at hz;split at hz
    .rename_i hj;subst hj;cases hz;exact⟨_,O,hO,hnew2,eF (λ_ _ h=>h) hkeep (λb hb=>setRow_other w blk b _ (hneO b (W9.2 ⟨O,kW hO,hb⟩))) hr'⟩
    .rename_i hj;obtain⟨es2,O2,hO2,he2,hr2⟩:=hxs j z hz;have hj2:=(aF.1 hz).1;exact⟨_,O2,hO2,(hold j o5 (λe=>hj e.symm)).trans he2,eF (λ_ _ h=>h) hkeep (λb hb=>setRow_other w blk b _ (hneO b (W9.2 ⟨O2,kW hO2,hb⟩))) hr2⟩
   .simp only[cond_true];simp only[o9,aZ]at hcd;obtain⟨⟨_,hsz1⟩,_⟩:=hcd;have hsz1:=bQ hsz1;have fin:∀{S' :Sm} {m' :Mp} {w' :World},Rel X cl ch S' m' ok a w' ->(∀k l,m k=some l->m' k=some l)->(storeVar t ⟨blk,o' +ix*sz+off,none⟩ (a.eval y)).run X.P w= .ok () w' ->eX X cl ch o a w m ok S' :=
     λR' hm' run=>Bz ho hd (by simp[Instr.storeAt,Instr.sureAddr,hx,run]) R' hm' (λ_ _ h=>h)
    split
    .have hv' :a.eval y= .slice none 0 0:=hv;exact PW (Op:=[]) R Tk.nil hi hsz1 hS hm (.inl ⟨rfl,hv',rfl⟩) (λS' m' w' R' h' run=>fin R' h' run)
    .rename_i b2;obtain⟨l2,hm2,hv2⟩:=hv;simp only at hm2;refine V5 ?_;refine V7 λharr=>cu (V5 ?_);split<;>try trivial
     rename_i md2 xs2 hole2 hS2;have T1:=Tk.kill R (T:=[]) Tk.nil b2 (bs:=L9 m b2 (S (U8+b2))) (λ_ h=>h) (R.nd b2);rw[F6]at T1;refine PW (R.kill b2) T1 hi hsz1 hS2 hm ?_ (λS' m' w' R' h' run=>fin R' h' run);cases hb2:S (U8+b2)<;>rw[hb2]at harr<;>try cases harr
     .rename_i t2 ys;obtain⟨l',hm',ha'⟩:=R.own_arr hb2;rw[hm2]at hm';cases hm';refine .inr (.inl ⟨t2,ys,l2,rfl,hv2,Aj ha',?_⟩);cases l2<;>first|(simp[L9,hm2,Loc.blks];done)|cases ha'
     .rename_i md3 ys hole3;obtain⟨hel3,l',Os,hm',⟨ha',hho⟩,hk'⟩:=R.own_barrs hb2;rw[hm2]at hm';cases hm';rcases hole3 with _|⟨p1,p2,p3⟩
      .refine .inr (.inr ⟨md3,ys,l2,Os,rfl,hel3,hv2,ha',?_⟩);cases l2<;>first|(simp[L9,hm2,Loc.blks,hk'];done)|cases ha'
      .cases harr
    .trivial
  .rename_i md xs kn ko hS;refine V7 λhcd=>?_;simp only[o9,aZ]at hcd;obtain⟨⟨hoff,hsz1⟩,_⟩:=hcd;have hsz1:=bQ hsz1;have hoff:=bQ hoff;have fin:∀{S' :Sm} {m' :Mp} {w' :World},Rel X cl ch S' m' ok a w' ->(∀k l,m k=some l->m' k=some l)->(storeVar t ⟨blk,o' +ix*sz+off,none⟩ (a.eval y)).run X.P w= .ok () w' ->eX X cl ch o a w m ok S' :=
    λR' hm' run=>Bz ho hd (by simp[Instr.storeAt,Instr.sureAddr,hx,run]) R' hm' (λ_ _ h=>h)
   split<;>try trivial
   rename_i b2;obtain⟨l2,hm2,hv2⟩:=hv;simp only at hm2;refine V5 ?_;refine V7 λharr=>cu (V5 ?_);split<;>try trivial
   rename_i md2 xs2 kn2 ko2 hS2;have hb2x:b2≠bx:=λe=>by subst e;rw[gG]at hS2;cases hS2
   have hko:ko2=ko:=by rw[aA _ _ o5,hS]at hS2;injection hS2 with _ _ _ e4;exact e4.symm
   refine⟨λhidx=>?_,λ_=>trivial⟩;have hidx:ix=kn2.toNat:=bQ hidx;have T1:=Tk.kill R (T:=[]) Tk.nil b2 (bs:=L9 m b2 (S (U8+b2))) (λ_ h=>h) (R.nd b2);rw[F6]at T1;refine YU (R.kill b2) T1 hi hsz1 hS2 (hoff.trans hko.symm) hidx hm ?_ (λS' m' w' R' h' run=>fin R' h' run);cases hb2:S (U8+b2)<;>rw[hb2]at harr<;>try cases harr
   .rename_i t2 ys;obtain⟨l',hm',ha'⟩:=R.own_arr hb2;rw[hm2]at hm';cases hm';refine .inr (.inl ⟨t2,ys,l2,rfl,hv2,Aj ha',?_⟩);cases l2<;>first|(simp[L9,hm2,Loc.blks];done)|cases ha'
   .rename_i md3 ys hole3;obtain⟨hel3,l',Os,hm',⟨ha',hho⟩,hk'⟩:=R.own_barrs hb2;rw[hm2]at hm';cases hm';rcases hole3 with _|⟨p1,p2,p3⟩
    .refine .inr (.inr ⟨md3,ys,l2,Os,rfl,hel3,hv2,ha',?_⟩);cases l2<;>first|(simp[L9,hm2,Loc.blks,hk'];done)|cases ha'
    .cases harr
theorem QR{c:Nat}{u:V}{x:Value}{K:Nat->Cmd α}(R:Rel X cl ch S m ok a w)(hu:iI ⟨w.heap,ok,m⟩ u x)
  (hK:∀b l v,m b=some l->l.view none v->atV w.heap c x v->(∀a1 a2 a3,atV w.heap c x (.slice a1 a2 a3)->v= .slice a1 a2 a3)->(K b).post S Q):(a0x c u K).post S Q:=by
 unfold a0x;split<;>try trivial
 .rename_i b;obtain⟨l,hm,hv⟩:=hu;refine hK b l x hm hv (.inl rfl) λa1 a2 a3 h=>?_;rcases h with h|⟨_,_,_,_,h,_⟩
  .exact h
  .rw[h]at hv;cases l<;>simp[Loc.view]at hv
 .rename_i pb;obtain⟨blk,hm,hx⟩:=hu;refine V5 ?_;split<;>try trivial
  rename_i cs hS;obtain⟨blk',arr,T,hm',hh,hl⟩:=R.own_cells hS;simp only at hm;rw[hm]at hm';cases hm';refine tC λhle=>?_;split<;>try trivial
  rename_i b hcs;have hl1:=oQ 1 (nC c hl);rw[hcs]at hl1;obtain⟨v,r,e,⟨l,hmb,hv⟩,_,_⟩:=hl1;have hcv:arr.toList[c]? =some v:=by have:=congrArg (λl=>l[0]?) e;simpa using this
  have hx:x= .pointer (some ⟨blk,0,none⟩):=hx;refine hK b l v hmb hv (.inr ⟨blk,arr,T,_,hx,hh,hcv⟩) λa1 a2 a3 h=>?_;rcases h with h|⟨b',arr',T',f',h,h2,h3⟩
  .rw[hx]at h;cases h
  .rw[hx]at h;injection h with h;injection h with h;injection h with h;subst h;rw[hh]at h2;cases h2;rw[hcv]at h3;cases h3;rfl
theorem VG(R:Rel X cl ch S m ok a w){l:Loc}(hm:m b=some l)
  (hK:(∀blk off len cap sz',l= .arr blk off len cap sz' ->sz' =sz)->K.post S Q):(a7P b sz K).post S Q:=by
 unfold a7P;refine V5 ?_;split<;>try trivial
 .rename_i md xs hole hS;refine V7 λh=>hK λblk off len cap sz' e=>?_;subst e;obtain⟨_,l,Os,hm',⟨ha,_⟩,_⟩:=R.own_barrs hS;rw[hm]at hm';cases hm';exact ha.1.trans (bQ h)
 .rename_i t xs hS;refine V7 λh=>hK λblk off len cap sz' e=>?_;subst e;obtain⟨l,hm',ha⟩:=R.own_arr hS;rw[hm]at hm';cases hm';exact ha.2.1.trans (bQ h)
theorem Nq{α:Type}{Q:α->Sm->Prop}(R:Rel X cl ch S m ok a w):∀(als:List (Nat×Nat×Option (Nat×Nat×Nat×Nat))) {K:Cmd α}
  (hK:(∀p∈als,alR w.heap a.tmps p)->K.post S Q),(a1q als K).post S Q
 |[],K,hK=>hK (λp hp=>by cases hp)|(n,k,none)::r,K,hK=>by
  unfold a1q;refine V7 λhb=>?_;simp only[o9]at hb;refine V5 (V5 ?_);refine V7 λhv=>Nq R r λh=>hK λp hp=>?_;rcases C9.1 hp with rfl|hp
  .have h1:=hb.1;have h2:=hb.2;rw[Z4]at h1 h2;exact a4X hv (R.slot n h1) (R.slot k h2)
  .exact h p hp
 |(n,k,some (c,j,o2,sz))::r,K,hK=>by
  unfold a1q;refine V7 λhb=>?_;simp only[o9]at hb;obtain⟨⟨h1,h2⟩,h3⟩:=hb;rw[Z4]at h1 h2 h3;refine V5 (V5 (V5 ?_));have hn:=R.slot n h1;have hj:=R.slot j h3;split<;>try trivial
  rename_i b' i o' k2 y hSn hSj;rw[hSn]at hn;rw[hSj]at hj;obtain⟨blk,off,len,cap,sz',hmb,hlt,hx⟩:=hn;refine QR R (R.slot k h2) λb l v hm hv hat _=>V7 λhbb=>?_;simp only[o9]at hbb;have e1:=bQ hbb.1;have e2:=bQ hbb.2;subst e1;subst e2;simp only at hmb;rw[hm]at hmb;cases hmb;refine VG R hm λhsz=>⟨λhi=>?_,λ_=>trivial⟩;have hi:i=y.toNat:=bQ hi;have hsz:=hsz _ _ _ _ _ rfl;subst hsz;subst hi;have hv:v= .slice (some ⟨blk,off,none⟩) len cap:=hv;subst hv;refine Nq R r λh=>hK λp hp=>?_;rcases C9.1 hp with rfl|hp
  .exact⟨blk,off,len,cap,k2,y,hat,hj,hlt,hx⟩
  .exact h p hp
theorem ZG{sg:Sig}{Q:mP sg->Sm->Prop}(R:Rel X cl ch S m ok a w)
  (hK:∀S' m' ok' y O,Rel X cl ch S' m' ok' a w->Tk X S' m' ok' w O->(∀k l,m k=some l->m' k=some l)->(∀b t,ok b t->ok' b t)->
   Zg w.heap ok' sg y a.tmps O->Q y S'):(a2U sg).post S Q:=by
 unfold a2U;refine Nq R _ λhals=>Ph _ R.slot λvs hvs=>?_;refine qQ _ R Tk.nil λS1 m1 R1 T1 k1=>?_;refine XF (T:=[]) _ R1 T1 (WL k1 hvs) λS' ok' y O R' T' k s h=>?_;exact hK S' m1 ok' y O R' T' k1 k ⟨h,hals⟩
theorem Ir{Q:Unit->Sm->Prop} :∀(als:List (Nat×Nat×Option (Nat×Nat×Nat×Nat))) {S:Sm} (R:Rel X cl ch S m ok a w) (h:∀p∈als,alR w.heap a.tmps p)
  (hK:∀S',Rel X cl ch S' m ok a w->Q () S'),(Oo als).post S Q
 |[],S,R,h,hK=>hK S R
 |(n,k,none)::r,S,R,h,hK=>by unfold Oo;refine V7 λhb=>?_;simp only[o9]at hb;have h1:=hb.1;have h2:=hb.2;rw[Z4]at h1 h2;show Cmd.post _ (upd S n (S k)) Q;refine Ir r (R.slotV h1 ?_) (λp hp=>h p (P9 _ hp)) hK;have e:a.tmps.getD n Go.undef=a.tmps.getD k Go.undef:=h (n,k,none) dP;rw[e];exact R.slot k h2|(n,k,some (c,j,o2,sz))::r,S,R,h,hK=>by
  unfold Oo;refine V7 λhb=>?_;simp only[o9]at hb;obtain⟨⟨h1,h2⟩,h3⟩:=hb;rw[Z4]at h1 h2 h3;refine V5 (V5 ?_);have hj:=R.slot j h3;split<;>try trivial
  rename_i k2 y hSj;rw[hSj]at hj;obtain⟨blk,off,len,cap,q2,y2,hat,hj2,hlt,hn⟩:=h (n,k,some (c,j,o2,sz)) dP;have ey:y2=y:=by have hj:a.tmps.getD j Go.undef= .int k2 y:=hj;rw[hj]at hj2;injection hj2 with _ e;exact e.symm
  subst ey;refine QR R (R.slot k h2) λb l v hm hv _ huniq=>VG R hm λhsz=>cu ?_;have ev:=huniq _ _ _ hat
  subst ev;refine Ir r (R.slotV h1 ?_) (λp hp=>h p (P9 _ hp)) hK;cases l with
  |nil=>simp[Loc.view]at hv|st b=>cases hv|mp b=>simp[Loc.view]at hv
  |arr blk' off' len' cap' sz' =>have e:=hsz _ _ _ _ _ rfl;subst e;simp only[Loc.view]at hv;injection hv with e1 e2 e3;injection e1 with e1;injection e1 with e1 e4;subst e1;subst e2;subst e3;subst e4;exact⟨blk,off,len,cap,sz',hm,hlt,hn⟩
theorem ZB{sg:Sig}{x:mP sg}{nb lim:Nat}{Q:Unit->Sm->Prop}{O:c2i}(R:Rel X cl ch S m ok a w)(hcl:cl<=nb)(hT:Tk X S m ok w O)
  (h:Zg w.heap ok sg x a.tmps O)
  (hK:∀S' m',Rel X cl (max ch lim) S' m' ok a w->(∀k l,m k=some l->m' k=some l)->Q () S'):(a2Q sg x nb lim).post S Q:=by
 unfold a2Q;refine EO (T:=[]) _ R hcl (by simpa using hT) h.1 λS1 m1 vs n1 ch1 R1 c1 T1 k1 s1 l1 e1=>?_;cases hb:Nat.ble n1 lim
 .trivial
 .simp only[cond_true];have:n1<=lim:=P5 hb;exact FP _ (R1.chmono (ch' :=max ch lim) o5) l1 λS' R' =>Ir _ R' h.2 λS'' R'' =>hK S'' m1 R'' k1
end
end Go.GP
namespace Go.GP
variable {α:Type}{t:TypeId}{q:Nat}{sz:Nat}{f:Nat}{P:Program}{j:TI}{x:Operand}{Q:α->Sm->Prop}
section
variable {X:Fx} {cl ch:Nat} {S:Sm} {m:Mp} {ok:Nat->Ty->Prop} {a:Act} {w:World} {o:Oper}
theorem Dl(H:FxOk X){t f off n:Nat}{ag:Bool}(h:He X.E t f=some (off,n,ag)):
  ∃fields fld j,X.P.underlying t=some (.struct fields)/\fields[f]? =some fld/\fld.offset=off/\TiOk X.P fld.type j/\j.size=n/\n≠0/\ag=aB j.td:=by
 unfold He at h;cases hi:bf X.E.tt t with
 |none=>simp[hi]at h|some i=>
  have Hi:=H.tt t i hi;have htd:=Hi.td;simp only[hi]at h;cases hd:i.td<;>simp only[hd]at h<;>try (simp at h;done)
  rename_i fs;rw[hd]at htd;obtain⟨fields,hu,hf⟩:=htd;cases hfs:fs[f]? with
  |none=>simp[hfs]at h|some x=>
   obtain⟨ft,off'⟩:=x;simp only[hfs]at h;cases hj:bf X.E.tt ft with
   |none=>simp[hj]at h|some j=>
    simp only[hj]at h;cases hb:Nat.beq j.size 0
    .simp only[hb,cond_false,F5,iH]at h;obtain⟨rfl,rfl,rfl⟩:=h;rw[←hf]at hfs;simp only[dF,bK]at hfs;obtain⟨fld,hfl,he⟩:=hfs;simp only[iH]at he;obtain⟨rfl,rfl⟩:=he;refine⟨fields,fld,j,hu,by simpa using hfl,rfl,H.tt _ _ hj,rfl,λe=>?_,rfl⟩;rw[e]at hb;simp at hb
    .simp[hb]at h
theorem Il{t f off:Nat}{fields:Array Field}{fld:Field}(w:World)(hu:P.underlying t=some (.struct fields))(hf:fields[f]? =some fld)(ho:fld.offset=off)
  (hj:TiOk P fld.type j) (hn:j.size≠0) (b p:Nat):(Instr.fieldAt t (.pointer (some ⟨b,p,none⟩)) f).run P w= .ok (.pointer (some ⟨b,p+off,none⟩)) w:=by
 simp[Instr.fieldAt,run_underlying hu,hf,Instr.sureAddr,fieldPlace,mO hj,hn,dW,ho]
theorem Wq(H:FxOk X)(R:Rel X cl ch S m ok a w)(ho:o.op= .fieldAddr t x f):(aG X.E q o).post S (λ_ S' =>eX X cl ch o a w m ok S'):=by
 unfold aG;simp only[ho];refine Y9 R λp hp=>?_;split<;>try trivial
 rename_i off n ag hfo;obtain⟨fields,fld,j,hu,hf,hoff,hj,hn,hn0,_⟩:=Dl H hfo;have hj0:j.size≠0:=o5;cases p<;>try trivial
 case ptr bx o' =>obtain⟨blk,h1,h2⟩:=hp;exact Z5 H R (v:=.ptr bx (o' +off)) ⟨blk,h1,rfl⟩ (by simp[execOp,ho,h2,Il w hu hf hoff hj hj0])
 case ep bx ix o' =>obtain⟨blk,o2,len,cap,sz,h1,h2,h3⟩:=hp;exact Z5 H R (v:=.ep bx ix (o' +off)) ⟨blk,o2,len,cap,sz,h1,h2,rfl⟩ (by simp[execOp,ho,h3,Il w hu hf hoff hj hj0,dJ])
 case dp u y o' =>obtain⟨blk,o2,es,h1,h2⟩:=hp;exact Z5 H R (v:=.dp u y (o' +off)) ⟨blk,o2,es,rfl,h2⟩ (by simp[execOp,ho,h1,Il w hu hf hoff hj hj0,dJ])
theorem a3s(H:FxOk X)(R:Rel X cl ch S m ok a w)(ho:o.op= .field t x f):(aG X.E q o).post S (λ_ S' =>eX X cl ch o a w m ok S'):=by
 unfold aG;simp only[ho];refine Y9 R λp hp=>?_;split<;>try trivial
 rename_i off n ag hfo;obtain⟨fields,fld,j,hu,hf,hoff,hj,hn,hn0,rfl⟩:=Dl H hfo;refine yB hp λps us hg hl=>tC λhle=>?_;obtain⟨arr,hx,rfl⟩:=hg;have hL:=gZ hl;have hlen:((arr.toList.drop off).take n).length=n:=by simp at hL ⊢;omega
 refine Z5 H R (yf (oQ n (nC off hl)) (λha=>by rw[hlen,←hn];exact hj.one ha)) ?_;have hpart:(part fld.type arr off).run X.P w= .ok (Nh (aB j.td) ((arr.toList.drop off).take n)) w:=by
  unfold part;rw[E9,Ac hj.td];simp only[G5];cases ha:aB j.td
  .have h1:=hj.one ha;have hlt:off<arr.size:=by simp at hL;omega
   simp only[dh,if_false,Nh];rw[show arr[off]? =some arr[off]from by simp[hlt]];have:n=1:=o5;subst this;simp[List.take_one,hlt]
  .simp only[if_true,Nh,E9,mO hj,G5,hn,U0];congr 2;apply iE;simp[jI]
 simp[execOp,ho,hx,Instr.field,run_underlying hu,hf,asAgg,hoff,hpart]
theorem EM(H:FxOk X){t n sz:Nat}(h:EL X.E t=some (false,n,sz)):∃e j,X.P.underlying t=some (.slice e)/\TiOk X.P e j/\j.size=sz:=by
 unfold EL at h;cases hi:bf X.E.tt t with
 |none=>simp[hi]at h|some i=>
  have htd:=(H.tt t i hi).td;simp only[hi]at h;cases hd:i.td<;>simp only[hd]at h<;>try (simp at h;done)
  .rename_i e;rw[hd]at htd;cases hj:bf X.E.tt e with
   |none=>simp[hj]at h|some j=>simp[hj]at h;exact⟨e,j,htd,H.tt _ _ hj,h.2⟩
  .rename_i l e;cases hj:bf X.E.tt e<;>simp[hj]at h
theorem ZA(H:FxOk X){t n sz:Nat}(h:EL X.E t=some (true,n,sz)):∃e j,X.P.underlying t=some (.array n e)/\TiOk X.P e j/\j.size=sz:=by
 unfold EL at h;cases hi:bf X.E.tt t with
 |none=>simp[hi]at h|some i=>
  have htd:=(H.tt t i hi).td;simp only[hi]at h;cases hd:i.td<;>simp only[hd]at h<;>try (simp at h;done)
  .rename_i e;cases hj:bf X.E.tt e<;>simp[hj]at h
  .rename_i l e;rw[hd]at htd;cases hj:bf X.E.tt e with
   |none=>simp[hj]at h|some j=>simp[hj]at h;obtain⟨rfl,h⟩:=h;exact⟨e,j,htd,H.tt _ _ hj,h⟩
theorem uo{l:List α}{n:Int}{y:α}(h:J7 l n=some y):0<=n/\l[n.toNat]? =some y/\n.toNat<l.length/\n<l.length:=by
 unfold J7 at h;split at h
 .rename_i h0;have:=(aF.1 h).1;exact⟨h0,h,this,o5⟩
 .cases h
theorem pg{t e:TypeId}(w:World)(hu:P.underlying t=some (.slice e))(hj:TiOk P e j){k:IntKind}{n:Int}{b p len cap:Nat}(h0:0<=n)(hlt:n<len):
  (Instr.indexAt t (.slice (some ⟨b,p,none⟩) len cap) (.int k n)).run P w= .ok (.pointer (some ⟨b,p+n.toNat*j.size,none⟩)) w:=by
 simp[Instr.indexAt,asIntOf,run_underlying hu,h0,hlt,mO hj,dW]
theorem MV{t e:TypeId}(w:World){len:Nat}(hu:P.underlying t=some (.array len e))(hj:TiOk P e j){k:IntKind}{n:Int}{b p:Nat}(h0:0<=n)(hlt:n<len):
  (Instr.indexAt t (.pointer (some ⟨b,p,none⟩)) (.int k n)).run P w= .ok (.pointer (some ⟨b,p+n.toNat*j.size,none⟩)) w:=by
 simp[Instr.indexAt,asIntOf,run_underlying hu,h0,hlt,mO hj,dW,Instr.sureAddr]
theorem EU{w:World}{r:Nat}{es:Array MapEntry}{ck:Nat}(hb:w.heap[r]? =some (.map es ck)):(getObj r).run P w= .ok (.map es ck) w:=by simp[getObj,Sem.run,hb]
theorem yQ{u:Ty}(h:szB sz u=true):u.isEnt=false/\sz=u.size:=by
 unfold szB at h;cases hu:u.isEnt<;>rw[hu]at h
 .exact⟨rfl,bQ h⟩
 .cases h
theorem a2u{C:Cx}{t:Ty}{xs:List t.den}{l:Loc}{vw:Option (Nat×Nat)}{v:Value}(h0:t.isEnt=false)(ha:arrOk C t xs l)(hv:l.view vw v){i:Nat}{y:t.den}(hy:(fV vw xs)[i]? =some y):
  ∃blk off len cap,l= .arr blk off len cap t.size/\xs[XY vw+i]? =some y/\∃p c,v= .slice (some ⟨blk,p,none⟩) (fV vw xs).length c/\p+i*t.size=off+(XY vw+i)*t.size:=by
 cases l with
 |nil=>obtain⟨ha,_⟩:=ha;subst ha;rcases vw with _|⟨lo,hi⟩<;>simp[fV,jK]at hy
 |st b=>cases ha|mp b=>exact absurd ha.1 (by simp[h0])|arr blk off len cap sz=>
  obtain⟨_,rfl,rfl,hc,_⟩:=ha;rcases vw with _|⟨lo,hi⟩
  .simp only[Loc.view]at hv;subst hv;exact⟨blk,off,_,cap,rfl,by simpa[XY,fV]using hy,off,cap,rfl,by simp[XY]⟩
  .obtain⟨h1,h2,rfl⟩:=hv;have hl:(fV (some (lo,hi)) xs).length=hi -lo:=by simp[fV,jK];omega
   have hi' :i<hi -lo:=by rw[←hl];exact(aF.1 hy).1
   have hx' :xs[lo+i]? =some y:=by
    simp only[fV,jK,L6,U1]at hy;split at hy
    .exact hy
    .cases hy
   have hne:cap≠lo:=o5;exact⟨blk,off,_,cap,rfl,hx',off+lo*t.size,cap -lo,by rw[hl];simp[hne],by simp[XY,H8];omega⟩
theorem Ws(H:FxOk X)(R:Rel X cl ch S m ok a w){x ix:Operand}(ho:o.op= .indexAddr t x ix):(aG X.E q o).post S (λ_ S' =>eX X cl ch o a w m ok S'):=by
 unfold aG;simp only[ho];refine Y9 R λu hu=>Y9 R λv hv=>?_;unfold RQ;split<;>try trivial
 ·
  rename_i k n l sz hsz;obtain⟨e,j,hut,hj,hjs⟩:=EM H hsz;have hix:=oV hv;cases u<;>try trivial
  case sl u xs=>refine aS λhb=>bF λy hy=>?_;obtain⟨hE0,hb'⟩:=yQ hb;obtain⟨h0,hget,hlt,hlt'⟩:=uo hy;obtain⟨ad,cap,hx,hc,hel⟩:=(vz hE0).1 hu;simp only[E8,and_true]at hx;obtain⟨blk,off,es,rfl,hok,he,hr⟩:=hel _ y hget;refine Z5 H R (v:=.dp u y 0) (x:=.pointer (some ⟨blk,off+n.toNat*u.size,none⟩)) ⟨blk,off+n.toNat*u.size,es,rfl,hok,he,hr⟩ ?_;simp[execOp,ho,hx,hix,pg w hut hj h0 hlt',hjs,hb']
  case own bx vw=>
   obtain⟨loc,hm,hview⟩:=hu;refine V5 ?_;split
   .rename_i ln sz' hSl;split<;>try trivial
    refine V7 λhb=>⟨λhin=>?_,λ_=>trivial⟩;have hb' :=bQ hb;have hin' :=of_decide_eq_true (show decide (0<=n/\n<ln)=true from hin);have hbx:=R.box (JQ+bx);rw[hSl]at hbx;obtain⟨k',l',e,hm',hl⟩:=hbx;have e' :k' =bx:=o5;subst e';simp only at hm hm';rw[hm]at hm';cases hm';cases loc with
    |nil=>simp only at hl;omega|st b=>cases hl|mp b=>cases hl|arr blk off len cap sz2=>obtain⟨rfl,rfl⟩:=hl;simp only[Loc.view]at hview;refine Z5 H R (v:=.ep k' (P6 n) 0) (x:=.pointer (some ⟨blk,off+n.toNat*sz',none⟩)) ⟨blk,off,len,cap,sz',hm,by unfold P6;omega,rfl⟩ ?_;simp[execOp,ho,hview,hix,pg w hut hj hin'.1 hin'.2,hjs,hb']
   refine V5 ?_;split<;>try trivial
   .rename_i u xs hS;refine aS λhb=>bF λy hy=>?_;obtain⟨hE0,hb'⟩:=yQ hb;obtain⟨h0,hget,hlt,hlt'⟩:=uo hy;obtain⟨loc',hm',ha⟩:=R.own_arr hS;simp only at hm;rw[hm]at hm';cases hm';obtain⟨blk,off,len,cap,rfl,hx2,p,c,hvv,hp⟩:=a2u hE0 ha hview hget;have hlen:=ha.2.2.1;have hlt2:=(aF.1 hx2).1;rw[a6N];refine Z5 H R (v:=.ep bx (XY vw+P6 n) 0) (x:=.pointer (some ⟨blk,p+n.toNat*u.size,none⟩)) ⟨blk,off,len,cap,u.size,hm,by rw[hlen];exact hlt2,by rw[hp];rfl⟩ ?_;simp[execOp,ho,hvv,hix,pg w hut hj h0 hlt',hjs,hb']
   .rename_i u xs hS;refine aS λhb=>bF λy hy=>?_;obtain⟨hE0,hb'⟩:=yQ hb;obtain⟨h0,hget,hlt,hlt'⟩:=uo hy;obtain⟨loc',hm',ha,hok⟩:=R.own_frz hS;simp only at hm;rw[hm]at hm';cases hm';obtain⟨ad,cap,hx,hc,hel⟩:=(vz hE0).1 (kY (C:=⟨w.heap,ok,m⟩) ha hview (λ_ _ h=>h) hok);simp only[E8,and_true]at hx;obtain⟨blk,off,es,rfl,hok',he,hr⟩:=hel _ y hget;refine Z5 H R (v:=.dp u y 0) (x:=.pointer (some ⟨blk,off+n.toNat*u.size,none⟩)) ⟨blk,off+n.toNat*u.size,es,rfl,hok',he,hr⟩ ?_;simp[execOp,ho,hx,hix,pg w hut hj h0 hlt',hjs,hb']
   .rename_i md xs hole hS;split<;>try trivial
    refine V7 λhb=>bF λy hy=>?_;have hb' :=bQ hb;obtain⟨h0,hget,hlt,hlt'⟩:=uo hy;obtain⟨hel,loc',Os,hm',⟨ha,hho⟩,hk⟩:=R.own_barrs hS;simp only at hm;rw[hm]at hm';cases hm';cases loc with
    |st b=>cases ha|mp b=>cases ha|nil=>obtain⟨e1,_⟩:=ha;subst e1;simp at hlt
    |arr blk off len cap sz' =>obtain⟨rfl,rfl,h3,_⟩:=ha;simp only[Loc.view]at hview;refine Z5 H R (v:=.ep bx (P6 n) 0) (x:=.pointer (some ⟨blk,off+n.toNat*md.size,none⟩)) ⟨blk,off,xs.length,cap,md.size,hm,hlt,rfl⟩ ?_;simp[execOp,ho,hview,hix,pg w hut hj h0 hlt',hjs,hb']
   .rename_i md xs kn ko hS;split<;>try trivial
    refine V7 λhb=>bF λy hy=>?_;have hb' :=bQ hb;obtain⟨h0,hget,hlt,hlt'⟩:=uo hy;obtain⟨hel,_,loc',Os,hm',ha,hk⟩:=R.own_barrp hS;simp only at hm;rw[hm]at hm';cases hm';cases loc with
    |st b=>cases ha|mp b=>cases ha|nil=>obtain⟨e1,_⟩:=ha;subst e1;simp at hlt
    |arr blk off len cap sz' =>obtain⟨rfl,rfl,h3,_⟩:=ha;simp only[Loc.view]at hview;refine Z5 H R (v:=.ep bx (P6 n) 0) (x:=.pointer (some ⟨blk,off+n.toNat*md.size,none⟩)) ⟨blk,off,xs.length,cap,md.size,hm,hlt,rfl⟩ ?_;simp[execOp,ho,hview,hix,pg w hut hj h0 hlt',hjs,hb']
 ·
  rename_i k n l sz hsz;obtain⟨e,j,hut,hj,hjs⟩:=ZA H hsz;have hix:=oV hv;cases u<;>try trivial
  case glob g=>
   cases hg:bf X.E.gl g with
   |none=>simp only[hg];trivial|some p=>
   obtain⟨u,xs⟩:=p;simp only[hg];refine aS λhb=>bF λy hy=>?_;simp only[o9]at hb;have hb1:=bQ hb.1;have hb2:=bQ hb.2;obtain⟨h0,hget,hlt,hlt'⟩:=uo hy;obtain⟨hok,_,hel⟩:=R.gl g _ hg;obtain⟨es,he,hr⟩:=hel _ y hget;have hx:a.eval x= .pointer (some ⟨g,0,none⟩):=hu;refine Z5 H R (v:=.dp u y 0) (x:=.pointer (some ⟨g,0+n.toNat*u.size,none⟩)) ⟨g,n.toNat*u.size,es,A8,hok,he,hr⟩ ?_;have:=MV w hut hj (k:=k) (b:=g) (p:=0) h0 (by rw[hb2];exact hlt');simp only[hjs,hb1]at this;simp[execOp,ho,hx,hix,this]
  case ptr bx off=>refine⟨λhin=>?_,λ_=>trivial⟩;have hin' :=of_decide_eq_true (show decide (0<=n/\n<(l:Int))=true from hin);obtain⟨blk,hm,hx⟩:=hu;refine Z5 H R (v:=.ptr bx (off+P6 n*sz)) (x:=.pointer (some ⟨blk,off+n.toNat*sz,none⟩)) ⟨blk,hm,rfl⟩ ?_;have:=MV w hut hj (k:=k) (b:=blk) (p:=off) hin'.1 hin'.2;simp only[hjs]at this;simp[execOp,ho,hx,hix,this]
theorem RV(R:Rel X cl ch S m ok a w){sz fo:Nat}{c:V}{u:Value}(hu:pW ⟨w.heap,ok,m⟩ c u){K:V->Cmd α}
  (hK:∀r y,iI ⟨w.heap,ok,m⟩ r y->(∃b bo n k,u= .slice (some ⟨b,bo,none⟩) n k/\0<=O0 .i64 (n:Int) 1/\O0 .i64 (n:Int) 1<(n:Int)/\y= .pointer (some ⟨b,bo+(O0 .i64 (n:Int) 1).toNat*sz+fo,none⟩))->(K r).post S Q):
  (a0L sz fo c K).post S Q:=by
 unfold a0L;split<;>try trivial
 .rename_i u' xs;refine aS λhb=>bF λy hy=>?_;obtain⟨hE0,hb'⟩:=yQ hb;obtain⟨h0,hget,hlt,hlt'⟩:=uo hy;obtain⟨ad,cap,hx,hc,hel⟩:=(vz hE0).1 hu;simp only[E8,and_true]at hx;obtain⟨blk,off,es,rfl,hok,he,hr⟩:=hel _ y hget;refine hK (.dp u' y fo) _ ⟨blk,off+(O0 .i64 (o8 xs) 1).toNat*u'.size,es,rfl,hok,he,hr⟩ ⟨blk,off,xs.length,cap,hx,h0,hlt',?_⟩;rw[hb'];rfl
 .rename_i bx;obtain⟨loc,hm,hview⟩:=hu;refine V5 ?_;split
  .rename_i ln sz' hSl;refine V7 λhb=>⟨λhin=>?_,λ_=>trivial⟩;have hb' :=bQ hb;have hin' :=of_decide_eq_true (show decide (0<=O0 .i64 ln 1/\O0 .i64 ln 1<ln)=true from hin);have hbx:=R.box (JQ+bx);rw[hSl]at hbx;obtain⟨k',l',e,hm',hl⟩:=hbx;have e' :k' =bx:=o5;subst e';simp only at hm hm';rw[hm]at hm';cases hm';cases loc with
   |nil=>simp only at hl;omega|st b=>cases hl|mp b=>cases hl|arr blk off len cap sz2=>obtain⟨rfl,rfl⟩:=hl;simp only[Loc.view]at hview;refine hK (.ep k' (P6 (O0 .i64 (len:Int) 1)) fo) (.pointer (some ⟨blk,off+(O0 .i64 (len:Int) 1).toNat*sz' +fo,none⟩)) ⟨blk,off,len,cap,sz',hm,by unfold P6;omega,rfl⟩ ⟨blk,off,len,cap,hview,hin'.1,hin'.2,?_⟩;rw[hb']
  refine V5 ?_;split<;>try trivial
  .rename_i u xs hS;refine aS λhb=>bF λy hy=>?_;obtain⟨hE0,hb'⟩:=yQ hb;obtain⟨h0,hget,hlt,hlt'⟩:=uo hy;obtain⟨loc',hm',ha⟩:=R.own_arr hS;simp only at hm;rw[hm]at hm';cases hm';cases loc with
   |nil=>obtain⟨e1,_⟩:=ha;subst e1;simp at hlt
   |st b=>cases ha|mp b=>rw[ha.1]at hE0;cases hE0|arr blk off len cap sz2=>obtain⟨_,rfl,rfl,_⟩:=ha;simp only[Loc.view]at hview;refine hK (.ep bx (P6 (O0 .i64 (o8 xs) 1)) fo) (.pointer (some ⟨blk,off+(O0 .i64 (o8 xs) 1).toNat*u.size+fo,none⟩)) ⟨blk,off,xs.length,cap,u.size,hm,hlt,rfl⟩ ⟨blk,off,xs.length,cap,hview,h0,hlt',?_⟩;rw[hb'];rfl
  .rename_i u xs hS;refine aS λhb=>bF λy hy=>?_;obtain⟨hE0,hb'⟩:=yQ hb;obtain⟨h0,hget,hlt,hlt'⟩:=uo hy;obtain⟨loc',hm',ha,hok⟩:=R.own_frz hS;simp only at hm;rw[hm]at hm';cases hm';obtain⟨ad,cap,hx,hc,hel⟩:=(vz hE0).1 (kY (C:=⟨w.heap,ok,m⟩) (vw:=none) ha hview (λ_ _ h=>h) hok);simp only[E8,and_true]at hx;obtain⟨blk,off,es,rfl,hok',he,hr⟩:=hel _ y hget;refine hK (.dp u y fo) _ ⟨blk,off+(O0 .i64 (o8 xs) 1).toNat*u.size,es,rfl,hok',he,hr⟩ ⟨blk,off,xs.length,cap,hx,h0,hlt',?_⟩;rw[hb'];rfl
  .rename_i md xs hole hS;refine V7 λhb=>bF λy hy=>?_;have hb' :=bQ hb;obtain⟨h0,hget,hlt,hlt'⟩:=uo hy;obtain⟨hel,loc',Os,hm',⟨ha,hho⟩,hk⟩:=R.own_barrs hS;simp only at hm;rw[hm]at hm';cases hm';cases loc with
   |st b=>cases ha|mp b=>cases ha|nil=>obtain⟨e1,_⟩:=ha;subst e1;simp at hlt
   |arr blk off len cap sz' =>obtain⟨rfl,rfl,h3,_⟩:=ha;simp only[Loc.view]at hview;refine hK (.ep bx (P6 (O0 .i64 (o8 xs) 1)) fo) (.pointer (some ⟨blk,off+(O0 .i64 (o8 xs) 1).toNat*md.size+fo,none⟩)) ⟨blk,off,xs.length,cap,md.size,hm,hlt,rfl⟩ ⟨blk,off,xs.length,cap,hview,h0,hlt',?_⟩;rw[hb'];rfl
theorem PO{C:Cx}{c:V}{vs:c2h}(h:dD C [c] vs):∃v,vs=[v]/\pW C c v:=by obtain⟨v,r,rfl,h1,h2,h3⟩:=h;simp only[dD]at h3;subst h3;exact⟨v,rfl,h1⟩
theorem KC(R:Rel X cl ch S m ok a w){off sz fo:Nat}{p:V}{x:Value}(hp:iI ⟨w.heap,ok,m⟩ p x){K:V->Cmd α}
  (hK:∀r y,iI ⟨w.heap,ok,m⟩ r y->Nl w.heap x off sz fo y->(K r).post S Q):(Yp off sz fo p K).post S Q:=by
 unfold Yp;split<;>try trivial
 .rename_i bx o;obtain⟨blk,hm,rfl⟩:=hp;refine V5 ?_;split<;>try trivial
  rename_i cs hS;obtain⟨blk',arr,T,hm',hh,hl⟩:=R.own_cells hS;simp only at hm;rw[hm]at hm';cases hm';refine tC λhle=>?_;have hlen:=gZ hl;have e:=fJ hh (o+off) 1 (by simp at hlen;omega);have hl1:=oQ 1 (nC (o+off) hl);split<;>try trivial
  rename_i c hc;rw[hc]at hl1;obtain⟨u,hu,hr⟩:=PO hl1;rw[hu]at e;refine RV R hr λr y h1 ⟨b,bo,n,k,h2,h3,h4,h5⟩=>hK r y h1 ⟨blk,o,b,bo,n,k,rfl,by rw[e,h2],h3,h4,h5⟩
 .rename_i t z o;obtain⟨blk,o',es,rfl,hb,he,hr⟩:=hp;refine tC λhle=>?_;rw[jY]at hle;have e:=lM he (o+off) 1 hle;have hl1:=oQ 1 (nC (o+off) (lT (C:=⟨w.heap,ok,m⟩) hr));split<;>try trivial
  rename_i c hc;rw[hc]at hl1;obtain⟨u,hu,hr⟩:=PO hl1;rw[hu]at e;refine RV R hr λr y h1 ⟨b,bo,n,k,h2,h3,h4,h5⟩=>hK r y h1 ⟨blk,o' +o,b,bo,n,k,rfl,by rw[dJ,e,h2],h3,h4,h5⟩
theorem Yh{C:Cx} :∀{vs:List V} {xs:c2h} (k:Nat),dX C vs xs->a6W vs k= .un\/∃x,xs[k]? =some x/\iI C (a6W vs k) x
 |[],_,k,_=> .inl (by cases k<;>rfl)|v::r,_,0,⟨x,xr,e,h1,h2⟩=> .inr ⟨x,by subst e;rfl,h1⟩|v::r,_,k+1,⟨x,xr,e,h1,h2⟩=>by subst e;rw[List.getElem?_cons_succ];exact Yh k h2
theorem a2P(R:Rel X cl ch S m ok a w){all:List V}{xall:c2h}(hall:dX ⟨w.heap,ok,m⟩ all xall):∀(ms:List MG) {vs:List V} {xs:c2h} {K:Cmd α}
  (hv:dX ⟨w.heap,ok,m⟩ vs xs) (hK:a1n w.heap xall ms xs->K.post S Q),(dvC all ms vs K).post S Q:=by
 intro ms;induction ms with
 |nil=>
  intro vs xs K hv hK;cases vs with
  |nil=>exact hK trivial|cons v vs=>trivial
 |cons md ms ih=>
  intro vs xs K hv hK;obtain⟨g,md⟩:=md;cases vs with
  |nil=>cases md<;>trivial|cons v vs=>
   obtain⟨x,r,rfl,h1,h2⟩:=hv;cases md
   case dv k off sz fo=>
    unfold dvC;rcases Yh k hall with e|⟨p,hp,hr⟩
    .rw[e];trivial
    .refine KC R hr λr0 y h3 h4=>?_;unfold b2N;split<;>try trivial
     rename_i n i o n' i' o';refine aS λhb=>⟨λhi=>?_,λ_=>trivial⟩;simp only[o9]at hb;have e1:=bQ hb.1;have e2:=bQ hb.2;have e3:=bQ hi;subst e1;subst e2;subst e3;obtain⟨b1,o1,l1,c1,s1,m1,_,rfl⟩:=h1;obtain⟨b2,o2,l2,c2,s2,m2,_,rfl⟩:=h3;simp only at m1 m2;rw[m1]at m2;cases m2;exact ih h2 λhd=>hK ⟨⟨p,hp,h4⟩,hd⟩
   all_goals
    unfold dvC;exact ih h2 λhd=>hK hd
theorem a3b{α β:Type}{f:α->β}{args:Array α}{u:β}(h:args.toList.map f=[u]):∃y,args=#[y]/\f y=u:=by obtain⟨l⟩:=args;simp only[List.map_eq_cons_iff,List.map_eq_nil_iff]at h;obtain⟨y,r,h1,h2,h3⟩:=h;subst h3;exact⟨y,by rw[h1],h2⟩
theorem RZ{α β:Type}{f:α->β}{args:Array α}{u v:β}(h:args.toList.map f=[u,v]):∃y z,args=#[y,z]/\f y=u/\f z=v:=by obtain⟨l⟩:=args;simp only[List.map_eq_cons_iff,List.map_eq_nil_iff]at h;obtain⟨y,r,h1,h2,z,r',h3,h4,h5⟩:=h;subst h5;subst h3;exact⟨y,z,by rw[h1],h2,h4⟩
theorem a8N(H:FxOk X)(R:Rel X cl ch S m ok a w){c:Call}(ho:o.op= .call c)(hc:c.callee= .builtin .len):(aG X.E q o).post S (λ_ S' =>eX X cl ch o a w m ok S'):=by
 obtain⟨cal,args,ats⟩:=c;simp only at hc;subst hc;unfold aG;simp only[ho];refine jh R _ λvs hvs=>?_;split<;>try trivial
 rename_i t rt x hat
 obtain⟨u,r,he,hx,hr⟩:=hvs;simp only[dX]at hr;subst hr;refine gB H λi hi=>?_;have htd:=hi.td;obtain⟨y,rfl,rfl⟩:=a3b he;have h0:ats[0]? =some t:=by
  obtain⟨l⟩:=ats;simp only at hat
  simp[hat]
 have fin:∀(v:V) (n:Nat),iI ⟨w.heap,ok,m⟩ v (.int .i64 n)->(Builtin.len_ ats o.type #[a.eval y]).run X.P w= .ok (.int .i64 n) w->(bJ X.E o.dst v).post S (λ_ S' =>eX X cl ch o a w m ok S'):=λv n hv h=>
  Z5 H R hv (by simp[execOp,ho,resolve,invoke,builtin,h])
 have mapLen:∀{ke e n:Nat},X.P.underlying t=some (.map ke e)->(∃mv,a.eval y= .map mv/\(mv=none->n=0)/\∀blk,mv=some blk->∃es ck,w.heap[blk]? =some (.map es ck)/\es.size=n)->
   (bJ X.E o.dst (.i .i64 n)).post S (λ_ S' =>eX X cl ch o a w m ok S'):=λ{ke e n} hu ⟨mv,hv,h1,h2⟩=>by
  refine fin _ n rfl ?_;cases mv with
  |none=>rw[h1 rfl];simp[Builtin.len_,h0,run_underlying hu,hv,goInt]|some blk=>obtain⟨es,ck,h3,h4⟩:=h2 blk rfl;simp[Builtin.len_,h0,run_underlying hu,hv,goInt,EU h3,h4]
 unfold b2O;split<;>try trivial
 .rename_i l htd';rw[htd']at htd;refine fin _ l.length rfl ?_;simp[Builtin.len_,h0,run_underlying (show X.P.underlying t=some .string from htd),Ie hx,goInt];rfl
 .rename_i e u xs htd';rw[htd']at htd;cases hE0:u.isEnt
  .simp only[cond_false];obtain⟨ad,cap,hv,_⟩:=(vz hE0).1 hx;simp only[E8,and_true]at hv;refine fin _ xs.length rfl ?_;simp[Builtin.len_,h0,run_underlying (show X.P.underlying t=some (.slice e)from htd),hv,goInt]
  .trivial
 .rename_i ke e u xs htd';rw[htd']at htd;cases hE0:u.isEnt
  .trivial
  .simp only[cond_true];refine mapLen htd ?_;obtain⟨mv,hv,h1,h2⟩:=(m_ hE0).1 hx;exact⟨mv,by simpa using hv,(λe=>by simp[h1 e]),λblk hb=>by obtain⟨_,es,ck,h3,h4,_⟩:=h2 blk hb;exact⟨es,ck,h3,h4⟩⟩
 .rename_i ke e bx htd';rw[htd']at htd;obtain⟨loc,hm,hview⟩:=hx;simp only at hm;refine V5 ?_;have key:∀{u:Ty} {xs:List u.den},u.isEnt=true->arrOk ⟨w.heap,ok,m⟩ u xs loc->(bJ X.E o.dst (.i .i64 (o8 xs))).post S (λ_ S' =>eX X cl ch o a w m ok S'):=λ{u xs} hE0 ha=>by
   refine mapLen htd ?_;cases loc with
   |nil=>exact absurd ha.2 (by simp[hE0])|st b=>cases ha|arr blk off len cap sz=>exact absurd ha.1 (by simp[hE0])|mp b=>simp only[Loc.view]at hview;obtain⟨_,es,ck,h3,h4,_⟩:=ha;exact⟨some b,hview,(λh=>nomatch h),λblk hb=>by cases hb;exact⟨es,ck,h3,h4⟩⟩
  split<;>try trivial
  .rename_i u xs hS;obtain⟨loc',hm',ha⟩:=R.own_arr hS;rw[hm]at hm';cases hm';cases hE0:u.isEnt
   .trivial
   .exact key hE0 ha
  .rename_i u xs hS;obtain⟨loc',hm',ha,_⟩:=R.own_frz hS;rw[hm]at hm';cases hm';cases hE0:u.isEnt
   .trivial
   .exact key hE0 ha
 .rename_i e htd';rw[htd']at htd;have hv:a.eval y= .slice none 0 0:=hx;refine fin _ 0 rfl ?_;simp[Builtin.len_,h0,run_underlying (show X.P.underlying t=some (.slice e)from htd),hv,goInt]
 .rename_i e bx vw htd';rw[htd']at htd;obtain⟨loc,hm,hview⟩:=hx;refine V5 ?_;split
  .rename_i ln sz' hSl;split<;>try trivial
   have hbx:=R.box (JQ+bx);rw[hSl]at hbx;obtain⟨k',l',e',hm',hl⟩:=hbx;have e2:k' =bx:=o5;subst e2;simp only at hm hm';rw[hm]at hm';cases hm';cases loc with
   |nil=>simp only at hl;subst hl;simp only[Loc.view]at hview;refine fin _ 0 rfl ?_;simp[Builtin.len_,h0,run_underlying (show X.P.underlying t=some (.slice e)from htd),hview,goInt]|st b=>cases hl|mp b=>cases hl|arr blk off len cap sz2=>obtain⟨rfl,rfl⟩:=hl;simp only[Loc.view]at hview;refine fin _ len rfl ?_;simp[Builtin.len_,h0,run_underlying (show X.P.underlying t=some (.slice e)from htd),hview,goInt]
  refine V5 ?_;have key:∀{u:Ty} {xs:List u.den},u.isEnt=false->arrOk ⟨w.heap,ok,m⟩ u xs loc->(bJ X.E o.dst (.i .i64 (o8 (fV vw xs)))).post S (λ_ S' =>eX X cl ch o a w m ok S'):=λ{u xs} hE0 ha=>by obtain⟨ad,cap,hv,_⟩:=(vz hE0).1 (kY (C:=⟨w.heap,ok,m⟩) (ok' :=λ_ _=>True) ha hview (λ_ _ _=>trivial) (λ_ _=>trivial));simp only[E8,and_true]at hv;refine fin _ (fV vw xs).length rfl ?_;simp[Builtin.len_,h0,run_underlying (show X.P.underlying t=some (.slice e)from htd),hv,goInt]
  split<;>try trivial
  .rename_i u xs hS;obtain⟨loc',hm',ha⟩:=R.own_arr hS;simp only at hm;rw[hm]at hm';cases hm';cases hE0:u.isEnt
   .exact key hE0 ha
   .trivial
  .rename_i u xs hS;obtain⟨loc',hm',ha,_⟩:=R.own_frz hS;simp only at hm;rw[hm]at hm';cases hm';cases hE0:u.isEnt
   .exact key hE0 ha
   .trivial
  .rename_i md xs hole hS;split<;>try trivial
   obtain⟨hel,loc',Os,hm',⟨ha,hho⟩,hk⟩:=R.own_barrs hS;simp only at hm;rw[hm]at hm';cases hm';cases loc with
   |st b=>cases ha|mp b=>cases ha|nil=>obtain⟨e1,_⟩:=ha;subst e1;simp only[Loc.view]at hview;refine fin _ 0 rfl ?_;simp[Builtin.len_,h0,run_underlying (show X.P.underlying t=some (.slice e)from htd),hview,goInt]
   |arr blk off len cap sz' =>obtain⟨rfl,rfl,h3,_⟩:=ha;simp only[Loc.view]at hview;refine fin _ xs.length rfl ?_;simp[Builtin.len_,h0,run_underlying (show X.P.underlying t=some (.slice e)from htd),hview,goInt]
  .rename_i md xs kn ko hS;split<;>try trivial
   obtain⟨hel,_,loc',Os,hm',ha,hk⟩:=R.own_barrp hS;simp only at hm;rw[hm]at hm';cases hm';cases loc with
   |st b=>cases ha|mp b=>cases ha|nil=>obtain⟨e1,_⟩:=ha;subst e1;simp only[Loc.view]at hview;refine fin _ 0 rfl ?_;simp[Builtin.len_,h0,run_underlying (show X.P.underlying t=some (.slice e)from htd),hview,goInt]
   |arr blk off len cap sz' =>obtain⟨rfl,rfl,h3,_⟩:=ha;simp only[Loc.view]at hview;refine fin _ xs.length rfl ?_;simp[Builtin.len_,h0,run_underlying (show X.P.underlying t=some (.slice e)from htd),hview,goInt]
theorem Vr(H:FxOk X)(R:Rel X cl ch S m ok a w){c:Call}(ho:o.op= .call c)(hc:c.callee= .builtin .min\/c.callee= .builtin .max):(aG X.E q o).post S (λ_ S' =>eX X cl ch o a w m ok S'):=by
 obtain⟨cal,args,ats⟩:=c;simp only at hc;rcases hc with rfl|rfl
 all_goals
  unfold aG;simp only[ho];refine jh R _ λvs hvs=>?_;split<;>try trivial
  rename_i k p k' r;obtain⟨u,r',he,hx,v,r'',he',hy,hr⟩:=hvs;simp only[dX]at hr;subst hr;rw[he']at he;refine aS λhk=>?_;have hk' :k=k' :=of_decide_eq_true hk;subst hk';obtain⟨y,z,rfl,rfl,rfl⟩:=RZ he
 .refine Z5 H R (v:=.i k (yH p r)) rfl ?_;simp[execOp,ho,resolve,invoke,builtin,Builtin.min_,Builtin.min2,oV hx,oV hy,yH]
 .refine Z5 H R (v:=.i k (ul p r)) rfl ?_;simp[execOp,ho,resolve,invoke,builtin,Builtin.max_,Builtin.max2,oV hx,oV hy,ul]
end
end Go.GP
namespace Go.GP
def Bnd(d:Int)(o:Option Value)(n:Int):Prop:=(o=none/\n=d)\/∃k,o=some (.int k n)
theorem Bl{P:Program}{w:World}{isS:Bool}{len cap:Nat}{lo hi:Option Value}{x y:Int}(hlo:Bnd 0 lo x)(hhi:Bnd len hi y)(h0:0<=x)(h1:x<=y)(h2:y<=len)(hc:len<=cap):
  (Instr.sliceBounds isS len cap lo hi none).run P w= .ok (x.toNat,y.toNat,cap) w:=by
 have hyc:y<=cap:=o5;have hy0:0<=y:=o5;have e:((y.toNat:Nat):Int)=y:=o5;rcases hlo with⟨rfl,rfl⟩|⟨k,rfl⟩<;>rcases hhi with⟨rfl,rfl⟩|⟨k',rfl⟩
 .simp[Instr.sliceBounds]
 .simp[Instr.sliceBounds,Instr.sliceBound,asIntOf,hy0,hyc]
 .simp[Instr.sliceBounds,Instr.sliceBound,asIntOf,h0,h1]
 .simp[Instr.sliceBounds,Instr.sliceBound,asIntOf,hy0,hyc,h0,e,h1]
theorem Vm{α:Type}{l r:List α}{x y:Int}(h:jS l x y=some r):0<=x/\x<=y/\y<=l.length/\r=(l.take y.toNat).drop x.toNat:=by
 unfold jS at h;split at h
 .rename_i hh;cases h;exact⟨hh.1,hh.2.1,hh.2.2,rfl⟩
 .cases h
theorem Uh(l:c2f)(x y:Nat):(⟨l.toArray⟩:ByteArray).extract x y=⟨((l.take y).drop x).toArray⟩:=by apply ByteArray.ext;apply iE;simp[ByteArray.data_extract,jI,eU]
theorem a7m{h:Array Obj}{ok:Nat->Ty->Prop}{t:Ty}(ht:t.isEnt=false){xs:List t.den}{ad:Option Addr}{cap:Nat}{x y:Nat}(hr:iY h ok (.sl t) xs [.slice ad xs.length cap])(h1:x<=y)(h2:y<=xs.length):
  iY h ok (.sl t) ((xs.take y).drop x) [.slice (if cap=x then ad else ad.map (·.add (x*t.size))) (y -x) (cap -x)]:=by
 obtain⟨ad',cap',e,hc,hel⟩:=(vz ht).1 hr;simp only[E8,lI,and_true,true_and]at e;obtain⟨rfl,rfl⟩:=e;have hl:((xs.take y).drop x).length=y -x:=by simp;omega
 refine(vz ht).2 ⟨_,cap -x,by rw[hl],by rw[hl];omega,λi z hz=>?_⟩;have hi:i<y -x:=by rw[←hl];exact(aF.1 hz).1
 have hz' :xs[x+i]? =some z:=by
  simp only[L6,U1]at hz;split at hz
  .exact hz
  .cases hz
 obtain⟨blk,off,es,rfl,hb,he,hrp⟩:=hel _ z hz';have hne:cap≠x:=o5;refine⟨blk,off+x*t.size,es,by simp[hne,dW],hb,?_,hrp⟩;rw[←he];congr 1;rw[H8];omega
section
variable {X:Fx} {cl ch:Nat} {S:Sm} {m:Mp} {ok:Nat->Ty->Prop} {a:Act} {w:World} {o:Oper}
theorem qN{C:Cx}{d n:Int}{v:Option V}{u:Option Value}(h:xF d v=some n)(hr:(v=none/\u=none)\/∃c x,v=some c/\u=some x/\iI C c x):Bnd d u n:=by
 rcases hr with⟨rfl,rfl⟩|⟨c,x,rfl,rfl,hr⟩
 .simp[xF]at h;subst h;exact .inl ⟨rfl,rfl⟩
 .cases c<;>simp[xF]at h;subst h;exact .inr ⟨_,by rw[oV hr]⟩
theorem CV(H:FxOk X)(R:Rel X cl ch S m ok a w){t:TypeId}{x:V}{u:Value}{lo hi:Option V}{lv hv:Option Value}(hx:iI ⟨w.heap,ok,m⟩ x u)
  (hlo:(lo=none/\lv=none)\/∃c y,lo=some c/\lv=some y/\iI ⟨w.heap,ok,m⟩ c y) (hhi:(hi=none/\hv=none)\/∃c y,hi=some c/\hv=some y/\iI ⟨w.heap,ok,m⟩ c y)
  {K:V->Cmd Unit} {Q:Unit->Sm->Prop} (hK:∀v z,iI ⟨w.heap,ok,m⟩ v z->(Instr.sliceAt t u lv hv none).run X.P w= .ok z w->(K v).post S Q):(Ot X.E t x lo hi K).post S Q:=by
 unfold Ot;cases x<;>try trivial
 case s l=>
  refine gB H λi hi' =>?_;have htd:=hi'.td;split<;>try trivial
  rename_i p q htd' hp hq;rw[htd']at htd;refine bF λr hr=>?_;obtain⟨h0,h1,h2,rfl⟩:=Vm hr;have hb:=Bl (P:=X.P) (w:=w) (isS:=false) (cap:=l.length) (qN hp hlo) (qN hq hhi) h0 h1 h2 (D9 _);refine hK (.s _) (.string ⟨((l.take q.toNat).drop p.toNat).toArray⟩) rfl ?_;have hus:X.P.underlying t=some .string:=htd;have hs:(⟨l.toArray⟩:ByteArray).size=l.length:=rfl;simp[Instr.sliceAt,run_underlying hus,Instr.slice,Ie hx,hs,hb,Uh]
 case sl v l=>
  dsimp only;split<;>try trivial
  rename_i n sz p q hsz hp hq;obtain⟨e,j,hut,hj,hjs⟩:=EM H hsz;refine aS λhbq=>bF λr hr=>?_;obtain⟨hE0,hbq'⟩:=yQ hbq;obtain⟨h0,h1,h2,rfl⟩:=Vm hr;have hx' :iY w.heap ok (.sl v) l [u]:=hx;obtain⟨ad,cap,hu,hc,_⟩:=(vz hE0).1 hx';simp only[E8,and_true]at hu;subst hu;have hb:=Bl (P:=X.P) (w:=w) (isS:=true) (cap:=cap) (qN hp hlo) (qN hq hhi) h0 h1 h2 hc;refine hK (.sl v _) _ (a7m hE0 (x:=p.toNat) (y:=q.toNat) hx' o5 o5) ?_;simp[Instr.sliceAt,run_underlying hut,Instr.slice,hb,mO hj,hjs,hbq']
 case own bx vw=>
  cases vw with
  |some _=>trivial|none=>
  obtain⟨loc,hm,hview⟩:=hx;refine V5 ?_;have key:∀{v:Ty} {xs:List v.den} {n sz:Nat} {p q:Int},arrOk ⟨w.heap,ok,m⟩ v xs loc->EL X.E t=some (false,n,sz)->xF 0 lo=some p->xF (o8 xs) hi=some q->
    (bif szB sz v then Cmd.br (mM p q (o8 xs)) (K (.own bx (some (P6 p,P6 q)))) .fail else .fail).post S Q:=λ{v xs n sz p q} ha hsz hp hq=>by
   obtain⟨e,j,hut,hj,hjs⟩:=EM H hsz;refine aS λhbq=>⟨λhr=>?_,λ_=>trivial⟩;obtain⟨hE0,hbq'⟩:=yQ hbq;have hr' :=of_decide_eq_true (show decide (0<=p/\p<=q/\q<=o8 xs)=true from hr);obtain⟨h0,h1,h2⟩:=hr';have h2' :q<=(xs.length:Int):=h2;cases loc with
   |st b=>cases ha|mp b=>exact absurd ha.1 (by simp[hE0])|nil=>
    obtain⟨ha,_⟩:=ha;subst ha;simp only[Loc.view]at hview;subst hview;have h2'' :q<=((0:Nat):Int):=by simpa using h2'
    have hb:=Bl (P:=X.P) (w:=w) (isS:=true) (len:=0) (cap:=0) (qN hp hlo) (by have:=qN hq hhi;simpa[o8]using this) h0 h1 h2'' (D9 _);have ep:p=0:=o5;have eq:q=0:=o5;subst ep;subst eq;refine hK (.own bx (some (P6 0,P6 0))) (.slice none 0 0) ⟨.nil,hm,rfl,rfl,rfl⟩ ?_;simp[Instr.sliceAt,run_underlying hut,Instr.slice,hb,mO hj]
   |arr blk off len cap sz' =>
    obtain⟨_,rfl,rfl,hc,_⟩:=ha;simp only[Loc.view]at hview;subst hview;have hb:=Bl (P:=X.P) (w:=w) (isS:=true) (cap:=cap) (qN hp hlo) (qN hq hhi) h0 h1 h2' hc;refine hK (.own bx (some (P6 p,P6 q))) _ ⟨_,hm,by unfold P6;omega,by unfold P6;omega,rfl⟩ ?_;have e1:(if cap=p.toNat then some (⟨blk,off,none⟩:Addr)else some ⟨blk,off+p.toNat*v.size,none⟩)=some (if cap=p.toNat then⟨blk,off,none⟩else⟨blk,off+p.toNat*v.size,none⟩):=by split<;>rfl
    simp[Instr.sliceAt,run_underlying hut,Instr.slice,hb,mO hj,hjs,hbq',dW,P6,e1];by_cases ecp:cap=p.toNat<;>simp[ecp]
  split<;>try trivial
  .rename_i v xs hS;obtain⟨loc',hm',ha⟩:=R.own_arr hS;simp only at hm;rw[hm]at hm';cases hm';split<;>try trivial
   rename_i n sz p q hsz hp hq;exact key ha hsz hp hq
  .rename_i v xs hS;obtain⟨loc',hm',ha,_⟩:=R.own_frz hS;simp only at hm;rw[hm]at hm';cases hm';split<;>try trivial
   rename_i n sz p q hsz hp hq;exact key ha hsz hp hq
theorem a1X(H:FxOk X)(R:Rel X cl ch S m ok a w){t:TypeId}{x:Operand}{lo hi:Option Operand}{q:Nat}(ho:o.op= .slice t x lo hi none)
  (hA:∀bx,lo=none->hi=none->iI ⟨w.heap,ok,m⟩ (.ptr bx 0) (a.eval x)->(TG X.E (J5 q o.dst) t bx λr=>bJ X.E o.dst r).post S (λ_ S' =>eX X cl ch o a w m ok S')):(aG X.E q o).post S (λ_ S' =>eX X cl ch o a w m ok S'):=by
 unfold aG;simp only[ho];refine Y9 R λv hv=>jh R _ λbs hbs=>?_;split<;>try trivial
 .split
  .exact hA _ rfl rfl hv
  refine CV H R (lv:=none) (hv:=none) hv (.inl ⟨rfl,rfl⟩) (.inl ⟨rfl,rfl⟩) λr z hr hz=>Z5 H R hr ?_;simp[execOp,ho,hz]
 .rename_i l c;obtain⟨y,r,he,h1,h2⟩:=hbs;simp only[dX]at h2;subst h2;simp at he;subst he;refine CV H R (lv:=some (a.eval l)) (hv:=none) hv (.inr ⟨_,_,rfl,rfl,h1⟩) (.inl ⟨rfl,rfl⟩) λr z hr hz=>Z5 H R hr ?_;simp[execOp,ho,hz]
 .rename_i h c;obtain⟨y,r,he,h1,h2⟩:=hbs;simp only[dX]at h2;subst h2;simp at he;subst he;refine CV H R (lv:=none) (hv:=some (a.eval h)) hv (.inl ⟨rfl,rfl⟩) (.inr ⟨_,_,rfl,rfl,h1⟩) λr z hr hz=>Z5 H R hr ?_;simp[execOp,ho,hz]
 .rename_i l h c d;obtain⟨y,r,he,h1,y',r',he',h2,h3⟩:=hbs;simp only[dX]at h3;subst h3;subst he';simp at he;obtain⟨rfl,rfl⟩:=he;refine CV H R (lv:=some (a.eval l)) (hv:=some (a.eval h)) hv (.inr ⟨_,_,rfl,rfl,h1⟩) (.inr ⟨_,_,rfl,rfl,h2⟩) λr z hr hz=>Z5 H R hr ?_;simp[execOp,ho,hz]
end
end Go.GP
namespace Go.GP
def bI(h:Array Obj)(ok:Nat->Ty->Prop)(t:Ty)(xs:List t.den)(cs:c2h):Prop:=
 cs.length=xs.length*t.size/\∀i x,xs[i]? =some x->iY h ok t x ((cs.drop (i*t.size)).take t.size)
variable {h:Array Obj}{ok:Nat->Ty->Prop}{t:Ty}
theorem bI.nil :bI h ok t [] []:=⟨A8,λi x hi=>by simp at hi⟩
theorem bI.append{xs ys:List t.den}{cs ds:c2h}(hx:bI h ok t xs cs)(hy:bI h ok t ys ds):bI h ok t (xs++ys) (cs++ds):=by
 refine⟨by simp[hx.1,hy.1,H8],λi x hi=>?_⟩;by_cases hlt:i<xs.length
 .rw[S9 hlt]at hi;have h1:=hx.2 i x hi;have hle:(i+1)*t.size<=cs.length:=by rw[hx.1];exact F8 _ o5
  rw[H8,ax]at hle;rw[List.drop_append_of_le_length o5,Y2 az];exact h1
 .rw[J4 o5]at hi;have h1:=hy.2 _ x hi;have hle:cs.length<=i*t.size:=by rw[hx.1];exact F8 _ o5
  rw[List.drop_append,aV hle,F6];have:i*t.size -cs.length=(i -xs.length)*t.size:=by rw[hx.1,Nat.sub_mul]
  rw[this];exact h1
variable {cs:c2h}{x:t.den}
theorem bI.one(hr:iY h ok t x cs):bI h ok t [x] cs:=by
 refine⟨by simp[bY hr],λi y hi=>?_⟩;have:i=0:=by have:=(aF.1 hi).1;simp at this;exact this
 subst this;simp at hi;subst hi;have:(List.drop (0*t.size) cs).take t.size=cs:=by simp[←bY hr]
 rw[this];exact hr
variable {xs:List t.den}
theorem bI.mono{h h' :Array Obj}{ok ok' :Nat->Ty->Prop}(hok:∀b t,ok b t->ok' b t)(hh:∀b t,ok b t->h'[b]? =h[b]?)(hr:bI h ok t xs cs):bI h' ok' t xs cs:=
 ⟨hr.1,λi x hi=>bZ hok hh (hr.2 i x hi)⟩
theorem bI.rep_all{h:Array Obj}{ok:Nat->Ty->Prop}{t:Ty}{x:t.den}{cs:c2h}(hr:iY h ok t x cs):∀n,bI h ok t (List.replicate n x) ((List.replicate n cs).flatten)
 |0=>by simpa using bI.nil|n+1=>by have:=(bI.one hr).append (bI.rep_all hr n);simpa[List.replicate_succ]using this
theorem bI.one_cell{h:Array Obj}{ok:Nat->Ty->Prop}{t:Ty} :∀{xs:List t.den} {cs:c2h},bI h ok t xs cs->∀v∈cs,v.oneCell' =true
 |[],cs,hr=>by have:=hr.1;simp at this;simp[this]|x::xs,cs,hr=>by
  intro v hv;have h0:=hr.2 0 x rfl;simp only[Nat.zero_mul,jl]at h0;have hl:=hr.1;simp only[G8,H8,ax]at hl;have hrest:bI h ok t xs (cs.drop t.size):=by refine⟨by simp;omega,λi y hi=>?_⟩;have:=hr.2 (i+1) y (by simpa using hi);rw[V8];rwa[show t.size+i*t.size=(i+1)*t.size by rw[H8];omega]
  rw[←fO t.size cs]at hv;rcases H5.1 hv with hv|hv
  .exact rH h0 v hv
  .exact bI.one_cell hrest v hv
variable {blk:Nat}{off:Nat}{cap:Nat}{C:Cx}
theorem bI.arrOk(h0:t.isEnt=false)(hr:bI C.h C.ok t xs cs){c:Array Value}{T:TypeId}{f:Nat×Nat}(hb:C.h[blk]? =some (.cells c T f))(hz:fzo t c.size f)
  (hcap:xs.length<=cap) (hfit:off+cap*t.size<=c.size) (he:(c.toList.drop off).take (xs.length*t.size)=cs):Go.GP.arrOk C t xs (.arr blk off xs.length cap t.size):=by
 refine⟨h0,rfl,rfl,hcap,c,T,f,hb,hz,hfit,λi x hi=>?_⟩;have hlt:=(aF.1 hi).1;have hle:(i+1)*t.size<=xs.length*t.size:=F8 _ o5;rw[H8,ax]at hle;have hle2:xs.length*t.size<=cap*t.size:=F8 _ hcap;refine⟨_,fJ hb _ _ o5,?_⟩;have h1:=hr.2 i x hi;rw[←he,eU,dN,V8]at h1;rwa[bn o5]at h1
theorem Nu{blk off len cap sz:Nat}(h:arrOk C t xs (.arr blk off len cap sz)):
  ∃c T f,C.h[blk]? =some (.cells c T f)/\fzo t c.size f/\sz=t.size/\len=xs.length/\len<=cap/\off+cap*sz<=c.size/\bI C.h C.ok t xs ((c.toList.drop off).take (len*sz)):=by
 obtain⟨_,rfl,rfl,h3,c,T,f,hb,hz,hf,hx⟩:=h;refine⟨c,T,f,hb,hz,rfl,rfl,h3,hf,?_,λi x hi=>?_⟩
 .have:xs.length*t.size<=cap*t.size:=F8 _ h3;simp;omega
 .obtain⟨es,he,hr⟩:=hx i x hi;obtain⟨c',T',f',hb',hn',rfl⟩:=lY he;rw[hb]at hb';cases hb';have hlt:=(aF.1 hi).1;have hle:(i+1)*t.size<=xs.length*t.size:=F8 _ o5;rw[H8,ax]at hle;rw[eU,dN,V8,bn o5];exact hr
def rO(h:Array Obj)(ok:Nat->Ty->Prop)(m:M)(xs:List m.den)(cs:c2h)(Os:List c2i):Prop:=
 cs.length=xs.length*m.size/\Os.length=xs.length/\∀i x,xs[i]? =some x->∃O,Os[i]? =some O/\jm h ok m none x ((cs.drop (i*m.size)).take m.size) O
theorem rO.nil{m:M} :rO h ok m [] [] []:=⟨A8,rfl,λi x hi=>by simp at hi⟩
theorem rO.append{t:M}{xs ys:List t.den}{cs ds:c2h}{Os Ps:List c2i}(hx:rO h ok t xs cs Os)(hy:rO h ok t ys ds Ps):rO h ok t (xs++ys) (cs++ds) (Os++Ps):=by
 refine⟨by simp[hx.1,hy.1,H8],by simp[hx.2.1,hy.2.1],λi x hi=>?_⟩;by_cases hlt:i<xs.length
 .rw[S9 hlt]at hi;obtain⟨O,hO,h1⟩:=hx.2.2 i x hi;have hle:(i+1)*t.size<=cs.length:=by rw[hx.1];exact F8 _ o5
  rw[H8,ax]at hle;rw[List.drop_append_of_le_length o5,Y2 az];exact⟨O,by rw[S9 (by rw[hx.2.1];exact hlt)];exact hO,h1⟩
 .rw[J4 o5]at hi;obtain⟨O,hO,h1⟩:=hy.2.2 _ x hi;have hle:cs.length<=i*t.size:=by rw[hx.1];exact F8 _ o5
  rw[List.drop_append,aV hle,F6];have:i*t.size -cs.length=(i -xs.length)*t.size:=by rw[hx.1,Nat.sub_mul]
  rw[this];exact⟨O,by rw[J4 (by rw[hx.2.1];omega),hx.2.1];exact hO,h1⟩
theorem rO.one{t:M}{x:t.den}{O:c2i}(hr:jm h ok t none x cs O):rO h ok t [x] cs [O]:=by
 refine⟨by simp[ae hr],rfl,λi y hi=>?_⟩;have:i=0:=by have:=(aF.1 hi).1;simp at this;exact this
 subst this;simp at hi;subst hi;have:(List.drop (0*t.size) cs).take t.size=cs:=by simp[←ae hr]
 rw[this];exact⟨O,rfl,hr⟩
variable {Os:List c2i}
theorem rO.mono{h h' :Array Obj}{ok ok' :Nat->Ty->Prop}{t:M}{xs:List t.den}(hok:∀b t,ok b t->ok' b t)(hh:∀b t,ok b t->h'[b]? =h[b]?)(hO:∀b∈Os.flatten,h'[b]? =h[b]?)(hr:rO h ok t xs cs Os):rO h' ok' t xs cs Os:=
 ⟨hr.1,hr.2.1,λi x hi=>by obtain⟨O,h1,h2⟩:=hr.2.2 i x hi;exact⟨O,h1,eF hok hh (λb hb=>hO b (W9.2 ⟨O,kW h1,hb⟩)) h2⟩⟩
theorem rO.rep_all{h:Array Obj}{ok:Nat->Ty->Prop}{t:M}{x:t.den}{cs:c2h}(hr:jm h ok t none x cs []):∀n,rO h ok t (List.replicate n x) ((List.replicate n cs).flatten) (List.replicate n [])
 |0=>by simpa using rO.nil|n+1=>by have:=(rO.one hr).append (rO.rep_all hr n);simpa[List.replicate_succ]using this
theorem rO.one_cell{h:Array Obj}{ok:Nat->Ty->Prop}{t:M} :∀{xs:List t.den} {cs:c2h} {Os:List c2i},rO h ok t xs cs Os->∀v∈cs,v.oneCell' =true
 |[],cs,_,hr=>by have:=hr.1;simp at this;simp[this]|x::xs,cs,Os,hr=>by
  intro v hv;obtain⟨O,hO,h0⟩:=hr.2.2 0 x rfl;simp only[Nat.zero_mul,jl]at h0;have hl:=hr.1;simp only[G8,H8,ax]at hl;have hl2:=hr.2.1;simp only[G8]at hl2;have hrest:rO h ok t xs (cs.drop t.size) (Os.drop 1):=by refine⟨by simp;omega,by simp;omega,λi y hi=>?_⟩;obtain⟨O',hO',this⟩:=hr.2.2 (i+1) y (by simpa using hi);rw[V8];refine⟨O',by rw[L6,Nat.add_comm];exact hO',?_⟩;rwa[show t.size+i*t.size=(i+1)*t.size by rw[H8];omega]
  rw[←fO t.size cs]at hv;rcases H5.1 hv with hv|hv
  .exact kD h0 v hv
  .exact rO.one_cell hrest v hv
theorem rO.arrs{t:M}{xs:List t.den}(hr:rO h ok t xs cs Os){c:Array Value}{T:TypeId}(hb:h[blk]? =some (.cells c T (0,0)))
  (hcap:xs.length<=cap) (hfit:off+cap*t.size<=c.size) (he:(c.toList.drop off).take (xs.length*t.size)=cs):pK h t.size (λ_ x es O=>jm h ok t none x es O) xs Os (.arr blk off xs.length cap t.size):=by
 refine⟨rfl,rfl,hcap,hr.2.1,c,T,hb,hfit,λi x hi=>?_⟩;have hlt:=(aF.1 hi).1;have hle:(i+1)*t.size<=xs.length*t.size:=F8 _ o5;rw[H8,ax]at hle;have hle2:xs.length*t.size<=cap*t.size:=F8 _ hcap;obtain⟨O,hO,h1⟩:=hr.2.2 i x hi;refine⟨_,O,hO,fJ hb _ _ o5,?_⟩;rw[←he,eU,dN,V8]at h1;rwa[bn o5]at h1
theorem Xv{t:M}{xs:List t.den}{blk off len cap sz:Nat}(k:pK h t.size (λ_ x es O=>jm h ok t none x es O) xs Os (.arr blk off len cap sz)):
  ∃c T,h[blk]? =some (.cells c T (0,0))/\sz=t.size/\len=xs.length/\len<=cap/\off+cap*sz<=c.size/\rO h ok t xs ((c.toList.drop off).take (len*sz)) Os:=by
 obtain⟨rfl,rfl,h3,h7,c,T,hb,hf,hx⟩:=k;refine⟨c,T,hb,rfl,rfl,h3,hf,?_,h7,λi x hi=>?_⟩
 .have:xs.length*t.size<=cap*t.size:=F8 _ h3;simp;omega
 .obtain⟨es,O,hO,he,hr⟩:=hx i x hi;obtain⟨c',T',f',hb',hn',rfl⟩:=lY he;rw[hb]at hb';cases hb';have hlt:=(aF.1 hi).1;have hle:(i+1)*t.size<=xs.length*t.size:=F8 _ o5;rw[H8,ax]at hle;rw[eU,dN,V8,bn o5];exact⟨O,hO,hr⟩
theorem a2K{α β:Type}(e:α=β)(e' :List α=List β):cast e' []=[]:=by subst e;rfl
theorem Ud{h:Array Obj}{ok:Nat->Ty->Prop}{C:Cx} :∀(m:M) (he:m.el=true) {zs:List V} {cs r:c2h},iY h ok m.ty m.ty.zero cs->dD C zs (cs++r)->Pz m zs=true->jm h ok m none (m.zero he) cs []
 | .dat t,_,_,_,_,hr,_,_=>⟨hr,rfl⟩| .unit,_,_,_,_,hr,_,_=>⟨hr,rfl⟩| .own t,he,zs,cs,r,hr,hz,hn=>by
  have ht:t.isEnt=false:=by simpa[M.el]using he
  obtain⟨a,cap,rfl,_⟩:=(vz ht).1 hr;unfold Pz at hn;split at hn
  .obtain⟨v,r',e,h1,_⟩:=hz;simp only[Y6,F6,E8]at e;obtain⟨rfl,rfl⟩:=e;exact⟨_,rfl,rfl,.nil,h1,⟨rfl,ht⟩,rfl⟩
  .cases hn
 | .owns t,he,zs,cs,r,hr,hz,hn=>by
  obtain⟨a,cap,rfl,_⟩:=(vz (M.ty_ent (m:=t) (by simpa[M.el]using he))).1 hr;unfold Pz at hn;split at hn
  .obtain⟨v,r',e,h1,_⟩:=hz;simp only[Y6,F6,E8]at e;obtain⟨rfl,rfl⟩:=e;have he' :t.el=true:=by simpa[M.el]using he
   refine sW.2 ⟨he',.nil,_,[],rfl,h1,⟨?_,rfl⟩,rfl⟩;exact a2K (M.denEq t he').symm _
  .cases hn
 | .pair p q,he,zs,cs,r,hr,hz,hn=>by
  obtain⟨c,d,rfl,h1,h2⟩:=hr;have he' :p.el=true/\q.el=true:=by simpa[M.el]using he
  have hp:=bY h1;rw[M.ty_size he'.1]at hp;unfold Pz at hn;split at hn
  .rename_i r' hd;obtain⟨_,rfl⟩:=Rt _ _ _ hd;cases hb:Pz p zs<;>rw[hb]at hn
   .cases hn
   .have a1:=Ud p he'.1 (r:=d++r) h1 (by simpa using hz) hb;have hz' :=nC p.size hz;rw[show(c++d++r).drop p.size=d++r by rw[←hp,G7,List.drop_left]]at hz';have a2:=Ud q he'.2 (r:=r) h2 hz' hn;refine⟨c,d,[],[],rfl,rfl,?_,?_⟩
    .have:=DR (M.denEq p he'.1).symm (M.denEq q he'.2).symm (M.denEq (.pair p q) he).symm (p.ty.zero,q.ty.zero);exact(congrArg (λz:p.den×q.den=>jm h ok p none z.1 c []) this).mpr a1
    .have:=DR (M.denEq p he'.1).symm (M.denEq q he'.2).symm (M.denEq (.pair p q) he).symm (p.ty.zero,q.ty.zero);exact(congrArg (λz:p.den×q.den=>jm h ok q none z.2 d []) this).mpr a2
  .cases hn
 | .box _,he,_,_,_,_,_,_=>by simp[M.el]at he| .ownb _,he,_,_,_,_,_,_=>by simp[M.el]at he| .cell _,he,_,_,_,_,_,_=>by simp[M.el]at he| .fr _,he,_,_,_,_,_,_=>by simp[M.el]at he| .sbx _ _,he,_,_,_,_,_,_=>by simp[M.el]at he| .lp _,he,_,_,_,_,_,_=>by simp[M.el]at he| .dv ..,he,_,_,_,_,_,_=>by simp[M.el]at he| .sit,he,_,_,_,_,_,_=>by simp[M.el]at he| .rp _,he,_,_,_,_,_,_=>by simp[M.el]at he| .fn _ _,he,_,_,_,_,_,_=>by simp[M.el]at he| .ifc _ _,he,_,_,_,_,_,_=>by simp[M.el]at he
theorem Ht(z:Array Value):∀n,(madeCells z (n*z.size)).toList=(List.replicate n z.toList).flatten:=by
 intro n;rcases fE z.size with h0|h0
 .have:z=#[]:=by simpa using h0
  subst this;simp[madeCells]
 induction n with
 |zero=>simp[madeCells]|succ n ih=>
  rw[List.replicate_succ',iy,←ih];simp only[madeCells,jw,Array.toList_range,List.flatten_cons,List.flatten_nil,G6];rw[H8,ax,List.range_add,dG,List.map_map];congr 1;apply jy
  .simp
  .intro i h1 h2;simp at h1 h2;simp[Nat.mod_eq_of_lt h1,Nat.add_mod,h1,getElem!_pos]
theorem AB{E:Env}{t e:Nat}{u:Ty}(h:yS E t=some (e,u)):u.isEnt=false:=by
 unfold yS at h;split at h<;>try (cases h;done)
 split at h<;>try (cases h;done)
 split at h<;>try (cases h;done)
 split at h<;>try (cases h;done)
 rename_i u' _;cases hu:u'.isEnt
 .revert h;generalize (Nat.beq _ _&&Nat.ble _ _)=b;cases b<;>simp[hu];rintro _ rfl;exact hu
 .simp[hu]at h
theorem qU{X:Fx}(H:FxOk X){t e:Nat}{u:Ty}(h:yS X.E t=some (e,u)):
  ∃j z inf,X.P.underlying t=some (.slice e)/\TiOk X.P e j/\X.P.info? e=some inf/\inf.size=u.size/\j.size=u.size/\inf.bytes<=65536/\inf.zero=some z/\iY #[] (λ_ _=>False) u u.zero z.cells.toList:=by
 unfold yS at h;cases hi:bf X.E.tt t with
 |none=>simp[hi]at h|some i=>
  have htd:=(H.tt t i hi).td;simp only[hi]at h;cases hd:i.td<;>simp only[hd]at h<;>try (simp at h;done)
  rename_i e';rw[hd]at htd;cases hj:bf X.E.tt e' with
  |none=>simp[hj]at h|some j=>
   simp only[hj]at h;cases hy:j.ty with
   |none=>simp[hy]at h|some u' =>
    simp only[hy]at h;cases hb:(Nat.beq u'.size j.size&&Nat.ble j.bytes 65536&&!u'.isEnt)
    .simp only[hb,cond_false]at h;cases h
    .simp only[hb,cond_true,F5,iH]at h;obtain⟨rfl,rfl⟩:=h;simp only[o9]at hb;have h1:=bQ hb.1.1;have h2:=P5 hb.1.2;obtain⟨inf,a1,a2,a3,a4,a5⟩:=(H.tt e' j hj).info;obtain⟨b1,z,b2,b3⟩:=a5 u' hy;exact⟨j,z,inf,htd,H.tt _ _ hj,a1,o5,o5,o5,b2,b3⟩
variable {q:Nat}{w1:World}{T:c2i}
section
variable {X:Fx} {cl ch:Nat} {S:Sm} {m:Mp} {ok:Nat->Ty->Prop} {a:Act} {w:World} {o:Oper}
theorem VA(h:iY #[] (λ_ _=>False) t x cs):iY C.h C.ok t x cs:=
 bZ (λ_ _ h=>h.elim) (λ_ _ h=>h.elim) h
theorem AY(H:FxOk X){v vv:V}{Q:Unit->Sm->Prop}
  (hK:∀n,n=J5 q o.dst->CB*q<=n->n+64<=CB*q+CB->S (U8+n)= .undef->(bJ X.E o.dst vv).post (upd S (U8+n) v) Q):
  (pz (J5 q o.dst) v (bJ X.E o.dst vv)).post S Q:=by
 refine kL λhn=>?_;cases hd:o.dst with
 |none=>have hin:=lX H (q:=q) none (λt h=>by cases h);rw[hd]at hn;have:=hK (J5 q none) (by rw[hd]) hin.1 hin.2 hn;rwa[hd]at this|some t=>
  cases hb:PG X.E t with
  |false=>unfold bJ;simp only[hb,cond_false];trivial|true=>have hin:=lX H (q:=q) (some t) (λt' h=>by cases h;exact(vg hb).1);rw[hd]at hn;have:=hK (J5 q (some t)) (by rw[hd]) hin.1 hin.2 hn;rwa[hd]at this
theorem a1L(H:FxOk X){v vv u:V}{Q:Unit->Sm->Prop}
  (hK:∀n,n=J5 q o.dst->CB*q<=n->n+64<=CB*q+CB->S (U8+n)= .undef->(Cmd.set (U8+(JQ+n)) u (bJ X.E o.dst vv)).post (upd S (U8+n) v) Q):
  (pz (J5 q o.dst) v (.set (U8+(JQ+J5 q o.dst)) u (bJ X.E o.dst vv))).post S Q:=by
 refine kL λhn=>?_;cases hd:o.dst with
 |none=>have hin:=lX H (q:=q) none (λt h=>by cases h);rw[hd]at hn;have:=hK (J5 q none) (by rw[hd]) hin.1 hin.2 hn;rwa[hd]at this|some t=>
  cases hb:PG X.E t with
  |false=>refine cu ?_;unfold bJ;simp only[hb,cond_false];trivial|true=>have hin:=lX H (q:=q) (some t) (λt' h=>by cases h;exact(vg hb).1);rw[hd]at hn;have:=hK (J5 q (some t)) (by rw[hd]) hin.1 hin.2 hn;rwa[hd]at this
theorem ZU(R:Rel X cl ch S m ok a w)(hos:w1.os=w.os)(htp:w1.tape=w.tape)(hout:w1.output=w.output)(hh:w1.heap=w.heap)
  {u:Ty} (ht:u.isEnt=false) {xs:List u.den} {cs:c2h} {e:TypeId} {c:Array Value} {cap n:Nat} (hr:bI w.heap ok u xs cs)
  (hcap:xs.length<=cap) (hfit:cap*u.size<=c.size) (he:c.toList.take (xs.length*u.size)=cs) (hcl:cl<=n) (hch:n<ch) (hn:S (U8+n)= .undef) {f:Nat×Nat} (hz:fzo u c.size f):
  Rel X cl ch (upd S (U8+n) (.barr u xs)) (jo m n (.arr w.heap.size 0 xs.length cap u.size) []) ok a (w1.alloc (.cells c e f)):=by
 have R1:Rel X cl ch S m ok a w1:=R.same hos htp hout hh;have hblk:(w1.alloc (.cells c e f)).heap[w.heap.size]? =some (.cells c e f):=by rw[←hh];exact heap_alloc_new w1 _
 refine R1.new hn hcl hch A8 (by simp[L9,hh]) ⟨_,X8 _ _ _ _,?_⟩;refine bI.arrOk (cs:=cs) ht (hr.mono (λ_ _ h=>h) (λb t hb=>?_)) hblk hz hcap o5 (by simpa using he);have:=R.okLt b t hb;show(w1.heap.push (.cells c e f))[b]? =_;rw[hh];exact uk _ _ this
theorem Jc(H:FxOk X)(R:Rel X (CB*q) (CB*q+CB) S m ok a w)(hos:w1.os=w.os)(htp:w1.tape=w.tape)(hout:w1.output=w.output)(hh:w1.heap=w.heap)
  {u:Ty} (ht:u.isEnt=false) {xs:List u.den} {cs:c2h} {e:TypeId} {c:Array Value} {cap:Nat} (hr:bI w.heap ok u xs cs)
  (hcap:xs.length<=cap) (hfit:cap*u.size<=c.size) (he:c.toList.take (xs.length*u.size)=cs) {w0:World} {m0:Mp} {ok0:Nat->Ty->Prop} (hm:∀k l,m0 k=some l->m k=some l) (hok:∀b t,ok0 b t->ok b t)
  {f:Nat×Nat} (hz:fzo u c.size f)
  (run:(execOp a.eval o).run X.P w0= .ok (.value (.slice (some ⟨w.heap.size,0,none⟩) xs.length cap)) (w1.alloc (.cells c e f))):
  (pz (J5 q o.dst) (.barr u xs) (bJ X.E o.dst (.own (J5 q o.dst) none))).post S (λ_ S' =>eX X (CB*q) (CB*q+CB) o a w0 m0 ok0 S'):=by
 refine AY H λn e1 h1 h2 hn=>?_;rw[←e1];clear e1;generalize CB*q=Z at*;have R' :=ZU R hos htp hout hh ht (e:=e) hr hcap hfit he h1 (by show n<Z+1000000;change n+64<=Z+1000000 at h2;omega) hn hz;refine mX H R' (λk l h=>?_) hok ⟨_,X8 _ _ _ _,rfl⟩ run;by_cases ek:k=n
 .subst ek;have:=R.fresh k h1 hn;have h3:=hm _ _ h;rw[this]at h3;cases h3
 .rw[fU _ _ _ ek];exact hm _ _ h
theorem Py(R:Rel X cl ch S m ok a w)(hT:Tk X S m ok w T)(hos:w1.os=w.os)(htp:w1.tape=w.tape)(hout:w1.output=w.output)(hh:w1.heap=w.heap)
  {md:M} (hel:md.el=true) {xs:List md.den} {cs:c2h} {Os:List c2i} {e:TypeId} {c:Array Value} {cap n:Nat} (hr:rO w.heap ok md xs cs Os) (hnd:Os.flatten.Nodup) (hO:∀b∈Os.flatten,b∈T)
  (hcap:xs.length<=cap) (hfit:cap*md.size<=c.size) (he:c.toList.take (xs.length*md.size)=cs) (hcl:cl<=n) (hch:n<ch) (hn:S (U8+n)= .undef):
  Rel X cl ch (upd S (U8+n) (.barrs md xs none)) (jo m n (.arr w.heap.size 0 xs.length cap md.size) Os.flatten) ok a (w1.alloc (.cells c e)):=by
 have R1:Rel X cl ch S m ok a w1:=R.same hos htp hout hh;have T1:Tk X S m ok w1 T:=⟨hT.nodup,λb hb=>by rw[hh];exact hT.free b hb⟩;have hblk:(w1.alloc (.cells c e)).heap[w.heap.size]? =some (.cells c e (0,0)):=by rw[←hh];exact heap_alloc_new w1 _
 have hold:∀b,b<w.heap.size->(w1.alloc (.cells c e)).heap[b]? =w.heap[b]?:=λb hb=>by show(w1.heap.push (.cells c e))[b]? =_;rw[hh];exact uk _ _ hb
 refine R1.newK T1 hn hcl hch A8 (by simp[L9,hh]) hnd hO ⟨hel,_,Os,X8 _ _ _ _,?_,A8⟩;exact⟨rO.arrs (cs:=cs) (hr.mono (λ_ _ h=>h) (λb t hb=>hold b (R.okLt b t hb)) (λb hb=>hold b (hT.free b (hO b hb)).2.1)) hblk hcap o5 (by simpa using he),trivial⟩
theorem SG(H:FxOk X)(R:Rel X (CB*q) (CB*q+CB) S m ok a w)(hT:Tk X S m ok w T)(hos:w1.os=w.os)(htp:w1.tape=w.tape)(hout:w1.output=w.output)(hh:w1.heap=w.heap)
  {md:M} (hel:md.el=true) {xs:List md.den} {cs:c2h} {Os:List c2i} {e:TypeId} {c:Array Value} {cap:Nat} (hr:rO w.heap ok md xs cs Os) (hnd:Os.flatten.Nodup) (hO:∀b∈Os.flatten,b∈T)
  (hcap:xs.length<=cap) (hfit:cap*md.size<=c.size) (he:c.toList.take (xs.length*md.size)=cs) {w0:World} {m0:Mp} {ok0:Nat->Ty->Prop} (hm:∀k l,m0 k=some l->m k=some l) (hok:∀b t,ok0 b t->ok b t)
  (run:(execOp a.eval o).run X.P w0= .ok (.value (.slice (some ⟨w.heap.size,0,none⟩) xs.length cap)) (w1.alloc (.cells c e))):
  (pz (J5 q o.dst) (.barrs md xs none) (bJ X.E o.dst (.own (J5 q o.dst) none))).post S (λ_ S' =>eX X (CB*q) (CB*q+CB) o a w0 m0 ok0 S'):=by
 refine AY H λn e1 h1 h2 hn=>?_;rw[←e1];clear e1;generalize CB*q=Z at*;have R' :=Py R hT hos htp hout hh (e:=e) hel hr hnd hO hcap hfit he h1 (by show n<Z+1000000;change n+64<=Z+1000000 at h2;omega) hn;refine mX H R' (λk l h=>?_) hok ⟨_,X8 _ _ _ _,rfl⟩ run;by_cases ek:k=n
 .subst ek;have:=R.fresh k h1 hn;have h3:=hm _ _ h;rw[this]at h3;cases h3
 .rw[fU _ _ _ ek];exact hm _ _ h
theorem Yf(H:FxOk X)(R:Rel X (CB*q) (CB*q+CB) S m ok a w)(hT:Tk X S m ok w T)(hos:w1.os=w.os)(htp:w1.tape=w.tape)(hout:w1.output=w.output)(hh:w1.heap=w.heap)
  {md:M} (hel:md.el=true) {xs:List md.den} {cs:c2h} {Os:List c2i} {e:TypeId} {c:Array Value} {cap:Nat} (hr:rO w.heap ok md xs cs Os) (hnd:Os.flatten.Nodup) (hO:∀b∈Os.flatten,b∈T)
  (hcap:xs.length<=cap) (hfit:cap*md.size<=c.size) (he:c.toList.take (xs.length*md.size)=cs) {w0:World} {m0:Mp} {ok0:Nat->Ty->Prop} (hm:∀k l,m0 k=some l->m k=some l) (hok:∀b t,ok0 b t->ok b t)
  (run:(execOp a.eval o).run X.P w0= .ok (.value (.slice (some ⟨w.heap.size,0,none⟩) xs.length cap)) (w1.alloc (.cells c e))):
  (pz (J5 q o.dst) (.barrs md xs none) (.set (U8+(JQ+J5 q o.dst)) (.blen (o8 xs) md.size) (bJ X.E o.dst (.own (J5 q o.dst) none)))).post S (λ_ S' =>eX X (CB*q) (CB*q+CB) o a w0 m0 ok0 S'):=by
 refine a1L H λn e1 h1 h2 hn=>?_;refine cu ?_;rw[←e1];clear e1;generalize CB*q=Z at*;have R' :=Py R hT hos htp hout hh (e:=e) hel hr hnd hO hcap hfit he h1 (by show n<Z+1000000;change n+64<=Z+1000000 at h2;omega) hn;refine mX H (R'.mark (gG _ _ _)) (λk l h=>?_) hok ⟨_,X8 _ _ _ _,rfl⟩ run;by_cases ek:k=n
 .subst ek;have:=R.fresh k h1 hn;have h3:=hm _ _ h;rw[this]at h3;cases h3
 .rw[fU _ _ _ ek];exact hm _ _ h
theorem Wu(H:FxOk X)(R:Rel X (CB*q) (CB*q+CB) S m ok a w){t:TypeId}{l c:Operand}(ho:o.op= .makeSlice t l c):(aG X.E q o).post S (λ_ S' =>eX X (CB*q) (CB*q+CB) o a w m ok S'):=by
 unfold aG;simp only[ho];split
 .rename_i md hom;split<;>try trivial
  rename_i e u het;obtain⟨j,z,inf,hu,hj,h1,h2,h3,h4,h5,h6⟩:=qU H het;have hz:=bY h6;refine Y9 R λv hv=>?_;split<;>try trivial
  rename_i k n;refine V7 λhc=>?_;simp only[o9]at hc;obtain⟨⟨hs,hsz⟩,hza⟩:=hc;split<;>try trivial
  rename_i hel;obtain⟨hel,rfl⟩:=hel;refine bF λxs hxs=>?_;have hec:a.eval c=a.eval l:=by
   unfold TE at hs;split at hs
   .have:=bQ hs;subst this;rfl
   .cases hs
  unfold yJ at hxs;split at hxs
  .rename_i hh;cases hxs;have e1:=oV hv;have e2:=hec.trans e1;have hms:=M.ty_size hel;have hby:(inf.bytes:Int)*n<=65536*1073741824:=by
    have:inf.bytes*n.toNat<=65536*1073741824:=Nat.mul_le_mul h4 o5;have e:(n.toNat:Int)=n:=o5;rw[←e,←Int.natCast_mul];generalize inf.bytes*n.toNat=p at*;omega
   have hrun:=run_make (P:=X.P) w t e inf z hu h1 h5 k k n n hh.1 (oH _) o5 o5;have hflat:=Ht z.cells n.toNat
   have hzs:z.cells.size=md.ty.size:=by simpa using hz
   have hzero:jm w.heap ok md none (md.zero hel) z.cells.toList []:=by
    unfold a1m at hza;rw[het]at hza;simp only at hza;cases hj2:bf X.E.tt e with
    |none=>rw[hj2]at hza;cases hza|some j2=>
     rw[hj2]at hza;simp only at hza;cases hb:Nat.beq j2.zero.length j2.size<;>rw[hb]at hza
     .cases hza
     .obtain⟨inf2,a1,a2,a3,a4,a5⟩:=(H.tt e j2 hj2).info;rw[h1]at a1;cases a1;obtain⟨z2,b1,b2⟩:=a4 (bQ hb);rw[h5]at b1;cases b1;exact Ud md hel (r:=[]) (VA (C:=⟨w.heap,ok,m⟩) h6) (by simpa using b2) hza
   refine Yf H R (T:=[]) Tk.nil rfl rfl rfl rfl (cs:=(List.replicate n.toNat z.cells.toList).flatten) (c:=madeCells z.cells (n.toNat*inf.size)) (cap:=n.toNat) (e:=e) hel (rO.rep_all hzero _) A8 A8 A8 (by simp[size_madeCells,h2,hms]) ?_ (λ_ _ h=>h) (λ_ _ h=>h) (w1:=w) ?_
   .rw[h2,←hzs,hflat];rw[U2 (by simp[List.length_flatten,hzs,hms])]
   .simp[execOp,ho,e1,e2,hrun]
  .cases hxs
 split<;>try trivial
 rename_i e u het;obtain⟨j,z,inf,hu,hj,h1,h2,h3,h4,h5,h6⟩:=qU H het;have hz:=bY h6;have key:∀{k k' :IntKind} {n n' :Int},a.eval l= .int k n->a.eval c= .int k' n' ->0<=n->n<=n' ->n' <=1073741824->
   (pz (J5 q o.dst) (.barr u (List.replicate n.toNat u.zero)) (bJ X.E o.dst (.own (J5 q o.dst) none))).post S (λ_ S' =>eX X (CB*q) (CB*q+CB) o a w m ok S'):=λ{k k' n n'} e1 e2 g0 g1 g2=>by
  have hby:(inf.bytes:Int)*n' <=65536*1073741824:=by have:inf.bytes*n'.toNat<=65536*1073741824:=Nat.mul_le_mul h4 o5;have e:(n'.toNat:Int)=n' :=o5;rw[←e,←Int.natCast_mul];generalize inf.bytes*n'.toNat=p at*;omega
  have hrun:=run_make (P:=X.P) w t e inf z hu h1 h5 k k' n n' g0 g1 o5 o5;have hflat:=Ht z.cells n'.toNat
  have hzs:z.cells.size=u.size:=by simpa using hz
  refine Jc H R rfl rfl rfl rfl (AB het) (cs:=(List.replicate n.toNat z.cells.toList).flatten) (c:=madeCells z.cells (n'.toNat*inf.size)) (cap:=n'.toNat) (e:=e) (bI.rep_all (VA (C:=⟨w.heap,ok,m⟩) h6) _) az (by simp[size_madeCells,h2]) ?_ (λ_ _ h=>h) (λ_ _ h=>h) (w1:=w) (.inl rfl) ?_
  .rw[h2,←hzs,hflat];have:n'.toNat=n.toNat+(n'.toNat -n.toNat):=o5;rw[this,←List.replicate_append_replicate,iy,Y2 (by simp[List.length_flatten]),U2 (by simp[List.length_flatten])]
  .simp[execOp,ho,e1,e2,hrun]
 refine Y9 R λv hv=>?_;split<;>try trivial
 rename_i k n;cases hs:TE l c
 .simp only[cond_false];refine Y9 R λv' hv' =>?_;split<;>try trivial
  rename_i k' n';refine⟨λhr=>bF λxs hxs=>?_,λ_=>trivial⟩;have hr' :=of_decide_eq_true (show decide (0<=n/\n<=n' /\n' <=1073741824)=true from hr);unfold yJ at hxs;split at hxs
  .cases hxs;exact key (oV hv) (oV hv') hr'.1 hr'.2.1 hr'.2.2
  .cases hxs
 .simp only[cond_true];refine bF λxs hxs=>?_;have hec:a.eval c=a.eval l:=by
   unfold TE at hs;split at hs
   .have:=bQ hs;subst this;rfl
   .cases hs
  unfold yJ at hxs;split at hxs
  .rename_i hh;cases hxs;exact key (oV hv) (hec.trans (oV hv)) hh.1 (oH _) hh.2
  .cases hxs
end
end Go.GP
namespace Go.GP
theorem DZ:∀(vs:c2h) (k off:Nat) (cs:Array Value),off+k+vs.length<=cs.size->
  (vs.zipIdx k).foldl (λcs (x:Value×Nat)=>cs.setIfInBounds (off+x.2) x.1) cs=(Z8 (off+k) vs cs.toList).toArray
 |[],k,off,cs,h=>by simp[Z8]|v::vs,k,off,cs,h=>by
  simp only[List.zipIdx_cons,ak];rw[DZ vs (k+1) off (cs.setIfInBounds (off+k) v) (by simp only[G8]at h;rw[Array.size_setIfInBounds];omega)];congr 1;simp only[G8]at h;have hsz:cs.toList.length=cs.size:=rfl;apply aI;intro i;rw[nU (by rw[jr,iR];omega),nU (by rw[G8];omega)];simp only[jr,G8,I7];by_cases h1:i<off+k
  .rw[if_pos (show i<off+(k+1) by omega),if_pos h1,if_neg (show ¬off+k=i by omega)]
  .rw[if_neg h1];by_cases h2:i=off+k
   .subst h2;rw[if_pos (show off+k<off+(k+1) by omega),if_pos rfl,if_pos (show off+k<cs.toList.length by omega),if_pos (show off+k<off+k+(vs.length+1) by omega)];simp
   .rw[if_neg (show ¬i<off+(k+1) by omega)];by_cases h3:i<off+(k+1)+vs.length
    .rw[if_pos h3,if_pos (show i<off+k+(vs.length+1) by omega)];rw[show i -(off+k)=(i -(off+(k+1)))+1 by omega];simp
    .rw[if_neg h3,if_neg (show ¬i<off+k+(vs.length+1) by omega),if_neg (show ¬off+k=i by omega)]
theorem Xl(v:Value)(off:Nat)(cs:Array Value)(h:off+v.cells.size<=cs.size):
  v.cells.zipIdx.foldl (λcs (c,j)=>cs.setIfInBounds (off+j) c) cs=(Z8 off v.cells.toList cs.toList).toArray:=by
 have:=DZ v.cells.toList 0 off cs (by simpa using h);rw[aj]at this;rw[←this,←Array.foldl_toList,Array.toList_zipIdx]
theorem NH{place:Nat->Option (Nat×Nat)}{cs:Array Value}{i off size:Nat}{v:Value}{rest:List (Nat×Value)}(hp:place i=some (off,size))(hs:v.cells.size=size)(hf:off+v.cells.size<=cs.size):
  Instr.fill place cs ((i,v)::rest)=Instr.fill place (Z8 off v.cells.toList cs.toList).toArray rest:=by
 have h2:¬(v.cells.size≠size\/off+v.cells.size>cs.size):=o5;simp only[Instr.fill,hp];rw[if_neg (by simpa using h2),Xl v off cs hf]
theorem RG{size:Nat} :∀(vs:c2h) (n:Nat) (cs:Array Value),(∀v∈vs,v.cells.size=size)->cs.size=(n+vs.length)*size->
  Instr.fill (λi=>some (i*size,size)) cs ((List.range' n vs.length).zip vs)=some (cs.toList.take (n*size)++vs.flatMap (λv=>v.cells.toList)).toArray
 |[],n,cs,_,h=>by simp only[bM,aj]at h;have:cs.toList.take (n*size)=cs.toList:=U2 (by rw[←h];exact D9 _);simp[Instr.fill,this]|v::vs,n,cs,hv,h=>by
  have h1:=hv v A8;simp only[G8]at h;have e1:(n+(vs.length+1))*size=n*size+size+vs.length*size:=by rw[H8,H8];omega
  simp only[G8,jA,dU];rw[NH (off:=n*size) (size:=size) rfl h1 o5];rw[RG vs (n+1) _ (λu hu=>hv u (by simp[hu])) (by have:=qx (p:=n*size) (us:=v.cells.toList) (L:=cs.toList) az;simp only[X5,this];rw[H8,H8];simp;omega)]
  congr 2;simp only[List.flatMap_cons];rw[←G7];congr 1;unfold Z8;have hsz:cs.toList.length=cs.size:=rfl;have h1' :v.cells.toList.length=size:=h1;rw[H8,ax,Y2 (by rw[N8,aT,h1'];omega)];rw[U2 (by rw[N8,aT,h1'];omega)]
theorem Ik{P:Program}{w:World}{t e:TypeId}{inf:TypeInfo}{z:Value}{n sz:Nat}{parts:Array (Nat×Value)}{F:Array Value}(hu:P.underlying t=some (.slice e))(hi:P.info? e=some inf)(hs:inf.size=sz)(hz:inf.zero=some z)
  (hle:n*sz<=16777216) (hf:∀cs:Array Value,cs.size=n*sz->Instr.fill (λi=>some (i*sz,sz)) cs parts.toList=some F):
  (Instr.buildSlice t n parts).run P w= .ok (.slice (some ⟨w.heap.size,0,none⟩) n n) (w.alloc (.cells F e)):=by
 subst hs;have hsz:(sizeOf e).run P w= .ok inf.size w:=by simp[sizeOf,typeInfo,hi]
 have hnle:¬(n*inf.size>2^24):=by show ¬(n*inf.size>16777216);omega
 unfold Instr.buildSlice;simp only[E9,run_underlying hu,G5,hsz,if_neg hnle];generalize n*inf.size=N at*;have fin:∀zero:Array Value,((match Instr.fill (λi=>some (i*inf.size,inf.size)) ((Array.range N).map (zero[·% zero.size]!)) parts.toList with
   |some cells=>(do pure (Value.slice (some (←newRow e cells)) n n):Sem Value)
   |_=>stuck "buildSlice: a part of the wrong size"):Sem Value).run P w= .ok (.slice (some ⟨w.heap.size,0,none⟩) n n) (w.alloc (.cells F e)):=λzero=>by
  rw[hf _ A8];simp[newRow]
 by_cases hn:N=0
 .rw[if_pos hn];simp only[E9,U0,G5];exact fin _
 .rw[if_neg hn];have hzv:(zeroValue e).run P w= .ok z w:=by simp[zeroValue,typeInfo,hi,hz]
  simp only[E9,hzv,U0,G5];exact fin _
variable {t:TypeId}
section
variable {X:Fx} {cl ch:Nat} {S:Sm} {m:Mp} {ok:Nat->Ty->Prop} {a:Act} {w:World} {o:Oper}
theorem Gh{α:Type}{Q:α->Sm->Prop}(u:Ty):∀(is:c2i) (vs:List V) {us:c2h} (n k:Nat) {K:List u.den->Cmd α} {S:Sm} {ok:Nat->Ty->Prop} (R:Rel X cl ch S m ok a w) (hl:is.length=us.length)
  (hv:dX ⟨w.heap,ok,m⟩ vs us)
  (hK:∀S' ok' xs,Rel X cl ch S' m ok' a w->(∀b t,ok b t->ok' b t)->us.length=k->is=List.range' n us.length->(∀v∈us,v.cells.size=u.size)->xs.length=us.length->bI w.heap ok' u xs (us.flatMap λv=>v.cells.toList)->(K xs).post S' Q),
  (uV u (is.zip vs) n k K).post S Q
 |[],vs,us,n,k,K,S,ok,R,hl,hv,hK=>by
  have:us=[]:=by cases us<;>simp at hl ⊢
  subst this;simp only[lH];cases k with
  |zero=>unfold uV;exact hK S ok [] R (λ_ _ h=>h) rfl rfl A8 rfl bI.nil|succ k=>unfold uV;trivial
 |i::is,vs,us,n,k,K,S,ok,R,hl,hv,hK=>by
  cases us with
  |nil=>simp at hl|cons x us=>
  cases vs with
  |nil=>simp[dX]at hv|cons v vs=>
  obtain⟨x',r,e,h1,h2⟩:=hv;simp only[E8]at e;obtain⟨rfl,rfl⟩:=e;simp only[dU];cases k with
  |zero=>unfold uV;trivial|succ k=>
  unfold uV;refine aS λhi=>pG h1 λcs hcs=>?_;have hi' :=bQ hi;subst hi';refine Ad (T:=[]) u R Tk.nil hcs λS1 ok1 y q ws ws' R1 T1 k1 s1 e1 g1 l1=>?_;cases q with
  |cons _ _=>trivial|nil=>
  simp only[dD]at l1;subst l1;simp only[G6]at e1;refine Gh u is vs (i+1) k R1 (by simpa using hl) (Ig k1 h2) λS2 ok2 ys R2 k2 c1 c2 c3 c4 c5=>?_;refine hK S2 ok2 (y::ys) R2 (λb t h=>k2 b t (k1 b t h)) (by simp[c1]) ?_ ?_ (by simp[c4]) ?_
  .simp[jA,c2]
  .intro z hz;rcases C9.1 hz with rfl|hz
   .have:=bY g1;rw[←e1]at this;simpa using this
   .exact c3 z hz
  .have:=(bI.one (bZ k2 (λ_ _ _=>rfl) g1)).append c5;simpa[e1]using this
theorem DN{α:Type}{Q:α->Sm->Prop}(md:M):∀(is:c2i) (vs:List V) {us:c2h} (n k:Nat) {K:List md.den->Cmd α} {S:Sm} {ok:Nat->Ty->Prop} {T:c2i} (R:Rel X cl ch S m ok a w) (hT:Tk X S m ok w T) (hl:is.length=us.length)
  (hv:dX ⟨w.heap,ok,m⟩ vs us)
  (hK:∀S' ok' xs Os,Rel X cl ch S' m ok' a w->Tk X S' m ok' w (T++Os.flatten)->(∀b t,ok b t->ok' b t)->us.length=k->is=List.range' n us.length->(∀v∈us,v.cells.size=md.size)->xs.length=us.length->rO w.heap ok' md xs (us.flatMap λv=>v.cells.toList) Os->(K xs).post S' Q),
  (qO md (is.zip vs) n k K).post S Q
 |[],vs,us,n,k,K,S,ok,T,R,hT,hl,hv,hK=>by
  have:us=[]:=by cases us<;>simp at hl ⊢
  subst this;simp only[lH];cases k with
  |zero=>unfold qO;exact hK S ok [] [] R (by simpa using hT) (λ_ _ h=>h) rfl rfl A8 rfl rO.nil|succ k=>unfold qO;trivial
 |i::is,vs,us,n,k,K,S,ok,T,R,hT,hl,hv,hK=>by
  cases us with
  |nil=>simp at hl|cons x us=>
  cases vs with
  |nil=>simp[dX]at hv|cons v vs=>
  obtain⟨x',r,e,h1,h2⟩:=hv;simp only[E8]at e;obtain⟨rfl,rfl⟩:=e;simp only[dU];cases k with
  |zero=>unfold qO;trivial|succ k=>
  unfold qO;refine V7 λhi=>pG h1 λcs hcs=>?_;have hi' :=bQ hi;subst hi';refine AO md R hT hcs λS1 ok1 y q ws ws' O R1 T1 k1 s1 e1 g1 l1=>?_;cases q with
  |cons _ _=>trivial|nil=>
  simp only[dD]at l1;subst l1;simp only[G6]at e1;refine DN md is vs (i+1) k R1 T1 (by simpa using hl) (Ig k1 h2) λS2 ok2 ys Os R2 T2 k2 c1 c2 c3 c4 c5=>?_;refine hK S2 ok2 (y::ys) (O::Os) R2 (by simpa[G7]using T2) (λb t h=>k2 b t (k1 b t h)) (by simp[c1]) ?_ ?_ (by simp[c4]) ?_
  .simp[jA,c2]
  .intro z hz;rcases C9.1 hz with rfl|hz
   .have:=ae g1;rw[←e1]at this;simpa using this
   .exact c3 z hz
  .have:=(rO.one (eF k2 (λ_ _ _=>rfl) (λ_ _=>rfl) g1)).append c5;simpa[e1]using this
theorem Uw(H:FxOk X){q:Nat}(R:Rel X (CB*q) (CB*q+CB) S m ok a w){n:Nat}{ps:Array (Nat×Operand)}(ho:o.op= .buildSlice t n ps):(aG X.E q o).post S (λ_ S' =>eX X (CB*q) (CB*q+CB) o a w m ok S'):=by
 unfold aG;simp only[ho];split<;>try trivial
 rename_i e u het;obtain⟨j,z,inf,hu,hj,h1,h2,h3,h4,h5,h6⟩:=qU H het;have hz:=bY h6;refine aS λhle=>jh R _ λvs hvs=>?_;have hle' :n*u.size<=16777216:=P5 hle;split
 rotate_left
 .rename_i md hom;refine V7 λhc=>?_;simp only[o9]at hc;have hms:=bQ hc.1;refine DN md _ vs 0 n (T:=[]) R Tk.nil A8 hvs λS' ok' xs Os R' T' k c1 c2 c3 c4 c5=>?_;rw[F6]at T';simp only[U5]at c1 c2;have hparts:(ps.map λ(i,x)=>(i,a.eval x)).toList=(List.range' 0 ((ps.toList.map (·.2)).map a.eval).length).zip ((ps.toList.map (·.2)).map a.eval):=by
   simp only[U5];rw[←c2];simp[List.zip_map',List.zip_map,jw,lF]
  have hxl:xs.length=n:=by rw[c4];simpa using c1
  have hflat:=c5.1;have hcl:((ps.toList.map (·.2)).map a.eval).length=n:=by simpa using c1
  have hfill:∀cs:Array Value,cs.size=n*u.size->Instr.fill (λi=>some (i*u.size,u.size)) cs (ps.map λ(i,x)=>(i,a.eval x)).toList=some ((((ps.toList.map (·.2)).map a.eval).flatMap λv=>v.cells.toList)).toArray:=λcs hcs=>by rw[hparts,RG _ 0 cs (by rw[←hms];exact c3) (by rw[hcl,hcs];simp)];simp
  refine SG (w1:=w) (e:=e) (cap:=xs.length) H R' T' rfl rfl rfl rfl hc.2 c5 T'.nodup (λ_ h=>h) (D9 _) (by rw[←hflat];simp) (c:=((((ps.toList.map (·.2)).map a.eval).flatMap λv=>v.cells.toList)).toArray) (U2 (by rw[hflat];exact D9 _)) (λ_ _ h=>h) k ?_;have hrun:=Ik (w:=w) (n:=n) hu h1 h2 h5 hle' hfill;simp only[execOp,ho,E9,hrun,G5,U0,hxl]
 refine Gh u _ vs 0 n R A8 hvs λS' ok' xs R' k c1 c2 c3 c4 c5=>?_;have hsz:(sizeOf e).run X.P w= .ok u.size w:=by simp[sizeOf,typeInfo,h1,h2]
 simp only[U5]at c1 c2;have hparts:(ps.map λ(i,x)=>(i,a.eval x)).toList=(List.range' 0 ((ps.toList.map (·.2)).map a.eval).length).zip ((ps.toList.map (·.2)).map a.eval):=by simp only[U5];rw[←c2];simp[List.zip_map',List.zip_map,jw,lF]
 have hxl:xs.length=n:=by rw[c4];simpa using c1
 have hflat:=c5.1;have hcl:((ps.toList.map (·.2)).map a.eval).length=n:=by simpa using c1
 have hfill:∀cs:Array Value,cs.size=n*u.size->Instr.fill (λi=>some (i*u.size,u.size)) cs (ps.map λ(i,x)=>(i,a.eval x)).toList=some ((((ps.toList.map (·.2)).map a.eval).flatMap λv=>v.cells.toList)).toArray:=λcs hcs=>by rw[hparts,RG _ 0 cs c3 (by rw[hcl,hcs];simp)];simp
 refine Jc (w1:=w) (e:=e) (cap:=xs.length) H R' rfl rfl rfl rfl (AB het) c5 (D9 _) (by rw[←hflat];simp) (c:=((((ps.toList.map (·.2)).map a.eval).flatMap λv=>v.cells.toList)).toArray) (U2 (by rw[hflat];exact D9 _)) (λ_ _ h=>h) k (.inl rfl) ?_;have hrun:=Ik (w:=w) (n:=n) hu h1 h2 h5 hle' hfill;simp only[execOp,ho,E9,hrun,G5,U0,hxl]
theorem QK{E:Env} :∀{fs:List (Nat×Nat)},a0q E fs=true->∀p∈fs,∃i,bf E.tt p.1=some i
 |[],_,p,hp=>by cases hp|(t,o)::r,h,p,hp=>by
  unfold a0q at h;cases hi:bf E.tt t with
  |none=>simp[hi]at h|some i=>
   simp only[hi]at h;rcases C9.1 hp with rfl|hp
   .exact⟨i,hi⟩
   .exact QK h p hp
def MC(P:Program)(fields:Array Field):List (Nat×Nat):=fields.toList.map λf=>(f.offset,((P.info? f.type).map (·.size)).getD 0)
theorem PK{P:Program} :∀(fs:List Field),(∀f∈fs,∃i,P.info? f.type=some i)->
  fs.mapM (λf=>(P.info? f.type).map λi=>(f.offset,i.size))=some (fs.map λf=>(f.offset,((P.info? f.type).map (·.size)).getD 0))
 |[],_=>by simp|f::fs,h=>by obtain⟨i,hi⟩:=h f A8;rw[List.mapM_cons,PK fs (λg hg=>h g (by simp[hg]))];simp[hi]
theorem Ez{α:Type}{Q:α->Sm->Prop}(H:FxOk X){t:Nat}{fields:Array Field}(hu:X.P.underlying t=some (.struct fields)):
  ∀(is:c2i) (vs:List V) {us:c2h} {cs:List V} {arr:Array Value} {K:List V->Cmd α} (hl:is.length=us.length) (hv:dX ⟨w.heap,ok,m⟩ vs us) (hc:dD ⟨w.heap,ok,m⟩ cs arr.toList)
  (hK:∀cs' arr',Instr.fill ((MC X.P fields).toArray[·]?) arr (is.zip us)=some arr' ->dD ⟨w.heap,ok,m⟩ cs' arr'.toList->(K cs').post S Q),(yP X.E t (is.zip vs) cs K).post S Q
 |[],vs,us,cs,arr,K,hl,hv,hc,hK=>by simp only[lH];unfold yP;exact hK cs arr (by simp[Instr.fill]) hc|i::is,vs,us,cs,arr,K,hl,hv,hc,hK=>by
  cases us with
  |nil=>simp at hl|cons x us=>
  cases vs with
  |nil=>simp[dX]at hv|cons v vs=>
  obtain⟨x',r,e,h1,h2⟩:=hv;simp only[E8]at e;obtain⟨rfl,rfl⟩:=e;simp only[dU];unfold yP;split<;>try trivial
  rename_i off n ag hf;obtain⟨fields',fld,j,hu',hfl,hoff,hj,hn,hn0,_⟩:=Dl H hf;rw[hu]at hu';cases hu';obtain⟨inf,i1,i2,_⟩:=hj.info;refine pG h1 λws hws=>aS λhb=>xX off ws cs λhle=>?_;have hb' :=bQ hb;have hL:=gZ hc;have hLw:=gZ hws;have hxs:x.cells.size=n:=by simp at hLw;omega
  have hpl:((MC X.P fields).toArray[i]?)=some (off,n):=by
   have hfl' :fields.toList[i]? =some fld:=by simpa using hfl
   simp[MC,hfl,i1,i2,hoff,hn]
  refine Ez H hu is vs (arr:=(Z8 off x.cells.toList arr.toList).toArray) (by simpa using hl) h2 (by simpa using yM hws hc) λcs' arr' hfill hrel=>?_;refine hK cs' arr' ?_ hrel;rw[dU,NH (place:=λk=>(MC X.P fields).toArray[k]?) (cs:=arr) hpl hxs (by simp at hL;omega)];exact hfill
theorem Jt{α:Type}{Q:α->Sm->Prop}{sz:Nat} :
  ∀(is:c2i) (vs:List V) {us:c2h} {cs:List V} {arr:Array Value} {K:List V->Cmd α} (hl:is.length=us.length) (hv:dX ⟨w.heap,ok,m⟩ vs us) (hc:dD ⟨w.heap,ok,m⟩ cs arr.toList)
  (hK:∀cs' arr',Instr.fill (λi=>some (i*sz,sz)) arr (is.zip us)=some arr' ->dD ⟨w.heap,ok,m⟩ cs' arr'.toList->(K cs').post S Q),(GM sz (is.zip vs) cs K).post S Q
 |[],vs,us,cs,arr,K,hl,hv,hc,hK=>by simp only[lH];unfold GM;exact hK cs arr (by simp[Instr.fill]) hc|i::is,vs,us,cs,arr,K,hl,hv,hc,hK=>by
  cases us with
  |nil=>simp at hl|cons x us=>
  cases vs with
  |nil=>simp[dX]at hv|cons v vs=>
  obtain⟨x',r,e,h1,h2⟩:=hv;simp only[E8]at e;obtain⟨rfl,rfl⟩:=e;simp only[dU];unfold GM;refine pG h1 λws hws=>aS λhb=>xX (i*sz) ws cs λhle=>?_;have hb' :=bQ hb;have hL:=gZ hc;have hLw:=gZ hws;have hxs:x.cells.size=sz:=by simp at hLw;omega
  refine Jt is vs (arr:=(Z8 (i*sz) x.cells.toList arr.toList).toArray) (by simpa using hl) h2 (by simpa using yM hws hc) λcs' arr' hfill hrel=>?_;refine hK cs' arr' ?_ hrel;rw[dU,NH (place:=λk=>some (k*sz,sz)) (cs:=arr) rfl hxs (by simp at hL;omega)];exact hfill
theorem a3p(H:FxOk X)(R:Rel X cl ch S m ok a w){ps:Array (Nat×Operand)}{q:Nat}(ho:o.op= .build t ps):(aG X.E q o).post S (λ_ S' =>eX X cl ch o a w m ok S'):=by
 unfold aG;simp only[ho];refine gB H λi hi=>?_;split<;>try trivial
 case h_2=>
  rename_i n e htd';have htd:=hi.td;rw[htd']at htd;refine gB H λj hj=>aS λhb=>jh R _ λvs hvs=>?_;obtain⟨inf,h1,h2,h3,h4,h5⟩:=hi.info;obtain⟨ine,e1,e2,_⟩:=hj.info;obtain⟨z,hz1,hz2⟩:=h4 (bQ hb);refine Jt _ vs (us:=(ps.toList.map (·.2)).map a.eval) (arr:=z.cells) A8 hvs (KF hz2) λcs' arr' hfill hrel=>?_;refine Z5 H R (v:=.agg cs') (x:=.agg arr') ⟨arr',rfl,hrel⟩ ?_;have hparts:(ps.map λ(i,x)=>(i,a.eval x)).toList=(ps.toList.map (·.1)).zip ((ps.toList.map (·.2)).map a.eval):=by simp[List.zip_map',List.zip_map,jw,lF]
  have hbuilt:X.P.built t (ps.map λ(i,x)=>(i,a.eval x)).toList=some arr' :=by unfold Program.built;simp only[h1,show X.P.underlying t=some (.array n e)from htd,hz1,e1];rw[hparts,e2];exact hfill
  have:=run_build (P:=X.P) w t _ arr' hbuilt;simp only[execOp,ho,E9,this,G5,U0]
 rename_i fs htd';have htd:=hi.td;rw[htd']at htd;obtain⟨fields,hu,hfs⟩:=htd;refine aS λhb=>jh R _ λvs hvs=>?_;simp only[o9]at hb;obtain⟨inf,h1,h2,h3,h4,h5⟩:=hi.info;obtain⟨z,hz1,hz2⟩:=h4 (bQ hb.2);refine Ez H hu _ vs (us:=(ps.toList.map (·.2)).map a.eval) (arr:=z.cells) A8 hvs (KF hz2) λcs' arr' hfill hrel=>?_;refine Z5 H R (v:=.agg cs') (x:=.agg arr') ⟨arr',rfl,hrel⟩ ?_;have hparts:(ps.map λ(i,x)=>(i,a.eval x)).toList=(ps.toList.map (·.1)).zip ((ps.toList.map (·.2)).map a.eval):=by simp[List.zip_map',List.zip_map,jw,lF]
 have hmap:=PK (P:=X.P) fields.toList (λf hf=>by obtain⟨i',hi'⟩:=QK hb.1 (f.type,f.offset) (by rw[←hfs];exact qJ.2 ⟨f,hf,rfl⟩);obtain⟨inf',q1,_⟩:=(H.tt _ _ hi').info;exact⟨inf',q1⟩)
 have hbuilt:X.P.built t (ps.map λ(i,x)=>(i,a.eval x)).toList=some arr' :=by unfold Program.built;simp only[h1,hu,hz1,hmap];rw[hparts];exact hfill
 have:=run_build (P:=X.P) w t _ arr' hbuilt;simp only[execOp,ho,E9,this,G5,U0]
end
end Go.GP
namespace Go.GP
def zl(h:Array Obj)(sz:Nat)(v:Value)(n:Nat)(es:c2h):Prop:=
 es.length=n*sz/\((n=0/\∃ad cap,v= .slice ad 0 cap)\/(∃blk off cap,v= .slice (some ⟨blk,off,none⟩) n cap/\0<n/\bD h blk off (n*sz)=some es)\/∃b:ByteArray,v= .string b/\n=b.size/\es=Lib.strCells b)
variable {v:Value}{h:Array Obj}
theorem a7l{ok:Nat->Ty->Prop}{t:Ty}{ys:List t.den}(ht:t.isEnt=false)(hr:iY h ok (.sl t) ys [v]):∃es,zl h t.size v ys.length es/\bI h ok t ys es:=by
 obtain⟨ad,cap,e,hc,hel⟩:=(vz ht).1 hr;simp only[E8,and_true]at e;subst e;rcases fE ys.length with h0|h0
 .have:ys=[]:=af.1 h0;subst this;exact⟨[],⟨A8,.inl ⟨rfl,ad,cap,rfl⟩⟩,bI.nil⟩
 .obtain⟨y,hy⟩:∃y,ys[ys.length -1]? =some y:=by
   refine⟨ys[ys.length -1]'o5,?_⟩;exact iP _
  obtain⟨blk,off,es,rfl,hok,he,hr⟩:=hel _ y hy;obtain⟨c,T,f,hb,hn,_⟩:=lY he;have hle:off+ys.length*t.size<=c.size:=by
   have:ys.length*t.size=(ys.length -1)*t.size+t.size:=by
    conv=>lhs;rw[show ys.length=(ys.length -1)+1 by omega,H8,ax]
   omega
  refine⟨(c.toList.drop off).take (ys.length*t.size),⟨by simp;omega,.inr (.inl ⟨blk,off,cap,rfl,h0,fJ hb _ _ hle⟩)⟩,by simp;omega,λi x hi=>?_⟩;obtain⟨blk',off',es',ha',hok',he',hr'⟩:=hel i x hi;simp only[F5,eH,and_true]at ha';obtain⟨rfl,rfl⟩:=ha';obtain⟨c',T',f',hb',hn',rfl⟩:=lY he';rw[hb]at hb';cases hb';have hlt:=(aF.1 hi).1;have hle2:(i+1)*t.size<=ys.length*t.size:=F8 _ o5;rw[H8,ax]at hle2;rw[eU,dN,V8,bn o5];exact hr'
variable {C:Cx}{l:Loc}
theorem TZ{t:Ty}{xs:List t.den}(ht:t.isEnt=false)(ha:arrOk C t xs l)(hv:l.view none v):∃es,zl C.h t.size v xs.length es/\bI C.h C.ok t xs es:=by
 cases l with
 |st b=>cases ha|mp b=>exact absurd ha.1 (by simp[ht])|nil=>obtain⟨ha,_⟩:=ha;subst ha;simp only[Loc.view]at hv;subst hv;exact⟨[],⟨A8,.inl ⟨rfl,none,0,rfl⟩⟩,bI.nil⟩
 |arr blk off len cap sz=>
  obtain⟨c,T,f,hb,hz,rfl,rfl,hc,hf,hr⟩:=Nu ha;simp only[Loc.view]at hv;subst hv;have hle:xs.length*t.size<=cap*t.size:=F8 _ hc;refine⟨_,⟨hr.1,?_⟩,hr⟩;rcases fE xs.length with h0|h0
  .exact .inl ⟨h0,_,cap,by rw[h0]⟩
  .exact .inr (.inl ⟨blk,off,cap,rfl,h0,fJ hb _ _ o5⟩)
variable {P:Program}{es:c2h}{n:Nat}{sz:Nat}
theorem qL{w w' :World}(h:zl w.heap sz v n es)(hh:w'.heap=w.heap):(Builtin.firstCells sz n v).run P w' = .ok es.toArray w' :=by
 obtain⟨hl,h⟩:=h;rcases h with⟨rfl,ad,cap,rfl⟩|⟨blk,off,cap,rfl,hn,hc⟩|⟨b,rfl,rfl,rfl⟩
 .have:es=[]:=af.1 (by simpa using hl);subst this;cases ad with
  |none=>simp[Builtin.firstCells]|some b=>have:=run_loadCells_list (P:=P) w' b [] (λj v h=>by simp at h);simp[Builtin.firstCells];simpa using this
 .refine run_firstCells_some w' sz n _ _ cap es hl λj u hu=>?_;rw[dW];exact qg (w:=w') (by rw[hh];exact hc) hu
 .exact Lib.run_firstCells_string w' sz b
theorem zl.lenOf(hs:zl h sz v n es)(w:World):(Builtin.lenOf v).run P w= .ok n w:=by rcases hs.2 with⟨rfl,ad,cap,rfl⟩|⟨blk,off,cap,rfl,hn,hc⟩|⟨b,rfl,rfl,rfl⟩<;>rfl
section runs
variable {P:Program} {w:World} {t ty e:TypeId} {i:TypeInfo} {z:Value}
theorem JI(ht:P.underlying t=some (.slice e))(hi:P.info? e=some i){blk off len cap n:Nat}{c:Array Value}{T:TypeId}{f:Nat×Nat}(hb:w.heap[blk]? =some (.cells c T f))(hz:f=(0,0)\/f=(c.size,c.size+1))(hv:zl w.heap i.size v n es)
  (h1:∀u∈es,u.oneCell' =true) (hroom:len+n<=cap) (hfit:off+cap*i.size<=c.size):
  (Builtin.append_ #[t,t] ty #[.slice (some ⟨blk,off,none⟩) len cap,v]).run P w= .ok (.slice (some ⟨blk,off,none⟩) (len+n) cap) (w.setRow blk (Z8 (off+len*i.size) es c.toList).toArray):=by
 have hle:(len+n)*i.size<=cap*i.size:=F8 _ hroom;rw[H8,←hv.1]at hle;have hf:=qL (P:=P) (w' :=w) hv rfl;have hst:=tq (P:=P) blk (off+len*i.size) T es 0 c f w hb hz o5 h1;simp only[aj]at hst;simp[Builtin.append_,run_underlying ht,sizeOf,typeInfo,hi,hv.lenOf,hroom,hf,dW,hst,Z8]
theorem Gx(ht:P.underlying t=some (.slice e))(hi:P.info? e=some i)(hv:zl w.heap i.size v 0 es):
  (Builtin.append_ #[t,t] ty #[.slice none 0 0,v]).run P w= .ok (.slice none 0 0) w:=by
 have hf:=qL (P:=P) (w' :=w) hv rfl;simp[Builtin.append_,run_underlying ht,sizeOf,typeInfo,hi,hv.lenOf,hf]
theorem Ij(ht:P.underlying t=some (.slice e))(hi:P.info? e=some i)(hz:i.zero=some z)(hby:i.bytes<=65536){s v:Value}{sAd:Option Addr}{len cap n:Nat}{olds es:c2h}(hse:s= .slice sAd len cap)
  (hs:zl w.heap i.size s len olds) (hv:zl w.heap i.size v n es) (hg:cap<len+n) (hmax:len+n<=1073741824):
  (Builtin.append_ #[t,t] ty #[s,v]).run P w= .ok (.slice (some ⟨w.heap.size,0,none⟩) (len+n) (grownCap w (len+n) cap e))
   (w.drew.alloc (.cells ((olds++es).toArray++Builtin.zeroCells z.cells (grownCap w (len+n) cap e -(len+n))) e)):=by
 subst hse;have hn:¬(len+n<=cap):=o5;have h63' :¬(9223372036854775807<((len:Int)+(n:Int))):=o5;have hb2:(len+n)*i.bytes<=1073741824*65536:=Nat.mul_le_mul hmax hby;have h48' :¬(281474976710656<Builtin.nextslicecap (len+n) cap*i.bytes):=by have:=growslice_fits hg (show(len+n)*i.bytes<=140737488355328 by omega);omega
 have hf:=qL (P:=P) (w' :=w.drew) hv rfl;have hfo:=qL (P:=P) (w' :=w.drew) hs rfl;simp[Builtin.append_,run_underlying ht,sizeOf,typeInfo,zeroValue,hi,hz,hv.lenOf,hn,h63',h48',Question.forced,hf,hfo,newRow,grownCap];generalize Builtin.zeroCells _ _=Z;congr 2;apply iE;simp
end runs
variable {q:Nat}{t:TypeId}{α:Type}{u:Ty}{e:TypeId}{z:Value}{Q:α->Sm->Prop}{inf:TypeInfo}{x:Operand}{y:V}
section
variable {X:Fx} {cl ch:Nat} {S:Sm} {m:Mp} {ok:Nat->Ty->Prop} {a:Act} {w:World} {o:Oper}
theorem JM(R:Rel X cl ch S m ok a w)(ht:u.isEnt=false){vy:Value}{K:List u.den->Cmd α}(hy:iI ⟨w.heap,ok,m⟩ y vy)
  (hK:∀ys es,zl w.heap u.size vy ys.length es->bI w.heap ok u ys es->(K ys).post S Q):(Yq u y K).post S Q:=by
 unfold Yq;split<;>try trivial
 .have hy' :vy= .slice none 0 0:=hy;subst hy';simp only[ht,cond_false];exact hK [] [] ⟨A8,.inl ⟨rfl,none,0,rfl⟩⟩ bI.nil
 .obtain⟨ad,c,rfl,_⟩:=(show ∃a c,vy=Value.slice a 0 c/\a.isNone=_ from hy);simp only[ht,cond_false];exact hK [] [] ⟨A8,.inl ⟨rfl,ad,c,rfl⟩⟩ bI.nil
 .rename_i t' xs;refine dw λe=>?_;subst e;obtain⟨es,h1,h2⟩:=a7l ht (show iY w.heap ok (.sl t') xs [vy]from hy);exact hK xs es h1 h2
 .rename_i bx vw;obtain⟨l,hm,hv⟩:=hy;refine V5 ?_;split<;>try trivial
  .rename_i t' xs hS;obtain⟨l',hm',ha⟩:=R.own_arr hS;simp only at hm;rw[hm]at hm';cases hm';refine dw λe=>?_;subst e;obtain⟨a1,a2,_⟩:=EF ha hv;obtain⟨es,h1,h2⟩:=TZ ht a1 a2;exact hK _ es h1 h2
  .rename_i t' xs hS;obtain⟨l',hm',ha,_⟩:=R.own_frz hS;simp only at hm;rw[hm]at hm';cases hm';refine dw λe=>?_;subst e;obtain⟨a1,a2,_⟩:=EF ha hv;obtain⟨es,h1,h2⟩:=TZ ht a1 a2;exact hK _ es h1 h2
theorem OZ{T:c2i}(R:Rel X cl ch S m ok a w)(hT:Tk X S m ok w T){md:M}{vy:Value}{K:List md.den->List V->Cmd α}(hy:iI ⟨w.heap,ok,m⟩ y vy)
  (hK:∀S' ok' ys r O,Rel X cl ch S' m ok' a w->Tk X S' m ok' w (T++O)->(∀b t,ok b t->ok' b t)->ah S S' ->jm w.heap ok' (.owns md) none ys [vy] O->(K ys r).post S' Q):
  (exM wK (.owns md) [y] K).post S Q:=by
 have key:pW ⟨w.heap,ok,m⟩ y vy->vy.oneCell' =true->(exM wK (.owns md) [y] K).post S Q:=λh1 h2=>by
  refine AO (.owns md) R hT (vs:=[vy]) ⟨vy,[],rfl,h1,h2,rfl⟩ λS' ok' ys r us us' O R' T' k s e hr l=>?_;have:us=[vy]:=by obtain⟨v,e',_⟩:=hr;subst e';simp at e;simp[e.1]
  subst this;exact hK S' ok' ys r O R' T' k s hr
 cases y<;>try (unfold exM;trivial)
 .exact key hy (by have h:vy= .slice none 0 0:=hy;subst h;rfl)
 .refine key hy ?_;obtain⟨l,_,hv⟩:=hy;exact iC hv
theorem VI{ok:Nat->Ty->Prop}{md:M}{xs:List md.den}{Os:List c2i}(ha:pK h md.size (λ_ x es O=>jm h ok md none x es O) xs Os l)(hv:l.view none v):∃es,zl h md.size v xs.length es/\rO h ok md xs es Os:=by
 cases l with
 |st b=>cases ha|mp b=>cases ha|nil=>obtain⟨rfl,rfl⟩:=ha;simp only[Loc.view]at hv;subst hv;exact⟨[],⟨A8,.inl ⟨rfl,none,0,rfl⟩⟩,rO.nil⟩
 |arr blk off len cap sz=>
  obtain⟨c,T,hb,rfl,rfl,hc,hf,hr⟩:=Xv ha;simp only[Loc.view]at hv;subst hv;have hle:xs.length*md.size<=cap*md.size:=F8 _ hc;refine⟨_,⟨hr.1,?_⟩,hr⟩;rcases fE xs.length with h0|h0
  .exact .inl ⟨h0,_,cap,by rw[h0]⟩
  .exact .inr (.inl ⟨blk,off,cap,rfl,h0,fJ hb _ _ o5⟩)
theorem NL{xs ys zs:List α}(h:bu xs ys=some zs):xs.length+ys.length<=1073741824/\zs=xs++ys:=by
 unfold bu at h;split at h
 .cases h;exact⟨by assumption,rfl⟩
 .cases h
theorem II(z:Array Value)(n:Nat):(Builtin.zeroCells z n).size=n*z.size:=by simp[Builtin.zeroCells]
theorem Jq(H:FxOk X)(R:Rel X (CB*q) (CB*q+CB) S m ok a w)(ht:u.isEnt=false){j:TI}(hu:X.P.underlying t=some (.slice e))(h1:X.P.info? e=some inf)(h2:inf.size=u.size)(h4:inf.bytes<=65536)
  (h5:inf.zero=some z) (hz:z.cells.size=u.size) {xs ys:List u.den} {s v:Value} {sAd:Option Addr} {cap:Nat} {olds es:c2h} (hse:s= .slice sAd xs.length cap)
  (hs:zl w.heap u.size s xs.length olds) (hv:zl w.heap u.size v ys.length es) (r1:bI w.heap ok u xs olds) (r2:bI w.heap ok u ys es) (hg:cap<xs.length+ys.length) (hmax:xs.length+ys.length<=1073741824)
  (run:∀r w',(Builtin.append_ #[t,t] o.type #[s,v]).run X.P w= .ok r w' ->(execOp a.eval o).run X.P w= .ok (.value r) w'):
  (pz (J5 q o.dst) (.barr u (xs++ys)) (bJ X.E o.dst (.own (J5 q o.dst) none))).post S (λ_ S' =>eX X (CB*q) (CB*q+CB) o a w m ok S'):=by
 have hrun:=Ij (P:=X.P) (w:=w) (t:=t) (ty:=o.type) hu h1 h5 h4 (s:=s) (v:=v) hse (by rw[h2];exact hs) (by rw[h2];exact hv) hg hmax;have hge:=grownCap_ge w (xs.length+ys.length) cap e;have r:=r1.append r2;rw[←N8]at hrun hge;refine Jc H R (w1:=w.drew) rfl rfl rfl rfl ht r hge ?_ ?_ (λ_ _ h=>h) (λ_ _ h=>h) (.inl rfl) (run _ _ hrun)
 .have hl:=r.1;simp only[lC,X5,hl,II,hz,←H8];exact F8 _ o5
 .have hl:=r.1;simp only[jO];rw[Y2 (by rw[hl];exact D9 _),←hl];exact aU
theorem Jr(H:FxOk X)(R:Rel X (CB*q) (CB*q+CB) S m ok a w)(ht:u.isEnt=false)(hu:X.P.underlying t=some (.slice e))(h1:X.P.info? e=some inf)(h2:inf.size=u.size)(h4:inf.bytes<=65536)
  (h5:inf.zero=some z) (hz:z.cells.size=u.size) {ys:List u.den} {s v:Value} {es:c2h} (hse:s= .slice none 0 0)
  (hv:zl w.heap u.size v ys.length es) (r2:bI w.heap ok u ys es) (hmax:ys.length<=1073741824)
  (run:∀r w',(Builtin.append_ #[t,t] o.type #[s,v]).run X.P w= .ok r w' ->(execOp a.eval o).run X.P w= .ok (.value r) w'):
  (pz (J5 q o.dst) (.barr u ys) (bJ X.E o.dst (.own (J5 q o.dst) none))).post S (λ_ S' =>eX X (CB*q) (CB*q+CB) o a w m ok S'):=by
 rcases fE ys.length with h0|h0
 .have hy:ys=[]:=af.1 h0;subst hy;have hrun:=Gx (P:=X.P) (w:=w) (t:=t) (ty:=o.type) hu h1 (v:=v) (by rw[h2];exact hv);rw[←hse]at hrun;refine AY H λn e1 g1 g2 hn=>?_;rw[←e1];clear e1;generalize CB*q=Z at*;have R' :Rel X Z (Z+CB) (upd S (U8+n) (.barr u [])) (jo m n .nil []) ok a w:=by
   refine R.lay hn g1 (by show n<Z+1000000;change n+64<=Z+1000000 at g2;omega) A8 rfl rfl rfl (D9 _) (λ_ _ _=>rfl) (by simp[L9]) (λb hb=>by simp[L9]at hb) ⟨.nil,X8 _ _ _ _,rfl,ht⟩
  refine mX H R' (λk l h=>?_) (λ_ _ h=>h) ⟨.nil,X8 _ _ _ _,hse⟩ (run _ _ hrun);by_cases ek:k=n
  .subst ek;have:=R.fresh k g1 hn;rw[this]at h;cases h
  .rw[fU _ _ _ ek];exact h
 .have:=Jq (j:=⟨0,0,.bool,none,[]⟩) H R ht hu h1 h2 h4 h5 hz (xs:=[]) (ys:=ys) (s:=s) (v:=v) (sAd:=none) (cap:=0) (olds:=[]) (es:=es) hse ⟨A8,.inl ⟨rfl,none,0,hse⟩⟩ hv bI.nil r2 (by simpa using h0) (by simpa using hmax) run;simpa using this
theorem Zj(H:FxOk X)(R:Rel X (CB*q) (CB*q+CB) S m ok a w){md:M}{j:TI}(hu:X.P.underlying t=some (.slice e))(h1:X.P.info? e=some inf)(h2:inf.size=md.size)(h4:inf.bytes<=65536)
  (h5:inf.zero=some z) (hz:z.cells.size=md.size) {x y:V} {s v:Value} (hx:iI ⟨w.heap,ok,m⟩ x s) (hy:iI ⟨w.heap,ok,m⟩ y v)
  (run:∀r w',(Builtin.append_ #[t,t] o.type #[s,v]).run X.P w= .ok r w' ->(execOp a.eval o).run X.P w= .ok (.value r) w'):
  (exM wK (.owns md) [y] λys _=>exM wK (.owns md) [x] λxs _=>Cmd.opt (bu xs ys) λzs=>pz (J5 q o.dst) (.barrs md zs none) (bJ X.E o.dst (.own (J5 q o.dst) none))).post S (λ_ S' =>eX X (CB*q) (CB*q+CB) o a w m ok S'):=by
 refine OZ (T:=[]) R Tk.nil hy λS1 ok1 ys _ O1 R1 T1 k1 s1 g1=>?_;refine OZ R1 T1 (Jh k1 hx) λS2 ok2 xs _ O2 R2 T2 k2 s2 g2=>?_;have k12:∀b t,ok b t->ok2 b t:=λb t h=>k2 b t (k1 b t h);have g1:=eF k2 (λ_ _ _=>rfl) (λ_ _=>rfl) g1;obtain⟨hel,ly,vy,Oy,ey,hvy,hay,rfl⟩:=sW.1 g1;obtain⟨_,lx,vx,Ox,ex,hvx,hax,rfl⟩:=sW.1 g2;simp only[E8,and_true]at ey ex;subst ey;subst ex;refine bF λzs hzs=>?_;obtain⟨hmax,rfl⟩:=NL hzs;obtain⟨es,hv,ry⟩:=VI hay hvy;obtain⟨olds,hs,rx⟩:=VI hax hvx;have hnd2:=T2.nodup;have rr:=rx.append ry;have hT3:∀b∈(Ox++Oy).flatten,b∈[]++(ly.blks++Oy.flatten)++(lx.blks++Ox.flatten):=λb hb=>by
  simp only[iy,H5]at hb ⊢;rcases hb with hb|hb
  .exact .inr (.inr hb)
  .exact .inl (.inr (.inr hb))
 have hnd3:(Ox++Oy).flatten.Nodup:=by rw[iy];have h:=J6.1 hnd2;simp only[F6]at h;refine J6.2 ⟨(J6.1 h.2.1).2.1,(J6.1 h.1).2.1,λp hp r hr e=>h.2.2 r (by simp[hr]) p (by simp[hp]) e.symm⟩
 have fresh:∀{sAd:Option Addr} {cap:Nat},s= .slice sAd xs.length cap->cap<xs.length+ys.length->(pz (J5 q o.dst) (.barrs md (xs++ys) none) (bJ X.E o.dst (.own (J5 q o.dst) none))).post S2 (λ_ S' =>eX X (CB*q) (CB*q+CB) o a w m ok S'):=λ{sAd cap} hse hg=>by
  have hrun:=Ij (P:=X.P) (w:=w) (t:=t) (ty:=o.type) hu h1 h5 h4 (s:=s) (v:=v) hse (by rw[h2];exact hs) (by rw[h2];exact hv) hg hmax;have hge:=grownCap_ge w (xs.length+ys.length) cap e;rw[←N8]at hrun hge;refine SG H R2 T2 (w1:=w.drew) rfl rfl rfl rfl hel rr hnd3 hT3 hge ?_ ?_ (λ_ _ h=>h) k12 (run _ _ hrun)
  .have hl:=rr.1;simp only[lC,X5,hl,II,hz,←H8];exact F8 _ o5
  .have hl:=rr.1;simp only[jO];rw[Y2 (by rw[hl];exact D9 _),←hl];exact aU
 cases lx with
 |st b=>cases hax|mp b=>cases hax|nil=>
  obtain⟨rfl,rfl⟩:=hax;simp only[Loc.view]at hvx;rcases fE ys.length with h0|h0
  .have hy0:ys=[]:=af.1 h0;subst hy0;have hO0:Oy=[]:=af.1 ry.2.1;subst hO0;have hrun:=Gx (P:=X.P) (w:=w) (t:=t) (ty:=o.type) hu h1 (v:=v) (by rw[h2];exact hv);rw[←hvx]at hrun;refine AY H λn e1 g1 g2 hn=>?_;rw[←e1];clear e1;generalize CB*q=Z at*;have R' :Rel X Z (Z+CB) (upd S2 (U8+n) (.barrs md ([]++[]) none)) (jo m n .nil []) ok2 a w:=by
    refine R2.lay hn g1 (by show n<Z+1000000;change n+64<=Z+1000000 at g2;omega) A8 rfl rfl rfl (D9 _) (λ_ _ _=>rfl) (by simp[L9]) (λb hb=>by simp[L9]at hb) ⟨hel,.nil,[],X8 _ _ _ _,⟨⟨rfl,rfl⟩,trivial⟩,A8⟩
   refine mX H R' (λk l h=>?_) k12 ⟨.nil,X8 _ _ _ _,hvx⟩ (run _ _ hrun);by_cases ek:k=n
   .subst ek;have:=R2.fresh k g1 hn;rw[this]at h;cases h
   .rw[fU _ _ _ ek];exact h
  .exact fresh (sAd:=none) (cap:=0) hvx (by simpa using h0)
 |arr blk off len cap sz=>
  obtain⟨c,T,hb,rfl,rfl,hcap,hfit,r1⟩:=Xv hax;simp only[Loc.view]at hvx;by_cases hroom:xs.length+ys.length<=cap
  .have hrun:=JI (P:=X.P) (w:=w) (t:=t) (ty:=o.type) (off:=off) (cap:=cap) hu h1 hb (.inl rfl) (v:=v) (n:=ys.length) (es:=es) (by rw[h2];exact hv) ry.one_cell hroom (by rw[h2];exact hfit);rw[←hvx]at hrun;obtain⟨q1,q2,q3,q4⟩:=T2.free blk (by simp[Loc.blks]);have hle:(xs.length+ys.length)*md.size<=cap*md.size:=F8 _ hroom;rw[H8]at hle;have hesl:=hv.1;have hcl:c.toList.length=c.size:=rfl;have hsp:(Z8 (off+xs.length*md.size) es c.toList).length=c.size:=by rw[qx o5];rfl
   have hblk:∀b∈(Ox++Oy).flatten,b≠blk:=λb hbm e=>by
    subst e;rw[iy]at hbm;have h:=J6.1 hnd2;simp only[F6]at h;rcases H5.1 hbm with hbm|hbm
    .exact(J6.1 h.2.1).2.2 b (by simp[Loc.blks]) b hbm rfl
    .exact h.2.2 b (by simp[hbm]) b (by simp[Loc.blks]) rfl
   refine AY H λn e1 g1 g2 hn=>?_;rw[←e1];clear e1;generalize CB*q=Z at*;have hoth:∀b,b≠blk->(w.setRow blk (Z8 (off+xs.length*md.size) es c.toList).toArray).heap[b]? =w.heap[b]?:=λb hb=>setRow_other w blk b _ hb;have hown1:L9 (jo m n (.arr blk off (xs.length+ys.length) cap md.size) (Ox++Oy).flatten) n (.barrs md (xs++ys) none)=blk::(Ox++Oy).flatten:=by simp[L9]
   have R' :Rel X Z (Z+CB) (upd S2 (U8+n) (.barrs md (xs++ys) none)) (jo m n (.arr blk off (xs.length+ys.length) cap md.size) (Ox++Oy).flatten) ok2 a (w.setRow blk (Z8 (off+xs.length*md.size) es c.toList).toArray):=by
    refine R2.lay hn g1 (by show n<Z+1000000;change n+64<=Z+1000000 at g2;omega) A8 rfl rfl rfl A8 (λb _ hne=>hoth b (λe=>hne (by rw[hown1,e];simp))) (by rw[hown1];exact V9.2 ⟨λh=>hblk blk h rfl,hnd3⟩) (λb hbb=>?_) ⟨hel,_,Ox++Oy,X8 _ _ _ _,?_,A8⟩
    .rw[hown1]at hbb;obtain⟨q1,q2,q3,q4⟩:=T2.free b (by
      rcases C9.1 hbb with rfl|h
      .simp[Loc.blks]
      .exact hT3 b h)
     exact⟨q1,by simpa using q2,q3,q4⟩
    .refine⟨?_,trivial⟩;have:=rO.arrs (h:=(w.setRow blk (Z8 (off+xs.length*md.size) es c.toList).toArray).heap) (ok:=ok2) (cs:=((c.toList.drop off).take (xs.length*md.size))++es) (cap:=cap) (off:=off) ((r1.append ry).mono (λ_ _ h=>h) (λb t hb=>hoth b (λe=>q1 t (e▸hb))) (λb hb=>hoth b (hblk b hb))) (setRow_heap w blk c _ T (0,0) hb) (by rw[N8];exact hroom) (by rw[X5,hsp];exact hfit) ?_
     .rw[N8]at this;exact this
     .simp only[N8,H8];rw[Jm (n:=xs.length*md.size+ys.length*md.size) o5 o5];unfold Z8;have hd:((c.toList.drop off).take (xs.length*md.size+ys.length*md.size)).drop (xs.length*md.size+es.length)=[]:=aV (by rw[aT,fB];omega);rw[dN,bn (iq _ _),hd,G6]
   refine mX H R' (λk l h=>?_) k12 ⟨_,X8 _ _ _ _,rfl⟩ (run _ _ (by rw[h2]at hrun;exact hrun));by_cases ek:k=n
   .subst ek;have:=R2.fresh k g1 hn;rw[this]at h;cases h
   .rw[fU _ _ _ ek];exact h
  .exact fresh hvx o5
theorem TC{w:World}{t t' ty e:TypeId}{i:TypeInfo}(ht:P.underlying t=some (.slice e))(hs:P.underlying t' =some .string)(hi:P.info? e=some i){s:Value}{b:ByteArray} :
  (Builtin.append_ #[t,t'] ty #[s,.string b]).run P w=(Builtin.append_ #[t,t] ty #[s,.string b]).run P w:=by
 cases s<;>simp[Builtin.append_,run_underlying ht,run_underlying hs,sizeOf,typeInfo,hi]
theorem QN(H:FxOk X)(R:Rel X (CB*q) (CB*q+CB) S m ok a w){p:Operand}{x:V}{j:TI}(ht:u.isEnt=false)(hu:X.P.underlying t=some (.slice e))(h1:X.P.info? e=some inf)(h2:inf.size=u.size)(h4:inf.bytes<=65536)
  (h5:inf.zero=some z) (hz:z.cells.size=u.size) (hx:iI ⟨w.heap,ok,m⟩ x (a.eval p)) {ys:List u.den} {v:Value} {es:c2h} (hv:zl w.heap u.size v ys.length es) (r2:bI w.heap ok u ys es)
  (run:∀r w',(Builtin.append_ #[t,t] o.type #[a.eval p,v]).run X.P w= .ok r w' ->(execOp a.eval o).run X.P w= .ok (.value r) w'):
  (Qq (J5 q o.dst) u x ys λv=>bJ X.E o.dst v).post S (λ_ S' =>eX X (CB*q) (CB*q+CB) o a w m ok S'):=by
 unfold Qq;split<;>try trivial
 ·
  refine bF λzs hzs=>?_;obtain⟨hmax,rfl⟩:=NL hzs;have hx' :a.eval p= .slice none 0 0:=hx;simp only[F6];exact Jr H R ht hu h1 h2 h4 h5 hz hx' hv r2 (by simpa using hmax) run
 .rename_i bx vw;obtain⟨loc,hm,hview⟩:=hx;refine V5 ?_;split<;>try trivial
  rename_i u' xs hS;refine dw λeu=>?_;subst eu;refine bF λzs hzs=>cu ?_;obtain⟨hmax,rfl⟩:=NL hzs;obtain⟨loc',hm',ha⟩:=R.own_arr hS;simp only at hm;rw[hm]at hm';cases hm';have R1:=R.kill bx;obtain⟨a1,a2,a3⟩:=EF ha hview;generalize hl2:FX loc vw=l2 at*;generalize fV vw xs=xs' at*;cases l2 with
  |st b=>cases a1|mp b=>exact absurd a1.1 (by simp[ht])|nil=>obtain⟨a1,_⟩:=a1;subst a1;simp only[Loc.view]at a2;simp only[F6];exact Jr H R1 ht hu h1 h2 h4 h5 hz a2 hv r2 (by simpa using hmax) run
  |arr blk off len cap sz=>
   obtain⟨c,T,f,hb,hfz,rfl,rfl,hcap,hfit,r1⟩:=Nu a1;simp only[Loc.view]at a2;simp only at hb r1;by_cases hroom:xs'.length+ys.length<=cap
   ·
    have hrun:=JI (P:=X.P) (w:=w) (t:=t) (ty:=o.type) (off:=off) (cap:=cap) hu h1 hb hfz.of (v:=v) (n:=ys.length) (es:=es) (by rw[h2];exact hv) r2.one_cell hroom (by rw[h2];exact hfit);rw[←a2]at hrun;have hown:L9 m bx (S (U8+bx))=[blk]:=by
     cases loc with
     |nil=>simp[Loc.blks]at a3|st _=>cases ha|mp b=>exact absurd ha.1 (by simp[ht])|arr b2 _ _ _ _=>simp[Loc.blks]at a3;simp[L9,hS,hm,a3]
    obtain⟨s1,s2,s3⟩:=R.sep bx blk (by rw[hown];simp);have hle:(xs'.length+ys.length)*u'.size<=cap*u'.size:=F8 _ hroom;rw[H8]at hle;have hel:=hv.1;have hcl:c.toList.length=c.size:=rfl;have hsp:(Z8 (off+xs'.length*u'.size) es c.toList).length=c.size:=by rw[qx o5];rfl
    refine AY H λn e1 g1 g2 hn=>?_;rw[←e1];clear e1;generalize CB*q=Z at*;have hkeep:∀b t,ok b t->(w.setRow blk (Z8 (off+xs'.length*u'.size) es c.toList).toArray).heap[b]? =w.heap[b]?:=λb t hb=>setRow_other w blk b _ (λe=>s1 t (e▸hb));have R' :Rel X Z (Z+CB) (upd (upd S (U8+bx) .dead) (U8+n) (.barr u' (xs' ++ys))) (jo m n (.arr blk off (xs'.length+ys.length) cap u'.size) []) ok a (w.setRow blk (Z8 (off+xs'.length*u'.size) es c.toList).toArray):=by
     refine R1.lay hn g1 (by show n<Z+1000000;change n+64<=Z+1000000 at g2;omega) A8 rfl rfl rfl A8 (λb _ hne=>?_) (by simp[L9]) (λb hbb=>?_) ⟨_,X8 _ _ _ _,?_⟩
     .refine setRow_other w blk b _ (λe=>hne ?_);subst e;simp[L9]
     .simp[L9]at hbb;subst hbb;refine⟨s1,by simpa using s2,s3,λk e=>?_⟩;obtain⟨k1,k2⟩:=vP rfl e;exact k1 (R.inj k bx b k2 (by rw[hown];simp))
     .rw[←N8];refine bI.arrOk ht (cs:=((c.toList.drop off).take (xs'.length*u'.size))++es) ((r1.append r2).mono (λ_ _ h=>h) hkeep) (setRow_heap w blk c _ T f hb) (by rw[X5,hsp];exact hfz) (by rw[N8];exact hroom) (by rw[X5,hsp];exact hfit) ?_;simp only[N8,H8];rw[Jm (n:=xs'.length*u'.size+ys.length*u'.size) o5 o5];unfold Z8;have hd:((c.toList.drop off).take (xs'.length*u'.size+ys.length*u'.size)).drop (xs'.length*u'.size+es.length)=[]:=aV (by rw[aT,fB];omega);rw[dN,bn (iq _ _),hd,G6]
    refine mX H R' (λk l h=>?_) (λ_ _ h=>h) ⟨_,X8 _ _ _ _,rfl⟩ (run _ _ (by rw[h2]at hrun;exact hrun))
    .by_cases ek:k=n
     .subst ek;have:=R1.fresh k g1 hn;rw[this]at h;cases h
     .rw[fU _ _ _ ek];exact h
   .obtain⟨olds,q1,q2⟩:=TZ (C:=⟨w.heap,ok,m⟩) ht a1 a2;exact Jq (j:=j) H R1 ht hu h1 h2 h4 h5 hz a2 q1 hv q2 r2 o5 hmax run
theorem a1S(H:FxOk X)(R:Rel X (CB*q) (CB*q+CB) S m ok a w){c:Call}(ho:o.op= .call c)(hc:c.callee= .builtin .append):(aG X.E q o).post S (λ_ S' =>eX X (CB*q) (CB*q+CB) o a w m ok S'):=by
 obtain⟨cal,args,ats⟩:=c;simp only at hc;subst hc;unfold aG;simp only[ho];refine jh R _ λvs hvs=>?_;split<;>try trivial
 rename_i t t' x y hat
 obtain⟨u1,r,he,hx,u2,r',he',hy,hr⟩:=hvs;simp only[dX]at hr;subst hr;rw[he']at he;obtain⟨p,p',rfl,rfl,rfl⟩:=RZ he;cases htt:Nat.beq t t'
 ·
  simp only[cond_false];split<;>try trivial
  rename_i l;refine gB H λi hi=>?_;have hd:=hi.td;split<;>try trivial
  rename_i htd;rw[htd]at hd;unfold a0s;split<;>try trivial
  rename_i e het;obtain⟨j,z,inf,hu,hj,h1,h2,h3,h4,h5,h6⟩:=qU H het;have hz:z.cells.size=(Ty.int IntKind.u8).size:=by have:=bY h6;simpa using this
  split<;>try trivial
  have hats:ats=#[t,t']:=by
   obtain⟨l⟩:=ats;simp only at hat
   rw[hat]
  have hs:a.eval p' = .string ⟨l.toArray⟩:=hy;refine QN (j:=j) H R (AB het) hu h1 h2 h4 h5 hz hx (v:=.string ⟨l.toArray⟩) (es:=Lib.strCells ⟨l.toArray⟩) ?_ ?_ ?_
  .refine⟨?_,.inr (.inr ⟨_,rfl,?_,rfl⟩)⟩
   .rw[Lib.strCells_length];simp[Ur,Ty.size,ByteArray.size]
   .simp[Ur,ByteArray.size]
  .refine⟨by rw[Lib.strCells_length];simp[Ur,Ty.size,ByteArray.size],λi x hi=>?_⟩;show(((Lib.strCells ⟨l.toArray⟩).drop (i*1)).take 1)=[.int .u8 x];have hl:l[i]?.map (λc=>(c.toNat:Int))=some x:=by simpa[Ur,dF]using hi
   obtain⟨c,hc,rfl⟩:=bK.1 hl;have h7:(Lib.strCells ⟨l.toArray⟩)[i]? =some (.int .u8 c.toNat):=by simp[Lib.strCells,hc]
   obtain⟨g1,g2⟩:=aF.1 h7;rw[aK,aW g1,g2];rfl
  .intro r w' h;rw[←TC hu hd h1]at h;simp[execOp,ho,resolve,invoke,builtin,hats,hs,h]
 simp only[cond_true];have htt' :=bQ htt;subst htt';have hats:ats=#[t,t]:=by
  obtain⟨l⟩:=ats;simp only at hat
  rw[hat]
 have run:∀(s v:Value),a.eval p=s->a.eval p' =v->∀r w',(Builtin.append_ #[t,t] o.type #[s,v]).run X.P w= .ok r w' ->(execOp a.eval o).run X.P w= .ok (.value r) w' :=λs v e1 e2 r w' h=>by subst e1;subst e2;simp[execOp,ho,resolve,invoke,builtin,hats,h]
 unfold a0r;split
 .trivial
 rename_i e u het;obtain⟨j,z,inf,hu,hj,h1,h2,h3,h4,h5,h6⟩:=qU H het;have hz:z.cells.size=u.size:=by have:=bY h6;simpa using this
 split
 rotate_left
 .rename_i md hom;refine V7 λhms=>?_;have hms:=bQ hms;exact Zj (j:=j) H R hu h1 (by rw[h2,hms]) h4 h5 (by rw[hz,hms]) hx hy (run _ _ rfl rfl)
 have ht:=AB het;refine JM R ht hy λys es hv r2=>?_;exact QN (j:=j) H R ht hu h1 h2 h4 h5 hz hx hv r2 (run _ _ rfl rfl)
theorem TR{α:Type}{Q:α->Sm->Prop}{S:Sm}{C:Cx}{u:Ty}(hf:u.flat=true):∀(n:Nat) {cs:List V} {vs:c2h} {K:List u.den->Cmd α},dD C cs vs->
  (∀xs,xs.length=n->bI C.h C.ok u xs vs->(K xs).post S Q)->(YZ u n cs K).post S Q
 |0,cs,vs,K,hL,hK=>by
  unfold YZ;cases cs with
  |nil=>simp only[dD]at hL;subst hL;exact hK [] rfl bI.nil|cons _ _=>trivial
 |n+1,cs,vs,K,hL,hK=>by unfold YZ;refine CY u hf hL λx r us us' e hr hL' =>?_;refine TR hf n hL' λxs hl hxs=>?_;subst e;exact hK (x::xs) (by simp[hl]) ((bI.one (hr C.h C.ok)).append hxs)
theorem a3v(H:FxOk X)(R:Rel X (CB*q) (CB*q+CB) S m ok a w){lo hi:Option Operand}(ho:o.op= .slice t x lo hi none):(aG X.E q o).post S (λ_ S' =>eX X (CB*q) (CB*q+CB) o a w m ok S'):=by
 refine a1X H R ho λbx hlo hhi hx=>?_;subst hlo;subst hhi;obtain⟨blk,hm,hx⟩:=hx;unfold TG;refine gB H λi hi=>?_;have htd:=hi.td;split<;>try trivial
 rename_i n e hd;rw[hd]at htd;have hut:X.P.underlying t=some (.array n e):=htd;refine gB H λj hj=>?_;split<;>try trivial
 rename_i u hju;refine V7 λhf=>V5 ?_;split<;>try trivial
 rename_i cs hS;obtain⟨blk',arr,T,hm',hh,hl⟩:=R.own_cells hS;simp only at hm;rw[hm]at hm';cases hm';refine TR (C:=⟨w.heap,ok,m⟩) hf n hl λxs hlen hr=>cu ?_;have hjz:u.size=j.size:=by obtain⟨inf,_,_,_,_,hty⟩:=hj.info;exact(hty u hju).1
 have ht:u.isEnt=false:=by cases u<;>first|rfl|(cases hf;done)
 have hown:L9 m bx (S (U8+bx))=[blk]:=by simp[L9,hS,hm]
 obtain⟨s1,s2,s3⟩:=R.sep bx blk (by rw[hown];simp);have R1:=R.kill bx;refine AY H λnn e1 g1 g2 hn=>?_;rw[←e1];clear e1;generalize CB*q=Z at*;have hsz:arr.toList.length=xs.length*u.size:=hr.1;have R' :Rel X Z (Z+CB) (upd (upd S (U8+bx) .dead) (U8+nn) (.barr u xs)) (jo m nn (.arr blk 0 xs.length xs.length u.size) []) ok a w:=by
  refine R1.lay hn g1 (by show nn<Z+1000000;change nn+64<=Z+1000000 at g2;omega) A8 rfl rfl rfl (D9 _) (λ_ _ _=>rfl) (by simp[L9]) (λb hbb=>?_) ⟨_,X8 _ _ _ _,?_⟩
  .simp[L9]at hbb;subst hbb;refine⟨s1,s2,s3,λk e=>?_⟩;obtain⟨k1,k2⟩:=vP rfl e;exact k1 (R.inj k bx b k2 (by rw[hown];simp))
  .refine bI.arrOk ht (C:=⟨w.heap,ok,jo m nn (.arr blk 0 xs.length xs.length u.size) []⟩) (cs:=arr.toList) hr hh (.inl rfl) (D9 _) (by rw[←hsz];simp) ?_;simp only[jl];exact U2 (by rw[hsz];exact D9 _)
 refine mX H R' (λk l h=>?_) (λ_ _ h=>h) (x:=.slice (some ⟨blk,0,none⟩) n n) ⟨_,X8 _ _ _ _,by rw[hlen];rfl⟩ ?_
 .by_cases ek:k=nn
  .subst ek;have:=R1.fresh k g1 hn;rw[this]at h;cases h
  .rw[fU _ _ _ ek];exact h
 .have hb:=Bl (P:=X.P) (w:=w) (isS:=false) (len:=n) (cap:=n) (lo:=none) (hi:=none) (x:=0) (y:=n) (.inl ⟨rfl,rfl⟩) (.inl ⟨rfl,rfl⟩) o5 o5 o5 (D9 _);simp[execOp,ho,hx,Instr.sliceAt,run_underlying hut,Instr.sureAddr,hb,mO hj,dW]
theorem Bo{w:World}{sz n k:Nat}(h:zl w.heap sz v n es)(hk:k<=n)(hs:∀b,v≠.string b):(Builtin.firstCells sz k v).run P w= .ok (es.take (k*sz)).toArray w:=by
 obtain⟨hl,h⟩:=h;rcases h with⟨rfl,ad,cap,rfl⟩|⟨blk,off,cap,rfl,hn,hc⟩|⟨b,rfl,_,_⟩
 .have hk0:k=0:=o5;subst hk0;have:es=[]:=af.1 (by simpa using hl);subst this;cases ad with
  |none=>simp[Builtin.firstCells]|some b=>have:=run_loadCells_list (P:=P) w b [] (λj v h=>by simp at h);simp[Builtin.firstCells];simpa using this
 .have hle:k*sz<=n*sz:=F8 _ hk;refine run_firstCells_some w sz k _ _ cap (es.take (k*sz)) (by rw[aT,hl,bn hle]) λj u hu=>?_;rw[dW];have hu' :es[j]? =some u:=by
   rw[U1]at hu;split at hu
   .exact hu
   .cases hu
  exact qg (w:=w) hc hu'
 .exact absurd rfl (hs b)
theorem a7h{b:ByteArray}(h:iI C y (.string b))(u:Ty)(K:List u.den->Cmd α):Yq u y K= .fail:=by
 cases y<;>try rfl
 case nl=>cases (show Value.string b= .slice none 0 0 from h)
 case ne z=>obtain⟨_,_,e,_⟩:=(show ∃a c,Value.string b= .slice a 0 c/\a.isNone=z from h);cases e
 case sl t xs=>
  rcases(show iY C.h C.ok (.sl t) xs [.string b]from h)with⟨_,a,cap,e,_⟩|⟨_,mv,e,_⟩
  .cases (N9 e).1
  .cases (N9 e).1
 case own bx vw=>
  obtain⟨loc,_,hv⟩:=(show ∃loc,C.m bx=some loc/\loc.view vw (.string b)from h);cases loc<;>rcases vw with _|⟨lo,hi⟩<;>simp only[Loc.view]at hv
  .cases hv
  .cases hv.2.2
  .cases hv
  .cases hv.2.2
  .cases hv
theorem a6Y(H:FxOk X)(R:Rel X (CB*q) (CB*q+CB) S m ok a w){c:Call}(ho:o.op= .call c)(hc:c.callee= .builtin .copy):(aG X.E q o).post S (λ_ S' =>eX X (CB*q) (CB*q+CB) o a w m ok S'):=by
 obtain⟨cal,args,ats⟩:=c;simp only at hc;subst hc;unfold aG;simp only[ho];refine jh R _ λvs hvs=>?_;split<;>try trivial
 rename_i t t' x y hat
 obtain⟨u1,r,he,hx,u2,r',he',hy,hr⟩:=hvs;simp only[dX]at hr;subst hr;rw[he']at he;obtain⟨p,p',rfl,rfl,rfl⟩:=RZ he;refine V7 λhtt=>?_;have htt' :=bQ htt;subst htt';have hats:ats=#[t,t]:=by
  obtain⟨l⟩:=ats;simp only at hat
  rw[hat]
 unfold a8b;split
 .trivial
 rename_i e u het;obtain⟨j,z,inf,hu,hj,h1,h2,h3,h4,h5,h6⟩:=qU H het;split<;>try trivial
 have ht:=AB het;by_cases hns:∃b,a.eval p' = .string b
 .obtain⟨b,hb⟩:=hns;rw[hb]at hy;rw[a7h hy];trivial
 have hns:∀b,a.eval p' ≠.string b:=λb e=>hns ⟨b,e⟩;refine JM R ht hy λys es hv r2=>?_;split<;>try trivial
 rename_i bx;obtain⟨loc,hm,hview⟩:=hx;refine V5 ?_;split<;>try trivial
 rename_i u' xs hS;refine dw λeu=>?_;subst eu;refine cu ?_;obtain⟨loc',hm',ha⟩:=R.own_arr hS;simp only at hm;rw[hm]at hm';cases hm';have him:yH (o8 xs) (o8 ys)=((Nat.min ys.length xs.length:Nat):Int):=by unfold yH o8;split<;>simp only[Nat.min_def]<;>split<;>omega
 rw[him];cases loc with
 |st b=>cases ha|mp b=>exact absurd ha.1 (by simp[ht])|nil=>
  obtain⟨ha,_⟩:=ha;subst ha;have hx' :a.eval p= .slice none 0 0:=hview;have hf:=Bo (P:=X.P) (k:=0) (by rw[←h2]at hv;exact hv) (bT _) hns;have R' :Rel X (CB*q) (CB*q+CB) (upd S (U8+bx) (.barr u' (LH [] ys))) m ok a w:=
   R.mod (by rw[hS];simp[L9,hm]) A8 rfl rfl rfl rfl (λ_ _=>rfl) ⟨_,hm,by simp[LH],ht⟩
  refine mX H R' (λ_ _ h=>h) (λ_ _ h=>h) (x:=.int .i64 ((Nat.min ys.length 0:Nat):Int)) rfl ?_;simp[execOp,ho,resolve,invoke,builtin,hats,hx',Builtin.copy_,run_underlying hu,hv.lenOf,sizeOf,typeInfo,h1,hf,goInt]
 |arr blk off len cap sz=>
  obtain⟨c,T,f,hb,hfz,rfl,rfl,hcap,hfit,r1⟩:=Nu ha;have hx' :a.eval p= .slice (some ⟨blk,off,none⟩) xs.length cap:=hview;simp only at hb r1;generalize hk:Nat.min ys.length xs.length=k;have hk1:k<=ys.length:=by rw[←hk];exact Nat.min_le_left _ _
  have hk2:k<=xs.length:=by rw[←hk];exact Nat.min_le_right _ _
  have hf:=Bo (P:=X.P) (k:=k) (by rw[←h2]at hv;exact hv) hk1 hns;have hes:es.length=ys.length*u'.size:=hv.1;have hle1:k*u'.size<=ys.length*u'.size:=F8 _ hk1;have hle2:k*u'.size<=xs.length*u'.size:=F8 _ hk2;have hle3:xs.length*u'.size<=cap*u'.size:=F8 _ hcap;have htl:(es.take (k*u'.size)).length=k*u'.size:=by simp;omega
  have hcl:c.toList.length=c.size:=rfl;have hst:=tq (P:=X.P) blk off T (es.take (k*u'.size)) 0 c f w hb hfz.of (by rw[htl];omega) (λu hu=>r2.one_cell u (List.mem_of_mem_take hu));simp only[aj]at hst;have hsp:(Z8 off (es.take (k*u'.size)) c.toList).length=c.size:=by rw[qx (by rw[htl];omega)];rfl
  have hown:L9 m bx (S (U8+bx))=[blk]:=by simp[L9,hS,hm]
  have hkeep:∀b t,ok b t->(w.setRow blk (Z8 off (es.take (k*u'.size)) c.toList).toArray).heap[b]? =w.heap[b]?:=λb t hb=>setRow_other w blk b _ (λe=>(R.sep bx blk (by rw[hown];simp)).1 t (e▸hb));have hlc:(LH xs ys).length=xs.length:=by unfold LH;simp;omega
  have hlce:LH xs ys=ys.take k++xs.drop k:=by
   unfold LH;rcases Nat.le_total ys.length xs.length with h|h
   .have:k=ys.length:=by rw[←hk];exact bn h
    rw[this,U2 (D9 _),U2 h]
   .have:k=xs.length:=by rw[←hk];exact Nat.min_eq_right h
    rw[this,aV h,aV (D9 _)]
  have R' :Rel X (CB*q) (CB*q+CB) (upd S (U8+bx) (.barr u' (LH xs ys))) m ok a (w.setRow blk (Z8 off (es.take (k*u'.size)) c.toList).toArray):=by
   refine R.mod (by rw[hown];simp[L9,hm]) A8 rfl rfl rfl A8 (λb hb=>setRow_other w blk b _ (by rw[hown]at hb;simpa using hb)) ⟨_,hm,?_⟩;have:=bI.arrOk (C:=⟨(w.setRow blk (Z8 off (es.take (k*u'.size)) c.toList).toArray).heap,ok,m⟩) (xs:=LH xs ys) (cs:=((Z8 off (es.take (k*u'.size)) c.toList).drop off).take (xs.length*u'.size)) (blk:=blk) (off:=off) (cap:=cap) ht ?_ (setRow_heap w blk c _ T f hb) (by rw[X5,hsp];exact hfz) (by rw[hlc];exact hcap) (by rw[X5,hsp];exact hfit) (by rw[hlc])
   .rw[hlc]at this;exact this
   .refine bI.mono (h:=w.heap) (ok:=ok) (λ_ _ h=>h) hkeep ?_;have e1:=Jm (b:=off) (off:=0) (n:=xs.length*u'.size) (us:=es.take (k*u'.size)) (L:=c.toList) (by rw[hcl];omega) (by rw[htl];omega);rw[aj]at e1;rw[e1,hlce];unfold Z8;rw[List.take_zero,F6,bU,htl];refine bI.append ?_ ?_
    .refine⟨by rw[htl,aT,bn hk1],λi x hi=>?_⟩;have hik:i<k:=by have:=(aF.1 hi).1;simp at this;omega
     have hi' :ys[i]? =some x:=by rw[U1,if_pos hik]at hi;exact hi
     have h7:=r2.2 i x hi';have hle:(i+1)*u'.size<=k*u'.size:=F8 _ o5;rw[H8,ax]at hle;rw[eU,dN,bn o5];exact h7
    .refine⟨by have:=r1.1;simp only[fB,this,Nat.sub_mul],λi x hi=>?_⟩;rw[L6]at hi;have h7:=r1.2 (k+i) x hi;rw[H8]at h7;rw[V8];exact h7
  refine mX H R' (λ_ _ h=>h) (λ_ _ h=>h) (x:=.int .i64 (k:Int)) rfl ?_;rw[h2]at hf;have hrun:(Builtin.copy_ #[t,t] o.type #[.slice (some ⟨blk,off,none⟩) xs.length cap,a.eval p']).run X.P w= .ok (.int .i64 (k:Int)) (w.setRow blk (Z8 off (es.take (k*u'.size)) c.toList).toArray):=by simp only[Builtin.copy_,List.getElem?_toArray,aN,List.getElem?_cons_succ,E9,run_underlying hu,G5,hv.lenOf,hk,mO hj,h3,U0,hf,List.toList_toArray,hst,goInt,Z8]
  simp[execOp,ho,resolve,invoke,builtin,hats,hx',hrun]
theorem ZZ(H:FxOk X)(R:Rel X (CB*q) (CB*q+CB) S m ok a w){src t:TypeId}(ho:o.op= .convert src t x):
  (aG X.E q o).post S (λ_ S' =>eX X (CB*q) (CB*q+CB) o a w m ok S'):=by
 refine Yk H R ho λl hl hsrc=>?_;unfold a2L;split<;>try trivial
 rename_i e het;obtain⟨j,z,inf,hu,hj,h1,h2,h3,h4,h5,h6⟩:=qU H het;refine gB H λk hk=>?_;have hkd:=hk.td;split<;>try trivial
 rename_i hke;rw[hke]at hkd;have hrun:=run_bytes_of_string (P:=X.P) w src t e ⟨l.toArray⟩ hsrc hu hkd;have hsz:(⟨l.toArray⟩:ByteArray).size=l.length:=by simp[ByteArray.size]
 have hge:=grownCap_ge w (⟨l.toArray⟩:ByteArray).size 0 e;generalize hcap:grownCap w (⟨l.toArray⟩:ByteArray).size 0 e=cap at*;have hbs:(bytesRow ⟨l.toArray⟩ cap).size=cap:=by simp[bytesRow];omega
 have hll:(Ur l).length=l.length:=by simp[Ur]
 refine Jc H R (w1:=w.drew) (u:=.int .u8) (e:=e) (cap:=cap) (c:=bytesRow ⟨l.toArray⟩ cap) (cs:=Lib.strCells ⟨l.toArray⟩) (f:=((bytesRow ⟨l.toArray⟩ cap).size,(bytesRow ⟨l.toArray⟩ cap).size+1)) rfl rfl rfl rfl rfl ?_ ?_ ?_ ?_ (λ_ _ h=>h) (λ_ _ h=>h) (.inr ⟨rfl,rfl⟩) ?_
 .refine⟨by rw[Lib.strCells_length];simp[Ur,Ty.size,ByteArray.size],λi x hi=>?_⟩;show(((Lib.strCells ⟨l.toArray⟩).drop (i*1)).take 1)=[.int .u8 x];have hl:l[i]?.map (λc=>(c.toNat:Int))=some x:=by simpa[Ur,dF]using hi
  obtain⟨c,hc,rfl⟩:=bK.1 hl;have h7:(Lib.strCells ⟨l.toArray⟩)[i]? =some (.int .u8 c.toNat):=by simp[Lib.strCells,hc]
  obtain⟨g1,g2⟩:=aF.1 h7;rw[aK,aW g1,g2];rfl
 .omega
 .rw[hbs];simp[Ty.size]
 .rw[hll];have:(bytesRow ⟨l.toArray⟩ cap).toList=Lib.strCells ⟨l.toArray⟩++List.replicate (cap -l.length) (.int .u8 0):=by
   simp[bytesRow,Lib.strCells,hsz]
  rw[this,Y2 (by rw[Lib.strCells_length,hsz];simp[Ty.size])];exact U2 (by rw[Lib.strCells_length,hsz];simp[Ty.size])
 .simp only[execOp,ho,hl];rw[E9,hrun,hll,←hsz];rfl
end
def oL{α β:Type}(eq:α->α->Bool):List (α×β)->α->Option Nat
 |[],_=>none|p::r,k=>bif eq k p.1 then some 0 else(oL eq r k).map (·+1)
theorem KA{α β:Type}{eq:α->α->Bool} :∀{xs:List (α×β)} {k:α} {i:Nat},oL eq xs k=some i->∃p,xs[i]? =some p/\eq k p.1=true
 |[],_,_,h=>by cases h|p::r,k,i,h=>by
  unfold oL at h;cases he:eq k p.1<;>rw[he]at h
  .simp only[cond_false,bK]at h;obtain⟨j,h1,rfl⟩:=h;obtain⟨q,h2,h3⟩:=KA h1;exact⟨q,by simpa using h2,h3⟩
  .cases h;exact⟨p,rfl,he⟩
theorem SA{α β:Type}(eq:α->α->Bool):∀(xs:List (α×β)) (k:α) (z:β),a0R eq xs k z=(match oL eq xs k with|some i=>(match xs[i]? with|some p=>p.2|none=>z)|none=>z)
 |[],_,_=>rfl|p::r,k,z=>by
  unfold a0R oL;cases he:eq k p.1
  .simp only[cond_false];rw[SA eq r k z];cases oL eq r k<;>simp
  .rfl
variable {β:Type}
theorem a1I(eq:α->α->Bool):∀(xs:List (α×β)) (k:α) (z:β),a6Q eq xs k z=(match oL eq xs k with|some i=>(match xs[i]? with|some p=>p.2|none=>z)|none=>z):=
 SA eq
theorem SB{α β:Type}(eq:α->α->Bool):∀(xs:List (α×β)) (k:α),a0S eq xs k=(oL eq xs k).isSome
 |[],_=>rfl|p::r,k=>by
  unfold a0S oL;cases he:eq k p.1
  .simp only[cond_false];rw[SB eq r k];cases oL eq r k<;>simp
  .rfl
theorem a1J(eq:α->α->Bool):∀(xs:List (α×β)) (k:α),a6R eq xs k=(oL eq xs k).isSome:=
 SB eq
theorem SE{α β:Type}(eq:α->α->Bool):∀(xs:List (α×β)) (k:α) (x:β),a0U eq xs k x=(match oL eq xs k with|some i=>xs.set i (k,x)|none=>xs++[(k,x)])
 |[],_,_=>rfl|p::r,k,x=>by
  unfold a0U oL;cases he:eq k p.1
  .simp only[cond_false];rw[SE eq r k x];cases oL eq r k<;>simp
  .rfl
theorem Vp(eq:α->α->Bool):∀(xs:List (α×β)) (k:α) (x:β),a1K eq xs k x=(match oL eq xs k with|some i=>xs.set i (k,x)|none=>xs++[(k,x)]):=
 SE eq
theorem Qu:∀{k:Ty} (hf:k.flat=true) (a b:k.den),keq k a b=true↔a=b
 | .bool,_,a,b=>by cases a<;>cases b<;>simp[keq,Ak]| .int _,_,a,b=>by simp[keq,x9]| .str,_,a,b=>by simp[keq,seq]| .unit,_,a,b=>⟨λ_=>rfl,λ_=>rfl⟩| .prod p q,hf,a,b=>by simp only[Ty.flat,o9]at hf;simp only[keq,eY,o9,Qu hf.1,Qu hf.2];exact⟨λh=>um h.1 h.2,λh=>by subst h;exact⟨rfl,rfl⟩⟩| .sl _,hf,_,_=>by cases hf| .ent ..,hf,_,_=>by cases hf
theorem Qz{h h' :Array Obj}{ok ok' :Nat->Ty->Prop} :∀{t:Ty} (hf:t.flat=true) {x:t.den} {c d:c2h},iY h ok t x c->iY h' ok' t x d->c=d
 | .bool,_,_,_,_,h1,h2=>by simp only[iY]at h1 h2;rw[h1,h2]| .int _,_,_,_,_,h1,h2=>by simp only[iY]at h1 h2;rw[h1,h2]| .str,_,_,_,_,h1,h2=>by simp only[iY]at h1 h2;rw[h1,h2]| .unit,_,_,_,_,h1,h2=>by simp only[iY]at h1 h2;rw[h1,h2]| .prod p q,hf,_,_,_,h1,h2=>by simp only[Ty.flat,o9]at hf;obtain⟨a,b,rfl,a1,a2⟩:=h1;obtain⟨a',b',rfl,b1,b2⟩:=h2;rw[Qz hf.1 a1 b1,Qz hf.2 a2 b2]
 | .sl _,hf,_,_,_,_,_=>by cases hf| .ent ..,hf,_,_,_,_,_=>by cases hf
theorem WM{h h' :Array Obj}{ok ok' :Nat->Ty->Prop} :∀{t:Ty} (hf:t.flat=true) {x y:t.den} {c:c2h},iY h ok t x c->iY h' ok' t y c->x=y
 | .bool,_,_,_,_,h1,h2=>by simp only[iY]at h1 h2;rw[h1]at h2;simpa using h2| .int _,_,_,_,_,h1,h2=>by simp only[iY]at h1 h2;rw[h1]at h2;simpa using h2
 | .str,_,_,_,_,h1,h2=>by simp only[iY]at h1 h2;rw[h1]at h2;injection h2 with h2 _;injection h2 with h2;injection h2 with h2;have:=congrArg Array.toList h2;simpa using this
 | .unit,_,_,_,_,_,_=>rfl| .prod p q,hf,_,_,_,h1,h2=>by simp only[Ty.flat,o9]at hf;obtain⟨a,b,rfl,a1,a2⟩:=h1;obtain⟨a',b',e,b1,b2⟩:=h2;obtain⟨rfl,rfl⟩:=List.append_inj e ((bY a1).trans (bY b1).symm);exact um (WM hf.1 a1 b1) (WM hf.2 a2 b2)
 | .sl _,hf,_,_,_,_,_=>by cases hf| .ent ..,hf,_,_,_,_,_=>by cases hf
theorem Oh{h:Array Obj}{ok:Nat->Ty->Prop} :∀{k:Ty} (hf:k.flat=true) {x:k.den} {c:c2h},iY h ok k x c->∀{sh:List Ty} {d:c2h},gI sh d->gI (k.leaves++sh) (c++d)
 | .bool,_,x,_,h1,_,_,hd=>by simp only[iY]at h1;subst h1;exact⟨_,_,rfl,hd⟩| .int _,_,x,_,h1,_,_,hd=>by simp only[iY]at h1;subst h1;exact⟨_,_,rfl,hd⟩| .str,_,x,_,h1,_,_,hd=>by simp only[iY]at h1;subst h1;exact⟨_,_,rfl,hd⟩| .unit,_,x,_,h1,_,_,hd=>by simp only[iY]at h1;subst h1;exact hd| .prod p q,hf,_,_,h1,_,_,hd=>by simp only[Ty.flat,o9]at hf;obtain⟨a,b,rfl,a1,a2⟩:=h1;simp only[Ty.leaves,G7];exact Oh hf.1 a1 (Oh hf.2 a2 hd)
 | .sl _,hf,_,_,_,_,_,_=>by cases hf| .ent ..,hf,_,_,_,_,_,_=>by cases hf
theorem VC:∀{a b:List Ty},Ol a b=true->a=b
 |[],[],_=>rfl|[],_::_,h=>by cases h|_::_,[],h=>by cases h|a::r,b::q,h=>by
  unfold Ol at h;cases hb:Ty.beq a b<;>rw[hb]at h
  .cases h
  .rw[Ty.beq_eq hb,VC (show Ol r q=true from h)]
def yx(ag:Bool)(k:Ty)(x:k.den)(kv:Value):Prop:=gok ag kv/\iY #[] (λ_ _=>False) k x (oC ag kv)
variable {ag:Bool}
theorem ZJ{u v:Value}(hu:gok ag u)(hv:gok ag v)(h:oC ag u=oC ag v):u=v:=by
 cases ag
 .simpa[oC]using h
 .obtain⟨a,rfl⟩:=hu;obtain⟨b,rfl⟩:=hv;have:a.toList=b.toList:=h;rw[Array.toList_inj.1 this]
variable {k:Ty}
theorem yx.det(hf:k.flat=true){x:k.den}{u v:Value}(h1:yx ag k x u)(h2:yx ag k x v):u=v:=
 ZJ h1.1 h2.1 (Qz hf h1.2 h2.2)
theorem JJ:∀(v:Value),(∃b,v= .bool b)\/(∃k n,v= .int k n)\/(∃s,v= .string s)->∀n,Instr.sameBits n v v=true:=by rintro v (⟨b,rfl⟩|⟨k,n,rfl⟩|⟨s,rfl⟩) m<;>simp[Instr.sameBits,MapKept.bytes_beq]
theorem Og{h:Array Obj}{ok:Nat->Ty->Prop} :∀{k:Ty} (hf:k.flat=true) {x:k.den} {c:c2h},iY h ok k x c->∀v∈c,(∃b,v= .bool b)\/(∃k n,v= .int k n)\/(∃s,v= .string s)
 | .bool,_,x,_,h1,v,hv=>by simp only[iY]at h1;subst h1;simp at hv;exact .inl ⟨_,hv⟩| .int _,_,x,_,h1,v,hv=>by simp only[iY]at h1;subst h1;simp at hv;exact .inr (.inl ⟨_,_,hv⟩)| .str,_,x,_,h1,v,hv=>by simp only[iY]at h1;subst h1;simp at hv;exact .inr (.inr ⟨_,hv⟩)| .unit,_,x,_,h1,v,hv=>by simp only[iY]at h1;subst h1;cases hv| .prod p q,hf,_,_,h1,v,hv=>by
  simp only[Ty.flat,o9]at hf;obtain⟨a,b,rfl,a1,a2⟩:=h1;rcases H5.1 hv with hv|hv
  .exact Og hf.1 a1 v hv
  .exact Og hf.2 a2 v hv
 | .sl _,hf,_,_,_,_,_=>by cases hf| .ent ..,hf,_,_,_,_,_=>by cases hf
theorem yx.stays{w:World}(hf:k.flat=true){x:k.den}(h:yx ag k x v):(Instr.keyThatStays v v).run P w= .ok v w:=by
 have hs:Instr.sameBits 10000 v v=true:=by
  have hc:=Og hf h.2;cases ag
  .exact JJ v (hc v (by simp[oC])) _
  .obtain⟨arr,rfl⟩:=h.1;show Instr.sameBits (9999+1) (.agg arr) (.agg arr)=true;simp only[Instr.sameBits,beq_self_eq_true,jH,ik];intro p hp;obtain⟨i,hi,e⟩:=Y5 hp;rw[List.getElem_zip]at e;rw[←e];exact JJ _ (hc _ (L8 _)) _
 simp[Instr.keyThatStays,hs]
variable {M:MT}
section
variable {X:Fx} {cl ch:Nat} {S:Sm} {m:Mp} {ok:Nat->Ty->Prop} {a:Act} {w:World} {T:c2i} {o:Oper}
theorem XU(H:FxOk X){ke:Nat}{i:TI}(hi:TiOk X.P ke i)(hk:XQ X.E ke i.td k=true)(hf:k.flat=true){x:k.den}{u:Value}(hu:yx (aB i.td) k x u)(w:World):
  (∀em,(Instr.checkKey em 10000 ke u).run X.P w= .ok () w)/\
  ∀{β:Type} (es:List MapEntry) (xs:List (k.den×β)),es.length=xs.length->(∀(j:Nat) (p:k.den×β),xs[j]? =some p->∃e:MapEntry,es[j]? =some e/\yx (aB i.td) k p.1 e.key)->
   (Instr.findKey ke u es).run X.P w= .ok ((oL (keq k) xs x).bind λj=>(es[j]?).map λe=>(j,e.val)) w:=by
 have htd:=hi.td;have scal:∀d,X.P.underlying ke=some d->aB i.td=false->(∀y v,yx (aB i.td) k y v->Instr.sameNow d u v=some (keq k x y))->
   ∀{β:Type} (es:List MapEntry) (xs:List (k.den×β)),es.length=xs.length->(∀(j:Nat) (p:k.den×β),xs[j]? =some p->∃e:MapEntry,es[j]? =some e/\yx (aB i.td) k p.1 e.key)->
   (Instr.findKey ke u es).run X.P w= .ok ((oL (keq k) xs x).bind λj=>(es[j]?).map λe=>(j,e.val)) w:=by
  intro d hd _ hs β es xs hl he;refine MapKept.run_findKey hd ?_;have:∀(es:List MapEntry) (xs:List (k.den×β)) (n:Nat),es.length=xs.length->(∀(j:Nat) (p:k.den×β),xs[j]? =some p->∃e:MapEntry,es[j]? =some e/\yx (aB i.td) k p.1 e.key)->
    Instr.findNow d u es n=some ((oL (keq k) xs x).bind λj=>(es[j]?).map λe=>(n+j,e.val)):=by
   intro es;induction es with
   |nil=>
    intro xs n hl he;cases xs with
    |nil=>rfl|cons _ _=>cases hl
   |cons e es ih=>
    intro xs n hl he;cases xs with
    |nil=>cases hl|cons p xs=>
     obtain⟨e',h1,h2⟩:=he 0 p rfl;simp only[aN,F5]at h1;subst h1;unfold Instr.findNow oL;rw[hs _ _ h2];cases hq:keq k x p.1
     .simp only[cond_false];rw[ih xs (n+1) (by simpa using hl) (λj q hj=>by simpa using he (j+1) q (by simpa using hj))];cases oL (keq k) xs x with
      |none=>rfl|some j=>simp[dJ,Nat.add_comm 1 j]
     .simp
  simpa using this es xs 0 hl he
 have one:∀{v:Value} {y:k.den},aB i.td=false->yx (aB i.td) k y v->iY #[] (λ_ _=>False) k y [v]:=λha h=>by have:=h.2;rw[ha]at this;exact this
 unfold XQ at hk;split at hk
 .rename_i htd';rw[htd']at htd;have ha:aB i.td=false:=by rw[htd'];rfl
  have hu1:=one ha hu;simp only[iY,E8,and_true]at hu1;subst hu1;refine⟨λem=>mY htd (by simp[MapKept.IsKey]) em 9999,scal _ htd ha λy v hv=>?_⟩;have hv1:=one ha hv;simp only[iY,E8,and_true]at hv1;subst hv1;rfl
 .rename_i p q htd';have:=of_decide_eq_true hk;subst this;rw[htd']at htd;have ha:aB i.td=false:=by rw[htd'];rfl
  have hu1:=one ha hu;simp only[iY,E8,and_true]at hu1;subst hu1;refine⟨λem=>mY htd (by simp[MapKept.IsKey]) em 9999,scal _ htd ha λy v hv=>?_⟩;have hv1:=one ha hv;simp only[iY,E8,and_true]at hv1;subst hv1;simp[Instr.sameNow,keq,x9];rfl
 .rename_i htd';rw[htd']at htd;have ha:aB i.td=false:=by rw[htd'];rfl
  have hu1:=one ha hu;simp only[iY,E8,and_true]at hu1;subst hu1;refine⟨λem=>mY htd (by simp[MapKept.IsKey]) em 9999,scal _ htd ha λy v hv=>?_⟩;have hv1:=one ha hv;simp only[iY,E8,and_true]at hv1;subst hv1;simp only[Instr.sameNow,keq,seq,F5];rw[iQ];simp[MapKept.bytes_beq]
 .rename_i k _ _ fs htd';cases hkf:k.flat<;>rw[hkf]at hk
  .cases hk
  simp only[cond_true]at hk;cases hq:bf X.E.eqs ke with
  |none=>rw[hq]at hk;cases hk|some sh=>
  rw[hq]at hk;have hsh:=VC (show Ol sh k.leaves=true from hk);subst hsh;obtain⟨⟨fields,hund⟩,hks⟩:=(H.eqs ke _ hq).2;have ha:aB i.td=true:=by rw[htd'];rfl
  rw[ha]at hu;obtain⟨xs0,rfl⟩:=hu.1;have shp:∀{y:k.den} {arr:Array Value},yx true k y (.agg arr)->gI k.leaves arr.toList:=λ{y arr} h=>by have:=Oh hf (show iY #[] (λ_ _=>False) k y arr.toList from h.2) (sh:=[]) (d:=[]) rfl;simpa using this
  obtain⟨c1,c2⟩:=hks w xs0 (shp hu);refine⟨c1,λ{β} es xs hl he=>?_⟩;rw[run_findKey_eq w (by rw[hund])];rw[ha]at he;have:∀(es:List MapEntry) (xs:List (k.den×β)) (n:Nat),es.length=xs.length->(∀(j:Nat) (p:k.den×β),xs[j]? =some p->∃e:MapEntry,es[j]? =some e/\yx true k p.1 e.key)->
    (Instr.findAsking ke (.agg xs0) es n).run X.P w= .ok ((oL (keq k) xs x).bind λj=>(es[j]?).map λe=>(n+j,e.val)) w:=by
   intro es;induction es with
   |nil=>
    intro xs n hl he;cases xs with
    |nil=>rfl|cons _ _=>cases hl
   |cons e es ih=>
    intro xs n hl he;cases xs with
    |nil=>cases hl|cons p xs=>
     obtain⟨e',h1,h2⟩:=he 0 p rfl;simp only[aN,F5]at h1;subst h1;obtain⟨ys,hys⟩:=h2.1;rw[hys]at h2;obtain⟨r,hr,hre⟩:=c2 ys (shp h2);have hrq:r=keq k x p.1:=by
      rw[iQ,hre,Qu hf];constructor
      .intro h;have h3:=h2.2;rw[show oC true (Value.agg ys)=ys.toList from rfl,←h]at h3;exact WM hf hu.2 h3
      .intro h;have h3:=h2.2;rw[←h]at h3;exact Qz hf hu.2 h3
     subst hrq;unfold Instr.findAsking oL;simp only[hys,E9,hr,G5];cases hq:keq k x p.1
     .simp only[cond_false,dh,if_false];rw[ih xs (n+1) (by simpa using hl) (λj q hj=>by simpa using he (j+1) q (by simpa using hj))];cases oL (keq k) xs x with
      |none=>rfl|some j=>simp[dJ,Nat.add_comm 1 j]
     .simp
  simpa using this es xs 0 hl he
 .cases hk
theorem Kw(H:FxOk X){t:Nat}(h:LM X.E t=some M):X.P.underlying t=some (.map M.ke M.el)/\M.k.flat=true/\
  (∃i,TiOk X.P M.ke i/\XQ X.E M.ke i.td M.k=true/\M.ka=aB i.td)/\(∃j,TiOk X.P M.el j/\j.ty=some M.v/\M.va=aB j.td):=by
 unfold LM at h;split at h<;>try (cases h;done)
 rename_i i hi;split at h<;>try (cases h;done)
 rename_i ke el htd;split at h<;>try (cases h;done)
 rename_i p q hp hq;split at h<;>try (cases h;done)
 rename_i k v hk hv;cases hc:(XQ X.E ke p.td k&&k.flat)<;>rw[hc]at h
 .cases h
 .simp only[cond_true,F5]at h;subst h;simp only[o9]at hc;have h1:=(H.tt t i hi).td;rw[htd]at h1;exact⟨h1,hc.2,⟨p,H.tt _ p hp,hc.1,rfl⟩,⟨q,H.tt _ q hq,hv,rfl⟩⟩
theorem NC{t:Ty}{v:V}{x:Value}{K:t.den->Cmd α}(R:Rel X cl ch S m ok a w)(hT:Tk X S m ok w T)(hv:iI ⟨w.heap,ok,m⟩ v x)
  (hK:∀S' ok' y,Rel X cl ch S' m ok' a w->Tk X S' m ok' w T->(∀b t,ok b t->ok' b t)->ah S S' ->gok ag x->iY w.heap ok' t y (oC ag x)->(K y).post S' Q):
  (a2M ag t v K).post S Q:=by
 unfold a2M;refine yB hv λcs us hg hl=>?_;refine Ad t R hT hl λS1 ok1 y q us1 us' R1 T1 k1 s1 e1 h1 l1=>?_;cases q with
 |cons _ _=>trivial|nil=>
 simp only[dD]at l1;subst l1;simp only[G6]at e1;subst e1;have hgc:gok ag x/\oC ag x=us:=by
  cases ag
  .simp only[Ob]at hg;subst hg;exact⟨rH h1 x A8,rfl⟩
  .obtain⟨arr,rfl,rfl⟩:=hg;exact⟨⟨arr,rfl⟩,rfl⟩
 refine hK _ _ _ R1 T1 k1 s1 hgc.1 ?_;rw[hgc.2];exact h1
def GK(h:Array Obj)(ok:Nat->Ty->Prop)(t:Ty)(xs:List t.den)(v:Value):Prop:=
 ∃mv,v= .map mv/\(mv=none->xs=[])/\∀blk,mv=some blk->∃(es:Array MapEntry) (ck:Nat),h[blk]? =some (.map es ck)/\es.size=(xs:List t.den).length/\
  ∀(i:Nat) (x:t.den),(xs:List t.den)[i]? =some x->∃e:MapEntry,es[i]? =some e/\Le t e/\iY h ok t x (vZ t e)
theorem GK.of_rep{ok:Nat->Ty->Prop}{t:Ty}{xs:List t.den}(ht:t.isEnt=true)(hr:iY h ok (.sl t) xs [v]):GK h ok t xs v:=by obtain⟨mv,e,h1,h2⟩:=(m_ ht).1 hr;exact⟨mv,by simpa using e,h1,λblk hb=>(h2 blk hb).2⟩
theorem GK.of_arr{t:Ty}{xs:List t.den}(ht:t.isEnt=true)(ha:arrOk C t xs l)(hv:l.view none v):GK C.h C.ok t xs v:=by
 cases l with
 |nil=>have:=ha.2;rw[ht]at this;cases this|st b=>cases ha|arr blk off len cap sz=>have:=ha.1;rw[ht]at this;cases this|mp b=>simp only[Loc.view]at hv;subst hv;exact⟨_,rfl,(λh=>nomatch h),λblk hb=>by cases hb;exact ha.2⟩
theorem f_(R:Rel X cl ch S m ok a w)(hu:u.isEnt=true){v:V}{x:Value}{K:List u.den->Cmd α}(hv:iI ⟨w.heap,ok,m⟩ v x)
  (hK:∀xs,GK w.heap ok u xs x->(K xs).post S Q):(a3z u v K).post S Q:=by
 unfold a3z;split<;>try trivial
 .refine dw λe=>?_;subst e;exact hK _ (GK.of_rep hu hv)
 .rename_i bx;obtain⟨l,hm,hvw⟩:=hv;refine V5 ?_;split<;>try trivial
  .rename_i t xs hS;obtain⟨l',hm',ha⟩:=R.own_arr hS;simp only at hm;rw[hm]at hm';cases hm';refine dw λe=>?_;subst e;exact hK _ (GK.of_arr hu ha hvw)
  .rename_i t xs hS;obtain⟨l',hm',ha,_⟩:=R.own_frz hS;simp only at hm;rw[hm]at hm';cases hm';refine dw λe=>?_;subst e;exact hK _ (GK.of_arr hu ha hvw)
theorem IW{ok:Nat->Ty->Prop}{x:M.k.den×M.v.den}{e:MapEntry}(h1:Le M.ent e)(h2:iY h ok M.ent x (vZ M.ent e)):
  gok M.ka e.key/\gok M.va e.val/\iY h ok M.k x.1 (oC M.ka e.key)/\iY h ok M.v x.2 (oC M.va e.val):=by
 obtain⟨g1,g2,g3⟩:=h1;obtain⟨c,d,e1,r1,r2⟩:=h2;obtain⟨rfl,rfl⟩:=List.append_inj (show oC M.ka e.key++oC M.va e.val=c++d from e1) (g3.trans (bY r1).symm);exact⟨g1,g2,r1,r2⟩
theorem a2R{ok:Nat->Ty->Prop}{x:M.k.den}{y:M.v.den}{e:MapEntry}(g1:gok M.ka e.key)(g2:gok M.va e.val)(r1:iY h ok M.k x (oC M.ka e.key))(r2:iY h ok M.v y (oC M.va e.val)):
  Le M.ent e/\iY h ok M.ent (x,y) (vZ M.ent e):=⟨⟨g1,g2,bY r1⟩,_,_,rfl,r1,r2⟩
theorem WH{c:V}(h:pW C c v):Tj C c v:=by
 cases c<;>simp only[pW]at h<;>try exact h
 all_goals exact h.elim
theorem a4l{cs:List V}{us:c2h}{x:Value}(hg:Ob ag x us)(hl:dD C cs us):Tj C (mkV ag cs) x:=by
 cases ag
 .simp only[Ob]at hg;subst hg;cases cs with
  |nil=>simp[dD]at hl|cons c r=>
   obtain⟨v,r',e,h1,h2,h3⟩:=hl;simp at e;obtain⟨rfl,rfl⟩:=e;cases r with
   |nil=>exact WH h1|cons d r=>obtain⟨_,_,e,_⟩:=h3;cases e
 .obtain⟨arr,rfl,rfl⟩:=hg;exact⟨arr,rfl,hl⟩
theorem Yw(h:gok ag v):Ob ag v (oC ag v):=by
 cases ag
 .rfl
 .obtain⟨arr,rfl⟩:=h;exact⟨arr,rfl,rfl⟩
theorem Qm{w:World}{t ke el:TypeId}{mv:Option Nat}{es:Array MapEntry}{key z:Value}{ok:Bool}(hund:P.underlying t=some (.map ke el))
  (hes:mv=none/\es=#[]\/∃r ck,mv=some r/\w.heap[r]? =some (.map es ck)) (hck:∀em,(Instr.checkKey em 10000 ke key).run P w= .ok () w) {r:Option (Nat×Value)}
  (hfind:(Instr.findKey ke key es.toList).run P w= .ok r w) (hz:(zeroValue el).run P w= .ok z w):
  (Instr.lookup t (.map mv) key ok).run P w= .ok (if ok then .tuple #[(r.map (·.2)).getD z,.bool r.isSome]else(r.map (·.2)).getD z) w:=by
 rcases hes with⟨rfl,rfl⟩|⟨b,ck,rfl,hb⟩
 .simp only[Instr.lookup,E9,run_underlying hund,G5,U0,hck,hfind];cases r with
  |none=>cases ok<;>simp[hz]|some p=>cases ok<;>simp
 .simp only[Instr.lookup,E9,run_underlying hund,EU hb,G5,U0,hck,hfind];cases r with
  |none=>cases ok<;>simp[hz]|some p=>cases ok<;>simp
theorem a1W(H:FxOk X)(R:Rel X cl ch S m ok a w){x ix:Operand}{okk:Bool}(ho:o.op= .lookup t x ix okk):(aG X.E q o).post S (λ_ S' =>eX X cl ch o a w m ok S'):=by
 unfold aG;simp only[ho];refine Y9 R λu hu=>Y9 R λkv hk=>?_;unfold a0O;cases hM:LM X.E t with
 |none=>trivial|some M=>
 obtain⟨hund,hf,⟨i,hi,hko,hka⟩,⟨j,hj,hjt,hva⟩⟩:=Kw H hM;simp only[];refine NC (T:=[]) R Tk.nil hk λS1 ok1 key R1 T1 k1 s1 hg hr=>?_;refine f_ R1 rfl (Jh k1 hu) λxs hxs=>?_;obtain⟨mv,hx,hnil,hmap⟩:=hxs;have hkey:yx (aB i.td) M.k key (a.eval ix):=by rw[←hka];exact⟨hg,wR hf hr⟩
 obtain⟨c1,c2⟩:=XU H hi hko hf hkey w;obtain⟨inf,hinf,_,_,_,hzero⟩:=hj.info;obtain⟨_,z,hz,hzr⟩:=hzero _ hjt;have hzrun:(zeroValue M.el).run X.P w= .ok z w:=by simp[zeroValue,typeInfo,hinf,hz]
 have hzg:gok M.va z/\iY w.heap ok1 M.v M.v.zero (oC M.va z):=by
  have hr0:iY w.heap ok1 M.v M.v.zero z.cells.toList:=bZ (λ_ _ h=>h.elim) (λ_ _ h=>h.elim) hzr;have hag:=hj.agg inf z hinf hz;rw[←hva]at hag;cases hva' :M.va
  .have h1:=hag.2 hva';have hcz:z.cells.toList=[z]:=by cases z<;>first|rfl|cases h1
   rw[hcz]at hr0;exact⟨h1,hr0⟩
  .exact⟨hag.1 hva',hr0⟩
 have hE:∃es:Array MapEntry,(mv=none/\es=#[]\/∃r ck,mv=some r/\w.heap[r]? =some (.map es ck))/\es.size=xs.length/\
   ∀(i:Nat) (x:M.k.den×M.v.den),xs[i]? =some x->∃e:MapEntry,es[i]? =some e/\Le M.ent e/\iY w.heap ok1 M.ent x (vZ M.ent e):=by
  cases mv with
  |none=>have:=hnil rfl;subst this;exact⟨#[],.inl ⟨rfl,rfl⟩,rfl,λi x h=>by simp at h⟩|some blk=>obtain⟨es,ck,h1,h2,h3⟩:=hmap blk rfl;exact⟨es,.inr ⟨blk,ck,rfl,h1⟩,h2,h3⟩
 obtain⟨es,hes,hsz,hent⟩:=hE;have hfind:=c2 (β:=M.v.den) es.toList xs (by rw[Y4];exact hsz) (λj p hp=>by obtain⟨e,h1,h2,h3⟩:=hent j p hp;obtain⟨g1,g2,r1,r2⟩:=IW h2 h3;exact⟨e,by simpa using h1,by rw[←hka];exact⟨g1,wR hf r1⟩⟩)
 have run:=Qm (ok:=okk) hund hes c1 hfind hzrun;have hval:∃val,(((oL (keq M.k) xs key).bind λj=>(es.toList[j]?).map λe=>(j,e.val)).map (·.2)).getD z=val/\gok M.va val/\
   iY w.heap ok1 M.v (a6Q (keq M.k) xs key M.v.zero) (oC M.va val)/\(((oL (keq M.k) xs key).bind λj=>(es.toList[j]?).map λe=>(j,e.val))).isSome=a6R (keq M.k) xs key:=by
  rw[a1I,a1J];cases hfi:oL (keq M.k) xs key with
  |none=>exact⟨z,rfl,hzg.1,hzg.2,rfl⟩|some j=>
   obtain⟨p,hp,_⟩:=KA hfi;obtain⟨e,h1,h2,h3⟩:=hent j p hp;obtain⟨g1,g2,r1,r2⟩:=IW h2 h3;have h1' :es.toList[j]? =some e:=by simpa using h1
   refine⟨e.val,by rw[fC,h1'];rfl,g2,?_,by rw[fC,h1'];rfl⟩;simp only[hp];exact r2
 obtain⟨val,e1,g,r,e2⟩:=hval;rw[e1,e2]at run;have hrel:=Yw g;have hL:=lT (C:=⟨w.heap,ok1,m⟩) r;cases okk
 .simp only[cond_false];refine mX H R1 (λ_ _ h=>h) k1 (MM hrel hL) ?_;simp only[execOp,ho,hx,E9,run];rfl
 .simp only[cond_true];refine mX H R1 (λ_ _ h=>h) k1 (v:=.tup _) (x:=.tuple #[val,.bool (a6R (keq M.k) xs key)]) ⟨_,rfl,⟨_,_,rfl,a4l hrel hL,_,_,rfl,rfl,rfl⟩⟩ ?_;simp only[execOp,ho,hx,E9,run];rfl
theorem b_(H:FxOk X)(R:Rel X (CB*q) (CB*q+CB) S m ok a w){r:Option Operand}(ho:o.op= .makeMap t r):(aG X.E q o).post S (λ_ S' =>eX X (CB*q) (CB*q+CB) o a w m ok S'):=by
 have go:((Instr.makeMap t (r.map a.eval)).run X.P w= .ok (.map (some w.heap.size)) (w.alloc (.map #[] 0)))->
   (Hu X.E (J5 q o.dst) t λv=>bJ X.E o.dst v).post S (λ_ S' =>eX X (CB*q) (CB*q+CB) o a w m ok S'):=λrun=>by
  unfold Hu;cases hM:LM X.E t with
  |none=>trivial|some M=>
  refine Em (l:=.mp w.heap.size) (obj:=.map #[] 0) (x:=.map (some w.heap.size)) H R A8 (by simp[L9]) (λhn hc=>?_) ⟨.mp w.heap.size,A8,rfl⟩ ?_
  .exact⟨.mp w.heap.size,A8,rfl,#[],0,heap_alloc_new w _,rfl,λi x h=>by simp at h⟩
  .simp only[execOp,ho,E9,run];rfl
 unfold aG;simp only[ho];cases r with
 |none=>exact go (by simp[Instr.makeMap])|some hd=>
  refine Y9 R λv hv=>?_;split<;>try trivial
  rename_i k n;cases hM:LM X.E t with
  |none=>unfold Hu;rw[hM];trivial|some M=>
  refine go ?_;simp[Instr.makeMap,oV hv,run_underlying (Kw H hM).1,asInt,asIntOf]
theorem Mc(H:FxOk X)(R:Rel X cl ch S m ok a w){x ix y:Operand}(ho:o.op= .mapUpdate t x ix y\/o.op= .insert t x ix y):(aG X.E q o).post S (λ_ S' =>eX X cl ch o a w m ok S'):=by
 suffices h:((match o.dst with|none=>lQ x λm=>lQ ix λk=>lQ y λv=>Xk X.E t m k v|some _=> .fail:Cmd Unit)).post S (λ_ S' =>eX X cl ch o a w m ok S') by unfold aG;rcases ho with ho|ho<;>simp only[ho]<;>exact h
 cases hd:o.dst with
 |some _=>trivial|none=>
 refine Y9 R λu hu=>Y9 R λkv hk=>Y9 R λyv hy=>?_;unfold Xk;cases hM:LM X.E t with
 |none=>trivial|some M=>
 obtain⟨hund,hf,⟨i,hi,hko,hka⟩,⟨j,hj,hjt,hva⟩⟩:=Kw H hM;simp only[];refine NC (T:=[]) R Tk.nil hk λS1 ok1 key R1 T1 k1 s1 hg hr=>?_;refine NC R1 T1 (Jh k1 hy) λS2 ok2 z R2 T2 k2 s2 hg2 hr2=>?_;have hkey:yx (aB i.td) M.k key (a.eval ix):=by rw[←hka];exact⟨hg,wR hf hr⟩
 obtain⟨c1,c2⟩:=XU H hi hko hf hkey w;split<;>try trivial
 rename_i bx;obtain⟨l0,hm0,hvw⟩:=hu;simp only at hm0;refine V5 ?_;split<;>try trivial
 rename_i u xs hS;refine dw λe=>?_;subst e;refine cu ?_;obtain⟨l,hm,ha⟩:=R2.own_arr hS;rw[hm0]at hm;cases hm;cases l0 with
 |nil=>exact absurd ha.2 (by simp[MT.ent,Ty.isEnt])|st b=>cases ha|arr blk off len cap sz=>exact absurd ha.1 (by simp[MT.ent,Ty.isEnt])|mp blk=>
 simp only[Loc.view]at hvw;obtain⟨_,es,ck,hb,hsz,hent⟩:=ha;simp only at hb hent;have hown:L9 m bx (S2 (U8+bx))=[blk]:=by rw[hS];simp[L9,hm0]
 have hsep:=R2.sep bx blk (by rw[hown];simp);have hfind:=c2 (β:=M.v.den) es.toList xs (by rw[Y4];exact hsz) (λj p hp=>by obtain⟨e,h1,h2,h3⟩:=hent j p hp;obtain⟨g1,g2,r1,r2⟩:=IW h2 h3;exact⟨e,by simpa using h1,by rw[←hka];exact⟨g1,wR hf r1⟩⟩)
 have fin:∀(es' :Array MapEntry) (ck' :Nat) (xs' :List (M.k.den×M.v.den)),xs' =a1K (keq M.k) xs key z->
   (Instr.mapUpdate t (a.eval x) (a.eval ix) (a.eval y)).run X.P w= .ok () { w with heap:=w.heap.setIfInBounds blk (.map es' ck') }->es'.size=xs'.length->
   (∀(i:Nat) (x:M.k.den×M.v.den),xs'[i]? =some x->∃e:MapEntry,es'[i]? =some e/\Le M.ent e/\iY w.heap ok2 M.ent x (vZ M.ent e))->
   eX X cl ch o a w m ok (upd S2 (U8+bx) (.barr M.ent (a1K (keq M.k) xs key z))):=by
  intro es' ck' xs' hxs' run hsz' hent';subst hxs';obtain⟨q1,q2⟩:=MapKept.heap_set (o' :=.map es' ck') hb;have R3:Rel X cl ch (upd S2 (U8+bx) (.barr M.ent (a1K (keq M.k) xs key z))) m ok2 a { w with heap:=w.heap.setIfInBounds blk (.map es' ck') }:=by refine R2.mod (by rw[hown];simp[L9,hm0]) A8 rfl rfl rfl A8 (λb hb=>q2 b (by rw[hown]at hb;simpa using hb)) ?_;refine⟨.mp blk,hm0,rfl,es',ck',q1,hsz',λi x hx=>?_⟩;obtain⟨e,h1,h2,h3⟩:=hent' i x hx;exact⟨e,h1,h2,bZ (λ_ _ h=>h) (λb t hb=>q2 b (λe=>hsep.1 t (e▸hb))) h3⟩
  intro next Q hn
  unfold Oper.wp;have e:(execOp a.eval o).run X.P w= .ok .skip { w with heap:=w.heap.setIfInBounds blk (.map es' ck') }:=by rcases ho with ho|ho<;>simp[execOp,ho,run]
  rw[e,Oper.upon_skip,hd];exact hn m ok2 a _ R3 (λ_ _ h=>h) (λb t h=>k2 b t (k1 b t h))
 have hnew:∀n,Le M.ent { key:=a.eval ix,val:=a.eval y,born:=n }/\iY w.heap ok2 M.ent (key,z) (vZ M.ent { key:=a.eval ix,val:=a.eval y,born:=n }):=λn=>
  a2R (e:={ key:=a.eval ix,val:=a.eval y,born:=n }) hg hg2 (wR hf hr) hr2
 show eX X cl ch o a w m ok (upd S2 (U8+bx) (.barr M.ent (a1K (keq M.k) xs key z)));cases hfi:oL (keq M.k) xs key with
 |none=>
  rw[hfi]at hfind;refine fin (es.push { key:=a.eval ix,val:=a.eval y,born:=ck }) (ck+1) (xs++[(key,z)]) (by rw[Vp,hfi]) ?_ (by simp[hsz]) λi x hx=>?_
  .rw[hvw];simp only[Instr.mapUpdate,E9,run_underlying hund,EU hb,G5,c1,hfind,Option.bind_none];exact MapKept.run_setObj_map _ hb
  .rw[List.getElem?_append]at hx;split at hx
   .rename_i hlt;obtain⟨e,h1,h2,h3⟩:=hent i x hx;refine⟨e,?_,h2,bZ (λ_ _ h=>h) (λ_ _ _=>rfl) h3⟩;rw[Array.getElem?_push_lt o5];rw[←h1,N7 o5]
   .rename_i hge;have hi0:i=xs.length:=by
     have:=(aF.1 hx).1;simp at this;omega
    subst hi0;simp at hx;subst hx;exact⟨_,by rw[←hsz];simp,hnew ck⟩
 |some j=>
  obtain⟨p,hp,hpk⟩:=KA hfi;obtain⟨e,h1,h2,h3⟩:=hent j p hp;obtain⟨g1,g2,r1,r2⟩:=IW h2 h3;have h1' :es.toList[j]? =some e:=by simpa using h1
  have hpe:=(Qu hf _ _).1 hpk;have hke:e.key=a.eval ix:=yx.det hf (ag:=M.ka) (x:=key) ⟨g1,by rw[hpe];exact wR hf r1⟩ ⟨hg,wR hf hr⟩;rw[hfi]at hfind;simp only[fC,h1',bP]at hfind;refine fin (es.modify j λe=> { e with key:=a.eval ix,val:=a.eval y }) ck (xs.set j (key,z)) (by rw[Vp,hfi]) ?_ (by simp[hsz]) λi x hx=>?_
  .rw[hvw];simp only[Instr.mapUpdate,E9,run_underlying hund,EU hb,G5,c1,hfind,h1,bP,jB,hke,yx.stays (P:=X.P) (w:=w) hf hkey];exact MapKept.run_setObj_map _ hb
  .rw[I7]at hx;rw[jd];split at hx
   .rename_i hij;subst hij;split at hx
    .cases hx;simp only[if_true,h1,bP];exact⟨_,rfl,hnew e.born⟩
    .cases hx
   .rename_i hij;simp only[hij,if_false];obtain⟨e',a1,a2,a3⟩:=hent i x hx;exact⟨e',a1,a2,bZ (λ_ _ h=>h) (λ_ _ _=>rfl) a3⟩
end
end Go.GP
namespace Go.GP
theorem VF:∀(n:Nat) (vs a b:List V),FT n vs=some (a,b)->vs=a++b/\a.length=n
 |0,vs,a,b,h=>by simp[FT]at h;obtain⟨rfl,rfl⟩:=h;simp
 |n+1,[],a,b,h=>by simp[FT]at h|n+1,v::vs,a,b,h=>by
  unfold FT at h;cases hs:FT n vs with
  |none=>simp[hs]at h|some p=>obtain⟨a',b'⟩:=p;simp only[hs,F5,iH]at h;obtain⟨rfl,rfl⟩:=h;obtain⟨rfl,hl⟩:=VF n vs _ _ hs;exact⟨rfl,by simp[hl]⟩
theorem PQ{C:Cx} :∀{a b:List V} {xs ys:c2h},a.length=xs.length->dX C (a++b) (xs++ys)->dX C a xs/\dX C b ys
 |[],b,xs,ys,hl,h=>by
  have:xs=[]:=by cases xs<;>simp at hl ⊢
  subst this;exact⟨rfl,h⟩
 |c::a,b,xs,ys,hl,h=>by
  cases xs with
  |nil=>simp at hl|cons x xs=>obtain⟨v,r,e,h1,h2⟩:=h;simp only[Y6,E8]at e;obtain⟨rfl,rfl⟩:=e;obtain⟨h3,h4⟩:=PQ (by simpa using hl) h2;exact⟨⟨_,_,rfl,h1,h3⟩,h4⟩
theorem a1d{C:Cx} :∀{a:List V} {xs:c2h},Dh a=false->dX C a xs->WJ C a xs
 |[],xs,_,h=>h|c::a,xs,ht,⟨v,r,e,h1,h2⟩=>by
  have ht2:Dh a=false:=by cases c<;>first|exact ht|(simp[Dh]at ht)
  refine⟨v,r,e,?_,a1d ht2 h2⟩;cases c<;>first|exact h1|(simp[Dh]at ht)
variable {v:Value}
theorem a4o{C:Cx}{a:List V}{xs:c2h}{n:Nat}(ht:Dh a=false)(h:dX C a xs)(hr:Zf n v xs):iI C (a7n a) v:=by
 obtain⟨_,hv⟩:=hr;cases a with
 |nil=>simp only[dX]at h;subst h;simp only at hv;subst hv;exact⟨_,rfl,rfl⟩|cons c a=>
  obtain⟨x,r,rfl,h1,h2⟩:=h;cases a with
  |nil=>simp only[dX]at h2;subst h2;simp only at hv;subst hv;exact h1|cons d a=>obtain⟨y,r',rfl,h3,h4⟩:=h2;simp only at hv;subst hv;exact⟨_,rfl,a1d ht ⟨_,_,rfl,h1,_,_,rfl,h3,h4⟩⟩
theorem QT{h:Array Obj}{ok ok' :Nat->Ty->Prop} :∀{ts:List Ty} {x:OI ts} {vs:c2h},(∀b u,ok b u->PD u ts=true->ok' b u)->Am h ok (OG ts x) vs->Am h ok' (OG ts x) vs
 |[],_,_,_,hr=>hr|[t],x,_,f,hr=>by obtain⟨v,r,e,⟨b,o,es,hv,hb,hc,hp⟩,h2⟩:=hr;exact⟨v,r,e,⟨b,o,es,hv,f _ _ hb (by simp[PD]),hc,sZ (λb u h k=>f b u h (by simp[PD,k])) hp⟩,h2⟩
 |t::t' ::ts,x,_,f,hr=>by obtain⟨v,r,e,⟨b,o,es,hv,hb,hc,hp⟩,h2⟩:=hr;exact⟨v,r,e,⟨b,o,es,hv,f _ _ hb (by simp[PD]),hc,sZ (λb u h k=>f b u h (by simp[PD,k])) hp⟩,QT (ts:=t' ::ts) (λb u h k=>f b u h (by rw[PD,k];simp)) h2⟩
theorem Nr{h:Array Obj}{ok ok' :Nat->Ty->Prop}{m:Mp}{t:Ty}{xs:List t.den}{l:Loc}(f:∀b u,ok b u->Ty.occ u t=true->ok' b u)(hr:arrOk ⟨h,ok,m⟩ t xs l):arrOk ⟨h,ok',m⟩ t xs l:=by
 cases l with
 |nil=>exact hr|st b=>exact hr|mp b=>obtain⟨h1,es,ck,h2,h3,h4⟩:=hr;refine⟨h1,es,ck,h2,h3,λi y hi=>?_⟩;obtain⟨e,a1,a2,a3⟩:=h4 i y hi;exact⟨e,a1,a2,sZ f a3⟩
 |arr blk off len cap sz=>obtain⟨h0,h1,h2,h3,c,T,g,h4,hz,h5,h6⟩:=hr;refine⟨h0,h1,h2,h3,c,T,g,h4,hz,h5,λi y hi=>?_⟩;obtain⟨es,he,hp⟩:=h6 i y hi;exact⟨es,he,sZ f hp⟩
theorem yN{h:Array Obj}{ok ok' :Nat->Ty->Prop} :∀{m:M} {ho:Option Nat} {x:m.den} {cs:c2h} {O:c2i},(∀b u,ok b u->m.occ u=true->ok' b u)->jm h ok m ho x cs O->jm h ok' m ho x cs O
 | .dat t,_,_,_,_,f,hr=>⟨sZ f hr.1,hr.2⟩| .unit,_,_,_,_,_,hr=>hr| .pair a b,_,_,_,_,f,⟨c,d,O1,O2,e,eo,h1,h2⟩=>⟨c,d,O1,O2,e,eo,yN (λb u h k=>f b u h (by simp[M.occ,k])) h1,yN (λb u h k=>f b u h (by simp[M.occ,k])) h2⟩| .box m,_,_,_,_,f,⟨blk,arr,T,O',e,hh,hr,eo⟩=>⟨blk,arr,T,O',e,hh,yN f hr,eo⟩| .own t,ho,_,_,_,f,⟨v,e,h1,ha⟩=>by
  refine⟨v,e,h1,?_⟩;split at ha
  .exact ha
  .obtain⟨l,hv,ha,hO⟩:=ha;exact⟨l,hv,Nr f ha,hO⟩
 | .owns m,ho,_,_,_,f,⟨v,e,h1,ha⟩=>by
  refine⟨v,e,h1,?_⟩;split at ha
  .exact ha
  .obtain⟨he,l,Os,hv,ha,hO⟩:=ha;exact⟨he,l,Os,hv,pF (λ_ _=>rfl) (λi x es O _ hr=>yN f hr) ha,hO⟩
 | .ownb t,_,_,_,_,f,⟨l,v,e,hv,ha,hO⟩=>⟨l,v,e,hv,Nr f ha,hO⟩| .rp t,_,_,_,_,f,⟨v,e,⟨b,o,es,hv,hb,hc,hp⟩,h2⟩=>⟨v,e,⟨b,o,es,hv,f _ _ hb (by simp[M.occ]),hc,sZ (λb u h k=>f b u h (by simp[M.occ,k])) hp⟩,h2⟩| .fn g ts,_,_,_,_,f,⟨vs,e,h1,h2⟩=>⟨vs,e,QT f h1,h2⟩| .ifc t m,_,_,_,_,f,⟨u,e,h1⟩=>⟨u,e,yN f h1⟩| .cell _,_,_,_,_,_,h=>h| .fr t,_,_,_,_,f,⟨l,v,e,hv,ha,hk,hO⟩=>⟨l,v,e,hv,Nr (λb u h k=>f b u h (by simp[M.occ,k])) ha,λb h=>f b t (hk b h) (by simp[M.occ]),hO⟩| .sbx _ _,_,_,_,_,f,h=>h| .lp t,_,_,_,_,f,⟨v,e,⟨b,o,es,hv,hb,hc,hp⟩,h2⟩=>⟨v,e,⟨b,o,es,hv,f _ _ hb (by simp[M.occ]),hc,sZ (λb u h k=>f b u h (by simp[M.occ,k])) hp⟩,h2⟩| .dv ..,_,_,_,_,f,h=>h| .ownr m o,_,_,_,_,f,⟨v,e,h1,he,h0,l,Os,hv,ha,hO⟩=>⟨v,e,h1,he,h0,l,Os,hv,pF (λ_ _=>rfl) (λi x es O _ hr=>yN f hr) ha,hO⟩| .sit,_,_,_,_,f,h=>h
theorem Tu{h:Array Obj}{ok ok' :Nat->Ty->Prop} :∀{ms:List MG} {x:Y7 ms} {vs:c2h} {O:c2i},(∀b u,ok b u->Hz u ms=true->ok' b u)->oU h ok ms x vs O->oU h ok' ms x vs O
 |[],_,_,_,_,e=>e|[m],_,_,_,f,⟨v,cs,e,hg,hr⟩=>⟨v,cs,e,hg,yN (λb u h k=>f b u h (by simp[Hz,k])) hr⟩|m::m' ::r,_,_,_,f,⟨v,cs,vs',O1,O2,e,eo,hg,h1,h2⟩=>
  ⟨v,cs,vs',O1,O2,e,eo,hg,yN (λb u h k=>f b u h (by simp[Hz,k])) h1,Tu (λb u h k=>f b u h (by rw[Hz,k];simp)) h2⟩
theorem LV{u:Ty} :∀{a b:List MG},Hz u (a++b)=(Hz u a || Hz u b)
 |[],_=>rfl|m::a,b=>by simp[Hz,LV,Bool.or_assoc]
theorem Vt:∀{fs:List (Nat×FSpec)} {f:Nat} {vs:List V} {s:FSpec},Yr fs f vs=some s->(f,s)∈fs
 |[],_,_,_,h=>by simp[Yr]at h|(g,s')::r,f,vs,s,h=>by
  unfold Yr at h;cases hb:(Nat.beq g f&&JZ s'.ps vs)
  .rw[hb]at h;exact P9 _ (Vt h)
  .rw[hb]at h;simp only[cond_true,F5]at h;subst h;simp only[o9]at hb;have:=bQ hb.1;subst this;exact dP
theorem a7R{l l0:Loc}(h:l.view none v)(h0:l0.view none v)(hs:∀b o n c s b' o' n' c' s',l= .arr b o n c s->l0= .arr b' o' n' c' s' ->s=s'):l=l0:=by
 cases l<;>cases l0<;>simp only[Loc.view]at h h0
 .rfl
 .rw[h]at h0;cases h0
 .rw[h]at h0;cases h0
 .rw[h]at h0;cases h0
 .rw[h]at h0;simp only[lI,F5,eH,and_true]at h0;obtain⟨⟨rfl,rfl⟩,rfl,rfl⟩:=h0;have:=hs _ _ _ _ _ _ _ _ _ _ rfl rfl;subst this;rfl
 .rw[h]at h0;cases h0
 .rw[h]at h0;cases h0
 .rw[h]at h0;cases h0
 .rw[h]at h0;cases h0;rfl
theorem JH{h:Array Obj}{ok:Nat->Ty->Prop} :∀{ms:List MG} {x:Y7 ms} {vs:c2h} {O:c2i},oU h ok ms x vs O->vs.length=ms.length
 |[],_,_,_,e=>by simp[e.1]|[m],_,_,_,⟨v,cs,e,hg,hr⟩=>by simp[e]|m::m' ::r,_,_,_,⟨v,cs,vs',O1,O2,e,eo,hg,h1,h2⟩=>by have:=JH h2;subst e;simp[this]
variable {q:Nat}{f:FuncId}{c:Call}
section
variable {X:Fx} {cl ch:Nat} {S:Sm} {m:Mp} {ok:Nat->Ty->Prop} {a:Act} {w:World} {o:Oper}
theorem Y8{α:Type}{Q:α->Sm->Prop}{h0:Array Obj}{ok0:Nat->Ty->Prop}{m0:Mp} :∀(ms:List MG) {vs:List V} {vals:c2h} {ws:List V} {os:c2h} {B:c2i} {K:Cmd α} {S:Sm}
  (R:Rel X cl ch S m ok a w) (hm:∀k l,m0 k=some l->m k=some l) (hT:Tk X S m ok w B) (hv:dX ⟨h0,ok0,m0⟩ vs vals) (ho:tN w.heap ms vals os B) (hw:dX ⟨w.heap,ok,m⟩ ws os)
  (hK:∀S',Rel X cl ch S' m ok a w->K.post S' Q),(X7 ms vs ws K).post S Q
 |[],vs,vals,ws,os,B,K,S,R,hm,hT,hv,ho,hw,hK=>by
  cases vs with
  |cons _ _=>unfold X7;trivial|nil=>
   cases ws with
   |cons _ _=>unfold X7;trivial|nil=>unfold X7;exact hK S R
 |(g,.dat t)::ms,vs,vals,ws,os,B,K,S,R,hm,hT,hv,ho,hw,hK=>by
  cases vs with
  |nil=>unfold X7;trivial|cons v vs=>obtain⟨x,r,rfl,h1,h2⟩:=hv;unfold X7;exact Y8 ms R hm hT h2 ho hw hK
 |(g,.own t)::ms,vs,vals,ws,os,B,K,S,R,hm,hT,hv,ho,hw,hK=>by
  cases vs with
  |nil=>unfold X7;trivial|cons v vs=>obtain⟨x,r,rfl,h1,h2⟩:=hv;unfold X7;exact Y8 ms R hm hT h2 ho hw hK
 |(g,.pair p q)::ms,vs,vals,ws,os,B,K,S,R,hm,hT,hv,ho,hw,hK=>by
  cases vs with
  |nil=>unfold X7;trivial|cons v vs=>obtain⟨x,r,rfl,h1,h2⟩:=hv;unfold X7;exact Y8 ms R hm hT h2 ho hw hK
 |(g,.unit)::ms,vs,vals,ws,os,B,K,S,R,hm,hT,hv,ho,hw,hK=>by
  cases vs with
  |nil=>unfold X7;trivial|cons v vs=>obtain⟨x,r,rfl,h1,h2⟩:=hv;unfold X7;exact Y8 ms R hm hT h2 ho hw hK
 |(g,.cell _)::ms,vs,vals,ws,os,B,K,S,R,hm,hT,hv,ho,hw,hK=>by
  cases vs with
  |nil=>unfold X7;trivial|cons v vs=>obtain⟨x,r,rfl,h1,h2⟩:=hv;unfold X7;exact Y8 ms R hm hT h2 ho hw hK
 |(g,.fr _)::ms,vs,vals,ws,os,B,K,S,R,hm,hT,hv,ho,hw,hK=>by
  cases vs with
  |nil=>unfold X7;trivial|cons v vs=>obtain⟨x,r,rfl,h1,h2⟩:=hv;unfold X7;exact Y8 ms R hm hT h2 ho hw hK
 |(g,.box md)::ms,vs,vals,ws,os,B,K,S,R,hm,hT,hv,ho,hw,hK=>by
  cases vs with
  |nil=>unfold X7;trivial|cons v0 vs=>
  cases v0<;>try (unfold X7;trivial)
  case ptr bx off=>
  cases ws with
  |nil=>unfold X7;trivial|cons o0 ws=>
  cases o0<;>try (unfold X7;trivial)
  case agg cs=>
   unfold X7;refine V5 ?_;split<;>try trivial
   rename_i hS;refine cu ?_;obtain⟨x,r,rfl,h1,h2⟩:=hv;obtain⟨y,r',rfl,h3,h4⟩:=hw;obtain⟨b,arr,T,os',B',e1,hh,e2,rfl,ho'⟩:=ho;simp only[E8]at e2;obtain⟨rfl,rfl⟩:=e2;obtain⟨blk,hmb,e3⟩:=h1;subst e1;simp only[jQ,F5,eH,and_true]at e3;obtain⟨rfl,rfl⟩:=e3;obtain⟨arr',e4,hl⟩:=h3;simp only[Value.agg.injEq]at e4;subst e4;have hmb' :=hm _ _ hmb;obtain⟨R',T'⟩:=R.backV (n:=bx) (v:=.bcells cs) (O1:=[b]) (B:=B') A8 (by simpa using hT) (by simp[L9,hmb']) ⟨b,_,T,hmb',hh,hl⟩;exact Y8 ms R' hm T' h2 ho' h4 hK
 |(g,.ifc t (.box md))::ms,vs,vals,ws,os,B,K,S,R,hm,hT,hv,ho,hw,hK=>by
  cases vs with
  |nil=>unfold X7;trivial|cons v0 vs=>
  cases v0<;>try (unfold X7;trivial)
  case ifc t' v1=>
  cases v1<;>try (unfold X7;trivial)
  case ptr bx off=>
  cases ws with
  |nil=>unfold X7;trivial|cons o0 ws=>
  cases o0<;>try (unfold X7;trivial)
  case agg cs=>
   unfold X7;refine V5 ?_;split<;>try trivial
   rename_i hS;refine cu ?_;obtain⟨x,r,rfl,h1,h2⟩:=hv;obtain⟨y,r',rfl,h3,h4⟩:=hw;obtain⟨t2,b,arr,T,os',B',e1,hh,e2,rfl,ho'⟩:=ho;simp only[E8]at e2;obtain⟨rfl,rfl⟩:=e2;obtain⟨u,e5,_,h1⟩:=h1;obtain⟨blk,hmb,e3⟩:=h1;subst e1;subst e3;simp only[Value.iface.injEq,jQ,F5,eH,and_true]at e5;obtain⟨rfl,rfl,rfl⟩:=e5;obtain⟨arr',e4,hl⟩:=h3;simp only[Value.agg.injEq]at e4;subst e4;have hmb' :=hm _ _ hmb;obtain⟨R',T'⟩:=R.backV (n:=bx) (v:=.bcells cs) (O1:=[b]) (B:=B') A8 (by simpa using hT) (by simp[L9,hmb']) ⟨b,_,T,hmb',hh,hl⟩;exact Y8 ms R' hm T' h2 ho' h4 hK
 |(g,.ownb t)::ms,vs,vals,ws,os,B,K,S,R,hm,hT,hv,ho,hw,hK=>by
  cases vs with
  |nil=>unfold X7;trivial|cons v0 vs=>
  obtain⟨x,r,rfl,h1,h2⟩:=hv;obtain⟨os',rfl,ho'⟩:=ho;cases v0<;>try (unfold X7;trivial)
  case nl=>
   cases ws with
   |nil=>unfold X7;trivial|cons o0 ws=>
   cases o0<;>try (unfold X7;trivial)
   case own nm vw=>
   cases vw with
   |some _=>unfold X7;trivial|none=>
   unfold X7;obtain⟨y,r',e,h3,h4⟩:=hw;simp only[E8]at e;obtain⟨rfl,rfl⟩:=e;refine cu ?_;have T1:=Tk.kill R hT nm (bs:=[]) (λb h=>by cases h) aY;rw[G6]at T1;exact Y8 ms (R.kill nm) hm T1 h2 ho' h4 hK
  case own bx vw=>
   cases vw with
   |some _=>unfold X7;trivial|none=>
   cases ws with
   |nil=>unfold X7;trivial|cons o0 ws=>
   cases o0<;>try (unfold X7;trivial)
   case own nm vw=>
   cases vw with
   |some _=>unfold X7;trivial|none=>
   unfold X7;obtain⟨y,r',e,h3,h4⟩:=hw;simp only[E8]at e;obtain⟨rfl,rfl⟩:=e;obtain⟨l0,hm0,hv0⟩:=h1;obtain⟨l,hml,hvl⟩:=h3;have hm0' :=hm _ _ hm0;refine V5 ?_;split<;>try trivial
   rename_i u xs hS;refine cu (V5 ?_);split<;>try trivial
   rename_i t' hS2;refine dw λe=>?_;subst e;refine cu ?_;obtain⟨l',hml',ha⟩:=R.own_arr hS;simp only at hml;rw[hml]at hml';cases hml';have R1:=R.kill nm;have hob:L9 m nm (S (U8+nm))=l.blks:=by rw[hS];cases l<;>first|(simp[L9,hml,Loc.blks];done)|cases ha
   have T1:=Tk.kill R hT nm (bs:=l.blks) (λb h=>by rw[hob];exact h) (Loc.blks_nodup l);have hg:=R1.box bx;rw[hS2]at hg;obtain⟨l1,hm1,hsz⟩:=hg;simp only at hm1;rw[hm0']at hm1;cases hm1;have hll:l=l0:=a7R hvl hv0 (λb o n c s b' o' n' c' s' e1 e2=>by subst e1;rw[hsz _ _ _ _ _ e2];exact ha.2.1);subst hll;obtain⟨R',T'⟩:=R1.backV (n:=bx) (v:=.barr u xs) (O1:=l.blks) (B:=B) A8 (T1.perm fM) (by cases l<;>first|(simp[L9,hm0',Loc.blks];done)|cases ha) ⟨l,hm0',ha⟩;exact Y8 ms R' hm T' h2 ho' h4 hK
 |(g,.lp _)::ms,vs,vals,ws,os,B,K,S,R,hm,hT,hv,ho,hw,hK=>by
  cases vs with
  |nil=>unfold X7;trivial|cons v vs=>obtain⟨x,r,rfl,h1,h2⟩:=hv;unfold X7;exact Y8 ms R hm hT h2 ho hw hK
 |(g,.ownr ..)::ms,vs,vals,ws,os,B,K,S,R,hm,hT,hv,ho,hw,hK=>by
  cases vs with
  |nil=>unfold X7;trivial|cons v vs=>obtain⟨x,r,rfl,h1,h2⟩:=hv;unfold X7;exact Y8 ms R hm hT h2 ho hw hK
 |(g,.dv ..)::ms,vs,vals,ws,os,B,K,S,R,hm,hT,hv,ho,hw,hK=>by
  cases vs with
  |nil=>unfold X7;trivial|cons v vs=>obtain⟨x,r,rfl,h1,h2⟩:=hv;unfold X7;exact Y8 ms R hm hT h2 ho hw hK
 |(g,.sit)::ms,vs,vals,ws,os,B,K,S,R,hm,hT,hv,ho,hw,hK=>by cases vs<;>(unfold X7;trivial)|(g,.sbx _ _)::ms,vs,vals,ws,os,B,K,S,R,hm,hT,hv,ho,hw,hK=>by
  cases vs with
  |nil=>unfold X7;trivial|cons v0 vs=>
  obtain⟨x,r,rfl,h1,h2⟩:=hv;obtain⟨os',rfl,ho'⟩:=ho;cases v0<;>try (unfold X7;trivial)
  case ptr bx off=>
  cases ws with
  |nil=>unfold X7;trivial|cons o0 ws=>
  cases o0<;>try (unfold X7;trivial)
  case ptr nm off' =>
   unfold X7;obtain⟨y,r',e,h3,h4⟩:=hw;simp only[E8]at e;obtain⟨rfl,rfl⟩:=e;obtain⟨b0,hm0,hv0⟩:=h1;obtain⟨b1,hm1,hv1⟩:=h3;have hm0' :=hm _ _ hm0;have hbb:b0=b1:=by rw[hv0]at hv1;simp only[jQ,F5,eH,and_true]at hv1;exact hv1.1
   subst hbb;refine V5 ?_;split<;>try trivial
   rename_i tb0 c hS;refine cu (V5 ?_);split<;>try trivial
   rename_i hS2;refine cu ?_;have hb:=R.box nm;rw[hS]at hb;obtain⟨blk',a0,v0,hm',hh,hs,g1⟩:=hb;simp only at hm1 hm';rw[hm1]at hm';cases hm';have R1:=R.kill nm;have T1:=Tk.kill R hT nm (bs:=[b0]) (λb h=>by rw[hS];simp[L9,hm1];simpa using h) A8;obtain⟨R',T'⟩:=R1.backV (n:=bx) (v:=.bsb tb0 c) (O1:=[b0]) (B:=B) A8 (T1.perm fM) (by simp[L9,hm0']) ⟨b0,a0,v0,hm0',hh,hs,g1⟩;exact Y8 ms R' hm T' h2 ho' h4 hK
 |(g,.owns md)::ms,vs,vals,ws,os,B,K,S,R,hm,hT,hv,ho,hw,hK=>by
  cases vs with
  |nil=>unfold X7;trivial|cons v vs=>obtain⟨x,r,rfl,h1,h2⟩:=hv;unfold X7;exact Y8 ms R hm hT h2 ho hw hK
 |(g,.rp t)::ms,vs,vals,ws,os,B,K,S,R,hm,hT,hv,ho,hw,hK=>by
  cases vs with
  |nil=>unfold X7;trivial|cons v vs=>obtain⟨x,r,rfl,h1,h2⟩:=hv;unfold X7;exact Y8 ms R hm hT h2 ho hw hK
 |(g,.fn f ts)::ms,vs,vals,ws,os,B,K,S,R,hm,hT,hv,ho,hw,hK=>by
  cases vs with
  |nil=>unfold X7;trivial|cons v vs=>obtain⟨x,r,rfl,h1,h2⟩:=hv;unfold X7;exact Y8 ms R hm hT h2 ho hw hK
 |(g,.ifc t (.dat u))::ms,vs,vals,ws,os,B,K,S,R,hm,hT,hv,ho,hw,hK=>by
  cases vs with
  |nil=>unfold X7;trivial|cons v vs=>obtain⟨x,r,rfl,h1,h2⟩:=hv;unfold X7;exact Y8 ms R hm hT h2 ho hw hK
 |(g,.ifc t (.own u))::ms,vs,vals,ws,os,B,K,S,R,hm,hT,hv,ho,hw,hK=>by
  cases vs with
  |nil=>unfold X7;trivial|cons v vs=>obtain⟨x,r,rfl,h1,h2⟩:=hv;unfold X7;exact Y8 ms R hm hT h2 ho hw hK
 |(g,.ifc t (.pair p q))::ms,vs,vals,ws,os,B,K,S,R,hm,hT,hv,ho,hw,hK=>by
  cases vs with
  |nil=>unfold X7;trivial|cons v vs=>obtain⟨x,r,rfl,h1,h2⟩:=hv;unfold X7;exact Y8 ms R hm hT h2 ho hw hK
 |(g,.ifc t (.unit))::ms,vs,vals,ws,os,B,K,S,R,hm,hT,hv,ho,hw,hK=>by
  cases vs with
  |nil=>unfold X7;trivial|cons v vs=>obtain⟨x,r,rfl,h1,h2⟩:=hv;unfold X7;exact Y8 ms R hm hT h2 ho hw hK
 |(g,.ifc t (.cell _))::ms,vs,vals,ws,os,B,K,S,R,hm,hT,hv,ho,hw,hK=>by
  cases vs with
  |nil=>unfold X7;trivial|cons v vs=>obtain⟨x,r,rfl,h1,h2⟩:=hv;unfold X7;exact Y8 ms R hm hT h2 ho hw hK
 |(g,.ifc t (.lp _))::ms,vs,vals,ws,os,B,K,S,R,hm,hT,hv,ho,hw,hK=>by
  cases vs with
  |nil=>unfold X7;trivial|cons v vs=>obtain⟨x,r,rfl,h1,h2⟩:=hv;unfold X7;exact Y8 ms R hm hT h2 ho hw hK
 |(g,.ifc t (.ownr ..))::ms,vs,vals,ws,os,B,K,S,R,hm,hT,hv,ho,hw,hK=>by
  cases vs with
  |nil=>unfold X7;trivial|cons v vs=>obtain⟨x,r,rfl,h1,h2⟩:=hv;unfold X7;exact Y8 ms R hm hT h2 ho hw hK
 |(g,.ifc t (.dv ..))::ms,vs,vals,ws,os,B,K,S,R,hm,hT,hv,ho,hw,hK=>by
  cases vs with
  |nil=>unfold X7;trivial|cons v vs=>obtain⟨x,r,rfl,h1,h2⟩:=hv;unfold X7;exact Y8 ms R hm hT h2 ho hw hK
 |(g,.ifc t (.fr _))::ms,vs,vals,ws,os,B,K,S,R,hm,hT,hv,ho,hw,hK=>by
  cases vs with
  |nil=>unfold X7;trivial|cons v vs=>obtain⟨x,r,rfl,h1,h2⟩:=hv;unfold X7;exact Y8 ms R hm hT h2 ho hw hK
 |(g,.ifc t (.owns md))::ms,vs,vals,ws,os,B,K,S,R,hm,hT,hv,ho,hw,hK=>by
  cases vs with
  |nil=>unfold X7;trivial|cons v vs=>obtain⟨x,r,rfl,h1,h2⟩:=hv;unfold X7;exact Y8 ms R hm hT h2 ho hw hK
 |(g,.ifc t .sit)::ms,vs,vals,ws,os,B,K,S,R,hm,hT,hv,ho,hw,hK=>by
  cases vs with
  |nil=>unfold X7;trivial|cons v vs=>obtain⟨x,r,rfl,h1,h2⟩:=hv;unfold X7;exact Y8 ms R hm hT h2 ho hw hK
 |(g,.ifc t (.sbx _ _))::ms,vs,vals,ws,os,B,K,S,R,hm,hT,hv,ho,hw,hK=>by
  cases vs with
  |nil=>unfold X7;trivial|cons v vs=>obtain⟨x,r,rfl,h1,h2⟩:=hv;unfold X7;exact Y8 ms R hm hT h2 ho hw hK
 |(g,.ifc t (.ownb u))::ms,vs,vals,ws,os,B,K,S,R,hm,hT,hv,ho,hw,hK=>by
  cases vs with
  |nil=>unfold X7;trivial|cons v vs=>obtain⟨x,r,rfl,h1,h2⟩:=hv;unfold X7;exact Y8 ms R hm hT h2 ho hw hK
 |(g,.ifc t (.rp u))::ms,vs,vals,ws,os,B,K,S,R,hm,hT,hv,ho,hw,hK=>by
  cases vs with
  |nil=>unfold X7;trivial|cons v vs=>obtain⟨x,r,rfl,h1,h2⟩:=hv;unfold X7;exact Y8 ms R hm hT h2 ho hw hK
 |(g,.ifc t (.fn f ts))::ms,vs,vals,ws,os,B,K,S,R,hm,hT,hv,ho,hw,hK=>by
  cases vs with
  |nil=>unfold X7;trivial|cons v vs=>obtain⟨x,r,rfl,h1,h2⟩:=hv;unfold X7;exact Y8 ms R hm hT h2 ho hw hK
 |(g,.ifc t (.ifc t2 md))::ms,vs,vals,ws,os,B,K,S,R,hm,hT,hv,ho,hw,hK=>by
  cases vs with
  |nil=>unfold X7;trivial|cons v vs=>obtain⟨x,r,rfl,h1,h2⟩:=hv;unfold X7;exact Y8 ms R hm hT h2 ho hw hK
theorem FH{P:Program}{w:World}{fn:Func}(hf:P.funcs[f]? =some fn)(hb:fn.body.isSome=true)(hn:(fn.name== "runtime.NumGoroutine")=false)(args:Array Value):
  (callFunc f args).run P w= .ok (.enter f args) w:=by
 have hb' :¬fn.body=none:=by intro e;rw[e]at hb;cases hb
 have hn' :¬fn.name= "runtime.NumGoroutine":=by intro e;rw[e]at hn;simp at hn
 simp[callFunc,hf,hn',hb']
theorem a1v(H:FxOk X)(R:Rel X (CB*q) (CB*q+CB) S m ok a w){h0:Array Obj}{ok0:Nat->Ty->Prop}{s:FSpec}{vs:List V}{vals:c2h}{r:Y7 (s.rs++s.outs)}{rs os:c2h}{O' B:c2i}
  (hT:Tk X S m ok w (O' ++B)) (hv:dX ⟨h0,ok0,m⟩ vs vals) (hret:Zf s.rs.length v rs) (ho:tN w.heap s.ps vals os B) (hr:oU w.heap ok (s.rs++s.outs) r (rs++os) O') {Q:Unit->Sm->Prop}
  (hK:∀S' m',Rel X (CB*q) (CB*q+CB) S' m' ok (a.put o.dst v) w->(∀k l,m k=some l->m' k=some l)->Q () S'):
  (Jy (s.rs++s.outs) r (J5 q o.dst) λws n' =>bif Nat.ble n' (J5 q o.dst+64)then(match FT s.rs.length ws with
    |some (a,o')=>bif Dh a then .fail else X7 s.ps vs o' (bJ X.E o.dst (a7n a))
    |none=> .fail)else .fail).post S Q:=by
 have hcl:CB*q<=J5 q o.dst:=by
  cases o.dst with
  |none=>exact iq _ _|some t=>exact iq _ _
 refine EO (T:=B) _ R hcl hT hr λS1 m1 ws n1 ch1 R1 c1 T1 k1 s1 l1 e1=>aS λhle=>?_;have hle' :=P5 hle;split<;>try trivial
 rename_i p p' hsp;obtain⟨rfl,hpl⟩:=VF _ _ _ _ hsp;obtain⟨l2,l3⟩:=PQ (by rw[hpl,hret.1]) l1;cases ht:Dh p
 .simp only[cond_false];refine Y8 s.ps R1 k1 T1 hv ho l3 λS2 R2=>?_;have hres:=a4o ht l2 hret;cases hd:o.dst with
  |none=>have hin:=lX H (q:=q) none (λt h=>by cases h);rw[hd]at hle' hK;exact hK S2 m1 (R2.chmono (by generalize CB*q=Z at*;generalize J5 q none=N at*;omega)) k1
  |some t=>unfold bJ;refine aS λhb=>?_;have hin:=lX H (q:=q) (some t) (λt' h=>by cases h;exact(vg hb).1);rw[hd]at hle' hK;have R3:Rel X (CB*q) (CB*q+CB) S2 m1 ok a w:=R2.chmono (by generalize CB*q=Z at*;generalize J5 q (some t)=N at*;omega);exact hK _ m1 (R3.put H.ntB hb hres) k1
 .trivial
theorem La(H:FxOk X)(R:Rel X (CB*q) (CB*q+CB) S m ok a w){vs:List V}{vals:c2h}(hvs:dX ⟨w.heap,ok,m⟩ vs vals)
  (run:∀fn,X.P.funcs[f]? =some fn->fn.body.isSome=true->(fn.name== "runtime.NumGoroutine")=false->(execOp a.eval o).run X.P w= .ok (.enter f vals.toArray) w):
  (UM X.E q o.dst f vs).post S (λ_ S' =>eX X (CB*q) (CB*q+CB) o a w m ok S'):=by
 unfold UM;split
 .trivial
 rename_i s hs;have hmem:=Vt hs;have hF:=H.fs _ hmem;obtain⟨fn,hf,hb,hnm⟩:=H.fn _ hmem;have hrun:=run fn hf hb hnm;refine a2P R hvs s.ps hvs λhdv=>?_;refine ES (ln:=Wj s) (T:=[]) s.ps R Tk.nil hvs λS1 ok1 x O R1 T1 k1 s1 hrel=>bF λr hr=>?_;simp only[F6]at T1;generalize hokc:okL (Wj s) S1 m ok1=okc at hrel;have c1:∀b t,ok1 b t->okc b t:=λb t h=>by rw[←hokc];exact .inl h
 have hsep1:∀b t,ok1 b t->∀n,b∉L9 m n (S1 (U8+n)):=λb t h n e=>(R1.sep n b e).1 t h;have hlt:∀b t,okc b t->b<w.heap.size:=λb t h=>by
  rw[←hokc]at h;rcases h with h|⟨_,n,h,_⟩
  .exact R1.okLt b t h
  .exact(R1.sep n b h).2.1
 have hfree:∀b∈O,(∀t,¬okc b t)/\b<w.heap.size:=λb hb=>by
  obtain⟨f1,f2,f3,f4⟩:=T1.free b hb;refine⟨λt h=>?_,f2⟩;rw[←hokc]at h;rcases h with h|⟨_,n,h,_⟩
  .exact f1 t h
  .exact f4 n h
 have hC:=hF w okc O _ x r hlt T1.nodup hfree (λg u hg=>by obtain⟨g1,g3,g2⟩:=R1.gl g u hg;refine⟨c1 _ _ g1,g3,λi y hi=>?_⟩;obtain⟨es,he,hr⟩:=g2 i y hi;exact⟨es,he,bZ c1 (λ_ _ _=>rfl) hr⟩) hrel hdv hr
 have hown:∀b,(w.heap.size<=b\/b∈O)->(X.w0.heap.size<=b\/b∈X.O)/\∀n,b∉L9 m n (S1 (U8+n)):=λb hb=>by
  rcases hb with hb|hb
  .have:=R1.frame.size;exact⟨.inl o5,λn e=>by have:=(R1.sep n b e).2.1;omega⟩
  .exact(T1.free b hb).2.2
 revert hC;generalize hPost:(λ(e:Ending) (w' :World)=>∃v ok' O' rs os B,e= .returned v/\Frame' w w' O/\(∀b t,okc b t->ok' b t)/\(∀b t,ok' b t->b<w'.heap.size/\(okc b t\/w.heap.size<=b\/b∈O))/\
  (O' ++B).Nodup/\(∀b∈O' ++B,(∀t,¬ok' b t)/\b<w'.heap.size/\(w.heap.size<=b\/b∈O))/\
  Zf s.rs.length v rs/\tN w'.heap s.ps vals os B/\oU w'.heap ok' (s.rs++s.outs) r (rs++os) O')=Post
 intro hC;have hall:∀p: { p:Ending×World // Post p.1 p.2 },(Jy (s.rs++s.outs) r (J5 q o.dst) λws n' =>bif Nat.ble n' (J5 q o.dst+64)then(match FT s.rs.length ws with
   |some (a,o')=>bif Dh a then .fail else X7 s.ps vs o' (bJ X.E o.dst (a7n a))
   |none=> .fail)else .fail).post S1 (λ_ S' =>∃v m' okf,p.1.1= .returned v/\Rel X (CB*q) (CB*q+CB) S' m' okf (a.put o.dst v) p.1.2/\(∀k l,m k=some l->m' k=some l)/\(∀b t,ok b t->okf b t)):=by
  rintro⟨⟨e,w'⟩,hp⟩;rw[←hPost]at hp;obtain⟨v,ok',O',rs,os,B,rfl,fr,k2,hok',hnd,hfr,hret,houts,hrel'⟩:=hp;have k3:∀b t,ok1 b t->(ok' b t/\∀n,b∉L9 m n (S1 (U8+n))):=λb t h=>⟨k2 b t (c1 b t h),hsep1 b t h⟩;have R2:Rel X (CB*q) (CB*q+CB) S1 m (λb t=>ok' b t/\∀n,b∉L9 m n (S1 (U8+n))) a w' :=by
   refine R1.world fr.os fr.tape fr.output fr.size (λb hb h=>fr.block b hb λhO=>?_) k3 (λb t h=>⟨(hok' b t h.1).1,?_⟩)
   .obtain⟨f1,f2,f3,f4⟩:=T1.free b hO;rcases h with⟨t,h⟩|⟨n,h⟩|h
    .exact f1 t h
    .exact f4 n h
    .exact h f3
   .rcases(hok' b t h.1).2 with h'|h'
    .rw[←hokc]at h';rcases h' with h'|⟨_,n,h',_⟩
     .exact .inl h'
     .exact absurd h' (h.2 n)
    .exact .inr (hown b h')
  have hrel2:oU w'.heap (λb t=>ok' b t/\∀n,b∉L9 m n (S1 (U8+n))) (s.rs++s.outs) r (rs++os) O' :=by
   refine Tu (λb u h k=>⟨h,λn e=>?_⟩) hrel';rcases(hok' b u h).2 with h'|h'
   .rw[←hokc]at h';rcases h' with h'|⟨hl,_⟩
    .exact hsep1 b u h' n e
    .rw[LV]at k;unfold Wj at hl;rw[k]at hl;cases hl
   .exact(hown b h').2 n e
  refine a1v H R2 (h0:=w.heap) (ok0:=ok) (vals:=vals) (rs:=rs) (os:=os) (O' :=O') (B:=B) (v:=v) ⟨hnd,λb hb=>?_⟩ hvs hret houts hrel2 λS' m' R' km=>⟨v,m',_,rfl,R',km,λb t hb=>k3 b t (k1 b t hb)⟩;obtain⟨g1,g2,g3⟩:=hfr b hb;obtain⟨f2,f3⟩:=hown b g3;exact⟨λt h=>g1 t h.1,g2,f2,f3⟩
 refine xW ?_ (Ep hall);intro _ S' hS' next Q hn
 unfold Oper.wp;rw[hrun,Oper.upon_enter];refine Calls.mono hC λe w' hp=>?_;obtain⟨v,m',okf,he,R',km,kok⟩:=hS' ⟨(e,w'),hp⟩;simp only at he;subst he;exact hn m' okf _ w' R' km kok
theorem Nw{α:Type} :∀{l:List (Nat×α)} {n:Nat} {x:α},bf l n=some x->(n,x)∈l
 |[],_,_,h=>by cases h|(k,v)::r,n,x,h=>by
  unfold bf at h;cases hb:Nat.beq k n<;>rw[hb]at h
  .exact P9 _ (Nw h)
  .have:=bQ hb;subst this;simp only[cond_true,F5]at h;subst h;exact dP
theorem a6X(H:FxOk X)(R:Rel X (CB*q) (CB*q+CB) S m ok a w)(ho:o.op= .call c)(hc:c.callee= .value (.func f)):(aG X.E q o).post S (λ_ S' =>eX X (CB*q) (CB*q+CB) o a w m ok S'):=by
 obtain⟨cal,args,ats⟩:=c;simp only at hc;subst hc;unfold aG;simp only[ho];have e:args.map a.eval=(args.toList.map a.eval).toArray:=by apply iE;simp
 have hrun:∀fn,X.P.funcs[f]? =some fn->fn.body.isSome=true->(fn.name== "runtime.NumGoroutine")=false->(execOp a.eval o).run X.P w= .ok (.enter f (args.toList.map a.eval).toArray) w:=λfn hf hb hnm=>by have:=FH (P:=X.P) (w:=w) hf hb hnm (args.map a.eval);rw[e]at this;simp[execOp,ho,resolve,Deferred.ofValue,Act.eval,invoke,e,this]
 refine jh R _ λvs hvs=>?_;split
 .rename_i off sz hpl;cases hz:Nat.beq sz 0
  case true=>trivial
  simp only[cond_false];split<;>try trivial
  rename_i v;obtain⟨x,r,e1,h1,h2⟩:=hvs;simp only[dX]at h2;subst h2;refine KC R h1 λr y hy hp=>?_;obtain⟨⟨fn,hf,hb,hnm⟩,hcall⟩:=(H.pl _ (Nw hpl)).snd hz;have hC:=hcall w x y hp;have hr0:=hrun fn hf hb hnm;rw[e1]at hr0;unfold bJ;cases hd:o.dst with
  |none=>
   intro next Q hn
   unfold Oper.wp;rw[hr0,Oper.upon_enter];refine Calls.mono hC λen w' hp=>?_;obtain⟨rfl,k,rfl⟩:=hp;rw[hd];exact hn m ok a _ (R.same (w' :=w.drewN k) rfl rfl rfl rfl) (λ_ _ h=>h) (λ_ _ h=>h)
  |some d=>
   refine aS λhb=>?_;intro next Q hn
   unfold Oper.wp;rw[hr0,Oper.upon_enter];refine Calls.mono hC λen w' hp=>?_;obtain⟨rfl,k,rfl⟩:=hp;rw[hd];exact hn m ok _ _ ((R.put H.ntB hb hy).same (w' :=w.drewN k) rfl rfl rfl rfl) (λ_ _ h=>h) (λ_ _ h=>h)
 .exact La H R hvs hrun
theorem FD{C:Cx} :∀{a b:List V} {xs ys:c2h},dX C a xs->dX C b ys->dX C (a++b) (xs++ys)
 |[],_,_,_,h,k=>by simp only[dX]at h;subst h;exact k|c::a,b,_,_,⟨v,r,e,h1,h2⟩,k=>by subst e;exact⟨v,r++_,rfl,h1,FD h2 k⟩
theorem Tv{C:Cx} :∀{caps:List ((t:Ty)×t.den)} {vs:c2h},Am C.h C.ok caps vs->dX C (caps.map b2M) vs
 |[],_,h=>h|c::cs,_,⟨v,r,e,h1,h2⟩=>⟨v,r,e,h1,Tv h2⟩
theorem a3q(H:FxOk X)(R:Rel X (CB*q) (CB*q+CB) S m ok a w){x:Operand}(ho:o.op= .call c)(hc:c.callee= .value x)(hx:∀f,x≠.func f):(aG X.E q o).post S (λ_ S' =>eX X (CB*q) (CB*q+CB) o a w m ok S'):=by
 obtain⟨cal,args,ats⟩:=c;simp only at hc;subst hc;unfold aG;simp only[ho];refine jh R _ λvs hvs=>?_;refine Y9 R λu hu=>?_;split<;>try trivial
 rename_i f caps;obtain⟨cs,hv,hcaps⟩:=hu;refine La H R (FD hvs (Tv hcaps)) λfn hf hb hnm=>?_;have:=FH (P:=X.P) (w:=w) hf hb hnm (args.map a.eval++cs);have e:args.map a.eval++cs=(args.toList.map a.eval++cs.toList).toArray:=by apply iE;simp
 rw[e]at this;simp[execOp,ho,resolve,Deferred.ofValue,hv,invoke,e,this]
theorem Ky:∀{l:List ((Nat×String)×Nat×Option Nat)} {t:Nat} {n:String} {r:Nat×Option Nat},Sz l t n=some r->((t,n),r)∈l
 |[],_,_,_,h=>by simp[Sz]at h|((u,k),r')::l,t,n,r,h=>by
  unfold Sz at h;cases hb:(Nat.beq u t&&(k==n))<;>rw[hb]at h
  .exact P9 _ (Ky h)
  .simp only[cond_true,F5]at h;subst h;simp only[o9,beq_iff_eq]at hb;have:=bQ hb.1;subst this;rw[hb.2];exact dP
theorem a1V(H:FxOk X)(R:Rel X (CB*q) (CB*q+CB) S m ok a w){x:Operand}{n:String}(ho:o.op= .call c)(hc:c.callee= .invoke x n):(aG X.E q o).post S (λ_ S' =>eX X (CB*q) (CB*q+CB) o a w m ok S'):=by
 obtain⟨cal,args,ats⟩:=c;simp only at hc;subst hc;unfold aG;simp only[ho];refine jh R _ λvs hvs=>Y9 R λu hu=>?_;split<;>try trivial
 rename_i t v;obtain⟨z,hz,hz1,hzv⟩:=hu;have e2:(#[a.eval x]++args.map a.eval).extract 1 (#[a.eval x]++args.map a.eval).size=args.map a.eval:=by apply iE;simp;exact U2 (Nat.le_of_eq (by rw[U5];rfl))
 have e3:(#[a.eval x]++args.map a.eval)[0]? =some (a.eval x):=by rw[fG (by show 0<1;omega)];rfl
 have e4:(args.map a.eval).extract 0 args.size=args.map a.eval:=by
  have h:args.size=(args.map a.eval).size:=by rw[Array.size_map]
  rw[h,Array.extract_size]
 have fin:∀(f:Nat) (r:Value) (fn:Func),X.P.funcs[f]? =some fn->fn.body.isSome=true->(fn.name== "runtime.NumGoroutine")=false->(method (X.P.types.size+Made.depth) t z n).run X.P w= .ok (f,r) w->
   (execOp a.eval o).run X.P w= .ok (.enter f (r::args.toList.map a.eval).toArray) w:=λf r fn hf hb hnm hM=>by
  have:=FH (P:=X.P) (w:=w) hf hb hnm (#[r]++args.map a.eval);have e:#[r]++args.map a.eval=(r::args.toList.map a.eval).toArray:=by apply iE;simp
  rw[←e];simp only[execOp,ho,resolve,E9,U0,G5,invoke,e3];simp[hz,callMethod,hM,e4,this]
 split<;>try trivial
 .rename_i f hmt;have hM:=H.ms _ (Ky hmt);exact La H R (vals:=z::args.toList.map a.eval) ⟨z,_,rfl,zM hzv,hvs⟩ λfn hf hb hnm=>fin f z fn hf hb hnm (hM z w)
 .rename_i f e0 hmt;have hM:=H.ms _ (Ky hmt);refine xQ H R (zM hzv) λv' u ad hv' hp hr=>?_;refine La H R (vals:=u::args.toList.map a.eval) ⟨u,_,rfl,hv',hvs⟩ λfn hf hb hnm=>fin f u fn hf hb hnm ?_;rw[hM z w ad hp,hr];rfl
end
end Go.GP
namespace Go.GP
variable {q:Nat}{x:Operand}{t:TypeId}
section
variable {X:Fx} {S:Sm} {m:Mp} {ok:Nat->Ty->Prop} {a:Act} {w:World} {o:Oper}
theorem QS{α:Type}{Q:α->Sm->Prop}{cl ch:Nat} :∀(ms:List MG) {vs:List V} {xs:c2h} {K:List ((t:Ty)×t.den)->Cmd α} {S:Sm} {ok:Nat->Ty->Prop} (R:Rel X cl ch S m ok a w)
  (hv:dX ⟨w.heap,ok,m⟩ vs xs)
  (hK:∀S' ok' cs,Rel X cl ch S' m ok' a w->(∀b t,ok b t->ok' b t)->Am w.heap ok' cs xs->(K cs).post S' Q),(qG ms vs K).post S Q
 |[],vs,xs,K,S,ok,R,hv,hK=>by
  cases vs with
  |cons _ _=>unfold qG;trivial|nil=>unfold qG;exact hK S ok [] R (λ_ _ h=>h) hv
 |(g,.rp t)::ms,vs,xs,K,S,ok,R,hv,hK=>by
  cases vs with
  |nil=>unfold qG;trivial|cons v vs=>
   obtain⟨x,r,rfl,h1,h2⟩:=hv;unfold qG;have key:pW ⟨w.heap,ok,m⟩ v x->(rpC t v λx=>qG ms vs λcs=>K (⟨t,x⟩::cs)).post S Q:=λh1=>by refine YA (T:=[]) t R Tk.nil h1 λS1 ok1 y R1 T1 k1 s1 d1=>?_;refine QS ms R1 (Ig k1 h2) λS2 ok2 cs R2 k2 d2=>?_;exact hK S2 ok2 _ R2 (λb t h=>k2 b t (k1 b t h)) ⟨x,r,rfl,zU k2 (λ_ _ _=>rfl) d1,d2⟩
   cases v<;>first|exact key h1|(unfold rpC;trivial)
 |(g,.dat t)::ms,vs,xs,K,S,ok,R,hv,hK=>by cases vs<;>(unfold qG;trivial)|(g,.own t)::ms,vs,xs,K,S,ok,R,hv,hK=>by cases vs<;>(unfold qG;trivial)|(g,.pair p q)::ms,vs,xs,K,S,ok,R,hv,hK=>by cases vs<;>(unfold qG;trivial)|(g,.unit)::ms,vs,xs,K,S,ok,R,hv,hK=>by cases vs<;>(unfold qG;trivial)|(g,.cell _)::ms,vs,xs,K,S,ok,R,hv,hK=>by cases vs<;>(unfold qG;trivial)|(g,.fr _)::ms,vs,xs,K,S,ok,R,hv,hK=>by cases vs<;>(unfold qG;trivial)|(g,.sbx _ _)::ms,vs,xs,K,S,ok,R,hv,hK=>by cases vs<;>(unfold qG;trivial)|(g,.lp _)::ms,vs,xs,K,S,ok,R,hv,hK=>by cases vs<;>(unfold qG;trivial)|(g,.dv ..)::ms,vs,xs,K,S,ok,R,hv,hK=>by cases vs<;>(unfold qG;trivial)|(g,.ownr ..)::ms,vs,xs,K,S,ok,R,hv,hK=>by cases vs<;>(unfold qG;trivial)|(g,.sit)::ms,vs,xs,K,S,ok,R,hv,hK=>by cases vs<;>(unfold qG;trivial)|(g,.box p)::ms,vs,xs,K,S,ok,R,hv,hK=>by cases vs<;>(unfold qG;trivial)|(g,.owns p)::ms,vs,xs,K,S,ok,R,hv,hK=>by cases vs<;>(unfold qG;trivial)|(g,.ownb p)::ms,vs,xs,K,S,ok,R,hv,hK=>by cases vs<;>(unfold qG;trivial)|(g,.fn f ts)::ms,vs,xs,K,S,ok,R,hv,hK=>by cases vs<;>(unfold qG;trivial)|(g,.ifc t p)::ms,vs,xs,K,S,ok,R,hv,hK=>by cases vs<;>(unfold qG;trivial)
theorem Yl(H:FxOk X)(R:Rel X (CB*q) (CB*q+CB) S m ok a w){f:FuncId}{first caps:Array Operand}(ho:o.op= .makeFunc (.func f) first caps):(aG X.E q o).post S (λ_ S' =>eX X (CB*q) (CB*q+CB) o a w m ok S'):=by
 unfold aG;simp only[ho];refine V7 λhb=>?_;have hb' :=bQ hb;have hf:first=#[]:=by simpa using hb'
 split
 .refine V7 λhc=>?_;simp only[o9]at hc;have hn:=bQ hc.2;refine mX H R (λ_ _ h=>h) (λ_ _ h=>h) (v:=.idl f _) (x:=.func (.func f) #[] (caps.map a.eval)) ⟨caps.map a.eval,rfl,by simpa using hn⟩ ?_;simp[execOp,ho,Instr.makeFunc,hf]
 split<;>try trivial
 refine jh R _ λvs hvs=>QS _ R hvs λS' ok' cs R' k hc=>?_;refine mX H R' (λ_ _ h=>h) k (v:=.clos f cs) (x:=.func (.func f) #[] (caps.map a.eval)) ⟨caps.map a.eval,rfl,by simpa using hc⟩ ?_;simp[execOp,ho,Instr.makeFunc,hf]
theorem a3r(H:FxOk X)(R:Rel X (CB*q) (CB*q+CB) S m ok a w){c:Call}(ho:o.op= .defer c):(aG X.E q o).post S (λ_ S' =>eX X (CB*q) (CB*q+CB) o a w m ok S'):=by
 unfold aG;simp only[ho];refine V7 λhb=>?_;have hb' :=bQ hb;have hargs:c.args=#[]:=by simpa using hb'
 split<;>try trivial
 rename_i x hd hc;refine Y9 R λv hv=>?_;split<;>try trivial
 rename_i f n;split<;>try trivial
 rename_i k z hk;refine V7 λhn=>?_;simp only[o9]at hn;have hz:=bQ hn.1;have hn' :=bQ hn.2;subst hz hn';obtain⟨cap,hx,hs⟩:∃cap:Array Value,a.eval x= .func (.func f) #[] cap/\cap.size=n:=hv;intro next Q hnx
 unfold Oper.wp;have hrun:(execOp a.eval o).run X.P w= .ok (.defer { target:=.fn (.func f) cap,args:=#[] }) w:=by simp[execOp,ho,resolve,hc,hargs,hx,Deferred.ofValue]
 rw[hrun,Oper.upon_defer,hd];refine hnx m ok _ w ?_ (λ_ _ h=>h) (λ_ _ h=>h);have hid:Xo X.P { target:=.fn (.func f) cap,args:=#[] }:=H.pl _ (Nw hk) cap hs;have R' :Rel X (CB*q) (CB*q+CB) S m ok { a with defers:={ target:=.fn (.func f) cap,args:=#[] }::a.defers } w:=
  { size:=R.size,nodef:=λd hd=>(C9.1 hd).elim (λe=>e▸hid) (R.nodef d),slot:=R.slot,box:=R.box,inj:=R.inj,nd:=R.nd,sep:=R.sep,okLt:=R.okLt,okIn:=R.okIn,okOut:=R.okOut,frame:=R.frame,fresh:=R.fresh,strict:=R.strict,gl:=R.gl,kept:=R.kept }
 exact R'
theorem NT(H:FxOk X)(R:Rel X (CB*q) (CB*q+CB) S m ok a w)(ho:o.op= .makeInterface t x):(aG X.E q o).post S (λ_ S' =>eX X (CB*q) (CB*q+CB) o a w m ok S'):=by
 unfold aG;simp only[ho];refine gB H λi hi=>?_;have htd:=hi.td;have key:∀d,X.P.underlying t=some d->(∀ms,d≠.interface ms)->(lQ x λv=>(match v with
   | .b ..| .i ..| .s ..| .ptr ..=>bJ X.E o.dst (.ifc t v)
   |_=> .fail:Cmd Unit)).post S (λ_ S' =>eX X (CB*q) (CB*q+CB) o a w m ok S'):=λd hd hne=>by
  refine Y9 R λv hv=>?_;have run:(execOp a.eval o).run X.P w= .ok (.value (.iface t (a.eval x))) w:=by simp only[execOp,ho,Instr.makeInterface,E9,run_underlying hd,G5];cases d<;>first|rfl|exact absurd rfl (hne _)
  cases v<;>try trivial
  case b y=>exact Z5 H R (v:=.ifc t (.b y)) ⟨_,rfl,by rw[Oc hv];rfl,hv⟩ run
  case i k n=>exact Z5 H R (v:=.ifc t (.i k n)) ⟨_,rfl,by rw[oV hv];rfl,hv⟩ run
  case s l=>exact Z5 H R (v:=.ifc t (.s l)) ⟨_,rfl,by rw[Ie hv];rfl,hv⟩ run
  case ptr bx off=>obtain⟨blk,h1,h2⟩:=hv;exact Z5 H R (v:=.ifc t (.ptr bx off)) ⟨_,rfl,by rw[h2];rfl,⟨blk,h1,h2⟩⟩ run
 cases htd' :i.td<;>rw[htd']at htd<;>try trivial
 all_goals exact key _ htd (λ_ e=>by cases e)
theorem Ux(H:FxOk X)(R:Rel X (CB*q) (CB*q+CB) S m ok a w){xt t:TypeId}{okk:Bool}(ho:o.op= .typeAssert x xt t okk):(aG X.E q o).post S (λ_ S' =>eX X (CB*q) (CB*q+CB) o a w m ok S'):=by
 unfold aG;simp only[ho];refine gB H λi hi=>?_;have htd:=hi.td;have key:∀d,X.P.underlying t=some d->(∀ms,d≠.interface ms)->(lQ x λv=>(match v with
   | .ifc t' v=>bif Nat.beq t' t then bJ X.E o.dst (bif okk then .tup [v,.b true]else v)else .fail
   |_=> .fail:Cmd Unit)).post S (λ_ S' =>eX X (CB*q) (CB*q+CB) o a w m ok S'):=λd hd hne=>by
  refine Y9 R λv hv=>?_;cases v<;>try trivial
  case ifc t' c=>
  obtain⟨u,hx,h1,hc⟩:=hv;refine V7 λhb=>?_;have hb' :=bQ hb;subst hb';have run:(execOp a.eval o).run X.P w= .ok (.value (if okk then .tuple #[u,.bool true]else u)) w:=by simp only[execOp,ho,Instr.typeAssert,E9,run_underlying hd,G5,hx];cases d<;>first|(simp;done)|exact absurd rfl (hne _)
  cases okk
  .exact Z5 H R (zM hc) run
  .refine Z5 H R (v:=.tup [c,.b true]) ⟨_,rfl,⟨_,_,rfl,?_,_,_,rfl,rfl,rfl⟩⟩ run;cases c<;>first|exact hc|cases hc
 cases htd' :i.td<;>rw[htd']at htd<;>try trivial
 case struct fs=>obtain⟨fields,hu,_⟩:=htd;exact key _ hu (λ_ e=>by cases e)
 all_goals exact key _ htd (λ_ e=>by cases e)
theorem a3u(H:FxOk X)(R:Rel X (CB*q) (CB*q+CB) S m ok a w)(ho:o.op= .range t x):(aG X.E q o).post S (λ_ S' =>eX X (CB*q) (CB*q+CB) o a w m ok S'):=by
 unfold aG;simp only[ho];refine Y9 R λu hu=>gB H λi hi=>?_;have hd:=hi.td;split<;>try trivial
 rename_i l htd;rw[htd]at hd;have hx:a.eval x= .string ⟨l.toArray⟩:=hu;refine Em (l:=.st w.heap.size) (obj:=.stringIter ⟨l.toArray⟩ 0) H R A8 (by simp[L9]) (λhn hc=>?_) ⟨w.heap.size,A8,rfl⟩ ?_
 .exact⟨w.heap.size,⟨l.toArray⟩,0,A8,heap_alloc_new w _,A8,rfl⟩
 .have hund:X.P.underlying t=some .string:=hd;simp[execOp,ho,Instr.range,run_underlying hund,hx]
theorem a7a(H:FxOk X){cl ch:Nat}(R:Rel X cl ch S m ok a w){b:Bool}(ho:o.op= .next x b):(aG X.E q o).post S (λ_ S' =>eX X cl ch o a w m ok S'):=by
 unfold aG;simp only[ho];refine aS λhs=>?_;subst hs;refine Y9 R λu hu=>?_;split<;>try trivial
 rename_i bx;obtain⟨blk,hm,hx⟩:=hu;refine V5 ?_;split<;>try trivial
 rename_i l p hS;have hb:=R.box bx;rw[hS]at hb;obtain⟨blk',s,pos,hm',hh,g1,g2⟩:=hb;simp only at hm hm' hh;rw[hm]at hm';cases hm';subst g2;have hl:(⟨l.toArray⟩:ByteArray)=s:=by rw[←g1]
 have hlen:l.length=s.size:=by rw[←g1,Y4];rfl
 have hown:L9 m bx (S (U8+bx))=[blk]:=by rw[hS];simp[L9,hm]
 have hx:a.eval x= .pointer (some ⟨blk,0,none⟩):=hx;refine⟨λhlt=>?_,λhge=>?_⟩
 .have hlt:pos<s.size:=by unfold F9 o8 at hlt;rw[decide_eq_true_eq]at hlt;omega
  refine cu ?_;have hsz:blk<w.heap.size:=(H7.1 hh).1;have R2:Rel X cl ch (upd S (U8+bx) (.biter l (Iw l (pos:Int)))) m ok a { w with heap:=w.heap.setIfInBounds blk (.stringIter s (pos+(Utf8.decode s pos).2)) }:=by
   refine R.mod (by rw[hown];simp[L9,hm]) A8 rfl rfl rfl A8 (λb hb=>?_) ?_
   .rw[hown]at hb;simp only[dR]at hb;simp[iW,Ne.symm hb]
   .refine⟨blk,s,pos+(Utf8.decode s pos).2,hm,?_,g1,?_⟩
    .simp[iW,hsz]
    .unfold Iw;rw[hl];simp
  refine mX (o:=o) H R2 (m0:=m) (ok0:=ok) (λ_ _ h=>h) (λ_ _ h=>h) (x:=.tuple #[.bool true,.int .i64 (pos:Int),.int .i32 ((Utf8.decode s pos).1:Int)]) ?_ ?_
  .refine⟨_,rfl,⟨_,_,rfl,rfl,_,_,rfl,rfl,_,_,rfl,?_,rfl⟩⟩;show Value.int .i32 _=_;unfold Ey;rw[hl];simp
  .have e1:(getObj blk).run X.P w= .ok (.stringIter s pos) w:=by simp[getObj,Sem.run,hh]
   have e2:(setObj blk (.stringIter s (pos+(Utf8.decode s pos).2))).run X.P w= .ok () { w with heap:=w.heap.setIfInBounds blk (.stringIter s (pos+(Utf8.decode s pos).2)) }:=by simp[setObj,Sem.run,hh]
   simp[execOp,ho,Instr.next,hx,e1,e2,hlt,goInt]
 .have hge:¬pos<s.size:=λh=>by
   have:F9 ((pos:Nat):Int) (o8 l)=true:=by unfold F9 o8;rw[decide_eq_true_eq];omega
   rw[this]at hge;cases hge
  refine Z5 H R (x:=.tuple #[.bool false]) ⟨_,rfl,⟨_,_,rfl,rfl,rfl⟩⟩ ?_;have e1:(getObj blk).run X.P w= .ok (.stringIter s pos) w:=by simp[getObj,Sem.run,hh]
  simp[execOp,ho,Instr.next,hx,e1,hge]
theorem a8K(H:FxOk X)(R:Rel X (CB*q) (CB*q+CB) S m ok a w)(o:Oper):(aG X.E q o).post S (λ_ S' =>eX X (CB*q) (CB*q+CB) o a w m ok S'):=by
 have fin:∀{α:Type} {Q:α->Sm->Prop},(Cmd.fail:Cmd α).post S Q:=trivial;cases ho:o.op
 case move x=>have h:=a0X H R (o:=o) (x:=x) (.inl ho);unfold aG;simp only[ho];exact h
 case assign x=>have h:=a0X H R (o:=o) (x:=x) (.inr ho);unfold aG;simp only[ho];exact h
 case pick c x y=>exact a7b H R ho
 case alloc t=>exact a3n H R ho
 case box t x=>exact a8L H R ho
 case build t ps=>exact a3p H R ho
 case buildSlice t n ps=>exact Uw H R ho
 case load t x=>exact a6Z H R ho
 case store t x y=>exact a3w H R ho
 case binOp op t x y yt=>exact a3o H R ho
 case unOp op t x=>exact a7c H R ho
 case convert s t x=>exact ZZ H R ho
 case makeSlice t l c=>exact Wu H R ho
 case slice t x lo hi mx=>
  cases mx with
  |none=>exact a3v H R ho|some _=>unfold aG;simp only[ho];exact fin
 case fieldAddr t x f=>exact Wq H R ho
 case field t x f=>exact a3s H R ho
 case indexAddr t x ix=>exact Ws H R ho
 case index t x ix=>exact a3t H R ho
 case extract x n=>exact a_ H R ho
 case nilCheck x=>exact Ym H R ho
 case call c=>
  cases hc:c.callee
  case builtin b=>
   cases b
   case len=>exact a8N H R ho hc
   case append=>exact a1S H R ho hc
   case copy=>exact a6Y H R ho hc
   case min=>exact Vr H R ho (.inl hc)
   case max=>exact Vr H R ho (.inr hc)
   all_goals
    unfold aG;simp only[ho];exact jh R _ λvs hvs=>by simp only[hc];exact fin
  case value f=>
   cases f
   case func f=>exact a6X H R ho hc
   all_goals exact a3q H R ho hc (λf e=>by cases e)
  case invoke x n=>exact a1V H R ho hc
 case makeFunc f first caps=>
  cases f
  case func f=>exact Yl H R ho
  all_goals
   unfold aG;simp only[ho];exact fin
 case defer c=>exact a3r H R ho
 case makeInterface t x=>exact NT H R ho
 case typeAssert x xt t ok=>exact Ux H R ho
 case makeMap t r=>exact b_ H R ho
 case lookup t x ix ok=>exact a1W H R ho
 case range t x=>exact a3u H R ho
 case next x b=>exact a7a H R ho
 case mapUpdate t x ix y=>exact Mc H R (.inl ho)
 case insert t x ix y=>exact Mc H R (.inr ho)
 all_goals
  unfold aG;simp only[ho];exact fin
def VM(X:Fx)(cl ch:Nat)(ops:Array Oper)(i:Nat)(a:Act)(w:World)(m:Mp)(ok:Nat->Ty->Prop)(S' :Sm):Prop:=
 ∀(next:Act->World->Prop) (Q:Exit->Act->World->Prop),
  (∀m' ok' a' w',Rel X cl ch S' m' ok' a' w' ->(∀k l,m k=some l->m' k=some l)->(∀b t,ok b t->ok' b t)->next a' w')->wpOp X.P ops Q i next a w
theorem TP(H:FxOk X){cl ch:Nat}(R:Rel X cl ch S m ok a w){ops:Array Oper}{i:Nat}(hi:ops[i]? =some o)(hw:Region.wanted o (yielded ops a.tmps)=false):
  (bJ X.E o.dst .un).post S (λ_ S' =>VM X cl ch ops i a w m ok S'):=by
 have h:∀S',Rel X cl ch S' m ok (a.put o.dst Go.undef) w->VM X cl ch ops i a w m ok S' :=λS' R' next Q hn=>by unfold wpOp;simp only[hi,hw,dh,if_false];exact hn m ok _ w R' (λ_ _ h=>h) (λ_ _ h=>h)
 unfold bJ;cases hd:o.dst with
 |none=>rw[hd]at h;exact h S R
 |some d=>rw[hd]at h;exact aS λhb=>h _ (R.put H.ntB hb rfl)
theorem Um{tmps:Array Value}{t:Nat}{v:Value}(h:tmps.getD t Go.undef=v)(hv:v≠Go.undef):tmps[t]? =some v:=by
 rw[X4]at h;cases hx:tmps[t]? with
 |none=>rw[hx]at h;exact absurd h.symm hv|some x=>rw[hx]at h;simpa using h
theorem a2k(H:FxOk X)(R:Rel X (CB*q) (CB*q+CB) S m ok a w){ops:Array Oper}{i:Nat}(hi:ops[i]? =some o):
  (kP X.E q ops.toList o).post S (λ_ S' =>VM X (CB*q) (CB*q+CB) ops i a w m ok S'):=by
 have yes:Region.wanted o (yielded ops a.tmps)=true->(aG X.E q o).post S (λ_ S' =>VM X (CB*q) (CB*q+CB) ops i a w m ok S'):=λhw=>by
  refine xW ?_ (a8K H R o);intro _ S' h next Q hn
  unfold wpOp;simp only[hi,hw,if_true];exact .inl (h next Q hn)
 unfold kP;cases hg:o.guard with
 |none=>exact yes (by simp[Region.wanted,hg])|some p=>
  obtain⟨j,want⟩:=p;cases hj:ops.toList[j]? with
  |none=>simp only[hj];trivial|some p=>
   simp only[hj];have hj' :ops[j]? =some p:=by simpa using hj
   cases hd:p.dst with
   |none=>trivial|some t=>
    simp only[];refine aS λhlt=>V5 ?_;have hsl:=R.slot t (EG hlt);have hyd:yielded ops a.tmps j=match a.tmps[t]? with|some (.bool b)=>some b|_=>none:=by unfold yielded;rw[hj'];simp only[fC,hd];rfl
    split<;>try trivial
    .rename_i y hS;rw[hS]at hsl;have hb:a.tmps.getD t Go.undef= .bool y:=hsl;have hy:yielded ops a.tmps j=some y:=by
      rw[hyd,Um hb (by simp[Go.undef])]
     have hwt:Region.wanted o (yielded ops a.tmps)=(bif want then y else !y):=by unfold Region.wanted;rw[hg];simp only[hy];cases want<;>cases y<;>rfl
     cases hc:(bif want then y else !y)
     .simp only[cond_false];exact TP H R hi (hwt.trans hc)
     .simp only[cond_true];exact yes (hwt.trans hc)
    .rename_i hS;rw[hS]at hsl;have hb:a.tmps.getD t Go.undef=Go.undef:=hsl;have hwt:Region.wanted o (yielded ops a.tmps)=false:=by
      unfold Region.wanted;rw[hg];simp only[hyd];rw[X4]at hb;cases hx:a.tmps[t]? with
      |none=>rfl|some x=>rw[hx]at hb;simp only[jB]at hb;subst hb;rfl
     exact TP H R hi hwt
end
end Go.GP
namespace Go.GP
def OL(E:Env)(q:Nat)(all l:List Oper)(S:Nat->Sm)(T:Nat->Tr):Prop:=
 ∀i o,l[i]? =some o->(kP E q all o).eval (S i) ([],[])=some ((),S (i+1),T i)
def a5b(s:Sm)(S:Nat->Sm):Nat->Sm|0=>s|i+1=>S i
def a5c(t:Tr)(T:Nat->Tr):Nat->Tr|0=>t|i+1=>T i
theorem MI{R:Type}{t:Nat}{s:St}{K:St->Option R}{r:R}(h:Qx t s K=some r):∃s0,cO s0=cO s/\K s0=some r:=by
 unfold Qx at h;rw[Ea]at h;split at h<;>try (simp at h;done)
 .rename_i y hy;have key:∀b:Bool,y=b->cO (.kv t (.b b)::s)=cO s:=λb hb=>by
   subst hb;rw[a0N];funext k;by_cases e:k=t
   .subst e;simp[hy]
   .rw[aA _ _ e]
  cases y
  .exact⟨_,key false rfl,h⟩
  .exact⟨_,key true rfl,h⟩
 .exact⟨s,rfl,h⟩
theorem PT{R:Type}{E:Env}{q:Nat}{all:List Oper} :∀(l:List Oper) {s:St} {t:Trs} {K:St->Trs->Option R} {r:R},KH E q all l s t K=some r->
  ∃s' S T,S 0=cO s/\S l.length=cO s' /\OL E q all l S T/\K s' (((List.range l.length).map T).reverse++t)=some r
 |[],s,t,K,r,h=>⟨s,λ_=>cO s,λ_=>([],[]),rfl,rfl,λi o hi=>by simp at hi,by simpa[KH]using h⟩|o::l,s,t,K,r,h=>by
  have key:∀s0,cO s0=cO s->(kP E q all o).runK s0 ([],[]) (λ_ s' tr=>KH E q all l s' (tr::t) K)=some r->
    ∃s' S T,S 0=cO s/\S (o::l).length=cO s' /\OL E q all (o::l) S T/\K s' (((List.range (o::l).length).map T).reverse++t)=some r:=λs0 hs0 h=>by
   obtain⟨x,s1,tr,e,hk⟩:=lU h;obtain⟨s',S,T,h0,h1,h2,h3⟩:=PT l hk;refine⟨s',a5b (cO s) S,a5c tr T,rfl,h1,λi o' hi=>?_,?_⟩
   .cases i with
    |zero=>simp at hi;subst hi;show(kP E q all o).eval (cO s) ([],[])=some ((),S 0,tr);rw[←hs0,e,h0]|succ i=>exact h2 i o' (by simpa using hi)
   .rw[G8,List.range_succ_eq_map,dI,List.reverse_cons,G7,List.map_map];exact h3
  unfold KH at h;split at h
  .exact key s rfl h
  .obtain⟨s0,e,h⟩:=MI h;exact key s0 e h
theorem nR{α:Type}(T:Nat->α)(n:Nat):((List.range (n+1)).map T).reverse=T n::((List.range n).map T).reverse:=by rw[ed,dG,List.reverse_append];rfl
theorem vH{a b:c2i}(h:Qe a b=true):∀k∈a,k∉b:=by
 induction a with
 |nil=>intro k hk;cases hk|cons x a ih=>
  unfold Qe at h;cases hm:zJ x b
  .simp only[hm,cond_false]at h;intro k hk hkb;rcases C9.1 hk with rfl|hk
   .have:∀(l:c2i),zJ k l=false->k∉l:=by
     intro l;induction l with
     |nil=>intro _ h;cases h|cons y l ih=>
      intro hm hk;unfold zJ at hm;cases hb:Nat.beq y k
      .simp only[hb,cond_false]at hm;rcases C9.1 hk with rfl|hk
       .simp at hb
       .exact ih hm hk
      .simp[hb]at hm
    exact this b hm hkb
   .exact ih h k hk hkb
  .simp[hm]at h
theorem Sv{k:Nat} :∀{l:c2i},zJ k l=true->k∈l
 |[],h=>by simp[zJ]at h|y::l,h=>by
  unfold zJ at h;cases hb:Nat.beq y k
  .simp only[hb,cond_false]at h;exact P9 _ (Sv h)
  .have:=bQ hb;subst this;simp
def a2w(x y:Tr):Prop:=(∀k∈x.2,k∉y.1/\k∉y.2)/\∀k∈x.1,k∉y.2
theorem Yj{b:Bool}{x y:Tr}(h:ZX b x y=true):b=true\/a2w x y:=by
 unfold ZX at h;cases b
 .simp only[cond_false,o9]at h;exact .inr ⟨λk hk=>⟨vH h.1.1 k hk,vH h.1.2 k hk⟩,λk hk=>vH h.2 k hk⟩
 .exact .inl rfl
theorem LX{mask:Nat}{y:Tr}{T:Nat->Tr} :∀n,Qv mask y ((List.range n).map T).reverse n=true->∀i,i<n->Nat.testBit mask i=true\/a2w (T i) y
 |0,_,i,hi=>by omega|n+1,h,i,hi=>by
  rw[nR]at h;unfold Qv at h;simp only[Nat.add_sub_cancel,o9]at h;by_cases e:i=n
  .subst e;exact Yj h.1
  .exact LX n h.2 i o5
theorem PE{M:Nat->Nat}{T:Nat->Tr} :∀n,SN ((List.range n).map M).reverse ((List.range n).map T).reverse=true->∀i j,i<j->j<n->Nat.testBit (M j) i=true\/a2w (T i) (T j)
 |0,_,i,j,_,hj=>by omega|n+1,h,i,j,hi,hj=>by
  rw[nR,nR]at h;unfold SN at h;simp only[o9,List.length_reverse,U5,eP]at h;by_cases e:j=n
  .subst e;exact LX j h.1 i hi
  .exact PE n h.2 i j hi o5
theorem a0z{α:Type}{eq:α->α->Bool}(h:∀a b,eq a b=true->a=b):∀{l m:List α},a6L eq l m=true->l=m
 |[],[],_=>rfl|[],_::_,e=>by cases e|_::_,[],e=>by cases e|a::l,b::m,e=>by simp only[a6L,o9]at e;rw[h _ _ e.1,a0z h e.2]
theorem IU:∀{t:Ty} (a b:t.den),Rn t a b=true->a=b
 | .bool,a,b,e=>a0f e| .int _,a,b,e=>of_decide_eq_true e| .str,a,b,e=>of_decide_eq_true e| .sl t,a,b,e=>a0z (λx y h=>IU x y h) e| .prod p q,a,b,e=>by have e:(Rn p a.1 b.1&&Rn q a.2 b.2)=true:=e;rw[o9]at e;exact um (IU _ _ e.1) (IU _ _ e.2)| .unit,a,b,e=>rfl| .any _,a,b,e=>rfl| .ent _ _ p q,a,b,e=>by have e:(Rn p a.1 b.1&&Rn q a.2 b.2)=true:=e;rw[o9]at e;exact um (IU _ _ e.1) (IU _ _ e.2)
theorem a0i{R:Type}{a b:V}{K:Option R}{r:R}(h:a6B a b K=some r):a=b/\K=some r:=by
 unfold a6B at h;rw[Ea,Ea]at h;cases a with
 |i k n=>
  cases b with
  |i k' n' =>
   cases hk:decide (k=k')
   .simp[hk]at h
   .have e:=of_decide_eq_true hk;subst e;simp only[hk,cond_true]at h;cases hi:x9 n n'<;>rw[hi]at h
    .cases h
    .have e:=of_decide_eq_true (show decide (n=n')=true from hi);subst e;exact⟨rfl,h⟩
  |_=>cases h
 |sl t xs=>
  cases b with
  |sl u ys=>
   simp only[Ty.castL]at h;by_cases e:u=t
   .subst e;simp only[dif_pos]at h;cases hi:deq (.sl u) xs ys<;>rw[hi]at h
    .cases h
    .rw[IU (t:=.sl u) xs ys hi];exact⟨rfl,h⟩
   .rw[dif_neg e]at h;cases h
  |_=>cases h
 |b x=>
  cases b with
  |b y=>
   cases hi:Ak x y<;>simp only[hi,l7]at h
   .cases h
   .have e:x=y:=by simpa[Ak]using hi
    subst e;exact⟨rfl,h⟩
  |_=>cases h
 |s x=>
  cases b with
  |s y=>
   cases hi:seq x y<;>simp only[hi,l7]at h
   .cases h
   .have e:x=y:=by simpa[seq]using hi
    subst e;exact⟨rfl,h⟩
  |_=>cases h
 |_=>cases h
theorem Ip:∀{a b:c2i},Io a b=true->a=b
 |[],[],_=>rfl|[],_::_,h=>by cases h|_::_,[],h=>by cases h|a::l,b::m,h=>by
  unfold Io at h;cases hb:Nat.beq a b
  .simp[hb]at h
  .simp only[hb,cond_true]at h;rw[bQ hb,Ip h]
def Rp(E:Env)(q:Nat)(all:List Oper)(o:Oper)(tr:Tr)(v:V)(S:Sm):Prop:=
 ∃d S',o.dst=some d/\tr.2=[d]/\(kP E q all o).eval S ([],[])=some ((),S',tr)/\S' d=v
theorem Ti{R:Type}{E:Env}{q:Nat}{all:List Oper}{s:St} :∀{p:a1o} {K:Option R} {r:R},Vy E q all s p K=some r->
  (∀x∈p,Rp E q all x.1 x.2.1 x.2.2 (cO s))/\K=some r
 |[],K,r,h=>⟨λx hx=>by(cases hx),h⟩|(o,tr,v)::p,K,r,h=>by
  unfold Vy at h;obtain⟨x,s2,tr2,e,hk⟩:=lU h;cases hd:o.dst with
  |none=>simp[hd]at hk|some d=>
   simp only[hd]at hk;cases hc:(Io tr.1 tr2.1&&Io tr.2 tr2.2&&Io tr2.2 [d])
   .simp[hc]at hk
   .simp only[hc,cond_true]at hk;simp only[o9]at hc;obtain⟨⟨h1,h2⟩,h3⟩:=hc;have h1:=Ip h1;have h2:=Ip h2;have h3:=Ip h3;have etr:tr=tr2:=um h1 h2;subst etr;obtain⟨hv,hk⟩:=a0i hk;obtain⟨g1,g2⟩:=Ti hk;refine⟨λy hy=>?_,g2⟩;rcases C9.1 hy with rfl|hy
    .exact⟨d,_,hd,h3,e,hv.symm⟩
    .exact g1 y hy
theorem MS{R:Type}{E:Env}{q:Nat}{all:List Oper} :∀(l:List Oper) {s:St} {t:Trs} {p:a1o} {K:St->Trs->Option R} {r:R},wS E q all l s t p K=some r->
  ∃s' S T,S 0=cO s/\S l.length=cO s' /\OL E q all l S T/\K s' (((List.range l.length).map T).reverse++t)=some r/\
   (∀x∈p,∀j o',l[j]? =some o' ->lg o' =true->Rp E q all x.1 x.2.1 x.2.2 (S (j+1)))/\
   (∀i j o o',i<j->l[i]? =some o->l[j]? =some o' ->We E o=true->lg o' =true->∃d,o.dst=some d/\Rp E q all o (T i) (S (i+1) d) (S (j+1)))
 |[],s,t,p,K,r,h=>⟨s,λ_=>cO s,λ_=>([],[]),rfl,rfl,λi o hi=>by simp at hi,by simpa[wS]using h,λx _ j o' hj=>by simp at hj,λi j o o' _ hi=>by simp at hi⟩|o::l,s,t,p,K,r,h=>by
  have key:∀s0,cO s0=cO s->(kP E q all o).runK s0 ([],[]) (λ_ s' tr=>bif lg o then Vy E q all s' p (wS E q all l s' (tr::t) p K)else wS E q all l s' (tr::t) (SS E o s' tr p) K)=some r->
    ∃s' S T,S 0=cO s/\S (o::l).length=cO s' /\OL E q all (o::l) S T/\K s' (((List.range (o::l).length).map T).reverse++t)=some r/\
   (∀x∈p,∀j o',(o::l)[j]? =some o' ->lg o' =true->Rp E q all x.1 x.2.1 x.2.2 (S (j+1)))/\
   (∀i j o1 o',i<j->(o::l)[i]? =some o1->(o::l)[j]? =some o' ->We E o1=true->lg o' =true->∃d,o1.dst=some d/\Rp E q all o1 (T i) (S (i+1) d) (S (j+1))):=λs0 hs0 h=>by
   obtain⟨x,s1,tr,e,hk⟩:=lU h;have fin:∀p',(∀y∈p,y∈p')->(We E o=true->lg o=false->∃d,o.dst=some d/\(o,tr,cO s1 d)∈p')->(lg o=true->∀y∈p,Rp E q all y.1 y.2.1 y.2.2 (cO s1))->wS E q all l s1 (tr::t) p' K=some r->
     ∃s' S T,S 0=cO s/\S (o::l).length=cO s' /\OL E q all (o::l) S T/\K s' (((List.range (o::l).length).map T).reverse++t)=some r/\
   (∀x∈p,∀j o',(o::l)[j]? =some o' ->lg o' =true->Rp E q all x.1 x.2.1 x.2.2 (S (j+1)))/\
   (∀i j o1 o',i<j->(o::l)[i]? =some o1->(o::l)[j]? =some o' ->We E o1=true->lg o' =true->∃d,o1.dst=some d/\Rp E q all o1 (T i) (S (i+1) d) (S (j+1))):=λp' hp' hex hcall hk=>by
    obtain⟨s',S,T,h0,h1,h2,h3,h4,h5⟩:=MS l hk;refine⟨s',a5b (cO s) S,a5c tr T,rfl,h1,λi o' hi=>?_,?_,λy hy j o' hj hc=>?_,λi j o1 o' hij hi hj he hc=>?_⟩
    .cases i with
     |zero=>simp at hi;subst hi;show(kP E q all o).eval (cO s) ([],[])=some ((),S 0,tr);rw[←hs0,e,h0]|succ i=>exact h2 i o' (by simpa using hi)
    .rw[G8,List.range_succ_eq_map,dI,List.reverse_cons,G7,List.map_map];exact h3
    .cases j with
     |zero=>simp at hj;subst hj;show Rp E q all y.1 y.2.1 y.2.2 (S 0);rw[h0];exact hcall hc y hy|succ j=>exact h4 y (hp' y hy) j o' (by simpa using hj) hc
    .cases j with
     |zero=>omega|succ j=>
      cases i with
      |zero=>
       simp at hi;subst hi;have hnc:lg o=false:=by
        unfold We at he;cases hcc:lg o
        .rfl
        .simp[hcc]at he
       obtain⟨d,hd,hm⟩:=hex he hnc;refine⟨d,hd,?_⟩;have:=h4 _ hm j o' (by simpa using hj) hc;show Rp E q all o tr (S 0 d) (S (j+1));rw[h0];exact this
      |succ i=>exact h5 i j o1 o' o5 (by simpa using hi) (by simpa using hj) he hc
   cases hc:lg o
   .simp only[hc,cond_false]at hk;refine fin _ (λy hy=>?_) (λhe _=>?_) (λh=>by rw[hc]at h;cases h) hk
    .unfold SS;cases hx:We E o
     .exact hy
     .simp only[cond_true];cases hd:o.dst with
      |none=>exact hy|some d=>exact P9 _ hy
    .cases hd:o.dst with
     |none=>simp[We,hd]at he|some d=>exact⟨d,rfl,by simp[SS,he,hd]⟩
   .simp only[hc,cond_true]at hk;obtain⟨g1,g2⟩:=Ti hk;exact fin p (λ_ h=>h) (λ_ h=>by rw[hc]at h;cases h) (λ_=>g1) g2
  unfold wS at h;split at h
  .exact key s rfl h
  .obtain⟨s0,e,h⟩:=MI h;exact key s0 e h
def a0l(ord:Nat->Nat->Prop)(ex:Nat->Nat->Prop)(T:Nat->Tr)(i j:Nat):Prop:=
 ord i j\/((∀k∈(T i).2,k∉(T j).1/\k∉(T j).2)/\((∀k∈(T i).1,k∉(T j).2)\/
  (ex i j/\(∀k∈(T i).2,k∉(T i).1)/\∀m,i<m->m<j->ord m j\/∀k∈(T i).1,k∉(T m).2)))
theorem SC{mask:Nat}{x:Tr} :∀{l:List (Nat×Tr)},a0T mask x l=true->∀y∈l,Nat.testBit mask y.1=true\/∀k∈x.1,k∉y.2.2
 |[],_,y,hy=>by cases hy|(m,z)::l,h,y,hy=>by
  unfold a0T at h;simp only[o9,jZ]at h;rcases C9.1 hy with rfl|hy
  .exact h.1.imp id (λh=>vH h)
  .exact SC h.2 y hy
theorem JC{E:Env}{all:List Oper}{mask:Nat}{y:Tr}{cy:Bool}{T:Nat->Tr}{N:Nat} :∀n (mids:List (Nat×Tr)),(∀m,n<=m->m<N->(m,T m)∈mids)->LW E all mask y cy ((List.range n).map T).reverse n mids=true->
  ∀i,i<n->Nat.testBit mask i=true\/((∀k∈(T i).2,k∉y.1/\k∉y.2)/\((∀k∈(T i).1,k∉y.2)\/((cy=true/\a2S E all i=true)/\(∀k∈(T i).2,k∉(T i).1)/\∀m,i<m->m<N->Nat.testBit mask m=true\/∀k∈(T i).1,k∉(T m).2)))
 |0,_,_,_,i,hi=>by omega|n+1,mids,hm,h,i,hi=>by
  rw[nR]at h;unfold LW at h;simp only[Nat.add_sub_cancel,o9]at h;by_cases e:i=n
  .subst e;have h:=h.1;unfold a0W at h;cases hb:Nat.testBit mask i
   .simp only[hb,cond_false,o9]at h;refine .inr ⟨λk hk=>⟨vH h.1.1 k hk,vH h.1.2 k hk⟩,?_⟩;have h2:=h.2;cases hdj:Qe (T i).1 y.2
    .simp only[hdj,cond_false,o9]at h2;exact .inr ⟨h2.1.1,vH h2.1.2,λm h3 h4=>SC h2.2 _ (hm m o5 h4)⟩
    .exact .inl (vH hdj)
   .exact .inl rfl
  .refine JC n _ (λm h1 h2=>?_) h.2 i o5;by_cases e2:m=n
   .subst e2;simp
   .exact P9 _ (hm m o5 h2)
theorem LZ{E:Env}{all:List Oper}{M:Nat->Nat}{T:Nat->Tr} :∀n,LY E all ((List.range n).map M).reverse ((List.range n).map T).reverse=true->∀i j,i<j->j<n->
  a0l (λi j=>Nat.testBit (M j) i=true) (λi j=>VQ all j=true/\a2S E all i=true) T i j
 |0,_,i,j,_,hj=>by omega|n+1,h,i,j,hi,hj=>by
  rw[nR,nR]at h;unfold LY at h;simp only[o9,List.length_reverse,U5,eP]at h;by_cases e:j=n
  .subst e;exact JC (N:=j) j [] (λm h1 h2=>by omega) h.1 i hi
  .exact LZ n h.2 i j hi o5
theorem a3d{P:Nat->Prop} :∀(n:Nat),(∃j,j<n/\P j)->∃j,j<n/\P j/\∀m,j<m->m<n->¬P m
 |0,⟨j,h,_⟩=>by omega|n+1,⟨j,h,hp⟩=>by
  by_cases e:P n
  .exact⟨n,o5,e,λm h1 h2=>by omega⟩
  .have:j≠n:=λe2=>e (e2▸hp);obtain⟨j',h1,h2,h3⟩:=a3d n ⟨j,o5,hp⟩;refine⟨j',o5,h2,λm h4 h5=>?_⟩;by_cases e2:m=n
   .subst e2;exact e
   .exact h3 m h4 o5
variable {n:Nat}
theorem a2C{c:Nat->Cmd Unit}{S:Nat->Sm}{T:Nat->Tr}(hs:∀i,i<n->(c i).eval (S i) ([],[])=some ((),S (i+1),T i)){ord ex:Nat->Nat->Prop}
  (hc:∀i j,i<j->j<n->a0l ord ex T i j) (hex:∀i j,i<j->j<n->ex i j->∃S',(c i).eval (S (j+1)) ([],[])=some ((),S',T i)/\∀k∈(T i).2,S' k=S (i+1) k)
  {D:c2i} {i:Nat} (hi:i<n) (hD:i∉D) (hlt:∀j∈D,j<n) (hp:∀j,ord j i->j∈D) (hdown:∀j∈D,∀k,ord k j->k∈D):
  (c i).eval (SD S T D n) ([],[])=some ((),SD S T (i::D) n,T i):=by
 have before:∀k,(k∈(T i).1\/k∈(T i).2)->∀j,j<i->k∈(T j).2->j∈D:=λk hk j hj hw=>by
  rcases hc j i hj hi with h|⟨h1,_⟩
  .exact hp j h
  .rcases hk with hk|hk
   .exact absurd hk (h1 k hw).1
   .exact absurd hk (h1 k hw).2
 have afterW:∀k,k∈(T i).2->∀j,i<j->j<n->k∈(T j).2->j∉D:=λk hk j hj hjn hw hjD=>by
  rcases hc i j hj hjn with h|⟨h1,h2⟩
  .exact hD (hdown j hjD i h)
  .exact(h1 k hk).2 hw
 have fin:∀S0 S1:Sm,(c i).eval S0 ([],[])=some ((),S1,T i)->(∀k∈(T i).2,S1 k=S (i+1) k)->(∀k∈(T i).1,SD S T D n k=S0 k)->(c i).eval (SD S T D n) ([],[])=some ((),SD S T (i::D) n,T i):=λS0 S1 he hv hr=>by
  obtain⟨T',h1,_,h3,h4⟩:=uX he (SD S T D n) hr;rw[h1];have:T' =SD S T (i::D) n:=by
   funext k;by_cases hk:k∈(T i).2
   .rw[h4 k hk A8,hv k hk];rw[QG (i::D) k (i+1) n o5 (λj h1 h2 hw=>by
     simp only[C9,not_or];exact⟨o5,afterW k hk j o5 h2 hw⟩)]
    simp[SD,hk]
   .rw[h3 k hk,a0n D i k hk]
  rw[this]
 by_cases hx:∃j,j<n/\(i<j/\j∈D/\∃k∈(T i).1,k∈(T j).2)
 .obtain⟨j,hjn,⟨hij,hjD,k0,hk0,hk1⟩,hmax⟩:=a3d n hx;rcases hc i j hij hjn with h|⟨_,h2⟩
  .exact absurd (hdown j hjD i h) hD
  .rcases h2 with h2|⟨h3,h4,h5⟩
   .exact absurd hk1 (h2 k0 hk0)
   .obtain⟨S',he,hv⟩:=hex i j hij hjn h3;refine fin (S (j+1)) S' he hv λk hk=>?_;rw[QG D k (j+1) n o5 (λm g1 g2 hw hmD=>hmax m o5 g2 ⟨o5,hmD,k,hk,hw⟩)];refine IM hs D k (j+1) o5 λm hm hw=>?_;rcases Nat.lt_trichotomy m i with g|g|g
    .exact before k (.inl hk) m g hw
    .subst g;exact absurd hk (h4 k hw)
    .by_cases e:m=j
     .subst e;exact hjD
     .rcases h5 m g o5 with g2|g2
      .exact hdown j hjD m g2
      .exact absurd hw (g2 k hk)
 .refine fin (S i) (S (i+1)) (hs i hi) (λ_ _=>rfl) λk hk=>?_;rw[QG D k i n o5 (λj h1 h2 hw hjD=>by
   by_cases e:j=i
   .subst e;exact hD hjD
   .exact hx ⟨j,h2,o5,hjD,k,hk,hw⟩)]
  exact IM hs D k i o5 (before k (.inl hk))
def oh(e:Edge):Prop:=match e.ground with| .textOnly _=>False| .gcOnly _=>False|_=>True
theorem oh.binds{e:Edge}(h:oh e)(md:Region.Mode):Region.binds md e=true:=by unfold oh at h;unfold Region.binds;split<;>simp_all
theorem a1t{e:Edge}(h:Region.binds .any e=true):oh e:=by unfold Region.binds at h;unfold oh;split<;>simp_all
theorem Dt{M:Nat->Nat}{n k:Nat}(hk:k<n):(((List.range n).map M).reverse).getD (n -1 -k) 0=M k:=by rw[NK,List.getElem?_reverse az];simp only[U5,eP,dF];rw[show n -1 -(n -1 -k)=k by omega];simp[hk]
theorem JW{M:Nat->Nat}{n:Nat} :∀(es:List Edge) {m m' :Nat},Jw ((List.range n).map M).reverse n es m=some m' ->
  (∀e∈es,oh e->e.on<n)/\∀j,Nat.testBit m' j=true->Nat.testBit m j=true\/∃e∈es,oh e/\(j=e.on\/Nat.testBit (M e.on) j=true)
 |[],m,m',h=>by simp[Jw]at h;subst h;exact⟨λ_ h=>absurd h A8,λj hj=> .inl hj⟩|e::es,m,m',h=>by
  have plain:(bif Nat.blt e.on n then Jw ((List.range n).map M).reverse n es (m ||| 2^e.on ||| (((List.range n).map M).reverse).getD (n -1 -e.on) 0)else none)=some m' ->oh e->
    (∀e' ∈e::es,oh e' ->e'.on<n)/\∀j,Nat.testBit m' j=true->Nat.testBit m j=true\/∃e' ∈e::es,oh e' /\(j=e'.on\/Nat.testBit (M e'.on) j=true):=λh hp=>by
   cases hb:Nat.blt e.on n
   .simp[hb]at h
   .simp only[hb,cond_true]at h;have hlt:=EG hb;rw[Dt hlt]at h;obtain⟨h1,h2⟩:=JW es h;refine⟨λe' he' hp' =>?_,λj hj=>?_⟩
    .rcases C9.1 he' with rfl|he'
     .exact hlt
     .exact h1 e' he' hp'
    .rcases h2 j hj with h3|⟨e',he',hp',h3⟩
     .rw[Nat.testBit_or,Nat.testBit_or,jZ,jZ]at h3;rcases h3 with(h3|h3)|h3
      .exact .inl h3
      .rw[Nat.testBit_two_pow]at h3;exact .inr ⟨e,A8,hp,.inl (of_decide_eq_true h3).symm⟩
      .exact .inr ⟨e,A8,hp,.inr h3⟩
     .exact .inr ⟨e',by simp[he'],hp',h3⟩
  have skip:Jw ((List.range n).map M).reverse n es m=some m' ->¬oh e->
    (∀e' ∈e::es,oh e' ->e'.on<n)/\∀j,Nat.testBit m' j=true->Nat.testBit m j=true\/∃e' ∈e::es,oh e' /\(j=e'.on\/Nat.testBit (M e'.on) j=true):=λh hp=>by
   obtain⟨h1,h2⟩:=JW es h;refine⟨λe' he' hp' =>?_,λj hj=>?_⟩
   .rcases C9.1 he' with rfl|he'
    .exact absurd hp' hp
    .exact h1 e' he' hp'
   .rcases h2 j hj with h3|⟨e',he',hp',h3⟩
    .exact .inl h3
    .exact .inr ⟨e',by simp[he'],hp',h3⟩
  unfold Jw at h;cases hg:e.ground<;>simp only[hg]at h
  case textOnly=>exact skip h (by simp[oh,hg])
  case gcOnly=>exact skip h (by simp[oh,hg])
  all_goals exact plain h (by simp[oh,hg])
theorem Je:∀(l:List Oper) {n:Nat} {M:Nat->Nat} {ms:c2i},Wy l n ((List.range n).map M).reverse=some ms->
  ∃M' :Nat->Nat,ms=((List.range (n+l.length)).map M').reverse/\(∀k,k<n->M' k=M k)/\
   ∀i o,l[i]? =some o->(∀e∈o.after.toList,oh e->e.on<n+i)/\∀j,Nat.testBit (M' (n+i)) j=true->∃e∈o.after.toList,oh e/\(j=e.on\/Nat.testBit (M' e.on) j=true)
 |[],n,M,ms,h=>by simp only[Wy,F5]at h;subst h;exact⟨M,rfl,λ_ _=>rfl,λi o hi=>by simp at hi⟩|o::l,n,M,ms,h=>by
  unfold Wy at h;cases he:Jw ((List.range n).map M).reverse n o.after.toList 0 with
  |none=>simp[he]at h|some m=>
   simp only[he]at h;obtain⟨h1,h2⟩:=JW _ he;have hM:m::((List.range n).map M).reverse=((List.range (n+1)).map (λk=>if k=n then m else M k)).reverse:=by rw[nR];simp only[if_true];congr 2;apply eQ;intro k hk;rw[if_neg];have:=dM.1 hk;omega
   rw[hM]at h;obtain⟨M',e1,e2,e3⟩:=Je l h;have hMn:M' n=m:=by rw[e2 n o5];simp
   have hMk:∀k,k<n->M' k=M k:=λk hk=>by rw[e2 k o5,if_neg o5]
   refine⟨M',by rw[e1];congr 3;simp;omega,hMk,λi o' hi=>?_⟩;cases i with
   |zero=>
    simp at hi;subst hi;refine⟨h1,λj hj=>?_⟩;rw[aj,hMn]at hj;rcases h2 j hj with h3|⟨e,hem,hp,h3⟩
    .simp at h3
    .exact⟨e,hem,hp,by rwa[hMk _ (h1 e hem hp)]⟩
   |succ i=>have:=e3 i o' (by simpa using hi);rwa[show n+1+i=n+(i+1) by omega]at this
theorem SK:∀(n:Nat) {D:c2i},D.Nodup->(∀x∈D,x<n)->D.length<=n
 |0,D,_,h=>by
  cases D with
  |nil=>simp|cons x D=>have:=h x A8;omega
 |n+1,D,hD,h=>by
  by_cases hn:n∈D
  .have h1:=SK n (D:=D.erase n) (hD.erase n) (λx hx=>by
    have:=(hD.mem_erase_iff).1 hx;have:=h x this.2;omega)
   rw[List.length_erase_of_mem hn]at h1;omega
  .have h1:=SK n hD (λx hx=>by
    have:=h x hx;have:x≠n:=λe=>hn (e▸hx);omega)
   omega
theorem a1R{D:c2i}(hD:D.Nodup)(h:∀x∈D,x<n)(hl:n<=D.length):∀i,i<n->i∈D:=λi hi=>by
 refine Classical.byContradiction λhn=>?_;have:=SK n (D:=i::D) (V9.2 ⟨hn,hD⟩) (λx hx=>by
  rcases C9.1 hx with rfl|hx
  .exact hi
  .exact h x hx)
 simp at this;omega
def JR(md:Region.Mode)(ops:Array Oper):Prop:=∃rk:Nat->Nat,∀i o,ops[i]? =some o->∀e∈o.after.toList,Region.binds md e=true->e.on<ops.size/\rk e.on<rk i
theorem PL:∀{es:List Edge},NW es=true->∀e∈es,oh e
 |[],_,e,he=>by cases he|e::es,h,e',he' =>by
  unfold NW at h;have hp:oh e:=by cases hg:e.ground<;>simp[hg]at h<;>simp[oh,hg]
  have hr:NW es=true:=by cases hg:e.ground<;>simp[hg]at h<;>exact h
  rcases C9.1 he' with rfl|he'
  .exact hp
  .exact PL hr e' he'
theorem JD:∀{l:List Oper},Bd l=true->∀o∈l,∀e∈o.after.toList,oh e
 |[],_,o,ho=>by cases ho|o::l,h,o',ho' =>by
  unfold Bd at h;cases hp:NW o.after.toList
  .simp[hp]at h
  .simp only[hp,cond_true]at h;rcases C9.1 ho' with rfl|ho'
   .exact PL hp
   .exact JD h o' ho'
theorem PM{md:Region.Mode}{done:c2i} :∀{es:List Edge},KE md done es=true->∀e∈es,Region.binds md e=true->e.on∈done
 |[],_,e,he,_=>by cases he|e::es,h,e',he',hb=>by
  unfold KE at h;cases hc:(!Region.binds md e || zJ e.on done)
  .simp[hc]at h
  .simp only[hc,cond_true]at h;rcases C9.1 he' with rfl|he'
   .rw[hb]at hc;simp at hc;exact Sv hc
   .exact PM h e' he' hb
theorem Gl{md:Region.Mode}{done:c2i} :∀{l:List Oper} {n i:Nat},qX md done l n=some i->∃o,l[i -n]? =some o/\n<=i/\i<n+l.length/\KE md done o.after.toList=true
 |[],n,i,h=>by simp[qX]at h|o::l,n,i,h=>by
  unfold qX at h;have rec' :qX md done l (n+1)=some i->∃o',(o::l)[i -n]? =some o' /\n<=i/\i<n+(o::l).length/\KE md done o'.after.toList=true:=λh=>by obtain⟨o',h1,h2,h3,h4⟩:=Gl h;refine⟨o',?_,o5,by simp;omega,h4⟩;rw[show i -n=(i -(n+1))+1 by omega];simpa using h1
  cases hm:zJ n done
  .simp only[hm,cond_false]at h;cases hr:KE md done o.after.toList
   .simp only[hr,cond_false]at h;exact rec' h
   .simp only[hr,cond_true,F5]at h;subst h;exact⟨o,A8,D9 _,A8,hr⟩
  .simp only[hm,cond_true]at h;exact rec' h
theorem QJ:∀{n:Nat} {d:c2i},a0p n d=true->∀i,i<n->i∈d
 |0,d,_,i,hi=>by omega|n+1,d,h,i,hi=>by
  unfold a0p at h;simp only[o9]at h;by_cases e:i=n
  .subst e;exact Sv h.1
  .exact QJ h.2 i o5
theorem CZ{md:Region.Mode}{ops:Array Oper} :∀(k:Nat) {done:c2i} {rk:Nat->Nat},Xh md ops.toList k done=true->
  (∀x∈done,rk x<done.length)->(∀i∈done,∀o,ops[i]? =some o->∀e∈o.after.toList,Region.binds md e=true->e.on∈done/\e.on<ops.size/\rk e.on<rk i)->(∀x∈done,x<ops.size)->JR md ops
 |0,done,rk,h,h1,h2,h3=>by have hall:=QJ h;simp only[Y4]at hall;exact⟨rk,λi o hi e he hb=>(h2 i (hall i (H7.1 hi).1) o hi e he hb).2⟩|k+1,done,rk,h,h1,h2,h3=>by
  unfold Xh at h;cases hf:qX md done ops.toList 0 with
  |none=>simp[hf]at h|some n=>
   simp only[hf]at h;obtain⟨o,e1,_,e2,e3⟩:=Gl hf;simp only[Nat.sub_zero,Y1,bU,Y4]at e1 e2;by_cases hn:n∈done
   .refine CZ k (rk:=rk) h (λx hx=>?_) (λi hi o' ho' e he hb=>?_) (λx hx=>?_)
    .rcases C9.1 hx with rfl|hx
     .have:=h1 x hn;simp;omega
     .have:=h1 x hx;simp;omega
    .have hi' :i∈done:=by rcases C9.1 hi with rfl|hi;exact hn;exact hi
     obtain⟨g1,g2,g3⟩:=h2 i hi' o' ho' e he hb;exact⟨by simp[g1],g2,g3⟩
    .rcases C9.1 hx with rfl|hx
     .exact e2
     .exact h3 x hx
   .refine CZ k (rk:=λx=>if x=n then done.length else rk x) h (λx hx=>?_) (λi hi o' ho' e he hb=>?_) (λx hx=>?_)
    .show(if x=n then done.length else rk x)<_;rcases C9.1 hx with rfl|hx
     .simp
     .have:=h1 x hx;rw[if_neg (show ¬x=n from λe=>hn (by rw[←e];exact hx))];simp;omega
    .show _/\_/\(if e.on=n then done.length else rk e.on)<(if i=n then done.length else rk i);rcases C9.1 hi with rfl|hi
     .rw[e1]at ho';cases ho';have hd:=PM e3 e he hb;refine⟨by simp[hd],h3 _ hd,?_⟩;rw[if_neg (show ¬e.on=i from λe' =>hn (by rw[←e'];exact hd)),if_pos rfl];exact h1 _ hd
     .obtain⟨g1,g2,g3⟩:=h2 i hi o' ho' e he hb;refine⟨by simp[g1],g2,?_⟩;rw[if_neg (show ¬e.on=n from λe' =>hn (by rw[←e'];exact g1)),if_neg (show ¬i=n from λe' =>hn (by rw[←e'];exact hi))];exact g3
    .rcases C9.1 hx with rfl|hx
     .exact e2
     .exact h3 x hx
end Go.GP
namespace Go.GP
section
variable {X:Fx} {q:Nat} {ops:Array Oper} {S:Nat->Sm} {T:Nat->Tr} {m0:Mp} {ok0:Nat->Ty->Prop} {Q:Exit->Act->World->Prop}
theorem QX(H:FxOk X){i:Nat}{o:Oper}(hi:ops[i]? =some o){S1 S2:Sm}{t:Tr}(he:(kP X.E q ops.toList o).eval S1 ([],[])=some ((),S2,t)){m:Mp}{ok:Nat->Ty->Prop}{a:Act}{w:World}
  (R:Rel X (CB*q) (CB*q+CB) S1 m ok a w) {next:Act->World->Prop}
  (hn:∀m' ok' a' w',Rel X (CB*q) (CB*q+CB) S2 m' ok' a' w' ->(∀k l,m k=some l->m' k=some l)->(∀b t,ok b t->ok' b t)->next a' w'):wpOp X.P ops Q i next a w:=
 oM (a2k H R hi) he next Q hn
theorem Qa(H:FxOk X)(hc:OL X.E q ops.toList ops.toList S T)
  (hQ:∀m' ok' a' w',Rel X (CB*q) (CB*q+CB) (S ops.size) m' ok' a' w' ->(∀k l,m0 k=some l->m' k=some l)->(∀b t,ok0 b t->ok' b t)->Q .normal a' w'):
  ∀(n k:Nat) {m:Mp} {ok:Nat->Ty->Prop} {a:Act} {w:World},k+n=ops.size->Rel X (CB*q) (CB*q+CB) (S k) m ok a w->(∀k l,m0 k=some l->m k=some l)->(∀b t,ok0 b t->ok b t)->wpOps X.P ops Q (List.range' k n) a w
 |0,k,m,ok,a,w,hk,R,hm,hok=>by have:k=ops.size:=o5;subst this;exact hQ m ok a w R hm hok
 |n+1,k,m,ok,a,w,hk,R,hm,hok=>by rw[jA,wpOps_cons];have hi:ops[k]? =some (ops[k]'o5):=N7 _;refine QX H hi (hc k _ (by rw[Y1];exact hi)) R λm' ok' a' w' R' k1 k2=>?_;exact Qa H hc hQ n (k+1) o5 R' (λk l h=>k1 k l (hm k l h)) (λb t h=>k2 b t (hok b t h))
theorem a1s(H:FxOk X){md:Region.Mode}(hc:OL X.E q ops.toList ops.toList S T){M:Nat->Nat}
  {ex:Nat->Nat->Prop} (hpair:∀i j,i<j->j<ops.size->a0l (λi j=>Nat.testBit (M j) i=true) ex T i j)
  (hex:∀i j,i<j->j<ops.size->ex i j->∃S',(kP X.E q ops.toList (ops.getD i default)).eval (S (j+1)) ([],[])=some ((),S',T i)/\∀k∈(T i).2,S' k=S (i+1) k)
  (hM:∀i o,ops[i]? =some o->∀j,Nat.testBit (M i) j=true->∃e∈o.after.toList,oh e/\(j=e.on\/Nat.testBit (M e.on) j=true)) (hrk:JR md ops)
  (hQ:∀m' ok' a' w',Rel X (CB*q) (CB*q+CB) (S ops.size) m' ok' a' w' ->(∀k l,m0 k=some l->m' k=some l)->(∀b t,ok0 b t->ok' b t)->Q .normal a' w'):
  ∀(mf:Nat) {D:c2i} {wJ:Array Bool} {m:Mp} {ok:Nat->Ty->Prop} {a:Act} {w:World},mf+D.length=ops.size->D.Nodup->(∀j∈D,j<ops.size)->wJ.size=ops.size->(∀i,i<ops.size->(wJ.getD i false=true↔i∈D))->
   (∀j∈D,∀k,Nat.testBit (M j) k=true->k∈D)->Rel X (CB*q) (CB*q+CB) (SD S T D ops.size) m ok a w->(∀k l,m0 k=some l->m k=some l)->(∀b t,ok0 b t->ok b t)->
   wpAny X.P md ops Q mf wJ a w:=by
 have hs:∀i,i<ops.size->(kP X.E q ops.toList (ops.getD i default)).eval (S i) ([],[])=some ((),S (i+1),T i):=λi hi=>by refine hc i _ ?_;simp[Array.getD,hi]
 obtain⟨rk,hrk⟩:=hrk;intro mf;induction mf with
 |zero=>
  intro D wJ m ok a w hf hD hlt hsz hl hdown R hm hok;have hall:=a1R hD hlt o5;refine⟨?_,?_⟩
  .cases hr:Region.ready md ops wJ with
   |nil=>rfl|cons x xs=>
    have hx:x∈Region.ready md ops wJ:=by rw[hr];simp
    obtain⟨h1,o,ho,_⟩:=mem_ready.1 hx;have hxl:=(H7.1 ho).1;have:=(hl x hxl).2 (hall x hxl);rw[X4]at h1 this;cases hg:wJ[x]? with
    |none=>rw[hg]at this;cases this|some y=>rw[hg]at h1 this;simp only[jB]at h1 this;rw[h1]at this;cases this
  .refine hQ m ok a w ?_ hm hok;rwa[a2B (c:=λi=>kP X.E q ops.toList (ops.getD i default)) hs hall]at R
 |succ mf ih=>
  intro D wJ m ok a w hf hD hlt hsz hl hdown R hm hok;refine⟨λhr=>?_,λi hi=>?_⟩
  .have hall:∀n i,rk i<n->i<ops.size->i∈D:=by
    intro n;induction n with
    |zero=>intro i hi _;omega|succ n ihn=>
     intro i hi hil;refine Classical.byContradiction λhni=>?_;have hin:i∈Region.ready md ops wJ:=by
      refine mem_ready.2 ⟨?_,ops[i],N7 hil,λe he hb=>?_⟩
      .have h1:¬wJ.getD i false=true:=λh=>hni ((hl i hil).1 h);rw[X4]at h1 ⊢;rw[N7 o5]at h1 ⊢;simpa using h1
      .obtain⟨g1,g2⟩:=hrk i _ (N7 hil) e (by simpa using he) hb;exact(hl e.on g1).2 (ihn e.on o5 g1)
     rw[hr]at hin;cases hin
   refine hQ m ok a w ?_ hm hok;rwa[a2B (c:=λi=>kP X.E q ops.toList (ops.getD i default)) hs (λi hi=>hall _ i (Nat.lt_succ_self _) hi)]at R
  .obtain⟨h1,o,ho,h2⟩:=mem_ready.1 hi;have hil:=(H7.1 ho).1;have hnD:i∉D:=λh=>by
    have:=(hl i hil).2 h;rw[X4]at h1 this;rw[N7 o5]at h1 this;simp only[jB]at h1 this;rw[h1]at this;cases this
   have hp:∀j,Nat.testBit (M i) j=true->j∈D:=λj hj=>by
    obtain⟨e,he,hpl,h3⟩:=hM i o ho j hj;have hlst:=h2 e (by simpa using he) (hpl.binds md);have hon:e.on<ops.size:=(hrk i o ho e he (hpl.binds md)).1;have honD:=(hl e.on hon).1 hlst;rcases h3 with rfl|h3
    .exact honD
    .exact hdown e.on honD j h3
   have hgd:ops.getD i default=o:=by rw[X4,ho];rfl
   have hstep:=a2C (c:=λi=>kP X.E q ops.toList (ops.getD i default)) (S:=S) (T:=T) (n:=ops.size) hs (ord:=λi j=>Nat.testBit (M j) i=true) (ex:=ex)
    hpair hex hil hnD hlt hp hdown
   simp only[hgd]at hstep;refine QX H ho hstep R λm' ok' a' w' R' k1 k2=>?_;refine ih (D:=i::D) az (V9.2 ⟨hnD,hD⟩) (λj hj=>?_) (by simp[hsz]) (λj hj=>?_) (λj hj k hk=>?_) R' (λk l h=>k1 k l (hm k l h)) (λb t h=>k2 b t (hok b t h))
   .rcases C9.1 hj with rfl|hj
    .exact hil
    .exact hlt j hj
   .by_cases e:i=j
    .subst e;simp[Array.getD,hsz,hil]
    .rw[getD_set_ne false e,hl j hj];simp[Ne.symm e]
   .rcases C9.1 hj with rfl|hj
    .exact P9 _ (hp k hk)
    .exact P9 _ (hdown j hj k hk)
theorem PN(H:FxOk X){s s' :St}(h0:S 0=cO s)(h1:S ops.size=cO s')(hc:OL X.E q ops.toList ops.toList S T){draw:Bool}{ex:Nat->Nat->Prop}
  (hex:∀i j,i<j->j<ops.size->ex i j->∃S',(kP X.E q ops.toList (ops.getD i default)).eval (S (j+1)) ([],[])=some ((),S',T i)/\∀k∈(T i).2,S' k=S (i+1) k)
  (hdraw:draw=true->∃M:Nat->Nat,Wy ops.toList 0 []=some ((List.range ops.size).map M).reverse/\(∀i j,i<j->j<ops.size->a0l (λi j=>Nat.testBit (M j) i=true) ex T i j)/\
   (bif Bd ops.toList then true else Xh .text ops.toList ops.toList.length []&&Xh .gc ops.toList ops.toList.length [])=true):
  (∀k,(∀x∈((List.range ops.size).map T).reverse,k∉x.2)->cO s' k=cO s k)/\
   ∀{m:Mp} {ok:Nat->Ty->Prop} {a:Act} {w:World} {id:Nat} {Q:Exit->Act->World->Prop},Rel X (CB*q) (CB*q+CB) (cO s) m ok a w->
    (∀m' ok' a' w',Rel X (CB*q) (CB*q+CB) (cO s') m' ok' a' w' ->(∀k l,m k=some l->m' k=some l)->(∀b t,ok b t->ok' b t)->Q .normal a' w')->(Code.region id ops draw).wp X.P Q a w:=by
 have hfr:∀k,(∀x∈((List.range ops.size).map T).reverse,k∉x.2)->cO s' k=cO s k:=λk hk=>by
  have:∀n,n<=ops.size->S n k=S 0 k:=by
   intro n;induction n with
   |zero=>intro _;rfl|succ n ih=>intro hn;have hi:ops[n]? =some (ops[n]'o5):=N7 _;rw[EQ (hc n (ops[n]'o5) (by rw[Y1];exact hi)) k (hk (T n) (by simp;exact⟨n,o5,rfl⟩)),ih o5]
  rw[←h1,←h0];exact this ops.size (D9 _)
 cases draw with
 |false=>refine⟨hfr,λ{m ok a w id Q} R hQ=>wp_region ?_⟩;rw[List.range_eq_range'];rw[←h0]at R;refine Qa H hc (m0:=m) (ok0:=ok) (by rw[h1];exact hQ) ops.size 0 o5 R (λ_ _ h=>h) (λ_ _ h=>h)|true=>
  obtain⟨M0,hp,hpair,hd⟩:=hdraw rfl;obtain⟨M,hMM,_,hM⟩:=Je (M:=λ_=>0) ops.toList (n:=0) hp;simp only[bU,Y4]at hd hM hMM;have hMM:∀k,k<ops.size->M0 k=M k:=λk hk=>by have e1:=Dt (M:=M0) hk;rw[hMM,Dt hk]at e1;exact e1.symm
  have hM:∀i o,ops[i]? =some o->(∀e∈o.after.toList,oh e->e.on<i)/\∀j,Nat.testBit (M0 i) j=true->∃e∈o.after.toList,oh e/\(j=e.on\/Nat.testBit (M0 e.on) j=true):=λi o ho=>by have hil:=(H7.1 ho).1;obtain⟨g1,g2⟩:=hM i o (by simpa using ho);refine⟨g1,λj hj=>?_⟩;rw[hMM i hil]at hj;obtain⟨e,he,hpl,h3⟩:=g2 j hj;exact⟨e,he,hpl,by rw[hMM e.on (by have:=g1 e he hpl;omega)];exact h3⟩
  have hidr:∀md,(∀(i:Nat) (o:Oper),ops[i]? =some o->∀e∈o.after.toList,Region.binds md e=true->oh e)->JR md ops:=λmd hpl=>by refine⟨λi=>i,λi o ho e he hb=>?_⟩;have hil:=(H7.1 ho).1;have:=(hM i o ho).1 e he (hpl i o ho e he hb);exact⟨o5,this⟩
  have hany:JR .any ops:=hidr .any λi o ho e he hb=>a1t hb;have hboth:JR .text ops/\JR .gc ops:=by
   cases hpo:Bd ops.toList
   .simp only[hpo,cond_false,o9]at hd;exact⟨CZ (rk:=λ_=>0) _ hd.1 A8 A8 A8,CZ (rk:=λ_=>0) _ hd.2 A8 A8 A8⟩
   .have hpl:∀(i:Nat) (o:Oper),ops[i]? =some o->∀e∈o.after.toList,oh e:=λi o ho e he=>JD hpo o (by simpa using Array.mem_of_getElem? ho) e he;exact⟨hidr _ λi o ho e he _=>hpl i o ho e he,hidr _ λi o ho e he _=>hpl i o ho e he⟩
  refine⟨hfr,λ{m ok a w id Q} R hQ=>wp_region_draw λt=>?_⟩;have R' :Rel X (CB*q) (CB*q+CB) (SD S T [] ops.size) m ok a { w with drawn:=w.drawn+1 }:=by rw[a8w,h0];exact R.same rfl rfl rfl rfl
  have main:∀md,JR md ops->∀t,wpOps X.P ops Q (Region.linearise md ops t) a { w with drawn:=w.drawn+1 }:=λmd hr t=>by unfold Region.linearise;refine wpAny_sound ops.size t _ a _ ?_;refine a1s H hc hpair hex (λi o ho=>(hM i o ho).2) hr (m0:=m) (ok0:=ok) (by rw[h1];exact hQ) ops.size (D:=[]) A8 aY A8 A8 (λi hi=>?_) A8 R' (λ_ _ h=>h) (λ_ _ h=>h);simp[Array.getD,hi]
  unfold Region.schedule;split
  .exact main _ hany t
  .split
   .exact main _ hboth.1 _
   .exact main _ hboth.2 _
theorem WG(H:FxOk X){R:Type}{s:St}{wr:Rgs}{K:St->Rgs->Option R}{r:R}{draw:Bool}(h:WF X.E q ops draw s wr K=some r):
  ∃s' w',K s' w' =some r/\(∃t:Trs,w' =zi t wr/\∀k,(∀x∈t,k∉x.2)->cO s' k=cO s k)/\
   ∀{m:Mp} {ok:Nat->Ty->Prop} {a:Act} {w:World} {id:Nat} {Q:Exit->Act->World->Prop},Rel X (CB*q) (CB*q+CB) (cO s) m ok a w->
    (∀m' ok' a' w',Rel X (CB*q) (CB*q+CB) (cO s') m' ok' a' w' ->(∀k l,m k=some l->m' k=some l)->(∀b t,ok b t->ok' b t)->Q .normal a' w')->(Code.region id ops draw).wp X.P Q a w:=by
 unfold WF at h;have pick:∀(dr:Bool) (s' :St) (T:Nat->Tr),(bif draw then(bif dr then K s' (zi ((List.range ops.size).map T).reverse wr)else none)else K s' (zi ((List.range ops.size).map T).reverse wr))=some r->
   K s' (zi ((List.range ops.size).map T).reverse wr)=some r/\(draw=true->dr=true):=λdr s' T h=>by
  cases draw
  .exact⟨h,λh=>by cases h⟩
  .cases dr
   .cases h
   .exact⟨h,λ_=>rfl⟩
 split at h
 .obtain⟨s',S,T,h0,h1,hc,hk⟩:=PT _ h;simp only[Y4,G6]at h1 hk;obtain⟨hk,hd⟩:=pick _ s' T hk;obtain⟨hfr,hwp⟩:=PN H h0 h1 hc (draw:=draw) (ex:=λ_ _=>False) (λ_ _ _ _ h=>h.elim) λhdr=>by
   have hd:=hd hdr;unfold a2O at hd;cases hp:Wy ops.toList 0 []with
   |none=>simp[hp]at hd|some ms=>
   simp only[hp]at hd;obtain⟨M,hms,_,_⟩:=Je (M:=λ_=>0) ops.toList (n:=0) hp;simp only[bU,Y4]at hms;subst hms;cases hod:SN ((List.range ops.size).map M).reverse ((List.range ops.size).map T).reverse
   .simp[hod]at hd
   simp only[hod,cond_true]at hd;exact⟨M,rfl,λi j hi hj=>(PE _ hod i j hi hj).imp id λh=>⟨h.1,.inl h.2⟩,hd⟩
  exact⟨s',_,hk,⟨_,rfl,hfr⟩,hwp⟩
 .obtain⟨s',S,T,h0,h1,hc,hk,_,h5⟩:=MS _ h;simp only[Y4,G6]at h1 hk;obtain⟨hk,hd⟩:=pick _ s' T hk;obtain⟨hfr,hwp⟩:=PN H h0 h1 hc (draw:=draw) (ex:=λi j=>VQ ops.toList j=true/\a2S X.E ops.toList i=true) (λi j hij hj ⟨e1,e2⟩=>by
   have hi:ops[i]? =some (ops[i]'o5):=N7 _;have hj' :ops[j]? =some (ops[j]'o5):=N7 _;unfold VQ at e1;unfold a2S at e2;rw[Y1,hj']at e1;rw[Y1,hi]at e2;obtain⟨d,hd,d',S',g1,g2,g3,g4⟩:=h5 i j _ _ hij (by rw[Y1];exact hi) (by rw[Y1];exact hj') e2 e1;rw[hd]at g1;cases g1;have hgd:ops.getD i default=ops[i]'o5:=by rw[X4,hi];rfl
   refine⟨S',by rw[hgd];exact g3,λk hk=>?_⟩;rw[g2]at hk;simp only[C9,List.not_mem_nil,or_false]at hk;subst hk;exact g4) λhdr=>by
   have hd:=hd hdr;unfold a0C at hd;cases hp:Wy ops.toList 0 []with
   |none=>simp[hp]at hd|some ms=>
   simp only[hp]at hd;obtain⟨M,hms,_,_⟩:=Je (M:=λ_=>0) ops.toList (n:=0) hp;simp only[bU,Y4]at hms;subst hms;cases hod:LY X.E ops.toList ((List.range ops.size).map M).reverse ((List.range ops.size).map T).reverse
   .simp[hod]at hd
   simp only[hod,cond_true]at hd;exact⟨M,rfl,LZ _ hod,hd⟩
  exact⟨s',_,hk,⟨_,rfl,hfr⟩,hwp⟩
end
end Go.GP
namespace Go.GP
def Wr(w:Rgs)(k:Nat):Prop:=∃p∈w,p.1<=k/\k<p.2
theorem Zh{k:Nat} :¬Wr [] k:=λ⟨p,h,_⟩=>by cases h
theorem IQ{p:Nat×Nat}{w:Rgs}{k:Nat} :Wr (p::w) k↔(p.1<=k/\k<p.2)\/Wr w k:=by
 constructor
 .rintro⟨x,h,h1⟩;rcases C9.1 h with rfl|h
  .exact .inl h1
  .exact .inr ⟨x,h,h1⟩
 .rintro(h|⟨x,h,h1⟩)
  .exact⟨p,A8,h⟩
  .exact⟨x,by simp[h],h1⟩
theorem GL{w:Rgs}{k:Nat} :∀{ks:c2i},Wr (LC ks w) k↔k∈ks\/Wr w k
 |[]=>by simp[LC]|x::ks=>by
  unfold LC;rw[IQ,GL];simp only[C9];constructor
  .rintro(⟨h1,h2⟩|h|h)
   .exact .inl (.inl o5)
   .exact .inl (.inr h)
   .exact .inr h
  .rintro((rfl|h)|h)
   .simp
   .exact .inr (.inl h)
   .exact .inr (.inr h)
theorem VN{b:Rgs}{k:Nat} :∀{a:Rgs},Wr (QM a b) k↔Wr a k\/Wr b k
 |[]=>by simp[QM,Zh]|x::a=>by unfold QM;rw[IQ,IQ,VN,or_assoc]
theorem Np{w:Rgs}{k:Nat} :∀{t:Trs},Wr (zi t w) k↔(∃x∈t,k∈x.2)\/Wr w k
 |[]=>by simp[zi]|x::t=>by unfold zi;rw[GL,Np,←or_assoc];simp
theorem Vf{lo hi:Nat} :∀{rs:Rgs},a1G lo hi rs=true->∃p∈rs,p.1<=lo/\hi<=p.2
 |[],h=>by simp[a1G]at h|(a,b)::r,h=>by
  unfold a1G at h;cases hb:(Nat.ble a lo&&Nat.ble hi b)
  .simp only[hb,cond_false]at h;obtain⟨p,h1,h2⟩:=Vf h;exact⟨p,by simp[h1],h2⟩
  .simp only[o9]at hb;exact⟨(a,b),A8,P5 hb.1,P5 hb.2⟩
theorem OT{lim:Nat}{rs:Rgs} :∀{w:Rgs},Ri lim rs w=true->∀k,Wr w k->lim<=k\/Wr rs k
 |[],_,k,h=>absurd h Zh|(a,b)::w,h,k,hk=>by
  unfold Ri at h;cases hc:(Nat.ble lim a || a1G a b rs)
  .simp[hc]at h
  .simp only[hc,cond_true]at h;rcases IQ.1 hk with⟨h1,h2⟩|hk
   .simp only[jZ]at hc;rcases hc with hc|hc
    .have:=P5 hc;exact .inl (by simp only at h1;omega)
    .obtain⟨p,h3,h4,h5⟩:=Vf hc;exact .inr ⟨p,h3,by simp only at h1;omega,by simp only at h2;omega⟩
   .exact OT h k hk
theorem NR{s:St}{k:Nat} :∀{rs:Rgs},¬Wr rs k->cO (AV rs s) k=cO s k
 |[],_=>rfl|(a,b)::r,h=>by
  rw[IQ,not_or]at h;show(bif Nat.ble a k&&Nat.blt k b then V.undef else cO (AV r s) k)=cO s k;cases hb:(Nat.ble a k&&Nat.blt k b)
  .simp only[cond_false];exact NR h.2
  .simp only[o9]at hb;exact absurd ⟨P5 hb.1,EG hb.2⟩ h.1
theorem Yb{s:St}{k:Nat} :∀{rs:Rgs},Wr rs k->cO (AV rs s) k= .undef
 |[],h=>absurd h Zh|(a,b)::r,h=>by
  show(bif Nat.ble a k&&Nat.blt k b then V.undef else cO (AV r s) k)=V.undef;cases hb:(Nat.ble a k&&Nat.blt k b)
  .simp only[cond_false];rcases IQ.1 h with⟨h1,h2⟩|h
   .simp only at h1 h2;have e1:Nat.ble a k=true:=Nat.ble_eq_true_of_le h1;have e2:Nat.blt k b=true:=by rw[Z4];exact h2
    simp[e1,e2]at hb
   .exact Yb h
  .simp
variable {h0:Array Obj}{h1:Array Obj}{ok0:Nat->Ty->Prop}{ok1:Nat->Ty->Prop}{m:Mp}{m1:Mp}{m2:Mp}
theorem Tm(hm:∀k l,m k=some l->m2 k=m1 k):∀{c:V} {v0 v1:Value} (a:pW ⟨h0,ok0,m⟩ c v0) (b:pW ⟨h1,ok1,m1⟩ c v1),pW ⟨h1,ok1,m2⟩ c v1:=by
 intro c;induction c using V.rec (motive_2:=λ_=>True)<;>try trivial
 all_goals
  intro v0 v1 a b;simp only[pW]at a b ⊢
  try exact b
 case own bx vw=>obtain⟨l0,e0,_⟩:=a;obtain⟨l,e,hv⟩:=b;exact⟨l,by rw[hm _ _ e0];exact e,hv⟩
 case ptr bx o=>obtain⟨l0,e0,_⟩:=a;obtain⟨l,e,hv⟩:=b;exact⟨l,by rw[hm _ _ e0];exact e,hv⟩
 case ep bx ix o=>obtain⟨_,_,_,_,_,e0,_⟩:=a;obtain⟨x1,x2,x3,x4,x5,e,hv⟩:=b;exact⟨x1,x2,x3,x4,x5,by rw[hm _ _ e0];exact e,hv⟩
 case ifc t c ih=>obtain⟨u0,_,_,a⟩:=a;obtain⟨u,e,h,b⟩:=b;exact⟨u,e,h,ih a b⟩
theorem Tn{h0 h1:Array Obj}{ok0 ok1:Nat->Ty->Prop}{m m1 m2:Mp}(hm:∀k l,m k=some l->m2 k=m1 k):∀{cs:List V} {v0 v1:c2h},dD ⟨h0,ok0,m⟩ cs v0->dD ⟨h1,ok1,m1⟩ cs v1->dD ⟨h1,ok1,m2⟩ cs v1
 |[],_,_,_,b=>b|_::_,_,_,⟨_,_,_,a1,_,a3⟩,⟨v,r,e,b1,b2,b3⟩=>⟨v,r,e,Tm hm a1 b1,b2,Tn hm a3 b3⟩
variable {c:V}
theorem Yu(hm:∀k l,m k=some l->m2 k=m1 k){v0 v1:Value}(a:Tj ⟨h0,ok0,m⟩ c v0)(b:Tj ⟨h1,ok1,m1⟩ c v1):Tj ⟨h1,ok1,m2⟩ c v1:=by
 cases c<;>simp only[Tj]at a b ⊢<;>try exact Tm hm a b
 case agg cs=>obtain⟨_,_,a⟩:=a;obtain⟨arr,e,b⟩:=b;exact⟨arr,e,Tn hm a b⟩
theorem Yx{h0 h1:Array Obj}{ok0 ok1:Nat->Ty->Prop}{m m1 m2:Mp}(hm:∀k l,m k=some l->m2 k=m1 k):∀{cs:List V} {v0 v1:c2h},WJ ⟨h0,ok0,m⟩ cs v0->WJ ⟨h1,ok1,m1⟩ cs v1->WJ ⟨h1,ok1,m2⟩ cs v1
 |[],_,_,_,b=>b|_::_,_,_,⟨_,_,_,a1,a3⟩,⟨v,r,e,b1,b3⟩=>⟨v,r,e,Yu hm a1 b1,Yx hm a3 b3⟩
theorem a4n(hm:∀k l,m k=some l->m2 k=m1 k){v0 v1:Value}(a:iI ⟨h0,ok0,m⟩ c v0)(b:iI ⟨h1,ok1,m1⟩ c v1):iI ⟨h1,ok1,m2⟩ c v1:=by
 cases c<;>simp only[iI]at a b ⊢<;>try exact Yu hm a b
 case tup cs=>obtain⟨_,_,a⟩:=a;obtain⟨arr,e,b⟩:=b;exact⟨arr,e,Yx hm a b⟩
theorem ZL(hm:∀k l,m k=some l->m2 k=m1 k){sz:Nat}{l0 l1:Loc}{hole:Option (Nat×Nat×Option Nat)}(a:RP ⟨h0,ok0,m⟩ sz l0 hole)(b:RP ⟨h1,ok1,m1⟩ sz l1 hole):RP ⟨h1,ok1,m2⟩ sz l1 hole:=by
 obtain _|⟨i,o,_|n⟩:=hole
 .trivial
 .trivial
 .obtain⟨_,_,_,_,_,l',_,_,e,_⟩:=a;obtain⟨b1,b2,b3,b4,b5,l2,c1,c2,c3,c4⟩:=b;exact⟨b1,b2,b3,b4,b5,l2,c1,c2,by rw[hm _ _ e];exact c3,c4⟩
theorem a4m(hm:∀k l,m k=some l->m2 k=m1 k)(hk:m2.kid=m1.kid)(km:∀k l,m k=some l->m1 k=some l){n:Nat}(a:xY ⟨h0,ok0,m⟩ n c)(b:∀l,m n=some l->xY ⟨h1,ok1,m1⟩ n c):xY ⟨h1,ok1,m2⟩ n c:=by
 cases c<;>simp only[xY]at a b ⊢
 case bcells cs=>obtain⟨_,_,_,e0,_,a⟩:=a;obtain⟨blk,arr,T,e,hh,b⟩:=b _ e0;exact⟨blk,arr,T,by rw[hm _ _ e0];exact e,hh,Tn hm a b⟩
 case barr t xs=>obtain⟨_,e0,_⟩:=a;obtain⟨l,e,b⟩:=b _ e0;exact⟨l,by rw[hm _ _ e0];exact e,kT (λ_ _ h=>h) (λ_ _ _=>rfl) (λ_ _=>rfl) b⟩
 case bfrz t xs=>obtain⟨_,e0,_⟩:=a;obtain⟨l,e,b,hb⟩:=b _ e0;exact⟨l,by rw[hm _ _ e0];exact e,kT (λ_ _ h=>h) (λ_ _ _=>rfl) (λ_ _=>rfl) b,hb⟩
 case barrs md xs hole=>obtain⟨he,_,_,e0,⟨_,ha⟩,_⟩:=a;obtain⟨_,l,Os,e,⟨b,hl⟩,hb⟩:=b _ e0;exact⟨he,l,Os,by rw[hm _ _ e0];exact e,⟨b,ZL hm ha hl⟩,by rw[hk];exact hb⟩
 case barrp md xs k o=>obtain⟨he,_,_,_,e0,_⟩:=a;obtain⟨_,h0,l,Os,e,b,hb⟩:=b _ e0;exact⟨he,h0,l,Os,by rw[hm _ _ e0];exact e,b,by rw[hk];exact hb⟩
 case bfc t x=>obtain⟨_,_,e0,_⟩:=a;obtain⟨blk,es,e,b⟩:=b _ e0;exact⟨blk,es,by rw[hm _ _ e0];exact e,b⟩
 case gone t=>obtain⟨_,e0,_⟩:=a;obtain⟨l,e,b⟩:=b _ e0;exact⟨l,by rw[hm _ _ e0];exact e,b⟩
 case biter l p=>obtain⟨_,_,_,e0,_⟩:=a;obtain⟨blk,s,q,e,hh,b⟩:=b _ e0;exact⟨blk,s,q,by rw[hm _ _ e0];exact e,hh,b⟩
 case bsb tb c=>obtain⟨_,_,_,e0,_,_,a⟩:=a;obtain⟨blk,a1,v1,e,hh,hs,b⟩:=b _ e0;exact⟨blk,a1,v1,by rw[hm _ _ e0];exact e,hh,hs,Tm hm a b⟩
 case brow te xs=>obtain⟨_,e0,_⟩:=a;obtain⟨l,e,b⟩:=b _ e0;exact⟨l,by rw[hm _ _ e0];exact e,b⟩
 case blen ln sz=>obtain⟨k,l,e,e0,h⟩:=a;exact⟨k,l,e,by rw[hm _ _ e0];exact km _ _ e0,h⟩
def cut(m:Mp)(N:Nat):Mp:=⟨λn=>if n<N then m n else none,m.kid⟩
section
variable {X:Fx} {cl ch N:Nat} {S S1 S2:Sm} {m m1:Mp} {ok ok1:Nat->Ty->Prop} {a a1:Act} {w w1:World}
theorem Rel.climb(R:Rel X cl ch S m ok a w){cl' :Nat}(h:cl<=cl'):Rel X cl' ch S m ok a w:={ R with fresh:=λn h1 h2=>R.fresh n o5 h2 }
theorem Rel.rebase(R0:Rel X cl N S m ok a w){cl1 ch1:Nat}(R1:Rel X cl1 ch1 S1 m1 ok1 a1 w1)(km:∀k l,m k=some l->m1 k=some l)
  (hS:∀k,S2 k= .undef\/(S2 k=S k/\(k<U8+N->S1 k=S k))):
  Rel X N N S2 (cut m1 N) ok1 a1 w1/\(∀T,Tk X S1 m1 ok1 w1 T->Tk X S2 (cut m1 N) ok1 w1 T)/\(∀k l,m k=some l->cut m1 N k=some l):=by
 have hdom:∀k l,m k=some l->k<N:=λk l h=>by
  rcases Nat.lt_or_ge k N with h1|h1
  .exact h1
  .rw[R0.strict k h1]at h;cases h
 have hagree:∀k l,m k=some l->cut m1 N k=m1 k:=λk l h=>by simp[cut,hdom k l h]
 have hown:∀n,L9 (cut m1 N) n (S2 (U8+n))=L9 m1 n (S1 (U8+n))\/L9 (cut m1 N) n (S2 (U8+n))=[]:=λn=>by
  rcases hS (U8+n)with h1|⟨h1,h2⟩
  .right;rw[h1];rfl
  .rcases Nat.lt_or_ge n N with hn|hn
   .left;rw[h2 o5,←h1];exact Fh (by simp[cut,hn]) rfl
   .right;have hc:m n=none:=R0.strict n hn;have hb:=R0.box n;rw[h1];cases hv:S (U8+n)<;>rw[hv]at hb<;>try rfl
    case bcells=>obtain⟨_,_,_,e,_⟩:=hb;simp only at e;rw[hc]at e;cases e
    case barr=>obtain⟨_,e,_⟩:=hb;simp only at e;rw[hc]at e;cases e
    case barrs=>obtain⟨_,_,_,e,_⟩:=hb;simp only at e;rw[hc]at e;cases e
    case barrp=>obtain⟨_,_,_,_,e,_⟩:=hb;simp only at e;rw[hc]at e;cases e
    case biter=>obtain⟨_,_,_,e,_⟩:=hb;simp only at e;rw[hc]at e;cases e
    case bsb=>obtain⟨_,_,_,e,_⟩:=hb;simp only at e;rw[hc]at e;cases e
    case brow=>obtain⟨_,e,_⟩:=hb;simp only at e;rw[hc]at e;cases e
 have hownM:∀n b,b∈L9 (cut m1 N) n (S2 (U8+n))->b∈L9 m1 n (S1 (U8+n)):=λn b h=>by
  rcases hown n with e|e
  .rw[←e];exact h
  .rw[e]at h;cases h
 refine⟨{ kept:=R1.kept,size:=R1.size,nodef:=R1.nodef,okLt:=R1.okLt,okIn:=R1.okIn,okOut:=R1.okOut,frame:=R1.frame,gl:=R1.gl,slot:=λn hn=>?_,box:=λn=>?_,inj:=λn n' b h h' =>R1.inj n n' b (hownM n b h) (hownM n' b h'),nd:=λn=>(hown n).elim (λe=>by rw[e];exact R1.nd n) (λe=>by rw[e];exact aY),sep:=λn b h=>R1.sep n b (hownM n b h),fresh:=λn h1 _=>?_,strict:=λn h=>?_ },λT hT=>⟨hT.nodup,λb hb=>?_⟩,λk l h=>by rw[hagree k l h];exact km k l h⟩
 .rcases hS n with h1|⟨h1,h2⟩
  .rw[h1];trivial
  .rw[h1];refine a4n hagree (R0.slot n hn) ?_;rw[←h2 o5];exact R1.slot n hn
 .rcases hS (U8+n)with h1|⟨h1,h2⟩
  .rw[h1];trivial
  .rw[h1];refine a4m hagree rfl km (R0.box n) λl hl=>?_;rw[←h2 (by have:=hdom n l hl;omega)];exact R1.box n
 .simp[cut];omega
 .simp[cut];omega
 .obtain⟨f1,f2,f3,f4⟩:=hT.free b hb;exact⟨f1,f2,f3,λn e=>f4 n (hownM n b e)⟩
theorem gY{R:Type}{q:Nat}{sg:Sig}{rs:Rgs}{s:St}{wr:Rgs}{K:mP sg->Option R}{r:R}(h:JA q sg rs s wr K=some r):
  ∃x,K x=some r/\∀{s0:St} {cl cl1 ch1:Nat} {m m1:Mp} {ok ok1:Nat->Ty->Prop} {a a1:Act} {w w1:World},Rel X cl (CB*q) (cO s0) m ok a w->Rel X cl1 ch1 (cO s) m1 ok1 a1 w1->(∀k l,m k=some l->m1 k=some l)->
   (∀k,¬Wr wr k->cO s k=cO s0 k)->∃m2 ok2 O,Rel X (CB*q) (CB*q) (cO (AV rs s0)) m2 ok2 a1 w1/\Tk X (cO (AV rs s0)) m2 ok2 w1 O/\
    Zg w1.heap ok2 sg x a1.tmps O/\(∀k l,m k=some l->m2 k=some l):=by
 unfold JA at h;obtain⟨x,s1,tr,he,hk⟩:=lU h;cases hc:Ri (U8+CB*q) rs (LC tr.2 wr)
 .simp[hc]at hk
 simp only[hc,cond_true]at hk;refine⟨x,hk,λ{s0 cl cl1 ch1 m m1 ok ok1 a a1 w w1} R0 R1 km hun=>?_⟩;have key:=oM (ZG R1 (Q:=λy S' =>∃m' ok' O,Rel X cl1 ch1 S' m' ok' a1 w1/\Tk X S' m' ok' w1 O/\(∀k l,m1 k=some l->m' k=some l)/\Zg w1.heap ok' sg y a1.tmps O)
  λS' m' ok' y O R' T' km' _ hr=>⟨m',ok',O,R',T',km',hr⟩) he
 obtain⟨m',ok',O,R',T',km',hr⟩:=key;have hcov:=OT hc;obtain⟨R2,hT2,hm2⟩:=R0.rebase (S2:=cO (AV rs s0)) R' (λk l h=>km' k l (km k l h)) (λk=>by
  by_cases hw:Wr rs k
  .exact .inl (Yb hw)
  .refine .inr ⟨NR hw,λhlt=>?_⟩;have hnw:¬Wr (LC tr.2 wr) k:=λh=>by
    rcases hcov k h with h1|h1
    .omega
    .exact hw h1
   rw[GL,not_or]at hnw;rw[EQ he k hnw.1];exact hun k hnw.2)
 exact⟨_,ok',O,R2,hT2 O T',hr,hm2⟩
theorem nH{R:Type}{q:Nat}{sg:Sig}{rs:Rgs}{s:St}{x:mP sg}{K:St->Rgs->Option R}{r:R}(h:enter q sg rs s x K=some r):
  ∃s' w',K s' w' =some r/\(∀k,Wr rs k->Wr w' k)/\(∀k,¬Wr w' k->cO s' k=cO s k)/\
   ∀{N:Nat} {m:Mp} {ok:Nat->Ty->Prop} {a:Act} {w:World} {O:c2i},N<=CB*q->Rel X N N (cO (AV rs s)) m ok a w->Tk X (cO (AV rs s)) m ok w O->
    Zg w.heap ok sg x a.tmps O->
    ∃m',Rel X (CB*(q+1)) (CB*(q+1)) (cO s') m' ok a w/\(∀k l,m k=some l->m' k=some l):=by
 unfold enter at h;obtain⟨u,s',tr,he,hk⟩:=lU h;refine⟨s',_,hk,λk hk=>GL.2 (.inr hk),λk hk=>?_,λ{N m ok a w O} hN R1 T1 hr=>?_⟩
 .rw[GL,not_or]at hk;rw[EQ he k hk.1,NR hk.2]
 .have key:=oM (ZB (x:=x) (nb:=CB*q) (lim:=CB*q+CB) (Q:=λ_ S' =>∃m',Rel X N (max N (CB*q+CB)) S' m' ok a w/\(∀k l,m k=some l->m' k=some l)) R1 hN T1 hr
   λS' m' R' k=>⟨m',R',k⟩) he
  obtain⟨m',R',k⟩:=key;have e:CB*(q+1)=CB*q+CB:=by rw[Nat.mul_add,aK]
  rw[e];generalize CB*q=Z at*;exact⟨m',(R'.climb o5).chmono o5,k⟩
end
end Go.GP
