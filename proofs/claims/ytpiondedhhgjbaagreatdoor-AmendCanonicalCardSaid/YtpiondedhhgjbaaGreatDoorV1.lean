import Derived.Test.YtpiondedhhgjbaaGreatDoorV0
import Derived.Laws.MakeOwn
import Derived.ArgAppend
import Derived.MapKept
import Derived.WideKeyRuns
import Derived.Lib.AppendStr
import Derived.Laws.IdiomStrings
import Derived.Orders
import Derived.LoopN
set_option linter.all false
namespace Go.GP
variable {α:Type}{us:List α}{L:List α}{p:Nat}
theorem uk(h:p+us.length<=L.length)(i:Nat):
  (dA p us L)[i]? =if i<p then L[i]? else if i<p+us.length then us[i -p]? else L[i]?:=by
 unfold dA;rw[E8];by_cases h1:i<p
 .rw[if_pos h1,V7 E5,Y7,if_pos h1]
 .rw[if_neg h1,H9 E5];have e:(L.take p).length=p:=by simp;omega
  rw[e];by_cases h2:i<p+us.length
  .rw[if_pos h2,V7 o5]
  .rw[if_neg h2,H9 o5,O9];congr 1;omega
theorem yZ(h:p+us.length<=L.length):(dA p us L).length=L.length:=by unfold dA;simp;omega
variable {b:Nat}{n:Nat}
theorem a3w(h:p+us.length<=L.length)(hd:b+n<=p\/p+us.length<=b):((dA p us L).drop b).take n=(L.drop b).take n:=by
 apply bU;intro i;rw[Y7,Y7];split
 .rw[O9,O9,uk h];rcases hd with hd|hd
  .rw[if_pos o5]
  .rw[if_neg o5,if_neg o5]
 .rfl
variable {off:Nat}
theorem Ry(h:b+n<=L.length)(ho:off+us.length<=n):((dA (b+off) us L).drop b).take n=dA off us ((L.drop b).take n):=by
 have hl:((L.drop b).take n).length=n:=by simp;omega
 apply bU;intro i;rw[Y7,uk (by rw[hl];exact ho)];by_cases hi:i<n
 .rw[if_pos hi,O9,uk o5,Y7,if_pos hi,O9];by_cases h1:i<off
  .rw[if_pos o5,if_pos h1]
  .rw[if_neg o5,if_neg h1];by_cases h2:i<off+us.length
   .rw[if_pos o5,if_pos h2];congr 1;omega
   .rw[if_neg o5,if_neg h2]
 .rw[if_neg hi,if_neg o5,if_neg o5,Y7,if_neg hi]
variable {blk:Nat}
theorem Lt{w:World}{c:Array Value}{T:TypeId}{f:Nat×Nat}(hb:w.heap[blk]? =some (.cells c T f))(L:c6H)(off n:Nat)(h:off+n<=L.length):
  bQ (w.setRow blk L.toArray).heap blk off n=some ((L.drop off).take n):=by
 rw[jA (setRow_heap w blk c L.toArray T f hb) off n (by simpa using h)]
theorem a6P{a b:Nat}(h:a<b):Nat.blt a b=true:=by unfold Nat.blt;exact qZ h
theorem a6O{a b:Nat}(h:¬a<b):Nat.blt a b=false:=by
 cases e:Nat.blt a b
 .rfl
 .exact absurd (GG e) h
theorem qw{α:Type} :∀{Os:List (List α)} {i:Nat} {O1 P O2:List α},Os[i]? =some (O1++P++O2)->Os.flatten.Perm ((Os.set i (O1++O2)).flatten++P)
 |[],i,_,_,_,h=>by simp at h|A::Os,0,O1,P,O2,h=>by simp at h;subst h;simp only[List.set_cons_zero,List.flatten_cons,E8];refine qY O1 ?_;have:=(jE (l₁:=P) (l₂:=O2++Os.flatten));simpa using this|A::Os,i+1,O1,P,O2,h=>by simp at h;simp only[List.set_cons_succ,List.flatten_cons,E8];exact qY A (qw (by simpa using h))
variable {Op:c6I}{idx:Nat}{Q:α->Sm->Prop}{t:TypeId}{md:M}{xs:List md.den}{K:Cmd α}{bx:Nat}{u:Value}{i:Nat}{k:Option Nat}{sz:Nat}{q:Nat}{x:Operand}
section
variable {X:Fx} {cl ch:Nat} {S:Sm} {m:Mp} {ok:Nat->Ty->Prop} {a:Act} {w:World} {o:Oper}
theorem b4I{h h' :Array Obj}{ok:Nat->Ty->Prop}{m:Mp}(k:∀b t,ok b t->h'[b]? =h[b]?){cs:List V}{vs:c6H}(hr:gB ⟨h,ok,m⟩ cs vs):gB ⟨h',ok,m⟩ cs vs:=
 Gj (C:=⟨h,ok,m⟩) (D:=⟨h',ok,m⟩) ⟨λ_ _ h=>h,k,λ_ _ h=>h⟩ hr
theorem Jh{α:Type}{Q:α->Sm->Prop}{S:Sm}{h:Array Obj}{ok:Nat->Ty->Prop} :∀(md:M) (off:Nat) {x:md.den} {es:c6H} {O:c6I} {K:V->Cmd α} (hr:mM h ok md none x es O)
  (hK:∀v l ks u O1 Op O2,O=O1++Op++O2->mM h ok md (some off) x es (O1++O2)->es[off]? =some u->l.view none u->
   (∀mp n,Cm ⟨h,ok,mO mp n l ks⟩ n v/\U2 (mO mp n l ks) n v=Op/\mO mp n l ks n=some l)->v≠.undef->(K v).post S Q),
  (SG md off x K .fail).post S Q
 | .own t,off,x,es,O,K,hr,hK=>by unfold SG;refine bP λhb=>?_;have:=eU hb;subst this;obtain⟨l,v,rfl,hv,ha,rfl⟩:=xP.1 hr;refine hK _ l [] v [] l.blks [] D5 ⟨v,rfl,kU hv,rfl⟩ rfl hv (λmp n=>⟨⟨l,D5,Et ha⟩,?_,D5⟩) D5;cases l<;>first|(simp[U2,Loc.blks];done)|cases ha
 | .owns md,off,x,es,O,K,hr,hK=>by unfold SG;refine bP λhb=>?_;have:=eU hb;subst this;obtain⟨he,l,v,Os,rfl,hv,ha,rfl⟩:=yE.1 hr;refine hK _ l Os.flatten v [] (l.blks++Os.flatten) [] D5 ⟨v,rfl,kU hv,rfl⟩ rfl hv (λmp n=>⟨⟨he,l,Os,D5,⟨ha,trivial⟩,D5⟩,?_,D5⟩) D5;cases l<;>first|(simp[U2,Loc.blks];done)|cases ha
 | .pair p q,off,x,es,O,K,hr,hK=>by
  unfold SG;obtain⟨c,d,O1,O2,rfl,rfl,h1,h2⟩:=hr;have hc:=aZ h1;by_cases hlt:off<p.size
  .have hb:Nat.blt off p.size=true:=a6P hlt;simp only[hb,cond_true];refine Jh p off h1 λv l ks u A Op B e1 e2 e3 e4 e5 e6=>?_;refine hK v l ks u A Op (B++O2) (by subst e1;simp) ⟨c,d,A++B,O2,rfl,D5,?_,?_⟩ (by rw[V7 (by rw[hc];exact hlt)];exact e3) e4 e5 e6
   .simp only[hlt,if_true];exact e2
   .simp only[hlt,if_true];exact h2
  .have hb:Nat.blt off p.size=false:=a6O hlt;simp only[hb,cond_false];refine Jh q (off -p.size) h2 λv l ks u A Op B e1 e2 e3 e4 e5 e6=>?_;refine hK v l ks u (O1++A) Op B (by subst e1;simp) ⟨c,d,O1,A++B,rfl,D5,?_,?_⟩ (by rw[H9 o5,hc];exact e3) e4 e5 e6
   .simp only[hlt,if_false];exact h1
   .simp only[hlt,if_false];exact e2
 | .dat _,_,_,_,_,_,_,_=>trivial| .unit,_,_,_,_,_,_,_=>trivial| .box _,_,_,_,_,_,_,_=>trivial| .ownb _,_,_,_,_,_,_,_=>trivial| .cell _,_,_,_,_,_,_,_=>trivial| .fr _,_,_,_,_,_,_,_=>trivial| .sbx _ _,_,_,_,_,_,_,_=>trivial| .lp _,_,_,_,_,_,_,_=>trivial| .dv ..,_,_,_,_,_,_,_=>trivial| .ownr ..,_,_,_,_,_,_,_=>trivial| .sit,_,_,_,_,_,_,_=>trivial| .rp _,_,_,_,_,_,_,_=>trivial| .fn _ _,_,_,_,_,_,_,_=>trivial| .ifc _ _,_,_,_,_,_,_,_=>trivial
def Qm(h:Array Obj)(ok:Nat->Ty->Prop)(v:V)(u:Value)(Op:c6I):Prop:=
 (v= .nl/\u= .slice none 0 0/\Op=[])\/(∃t ys l,v= .barr t ys/\l.view none u/\arrOk ⟨h,ok,nom⟩ t ys l/\Op=l.blks)\/
 (∃md ys l Os,v= .barrs md ys none/\md.el=true/\l.view none u/\vg h md.size (λ_ x es O=>mM h ok md none x es O) ys Os l/\Op=l.blks++Os.flatten)
theorem Qm.one{h:Array Obj}{v:V}(k:Qm h ok v u Op):u.oneCell' =true:=by
 rcases k with⟨_,rfl,_⟩|⟨_,_,l,_,hv,_⟩|⟨_,_,l,_,_,_,hv,_⟩
 .rfl
 .exact kU hv
 .exact kU hv
theorem Il{α:Type}{Q:α->Sm->Prop}{S:Sm}{h:Array Obj}{ok:Nat->Ty->Prop}{v:V}{u:Value}{Op:c6I}(hp:Qm h ok v u Op):∀(md:M) (off:Nat) {ho:Option Nat} {x:md.den} {es:c6H} {O:c6I} {K:md.den->Cmd α}
  (hr:mM h ok md ho x es O) (hh:ho=none\/ho=some off) (hel:md.el=true)
  (hK:∀y O1 Old O2,O=O1++Old++O2->mM h ok md none y (es.set off u) (O1++Op++O2)->off<es.length->(K y).post S Q),
  (Vs md off v x K .fail).post S Q
 | .own t,off,ho,x,es,O,K,hr,hh,hel,hK=>by
  unfold Vs;refine bP λhb=>?_;have:=eU hb;subst this;obtain⟨v0,rfl,_,_⟩:=hr;rcases hp with⟨rfl,rfl,rfl⟩|⟨t',ys,l,rfl,hv,ha,rfl⟩|⟨md',ys,l,Os,rfl,_,hv,ha,rfl⟩
  .have ht:t.isEnt=false:=by simpa[M.el]using hel
   simp only[ht,cond_false];exact hK [] [] O [] D5 ⟨_,rfl,rfl,.nil,rfl,⟨rfl,ht⟩,rfl⟩ D5
  .simp only;refine jy λe=>?_;subst e;exact hK _ [] O [] D5 ⟨u,rfl,kU hv,l,hv,ha,D5⟩ D5
  .trivial
 | .owns md,off,ho,x,es,O,K,hr,hh,hel,hK=>by
  unfold Vs;refine bP λhb=>?_;have:=eU hb;subst this;obtain⟨v0,rfl,_,_⟩:=hr;rcases hp with⟨rfl,rfl,rfl⟩|⟨t',ys,l,rfl,hv,ha,rfl⟩|⟨md',ys,l,Os,rfl,he,hv,ha,rfl⟩
  .exact hK [] [] O [] D5 ⟨_,rfl,rfl,by simpa[M.el]using hel,.nil,[],rfl,⟨rfl,rfl⟩,rfl⟩ D5
  .trivial
  .simp only;refine IJ λe=>?_;subst e;exact hK _ [] O [] D5 ⟨u,rfl,kU hv,he,l,Os,hv,ha,D5⟩ D5
 | .pair p q,off,ho,x,es,O,K,hr,hh,hel,hK=>by
  unfold Vs;obtain⟨c,d,O1,O2,rfl,rfl,h1,h2⟩:=hr;have hc:=aZ h1;have hel' :p.el=true/\q.el=true:=by simpa[M.el]using hel
  by_cases hlt:off<p.size
  .have hb:Nat.blt off p.size=true:=a6P hlt;simp only[hb,cond_true];have h2' :mM h ok q none x.2 d O2:=by
    rcases hh with rfl|rfl
    .exact h2
    .simpa only[hlt,if_true]using h2
   refine Il hp p off h1 (by rcases hh with rfl|rfl<;>first|exact .inl rfl|(right;simp only[hlt,if_true])) hel'.1 λy A Old B e1 e2 e3=>?_;refine hK _ A Old (B++O2) (by subst e1;simp) ⟨c.set off u,d,A++Op++B,O2,?_,D5,e2,h2'⟩ E5;rw[List.set_append_left _ _ o5]
  .have hb:Nat.blt off p.size=false:=a6O hlt;simp only[hb,cond_false];have h1' :mM h ok p none x.1 c O1:=by
    rcases hh with rfl|rfl
    .exact h1
    .simpa only[hlt,if_false]using h1
   refine Il hp q (off -p.size) h2 (by rcases hh with rfl|rfl<;>first|exact .inl rfl|(right;simp only[hlt,if_false])) hel'.2 λy A Old B e1 e2 e3=>?_;refine hK _ (O1++A) Old B (by subst e1;simp) ⟨c,d.set (off -p.size) u,O1,A++Op++B,?_,D5,h1',e2⟩ E5;rw[lW _ _ o5,hc]
 | .dat _,_,_,_,_,_,_,_,_,_,_=>trivial| .unit,_,_,_,_,_,_,_,_,_,_=>trivial| .box _,_,_,_,_,_,_,_,_,_,_=>trivial| .ownb _,_,_,_,_,_,_,_,_,_,_=>trivial| .cell _,_,_,_,_,_,_,_,_,_,_=>trivial| .fr _,_,_,_,_,_,_,_,_,_,_=>trivial| .sbx _ _,_,_,_,_,_,_,_,_,_,_=>trivial| .lp _,_,_,_,_,_,_,_,_,_,_=>trivial| .dv ..,_,_,_,_,_,_,_,_,_,_=>trivial| .ownr ..,_,_,_,_,_,_,_,_,_,_=>trivial| .sit,_,_,_,_,_,_,_,_,_,_=>trivial| .rp _,_,_,_,_,_,_,_,_,_,_=>trivial| .fn _ _,_,_,_,_,_,_,_,_,_,_=>trivial| .ifc _ _,_,_,_,_,_,_,_,_,_,_=>trivial
theorem Gw{α:Type}{Q:α->Sm->Prop}{C:Cx}{ln:Ty->Bool} :∀(t:Ty) {cs:List V} {K:t.den->List V->Cmd α} {S:Sm} {vs:c6H} (hf:t.flat=true) (hL:gB C cs vs)
  (hK:∀x r us us',vs=us++us' ->(∀h ok,rep h ok t x us)->gB C r us' ->(K x r).post S Q),(nU ln t cs K).post S Q
 | .bool,cs,K,S,vs,hf,hL,hK=>by
  unfold nU;split
  .obtain⟨v,r,rfl,h1,_,h3⟩:=hL;exact hK _ _ [v] r rfl (λ_ _=>by simp only[wU]at h1;simp[rep,h1]) h3
  .trivial
 | .int k,cs,K,S,vs,hf,hL,hK=>by
  unfold nU;split
  .obtain⟨v,r,rfl,h1,_,h3⟩:=hL;refine Y6 λe=>?_;have e:=of_decide_eq_true e;subst e;exact hK _ _ [v] r rfl (λ_ _=>by simp only[wU]at h1;simp[rep,h1]) h3
  .trivial
 | .str,cs,K,S,vs,hf,hL,hK=>by
  unfold nU;split
  .obtain⟨v,r,rfl,h1,_,h3⟩:=hL;exact hK _ _ [v] r rfl (λ_ _=>by simp only[wU]at h1;simp[rep,h1]) h3
  .trivial
 | .unit,cs,K,S,vs,hf,hL,hK=>by unfold nU;exact hK _ _ [] vs rfl (λ_ _=>rfl) hL
 | .prod p q,cs,K,S,vs,hf,hL,hK=>by unfold nU;simp[Ty.flat]at hf;refine Gw p hf.1 hL λx r us us' e1 h1 l1=>?_;refine Gw q hf.2 l1 λy r' vs2 vs2' e2 h2 l2=>?_;subst e1;subst e2;exact hK _ _ (us++vs2) vs2' D5 (λh ok=>⟨us,vs2,rfl,h1 h ok,h2 h ok⟩) l2| .sl t,cs,K,S,vs,hf,hL,hK=>by simp[Ty.flat]at hf
theorem a1h{us c d:List α}(h:off+us.length<=c.length):dA off us (c++d)=dA off us c++d:=by
 apply bU;intro i;have hs:=yZ h;rw[uk E5];by_cases hi:i<c.length
 .rw[V7 hi,V7 (l₁:=dA off us c) (by rw[hs];exact hi),uk h]
 .rw[H9 o5,H9 (l₁:=dA off us c) (by rw[hs];omega),hs,if_neg o5,if_neg o5]
theorem ZU{us c d:List α}(h:(off -c.length)+us.length<=d.length)(h' :c.length<=off):dA off us (c++d)=c++dA (off -c.length) us d:=by
 apply bU;intro i;rw[uk E5];by_cases hi:i<c.length
 .rw[V7 hi,if_pos o5,V7 hi]
 .rw[H9 o5,H9 (l₂:=dA (off -c.length) us d) o5,uk h];by_cases h1:i<off
  .simp only[h1,if_true,show i -c.length<off -c.length by omega]
  .by_cases h2:i<off+us.length
   .simp only[h1,if_false,h2,if_true,show ¬(i -c.length<off -c.length) by omega,show i -c.length<off -c.length+us.length by omega];congr 1;omega
   .simp only[h1,if_false,h2,show ¬(i -c.length<off -c.length) by omega,show ¬(i -c.length<off -c.length+us.length) by omega]
theorem Qw{α:Type}{Q:α->Sm->Prop}{h:Array Obj}{ok:Nat->Ty->Prop}{m:Mp} :∀(md:M) (off:Nat) {ho:Option Nat} {x:md.den} {es us:c6H} {vs:List V} {O:c6I} {K:md.den->Cmd α} {S:Sm}
  (hr:mM h ok md ho x es O) (hv:gB ⟨h,ok,m⟩ vs us)
  (hK:∀y,off+us.length<=es.length->mM h ok md ho y (dA off us es) O->(K y).post S Q),(a5F md off vs x K).post S Q
 | .dat t,off,ho,x,es,us,vs,O,K,S,hr,hv,hK=>by
  unfold a5F;refine Y6 λhf=>Cf _ _ _ λhle=>?_;rw[oH]at hle;obtain⟨hr,rfl⟩:=hr;have hl:=iQ hr;have hlv:=kJ hv;have hnew:=Dp (off:=off) hv (sK (C:=⟨h,ok,m⟩) hr);refine Gw t hf hnew λy q vs1 vs2 e1 h1 l1=>?_;cases q with
  |cons _ _=>trivial|nil=>
  simp only[gB]at l1;subst l1;simp only[G7]at e1;subst e1;exact hK y o5 ⟨h1 _ _,rfl⟩
 | .pair p q,off,ho,x,es,us,vs,O,K,S,hr,hv,hK=>by
  unfold a5F;obtain⟨c,d,O1,O2,rfl,rfl,h1,h2⟩:=hr;have hc:=aZ h1;by_cases hlt:off<p.size
  .have hb:Nat.blt off p.size=true:=a6P hlt;simp only[hb,cond_true];refine Qw p off h1 hv λy hle e2=>?_;exact hK _ E5 ⟨_,d,O1,O2,a1h hle,rfl,e2,h2⟩
  .have hb:Nat.blt off p.size=false:=a6O hlt;simp only[hb,cond_false];refine Qw q (off -p.size) h2 hv λy hle e2=>?_;refine hK _ E5 ⟨c,_,O1,O2,?_,rfl,h1,e2⟩;rw[ZU o5 o5,hc]
 | .own _,_,_,_,_,_,_,_,_,_,_,_,_=>trivial| .owns _,_,_,_,_,_,_,_,_,_,_,_,_=>trivial| .unit,_,_,_,_,_,_,_,_,_,_,_,_=>trivial| .box _,_,_,_,_,_,_,_,_,_,_,_,_=>trivial| .ownb _,_,_,_,_,_,_,_,_,_,_,_,_=>trivial| .cell _,_,_,_,_,_,_,_,_,_,_,_,_=>trivial| .fr _,_,_,_,_,_,_,_,_,_,_,_,_=>trivial| .sbx _ _,_,_,_,_,_,_,_,_,_,_,_,_=>trivial| .lp _,_,_,_,_,_,_,_,_,_,_,_,_=>trivial| .dv ..,_,_,_,_,_,_,_,_,_,_,_,_=>trivial| .ownr ..,_,_,_,_,_,_,_,_,_,_,_,_=>trivial| .sit,_,_,_,_,_,_,_,_,_,_,_,_=>trivial| .rp _,_,_,_,_,_,_,_,_,_,_,_,_=>trivial| .fn _ _,_,_,_,_,_,_,_,_,_,_,_,_=>trivial| .ifc _ _,_,_,_,_,_,_,_,_,_,_,_,_=>trivial
theorem XH(i:Nat):WZ none i=none:=rfl
theorem IX{i o j:Nat}(h:j≠i):WZ (some (i,o,k)) j=none:=by simp[WZ,h]
theorem Mc{i o:Nat} :WZ (some (i,o,k)) i=some o:=by simp[WZ]
theorem La{C:Cx}{hole:Option (Nat×Nat×Option Nat)}{blk off len cap sz:Nat}{Os:List c6I}(he:md.el=true)(hm:C.m n=some (.arr blk off len cap sz))
  (ha:vg C.h md.size (λi x es O=>mM C.h C.ok md (WZ hole i) x es O) xs Os (.arr blk off len cap sz)) (hk:C.m.kid n=Os.flatten) (hh:Vj C md.size (.arr blk off len cap sz) hole):Cm C n (.barrs md xs hole):=⟨he,_,Os,hm,⟨ha,hh⟩,hk⟩
theorem FX{j o2 idx off:Nat}(h:Vh (some (j,o2,k)) idx off=true):j=idx/\o2=off:=by
 simp only[Vh]at h;cases hb:Nat.beq o2 off<;>rw[hb]at h
 .cases h
 .exact⟨eU h,eU hb⟩
theorem a5Y(H:FxOk X){S1:Sm}{m1:Mp}{ok1:Nat->Ty->Prop}{w0:World}(R:Rel X (CB*q) (CB*q+CB) S1 m1 ok1 a w)(hT:Tk X S1 m1 ok1 w Op)
  (hm:∀k l,m k=some l->m1 k=some l) (hok:∀b t,ok b t->ok1 b t) {v:V} {l:Loc} {ks:c6I} {x:Value} (hv:v≠.undef)
  (ho:U2 (mO m1 (O8 q o.dst) l ks) (O8 q o.dst) v=Op) (hB:Cm ⟨w.heap,ok1,mO m1 (O8 q o.dst) l ks⟩ (O8 q o.dst) v)
  (hx:l.view none x) {bx idx off:Nat} {md:M} {xs:List md.den} (hS:S1 (X9+bx)= .barrs md xs (some (idx,off,none))) {blk o' len cap sz:Nat} (hmb:m1 bx=some (.arr blk o' len cap sz))
  (hc:bQ w.heap blk (o' +idx*md.size+off) 1=some [x]) (hsz:sz=md.size)
  (run:(execOp a.eval o).run X.P w0= .ok (.value x) w):
  (vI (O8 q o.dst) v (Cmd.set (X9+bx) (.barrs md xs (some (idx,off,some (O8 q o.dst)))) (dY X.E o.dst (.own (O8 q o.dst) none)))).post S1 (λ_ S' =>jO X (CB*q) (CB*q+CB) o a w0 m ok S'):=by
 refine pI λhn=>?_;have key:∀n,n=O8 q o.dst->CB*q<=n->n<CB*q+CB->∃R2:Rel X (CB*q) (CB*q+CB) (upd (upd S1 (X9+n) v) (X9+bx) (.barrs md xs (some (idx,off,some n)))) (mO m1 n l ks) ok1 a w,∀k l',m k=some l' ->mO m1 n l ks k=some l' :=by
  rintro n rfl h1 h2;obtain⟨R',_,hm'⟩:=R.adopt (T:=[]) hn h1 hv (by simpa using hT) (λb h=>by rw[ho]at h;exact h) (by rw[ho];exact hT.nodup) hB;rw[Dl o5]at R';have hne:bx≠O8 q o.dst:=λe=>by have:=R.fresh _ h1 hn;rw[←e,hmb]at this;cases this
  have hS' :upd S1 (X9+O8 q o.dst) v (X9+bx)= .barrs md xs (some (idx,off,none)):=by rw[bF _ _ o5];exact hS
  have hb:=R'.box bx;rw[hS']at hb;obtain⟨hel,l0,Os,hm0,⟨ha,_⟩,hk⟩:=hb;have hmb' :=hm' _ _ hmb;simp only at hm0;rw[hmb']at hm0;cases hm0;refine⟨R'.mod (by rw[hS'];rfl) D5 rfl rfl rfl rfl (λ_ _=>rfl) ⟨hel,_,Os,hmb',⟨?_,?_⟩,hk⟩,λk l' h=>hm' k l' (hm k l' h)⟩
  .exact uS (λ_ _=>rfl) (λi x es O _ hr=>hr) ha
  .exact⟨blk,o',len,cap,x,l,by rw[hsz],hc,ax _ _ _ _,hx⟩
 cases hd:o.dst with
 |none=>have hin:=qN H (q:=q) none (λt h=>by cases h);obtain⟨R2,hm2⟩:=key (O8 q none) (by rw[hd]) hin.1 o5;have:=wJ (o:=o) H R2 (m0:=m) (ok0:=ok) hm2 hok (v:=.own (O8 q none) none) ⟨l,ax _ _ _ _,hx⟩ run;rw[hd]at this;exact this
 |some t=>unfold dY;refine gG (bP λhb' =>?_);have hin:=qN H (q:=q) (some t) (λt' h=>by cases h;exact(zK hb').1);obtain⟨R2,hm2⟩:=key (O8 q (some t)) (by rw[hd]) hin.1 o5;have:=wJ (o:=o) H R2 (m0:=m) (ok0:=ok) hm2 hok (v:=.own (O8 q (some t)) none) ⟨l,ax _ _ _ _,hx⟩ run;rw[hd]at this;unfold dY at this;simp only[hb',cond_true]at this;exact this
theorem PY{C:Cx}{c:V} :∀{n:Nat} {cs:List V} {vs:c6H},gB C cs vs->(∀u,vs[n]? =some u->wU C c u)->gB C (setCell n c cs) vs
 |0,[],_,h,_=>h|_+1,[],_,h,_=>h|0,_::_,_,⟨v,r,e,h1,h2,h3⟩,hc=>by subst e;exact⟨v,r,rfl,hc v rfl,h2,h3⟩|n+1,_::_,_,⟨v,r,e,h1,h2,h3⟩,hc=>by subst e;exact⟨v,r,rfl,h1,h2,PY h3 (λu hu=>hc u (by simpa using hu))⟩
theorem a0y{C:Cx}{v:V}{es:c6H}{k n:Nat}{l:Loc}{x:Value}(hv:lQ C v u)(hu:u= .agg es.toArray)(hx:es[k]? =some x)(hn:C.m n=some l)(hl:l.view none x):lQ C (a2C k n v) u:=by
 cases v<;>try exact hv
 case agg cs=>obtain⟨arr,e,h⟩:=hv;refine⟨arr,e,PY h λu' hu' =>?_⟩;rw[e]at hu;injection hu with hu;subst hu;simp only at hu';rw[hx]at hu';cases hu';exact⟨l,hn,hl⟩
theorem GR{m:M} :∀{n off o:Nat},m.firstOwn off n=some o->off<=o/\o<off+n
 |0,_,_,h=>by cases h|n+1,off,o,h=>by
  unfold M.firstOwn at h;cases hb:m.ownAt off<;>rw[hb]at h
  .have:=GR (show m.firstOwn (off+1) n=some o from h);omega
  .simp only[cond_true,G8]at h;omega
theorem b1c{E:Env}{d:Option Nat}(h:tkD E d=true):∃t,d=some t/\PN E t=true:=by
 cases d with
 |none=>cases h|some t=>refine⟨t,rfl,?_⟩;unfold tkD at h;simp only[D6]at h;exact h.1
theorem b4u{Z n:Nat}{S1:Sm}{m1:Mp}{ok1:Nat->Ty->Prop}(R:Rel X Z (Z+CB) S1 m1 ok1 a w)(hT:Tk X S1 m1 ok1 w Op)
  (h1:Z<=n) (h2:n<Z+CB) {v:V} {l:Loc} {ks:c6I} {x:Value} (hv:v≠.undef)
  (ho:U2 (mO m1 n l ks) n v=Op) (hB:Cm ⟨w.heap,ok1,mO m1 n l ks⟩ n v)
  (hx:l.view none x) {bx idx off:Nat} {md:M} {xs:List md.den} (hS:S1 (X9+bx)= .barrs md xs (some (idx,off,none))) {blk o' len cap sz:Nat} (hmb:m1 bx=some (.arr blk o' len cap sz))
  (hc:bQ w.heap blk (o' +idx*md.size+off) 1=some [x]) (hsz:sz=md.size)
  (hK:∀S2 m2,Rel X Z (Z+CB) S2 m2 ok1 a w->(∀k l',m1 k=some l' ->m2 k=some l')->m2 n=some l->K.post S2 Q):
  (vI n v (Cmd.set (X9+bx) (.barrs md xs (some (idx,off,some n))) K)).post S1 Q:=by
 refine pI λhn=>gG ?_;obtain⟨R',_,hm'⟩:=R.adopt (T:=[]) hn h1 hv (by simpa using hT) (λb h=>by rw[ho]at h;exact h) (by rw[ho];exact hT.nodup) hB;rw[Dl o5]at R';have hne:bx≠n:=λe=>by have:=R.fresh _ h1 hn;rw[←e,hmb]at this;cases this
 have hS' :upd S1 (X9+n) v (X9+bx)= .barrs md xs (some (idx,off,none)):=by rw[bF _ _ o5];exact hS
 have hb:=R'.box bx;rw[hS']at hb;obtain⟨hel,l0,Os,hm0,⟨ha,_⟩,hk⟩:=hb;have hmb' :=hm' _ _ hmb;simp only at hm0;rw[hmb']at hm0;cases hm0;refine hK _ _ (R'.mod (by rw[hS'];rfl) D5 rfl rfl rfl rfl (λ_ _=>rfl) ⟨hel,_,Os,hmb',⟨?_,?_⟩,hk⟩) hm' (ax _ _ _ _)
 .exact uS (λ_ _=>rfl) (λi x es O _ hr=>hr) ha
 .exact⟨blk,o',len,cap,x,l,by rw[hsz],hc,ax _ _ _ _,hx⟩
theorem b2d(H:FxOk X)(R:Rel X (CB*q) (CB*q+CB) S m ok a w)(ho:o.op= .load t x):(dJ X.E q o).post S (λ_ S' =>jO X (CB*q) (CB*q+CB) o a w m ok S'):=by
 unfold dJ;simp only[ho];refine dh R λp hp=>?_;have plain:(FZ X.E t p λv=>dY X.E o.dst v).post S (λ_ S' =>jO X (CB*q) (CB*q+CB) o a w m ok S'):=by refine BZ H R hp λv u ad hv hx hr=>aW H R hv ?_;simp[execOp,ho,hx,Instr.loadAt,Instr.sureAddr,hr]
 unfold b3o;split
 .rename_i bx idx off;refine X7 ?_;split
  .rename_i md xs hS;cases hown:md.ownAt off
   .simp only[cond_false];cases htk:tkD X.E o.dst
    .simpa only[cond_false]using plain
    simp only[cond_true];obtain⟨dt,hdt,hok1⟩:=b1c htk;refine jY H λi hi=>?_;split
    .exact plain
    rename_i po hfo;obtain⟨hfo1,hfo2⟩:=GR hfo;refine Y6 λhi1=>dM λe0 he0=>?_;simp only[D6]at hi1;obtain⟨hagg,hfit⟩:=hi1;have hfit:=S9 hfit;have hp' :=hp;obtain⟨blk,o',len,cap,sz,hm,hlt,hx⟩:=hp;obtain⟨hel,l,Os,hm',⟨ha,hho⟩,hk⟩:=R.own_barrs hS;simp only at hm;rw[hm]at hm';cases hm';obtain⟨rfl,rfl,h3,h7,c,T,hh,hs,hxs⟩:=ha;obtain⟨es,O,hO,he,hr⟩:=hxs idx e0 he0;refine Jh md po hr λv l2 ks u O1 Op O2 eO hr' hu hv hB hvu=>?_;refine gG ?_;have hOs:Os.flatten.Perm ((Os.set idx (O1++O2)).flatten++Op):=qw (by rw[hO,eO]);have hown0:U2 m bx (S (X9+bx))=blk::Os.flatten:=by simp[U2,hS,hm,hk]
    have hown1:U2 (Bh m bx (Os.set idx (O1++O2)).flatten) bx (.barrs md xs (some (idx,po,none)))=blk::(Os.set idx (O1++O2)).flatten:=by simp[U2,hm]
    have hnd:=R.nd bx;rw[hown0]at hnd;have hperm:(blk::Os.flatten).Perm ((blk::(Os.set idx (O1++O2)).flatten)++Op):=by simpa using hOs.cons blk
    have hnd' :=P8.1 (hperm.nodup_iff.1 hnd);have hB1:Cm ⟨w.heap,ok,Bh m bx (Os.set idx (O1++O2)).flatten⟩ bx (.barrs md xs (some (idx,po,none))):=by
     refine La (Os:=Os.set idx (O1++O2)) hel hm ⟨rfl,rfl,h3,by simp[h7],c,T,hh,hs,λj z hz=>?_⟩ D5 trivial;by_cases hj:j=idx
     .subst hj;rw[show xs[j]? =some e0 from he0]at hz;cases hz;refine⟨es,O1++O2,?_,he,by simp only[Mc];exact hr'⟩;rw[O6,if_pos rfl,if_pos (by rw[h7];exact hlt)]
     .obtain⟨es2,O',hO2,he2,hr2⟩:=hxs j z hz;refine⟨es2,O',?_,he2,by simp only[IX hj];exact hr2⟩;rw[O6,if_neg (λe=>hj e.symm)];exact hO2
    obtain⟨R1,T1⟩:=R.modK (T:=[]) Tk.nil (n:=bx) (v:=.barrs md xs (some (idx,po,none))) (ks:=(Os.set idx (O1++O2)).flatten) (w' :=w) (T' :=Op) D5 (by rw[hown1];exact hnd'.1)
     (λb hb=> .inl (by rw[hown0];rw[hown1]at hb;exact hperm.mem_iff.2 (Y4 _ hb))) rfl rfl rfl rfl (λ_ _=>rfl) hB1 hnd'.2.1
     (λb hb=>⟨.inl (by rw[hown0];exact hperm.mem_iff.2 (bW _ hb)),λh=>hnd'.2.2 b (by rw[hown1]at h;exact h) b hb rfl⟩)
    obtain⟨hB2,hB3,hB4⟩:=hB (Bh m bx (Os.set idx (O1++O2)).flatten) (O8 q o.dst);have hlt2:=(bg.1 hu);have hle:po+1<=md.size:=by have:=aZ hr;have:=hlt2.1;omega
    have hc1:=qI he po 1 o5;have h1:(es.drop po).take 1=[u]:=by obtain⟨hlt3,rfl⟩:=hlt2;rw[bC hlt3];rfl
    rw[h1]at hc1;have hin:=qN H (q:=q) (some dt) (λt h=>by cases h;exact(zK hok1).1);rw[hdt]at hB2 hB3;have e:=qI he off i.size hfit;have hr2:=tV hi w e;rw[hagg]at hr2;rw[hdt];refine b4u R1 T1 hin.1 o5 hvu hB3 hB2 hv (by rw[jZ]) hm hc1 rfl λS2 m2 R2 k2 hn2=>?_;have hp2:lQ ⟨w.heap,ok,m2⟩ (.ep bx idx off) (a.eval x):=Jo (C:=⟨w.heap,ok,m⟩) (D:=⟨w.heap,ok,m2⟩) ⟨λ_ _ h=>h,λ_ _ _=>rfl,k2⟩ hp';rw[←hdt]at hn2 ⊢;refine BZ H R2 hp2 λv3 u3 ad hv3 hx3 hr3=>?_;have had:ad=⟨blk,o' +idx*md.size+off,none⟩:=by rw[hx]at hx3;injection hx3 with hx3;injection hx3 with hx3;exact hx3.symm
    subst had;have hu3:u3= .agg ((es.drop off).take i.size).toArray:=by rw[hr2]at hr3;injection hr3 with e1 e2;exact e1.symm
    refine wJ (o:=o) H R2 (m0:=m) (ok0:=ok) k2 (λ_ _ h=>h) (a0y (x:=u) (l:=l2) hv3 hu3 ?_ hn2 hv) ?_
    .rw[aU o5,O9,show off+(po -off)=po by omega];exact hu
    .simp[execOp,ho,hx,Instr.loadAt,Instr.sureAddr,hr3]
   simp only[cond_true];refine jY H λi hi=>Y6 λhi1=>?_;simp only[D6,bT]at hi1;obtain⟨hsz,hagg⟩:=hi1;have hsz:=eU hsz;have hp' :=hp;obtain⟨blk,o',len,cap,sz,hm,hlt,hx⟩:=hp;obtain⟨hel,l,Os,hm',⟨ha,hho⟩,hk⟩:=R.own_barrs hS;simp only at hm;rw[hm]at hm';cases hm';cases DV (match o.dst with|some d=>d|none=>X9) X.E.tk<;>simp only[cond_true,cond_false]
   .refine IC (T:=[]) (.sl md.ty) R Tk.nil (cs:=[.own bx none]) (vs:=[.slice (some ⟨blk,o',none⟩) len cap]) ⟨_,_,rfl,⟨_,hm,rfl⟩,rfl,rfl⟩ λS1 ok1 _ _ us us' R1 T1 k1 s1 e1 h1 l1=>?_;refine BZ H R1 (Ue k1 hp') λv u ad hv hx hr=>wJ H R1 (λ_ _ h=>h) k1 hv ?_;simp[execOp,ho,hx,Instr.loadAt,Instr.sureAddr,hr]
   .refine dM λe0 he0=>?_;obtain⟨rfl,rfl,h3,h7,c,T,hh,hs,hxs⟩:=ha;obtain⟨es,O,hO,he,hr⟩:=hxs idx e0 he0;refine Jh md off hr λv l2 ks u O1 Op O2 eO hr' hu hv hB hvu=>?_;refine gG ?_;have hOs:Os.flatten.Perm ((Os.set idx (O1++O2)).flatten++Op):=qw (by rw[hO,eO]);have hown0:U2 m bx (S (X9+bx))=blk::Os.flatten:=by simp[U2,hS,hm,hk]
    have hown1:U2 (Bh m bx (Os.set idx (O1++O2)).flatten) bx (.barrs md xs (some (idx,off,none)))=blk::(Os.set idx (O1++O2)).flatten:=by simp[U2,hm]
    have hnd:=R.nd bx;rw[hown0]at hnd;have hperm:(blk::Os.flatten).Perm ((blk::(Os.set idx (O1++O2)).flatten)++Op):=by simpa using hOs.cons blk
    have hnd' :=P8.1 (hperm.nodup_iff.1 hnd);have hB1:Cm ⟨w.heap,ok,Bh m bx (Os.set idx (O1++O2)).flatten⟩ bx (.barrs md xs (some (idx,off,none))):=by
     refine La (Os:=Os.set idx (O1++O2)) hel hm ⟨rfl,rfl,h3,by simp[h7],c,T,hh,hs,λj z hz=>?_⟩ D5 trivial;by_cases hj:j=idx
     .subst hj;rw[show xs[j]? =some e0 from he0]at hz;cases hz;refine⟨es,O1++O2,?_,he,by simp only[Mc];exact hr'⟩;rw[O6,if_pos rfl,if_pos (by rw[h7];exact hlt)]
     .obtain⟨es2,O',hO2,he2,hr2⟩:=hxs j z hz;refine⟨es2,O',?_,he2,by simp only[IX hj];exact hr2⟩;rw[O6,if_neg (λe=>hj e.symm)];exact hO2
    obtain⟨R1,T1⟩:=R.modK (T:=[]) Tk.nil (n:=bx) (v:=.barrs md xs (some (idx,off,none))) (ks:=(Os.set idx (O1++O2)).flatten) (w' :=w) (T' :=Op) D5 (by rw[hown1];exact hnd'.1)
     (λb hb=> .inl (by rw[hown0];rw[hown1]at hb;exact hperm.mem_iff.2 (Y4 _ hb))) rfl rfl rfl rfl (λ_ _=>rfl) hB1 hnd'.2.1
     (λb hb=>⟨.inl (by rw[hown0];exact hperm.mem_iff.2 (bW _ hb)),λh=>hnd'.2.2 b (by rw[hown1]at h;exact h) b hb rfl⟩)
    obtain⟨hB2,hB3,hB4⟩:=hB (Bh m bx (Os.set idx (O1++O2)).flatten) (O8 q o.dst);have hlt2:=(bg.1 hu);have hle:off+1<=md.size:=by have:=aZ hr;have:=hlt2.1;omega
    have e:=qI he off i.size o5;have hr2:=tV hi w e;have h1:(es.drop off).take i.size=[u]:=by obtain⟨hlt3,rfl⟩:=hlt2;rw[hsz,bC hlt3];rfl
    refine a5Y (ok:=ok) (m:=m) H R1 T1 (λ_ _ h=>h) (λ_ _ h=>h) hvu hB3 hB2 hv (by rw[jZ]) hm (by rw[←h1,←hsz];exact e) rfl ?_;rw[h1,hagg]at hr2;simp[execOp,ho,hx,Instr.loadAt,Instr.sureAddr,hr2,Qj]
  .rename_i md xs i2 o2 n2 hS;cases hown:md.ownAt off
   .simp only[cond_false];cases htk:tkD X.E o.dst
    .simpa only[cond_false]using plain
    simp only[cond_true];refine jY H λi hi=>?_;split
    .exact plain
    rename_i po hfo;obtain⟨hfo1,hfo2⟩:=GR hfo;refine Y6 λhi1=>⟨λhat=>?_,λ_=>trivial⟩;simp only[D6]at hi1;obtain⟨hagg,hfit⟩:=hi1;have hfit:=S9 hfit;obtain⟨e1,e2⟩:=FX hat
    subst e1;subst e2;have hp' :=hp;obtain⟨blk,o',len,cap,sz,hm,hlt,hx⟩:=hp;obtain⟨hel,l,Os,hm',⟨ha,blk',off',len',cap',u,l',hl,hc,hmn,hvw⟩,hk⟩:=R.own_barrs hS;simp only at hm;rw[hm]at hm';cases hm';cases hl;obtain⟨_,rfl,h3,h7,c,T,hh,hs,hxs⟩:=ha;refine BZ H R hp' λv3 u3 ad hv3 hx3 hr3=>?_;have had:ad=⟨blk,o' +i2*md.size+off,none⟩:=by rw[hx]at hx3;injection hx3 with hx3;injection hx3 with hx3;exact hx3.symm
    subst had;have hltx:i2<xs.length:=hlt;obtain⟨es,O,hO,he,hr⟩:=hxs i2 _ (lF hltx);have e:=qI he off i.size hfit;have hr2:=tV hi w e;rw[hagg]at hr2;have hu3:u3= .agg ((es.drop off).take i.size).toArray:=by rw[hr2]at hr3;injection hr3 with e1 e2;exact e1.symm
    refine aW H R (a0y (x:=u) (l:=l') hv3 hu3 ?_ hmn hvw) ?_
    .have hes:=lU he;have hc2:=qI he o2 1 o5;rw[hc]at hc2;have:=congrArg (λl=>l[0]?) (Y1 hc2);simp only[iW,aU (show 0<1 by omega),O9,aH]at this;rw[aU o5,O9,show off+(o2 -off)=o2 by omega];exact this.symm
    .simp[execOp,ho,hx,Instr.loadAt,Instr.sureAddr,hr3]
   simp only[cond_true];refine jY H λi hi=>Y6 λhi1=>⟨λhat=>?_,λ_=>trivial⟩;simp only[D6,bT]at hi1;obtain⟨hsz,hagg⟩:=hi1;have hsz:=eU hsz;obtain⟨e1,e2⟩:=FX hat
   subst e1;subst e2;obtain⟨blk,o',len,cap,sz,hm,hlt,hx⟩:=hp;obtain⟨hel,l,Os,hm',⟨ha,blk',off',len',cap',u,l',hl,hc,hmn,hvw⟩,hk⟩:=R.own_barrs hS;simp only at hm;rw[hm]at hm';cases hm';cases hl;have e:bQ w.heap blk (o' +i2*md.size+o2) i.size=some [u]:=by rw[hsz];exact hc
   have hr2:=tV hi w e;rw[hagg]at hr2;refine aW H R (v:=.own n2 none) (x:=u) ⟨l',hmn,hvw⟩ ?_;simp[execOp,ho,hx,Instr.loadAt,Instr.sureAddr,hr2,Qj]
  .exact plain
 .exact plain
theorem Fq{S' :Sm}{x y:Operand}{w' :World}{m' :Mp}{ok' :Nat->Ty->Prop}(ho:o.op= .store t x y)(hd:o.dst=none)(run:(Instr.storeAt t (a.eval x) (a.eval y)).run X.P w= .ok () w')
  (R:Rel X cl ch S' m' ok' a w') (hm:∀k l,m k=some l->m' k=some l) (hok:∀b t,ok b t->ok' b t):jO X cl ch o a w m ok S' :=by
 intro next Q hn
 unfold Oper.wp;have e:(execOp a.eval o).run X.P w= .ok .skip w' :=by simp[execOp,ho,run]
 rw[e,Oper.upon_skip,hd];exact hn m' ok' a w' R hm hok
theorem Wx{u:α}(h:off<L.length):dA off [u] L=L.set off u:=by
 apply bU;intro i;rw[uk E5,O6];by_cases h1:i=off
 .subst h1;rw[if_neg o5,if_pos D5,if_pos rfl,if_pos h];simp
 .by_cases h2:i<off
  .rw[if_pos h2,if_neg o5]
  .rw[if_neg h2,if_neg E5,if_neg o5]
theorem Xx(h:u.oneCell' =true):u.cells.toList=[u]:=by cases u<;>simp[Value.oneCell',Value.cells]at*
theorem Qb{w:World}{blk o' sz len cap off idx:Nat}{c:Array Value}{T:TypeId}{f:Nat×Nat}(hh:w.heap[blk]? =some (.cells c T f))(hs:o' +cap*sz<=c.size)(hlc:len<=cap)(hlt:idx<len){us es:c6H}
  (he:bQ w.heap blk (o' +idx*sz) sz=some es) (hf:off+us.length<=sz):
  o' +idx*sz+off+us.length<=c.size/\(dA (o' +idx*sz+off) us c.toList).length=c.size/\
  bQ (w.setRow blk (dA (o' +idx*sz+off) us c.toList).toArray).heap blk (o' +idx*sz) sz=some (dA off us es)/\
  (∀j,j<len->j≠idx->bQ (w.setRow blk (dA (o' +idx*sz+off) us c.toList).toArray).heap blk (o' +j*sz) sz=bQ w.heap blk (o' +j*sz) sz):=by
 have hcap:(idx+1)*sz<=cap*sz:=J3 _ o5;rw[N7,aY]at hcap;have hfit:o' +idx*sz+off+us.length<=c.size:=o5;have hcl:c.toList.length=c.size:=D5;have hsp:(dA (o' +idx*sz+off) us c.toList).length=c.size:=by rw[yZ (by rw[hcl];exact hfit)];exact hcl
 refine⟨hfit,hsp,?_,λj hj hne=>?_⟩
 .rw[Lt hh _ _ _ (by rw[hsp];omega),Ry (by rw[hcl];omega) o5];obtain⟨c2,T2,f2,hb2,hn2,rfl⟩:=qO he;rw[hh]at hb2;cases hb2;rfl
 .have hcap' :(j+1)*sz<=cap*sz:=J3 _ o5;rw[N7,aY]at hcap';rw[Lt hh _ _ _ (by rw[hsp];omega),jA hh _ _ o5,a3w (by rw[hcl];exact hfit)];rcases Nat.lt_or_gt_of_ne hne with hlt'|hgt
  .left;have:(j+1)*sz<=idx*sz:=J3 _ o5;rw[N7,aY]at this;omega
  .right;have:(idx+1)*sz<=j*sz:=J3 _ o5;rw[N7,aY]at this;omega
theorem Ti{Q:Unit->Sm->Prop}(R:Rel X cl ch S m ok a w)(hT:Tk X S m ok w Op){i:TI}(hi:TiOk X.P t i)(h1:i.size=1){hole:Option (Nat×Nat×Option Nat)}
  (hS:S (X9+bx)= .barrs md xs hole) {blk o' len cap sz:Nat} (hm:m bx=some (.arr blk o' len cap sz)) {v:V} {u:Value} (hp:Qm w.heap ok v u Op)
  (hK:∀S' m' w',Rel X cl ch S' m' ok a w' ->(∀k l,m k=some l->m' k=some l)->(storeVar t ⟨blk,o' +idx*sz+off,none⟩ u).run X.P w= .ok () w' ->Q () S'):
  (ZV bx idx off md xs hole v (.ret ())).post S Q:=by
 unfold ZV;refine⟨λhb=>?_,λ_=>trivial⟩;refine dM λe0 he0=>?_;have he0' :xs[idx]? =some e0:=he0;obtain⟨hel,l,Os,hm',⟨ha,hho⟩,hk⟩:=R.own_barrs hS;rw[hm]at hm';cases hm';obtain⟨rfl,rfl,h3,h7,c,T,hh,hs,hxs⟩:=ha;obtain⟨es,O,hO,he,hr⟩:=hxs idx e0 he0';have hho:WZ hole idx=none\/WZ hole idx=some off:=by
  rcases hole with _|⟨j,o2,o3⟩
  .exact .inl rfl
  .obtain⟨e1,e2⟩:=FX hb;subst e1;subst e2;exact .inr Mc
 have hho' :∀j,j≠idx->WZ hole j=none:=λj hj=>by
  rcases hole with _|⟨j',o2,o3⟩
  .rfl
  .obtain⟨e1,_⟩:=FX hb;subst e1;exact IX hj
 refine Il hp md off hr hho hel λy O1 Old O2 eO hr' hoff=>gG ?_;have hlt:idx<xs.length:=(bg.1 he0').1;have hes:es.length=md.size:=aZ hr;have hu1:=hp.one;have huc:=Xx hu1;obtain⟨hfit,hsp,hnew,hold⟩:=Qb (us:=[u]) (off:=off) hh hs h3 hlt he E5;have run:=Bf hi w (off:=o' +idx*md.size+off) hh (.inl rfl) (v:=u) (by have:=congrArg List.length huc;simp at this;omega) (by simpa[h1]using hfit) (by rw[huc];simp[hu1]);rw[huc]at run;generalize hw' :w.setRow blk (dA (o' +idx*md.size+off) [u] c.toList).toArray=w' at run hnew hold;have hrow:w'.heap[blk]? =some (.cells (dA (o' +idx*md.size+off) [u] c.toList).toArray T (0,0)):=by subst hw';exact setRow_heap w blk c _ T (0,0) hh
 have hoth:∀b,b≠blk->w'.heap[b]? =w.heap[b]?:=λb hb=>by subst hw';exact setRow_other w blk b _ hb
 have hsize:w'.heap.size=w.heap.size:=by subst hw';simp
 have hos:w'.os=w.os:=by subst hw';rfl
 have htp:w'.tape=w.tape:=by subst hw';rfl
 have hout:w'.output=w.output:=by subst hw';rfl
 have hO1:Os.flatten.Perm ((Os.set idx (O1++O2)).flatten++Old):=qw (by rw[hO,eO]);have hO2:(Os.set idx (O1++Op++O2)).flatten.Perm ((Os.set idx (O1++O2)).flatten++Op):=by have:=qw (Os:=Os.set idx (O1++Op++O2)) (i:=idx) (O1:=O1) (P:=Op) (O2:=O2) (by rw[O6,if_pos rfl,if_pos (by rw[h7];exact hlt)]);rwa[List.set_set]at this
 have hown0:U2 m bx (S (X9+bx))=blk::Os.flatten:=by simp[U2,hS,hm,hk]
 have hown1:U2 (Bh m bx (Os.set idx (O1++Op++O2)).flatten) bx (.barrs md (fD xs idx y) none)=blk::(Os.set idx (O1++Op++O2)).flatten:=by simp[U2,hm]
 have hnd:=R.nd bx;rw[hown0]at hnd;have hnd0:=X0.1 hnd;have hndA:=P8.1 (hO1.nodup_iff.1 hnd0.2);have hfreeOp:∀b∈Op,b∉blk::Os.flatten:=λb hb h=>(hT.free b hb).2.2.2 bx (by rw[hown0];exact h);have hsubA:∀b∈(Os.set idx (O1++O2)).flatten,b∈Os.flatten:=λb hb=>hO1.mem_iff.2 (Y4 _ hb);have hneO:∀b∈Os.flatten,b≠blk:=λb hb e=>hnd0.1 (e▸hb);have hneP:∀b∈Op,b≠blk:=λb hb e=>hfreeOp b hb (by simp[e]);have hkeep:∀b t,ok b t->w'.heap[b]? =w.heap[b]?:=λb t hb=>hoth b (λe=>(R.sep bx blk (by rw[hown0];simp)).1 t (e▸hb));have hB:Cm ⟨w'.heap,ok,Bh m bx (Os.set idx (O1++Op++O2)).flatten⟩ bx (.barrs md (fD xs idx y) none):=by
  refine La (Os:=Os.set idx (O1++Op++O2)) hel hm ⟨rfl,by simp[fD],h3,by simp[h7,fD],_,T,hrow,by simp[hsp];exact hs,λj z hz=>?_⟩ D5 trivial;unfold fD at hz;rw[O6]at hz;split at hz
  .rename_i hj;subst hj;cases hz;refine⟨_,O1++Op++O2,by rw[O6,if_pos rfl,if_pos (by rw[h7];exact hlt)],hnew,?_⟩;rw[Wx o5];refine iK (λ_ _ h=>h) hkeep (λb hb=>hoth b ?_) hr';rcases J6.1 hb with hb|hb
   .rcases J6.1 hb with hb|hb
    .exact hneO b (ah.2 ⟨O,yu hO,by rw[eO];simp[hb]⟩)
    .exact hneP b hb
   .exact hneO b (ah.2 ⟨O,yu hO,by rw[eO];simp[hb]⟩)
  .rename_i hj;obtain⟨es2,O',hO2',he2,hr2⟩:=hxs j z hz;refine⟨es2,O',by rw[O6,if_neg hj];exact hO2',by rw[←he2];exact hold j (bg.1 hz).1 (λe=>hj e.symm),?_⟩;simp only[XH];rw[hho' j (λe=>hj e.symm)]at hr2;exact iK (λ_ _ h=>h) hkeep (λb hb=>hoth b (hneO b (ah.2 ⟨O',yu hO2',hb⟩))) hr2
 have hmod:=R.modK hT (n:=bx) (v:=.barrs md (fD xs idx y) none) (ks:=(Os.set idx (O1++Op++O2)).flatten) (w' :=w') (T' :=[]) D5
  (by
   rw[hown1];refine X0.2 ⟨λh=>?_,hO2.nodup_iff.2 (P8.2 ⟨hndA.1,hT.nodup,λx hx z hz e=>?_⟩)⟩
   .rcases J6.1 (hO2.mem_iff.1 h)with h|h
    .exact hnd0.1 (hsubA _ h)
    .exact hneP _ h rfl
   .subst e;exact hfreeOp x hz (by simp[hsubA x hx]))
  (λb hb=>by
   rw[hown1]at hb;rw[hown0];rcases D8.1 hb with hb|hb
   .exact .inl (by simp[hb])
   .rcases J6.1 (hO2.mem_iff.1 hb)with h|h
    .exact .inl (by simp[hsubA _ h])
    .exact .inr h)
  hos htp hout hsize (λb hb=>hoth b (λe=>hb (by rw[hown0,e];simp))) hB bu (λb hb=>by cases hb)
 exact hK _ _ w' hmod.1 (λ_ _ h=>h) run
theorem a1k{Q:Unit->Sm->Prop}(R:Rel X cl ch S m ok a w)(hT:Tk X S m ok w Op){i:TI}(hi:TiOk X.P t i)(h1:i.size=1){kn:Int}{ko:Nat}
  (hS:S (X9+bx)= .barrp md xs kn ko) (hoff:off=ko) (hidx:idx=kn.toNat) {blk o' len cap sz:Nat} (hm:m bx=some (.arr blk o' len cap sz)) {v:V} {u:Value} (hp:Qm w.heap ok v u Op)
  (hK:∀S' m' w',Rel X cl ch S' m' ok a w' ->(∀k l,m k=some l->m' k=some l)->(storeVar t ⟨blk,o' +idx*sz+off,none⟩ u).run X.P w= .ok () w' ->Q () S'):
  (Cmd.opt (aN xs idx) λx=>Vs md off v x (λy=>Cmd.set (X9+bx) (.barrp md (fD xs idx y) (TF kn) ko) (.ret ())) .fail).post S Q:=by
 refine dM λe0 he0=>?_;have he0' :xs[idx]? =some e0:=he0;obtain⟨hel,hk0,l,Os,hm',ha,hk⟩:=R.own_barrp hS;rw[hm]at hm';cases hm';obtain⟨rfl,rfl,h3,h7,c,T,hh,hs,hxs⟩:=ha;obtain⟨es,O,hO,he,hr⟩:=hxs idx e0 he0';have hho:wK ko kn.toNat idx=none\/wK ko kn.toNat idx=some off:=.inr (by rw[hidx,hoff];simp[wK]);have hsuc:(TF kn).toNat=kn.toNat+1:=by unfold TF;omega
 have hho1:wK ko (TF kn).toNat idx=none:=by unfold wK;rw[if_neg o5]
 have hho' :∀j,j≠idx->wK ko (TF kn).toNat j=wK ko kn.toNat j:=λj hj=>by
  unfold wK;by_cases h:kn.toNat<=j
  .rw[if_pos h,if_pos o5]
  .rw[if_neg h,if_neg o5]
 refine Il hp md off hr hho hel λy O1 Old O2 eO hr' hoff=>gG ?_;have hlt:idx<xs.length:=(bg.1 he0').1;have hes:es.length=md.size:=aZ hr;have hu1:=hp.one;have huc:=Xx hu1;obtain⟨hfit,hsp,hnew,hold⟩:=Qb (us:=[u]) (off:=off) hh hs h3 hlt he E5;have run:=Bf hi w (off:=o' +idx*md.size+off) hh (.inl rfl) (v:=u) (by have:=congrArg List.length huc;simp at this;omega) (by simpa[h1]using hfit) (by rw[huc];simp[hu1]);rw[huc]at run;generalize hw' :w.setRow blk (dA (o' +idx*md.size+off) [u] c.toList).toArray=w' at run hnew hold;have hrow:w'.heap[blk]? =some (.cells (dA (o' +idx*md.size+off) [u] c.toList).toArray T (0,0)):=by subst hw';exact setRow_heap w blk c _ T (0,0) hh
 have hoth:∀b,b≠blk->w'.heap[b]? =w.heap[b]?:=λb hb=>by subst hw';exact setRow_other w blk b _ hb
 have hsize:w'.heap.size=w.heap.size:=by subst hw';simp
 have hos:w'.os=w.os:=by subst hw';rfl
 have htp:w'.tape=w.tape:=by subst hw';rfl
 have hout:w'.output=w.output:=by subst hw';rfl
 have hO1:Os.flatten.Perm ((Os.set idx (O1++O2)).flatten++Old):=qw (by rw[hO,eO]);have hO2:(Os.set idx (O1++Op++O2)).flatten.Perm ((Os.set idx (O1++O2)).flatten++Op):=by have:=qw (Os:=Os.set idx (O1++Op++O2)) (i:=idx) (O1:=O1) (P:=Op) (O2:=O2) (by rw[O6,if_pos rfl,if_pos (by rw[h7];exact hlt)]);rwa[List.set_set]at this
 have hown0:U2 m bx (S (X9+bx))=blk::Os.flatten:=by simp[U2,hS,hm,hk]
 have hown1:U2 (Bh m bx (Os.set idx (O1++Op++O2)).flatten) bx (.barrp md (fD xs idx y) (TF kn) ko)=blk::(Os.set idx (O1++Op++O2)).flatten:=by simp[U2,hm]
 have hnd:=R.nd bx;rw[hown0]at hnd;have hnd0:=X0.1 hnd;have hndA:=P8.1 (hO1.nodup_iff.1 hnd0.2);have hfreeOp:∀b∈Op,b∉blk::Os.flatten:=λb hb h=>(hT.free b hb).2.2.2 bx (by rw[hown0];exact h);have hsubA:∀b∈(Os.set idx (O1++O2)).flatten,b∈Os.flatten:=λb hb=>hO1.mem_iff.2 (Y4 _ hb);have hneO:∀b∈Os.flatten,b≠blk:=λb hb e=>hnd0.1 (e▸hb);have hneP:∀b∈Op,b≠blk:=λb hb e=>hfreeOp b hb (by simp[e]);have hkeep:∀b t,ok b t->w'.heap[b]? =w.heap[b]?:=λb t hb=>hoth b (λe=>(R.sep bx blk (by rw[hown0];simp)).1 t (e▸hb));have hB:Cm ⟨w'.heap,ok,Bh m bx (Os.set idx (O1++Op++O2)).flatten⟩ bx (.barrp md (fD xs idx y) (TF kn) ko):=by
  refine⟨hel,by unfold TF;omega,_,Os.set idx (O1++Op++O2),hm,⟨rfl,by simp[fD],h3,by simp[h7,fD],_,T,hrow,by simp[hsp];exact hs,λj z hz=>?_⟩,D5⟩;unfold fD at hz;rw[O6]at hz;split at hz
  .rename_i hj;subst hj;cases hz;refine⟨_,O1++Op++O2,by rw[O6,if_pos rfl,if_pos (by rw[h7];exact hlt)],hnew,?_⟩;rw[Wx o5];show mM w'.heap ok md (wK ko (TF kn).toNat idx) y _ _;rw[hho1];refine iK (λ_ _ h=>h) hkeep (λb hb=>hoth b ?_) hr';rcases J6.1 hb with hb|hb
   .rcases J6.1 hb with hb|hb
    .exact hneO b (ah.2 ⟨O,yu hO,by rw[eO];simp[hb]⟩)
    .exact hneP b hb
   .exact hneO b (ah.2 ⟨O,yu hO,by rw[eO];simp[hb]⟩)
  .rename_i hj;obtain⟨es2,O',hO2',he2,hr2⟩:=hxs j z hz;refine⟨es2,O',by rw[O6,if_neg hj];exact hO2',by rw[←he2];exact hold j (bg.1 hz).1 (λe=>hj e.symm),?_⟩;show mM w'.heap ok md (wK ko (TF kn).toNat j) z es2 O';rw[hho' j (λe=>hj e.symm)];exact iK (λ_ _ h=>h) hkeep (λb hb=>hoth b (hneO b (ah.2 ⟨O',yu hO2',hb⟩))) hr2
 have hmod:=R.modK hT (n:=bx) (v:=.barrp md (fD xs idx y) (TF kn) ko) (ks:=(Os.set idx (O1++Op++O2)).flatten) (w' :=w') (T' :=[]) D5
  (by
   rw[hown1];refine X0.2 ⟨λh=>?_,hO2.nodup_iff.2 (P8.2 ⟨hndA.1,hT.nodup,λx hx z hz e=>?_⟩)⟩
   .rcases J6.1 (hO2.mem_iff.1 h)with h|h
    .exact hnd0.1 (hsubA _ h)
    .exact hneP _ h rfl
   .subst e;exact hfreeOp x hz (by simp[hsubA x hx]))
  (λb hb=>by
   rw[hown1]at hb;rw[hown0];rcases D8.1 hb with hb|hb
   .exact .inl (by simp[hb])
   .rcases J6.1 (hO2.mem_iff.1 hb)with h|h
    .exact .inl (by simp[hsubA _ h])
    .exact .inr h)
  hos htp hout hsize (λb hb=>hoth b (λe=>hb (by rw[hown0,e];simp))) hB bu (λb hb=>by cases hb)
 exact hK _ _ w' hmod.1 (λ_ _ h=>h) run
theorem a9K{l:List α}{u:α}(h:l[i]? =some u):l.set i u=l:=by
 apply bU;intro j;rw[O6];split
 .rename_i e;subst e;have:=(bg.1 h).1;simp[this,←h]
 .rfl
theorem a2f(R:Rel X cl ch S m ok a w){T Op:c6I}(hT:Tk X S m ok w (T++Op)){k0:Option Nat}
  (hS:S (X9+bx)= .barrs md xs (some (idx,off,k0))) {blk o' len cap sz:Nat} (hm:m bx=some (.arr blk o' len cap sz)) {v:V} {u:Value} (hp:Qm w.heap ok v u Op)
  (hu:bQ w.heap blk (o' +idx*sz+off) 1=some [u])
  (hK:∀S' m',Rel X cl ch S' m' ok a w->Tk X S' m' ok w T->(∀k l,m k=some l->m' k=some l)->K.post S' Q):
  (Cmd.opt (aN xs idx) λx=>Vs md off v x (λy=>Cmd.set (X9+bx) (.barrs md (fD xs idx y) none) K) .fail).post S Q:=by
 refine dM λe0 he0=>?_;have he0' :xs[idx]? =some e0:=he0;obtain⟨hel,l,Os,hm',⟨ha,hho⟩,hk⟩:=R.own_barrs hS;rw[hm]at hm';cases hm';obtain⟨rfl,rfl,h3,h7,c,T0,hh,hs,hxs⟩:=ha;obtain⟨es,O,hO,he,hr⟩:=hxs idx e0 he0';rw[Mc]at hr;refine Il hp md off hr (.inr rfl) hel λy O1 Old O2 eO hr' hoff=>gG ?_;have hlt:idx<xs.length:=(bg.1 he0').1;have hes:es.length=md.size:=aZ hr;have hnd1:=P8.1 hT.nodup;have hTo:Tk X S m ok w Op:=⟨hnd1.2.1,λb hb=>hT.free b (bW _ hb)⟩;have heu:es[off]? =some u:=by obtain⟨c2,T2,f2,hb2,hn2,e2⟩:=qO he;obtain⟨c3,T3,f3,hb3,hn3,e3⟩:=qO hu;rw[hh]at hb2 hb3;cases hb2;cases hb3;have h1:=congrArg (λl=>l[0]?) e3;simp only[iW,aU (show 0<1 by omega),O9,aH]at h1;rw[e2,aU o5,O9];exact h1.symm
 rw[a9K heu]at hr';have hO1:Os.flatten.Perm ((Os.set idx (O1++O2)).flatten++Old):=qw (by rw[hO,eO]);have hO2:(Os.set idx (O1++Op++O2)).flatten.Perm ((Os.set idx (O1++O2)).flatten++Op):=by have:=qw (Os:=Os.set idx (O1++Op++O2)) (i:=idx) (O1:=O1) (P:=Op) (O2:=O2) (by rw[O6,if_pos rfl,if_pos (by rw[h7];exact hlt)]);rwa[List.set_set]at this
 have hown0:U2 m bx (S (X9+bx))=blk::Os.flatten:=by simp[U2,hS,hm,hk]
 have hown1:U2 (Bh m bx (Os.set idx (O1++Op++O2)).flatten) bx (.barrs md (fD xs idx y) none)=blk::(Os.set idx (O1++Op++O2)).flatten:=by simp[U2,hm]
 have hnd:=R.nd bx;rw[hown0]at hnd;have hnd0:=X0.1 hnd;have hndA:=P8.1 (hO1.nodup_iff.1 hnd0.2);have hfreeOp:∀b∈Op,b∉blk::Os.flatten:=λb hb h=>(hTo.free b hb).2.2.2 bx (by rw[hown0];exact h);have hsubA:∀b∈(Os.set idx (O1++O2)).flatten,b∈Os.flatten:=λb hb=>hO1.mem_iff.2 (Y4 _ hb);have hneP:∀b∈Op,b≠blk:=λb hb e=>hfreeOp b hb (by simp[e]);have hB:Cm ⟨w.heap,ok,Bh m bx (Os.set idx (O1++Op++O2)).flatten⟩ bx (.barrs md (fD xs idx y) none):=by
  refine La (Os:=Os.set idx (O1++Op++O2)) hel hm ⟨rfl,by simp[fD],h3,by simp[h7,fD],c,T0,hh,hs,λj z hz=>?_⟩ D5 trivial;unfold fD at hz;rw[O6]at hz;split at hz
  .rename_i hj;subst hj;cases hz;exact⟨es,O1++Op++O2,by rw[O6,if_pos rfl,if_pos (by rw[h7];exact hlt)],he,hr'⟩
  .rename_i hj;obtain⟨es2,O',hO2',he2,hr2⟩:=hxs j z hz;refine⟨es2,O',by rw[O6,if_neg hj];exact hO2',he2,?_⟩;simp only[XH];rw[IX (λe=>hj e.symm)]at hr2;exact hr2
 have hmod:=R.modK hT (n:=bx) (v:=.barrs md (fD xs idx y) none) (ks:=(Os.set idx (O1++Op++O2)).flatten) (w' :=w) (T' :=T) D5
  (by
   rw[hown1];refine X0.2 ⟨λh=>?_,hO2.nodup_iff.2 (P8.2 ⟨hndA.1,hTo.nodup,λx hx z hz e=>?_⟩)⟩
   .rcases J6.1 (hO2.mem_iff.1 h)with h|h
    .exact hnd0.1 (hsubA _ h)
    .exact hneP _ h rfl
   .subst e;exact hfreeOp x hz (by simp[hsubA x hx]))
  (λb hb=>by
   rw[hown1]at hb;rw[hown0];rcases D8.1 hb with hb|hb
   .exact .inl (by simp[hb])
   .rcases J6.1 (hO2.mem_iff.1 hb)with h|h
    .exact .inl (by simp[hsubA _ h])
    .exact .inr (bW _ h))
  rfl rfl rfl rfl (λb hb=>rfl) hB hnd1.1 (λb hb=>⟨.inr (Y4 _ hb),λh=>by
   rw[hown1]at h;have h1:b∉blk::Os.flatten:=λh' =>(hT.free b (Y4 _ hb)).2.2.2 bx (by rw[hown0];exact h');rcases D8.1 h with h|h
   .exact h1 (by simp[h])
   .rcases J6.1 (hO2.mem_iff.1 h)with h|h
    .exact h1 (by simp[hsubA _ h])
    .exact hnd1.2.2 b hb b h rfl⟩)
 exact hK _ _ hmod.1 hmod.2 (λ_ _ h=>h)
theorem RI(R:Rel X cl ch S m ok a w){T:c6I}(hT:Tk X S m ok w T)
  (hK:∀S' m',Rel X cl ch S' m' ok a w->Tk X S' m' ok w T->(∀k l,m k=some l->m' k=some l)->K.post S' Q):(YG bx K).post S Q:=by
 unfold YG;refine X7 ?_;split
 .rename_i md0 xs0 i0 o0 n hS;refine X7 ?_;refine Y6 λharr=>gG (X7 ?_);split<;>try trivial
  rename_i md xs i o n' hS2;have hne:n≠bx:=λe=>by subst e;rw[jZ]at hS2;cases hS2
  have hS3:S (X9+bx)= .barrs md xs (some (i,o,some n')):=by rw[←hS2,bF _ _ o5]
  have hn:n' =n:=by rw[hS]at hS3;injection hS3 with _ _ h3;injection h3 with h3;injection h3 with _ h3;injection h3 with _ h3;injection h3 with h3;exact h3.symm
  subst hn;obtain⟨hel,l,Os,hm',⟨ha,hho⟩,hk⟩:=R.own_barrs hS3;obtain⟨blk,off,len,cap,u,l',rfl,hu,hmn,hvu⟩:=hho;have T1:=Tk.kill R hT n' (bs:=U2 m n' (S (X9+n'))) (λ_ h=>h) (R.nd n');refine a2f (R.kill n') T1 hS2 hm' (u:=u) ?_ hu hK;cases hb2:S (X9+n')<;>rw[hb2]at harr<;>try cases harr
  .rename_i t2 ys;obtain⟨l2,hm2,ha'⟩:=R.own_arr hb2;have e:l' =l2:=Y1 (hmn.symm.trans hm2);subst e;refine .inr (.inl ⟨t2,ys,l',rfl,hvu,Et ha',?_⟩);have hm2:m n' =some l' :=hm2;cases l'<;>first|(simp[U2,hm2,Loc.blks];done)|cases ha'
  .rename_i md3 ys hole3;obtain⟨hel3,l2,Os3,hm2,⟨ha',hho3⟩,hk'⟩:=R.own_barrs hb2;have e:l' =l2:=Y1 (hmn.symm.trans hm2);subst e;rcases hole3 with _|⟨p1,p2,p3⟩
   .refine .inr (.inr ⟨md3,ys,l',Os3,rfl,hel3,hvu,ha',?_⟩);have hm2:m n' =some l' :=hm2;cases l'<;>first|(simp[U2,hm2,Loc.blks,hk'];done)|cases ha'
   .cases harr
 .exact hK S m R hT (λ_ _ h=>h)
theorem FH{α:Type}{Q:α->Sm->Prop}{K:Cmd α} :∀(cs:List V) {S:Sm} {m:Mp} (R:Rel X cl ch S m ok a w) {T:c6I} (hT:Tk X S m ok w T)
  (hK:∀S' m',Rel X cl ch S' m' ok a w->Tk X S' m' ok w T->(∀k l,m k=some l->m' k=some l)->K.post S' Q),(Qu cs K).post S Q
 |[],S,m,R,T,hT,hK=>hK S m R hT (λ_ _ h=>h)|v::r,S,m,R,T,hT,hK=>by
  unfold Qu;split
  .exact RI R hT λS1 m1 R1 T1 k1=>FH r R1 T1 λS2 m2 R2 T2 k2=>hK S2 m2 R2 T2 (λk l h=>k2 k l (k1 k l h))
  .exact FH r R hT hK
theorem xm{α:Type}{Q:α->Sm->Prop}{K:Cmd α} :∀(cs:List V) {S:Sm} {m:Mp} (R:Rel X cl ch S m ok a w) {T:c6I} (hT:Tk X S m ok w T)
  (hK:∀S' m',Rel X cl ch S' m' ok a w->Tk X S' m' ok w T->(∀k l,m k=some l->m' k=some l)->K.post S' Q),(IL cs K).post S Q
 |[],S,m,R,T,hT,hK=>hK S m R hT (λ_ _ h=>h)|v::r,S,m,R,T,hT,hK=>by
  unfold IL;split
  .exact RI R hT λS1 m1 R1 T1 k1=>xm r R1 T1 λS2 m2 R2 T2 k2=>hK S2 m2 R2 T2 (λk l h=>k2 k l (k1 k l h))
  .refine X7 ?_;split
   .exact FH _ R hT λS1 m1 R1 T1 k1=>xm r R1 T1 λS2 m2 R2 T2 k2=>hK S2 m2 R2 T2 (λk l h=>k2 k l (k1 k l h))
   .exact xm r R hT hK
  .exact FH _ R hT λS1 m1 R1 T1 k1=>xm r R1 T1 λS2 m2 R2 T2 k2=>hK S2 m2 R2 T2 (λk l h=>k2 k l (k1 k l h))
  .exact xm r R hT hK
theorem a8a(H:FxOk X)(R:Rel X cl ch S m ok a w){x y:Operand}(ho:o.op= .store t x y):(dJ X.E q o).post S (λ_ S' =>jO X cl ch o a w m ok S'):=by
 unfold dJ;simp only[ho];cases hd:o.dst with
 |some d=>trivial|none=>
 refine dh R λp hp=>dh R λv hv=>?_;unfold b0Q;refine jY H λi hi=>?_;cases p<;>try trivial
 case ptr bx off=>
  obtain⟨blk,hm,hx⟩:=hp;refine X7 ?_;split<;>try trivial
  rename_i cs hS;obtain⟨blk',arr,T,hm',hh,hl⟩:=R.own_cells hS;simp only at hm hm';rw[hm]at hm';cases hm';refine uT hv λvs hvs=>Y6 λhlen=>Cf _ _ _ λhle=>gG ?_;have hlen' :=eU hlen;have hL:=kJ hl;have hL2:=kJ hvs;have hsz:(a.eval y).cells.size=i.size:=by simp at hL2;omega
  have hown:U2 m bx (S (X9+bx))=[blk]:=by simp[U2,hS,hm]
  have hfit:off+i.size<=arr.size:=by simp at hL;omega
  have run:=Bf hi w hh (.inl rfl) (v:=a.eval y) hsz hfit (PX hvs);refine Fq ho hd (w' :=w.setRow blk (dA off (a.eval y).cells.toList arr.toList).toArray) (by simp[Instr.storeAt,Instr.sureAddr,hx,run]) ?_ (λ_ _ h=>h) (λ_ _ h=>h);refine R.mod (by rw[hown];simp[U2,hm]) D5 rfl rfl rfl D5 (λb hb=>setRow_other w blk b _ (by rw[hown]at hb;simpa using hb)) ?_;refine⟨blk,_,T,hm,setRow_heap w blk arr _ T (0,0) hh,?_⟩;refine b4I (λb t hb=>setRow_other w blk b _ (λe=>(R.sep bx blk (by rw[hown];simp)).1 t (e▸hb))) ?_;simpa using Dp hvs hl
 case ep bx ix off=>
  obtain⟨blk,o',len,cap,sz,hm,hlt,hx⟩:=hp;simp only at hm;refine X7 ?_;split<;>try trivial
  .rename_i u xs hS;obtain⟨l,hm',ha⟩:=R.own_arr hS;rw[hm]at hm';cases hm';obtain⟨hE0,rfl,rfl,h3,c,T,f,hh,hz,hs,hxs⟩:=ha;refine dM λe0 he0=>?_;obtain⟨es,he,hr⟩:=hxs ix e0 he0;refine uT hv λvs hvs=>Y6 λhlen=>Cf _ _ _ λhle=>?_;rw[oH]at hle;have hlen' :=eU hlen;have hL2:=kJ hvs;have hsz:(a.eval y).cells.size=i.size:=by simp at hL2;omega
   have hes:=lU he;have hnew:=Dp (off:=off) hvs (sK (C:=⟨w.heap,ok,m⟩) hr);refine IC (T:=[]) u R Tk.nil hnew λS1 ok1 y1 q1 us us' R1 T1 k1 s1 e1 h1 l1=>?_;cases q1 with
   |cons _ _=>trivial|nil=>
   simp only[gB]at l1;subst l1;simp only[G7]at e1;subst e1;refine X7 ?_;split<;>try trivial
   rename_i u' xs' hS1;refine jy λe=>?_;subst e;refine gG ?_;obtain⟨l,hm',ha⟩:=R1.own_arr hS1;rw[hm]at hm';cases hm';obtain⟨_,hszu,hlen2,h3',c',T',f',hh',hz',hs',hxs'⟩:=ha;rw[hh]at hh';cases hh';have hown:U2 m bx (S1 (X9+bx))=[blk]:=by simp[U2,hS1,hm]
   have hvl:(a.eval y).cells.toList.length=i.size:=by simpa using hsz
   obtain⟨hfit,hsp,hnew2,hold⟩:=Qb (us:=(a.eval y).cells.toList) (off:=off) hh hs h3 hlt he (by rw[hvl];omega);have run:=Bf hi w (off:=o' +ix*u'.size+off) hh hz.of (v:=a.eval y) hsz (by rw[hvl]at hfit;exact hfit) (PX hvs);refine Fq ho hd (w' :=w.setRow blk (dA (o' +ix*u'.size+off) (a.eval y).cells.toList c.toList).toArray) (by simp[Instr.storeAt,Instr.sureAddr,hx,run]) ?_ (λ_ _ h=>h) k1;refine R1.mod (by rw[hown];simp[U2,hm]) D5 rfl rfl rfl D5 (λb hb=>setRow_other w blk b _ (by rw[hown]at hb;simpa using hb)) ?_;have hkeep:∀b t,ok1 b t->(w.setRow blk (dA (o' +ix*u'.size+off) (a.eval y).cells.toList c.toList).toArray).heap[b]? =w.heap[b]?:=
    λb t hb=>setRow_other w blk b _ (λe=>(R1.sep bx blk (by rw[hown];simp)).1 t (e▸hb))
   refine⟨_,hm,hE0,rfl,by simp[fD,hlen2],h3,_,T,f,setRow_heap w blk c _ T f hh,by rw[aK,hsp];exact hz,by simp[hsp];exact hs,λj z hz=>?_⟩;unfold fD at hz;rw[O6]at hz;split at hz
   .rename_i hj;subst hj;split at hz
    .cases hz;exact⟨_,hnew2,gX (λ_ _ h=>h) hkeep h1⟩
    .cases hz
   .rename_i hj;obtain⟨es2,he2,hr2⟩:=hxs' j z hz;have hj2:=(bg.1 hz).1;exact⟨_,(hold j (by rw[hlen2];exact hj2) (λe=>hj e.symm)).trans he2,gX (λ_ _ h=>h) hkeep hr2⟩
  .rename_i md xs hole hS;cases hcd:(md.ownAt off&&Nat.beq i.size 1&&!jb i.td)
   .simp only[cond_false];cases hole with
    |some _=>trivial|none=>
    refine uT hv λvs hvs=>Y6 λhlen=>dM λe0 he0=>?_;have he0' :xs[ix]? =some e0:=he0;obtain⟨hel,l,Os,hm',⟨ha,hho⟩,hk⟩:=R.own_barrs hS;rw[hm]at hm';cases hm';obtain⟨rfl,rfl,h3,h7,c,T,hh,hs,hxs⟩:=ha;obtain⟨es,O,hO,he,hr⟩:=hxs ix e0 he0';refine Qw md off hr hvs λy1 hle hr' =>gG ?_;have hes:es.length=md.size:=aZ hr;have hlen' :=eU hlen;have hL2:=kJ hvs;have hsz:(a.eval y).cells.size=i.size:=by simp at hL2;omega
    have hvl:(a.eval y).cells.toList.length=i.size:=by simpa using hsz
    obtain⟨hfit,hsp,hnew2,hold⟩:=Qb (us:=(a.eval y).cells.toList) (off:=off) hh hs h3 hlt he o5;have run:=Bf hi w (off:=o' +ix*md.size+off) hh (.inl rfl) (v:=a.eval y) hsz (by rw[hvl]at hfit;exact hfit) (PX hvs);have hown:U2 m bx (S (X9+bx))=blk::Os.flatten:=by simp[U2,hS,hm,hk]
    have hnd:=R.nd bx;rw[hown]at hnd;have hnd0:=X0.1 hnd;have hneO:∀b∈Os.flatten,b≠blk:=λb hb e=>hnd0.1 (e▸hb);refine Fq ho hd (w' :=w.setRow blk (dA (o' +ix*md.size+off) (a.eval y).cells.toList c.toList).toArray) (by simp[Instr.storeAt,Instr.sureAddr,hx,run]) ?_ (λ_ _ h=>h) (λ_ _ h=>h);have hkeep:∀b t,ok b t->(w.setRow blk (dA (o' +ix*md.size+off) (a.eval y).cells.toList c.toList).toArray).heap[b]? =w.heap[b]?:=
     λb t hb=>setRow_other w blk b _ (λe=>(R.sep bx blk (by rw[hown];simp)).1 t (e▸hb))
    refine R.mod (by rw[hown];simp[U2,hm,hk]) D5 rfl rfl rfl D5 (λb hb=>setRow_other w blk b _ (λe=>hb (by rw[hown,e];simp))) ?_;refine La (Os:=Os) hel hm ⟨rfl,by simp[fD],h3,by simp[h7,fD],_,T,setRow_heap w blk c _ T (0,0) hh,by simp[hsp];exact hs,λj z hz=>?_⟩ hk trivial;unfold fD at hz;rw[O6]at hz;split at hz
    .rename_i hj;subst hj;cases hz;exact⟨_,O,hO,hnew2,iK (λ_ _ h=>h) hkeep (λb hb=>setRow_other w blk b _ (hneO b (ah.2 ⟨O,yu hO,hb⟩))) hr'⟩
    .rename_i hj;obtain⟨es2,O2,hO2,he2,hr2⟩:=hxs j z hz;have hj2:=(bg.1 hz).1;exact⟨_,O2,hO2,(hold j o5 (λe=>hj e.symm)).trans he2,iK (λ_ _ h=>h) hkeep (λb hb=>setRow_other w blk b _ (hneO b (ah.2 ⟨O2,yu hO2,hb⟩))) hr2⟩
   .simp only[cond_true];simp only[D6,bT]at hcd;obtain⟨⟨_,hsz1⟩,_⟩:=hcd;have hsz1:=eU hsz1;have fin:∀{S' :Sm} {m' :Mp} {w' :World},Rel X cl ch S' m' ok a w' ->(∀k l,m k=some l->m' k=some l)->(storeVar t ⟨blk,o' +ix*sz+off,none⟩ (a.eval y)).run X.P w= .ok () w' ->jO X cl ch o a w m ok S' :=
     λR' hm' run=>Fq ho hd (by simp[Instr.storeAt,Instr.sureAddr,hx,run]) R' hm' (λ_ _ h=>h)
    split
    .have hv' :a.eval y= .slice none 0 0:=hv;exact Ti (Op:=[]) R Tk.nil hi hsz1 hS hm (.inl ⟨rfl,hv',rfl⟩) (λS' m' w' R' h' run=>fin R' h' run)
    .rename_i b2;obtain⟨l2,hm2,hv2⟩:=hv;simp only at hm2;refine X7 ?_;refine Y6 λharr=>gG (X7 ?_);split<;>try trivial
     rename_i md2 xs2 hole2 hS2;have T1:=Tk.kill R (T:=[]) Tk.nil b2 (bs:=U2 m b2 (S (X9+b2))) (λ_ h=>h) (R.nd b2);rw[J4]at T1;refine Ti (R.kill b2) T1 hi hsz1 hS2 hm ?_ (λS' m' w' R' h' run=>fin R' h' run);cases hb2:S (X9+b2)<;>rw[hb2]at harr<;>try cases harr
     .rename_i t2 ys;obtain⟨l',hm',ha'⟩:=R.own_arr hb2;rw[hm2]at hm';cases hm';refine .inr (.inl ⟨t2,ys,l2,rfl,hv2,Et ha',?_⟩);cases l2<;>first|(simp[U2,hm2,Loc.blks];done)|cases ha'
     .rename_i md3 ys hole3;obtain⟨hel3,l',Os,hm',⟨ha',hho⟩,hk'⟩:=R.own_barrs hb2;rw[hm2]at hm';cases hm';rcases hole3 with _|⟨p1,p2,p3⟩
      .refine .inr (.inr ⟨md3,ys,l2,Os,rfl,hel3,hv2,ha',?_⟩);cases l2<;>first|(simp[U2,hm2,Loc.blks,hk'];done)|cases ha'
      .cases harr
    .trivial
  .rename_i md xs kn ko hS;refine Y6 λhcd=>?_;simp only[D6,bT]at hcd;obtain⟨⟨hoff,hsz1⟩,_⟩:=hcd;have hsz1:=eU hsz1;have hoff:=eU hoff;have fin:∀{S' :Sm} {m' :Mp} {w' :World},Rel X cl ch S' m' ok a w' ->(∀k l,m k=some l->m' k=some l)->(storeVar t ⟨blk,o' +ix*sz+off,none⟩ (a.eval y)).run X.P w= .ok () w' ->jO X cl ch o a w m ok S' :=
    λR' hm' run=>Fq ho hd (by simp[Instr.storeAt,Instr.sureAddr,hx,run]) R' hm' (λ_ _ h=>h)
   split<;>try trivial
   rename_i b2;obtain⟨l2,hm2,hv2⟩:=hv;simp only at hm2;refine X7 ?_;refine Y6 λharr=>gG (X7 ?_);split<;>try trivial
   rename_i md2 xs2 kn2 ko2 hS2;have hb2x:b2≠bx:=λe=>by subst e;rw[jZ]at hS2;cases hS2
   have hko:ko2=ko:=by rw[bF _ _ o5,hS]at hS2;injection hS2 with _ _ _ e4;exact e4.symm
   refine⟨λhidx=>?_,λ_=>trivial⟩;have hidx:ix=kn2.toNat:=eU hidx;have T1:=Tk.kill R (T:=[]) Tk.nil b2 (bs:=U2 m b2 (S (X9+b2))) (λ_ h=>h) (R.nd b2);rw[J4]at T1;refine a1k (R.kill b2) T1 hi hsz1 hS2 (hoff.trans hko.symm) hidx hm ?_ (λS' m' w' R' h' run=>fin R' h' run);cases hb2:S (X9+b2)<;>rw[hb2]at harr<;>try cases harr
   .rename_i t2 ys;obtain⟨l',hm',ha'⟩:=R.own_arr hb2;rw[hm2]at hm';cases hm';refine .inr (.inl ⟨t2,ys,l2,rfl,hv2,Et ha',?_⟩);cases l2<;>first|(simp[U2,hm2,Loc.blks];done)|cases ha'
   .rename_i md3 ys hole3;obtain⟨hel3,l',Os,hm',⟨ha',hho⟩,hk'⟩:=R.own_barrs hb2;rw[hm2]at hm';cases hm';rcases hole3 with _|⟨p1,p2,p3⟩
    .refine .inr (.inr ⟨md3,ys,l2,Os,rfl,hel3,hv2,ha',?_⟩);cases l2<;>first|(simp[U2,hm2,Loc.blks,hk'];done)|cases ha'
    .cases harr
theorem UA{c:Nat}{u:V}{x:Value}{K:Nat->Cmd α}(R:Rel X cl ch S m ok a w)(hu:lQ ⟨w.heap,ok,m⟩ u x)
  (hK:∀b l v,m b=some l->l.view none v->atV w.heap c x v->(∀a1 a2 a3,atV w.heap c x (.slice a1 a2 a3)->v= .slice a1 a2 a3)->(K b).post S Q):(a3Y c u K).post S Q:=by
 unfold a3Y;split<;>try trivial
 .rename_i b;obtain⟨l,hm,hv⟩:=hu;refine hK b l x hm hv (.inl rfl) λa1 a2 a3 h=>?_;rcases h with h|⟨_,_,_,_,h,_⟩
  .exact h
  .rw[h]at hv;cases l<;>simp[Loc.view]at hv
 .rename_i pb;obtain⟨blk,hm,hx⟩:=hu;refine X7 ?_;split<;>try trivial
  rename_i cs hS;obtain⟨blk',arr,T,hm',hh,hl⟩:=R.own_cells hS;simp only at hm;rw[hm]at hm';cases hm';refine yI λhle=>?_;split<;>try trivial
  rename_i b hcs;have hl1:=uK 1 (sJ c hl);rw[hcs]at hl1;obtain⟨v,r,e,⟨l,hmb,hv⟩,_,_⟩:=hl1;have hcv:arr.toList[c]? =some v:=by have:=congrArg (λl=>l[0]?) e;simpa using this
  have hx:x= .pointer (some ⟨blk,0,none⟩):=hx;refine hK b l v hmb hv (.inr ⟨blk,arr,T,_,hx,hh,hcv⟩) λa1 a2 a3 h=>?_;rcases h with h|⟨b',arr',T',f',h,h2,h3⟩
  .rw[hx]at h;cases h
  .rw[hx]at h;injection h with h;injection h with h;injection h with h;subst h;rw[hh]at h2;cases h2;rw[hcv]at h3;cases h3;rfl
theorem Yr(R:Rel X cl ch S m ok a w){l:Loc}(hm:m b=some l)
  (hK:(∀blk off len cap sz',l= .arr blk off len cap sz' ->sz' =sz)->K.post S Q):(b2Y b sz K).post S Q:=by
 unfold b2Y;refine X7 ?_;split<;>try trivial
 .rename_i md xs hole hS;refine Y6 λh=>hK λblk off len cap sz' e=>?_;subst e;obtain⟨_,l,Os,hm',⟨ha,_⟩,_⟩:=R.own_barrs hS;rw[hm]at hm';cases hm';exact ha.1.trans (eU h)
 .rename_i t xs hS;refine Y6 λh=>hK λblk off len cap sz' e=>?_;subst e;obtain⟨l,hm',ha⟩:=R.own_arr hS;rw[hm]at hm';cases hm';exact ha.2.1.trans (eU h)
theorem Qp{α:Type}{Q:α->Sm->Prop}(R:Rel X cl ch S m ok a w):∀(als:List (Nat×Nat×Option (Nat×Nat×Nat×Nat))) {K:Cmd α}
  (hK:(∀p∈als,alR w.heap a.tmps p)->K.post S Q),(a5z als K).post S Q
 |[],K,hK=>hK (λp hp=>by cases hp)|(n,k,none)::r,K,hK=>by
  unfold a5z;refine Y6 λhb=>?_;simp only[D6]at hb;refine X7 (X7 ?_);refine Y6 λhv=>Qp R r λh=>hK λp hp=>?_;rcases D8.1 hp with rfl|hp
  .have h1:=hb.1;have h2:=hb.2;rw[Z5]at h1 h2;exact a9H hv (R.slot n h1) (R.slot k h2)
  .exact h p hp
 |(n,k,some (c,j,o2,sz))::r,K,hK=>by
  unfold a5z;refine Y6 λhb=>?_;simp only[D6]at hb;obtain⟨⟨h1,h2⟩,h3⟩:=hb;rw[Z5]at h1 h2 h3;refine X7 (X7 (X7 ?_));have hn:=R.slot n h1;have hj:=R.slot j h3;split<;>try trivial
  rename_i b' i o' k2 y hSn hSj;rw[hSn]at hn;rw[hSj]at hj;obtain⟨blk,off,len,cap,sz',hmb,hlt,hx⟩:=hn;refine UA R (R.slot k h2) λb l v hm hv hat _=>Y6 λhbb=>?_;simp only[D6]at hbb;have e1:=eU hbb.1;have e2:=eU hbb.2;subst e1;subst e2;simp only at hmb;rw[hm]at hmb;cases hmb;refine Yr R hm λhsz=>⟨λhi=>?_,λ_=>trivial⟩;have hi:i=y.toNat:=eU hi;have hsz:=hsz _ _ _ _ _ rfl;subst hsz;subst hi;have hv:v= .slice (some ⟨blk,off,none⟩) len cap:=hv;subst hv;refine Qp R r λh=>hK λp hp=>?_;rcases D8.1 hp with rfl|hp
  .exact⟨blk,off,len,cap,k2,y,hat,hj,hlt,hx⟩
  .exact h p hp
theorem a2e{sg:Sig}{Q:rE sg->Sm->Prop}(R:Rel X cl ch S m ok a w)
  (hK:∀S' m' ok' y O,Rel X cl ch S' m' ok' a w->Tk X S' m' ok' w O->(∀k l,m k=some l->m' k=some l)->(∀b t,ok b t->ok' b t)->
   a1A w.heap ok' sg y a.tmps O->Q y S'):(a7h sg).post S Q:=by
 unfold a7h;refine Qp R _ λhals=>RV _ R.slot λvs hvs=>?_;refine xm _ R Tk.nil λS1 m1 R1 T1 k1=>?_;refine M_ (T:=[]) _ R1 T1 (Zy k1 hvs) λS' ok' y O R' T' k s h=>?_;exact hK S' m1 ok' y O R' T' k1 k ⟨h,hals⟩
theorem Ls{Q:Unit->Sm->Prop} :∀(als:List (Nat×Nat×Option (Nat×Nat×Nat×Nat))) {S:Sm} (R:Rel X cl ch S m ok a w) (h:∀p∈als,alR w.heap a.tmps p)
  (hK:∀S',Rel X cl ch S' m ok a w->Q () S'),(Rk als).post S Q
 |[],S,R,h,hK=>hK S R
 |(n,k,none)::r,S,R,h,hK=>by unfold Rk;refine Y6 λhb=>?_;simp only[D6]at hb;have h1:=hb.1;have h2:=hb.2;rw[Z5]at h1 h2;show Cmd.post _ (upd S n (S k)) Q;refine Ls r (R.slotV h1 ?_) (λp hp=>h p (U5 _ hp)) hK;have e:a.tmps.getD n Go.undef=a.tmps.getD k Go.undef:=h (n,k,none) iC;rw[e];exact R.slot k h2|(n,k,some (c,j,o2,sz))::r,S,R,h,hK=>by
  unfold Rk;refine Y6 λhb=>?_;simp only[D6]at hb;obtain⟨⟨h1,h2⟩,h3⟩:=hb;rw[Z5]at h1 h2 h3;refine X7 (X7 ?_);have hj:=R.slot j h3;split<;>try trivial
  rename_i k2 y hSj;rw[hSj]at hj;obtain⟨blk,off,len,cap,q2,y2,hat,hj2,hlt,hn⟩:=h (n,k,some (c,j,o2,sz)) iC;have ey:y2=y:=by have hj:a.tmps.getD j Go.undef= .int k2 y:=hj;rw[hj]at hj2;injection hj2 with _ e;exact e.symm
  subst ey;refine UA R (R.slot k h2) λb l v hm hv _ huniq=>Yr R hm λhsz=>gG ?_;have ev:=huniq _ _ _ hat
  subst ev;refine Ls r (R.slotV h1 ?_) (λp hp=>h p (U5 _ hp)) hK;cases l with
  |nil=>simp[Loc.view]at hv|st b=>cases hv|mp b=>simp[Loc.view]at hv
  |arr blk' off' len' cap' sz' =>have e:=hsz _ _ _ _ _ rfl;subst e;simp only[Loc.view]at hv;injection hv with e1 e2 e3;injection e1 with e1;injection e1 with e1 e4;subst e1;subst e2;subst e3;subst e4;exact⟨blk,off,len,cap,sz',hm,hlt,hn⟩
theorem a1Z{sg:Sig}{x:rE sg}{nb lim:Nat}{Q:Unit->Sm->Prop}{O:c6I}(R:Rel X cl ch S m ok a w)(hcl:cl<=nb)(hT:Tk X S m ok w O)
  (h:a1A w.heap ok sg x a.tmps O)
  (hK:∀S' m',Rel X cl (max ch lim) S' m' ok a w->(∀k l,m k=some l->m' k=some l)->Q () S'):(a7d sg x nb lim).post S Q:=by
 unfold a7d;refine EI (T:=[]) _ R hcl (by simpa using hT) h.1 λS1 m1 vs n1 ch1 R1 c1 T1 k1 s1 l1 e1=>?_;cases hb:Nat.ble n1 lim
 .trivial
 .simp only[cond_true];have:n1<=lim:=S9 hb;exact Eb _ (R1.chmono (ch' :=max ch lim) o5) l1 λS' R' =>Ls _ R' h.2 λS'' R'' =>hK S'' m1 R'' k1
end
end Go.GP
namespace Go.GP
variable {α:Type}{t:TypeId}{q:Nat}{sz:Nat}{f:Nat}{P:Program}{j:TI}{x:Operand}{Q:α->Sm->Prop}
section
variable {X:Fx} {cl ch:Nat} {S:Sm} {m:Mp} {ok:Nat->Ty->Prop} {a:Act} {w:World} {o:Oper}
theorem GM(H:FxOk X){t f off n:Nat}{ag:Bool}(h:Kz X.E t f=some (off,n,ag)):
  ∃fields fld j,X.P.underlying t=some (.struct fields)/\fields[f]? =some fld/\fld.offset=off/\TiOk X.P fld.type j/\j.size=n/\n≠0/\ag=jb j.td:=by
 unfold Kz at h;cases hi:dX X.E.tt t with
 |none=>simp[hi]at h|some i=>
  have Hi:=H.tt t i hi;have htd:=Hi.td;simp only[hi]at h;cases hd:i.td<;>simp only[hd]at h<;>try (simp at h;done)
  rename_i fs;rw[hd]at htd;obtain⟨fields,hu,hf⟩:=htd;cases hfs:fs[f]? with
  |none=>simp[hfs]at h|some x=>
   obtain⟨ft,off'⟩:=x;simp only[hfs]at h;cases hj:dX X.E.tt ft with
   |none=>simp[hj]at h|some j=>
    simp only[hj]at h;cases hb:Nat.beq j.size 0
    .simp only[hb,cond_false,G8,gK]at h;obtain⟨rfl,rfl,rfl⟩:=h;rw[←hf]at hfs;simp only[bV,gQ]at hfs;obtain⟨fld,hfl,he⟩:=hfs;simp only[gK]at he;obtain⟨rfl,rfl⟩:=he;refine⟨fields,fld,j,hu,by simpa using hfl,rfl,H.tt _ _ hj,rfl,λe=>?_,rfl⟩;rw[e]at hb;simp at hb
    .simp[hb]at h
theorem Lr{t f off:Nat}{fields:Array Field}{fld:Field}(w:World)(hu:P.underlying t=some (.struct fields))(hf:fields[f]? =some fld)(ho:fld.offset=off)
  (hj:TiOk P fld.type j) (hn:j.size≠0) (b p:Nat):(Instr.fieldAt t (.pointer (some ⟨b,p,none⟩)) f).run P w= .ok (.pointer (some ⟨b,p+off,none⟩)) w:=by
 simp[Instr.fieldAt,run_underlying hu,hf,Instr.sureAddr,fieldPlace,uj hj,hn,iI,ho]
theorem Ze(H:FxOk X)(R:Rel X cl ch S m ok a w)(ho:o.op= .fieldAddr t x f):(dJ X.E q o).post S (λ_ S' =>jO X cl ch o a w m ok S'):=by
 unfold dJ;simp only[ho];refine dh R λp hp=>?_;split<;>try trivial
 rename_i off n ag hfo;obtain⟨fields,fld,j,hu,hf,hoff,hj,hn,hn0,_⟩:=GM H hfo;have hj0:j.size≠0:=o5;cases p<;>try trivial
 case ptr bx o' =>obtain⟨blk,h1,h2⟩:=hp;exact aW H R (v:=.ptr bx (o' +off)) ⟨blk,h1,rfl⟩ (by simp[execOp,ho,h2,Lr w hu hf hoff hj hj0])
 case ep bx ix o' =>obtain⟨blk,o2,len,cap,sz,h1,h2,h3⟩:=hp;exact aW H R (v:=.ep bx ix (o' +off)) ⟨blk,o2,len,cap,sz,h1,h2,rfl⟩ (by simp[execOp,ho,h3,Lr w hu hf hoff hj hj0,iO])
 case dp u y o' =>obtain⟨blk,o2,es,h1,h2⟩:=hp;exact aW H R (v:=.dp u y (o' +off)) ⟨blk,o2,es,rfl,h2⟩ (by simp[execOp,ho,h1,Lr w hu hf hoff hj hj0,iO])
theorem a7W(H:FxOk X)(R:Rel X cl ch S m ok a w)(ho:o.op= .field t x f):(dJ X.E q o).post S (λ_ S' =>jO X cl ch o a w m ok S'):=by
 unfold dJ;simp only[ho];refine dh R λp hp=>?_;split<;>try trivial
 rename_i off n ag hfo;obtain⟨fields,fld,j,hu,hf,hoff,hj,hn,hn0,rfl⟩:=GM H hfo;refine FC hp λps us hg hl=>yI λhle=>?_;obtain⟨arr,hx,rfl⟩:=hg;have hL:=kJ hl;have hlen:((arr.toList.drop off).take n).length=n:=by simp at hL ⊢;omega
 refine aW H R (CG (uK n (sJ off hl)) (λha=>by rw[hlen,←hn];exact hj.one ha)) ?_;have hpart:(part fld.type arr off).run X.P w= .ok (Qj (jb j.td) ((arr.toList.drop off).take n)) w:=by
  unfold part;rw[J5,Em hj.td];simp only[L6];cases ha:jb j.td
  .have h1:=hj.one ha;have hlt:off<arr.size:=by simp at hL;omega
   simp only[iw,if_false,Qj];rw[show arr[off]? =some arr[off]from by simp[hlt]];have:n=1:=o5;subst this;simp[List.take_one,hlt]
  .simp only[if_true,Qj,J5,uj hj,L6,hn,Y9];congr 2;apply jM;simp[nR]
 simp[execOp,ho,hx,Instr.field,run_underlying hu,hf,asAgg,hoff,hpart]
theorem IQ(H:FxOk X){t n sz:Nat}(h:IP X.E t=some (false,n,sz)):∃e j,X.P.underlying t=some (.slice e)/\TiOk X.P e j/\j.size=sz:=by
 unfold IP at h;cases hi:dX X.E.tt t with
 |none=>simp[hi]at h|some i=>
  have htd:=(H.tt t i hi).td;simp only[hi]at h;cases hd:i.td<;>simp only[hd]at h<;>try (simp at h;done)
  .rename_i e;rw[hd]at htd;cases hj:dX X.E.tt e with
   |none=>simp[hj]at h|some j=>simp[hj]at h;exact⟨e,j,htd,H.tt _ _ hj,h.2⟩
  .rename_i l e;cases hj:dX X.E.tt e<;>simp[hj]at h
theorem a1Y(H:FxOk X){t n sz:Nat}(h:IP X.E t=some (true,n,sz)):∃e j,X.P.underlying t=some (.array n e)/\TiOk X.P e j/\j.size=sz:=by
 unfold IP at h;cases hi:dX X.E.tt t with
 |none=>simp[hi]at h|some i=>
  have htd:=(H.tt t i hi).td;simp only[hi]at h;cases hd:i.td<;>simp only[hd]at h<;>try (simp at h;done)
  .rename_i e;cases hj:dX X.E.tt e<;>simp[hj]at h
  .rename_i l e;rw[hd]at htd;cases hj:dX X.E.tt e with
   |none=>simp[hj]at h|some j=>simp[hj]at h;obtain⟨rfl,h⟩:=h;exact⟨e,j,htd,H.tt _ _ hj,h⟩
theorem yU{l:List α}{n:Int}{y:α}(h:P5 l n=some y):0<=n/\l[n.toNat]? =some y/\n.toNat<l.length/\n<l.length:=by
 unfold P5 at h;split at h
 .rename_i h0;have:=(bg.1 h).1;exact⟨h0,h,this,o5⟩
 .cases h
theorem uP{t e:TypeId}(w:World)(hu:P.underlying t=some (.slice e))(hj:TiOk P e j){k:IntKind}{n:Int}{b p len cap:Nat}(h0:0<=n)(hlt:n<len):
  (Instr.indexAt t (.slice (some ⟨b,p,none⟩) len cap) (.int k n)).run P w= .ok (.pointer (some ⟨b,p+n.toNat*j.size,none⟩)) w:=by
 simp[Instr.indexAt,asIntOf,run_underlying hu,h0,hlt,uj hj,iI]
theorem Qd{t e:TypeId}(w:World){len:Nat}(hu:P.underlying t=some (.array len e))(hj:TiOk P e j){k:IntKind}{n:Int}{b p:Nat}(h0:0<=n)(hlt:n<len):
  (Instr.indexAt t (.pointer (some ⟨b,p,none⟩)) (.int k n)).run P w= .ok (.pointer (some ⟨b,p+n.toNat*j.size,none⟩)) w:=by
 simp[Instr.indexAt,asIntOf,run_underlying hu,h0,hlt,uj hj,iI,Instr.sureAddr]
theorem a2k{w:World}{r:Nat}{es:Array MapEntry}{ck:Nat}(hb:w.heap[r]? =some (.map es ck)):(getObj r).run P w= .ok (.map es ck) w:=by simp[getObj,Sem.run,hb]
theorem Du{u:Ty}(h:szB sz u=true):u.isEnt=false/\sz=u.size:=by
 unfold szB at h;cases hu:u.isEnt<;>rw[hu]at h
 .exact⟨rfl,eU h⟩
 .cases h
theorem a6B{C:Cx}{t:Ty}{xs:List t.den}{l:Loc}{vw:Option (Nat×Nat)}{v:Value}(h0:t.isEnt=false)(ha:arrOk C t xs l)(hv:l.view vw v){i:Nat}{y:t.den}(hy:(jL vw xs)[i]? =some y):
  ∃blk off len cap,l= .arr blk off len cap t.size/\xs[a0c vw+i]? =some y/\∃p c,v= .slice (some ⟨blk,p,none⟩) (jL vw xs).length c/\p+i*t.size=off+(a0c vw+i)*t.size:=by
 cases l with
 |nil=>obtain⟨ha,_⟩:=ha;subst ha;rcases vw with _|⟨lo,hi⟩<;>simp[jL,kH]at hy
 |st b=>cases ha|mp b=>exact absurd ha.1 (by simp[h0])|arr blk off len cap sz=>
  obtain⟨_,rfl,rfl,hc,_⟩:=ha;rcases vw with _|⟨lo,hi⟩
  .simp only[Loc.view]at hv;subst hv;exact⟨blk,off,_,cap,rfl,by simpa[a0c,jL]using hy,off,cap,rfl,by simp[a0c]⟩
  .obtain⟨h1,h2,rfl⟩:=hv;have hl:(jL (some (lo,hi)) xs).length=hi -lo:=by simp[jL,kH];omega
   have hi' :i<hi -lo:=by rw[←hl];exact(bg.1 hy).1
   have hx' :xs[lo+i]? =some y:=by
    simp only[jL,kH,O9,Y7]at hy;split at hy
    .exact hy
    .cases hy
   have hne:cap≠lo:=o5;exact⟨blk,off,_,cap,rfl,hx',off+lo*t.size,cap -lo,by rw[hl];simp[hne],by simp[a0c,N7];omega⟩
theorem Zf(H:FxOk X)(R:Rel X cl ch S m ok a w){x ix:Operand}(ho:o.op= .indexAddr t x ix):(dJ X.E q o).post S (λ_ S' =>jO X cl ch o a w m ok S'):=by
 unfold dJ;simp only[ho];refine dh R λu hu=>dh R λv hv=>?_;unfold Vo;split<;>try trivial
 ·
  rename_i k n l sz hsz;obtain⟨e,j,hut,hj,hjs⟩:=IQ H hsz;have hix:=vP hv;cases u<;>try trivial
  case sl u xs=>refine bP λhb=>dM λy hy=>?_;obtain⟨hE0,hb'⟩:=Du hb;obtain⟨h0,hget,hlt,hlt'⟩:=yU hy;obtain⟨ad,cap,hx,hc,hel⟩:=(zM hE0).1 hu;simp only[I7,and_true]at hx;obtain⟨blk,off,es,rfl,hok,he,hr⟩:=hel _ y hget;refine aW H R (v:=.dp u y 0) (x:=.pointer (some ⟨blk,off+n.toNat*u.size,none⟩)) ⟨blk,off+n.toNat*u.size,es,rfl,hok,he,hr⟩ ?_;simp[execOp,ho,hx,hix,uP w hut hj h0 hlt',hjs,hb']
  case own bx vw=>
   obtain⟨loc,hm,hview⟩:=hu;refine X7 ?_;split
   .rename_i ln sz' hSl;split<;>try trivial
    refine Y6 λhb=>⟨λhin=>?_,λ_=>trivial⟩;have hb' :=eU hb;have hin' :=of_decide_eq_true (show decide (0<=n/\n<ln)=true from hin);have hbx:=R.box (NL+bx);rw[hSl]at hbx;obtain⟨k',l',e,hm',hl⟩:=hbx;have e' :k' =bx:=o5;subst e';simp only at hm hm';rw[hm]at hm';cases hm';cases loc with
    |nil=>simp only at hl;omega|st b=>cases hl|mp b=>cases hl|arr blk off len cap sz2=>obtain⟨rfl,rfl⟩:=hl;simp only[Loc.view]at hview;refine aW H R (v:=.ep k' (Z7 n) 0) (x:=.pointer (some ⟨blk,off+n.toNat*sz',none⟩)) ⟨blk,off,len,cap,sz',hm,by unfold Z7;omega,rfl⟩ ?_;simp[execOp,ho,hview,hix,uP w hut hj hin'.1 hin'.2,hjs,hb']
   refine X7 ?_;split<;>try trivial
   .rename_i u xs hS;refine bP λhb=>dM λy hy=>?_;obtain⟨hE0,hb'⟩:=Du hb;obtain⟨h0,hget,hlt,hlt'⟩:=yU hy;obtain⟨loc',hm',ha⟩:=R.own_arr hS;simp only at hm;rw[hm]at hm';cases hm';obtain⟨blk,off,len,cap,rfl,hx2,p,c,hvv,hp⟩:=a6B hE0 ha hview hget;have hlen:=ha.2.2.1;have hlt2:=(bg.1 hx2).1;rw[b1L];refine aW H R (v:=.ep bx (a0c vw+Z7 n) 0) (x:=.pointer (some ⟨blk,p+n.toNat*u.size,none⟩)) ⟨blk,off,len,cap,u.size,hm,by rw[hlen];exact hlt2,by rw[hp];rfl⟩ ?_;simp[execOp,ho,hvv,hix,uP w hut hj h0 hlt',hjs,hb']
   .rename_i u xs hS;refine bP λhb=>dM λy hy=>?_;obtain⟨hE0,hb'⟩:=Du hb;obtain⟨h0,hget,hlt,hlt'⟩:=yU hy;obtain⟨loc',hm',ha,hok⟩:=R.own_frz hS;simp only at hm;rw[hm]at hm';cases hm';obtain⟨ad,cap,hx,hc,hel⟩:=(zM hE0).1 (qj (C:=⟨w.heap,ok,m⟩) ha hview (λ_ _ h=>h) hok);simp only[I7,and_true]at hx;obtain⟨blk,off,es,rfl,hok',he,hr⟩:=hel _ y hget;refine aW H R (v:=.dp u y 0) (x:=.pointer (some ⟨blk,off+n.toNat*u.size,none⟩)) ⟨blk,off+n.toNat*u.size,es,rfl,hok',he,hr⟩ ?_;simp[execOp,ho,hx,hix,uP w hut hj h0 hlt',hjs,hb']
   .rename_i md xs hole hS;split<;>try trivial
    refine Y6 λhb=>dM λy hy=>?_;have hb' :=eU hb;obtain⟨h0,hget,hlt,hlt'⟩:=yU hy;obtain⟨hel,loc',Os,hm',⟨ha,hho⟩,hk⟩:=R.own_barrs hS;simp only at hm;rw[hm]at hm';cases hm';cases loc with
    |st b=>cases ha|mp b=>cases ha|nil=>obtain⟨e1,_⟩:=ha;subst e1;simp at hlt
    |arr blk off len cap sz' =>obtain⟨rfl,rfl,h3,_⟩:=ha;simp only[Loc.view]at hview;refine aW H R (v:=.ep bx (Z7 n) 0) (x:=.pointer (some ⟨blk,off+n.toNat*md.size,none⟩)) ⟨blk,off,xs.length,cap,md.size,hm,hlt,rfl⟩ ?_;simp[execOp,ho,hview,hix,uP w hut hj h0 hlt',hjs,hb']
   .rename_i md xs kn ko hS;split<;>try trivial
    refine Y6 λhb=>dM λy hy=>?_;have hb' :=eU hb;obtain⟨h0,hget,hlt,hlt'⟩:=yU hy;obtain⟨hel,_,loc',Os,hm',ha,hk⟩:=R.own_barrp hS;simp only at hm;rw[hm]at hm';cases hm';cases loc with
    |st b=>cases ha|mp b=>cases ha|nil=>obtain⟨e1,_⟩:=ha;subst e1;simp at hlt
    |arr blk off len cap sz' =>obtain⟨rfl,rfl,h3,_⟩:=ha;simp only[Loc.view]at hview;refine aW H R (v:=.ep bx (Z7 n) 0) (x:=.pointer (some ⟨blk,off+n.toNat*md.size,none⟩)) ⟨blk,off,xs.length,cap,md.size,hm,hlt,rfl⟩ ?_;simp[execOp,ho,hview,hix,uP w hut hj h0 hlt',hjs,hb']
 ·
  rename_i k n l sz hsz;obtain⟨e,j,hut,hj,hjs⟩:=a1Y H hsz;have hix:=vP hv;cases u<;>try trivial
  case glob g=>
   cases hg:dX X.E.gl g with
   |none=>simp only[hg];trivial|some p=>
   obtain⟨u,xs⟩:=p;simp only[hg];refine bP λhb=>dM λy hy=>?_;simp only[D6]at hb;have hb1:=eU hb.1;have hb2:=eU hb.2;obtain⟨h0,hget,hlt,hlt'⟩:=yU hy;obtain⟨hok,_,hel⟩:=R.gl g _ hg;obtain⟨es,he,hr⟩:=hel _ y hget;have hx:a.eval x= .pointer (some ⟨g,0,none⟩):=hu;refine aW H R (v:=.dp u y 0) (x:=.pointer (some ⟨g,0+n.toNat*u.size,none⟩)) ⟨g,n.toNat*u.size,es,D5,hok,he,hr⟩ ?_;have:=Qd w hut hj (k:=k) (b:=g) (p:=0) h0 (by rw[hb2];exact hlt');simp only[hjs,hb1]at this;simp[execOp,ho,hx,hix,this]
  case ptr bx off=>refine⟨λhin=>?_,λ_=>trivial⟩;have hin' :=of_decide_eq_true (show decide (0<=n/\n<(l:Int))=true from hin);obtain⟨blk,hm,hx⟩:=hu;refine aW H R (v:=.ptr bx (off+Z7 n*sz)) (x:=.pointer (some ⟨blk,off+n.toNat*sz,none⟩)) ⟨blk,hm,rfl⟩ ?_;have:=Qd w hut hj (k:=k) (b:=blk) (p:=off) hin'.1 hin'.2;simp only[hjs]at this;simp[execOp,ho,hx,hix,this]
theorem Vr(R:Rel X cl ch S m ok a w){sz fo:Nat}{c:V}{u:Value}(hu:wU ⟨w.heap,ok,m⟩ c u){K:V->Cmd α}
  (hK:∀r y,lQ ⟨w.heap,ok,m⟩ r y->(∃b bo n k,u= .slice (some ⟨b,bo,none⟩) n k/\0<=N9 .i64 (n:Int) 1/\N9 .i64 (n:Int) 1<(n:Int)/\y= .pointer (some ⟨b,bo+(N9 .i64 (n:Int) 1).toNat*sz+fo,none⟩))->(K r).post S Q):
  (a4B sz fo c K).post S Q:=by
 unfold a4B;split<;>try trivial
 .rename_i u' xs;refine bP λhb=>dM λy hy=>?_;obtain⟨hE0,hb'⟩:=Du hb;obtain⟨h0,hget,hlt,hlt'⟩:=yU hy;obtain⟨ad,cap,hx,hc,hel⟩:=(zM hE0).1 hu;simp only[I7,and_true]at hx;obtain⟨blk,off,es,rfl,hok,he,hr⟩:=hel _ y hget;refine hK (.dp u' y fo) _ ⟨blk,off+(N9 .i64 (A7 xs) 1).toNat*u'.size,es,rfl,hok,he,hr⟩ ⟨blk,off,xs.length,cap,hx,h0,hlt',?_⟩;rw[hb'];rfl
 .rename_i bx;obtain⟨loc,hm,hview⟩:=hu;refine X7 ?_;split
  .rename_i ln sz' hSl;refine Y6 λhb=>⟨λhin=>?_,λ_=>trivial⟩;have hb' :=eU hb;have hin' :=of_decide_eq_true (show decide (0<=N9 .i64 ln 1/\N9 .i64 ln 1<ln)=true from hin);have hbx:=R.box (NL+bx);rw[hSl]at hbx;obtain⟨k',l',e,hm',hl⟩:=hbx;have e' :k' =bx:=o5;subst e';simp only at hm hm';rw[hm]at hm';cases hm';cases loc with
   |nil=>simp only at hl;omega|st b=>cases hl|mp b=>cases hl|arr blk off len cap sz2=>obtain⟨rfl,rfl⟩:=hl;simp only[Loc.view]at hview;refine hK (.ep k' (Z7 (N9 .i64 (len:Int) 1)) fo) (.pointer (some ⟨blk,off+(N9 .i64 (len:Int) 1).toNat*sz' +fo,none⟩)) ⟨blk,off,len,cap,sz',hm,by unfold Z7;omega,rfl⟩ ⟨blk,off,len,cap,hview,hin'.1,hin'.2,?_⟩;rw[hb']
  refine X7 ?_;split<;>try trivial
  .rename_i u xs hS;refine bP λhb=>dM λy hy=>?_;obtain⟨hE0,hb'⟩:=Du hb;obtain⟨h0,hget,hlt,hlt'⟩:=yU hy;obtain⟨loc',hm',ha⟩:=R.own_arr hS;simp only at hm;rw[hm]at hm';cases hm';cases loc with
   |nil=>obtain⟨e1,_⟩:=ha;subst e1;simp at hlt
   |st b=>cases ha|mp b=>rw[ha.1]at hE0;cases hE0|arr blk off len cap sz2=>obtain⟨_,rfl,rfl,_⟩:=ha;simp only[Loc.view]at hview;refine hK (.ep bx (Z7 (N9 .i64 (A7 xs) 1)) fo) (.pointer (some ⟨blk,off+(N9 .i64 (A7 xs) 1).toNat*u.size+fo,none⟩)) ⟨blk,off,xs.length,cap,u.size,hm,hlt,rfl⟩ ⟨blk,off,xs.length,cap,hview,h0,hlt',?_⟩;rw[hb'];rfl
  .rename_i u xs hS;refine bP λhb=>dM λy hy=>?_;obtain⟨hE0,hb'⟩:=Du hb;obtain⟨h0,hget,hlt,hlt'⟩:=yU hy;obtain⟨loc',hm',ha,hok⟩:=R.own_frz hS;simp only at hm;rw[hm]at hm';cases hm';obtain⟨ad,cap,hx,hc,hel⟩:=(zM hE0).1 (qj (C:=⟨w.heap,ok,m⟩) (vw:=none) ha hview (λ_ _ h=>h) hok);simp only[I7,and_true]at hx;obtain⟨blk,off,es,rfl,hok',he,hr⟩:=hel _ y hget;refine hK (.dp u y fo) _ ⟨blk,off+(N9 .i64 (A7 xs) 1).toNat*u.size,es,rfl,hok',he,hr⟩ ⟨blk,off,xs.length,cap,hx,h0,hlt',?_⟩;rw[hb'];rfl
  .rename_i md xs hole hS;refine Y6 λhb=>dM λy hy=>?_;have hb' :=eU hb;obtain⟨h0,hget,hlt,hlt'⟩:=yU hy;obtain⟨hel,loc',Os,hm',⟨ha,hho⟩,hk⟩:=R.own_barrs hS;simp only at hm;rw[hm]at hm';cases hm';cases loc with
   |st b=>cases ha|mp b=>cases ha|nil=>obtain⟨e1,_⟩:=ha;subst e1;simp at hlt
   |arr blk off len cap sz' =>obtain⟨rfl,rfl,h3,_⟩:=ha;simp only[Loc.view]at hview;refine hK (.ep bx (Z7 (N9 .i64 (A7 xs) 1)) fo) (.pointer (some ⟨blk,off+(N9 .i64 (A7 xs) 1).toNat*md.size+fo,none⟩)) ⟨blk,off,xs.length,cap,md.size,hm,hlt,rfl⟩ ⟨blk,off,xs.length,cap,hview,h0,hlt',?_⟩;rw[hb'];rfl
theorem SX{C:Cx}{c:V}{vs:c6H}(h:gB C [c] vs):∃v,vs=[v]/\wU C c v:=by obtain⟨v,r,rfl,h1,h2,h3⟩:=h;simp only[gB]at h3;subst h3;exact⟨v,rfl,h1⟩
theorem Oj(R:Rel X cl ch S m ok a w){off sz fo:Nat}{p:V}{x:Value}(hp:lQ ⟨w.heap,ok,m⟩ p x){K:V->Cmd α}
  (hK:∀r y,lQ ⟨w.heap,ok,m⟩ r y->Qn w.heap x off sz fo y->(K r).post S Q):(a0z off sz fo p K).post S Q:=by
 unfold a0z;split<;>try trivial
 .rename_i bx o;obtain⟨blk,hm,rfl⟩:=hp;refine X7 ?_;split<;>try trivial
  rename_i cs hS;obtain⟨blk',arr,T,hm',hh,hl⟩:=R.own_cells hS;simp only at hm;rw[hm]at hm';cases hm';refine yI λhle=>?_;have hlen:=kJ hl;have e:=jA hh (o+off) 1 (by simp at hlen;omega);have hl1:=uK 1 (sJ (o+off) hl);split<;>try trivial
  rename_i c hc;rw[hc]at hl1;obtain⟨u,hu,hr⟩:=SX hl1;rw[hu]at e;refine Vr R hr λr y h1 ⟨b,bo,n,k,h2,h3,h4,h5⟩=>hK r y h1 ⟨blk,o,b,bo,n,k,rfl,by rw[e,h2],h3,h4,h5⟩
 .rename_i t z o;obtain⟨blk,o',es,rfl,hb,he,hr⟩:=hp;refine yI λhle=>?_;rw[oH]at hle;have e:=qI he (o+off) 1 hle;have hl1:=uK 1 (sJ (o+off) (sK (C:=⟨w.heap,ok,m⟩) hr));split<;>try trivial
  rename_i c hc;rw[hc]at hl1;obtain⟨u,hu,hr⟩:=SX hl1;rw[hu]at e;refine Vr R hr λr y h1 ⟨b,bo,n,k,h2,h3,h4,h5⟩=>hK r y h1 ⟨blk,o' +o,b,bo,n,k,rfl,by rw[iO,e,h2],h3,h4,h5⟩
theorem a0p{C:Cx} :∀{vs:List V} {xs:c6H} (k:Nat),gZ C vs xs->b1Y vs k= .un\/∃x,xs[k]? =some x/\lQ C (b1Y vs k) x
 |[],_,k,_=> .inl (by cases k<;>rfl)|v::r,_,0,⟨x,xr,e,h1,h2⟩=> .inr ⟨x,by subst e;rfl,h1⟩|v::r,_,k+1,⟨x,xr,e,h1,h2⟩=>by subst e;rw[qf];exact a0p k h2
theorem I_(R:Rel X cl ch S m ok a w){all:List V}{xall:c6H}(hall:gZ ⟨w.heap,ok,m⟩ all xall):∀(ms:List MG) {vs:List V} {xs:c6H} {K:Cmd α}
  (hv:gZ ⟨w.heap,ok,m⟩ vs xs) (hK:h_ w.heap xall ms xs->K.post S Q),(dvC all ms vs K).post S Q:=by
 intro ms;induction ms with
 |nil=>
  intro vs xs K hv hK;cases vs with
  |nil=>exact hK trivial|cons v vs=>trivial
 |cons md ms ih=>
  intro vs xs K hv hK;obtain⟨g,md⟩:=md;cases vs with
  |nil=>cases md<;>trivial|cons v vs=>
   obtain⟨x,r,rfl,h1,h2⟩:=hv;cases md
   case dv k off sz fo=>
    unfold dvC;rcases a0p k hall with e|⟨p,hp,hr⟩
    .rw[e];trivial
    .refine Oj R hr λr0 y h3 h4=>?_;unfold b7U;split<;>try trivial
     rename_i n i o n' i' o';refine bP λhb=>⟨λhi=>?_,λ_=>trivial⟩;simp only[D6]at hb;have e1:=eU hb.1;have e2:=eU hb.2;have e3:=eU hi;subst e1;subst e2;subst e3;obtain⟨b1,o1,l1,c1,s1,m1,_,rfl⟩:=h1;obtain⟨b2,o2,l2,c2,s2,m2,_,rfl⟩:=h3;simp only at m1 m2;rw[m1]at m2;cases m2;exact ih h2 λhd=>hK ⟨⟨p,hp,h4⟩,hd⟩
   all_goals
    unfold dvC;exact ih h2 λhd=>hK hd
theorem a7B{α β:Type}{f:α->β}{args:Array α}{u:β}(h:args.toList.map f=[u]):∃y,args=#[y]/\f y=u:=by obtain⟨l⟩:=args;simp only[List.map_eq_cons_iff,List.map_eq_nil_iff]at h;obtain⟨y,r,h1,h2,h3⟩:=h;subst h3;exact⟨y,by rw[h1],h2⟩
theorem a0b{α β:Type}{f:α->β}{args:Array α}{u v:β}(h:args.toList.map f=[u,v]):∃y z,args=#[y,z]/\f y=u/\f z=v:=by obtain⟨l⟩:=args;simp only[List.map_eq_cons_iff,List.map_eq_nil_iff]at h;obtain⟨y,r,h1,h2,z,r',h3,h4,h5⟩:=h;subst h5;subst h3;exact⟨y,z,by rw[h1],h2,h4⟩
theorem b4C(H:FxOk X)(R:Rel X cl ch S m ok a w){c:Call}(ho:o.op= .call c)(hc:c.callee= .builtin .len):(dJ X.E q o).post S (λ_ S' =>jO X cl ch o a w m ok S'):=by
 obtain⟨cal,args,ats⟩:=c;simp only at hc;subst hc;unfold dJ;simp only[ho];refine lZ R _ λvs hvs=>?_;split<;>try trivial
 rename_i t rt x hat
 obtain⟨u,r,he,hx,hr⟩:=hvs;simp only[gZ]at hr;subst hr;refine jY H λi hi=>?_;have htd:=hi.td;obtain⟨y,rfl,rfl⟩:=a7B he;have h0:ats[0]? =some t:=by
  obtain⟨l⟩:=ats;simp only at hat
  simp[hat]
 have fin:∀(v:V) (n:Nat),lQ ⟨w.heap,ok,m⟩ v (.int .i64 n)->(Builtin.len_ ats o.type #[a.eval y]).run X.P w= .ok (.int .i64 n) w->(dY X.E o.dst v).post S (λ_ S' =>jO X cl ch o a w m ok S'):=λv n hv h=>
  aW H R hv (by simp[execOp,ho,resolve,invoke,builtin,h])
 have mapLen:∀{ke e n:Nat},X.P.underlying t=some (.map ke e)->(∃mv,a.eval y= .map mv/\(mv=none->n=0)/\∀blk,mv=some blk->∃es ck,w.heap[blk]? =some (.map es ck)/\es.size=n)->
   (dY X.E o.dst (.i .i64 n)).post S (λ_ S' =>jO X cl ch o a w m ok S'):=λ{ke e n} hu ⟨mv,hv,h1,h2⟩=>by
  refine fin _ n rfl ?_;cases mv with
  |none=>rw[h1 rfl];simp[Builtin.len_,h0,run_underlying hu,hv,goInt]|some blk=>obtain⟨es,ck,h3,h4⟩:=h2 blk rfl;simp[Builtin.len_,h0,run_underlying hu,hv,goInt,a2k h3,h4]
 unfold b7Y;split<;>try trivial
 .rename_i l htd';rw[htd']at htd;refine fin _ l.length rfl ?_;simp[Builtin.len_,h0,run_underlying (show X.P.underlying t=some .string from htd),Lc hx,goInt];rfl
 .rename_i e u xs htd';rw[htd']at htd;cases hE0:u.isEnt
  .simp only[cond_false];obtain⟨ad,cap,hv,_⟩:=(zM hE0).1 hx;simp only[I7,and_true]at hv;refine fin _ xs.length rfl ?_;simp[Builtin.len_,h0,run_underlying (show X.P.underlying t=some (.slice e)from htd),hv,goInt]
  .trivial
 .rename_i ke e u xs htd';rw[htd']at htd;cases hE0:u.isEnt
  .trivial
  .simp only[cond_true];refine mapLen htd ?_;obtain⟨mv,hv,h1,h2⟩:=(a8Z hE0).1 hx;exact⟨mv,by simpa using hv,(λe=>by simp[h1 e]),λblk hb=>by obtain⟨_,es,ck,h3,h4,_⟩:=h2 blk hb;exact⟨es,ck,h3,h4⟩⟩
 .rename_i ke e bx htd';rw[htd']at htd;obtain⟨loc,hm,hview⟩:=hx;simp only at hm;refine X7 ?_;have key:∀{u:Ty} {xs:List u.den},u.isEnt=true->arrOk ⟨w.heap,ok,m⟩ u xs loc->(dY X.E o.dst (.i .i64 (A7 xs))).post S (λ_ S' =>jO X cl ch o a w m ok S'):=λ{u xs} hE0 ha=>by
   refine mapLen htd ?_;cases loc with
   |nil=>exact absurd ha.2 (by simp[hE0])|st b=>cases ha|arr blk off len cap sz=>exact absurd ha.1 (by simp[hE0])|mp b=>simp only[Loc.view]at hview;obtain⟨_,es,ck,h3,h4,_⟩:=ha;exact⟨some b,hview,(λh=>nomatch h),λblk hb=>by cases hb;exact⟨es,ck,h3,h4⟩⟩
  split<;>try trivial
  .rename_i u xs hS;obtain⟨loc',hm',ha⟩:=R.own_arr hS;rw[hm]at hm';cases hm';cases hE0:u.isEnt
   .trivial
   .exact key hE0 ha
  .rename_i u xs hS;obtain⟨loc',hm',ha,_⟩:=R.own_frz hS;rw[hm]at hm';cases hm';cases hE0:u.isEnt
   .trivial
   .exact key hE0 ha
 .rename_i e htd';rw[htd']at htd;have hv:a.eval y= .slice none 0 0:=hx;refine fin _ 0 rfl ?_;simp[Builtin.len_,h0,run_underlying (show X.P.underlying t=some (.slice e)from htd),hv,goInt]
 .rename_i e bx vw htd';rw[htd']at htd;obtain⟨loc,hm,hview⟩:=hx;refine X7 ?_;split
  .rename_i ln sz' hSl;split<;>try trivial
   have hbx:=R.box (NL+bx);rw[hSl]at hbx;obtain⟨k',l',e',hm',hl⟩:=hbx;have e2:k' =bx:=o5;subst e2;simp only at hm hm';rw[hm]at hm';cases hm';cases loc with
   |nil=>simp only at hl;subst hl;simp only[Loc.view]at hview;refine fin _ 0 rfl ?_;simp[Builtin.len_,h0,run_underlying (show X.P.underlying t=some (.slice e)from htd),hview,goInt]|st b=>cases hl|mp b=>cases hl|arr blk off len cap sz2=>obtain⟨rfl,rfl⟩:=hl;simp only[Loc.view]at hview;refine fin _ len rfl ?_;simp[Builtin.len_,h0,run_underlying (show X.P.underlying t=some (.slice e)from htd),hview,goInt]
  refine X7 ?_;have key:∀{u:Ty} {xs:List u.den},u.isEnt=false->arrOk ⟨w.heap,ok,m⟩ u xs loc->(dY X.E o.dst (.i .i64 (A7 (jL vw xs)))).post S (λ_ S' =>jO X cl ch o a w m ok S'):=λ{u xs} hE0 ha=>by obtain⟨ad,cap,hv,_⟩:=(zM hE0).1 (qj (C:=⟨w.heap,ok,m⟩) (ok' :=λ_ _=>True) ha hview (λ_ _ _=>trivial) (λ_ _=>trivial));simp only[I7,and_true]at hv;refine fin _ (jL vw xs).length rfl ?_;simp[Builtin.len_,h0,run_underlying (show X.P.underlying t=some (.slice e)from htd),hv,goInt]
  split<;>try trivial
  .rename_i u xs hS;obtain⟨loc',hm',ha⟩:=R.own_arr hS;simp only at hm;rw[hm]at hm';cases hm';cases hE0:u.isEnt
   .exact key hE0 ha
   .trivial
  .rename_i u xs hS;obtain⟨loc',hm',ha,_⟩:=R.own_frz hS;simp only at hm;rw[hm]at hm';cases hm';cases hE0:u.isEnt
   .exact key hE0 ha
   .trivial
  .rename_i md xs hole hS;split<;>try trivial
   obtain⟨hel,loc',Os,hm',⟨ha,hho⟩,hk⟩:=R.own_barrs hS;simp only at hm;rw[hm]at hm';cases hm';cases loc with
   |st b=>cases ha|mp b=>cases ha|nil=>obtain⟨e1,_⟩:=ha;subst e1;simp only[Loc.view]at hview;refine fin _ 0 rfl ?_;simp[Builtin.len_,h0,run_underlying (show X.P.underlying t=some (.slice e)from htd),hview,goInt]
   |arr blk off len cap sz' =>obtain⟨rfl,rfl,h3,_⟩:=ha;simp only[Loc.view]at hview;refine fin _ xs.length rfl ?_;simp[Builtin.len_,h0,run_underlying (show X.P.underlying t=some (.slice e)from htd),hview,goInt]
  .rename_i md xs kn ko hS;split<;>try trivial
   obtain⟨hel,_,loc',Os,hm',ha,hk⟩:=R.own_barrp hS;simp only at hm;rw[hm]at hm';cases hm';cases loc with
   |st b=>cases ha|mp b=>cases ha|nil=>obtain⟨e1,_⟩:=ha;subst e1;simp only[Loc.view]at hview;refine fin _ 0 rfl ?_;simp[Builtin.len_,h0,run_underlying (show X.P.underlying t=some (.slice e)from htd),hview,goInt]
   |arr blk off len cap sz' =>obtain⟨rfl,rfl,h3,_⟩:=ha;simp only[Loc.view]at hview;refine fin _ xs.length rfl ?_;simp[Builtin.len_,h0,run_underlying (show X.P.underlying t=some (.slice e)from htd),hview,goInt]
theorem XW(H:FxOk X)(R:Rel X cl ch S m ok a w){c:Call}(ho:o.op= .call c)(hc:c.callee= .builtin .min\/c.callee= .builtin .max):(dJ X.E q o).post S (λ_ S' =>jO X cl ch o a w m ok S'):=by
 obtain⟨cal,args,ats⟩:=c;simp only at hc;rcases hc with rfl|rfl
 all_goals
  unfold dJ;simp only[ho];refine lZ R _ λvs hvs=>?_;split<;>try trivial
  rename_i k p k' r;obtain⟨u,r',he,hx,v,r'',he',hy,hr⟩:=hvs;simp only[gZ]at hr;subst hr;rw[he']at he;refine bP λhk=>?_;have hk' :k=k' :=of_decide_eq_true hk;subst hk';obtain⟨y,z,rfl,rfl,rfl⟩:=a0b he
 .refine aW H R (v:=.i k (Dj p r)) rfl ?_;simp[execOp,ho,resolve,invoke,builtin,Builtin.min_,Builtin.min2,vP hx,vP hy,Dj]
 .refine aW H R (v:=.i k (wL p r)) rfl ?_;simp[execOp,ho,resolve,invoke,builtin,Builtin.max_,Builtin.max2,vP hx,vP hy,wL]
end
end Go.GP
namespace Go.GP
def Bnd(d:Int)(o:Option Value)(n:Int):Prop:=(o=none/\n=d)\/∃k,o=some (.int k n)
theorem Fj{P:Program}{w:World}{isS:Bool}{len cap:Nat}{lo hi:Option Value}{x y:Int}(hlo:Bnd 0 lo x)(hhi:Bnd len hi y)(h0:0<=x)(h1:x<=y)(h2:y<=len)(hc:len<=cap):
  (Instr.sliceBounds isS len cap lo hi none).run P w= .ok (x.toNat,y.toNat,cap) w:=by
 have hyc:y<=cap:=o5;have hy0:0<=y:=o5;have e:((y.toNat:Nat):Int)=y:=o5;rcases hlo with⟨rfl,rfl⟩|⟨k,rfl⟩<;>rcases hhi with⟨rfl,rfl⟩|⟨k',rfl⟩
 .simp[Instr.sliceBounds]
 .simp[Instr.sliceBounds,Instr.sliceBound,asIntOf,hy0,hyc]
 .simp[Instr.sliceBounds,Instr.sliceBound,asIntOf,h0,h1]
 .simp[Instr.sliceBounds,Instr.sliceBound,asIntOf,hy0,hyc,h0,e,h1]
theorem XR{α:Type}{l r:List α}{x y:Int}(h:gy l x y=some r):0<=x/\x<=y/\y<=l.length/\r=(l.take y.toNat).drop x.toNat:=by
 unfold gy at h;split at h
 .rename_i hh;cases h;exact⟨hh.1,hh.2.1,hh.2.2,rfl⟩
 .cases h
theorem WS(l:c6F)(x y:Nat):(⟨l.toArray⟩:ByteArray).extract x y=⟨((l.take y).drop x).toArray⟩:=by apply ByteArray.ext;apply jM;simp[ByteArray.data_extract,nR,jf]
theorem b2w{h:Array Obj}{ok:Nat->Ty->Prop}{t:Ty}(ht:t.isEnt=false){xs:List t.den}{ad:Option Addr}{cap:Nat}{x y:Nat}(hr:rep h ok (.sl t) xs [.slice ad xs.length cap])(h1:x<=y)(h2:y<=xs.length):
  rep h ok (.sl t) ((xs.take y).drop x) [.slice (if cap=x then ad else ad.map (·.add (x*t.size))) (y -x) (cap -x)]:=by
 obtain⟨ad',cap',e,hc,hel⟩:=(zM ht).1 hr;simp only[I7,qC,and_true,true_and]at e;obtain⟨rfl,rfl⟩:=e;have hl:((xs.take y).drop x).length=y -x:=by simp;omega
 refine(zM ht).2 ⟨_,cap -x,by rw[hl],by rw[hl];omega,λi z hz=>?_⟩;have hi:i<y -x:=by rw[←hl];exact(bg.1 hz).1
 have hz' :xs[x+i]? =some z:=by
  simp only[O9,Y7]at hz;split at hz
  .exact hz
  .cases hz
 obtain⟨blk,off,es,rfl,hb,he,hrp⟩:=hel _ z hz';have hne:cap≠x:=o5;refine⟨blk,off+x*t.size,es,by simp[hne,iI],hb,?_,hrp⟩;rw[←he];congr 1;rw[N7];omega
section
variable {X:Fx} {cl ch:Nat} {S:Sm} {m:Mp} {ok:Nat->Ty->Prop} {a:Act} {w:World} {o:Oper}
theorem xg{C:Cx}{d n:Int}{v:Option V}{u:Option Value}(h:BN d v=some n)(hr:(v=none/\u=none)\/∃c x,v=some c/\u=some x/\lQ C c x):Bnd d u n:=by
 rcases hr with⟨rfl,rfl⟩|⟨c,x,rfl,rfl,hr⟩
 .simp[BN]at h;subst h;exact .inl ⟨rfl,rfl⟩
 .cases c<;>simp[BN]at h;subst h;exact .inr ⟨_,by rw[vP hr]⟩
theorem Gv(H:FxOk X)(R:Rel X cl ch S m ok a w){t:TypeId}{x:V}{u:Value}{lo hi:Option V}{lv hv:Option Value}(hx:lQ ⟨w.heap,ok,m⟩ x u)
  (hlo:(lo=none/\lv=none)\/∃c y,lo=some c/\lv=some y/\lQ ⟨w.heap,ok,m⟩ c y) (hhi:(hi=none/\hv=none)\/∃c y,hi=some c/\hv=some y/\lQ ⟨w.heap,ok,m⟩ c y)
  {K:V->Cmd Unit} {Q:Unit->Sm->Prop} (hK:∀v z,lQ ⟨w.heap,ok,m⟩ v z->(Instr.sliceAt t u lv hv none).run X.P w= .ok z w->(K v).post S Q):(Ro X.E t x lo hi K).post S Q:=by
 unfold Ro;cases x<;>try trivial
 case s l=>
  refine jY H λi hi' =>?_;have htd:=hi'.td;split<;>try trivial
  rename_i p q htd' hp hq;rw[htd']at htd;refine dM λr hr=>?_;obtain⟨h0,h1,h2,rfl⟩:=XR hr;have hb:=Fj (P:=X.P) (w:=w) (isS:=false) (cap:=l.length) (xg hp hlo) (xg hq hhi) h0 h1 h2 (D7 _);refine hK (.s _) (.string ⟨((l.take q.toNat).drop p.toNat).toArray⟩) rfl ?_;have hus:X.P.underlying t=some .string:=htd;have hs:(⟨l.toArray⟩:ByteArray).size=l.length:=rfl;simp[Instr.sliceAt,run_underlying hus,Instr.slice,Lc hx,hs,hb,WS]
 case sl v l=>
  dsimp only;split<;>try trivial
  rename_i n sz p q hsz hp hq;obtain⟨e,j,hut,hj,hjs⟩:=IQ H hsz;refine bP λhbq=>dM λr hr=>?_;obtain⟨hE0,hbq'⟩:=Du hbq;obtain⟨h0,h1,h2,rfl⟩:=XR hr;have hx' :rep w.heap ok (.sl v) l [u]:=hx;obtain⟨ad,cap,hu,hc,_⟩:=(zM hE0).1 hx';simp only[I7,and_true]at hu;subst hu;have hb:=Fj (P:=X.P) (w:=w) (isS:=true) (cap:=cap) (xg hp hlo) (xg hq hhi) h0 h1 h2 hc;refine hK (.sl v _) _ (b2w hE0 (x:=p.toNat) (y:=q.toNat) hx' o5 o5) ?_;simp[Instr.sliceAt,run_underlying hut,Instr.slice,hb,uj hj,hjs,hbq']
 case own bx vw=>
  cases vw with
  |some _=>trivial|none=>
  obtain⟨loc,hm,hview⟩:=hx;refine X7 ?_;have key:∀{v:Ty} {xs:List v.den} {n sz:Nat} {p q:Int},arrOk ⟨w.heap,ok,m⟩ v xs loc->IP X.E t=some (false,n,sz)->BN 0 lo=some p->BN (A7 xs) hi=some q->
    (bif szB sz v then Cmd.br (mi p q (A7 xs)) (K (.own bx (some (Z7 p,Z7 q)))) .fail else .fail).post S Q:=λ{v xs n sz p q} ha hsz hp hq=>by
   obtain⟨e,j,hut,hj,hjs⟩:=IQ H hsz;refine bP λhbq=>⟨λhr=>?_,λ_=>trivial⟩;obtain⟨hE0,hbq'⟩:=Du hbq;have hr' :=of_decide_eq_true (show decide (0<=p/\p<=q/\q<=A7 xs)=true from hr);obtain⟨h0,h1,h2⟩:=hr';have h2' :q<=(xs.length:Int):=h2;cases loc with
   |st b=>cases ha|mp b=>exact absurd ha.1 (by simp[hE0])|nil=>
    obtain⟨ha,_⟩:=ha;subst ha;simp only[Loc.view]at hview;subst hview;have h2'' :q<=((0:Nat):Int):=by simpa using h2'
    have hb:=Fj (P:=X.P) (w:=w) (isS:=true) (len:=0) (cap:=0) (xg hp hlo) (by have:=xg hq hhi;simpa[A7]using this) h0 h1 h2'' (D7 _);have ep:p=0:=o5;have eq:q=0:=o5;subst ep;subst eq;refine hK (.own bx (some (Z7 0,Z7 0))) (.slice none 0 0) ⟨.nil,hm,rfl,rfl,rfl⟩ ?_;simp[Instr.sliceAt,run_underlying hut,Instr.slice,hb,uj hj]
   |arr blk off len cap sz' =>
    obtain⟨_,rfl,rfl,hc,_⟩:=ha;simp only[Loc.view]at hview;subst hview;have hb:=Fj (P:=X.P) (w:=w) (isS:=true) (cap:=cap) (xg hp hlo) (xg hq hhi) h0 h1 h2' hc;refine hK (.own bx (some (Z7 p,Z7 q))) _ ⟨_,hm,by unfold Z7;omega,by unfold Z7;omega,rfl⟩ ?_;have e1:(if cap=p.toNat then some (⟨blk,off,none⟩:Addr)else some ⟨blk,off+p.toNat*v.size,none⟩)=some (if cap=p.toNat then⟨blk,off,none⟩else⟨blk,off+p.toNat*v.size,none⟩):=by split<;>rfl
    simp[Instr.sliceAt,run_underlying hut,Instr.slice,hb,uj hj,hjs,hbq',iI,Z7,e1];by_cases ecp:cap=p.toNat<;>simp[ecp]
  split<;>try trivial
  .rename_i v xs hS;obtain⟨loc',hm',ha⟩:=R.own_arr hS;simp only at hm;rw[hm]at hm';cases hm';split<;>try trivial
   rename_i n sz p q hsz hp hq;exact key ha hsz hp hq
  .rename_i v xs hS;obtain⟨loc',hm',ha,_⟩:=R.own_frz hS;simp only at hm;rw[hm]at hm';cases hm';split<;>try trivial
   rename_i n sz p q hsz hp hq;exact key ha hsz hp hq
theorem a6i(H:FxOk X)(R:Rel X cl ch S m ok a w){t:TypeId}{x:Operand}{lo hi:Option Operand}{q:Nat}(ho:o.op= .slice t x lo hi none)
  (hA:∀bx,lo=none->hi=none->lQ ⟨w.heap,ok,m⟩ (.ptr bx 0) (a.eval x)->(Wq X.E (O8 q o.dst) t bx λr=>dY X.E o.dst r).post S (λ_ S' =>jO X cl ch o a w m ok S')):(dJ X.E q o).post S (λ_ S' =>jO X cl ch o a w m ok S'):=by
 unfold dJ;simp only[ho];refine dh R λv hv=>lZ R _ λbs hbs=>?_;split<;>try trivial
 .split
  .exact hA _ rfl rfl hv
  refine Gv H R (lv:=none) (hv:=none) hv (.inl ⟨rfl,rfl⟩) (.inl ⟨rfl,rfl⟩) λr z hr hz=>aW H R hr ?_;simp[execOp,ho,hz]
 .rename_i l c;obtain⟨y,r,he,h1,h2⟩:=hbs;simp only[gZ]at h2;subst h2;simp at he;subst he;refine Gv H R (lv:=some (a.eval l)) (hv:=none) hv (.inr ⟨_,_,rfl,rfl,h1⟩) (.inl ⟨rfl,rfl⟩) λr z hr hz=>aW H R hr ?_;simp[execOp,ho,hz]
 .rename_i h c;obtain⟨y,r,he,h1,h2⟩:=hbs;simp only[gZ]at h2;subst h2;simp at he;subst he;refine Gv H R (lv:=none) (hv:=some (a.eval h)) hv (.inl ⟨rfl,rfl⟩) (.inr ⟨_,_,rfl,rfl,h1⟩) λr z hr hz=>aW H R hr ?_;simp[execOp,ho,hz]
 .rename_i l h c d;obtain⟨y,r,he,h1,y',r',he',h2,h3⟩:=hbs;simp only[gZ]at h3;subst h3;subst he';simp at he;obtain⟨rfl,rfl⟩:=he;refine Gv H R (lv:=some (a.eval l)) (hv:=some (a.eval h)) hv (.inr ⟨_,_,rfl,rfl,h1⟩) (.inr ⟨_,_,rfl,rfl,h2⟩) λr z hr hz=>aW H R hr ?_;simp[execOp,ho,hz]
end
end Go.GP
namespace Go.GP
def fB(h:Array Obj)(ok:Nat->Ty->Prop)(t:Ty)(xs:List t.den)(cs:c6H):Prop:=
 cs.length=xs.length*t.size/\∀i x,xs[i]? =some x->rep h ok t x ((cs.drop (i*t.size)).take t.size)
variable {h:Array Obj}{ok:Nat->Ty->Prop}{t:Ty}
theorem fB.nil :fB h ok t [] []:=⟨D5,λi x hi=>by simp at hi⟩
theorem fB.append{xs ys:List t.den}{cs ds:c6H}(hx:fB h ok t xs cs)(hy:fB h ok t ys ds):fB h ok t (xs++ys) (cs++ds):=by
 refine⟨by simp[hx.1,hy.1,N7],λi x hi=>?_⟩;by_cases hlt:i<xs.length
 .rw[V7 hlt]at hi;have h1:=hx.2 i x hi;have hle:(i+1)*t.size<=cs.length:=by rw[hx.1];exact J3 _ o5
  rw[N7,aY]at hle;rw[kX o5,aC E5];exact h1
 .rw[H9 o5]at hi;have h1:=hy.2 _ x hi;have hle:cs.length<=i*t.size:=by rw[hx.1];exact J3 _ o5
  rw[List.drop_append,bG hle,J4];have:i*t.size -cs.length=(i -xs.length)*t.size:=by rw[hx.1,Nat.sub_mul]
  rw[this];exact h1
variable {cs:c6H}{x:t.den}
theorem fB.one(hr:rep h ok t x cs):fB h ok t [x] cs:=by
 refine⟨by simp[iQ hr],λi y hi=>?_⟩;have:i=0:=by have:=(bg.1 hi).1;simp at this;exact this
 subst this;simp at hi;subst hi;have:(List.drop (0*t.size) cs).take t.size=cs:=by simp[←iQ hr]
 rw[this];exact hr
variable {xs:List t.den}
theorem fB.mono{h h' :Array Obj}{ok ok' :Nat->Ty->Prop}(hok:∀b t,ok b t->ok' b t)(hh:∀b t,ok b t->h'[b]? =h[b]?)(hr:fB h ok t xs cs):fB h' ok' t xs cs:=
 ⟨hr.1,λi x hi=>gX hok hh (hr.2 i x hi)⟩
theorem fB.rep_all{h:Array Obj}{ok:Nat->Ty->Prop}{t:Ty}{x:t.den}{cs:c6H}(hr:rep h ok t x cs):∀n,fB h ok t (List.replicate n x) ((List.replicate n cs).flatten)
 |0=>by simpa using fB.nil|n+1=>by have:=(fB.one hr).append (fB.rep_all hr n);simpa[oh]using this
theorem fB.one_cell{h:Array Obj}{ok:Nat->Ty->Prop}{t:Ty} :∀{xs:List t.den} {cs:c6H},fB h ok t xs cs->∀v∈cs,v.oneCell' =true
 |[],cs,hr=>by have:=hr.1;simp at this;simp[this]|x::xs,cs,hr=>by
  intro v hv;have h0:=hr.2 0 x rfl;simp only[Nat.zero_mul,kw]at h0;have hl:=hr.1;simp only[F5,N7,aY]at hl;have hrest:fB h ok t xs (cs.drop t.size):=by refine⟨by simp;omega,λi y hi=>?_⟩;have:=hr.2 (i+1) y (by simpa using hi);rw[af];rwa[show t.size+i*t.size=(i+1)*t.size by rw[N7];omega]
  rw[←Z4 t.size cs]at hv;rcases J6.1 hv with hv|hv
  .exact Af h0 v hv
  .exact fB.one_cell hrest v hv
variable {blk:Nat}{off:Nat}{cap:Nat}{C:Cx}
theorem fB.arrOk(h0:t.isEnt=false)(hr:fB C.h C.ok t xs cs){c:Array Value}{T:TypeId}{f:Nat×Nat}(hb:C.h[blk]? =some (.cells c T f))(hz:fzo t c.size f)
  (hcap:xs.length<=cap) (hfit:off+cap*t.size<=c.size) (he:(c.toList.drop off).take (xs.length*t.size)=cs):Go.GP.arrOk C t xs (.arr blk off xs.length cap t.size):=by
 refine⟨h0,rfl,rfl,hcap,c,T,f,hb,hz,hfit,λi x hi=>?_⟩;have hlt:=(bg.1 hi).1;have hle:(i+1)*t.size<=xs.length*t.size:=J3 _ o5;rw[N7,aY]at hle;have hle2:xs.length*t.size<=cap*t.size:=J3 _ hcap;refine⟨_,jA hb _ _ o5,?_⟩;have h1:=hr.2 i x hi;rw[←he,jf,ig,af]at h1;rwa[iJ o5]at h1
theorem Xq{blk off len cap sz:Nat}(h:arrOk C t xs (.arr blk off len cap sz)):
  ∃c T f,C.h[blk]? =some (.cells c T f)/\fzo t c.size f/\sz=t.size/\len=xs.length/\len<=cap/\off+cap*sz<=c.size/\fB C.h C.ok t xs ((c.toList.drop off).take (len*sz)):=by
 obtain⟨_,rfl,rfl,h3,c,T,f,hb,hz,hf,hx⟩:=h;refine⟨c,T,f,hb,hz,rfl,rfl,h3,hf,?_,λi x hi=>?_⟩
 .have:xs.length*t.size<=cap*t.size:=J3 _ h3;simp;omega
 .obtain⟨es,he,hr⟩:=hx i x hi;obtain⟨c',T',f',hb',hn',rfl⟩:=qO he;rw[hb]at hb';cases hb';have hlt:=(bg.1 hi).1;have hle:(i+1)*t.size<=xs.length*t.size:=J3 _ o5;rw[N7,aY]at hle;rw[jf,ig,af,iJ o5];exact hr
def xY(h:Array Obj)(ok:Nat->Ty->Prop)(m:M)(xs:List m.den)(cs:c6H)(Os:List c6I):Prop:=
 cs.length=xs.length*m.size/\Os.length=xs.length/\∀i x,xs[i]? =some x->∃O,Os[i]? =some O/\mM h ok m none x ((cs.drop (i*m.size)).take m.size) O
theorem xY.nil{m:M} :xY h ok m [] [] []:=⟨D5,rfl,λi x hi=>by simp at hi⟩
theorem xY.append{t:M}{xs ys:List t.den}{cs ds:c6H}{Os Ps:List c6I}(hx:xY h ok t xs cs Os)(hy:xY h ok t ys ds Ps):xY h ok t (xs++ys) (cs++ds) (Os++Ps):=by
 refine⟨by simp[hx.1,hy.1,N7],by simp[hx.2.1,hy.2.1],λi x hi=>?_⟩;by_cases hlt:i<xs.length
 .rw[V7 hlt]at hi;obtain⟨O,hO,h1⟩:=hx.2.2 i x hi;have hle:(i+1)*t.size<=cs.length:=by rw[hx.1];exact J3 _ o5
  rw[N7,aY]at hle;rw[kX o5,aC E5];exact⟨O,by rw[V7 (by rw[hx.2.1];exact hlt)];exact hO,h1⟩
 .rw[H9 o5]at hi;obtain⟨O,hO,h1⟩:=hy.2.2 _ x hi;have hle:cs.length<=i*t.size:=by rw[hx.1];exact J3 _ o5
  rw[List.drop_append,bG hle,J4];have:i*t.size -cs.length=(i -xs.length)*t.size:=by rw[hx.1,Nat.sub_mul]
  rw[this];exact⟨O,by rw[H9 (by rw[hx.2.1];omega),hx.2.1];exact hO,h1⟩
theorem xY.one{t:M}{x:t.den}{O:c6I}(hr:mM h ok t none x cs O):xY h ok t [x] cs [O]:=by
 refine⟨by simp[aZ hr],rfl,λi y hi=>?_⟩;have:i=0:=by have:=(bg.1 hi).1;simp at this;exact this
 subst this;simp at hi;subst hi;have:(List.drop (0*t.size) cs).take t.size=cs:=by simp[←aZ hr]
 rw[this];exact⟨O,rfl,hr⟩
variable {Os:List c6I}
theorem xY.mono{h h' :Array Obj}{ok ok' :Nat->Ty->Prop}{t:M}{xs:List t.den}(hok:∀b t,ok b t->ok' b t)(hh:∀b t,ok b t->h'[b]? =h[b]?)(hO:∀b∈Os.flatten,h'[b]? =h[b]?)(hr:xY h ok t xs cs Os):xY h' ok' t xs cs Os:=
 ⟨hr.1,hr.2.1,λi x hi=>by obtain⟨O,h1,h2⟩:=hr.2.2 i x hi;exact⟨O,h1,iK hok hh (λb hb=>hO b (ah.2 ⟨O,yu h1,hb⟩)) h2⟩⟩
theorem xY.rep_all{h:Array Obj}{ok:Nat->Ty->Prop}{t:M}{x:t.den}{cs:c6H}(hr:mM h ok t none x cs []):∀n,xY h ok t (List.replicate n x) ((List.replicate n cs).flatten) (List.replicate n [])
 |0=>by simpa using xY.nil|n+1=>by have:=(xY.one hr).append (xY.rep_all hr n);simpa[oh]using this
theorem xY.one_cell{h:Array Obj}{ok:Nat->Ty->Prop}{t:M} :∀{xs:List t.den} {cs:c6H} {Os:List c6I},xY h ok t xs cs Os->∀v∈cs,v.oneCell' =true
 |[],cs,_,hr=>by have:=hr.1;simp at this;simp[this]|x::xs,cs,Os,hr=>by
  intro v hv;obtain⟨O,hO,h0⟩:=hr.2.2 0 x rfl;simp only[Nat.zero_mul,kw]at h0;have hl:=hr.1;simp only[F5,N7,aY]at hl;have hl2:=hr.2.1;simp only[F5]at hl2;have hrest:xY h ok t xs (cs.drop t.size) (Os.drop 1):=by refine⟨by simp;omega,by simp;omega,λi y hi=>?_⟩;obtain⟨O',hO',this⟩:=hr.2.2 (i+1) y (by simpa using hi);rw[af];refine⟨O',by rw[O9,Nat.add_comm];exact hO',?_⟩;rwa[show t.size+i*t.size=(i+1)*t.size by rw[N7];omega]
  rw[←Z4 t.size cs]at hv;rcases J6.1 hv with hv|hv
  .exact oN h0 v hv
  .exact xY.one_cell hrest v hv
theorem xY.arrs{t:M}{xs:List t.den}(hr:xY h ok t xs cs Os){c:Array Value}{T:TypeId}(hb:h[blk]? =some (.cells c T (0,0)))
  (hcap:xs.length<=cap) (hfit:off+cap*t.size<=c.size) (he:(c.toList.drop off).take (xs.length*t.size)=cs):vg h t.size (λ_ x es O=>mM h ok t none x es O) xs Os (.arr blk off xs.length cap t.size):=by
 refine⟨rfl,rfl,hcap,hr.2.1,c,T,hb,hfit,λi x hi=>?_⟩;have hlt:=(bg.1 hi).1;have hle:(i+1)*t.size<=xs.length*t.size:=J3 _ o5;rw[N7,aY]at hle;have hle2:xs.length*t.size<=cap*t.size:=J3 _ hcap;obtain⟨O,hO,h1⟩:=hr.2.2 i x hi;refine⟨_,O,hO,jA hb _ _ o5,?_⟩;rw[←he,jf,ig,af]at h1;rwa[iJ o5]at h1
theorem y_{t:M}{xs:List t.den}{blk off len cap sz:Nat}(k:vg h t.size (λ_ x es O=>mM h ok t none x es O) xs Os (.arr blk off len cap sz)):
  ∃c T,h[blk]? =some (.cells c T (0,0))/\sz=t.size/\len=xs.length/\len<=cap/\off+cap*sz<=c.size/\xY h ok t xs ((c.toList.drop off).take (len*sz)) Os:=by
 obtain⟨rfl,rfl,h3,h7,c,T,hb,hf,hx⟩:=k;refine⟨c,T,hb,rfl,rfl,h3,hf,?_,h7,λi x hi=>?_⟩
 .have:xs.length*t.size<=cap*t.size:=J3 _ h3;simp;omega
 .obtain⟨es,O,hO,he,hr⟩:=hx i x hi;obtain⟨c',T',f',hb',hn',rfl⟩:=qO he;rw[hb]at hb';cases hb';have hlt:=(bg.1 hi).1;have hle:(i+1)*t.size<=xs.length*t.size:=J3 _ o5;rw[N7,aY]at hle;rw[jf,ig,af,iJ o5];exact⟨O,hO,hr⟩
theorem a6S{α β:Type}(e:α=β)(e' :List α=List β):cast e' []=[]:=by subst e;rfl
theorem WP{h:Array Obj}{ok:Nat->Ty->Prop}{C:Cx} :∀(m:M) (he:m.el=true) {zs:List V} {cs r:c6H},rep h ok m.ty m.ty.zero cs->gB C zs (cs++r)->SA m zs=true->mM h ok m none (m.zero he) cs []
 | .dat t,_,_,_,_,hr,_,_=>⟨hr,rfl⟩| .unit,_,_,_,_,hr,_,_=>⟨hr,rfl⟩| .own t,he,zs,cs,r,hr,hz,hn=>by
  have ht:t.isEnt=false:=by simpa[M.el]using he
  obtain⟨a,cap,rfl,_⟩:=(zM ht).1 hr;unfold SA at hn;split at hn
  .obtain⟨v,r',e,h1,_⟩:=hz;simp only[U3,J4,I7]at e;obtain⟨rfl,rfl⟩:=e;exact⟨_,rfl,rfl,.nil,h1,⟨rfl,ht⟩,rfl⟩
  .cases hn
 | .owns t,he,zs,cs,r,hr,hz,hn=>by
  obtain⟨a,cap,rfl,_⟩:=(zM (M.ty_ent (m:=t) (by simpa[M.el]using he))).1 hr;unfold SA at hn;split at hn
  .obtain⟨v,r',e,h1,_⟩:=hz;simp only[U3,J4,I7]at e;obtain⟨rfl,rfl⟩:=e;have he' :t.el=true:=by simpa[M.el]using he
   refine yE.2 ⟨he',.nil,_,[],rfl,h1,⟨?_,rfl⟩,rfl⟩;exact a6S (M.denEq t he').symm _
  .cases hn
 | .pair p q,he,zs,cs,r,hr,hz,hn=>by
  obtain⟨c,d,rfl,h1,h2⟩:=hr;have he' :p.el=true/\q.el=true:=by simpa[M.el]using he
  have hp:=iQ h1;rw[M.ty_size he'.1]at hp;unfold SA at hn;split at hn
  .rename_i r' hd;obtain⟨_,rfl⟩:=UQ _ _ _ hd;cases hb:SA p zs<;>rw[hb]at hn
   .cases hn
   .have a1:=WP p he'.1 (r:=d++r) h1 (by simpa using hz) hb;have hz' :=sJ p.size hz;rw[show(c++d++r).drop p.size=d++r by rw[←hp,E8,fG]]at hz';have a2:=WP q he'.2 (r:=r) h2 hz' hn;refine⟨c,d,[],[],rfl,rfl,?_,?_⟩
    .have:=Hz (M.denEq p he'.1).symm (M.denEq q he'.2).symm (M.denEq (.pair p q) he).symm (p.ty.zero,q.ty.zero);exact(congrArg (λz:p.den×q.den=>mM h ok p none z.1 c []) this).mpr a1
    .have:=Hz (M.denEq p he'.1).symm (M.denEq q he'.2).symm (M.denEq (.pair p q) he).symm (p.ty.zero,q.ty.zero);exact(congrArg (λz:p.den×q.den=>mM h ok q none z.2 d []) this).mpr a2
  .cases hn
 | .box _,he,_,_,_,_,_,_=>by simp[M.el]at he| .ownb _,he,_,_,_,_,_,_=>by simp[M.el]at he| .cell _,he,_,_,_,_,_,_=>by simp[M.el]at he| .fr _,he,_,_,_,_,_,_=>by simp[M.el]at he| .sbx _ _,he,_,_,_,_,_,_=>by simp[M.el]at he| .lp _,he,_,_,_,_,_,_=>by simp[M.el]at he| .dv ..,he,_,_,_,_,_,_=>by simp[M.el]at he| .sit,he,_,_,_,_,_,_=>by simp[M.el]at he| .rp _,he,_,_,_,_,_,_=>by simp[M.el]at he| .fn _ _,he,_,_,_,_,_,_=>by simp[M.el]at he| .ifc _ _,he,_,_,_,_,_,_=>by simp[M.el]at he
theorem KL(z:Array Value):∀n,(madeCells z (n*z.size)).toList=(List.replicate n z.toList).flatten:=by
 intro n;rcases jr z.size with h0|h0
 .have:z=#[]:=by simpa using h0
  subst this;simp[madeCells]
 induction n with
 |zero=>simp[madeCells]|succ n ih=>
  rw[rU,kQ,←ih];simp only[madeCells,nz,Array.toList_range,List.flatten_cons,List.flatten_nil,G7];rw[N7,aY,List.range_add,gu,pz];congr 1;apply jg
  .simp
  .intro i h1 h2;simp at h1 h2;simp[Nat.mod_eq_of_lt h1,Nat.add_mod,h1,getElem!_pos]
theorem IR{E:Env}{t e:Nat}{u:Ty}(h:EG E t=some (e,u)):u.isEnt=false:=by
 unfold EG at h;split at h<;>try (cases h;done)
 split at h<;>try (cases h;done)
 split at h<;>try (cases h;done)
 split at h<;>try (cases h;done)
 rename_i u' _;cases hu:u'.isEnt
 .revert h;generalize (Nat.beq _ _&&Nat.ble _ _)=b;cases b<;>simp[hu];rintro _ rfl;exact hu
 .simp[hu]at h
theorem zS{X:Fx}(H:FxOk X){t e:Nat}{u:Ty}(h:EG X.E t=some (e,u)):
  ∃j z inf,X.P.underlying t=some (.slice e)/\TiOk X.P e j/\X.P.info? e=some inf/\inf.size=u.size/\j.size=u.size/\inf.bytes<=65536/\inf.zero=some z/\rep #[] (λ_ _=>False) u u.zero z.cells.toList:=by
 unfold EG at h;cases hi:dX X.E.tt t with
 |none=>simp[hi]at h|some i=>
  have htd:=(H.tt t i hi).td;simp only[hi]at h;cases hd:i.td<;>simp only[hd]at h<;>try (simp at h;done)
  rename_i e';rw[hd]at htd;cases hj:dX X.E.tt e' with
  |none=>simp[hj]at h|some j=>
   simp only[hj]at h;cases hy:j.ty with
   |none=>simp[hy]at h|some u' =>
    simp only[hy]at h;cases hb:(Nat.beq u'.size j.size&&Nat.ble j.bytes 65536&&!u'.isEnt)
    .simp only[hb,cond_false]at h;cases h
    .simp only[hb,cond_true,G8,gK]at h;obtain⟨rfl,rfl⟩:=h;simp only[D6]at hb;have h1:=eU hb.1.1;have h2:=S9 hb.1.2;obtain⟨inf,a1,a2,a3,a4,a5⟩:=(H.tt e' j hj).info;obtain⟨b1,z,b2,b3⟩:=a5 u' hy;exact⟨j,z,inf,htd,H.tt _ _ hj,a1,o5,o5,o5,b2,b3⟩
variable {q:Nat}{w1:World}{T:c6I}
section
variable {X:Fx} {cl ch:Nat} {S:Sm} {m:Mp} {ok:Nat->Ty->Prop} {a:Act} {w:World} {o:Oper}
theorem Yj(h:rep #[] (λ_ _=>False) t x cs):rep C.h C.ok t x cs:=
 gX (λ_ _ h=>h.elim) (λ_ _ h=>h.elim) h
theorem EX(H:FxOk X){v vv:V}{Q:Unit->Sm->Prop}
  (hK:∀n,n=O8 q o.dst->CB*q<=n->n+64<=CB*q+CB->S (X9+n)= .undef->(dY X.E o.dst vv).post (upd S (X9+n) v) Q):
  (vI (O8 q o.dst) v (dY X.E o.dst vv)).post S Q:=by
 refine pI λhn=>?_;cases hd:o.dst with
 |none=>have hin:=qN H (q:=q) none (λt h=>by cases h);rw[hd]at hn;have:=hK (O8 q none) (by rw[hd]) hin.1 hin.2 hn;rwa[hd]at this|some t=>
  cases hb:PN X.E t with
  |false=>unfold dY;simp only[hb,cond_false];trivial|true=>have hin:=qN H (q:=q) (some t) (λt' h=>by cases h;exact(zK hb).1);rw[hd]at hn;have:=hK (O8 q (some t)) (by rw[hd]) hin.1 hin.2 hn;rwa[hd]at this
theorem a5X(H:FxOk X){v vv u:V}{Q:Unit->Sm->Prop}
  (hK:∀n,n=O8 q o.dst->CB*q<=n->n+64<=CB*q+CB->S (X9+n)= .undef->(Cmd.set (X9+(NL+n)) u (dY X.E o.dst vv)).post (upd S (X9+n) v) Q):
  (vI (O8 q o.dst) v (.set (X9+(NL+O8 q o.dst)) u (dY X.E o.dst vv))).post S Q:=by
 refine pI λhn=>?_;cases hd:o.dst with
 |none=>have hin:=qN H (q:=q) none (λt h=>by cases h);rw[hd]at hn;have:=hK (O8 q none) (by rw[hd]) hin.1 hin.2 hn;rwa[hd]at this|some t=>
  cases hb:PN X.E t with
  |false=>refine gG ?_;unfold dY;simp only[hb,cond_false];trivial|true=>have hin:=qN H (q:=q) (some t) (λt' h=>by cases h;exact(zK hb).1);rw[hd]at hn;have:=hK (O8 q (some t)) (by rw[hd]) hin.1 hin.2 hn;rwa[hd]at this
theorem a2t(R:Rel X cl ch S m ok a w)(hos:w1.os=w.os)(htp:w1.tape=w.tape)(hout:w1.output=w.output)(hh:w1.heap=w.heap)
  {u:Ty} (ht:u.isEnt=false) {xs:List u.den} {cs:c6H} {e:TypeId} {c:Array Value} {cap n:Nat} (hr:fB w.heap ok u xs cs)
  (hcap:xs.length<=cap) (hfit:cap*u.size<=c.size) (he:c.toList.take (xs.length*u.size)=cs) (hcl:cl<=n) (hch:n<ch) (hn:S (X9+n)= .undef) {f:Nat×Nat} (hz:fzo u c.size f):
  Rel X cl ch (upd S (X9+n) (.barr u xs)) (mO m n (.arr w.heap.size 0 xs.length cap u.size) []) ok a (w1.alloc (.cells c e f)):=by
 have R1:Rel X cl ch S m ok a w1:=R.same hos htp hout hh;have hblk:(w1.alloc (.cells c e f)).heap[w.heap.size]? =some (.cells c e f):=by rw[←hh];exact heap_alloc_new w1 _
 refine R1.new hn hcl hch D5 (by simp[U2,hh]) ⟨_,ax _ _ _ _,?_⟩;refine fB.arrOk (cs:=cs) ht (hr.mono (λ_ _ h=>h) (λb t hb=>?_)) hblk hz hcap o5 (by simpa using he);have:=R.okLt b t hb;show(w1.heap.push (.cells c e f))[b]? =_;rw[hh];exact yT _ _ this
theorem MB(H:FxOk X)(R:Rel X (CB*q) (CB*q+CB) S m ok a w)(hos:w1.os=w.os)(htp:w1.tape=w.tape)(hout:w1.output=w.output)(hh:w1.heap=w.heap)
  {u:Ty} (ht:u.isEnt=false) {xs:List u.den} {cs:c6H} {e:TypeId} {c:Array Value} {cap:Nat} (hr:fB w.heap ok u xs cs)
  (hcap:xs.length<=cap) (hfit:cap*u.size<=c.size) (he:c.toList.take (xs.length*u.size)=cs) {w0:World} {m0:Mp} {ok0:Nat->Ty->Prop} (hm:∀k l,m0 k=some l->m k=some l) (hok:∀b t,ok0 b t->ok b t)
  {f:Nat×Nat} (hz:fzo u c.size f)
  (run:(execOp a.eval o).run X.P w0= .ok (.value (.slice (some ⟨w.heap.size,0,none⟩) xs.length cap)) (w1.alloc (.cells c e f))):
  (vI (O8 q o.dst) (.barr u xs) (dY X.E o.dst (.own (O8 q o.dst) none))).post S (λ_ S' =>jO X (CB*q) (CB*q+CB) o a w0 m0 ok0 S'):=by
 refine EX H λn e1 h1 h2 hn=>?_;rw[←e1];clear e1;generalize CB*q=Z at*;have R' :=a2t R hos htp hout hh ht (e:=e) hr hcap hfit he h1 (by show n<Z+1000000;change n+64<=Z+1000000 at h2;omega) hn hz;refine wJ H R' (λk l h=>?_) hok ⟨_,ax _ _ _ _,rfl⟩ run;by_cases ek:k=n
 .subst ek;have:=R.fresh k h1 hn;have h3:=hm _ _ h;rw[this]at h3;cases h3
 .rw[jK _ _ _ ek];exact hm _ _ h
theorem Sz(R:Rel X cl ch S m ok a w)(hT:Tk X S m ok w T)(hos:w1.os=w.os)(htp:w1.tape=w.tape)(hout:w1.output=w.output)(hh:w1.heap=w.heap)
  {md:M} (hel:md.el=true) {xs:List md.den} {cs:c6H} {Os:List c6I} {e:TypeId} {c:Array Value} {cap n:Nat} (hr:xY w.heap ok md xs cs Os) (hnd:Os.flatten.Nodup) (hO:∀b∈Os.flatten,b∈T)
  (hcap:xs.length<=cap) (hfit:cap*md.size<=c.size) (he:c.toList.take (xs.length*md.size)=cs) (hcl:cl<=n) (hch:n<ch) (hn:S (X9+n)= .undef):
  Rel X cl ch (upd S (X9+n) (.barrs md xs none)) (mO m n (.arr w.heap.size 0 xs.length cap md.size) Os.flatten) ok a (w1.alloc (.cells c e)):=by
 have R1:Rel X cl ch S m ok a w1:=R.same hos htp hout hh;have T1:Tk X S m ok w1 T:=⟨hT.nodup,λb hb=>by rw[hh];exact hT.free b hb⟩;have hblk:(w1.alloc (.cells c e)).heap[w.heap.size]? =some (.cells c e (0,0)):=by rw[←hh];exact heap_alloc_new w1 _
 have hold:∀b,b<w.heap.size->(w1.alloc (.cells c e)).heap[b]? =w.heap[b]?:=λb hb=>by show(w1.heap.push (.cells c e))[b]? =_;rw[hh];exact yT _ _ hb
 refine R1.newK T1 hn hcl hch D5 (by simp[U2,hh]) hnd hO ⟨hel,_,Os,ax _ _ _ _,?_,D5⟩;exact⟨xY.arrs (cs:=cs) (hr.mono (λ_ _ h=>h) (λb t hb=>hold b (R.okLt b t hb)) (λb hb=>hold b (hT.free b (hO b hb)).2.1)) hblk hcap o5 (by simpa using he),trivial⟩
theorem VD(H:FxOk X)(R:Rel X (CB*q) (CB*q+CB) S m ok a w)(hT:Tk X S m ok w T)(hos:w1.os=w.os)(htp:w1.tape=w.tape)(hout:w1.output=w.output)(hh:w1.heap=w.heap)
  {md:M} (hel:md.el=true) {xs:List md.den} {cs:c6H} {Os:List c6I} {e:TypeId} {c:Array Value} {cap:Nat} (hr:xY w.heap ok md xs cs Os) (hnd:Os.flatten.Nodup) (hO:∀b∈Os.flatten,b∈T)
  (hcap:xs.length<=cap) (hfit:cap*md.size<=c.size) (he:c.toList.take (xs.length*md.size)=cs) {w0:World} {m0:Mp} {ok0:Nat->Ty->Prop} (hm:∀k l,m0 k=some l->m k=some l) (hok:∀b t,ok0 b t->ok b t)
  (run:(execOp a.eval o).run X.P w0= .ok (.value (.slice (some ⟨w.heap.size,0,none⟩) xs.length cap)) (w1.alloc (.cells c e))):
  (vI (O8 q o.dst) (.barrs md xs none) (dY X.E o.dst (.own (O8 q o.dst) none))).post S (λ_ S' =>jO X (CB*q) (CB*q+CB) o a w0 m0 ok0 S'):=by
 refine EX H λn e1 h1 h2 hn=>?_;rw[←e1];clear e1;generalize CB*q=Z at*;have R' :=Sz R hT hos htp hout hh (e:=e) hel hr hnd hO hcap hfit he h1 (by show n<Z+1000000;change n+64<=Z+1000000 at h2;omega) hn;refine wJ H R' (λk l h=>?_) hok ⟨_,ax _ _ _ _,rfl⟩ run;by_cases ek:k=n
 .subst ek;have:=R.fresh k h1 hn;have h3:=hm _ _ h;rw[this]at h3;cases h3
 .rw[jK _ _ _ ek];exact hm _ _ h
theorem a0m(H:FxOk X)(R:Rel X (CB*q) (CB*q+CB) S m ok a w)(hT:Tk X S m ok w T)(hos:w1.os=w.os)(htp:w1.tape=w.tape)(hout:w1.output=w.output)(hh:w1.heap=w.heap)
  {md:M} (hel:md.el=true) {xs:List md.den} {cs:c6H} {Os:List c6I} {e:TypeId} {c:Array Value} {cap:Nat} (hr:xY w.heap ok md xs cs Os) (hnd:Os.flatten.Nodup) (hO:∀b∈Os.flatten,b∈T)
  (hcap:xs.length<=cap) (hfit:cap*md.size<=c.size) (he:c.toList.take (xs.length*md.size)=cs) {w0:World} {m0:Mp} {ok0:Nat->Ty->Prop} (hm:∀k l,m0 k=some l->m k=some l) (hok:∀b t,ok0 b t->ok b t)
  (run:(execOp a.eval o).run X.P w0= .ok (.value (.slice (some ⟨w.heap.size,0,none⟩) xs.length cap)) (w1.alloc (.cells c e))):
  (vI (O8 q o.dst) (.barrs md xs none) (.set (X9+(NL+O8 q o.dst)) (.blen (A7 xs) md.size) (dY X.E o.dst (.own (O8 q o.dst) none)))).post S (λ_ S' =>jO X (CB*q) (CB*q+CB) o a w0 m0 ok0 S'):=by
 refine a5X H λn e1 h1 h2 hn=>?_;refine gG ?_;rw[←e1];clear e1;generalize CB*q=Z at*;have R' :=Sz R hT hos htp hout hh (e:=e) hel hr hnd hO hcap hfit he h1 (by show n<Z+1000000;change n+64<=Z+1000000 at h2;omega) hn;refine wJ H (R'.mark (jZ _ _ _)) (λk l h=>?_) hok ⟨_,ax _ _ _ _,rfl⟩ run;by_cases ek:k=n
 .subst ek;have:=R.fresh k h1 hn;have h3:=hm _ _ h;rw[this]at h3;cases h3
 .rw[jK _ _ _ ek];exact hm _ _ h
theorem Zg(H:FxOk X)(R:Rel X (CB*q) (CB*q+CB) S m ok a w){t:TypeId}{l c:Operand}(ho:o.op= .makeSlice t l c):(dJ X.E q o).post S (λ_ S' =>jO X (CB*q) (CB*q+CB) o a w m ok S'):=by
 unfold dJ;simp only[ho];split
 .rename_i md hom;split<;>try trivial
  rename_i e u het;obtain⟨j,z,inf,hu,hj,h1,h2,h3,h4,h5,h6⟩:=zS H het;have hz:=iQ h6;refine dh R λv hv=>?_;split<;>try trivial
  rename_i k n;refine Y6 λhc=>?_;simp only[D6]at hc;obtain⟨⟨hs,hsz⟩,hza⟩:=hc;split<;>try trivial
  rename_i hel;obtain⟨hel,rfl⟩:=hel;refine dM λxs hxs=>?_;have hec:a.eval c=a.eval l:=by
   unfold Wi at hs;split at hs
   .have:=eU hs;subst this;rfl
   .cases hs
  unfold BD at hxs;split at hxs
  .rename_i hh;cases hxs;have e1:=vP hv;have e2:=hec.trans e1;have hms:=M.ty_size hel;have hby:(inf.bytes:Int)*n<=65536*1073741824:=by
    have:inf.bytes*n.toNat<=65536*1073741824:=Nat.mul_le_mul h4 o5;have e:(n.toNat:Int)=n:=o5;rw[←e,←Int.natCast_mul];generalize inf.bytes*n.toNat=p at*;omega
   have hrun:=run_make (P:=X.P) w t e inf z hu h1 h5 k k n n hh.1 (uF _) o5 o5;have hflat:=KL z.cells n.toNat
   have hzs:z.cells.size=md.ty.size:=by simpa using hz
   have hzero:mM w.heap ok md none (md.zero hel) z.cells.toList []:=by
    unfold a5t at hza;rw[het]at hza;simp only at hza;cases hj2:dX X.E.tt e with
    |none=>rw[hj2]at hza;cases hza|some j2=>
     rw[hj2]at hza;simp only at hza;cases hb:Nat.beq j2.zero.length j2.size<;>rw[hb]at hza
     .cases hza
     .obtain⟨inf2,a1,a2,a3,a4,a5⟩:=(H.tt e j2 hj2).info;rw[h1]at a1;cases a1;obtain⟨z2,b1,b2⟩:=a4 (eU hb);rw[h5]at b1;cases b1;exact WP md hel (r:=[]) (Yj (C:=⟨w.heap,ok,m⟩) h6) (by simpa using b2) hza
   refine a0m H R (T:=[]) Tk.nil rfl rfl rfl rfl (cs:=(List.replicate n.toNat z.cells.toList).flatten) (c:=madeCells z.cells (n.toNat*inf.size)) (cap:=n.toNat) (e:=e) hel (xY.rep_all hzero _) D5 D5 D5 (by simp[size_madeCells,h2,hms]) ?_ (λ_ _ h=>h) (λ_ _ h=>h) (w1:=w) ?_
   .rw[h2,←hzs,hflat];rw[W9 (by simp[List.length_flatten,hzs,hms])]
   .simp[execOp,ho,e1,e2,hrun]
  .cases hxs
 split<;>try trivial
 rename_i e u het;obtain⟨j,z,inf,hu,hj,h1,h2,h3,h4,h5,h6⟩:=zS H het;have hz:=iQ h6;have key:∀{k k' :IntKind} {n n' :Int},a.eval l= .int k n->a.eval c= .int k' n' ->0<=n->n<=n' ->n' <=1073741824->
   (vI (O8 q o.dst) (.barr u (List.replicate n.toNat u.zero)) (dY X.E o.dst (.own (O8 q o.dst) none))).post S (λ_ S' =>jO X (CB*q) (CB*q+CB) o a w m ok S'):=λ{k k' n n'} e1 e2 g0 g1 g2=>by
  have hby:(inf.bytes:Int)*n' <=65536*1073741824:=by have:inf.bytes*n'.toNat<=65536*1073741824:=Nat.mul_le_mul h4 o5;have e:(n'.toNat:Int)=n' :=o5;rw[←e,←Int.natCast_mul];generalize inf.bytes*n'.toNat=p at*;omega
  have hrun:=run_make (P:=X.P) w t e inf z hu h1 h5 k k' n n' g0 g1 o5 o5;have hflat:=KL z.cells n'.toNat
  have hzs:z.cells.size=u.size:=by simpa using hz
  refine MB H R rfl rfl rfl rfl (IR het) (cs:=(List.replicate n.toNat z.cells.toList).flatten) (c:=madeCells z.cells (n'.toNat*inf.size)) (cap:=n'.toNat) (e:=e) (fB.rep_all (Yj (C:=⟨w.heap,ok,m⟩) h6) _) E5 (by simp[size_madeCells,h2]) ?_ (λ_ _ h=>h) (λ_ _ h=>h) (w1:=w) (.inl rfl) ?_
  .rw[h2,←hzs,hflat];have:n'.toNat=n.toNat+(n'.toNat -n.toNat):=o5;rw[this,←List.replicate_append_replicate,kQ,aC (by simp[List.length_flatten]),W9 (by simp[List.length_flatten])]
  .simp[execOp,ho,e1,e2,hrun]
 refine dh R λv hv=>?_;split<;>try trivial
 rename_i k n;cases hs:Wi l c
 .simp only[cond_false];refine dh R λv' hv' =>?_;split<;>try trivial
  rename_i k' n';refine⟨λhr=>dM λxs hxs=>?_,λ_=>trivial⟩;have hr' :=of_decide_eq_true (show decide (0<=n/\n<=n' /\n' <=1073741824)=true from hr);unfold BD at hxs;split at hxs
  .cases hxs;exact key (vP hv) (vP hv') hr'.1 hr'.2.1 hr'.2.2
  .cases hxs
 .simp only[cond_true];refine dM λxs hxs=>?_;have hec:a.eval c=a.eval l:=by
   unfold Wi at hs;split at hs
   .have:=eU hs;subst this;rfl
   .cases hs
  unfold BD at hxs;split at hxs
  .rename_i hh;cases hxs;exact key (vP hv) (hec.trans (vP hv)) hh.1 (uF _) hh.2
  .cases hxs
end
end Go.GP
namespace Go.GP
theorem Ih:∀(vs:c6H) (k off:Nat) (cs:Array Value),off+k+vs.length<=cs.size->
  (vs.zipIdx k).foldl (λcs (x:Value×Nat)=>cs.setIfInBounds (off+x.2) x.1) cs=(dA (off+k) vs cs.toList).toArray
 |[],k,off,cs,h=>by simp[dA]|v::vs,k,off,cs,h=>by
  simp only[List.zipIdx_cons,dK];rw[Ih vs (k+1) off (cs.setIfInBounds (off+k) v) (by simp only[F5]at h;rw[Array.size_setIfInBounds];omega)];congr 1;simp only[F5]at h;have hsz:cs.toList.length=cs.size:=rfl;apply bU;intro i;rw[uk (by rw[mZ,List.length_set];omega),uk (by rw[F5];omega)];simp only[mZ,F5,O6];by_cases h1:i<off+k
  .rw[if_pos (show i<off+(k+1) by omega),if_pos h1,if_neg (show ¬off+k=i by omega)]
  .rw[if_neg h1];by_cases h2:i=off+k
   .subst h2;rw[if_pos (show off+k<off+(k+1) by omega),if_pos rfl,if_pos (show off+k<cs.toList.length by omega),if_pos (show off+k<off+k+(vs.length+1) by omega)];simp
   .rw[if_neg (show ¬i<off+(k+1) by omega)];by_cases h3:i<off+(k+1)+vs.length
    .rw[if_pos h3,if_pos (show i<off+k+(vs.length+1) by omega)];rw[show i -(off+k)=(i -(off+(k+1)))+1 by omega];simp
    .rw[if_neg h3,if_neg (show ¬i<off+k+(vs.length+1) by omega),if_neg (show ¬off+k=i by omega)]
theorem g_(v:Value)(off:Nat)(cs:Array Value)(h:off+v.cells.size<=cs.size):
  v.cells.zipIdx.foldl (λcs (c,j)=>cs.setIfInBounds (off+j) c) cs=(dA off v.cells.toList cs.toList).toArray:=by
 have:=Ih v.cells.toList 0 off cs (by simpa using h);rw[aH]at this;rw[←this,←Array.foldl_toList,Array.toList_zipIdx]
theorem QF{place:Nat->Option (Nat×Nat)}{cs:Array Value}{i off size:Nat}{v:Value}{rest:List (Nat×Value)}(hp:place i=some (off,size))(hs:v.cells.size=size)(hf:off+v.cells.size<=cs.size):
  Instr.fill place cs ((i,v)::rest)=Instr.fill place (dA off v.cells.toList cs.toList).toArray rest:=by
 have h2:¬(v.cells.size≠size\/off+v.cells.size>cs.size):=o5;simp only[Instr.fill,hp];rw[if_neg (by simpa using h2),g_ v off cs hf]
theorem Vb{size:Nat} :∀(vs:c6H) (n:Nat) (cs:Array Value),(∀v∈vs,v.cells.size=size)->cs.size=(n+vs.length)*size->
  Instr.fill (λi=>some (i*size,size)) cs ((List.range' n vs.length).zip vs)=some (cs.toList.take (n*size)++vs.flatMap (λv=>v.cells.toList)).toArray
 |[],n,cs,_,h=>by simp only[aB,aH]at h;have:cs.toList.take (n*size)=cs.toList:=W9 (by rw[←h];exact D7 _);simp[Instr.fill,this]|v::vs,n,cs,hv,h=>by
  have h1:=hv v D5;simp only[F5]at h;have e1:(n+(vs.length+1))*size=n*size+size+vs.length*size:=by rw[N7,N7];omega
  simp only[F5,jh,iE];rw[QF (off:=n*size) (size:=size) rfl h1 o5];rw[Vb vs (n+1) _ (λu hu=>hv u (by simp[hu])) (by have:=yZ (p:=n*size) (us:=v.cells.toList) (L:=cs.toList) E5;simp only[aK,this];rw[N7,N7];simp;omega)]
  congr 2;simp only[Jb];rw[←E8];congr 1;unfold dA;have hsz:cs.toList.length=cs.size:=rfl;have h1' :v.cells.toList.length=size:=h1;rw[N7,aY,aC (by rw[I8,aX,h1'];omega)];rw[W9 (by rw[I8,aX,h1'];omega)]
theorem Lp{P:Program}{w:World}{t e:TypeId}{inf:TypeInfo}{z:Value}{n sz:Nat}{parts:Array (Nat×Value)}{F:Array Value}(hu:P.underlying t=some (.slice e))(hi:P.info? e=some inf)(hs:inf.size=sz)(hz:inf.zero=some z)
  (hle:n*sz<=16777216) (hf:∀cs:Array Value,cs.size=n*sz->Instr.fill (λi=>some (i*sz,sz)) cs parts.toList=some F):
  (Instr.buildSlice t n parts).run P w= .ok (.slice (some ⟨w.heap.size,0,none⟩) n n) (w.alloc (.cells F e)):=by
 subst hs;have hsz:(sizeOf e).run P w= .ok inf.size w:=by simp[sizeOf,typeInfo,hi]
 have hnle:¬(n*inf.size>2^24):=by show ¬(n*inf.size>16777216);omega
 unfold Instr.buildSlice;simp only[J5,run_underlying hu,L6,hsz,if_neg hnle];generalize n*inf.size=N at*;have fin:∀zero:Array Value,((match Instr.fill (λi=>some (i*inf.size,inf.size)) ((Array.range N).map (zero[·% zero.size]!)) parts.toList with
   |some cells=>(do pure (Value.slice (some (←newRow e cells)) n n):Sem Value)
   |_=>stuck "buildSlice: a part of the wrong size"):Sem Value).run P w= .ok (.slice (some ⟨w.heap.size,0,none⟩) n n) (w.alloc (.cells F e)):=λzero=>by
  rw[hf _ D5];simp[newRow]
 by_cases hn:N=0
 .rw[if_pos hn];simp only[J5,Y9,L6];exact fin _
 .rw[if_neg hn];have hzv:(zeroValue e).run P w= .ok z w:=by simp[zeroValue,typeInfo,hi,hz]
  simp only[J5,hzv,Y9,L6];exact fin _
variable {t:TypeId}
section
variable {X:Fx} {cl ch:Nat} {S:Sm} {m:Mp} {ok:Nat->Ty->Prop} {a:Act} {w:World} {o:Oper}
theorem Jy{α:Type}{Q:α->Sm->Prop}(u:Ty):∀(is:c6I) (vs:List V) {us:c6H} (n k:Nat) {K:List u.den->Cmd α} {S:Sm} {ok:Nat->Ty->Prop} (R:Rel X cl ch S m ok a w) (hl:is.length=us.length)
  (hv:gZ ⟨w.heap,ok,m⟩ vs us)
  (hK:∀S' ok' xs,Rel X cl ch S' m ok' a w->(∀b t,ok b t->ok' b t)->us.length=k->is=List.range' n us.length->(∀v∈us,v.cells.size=u.size)->xs.length=us.length->fB w.heap ok' u xs (us.flatMap λv=>v.cells.toList)->(K xs).post S' Q),
  (zF u (is.zip vs) n k K).post S Q
 |[],vs,us,n,k,K,S,ok,R,hl,hv,hK=>by
  have:us=[]:=by cases us<;>simp at hl ⊢
  subst this;simp only[qB];cases k with
  |zero=>unfold zF;exact hK S ok [] R (λ_ _ h=>h) rfl rfl D5 rfl fB.nil|succ k=>unfold zF;trivial
 |i::is,vs,us,n,k,K,S,ok,R,hl,hv,hK=>by
  cases us with
  |nil=>simp at hl|cons x us=>
  cases vs with
  |nil=>simp[gZ]at hv|cons v vs=>
  obtain⟨x',r,e,h1,h2⟩:=hv;simp only[I7]at e;obtain⟨rfl,rfl⟩:=e;simp only[iE];cases k with
  |zero=>unfold zF;trivial|succ k=>
  unfold zF;refine bP λhi=>uT h1 λcs hcs=>?_;have hi' :=eU hi;subst hi';refine IC (T:=[]) u R Tk.nil hcs λS1 ok1 y q ws ws' R1 T1 k1 s1 e1 g1 l1=>?_;cases q with
  |cons _ _=>trivial|nil=>
  simp only[gB]at l1;subst l1;simp only[G7]at e1;refine Jy u is vs (i+1) k R1 (by simpa using hl) (Ld k1 h2) λS2 ok2 ys R2 k2 c1 c2 c3 c4 c5=>?_;refine hK S2 ok2 (y::ys) R2 (λb t h=>k2 b t (k1 b t h)) (by simp[c1]) ?_ ?_ (by simp[c4]) ?_
  .simp[jh,c2]
  .intro z hz;rcases D8.1 hz with rfl|hz
   .have:=iQ g1;rw[←e1]at this;simpa using this
   .exact c3 z hz
  .have:=(fB.one (gX k2 (λ_ _ _=>rfl) g1)).append c5;simpa[e1]using this
theorem Hy{α:Type}{Q:α->Sm->Prop}(md:M):∀(is:c6I) (vs:List V) {us:c6H} (n k:Nat) {K:List md.den->Cmd α} {S:Sm} {ok:Nat->Ty->Prop} {T:c6I} (R:Rel X cl ch S m ok a w) (hT:Tk X S m ok w T) (hl:is.length=us.length)
  (hv:gZ ⟨w.heap,ok,m⟩ vs us)
  (hK:∀S' ok' xs Os,Rel X cl ch S' m ok' a w->Tk X S' m ok' w (T++Os.flatten)->(∀b t,ok b t->ok' b t)->us.length=k->is=List.range' n us.length->(∀v∈us,v.cells.size=md.size)->xs.length=us.length->xY w.heap ok' md xs (us.flatMap λv=>v.cells.toList) Os->(K xs).post S' Q),
  (xh md (is.zip vs) n k K).post S Q
 |[],vs,us,n,k,K,S,ok,T,R,hT,hl,hv,hK=>by
  have:us=[]:=by cases us<;>simp at hl ⊢
  subst this;simp only[qB];cases k with
  |zero=>unfold xh;exact hK S ok [] [] R (by simpa using hT) (λ_ _ h=>h) rfl rfl D5 rfl xY.nil|succ k=>unfold xh;trivial
 |i::is,vs,us,n,k,K,S,ok,T,R,hT,hl,hv,hK=>by
  cases us with
  |nil=>simp at hl|cons x us=>
  cases vs with
  |nil=>simp[gZ]at hv|cons v vs=>
  obtain⟨x',r,e,h1,h2⟩:=hv;simp only[I7]at e;obtain⟨rfl,rfl⟩:=e;simp only[iE];cases k with
  |zero=>unfold xh;trivial|succ k=>
  unfold xh;refine Y6 λhi=>uT h1 λcs hcs=>?_;have hi' :=eU hi;subst hi';refine EM md R hT hcs λS1 ok1 y q ws ws' O R1 T1 k1 s1 e1 g1 l1=>?_;cases q with
  |cons _ _=>trivial|nil=>
  simp only[gB]at l1;subst l1;simp only[G7]at e1;refine Hy md is vs (i+1) k R1 T1 (by simpa using hl) (Ld k1 h2) λS2 ok2 ys Os R2 T2 k2 c1 c2 c3 c4 c5=>?_;refine hK S2 ok2 (y::ys) (O::Os) R2 (by simpa[E8]using T2) (λb t h=>k2 b t (k1 b t h)) (by simp[c1]) ?_ ?_ (by simp[c4]) ?_
  .simp[jh,c2]
  .intro z hz;rcases D8.1 hz with rfl|hz
   .have:=aZ g1;rw[←e1]at this;simpa using this
   .exact c3 z hz
  .have:=(xY.one (iK k2 (λ_ _ _=>rfl) (λ_ _=>rfl) g1)).append c5;simpa[e1]using this
theorem Xe(H:FxOk X){q:Nat}(R:Rel X (CB*q) (CB*q+CB) S m ok a w){n:Nat}{ps:Array (Nat×Operand)}(ho:o.op= .buildSlice t n ps):(dJ X.E q o).post S (λ_ S' =>jO X (CB*q) (CB*q+CB) o a w m ok S'):=by
 unfold dJ;simp only[ho];split<;>try trivial
 rename_i e u het;obtain⟨j,z,inf,hu,hj,h1,h2,h3,h4,h5,h6⟩:=zS H het;have hz:=iQ h6;refine bP λhle=>lZ R _ λvs hvs=>?_;have hle' :n*u.size<=16777216:=S9 hle;split
 rotate_left
 .rename_i md hom;refine Y6 λhc=>?_;simp only[D6]at hc;have hms:=eU hc.1;refine Hy md _ vs 0 n (T:=[]) R Tk.nil D5 hvs λS' ok' xs Os R' T' k c1 c2 c3 c4 c5=>?_;rw[J4]at T';simp only[L8]at c1 c2;have hparts:(ps.map λ(i,x)=>(i,a.eval x)).toList=(List.range' 0 ((ps.toList.map (·.2)).map a.eval).length).zip ((ps.toList.map (·.2)).map a.eval):=by
   simp only[L8];rw[←c2];simp[List.zip_map',List.zip_map,nz,qy]
  have hxl:xs.length=n:=by rw[c4];simpa using c1
  have hflat:=c5.1;have hcl:((ps.toList.map (·.2)).map a.eval).length=n:=by simpa using c1
  have hfill:∀cs:Array Value,cs.size=n*u.size->Instr.fill (λi=>some (i*u.size,u.size)) cs (ps.map λ(i,x)=>(i,a.eval x)).toList=some ((((ps.toList.map (·.2)).map a.eval).flatMap λv=>v.cells.toList)).toArray:=λcs hcs=>by rw[hparts,Vb _ 0 cs (by rw[←hms];exact c3) (by rw[hcl,hcs];simp)];simp
  refine VD (w1:=w) (e:=e) (cap:=xs.length) H R' T' rfl rfl rfl rfl hc.2 c5 T'.nodup (λ_ h=>h) (D7 _) (by rw[←hflat];simp) (c:=((((ps.toList.map (·.2)).map a.eval).flatMap λv=>v.cells.toList)).toArray) (W9 (by rw[hflat];exact D7 _)) (λ_ _ h=>h) k ?_;have hrun:=Lp (w:=w) (n:=n) hu h1 h2 h5 hle' hfill;simp only[execOp,ho,J5,hrun,L6,Y9,hxl]
 refine Jy u _ vs 0 n R D5 hvs λS' ok' xs R' k c1 c2 c3 c4 c5=>?_;have hsz:(sizeOf e).run X.P w= .ok u.size w:=by simp[sizeOf,typeInfo,h1,h2]
 simp only[L8]at c1 c2;have hparts:(ps.map λ(i,x)=>(i,a.eval x)).toList=(List.range' 0 ((ps.toList.map (·.2)).map a.eval).length).zip ((ps.toList.map (·.2)).map a.eval):=by simp only[L8];rw[←c2];simp[List.zip_map',List.zip_map,nz,qy]
 have hxl:xs.length=n:=by rw[c4];simpa using c1
 have hflat:=c5.1;have hcl:((ps.toList.map (·.2)).map a.eval).length=n:=by simpa using c1
 have hfill:∀cs:Array Value,cs.size=n*u.size->Instr.fill (λi=>some (i*u.size,u.size)) cs (ps.map λ(i,x)=>(i,a.eval x)).toList=some ((((ps.toList.map (·.2)).map a.eval).flatMap λv=>v.cells.toList)).toArray:=λcs hcs=>by rw[hparts,Vb _ 0 cs c3 (by rw[hcl,hcs];simp)];simp
 refine MB (w1:=w) (e:=e) (cap:=xs.length) H R' rfl rfl rfl rfl (IR het) c5 (D7 _) (by rw[←hflat];simp) (c:=((((ps.toList.map (·.2)).map a.eval).flatMap λv=>v.cells.toList)).toArray) (W9 (by rw[hflat];exact D7 _)) (λ_ _ h=>h) k (.inl rfl) ?_;have hrun:=Lp (w:=w) (n:=n) hu h1 h2 h5 hle' hfill;simp only[execOp,ho,J5,hrun,L6,Y9,hxl]
theorem Ut{E:Env} :∀{fs:List (Nat×Nat)},a3R E fs=true->∀p∈fs,∃i,dX E.tt p.1=some i
 |[],_,p,hp=>by cases hp|(t,o)::r,h,p,hp=>by
  unfold a3R at h;cases hi:dX E.tt t with
  |none=>simp[hi]at h|some i=>
   simp only[hi]at h;rcases D8.1 hp with rfl|hp
   .exact⟨i,hi⟩
   .exact Ut h p hp
def PT(P:Program)(fields:Array Field):List (Nat×Nat):=fields.toList.map λf=>(f.offset,((P.info? f.type).map (·.size)).getD 0)
theorem SK{P:Program} :∀(fs:List Field),(∀f∈fs,∃i,P.info? f.type=some i)->
  fs.mapM (λf=>(P.info? f.type).map λi=>(f.offset,i.size))=some (fs.map λf=>(f.offset,((P.info? f.type).map (·.size)).getD 0))
 |[],_=>by simp|f::fs,h=>by obtain⟨i,hi⟩:=h f D5;rw[List.mapM_cons,SK fs (λg hg=>h g (by simp[hg]))];simp[hi]
theorem IB{α:Type}{Q:α->Sm->Prop}(H:FxOk X){t:Nat}{fields:Array Field}(hu:X.P.underlying t=some (.struct fields)):
  ∀(is:c6I) (vs:List V) {us:c6H} {cs:List V} {arr:Array Value} {K:List V->Cmd α} (hl:is.length=us.length) (hv:gZ ⟨w.heap,ok,m⟩ vs us) (hc:gB ⟨w.heap,ok,m⟩ cs arr.toList)
  (hK:∀cs' arr',Instr.fill ((PT X.P fields).toArray[·]?) arr (is.zip us)=some arr' ->gB ⟨w.heap,ok,m⟩ cs' arr'.toList->(K cs').post S Q),(Dt X.E t (is.zip vs) cs K).post S Q
 |[],vs,us,cs,arr,K,hl,hv,hc,hK=>by simp only[qB];unfold Dt;exact hK cs arr (by simp[Instr.fill]) hc|i::is,vs,us,cs,arr,K,hl,hv,hc,hK=>by
  cases us with
  |nil=>simp at hl|cons x us=>
  cases vs with
  |nil=>simp[gZ]at hv|cons v vs=>
  obtain⟨x',r,e,h1,h2⟩:=hv;simp only[I7]at e;obtain⟨rfl,rfl⟩:=e;simp only[iE];unfold Dt;split<;>try trivial
  rename_i off n ag hf;obtain⟨fields',fld,j,hu',hfl,hoff,hj,hn,hn0,_⟩:=GM H hf;rw[hu]at hu';cases hu';obtain⟨inf,i1,i2,_⟩:=hj.info;refine uT h1 λws hws=>bP λhb=>Cf off ws cs λhle=>?_;have hb' :=eU hb;have hL:=kJ hc;have hLw:=kJ hws;have hxs:x.cells.size=n:=by simp at hLw;omega
  have hpl:((PT X.P fields).toArray[i]?)=some (off,n):=by
   have hfl' :fields.toList[i]? =some fld:=by simpa using hfl
   simp[PT,hfl,i1,i2,hoff,hn]
  refine IB H hu is vs (arr:=(dA off x.cells.toList arr.toList).toArray) (by simpa using hl) h2 (by simpa using Dp hws hc) λcs' arr' hfill hrel=>?_;refine hK cs' arr' ?_ hrel;rw[iE,QF (place:=λk=>(PT X.P fields).toArray[k]?) (cs:=arr) hpl hxs (by simp at hL;omega)];exact hfill
theorem Na{α:Type}{Q:α->Sm->Prop}{sz:Nat} :
  ∀(is:c6I) (vs:List V) {us:c6H} {cs:List V} {arr:Array Value} {K:List V->Cmd α} (hl:is.length=us.length) (hv:gZ ⟨w.heap,ok,m⟩ vs us) (hc:gB ⟨w.heap,ok,m⟩ cs arr.toList)
  (hK:∀cs' arr',Instr.fill (λi=>some (i*sz,sz)) arr (is.zip us)=some arr' ->gB ⟨w.heap,ok,m⟩ cs' arr'.toList->(K cs').post S Q),(JW sz (is.zip vs) cs K).post S Q
 |[],vs,us,cs,arr,K,hl,hv,hc,hK=>by simp only[qB];unfold JW;exact hK cs arr (by simp[Instr.fill]) hc|i::is,vs,us,cs,arr,K,hl,hv,hc,hK=>by
  cases us with
  |nil=>simp at hl|cons x us=>
  cases vs with
  |nil=>simp[gZ]at hv|cons v vs=>
  obtain⟨x',r,e,h1,h2⟩:=hv;simp only[I7]at e;obtain⟨rfl,rfl⟩:=e;simp only[iE];unfold JW;refine uT h1 λws hws=>bP λhb=>Cf (i*sz) ws cs λhle=>?_;have hb' :=eU hb;have hL:=kJ hc;have hLw:=kJ hws;have hxs:x.cells.size=sz:=by simp at hLw;omega
  refine Na is vs (arr:=(dA (i*sz) x.cells.toList arr.toList).toArray) (by simpa using hl) h2 (by simpa using Dp hws hc) λcs' arr' hfill hrel=>?_;refine hK cs' arr' ?_ hrel;rw[iE,QF (place:=λk=>some (k*sz,sz)) (cs:=arr) rfl hxs (by simp at hL;omega)];exact hfill
theorem a7T(H:FxOk X)(R:Rel X cl ch S m ok a w){ps:Array (Nat×Operand)}{q:Nat}(ho:o.op= .build t ps):(dJ X.E q o).post S (λ_ S' =>jO X cl ch o a w m ok S'):=by
 unfold dJ;simp only[ho];refine jY H λi hi=>?_;split<;>try trivial
 case h_2=>
  rename_i n e htd';have htd:=hi.td;rw[htd']at htd;refine jY H λj hj=>bP λhb=>lZ R _ λvs hvs=>?_;obtain⟨inf,h1,h2,h3,h4,h5⟩:=hi.info;obtain⟨ine,e1,e2,_⟩:=hj.info;obtain⟨z,hz1,hz2⟩:=h4 (eU hb);refine Na _ vs (us:=(ps.toList.map (·.2)).map a.eval) (arr:=z.cells) D5 hvs (Ot hz2) λcs' arr' hfill hrel=>?_;refine aW H R (v:=.agg cs') (x:=.agg arr') ⟨arr',rfl,hrel⟩ ?_;have hparts:(ps.map λ(i,x)=>(i,a.eval x)).toList=(ps.toList.map (·.1)).zip ((ps.toList.map (·.2)).map a.eval):=by simp[List.zip_map',List.zip_map,nz,qy]
  have hbuilt:X.P.built t (ps.map λ(i,x)=>(i,a.eval x)).toList=some arr' :=by unfold Program.built;simp only[h1,show X.P.underlying t=some (.array n e)from htd,hz1,e1];rw[hparts,e2];exact hfill
  have:=run_build (P:=X.P) w t _ arr' hbuilt;simp only[execOp,ho,J5,this,L6,Y9]
 rename_i fs htd';have htd:=hi.td;rw[htd']at htd;obtain⟨fields,hu,hfs⟩:=htd;refine bP λhb=>lZ R _ λvs hvs=>?_;simp only[D6]at hb;obtain⟨inf,h1,h2,h3,h4,h5⟩:=hi.info;obtain⟨z,hz1,hz2⟩:=h4 (eU hb.2);refine IB H hu _ vs (us:=(ps.toList.map (·.2)).map a.eval) (arr:=z.cells) D5 hvs (Ot hz2) λcs' arr' hfill hrel=>?_;refine aW H R (v:=.agg cs') (x:=.agg arr') ⟨arr',rfl,hrel⟩ ?_;have hparts:(ps.map λ(i,x)=>(i,a.eval x)).toList=(ps.toList.map (·.1)).zip ((ps.toList.map (·.2)).map a.eval):=by simp[List.zip_map',List.zip_map,nz,qy]
 have hmap:=SK (P:=X.P) fields.toList (λf hf=>by obtain⟨i',hi'⟩:=Ut hb.1 (f.type,f.offset) (by rw[←hfs];exact ji.2 ⟨f,hf,rfl⟩);obtain⟨inf',q1,_⟩:=(H.tt _ _ hi').info;exact⟨inf',q1⟩)
 have hbuilt:X.P.built t (ps.map λ(i,x)=>(i,a.eval x)).toList=some arr' :=by unfold Program.built;simp only[h1,hu,hz1,hmap];rw[hparts];exact hfill
 have:=run_build (P:=X.P) w t _ arr' hbuilt;simp only[execOp,ho,J5,this,L6,Y9]
end
end Go.GP
namespace Go.GP
def Es(h:Array Obj)(sz:Nat)(v:Value)(n:Nat)(es:c6H):Prop:=
 es.length=n*sz/\((n=0/\∃ad cap,v= .slice ad 0 cap)\/(∃blk off cap,v= .slice (some ⟨blk,off,none⟩) n cap/\0<n/\bQ h blk off (n*sz)=some es)\/∃b:ByteArray,v= .string b/\n=b.size/\es=Lib.strCells b)
variable {v:Value}{h:Array Obj}
theorem b2v{ok:Nat->Ty->Prop}{t:Ty}{ys:List t.den}(ht:t.isEnt=false)(hr:rep h ok (.sl t) ys [v]):∃es,Es h t.size v ys.length es/\fB h ok t ys es:=by
 obtain⟨ad,cap,e,hc,hel⟩:=(zM ht).1 hr;simp only[I7,and_true]at e;subst e;rcases jr ys.length with h0|h0
 .have:ys=[]:=bf.1 h0;subst this;exact⟨[],⟨D5,.inl ⟨rfl,ad,cap,rfl⟩⟩,fB.nil⟩
 .obtain⟨y,hy⟩:∃y,ys[ys.length -1]? =some y:=by
   refine⟨ys[ys.length -1]'o5,?_⟩;exact lF _
  obtain⟨blk,off,es,rfl,hok,he,hr⟩:=hel _ y hy;obtain⟨c,T,f,hb,hn,_⟩:=qO he;have hle:off+ys.length*t.size<=c.size:=by
   have:ys.length*t.size=(ys.length -1)*t.size+t.size:=by
    conv=>lhs;rw[show ys.length=(ys.length -1)+1 by omega,N7,aY]
   omega
  refine⟨(c.toList.drop off).take (ys.length*t.size),⟨by simp;omega,.inr (.inl ⟨blk,off,cap,rfl,h0,jA hb _ _ hle⟩)⟩,by simp;omega,λi x hi=>?_⟩;obtain⟨blk',off',es',ha',hok',he',hr'⟩:=hel i x hi;simp only[G8,iM,and_true]at ha';obtain⟨rfl,rfl⟩:=ha';obtain⟨c',T',f',hb',hn',rfl⟩:=qO he';rw[hb]at hb';cases hb';have hlt:=(bg.1 hi).1;have hle2:(i+1)*t.size<=ys.length*t.size:=J3 _ o5;rw[N7,aY]at hle2;rw[jf,ig,af,iJ o5];exact hr'
theorem WM{C:Cx}{t:Ty}{xs:List t.den}{l:Loc}(ht:t.isEnt=false)(ha:arrOk C t xs l)(hv:l.view none v):∃es,Es C.h t.size v xs.length es/\fB C.h C.ok t xs es:=by
 cases l with
 |st b=>cases ha|mp b=>exact absurd ha.1 (by simp[ht])|nil=>obtain⟨ha,_⟩:=ha;subst ha;simp only[Loc.view]at hv;subst hv;exact⟨[],⟨D5,.inl ⟨rfl,none,0,rfl⟩⟩,fB.nil⟩
 |arr blk off len cap sz=>
  obtain⟨c,T,f,hb,hz,rfl,rfl,hc,hf,hr⟩:=Xq ha;simp only[Loc.view]at hv;subst hv;have hle:xs.length*t.size<=cap*t.size:=J3 _ hc;refine⟨_,⟨hr.1,?_⟩,hr⟩;rcases jr xs.length with h0|h0
  .exact .inl ⟨h0,_,cap,by rw[h0]⟩
  .exact .inr (.inl ⟨blk,off,cap,rfl,h0,jA hb _ _ o5⟩)
variable {es:c6H}{P:Program}
theorem wY{w w' :World}{sz n:Nat}(h:Es w.heap sz v n es)(hh:w'.heap=w.heap):(Builtin.firstCells sz n v).run P w' = .ok es.toArray w' :=by
 obtain⟨hl,h⟩:=h;rcases h with⟨rfl,ad,cap,rfl⟩|⟨blk,off,cap,rfl,hn,hc⟩|⟨b,rfl,rfl,rfl⟩
 .have:es=[]:=bf.1 (by simpa using hl);subst this;cases ad with
  |none=>simp[Builtin.firstCells]|some b=>have:=run_loadCells_list (P:=P) w' b [] (λj v h=>by simp at h);simp[Builtin.firstCells];simpa using this
 .refine run_firstCells_some w' sz n _ _ cap es hl λj u hu=>?_;rw[iI];exact rZ (w:=w') (by rw[hh];exact hc) hu
 .exact Lib.run_firstCells_string w' sz b
theorem Es.lenOf{sz n:Nat}(hs:Es h sz v n es)(w:World):(Builtin.lenOf v).run P w= .ok n w:=by rcases hs.2 with⟨rfl,ad,cap,rfl⟩|⟨blk,off,cap,rfl,hn,hc⟩|⟨b,rfl,rfl,rfl⟩<;>rfl
section runs
variable {P:Program} {w:World} {t ty e:TypeId} {i:TypeInfo} {z:Value}
theorem NE(ht:P.underlying t=some (.slice e))(hi:P.info? e=some i){blk off len cap n:Nat}{c:Array Value}{T:TypeId}{f:Nat×Nat}(hb:w.heap[blk]? =some (.cells c T f))(hz:f=(0,0)\/f=(c.size,c.size+1))(hv:Es w.heap i.size v n es)
  (h1:∀u∈es,u.oneCell' =true) (hroom:len+n<=cap) (hfit:off+cap*i.size<=c.size):
  (Builtin.append_ #[t,t] ty #[.slice (some ⟨blk,off,none⟩) len cap,v]).run P w= .ok (.slice (some ⟨blk,off,none⟩) (len+n) cap) (w.setRow blk (dA (off+len*i.size) es c.toList).toArray):=by
 have hle:(len+n)*i.size<=cap*i.size:=J3 _ hroom;rw[N7,←hv.1]at hle;have hf:=wY (P:=P) (w' :=w) hv rfl;have hst:=CJ (P:=P) blk (off+len*i.size) T es 0 c f w hb hz o5 h1;simp only[aH]at hst;simp[Builtin.append_,run_underlying ht,sizeOf,typeInfo,hi,hv.lenOf,hroom,hf,iI,hst,dA]
theorem JL(ht:P.underlying t=some (.slice e))(hi:P.info? e=some i)(hv:Es w.heap i.size v 0 es):
  (Builtin.append_ #[t,t] ty #[.slice none 0 0,v]).run P w= .ok (.slice none 0 0) w:=by
 have hf:=wY (P:=P) (w' :=w) hv rfl;simp[Builtin.append_,run_underlying ht,sizeOf,typeInfo,hi,hv.lenOf,hf]
theorem Lm(ht:P.underlying t=some (.slice e))(hi:P.info? e=some i)(hz:i.zero=some z)(hby:i.bytes<=65536){s v:Value}{sAd:Option Addr}{len cap n:Nat}{olds es:c6H}(hse:s= .slice sAd len cap)
  (hs:Es w.heap i.size s len olds) (hv:Es w.heap i.size v n es) (hg:cap<len+n) (hmax:len+n<=1073741824):
  (Builtin.append_ #[t,t] ty #[s,v]).run P w= .ok (.slice (some ⟨w.heap.size,0,none⟩) (len+n) (grownCap w (len+n) cap e))
   (w.drew.alloc (.cells ((olds++es).toArray++Builtin.zeroCells z.cells (grownCap w (len+n) cap e -(len+n))) e)):=by
 subst hse;have hn:¬(len+n<=cap):=o5;have h63' :¬(9223372036854775807<((len:Int)+(n:Int))):=o5;have hb2:(len+n)*i.bytes<=1073741824*65536:=Nat.mul_le_mul hmax hby;have h48' :¬(281474976710656<Builtin.nextslicecap (len+n) cap*i.bytes):=by have:=growslice_fits hg (show(len+n)*i.bytes<=140737488355328 by omega);omega
 have hf:=wY (P:=P) (w' :=w.drew) hv rfl;have hfo:=wY (P:=P) (w' :=w.drew) hs rfl;simp[Builtin.append_,run_underlying ht,sizeOf,typeInfo,zeroValue,hi,hz,hv.lenOf,hn,h63',h48',Question.forced,hf,hfo,newRow,grownCap];generalize Builtin.zeroCells _ _=Z;congr 2;apply jM;simp
end runs
variable {q:Nat}{t:TypeId}{e:TypeId}{u:Ty}{z:Value}{inf:TypeInfo}{α:Type}{md:M}
section
variable {X:Fx} {cl ch:Nat} {S:Sm} {m:Mp} {ok:Nat->Ty->Prop} {a:Act} {w:World} {o:Oper}
theorem Xi{Q:α->Sm->Prop}(R:Rel X cl ch S m ok a w)(ht:u.isEnt=false){y:V}{vy:Value}{K:List u.den->Cmd α}(hy:lQ ⟨w.heap,ok,m⟩ y vy)
  (hK:∀ys es,Es w.heap u.size vy ys.length es->fB w.heap ok u ys es->(K ys).post S Q):(a6k u y K).post S Q:=by
 unfold a6k;split<;>try trivial
 .have hy' :vy= .slice none 0 0:=hy;subst hy';simp only[ht,cond_false];exact hK [] [] ⟨D5,.inl ⟨rfl,none,0,rfl⟩⟩ fB.nil
 .obtain⟨ad,c,rfl,_⟩:=(show ∃a c,vy=Value.slice a 0 c/\a.isNone=_ from hy);simp only[ht,cond_false];exact hK [] [] ⟨D5,.inl ⟨rfl,ad,c,rfl⟩⟩ fB.nil
 .rename_i t' xs;refine jy λe=>?_;subst e;obtain⟨es,h1,h2⟩:=b2v ht (show rep w.heap ok (.sl t') xs [vy]from hy);exact hK xs es h1 h2
 .rename_i bx vw;obtain⟨l,hm,hv⟩:=hy;refine X7 ?_;split<;>try trivial
  .rename_i t' xs hS;obtain⟨l',hm',ha⟩:=R.own_arr hS;simp only at hm;rw[hm]at hm';cases hm';refine jy λe=>?_;subst e;obtain⟨a1,a2,_⟩:=II ha hv;obtain⟨es,h1,h2⟩:=WM ht a1 a2;exact hK _ es h1 h2
  .rename_i t' xs hS;obtain⟨l',hm',ha,_⟩:=R.own_frz hS;simp only at hm;rw[hm]at hm';cases hm';refine jy λe=>?_;subst e;obtain⟨a1,a2,_⟩:=II ha hv;obtain⟨es,h1,h2⟩:=WM ht a1 a2;exact hK _ es h1 h2
theorem RS{Q:α->Sm->Prop}{T:c6I}(R:Rel X cl ch S m ok a w)(hT:Tk X S m ok w T){y:V}{vy:Value}{K:List md.den->List V->Cmd α}(hy:lQ ⟨w.heap,ok,m⟩ y vy)
  (hK:∀S' ok' ys r O,Rel X cl ch S' m ok' a w->Tk X S' m ok' w (T++O)->(∀b t,ok b t->ok' b t)->bi S S' ->mM w.heap ok' (.owns md) none ys [vy] O->(K ys r).post S' Q):
  (exM BF (.owns md) [y] K).post S Q:=by
 have key:wU ⟨w.heap,ok,m⟩ y vy->vy.oneCell' =true->(exM BF (.owns md) [y] K).post S Q:=λh1 h2=>by
  refine EM (.owns md) R hT (vs:=[vy]) ⟨vy,[],rfl,h1,h2,rfl⟩ λS' ok' ys r us us' O R' T' k s e hr l=>?_;have:us=[vy]:=by obtain⟨v,e',_⟩:=hr;subst e';simp at e;simp[e.1]
  subst this;exact hK S' ok' ys r O R' T' k s hr
 cases y<;>try (unfold exM;trivial)
 .exact key hy (by have h:vy= .slice none 0 0:=hy;subst h;rfl)
 .refine key hy ?_;obtain⟨l,_,hv⟩:=hy;exact kU hv
theorem Yu{ok:Nat->Ty->Prop}{xs:List md.den}{Os:List c6I}{l:Loc}(ha:vg h md.size (λ_ x es O=>mM h ok md none x es O) xs Os l)(hv:l.view none v):∃es,Es h md.size v xs.length es/\xY h ok md xs es Os:=by
 cases l with
 |st b=>cases ha|mp b=>cases ha|nil=>obtain⟨rfl,rfl⟩:=ha;simp only[Loc.view]at hv;subst hv;exact⟨[],⟨D5,.inl ⟨rfl,none,0,rfl⟩⟩,xY.nil⟩
 |arr blk off len cap sz=>
  obtain⟨c,T,hb,rfl,rfl,hc,hf,hr⟩:=y_ ha;simp only[Loc.view]at hv;subst hv;have hle:xs.length*md.size<=cap*md.size:=J3 _ hc;refine⟨_,⟨hr.1,?_⟩,hr⟩;rcases jr xs.length with h0|h0
  .exact .inl ⟨h0,_,cap,by rw[h0]⟩
  .exact .inr (.inl ⟨blk,off,cap,rfl,h0,jA hb _ _ o5⟩)
theorem QK{xs ys zs:List α}(h:eG xs ys=some zs):xs.length+ys.length<=1073741824/\zs=xs++ys:=by
 unfold eG at h;split at h
 .cases h;exact⟨by assumption,rfl⟩
 .cases h
theorem LK(z:Array Value)(n:Nat):(Builtin.zeroCells z n).size=n*z.size:=by simp[Builtin.zeroCells]
theorem MW(H:FxOk X)(R:Rel X (CB*q) (CB*q+CB) S m ok a w)(ht:u.isEnt=false){j:TI}(hu:X.P.underlying t=some (.slice e))(h1:X.P.info? e=some inf)(h2:inf.size=u.size)(h4:inf.bytes<=65536)
  (h5:inf.zero=some z) (hz:z.cells.size=u.size) {xs ys:List u.den} {s v:Value} {sAd:Option Addr} {cap:Nat} {olds es:c6H} (hse:s= .slice sAd xs.length cap)
  (hs:Es w.heap u.size s xs.length olds) (hv:Es w.heap u.size v ys.length es) (r1:fB w.heap ok u xs olds) (r2:fB w.heap ok u ys es) (hg:cap<xs.length+ys.length) (hmax:xs.length+ys.length<=1073741824)
  (run:∀r w',(Builtin.append_ #[t,t] o.type #[s,v]).run X.P w= .ok r w' ->(execOp a.eval o).run X.P w= .ok (.value r) w'):
  (vI (O8 q o.dst) (.barr u (xs++ys)) (dY X.E o.dst (.own (O8 q o.dst) none))).post S (λ_ S' =>jO X (CB*q) (CB*q+CB) o a w m ok S'):=by
 have hrun:=Lm (P:=X.P) (w:=w) (t:=t) (ty:=o.type) hu h1 h5 h4 (s:=s) (v:=v) hse (by rw[h2];exact hs) (by rw[h2];exact hv) hg hmax;have hge:=grownCap_ge w (xs.length+ys.length) cap e;have r:=r1.append r2;rw[←I8]at hrun hge;refine MB H R (w1:=w.drew) rfl rfl rfl rfl ht r hge ?_ ?_ (λ_ _ h=>h) (λ_ _ h=>h) (.inl rfl) (run _ _ hrun)
 .have hl:=r.1;simp only[qx,aK,hl,LK,hz,←N7];exact J3 _ o5
 .have hl:=r.1;simp only[nZ];rw[aC (by rw[hl];exact D7 _),←hl];exact bJ
theorem MX(H:FxOk X)(R:Rel X (CB*q) (CB*q+CB) S m ok a w)(ht:u.isEnt=false)(hu:X.P.underlying t=some (.slice e))(h1:X.P.info? e=some inf)(h2:inf.size=u.size)(h4:inf.bytes<=65536)
  (h5:inf.zero=some z) (hz:z.cells.size=u.size) {ys:List u.den} {s v:Value} {es:c6H} (hse:s= .slice none 0 0)
  (hv:Es w.heap u.size v ys.length es) (r2:fB w.heap ok u ys es) (hmax:ys.length<=1073741824)
  (run:∀r w',(Builtin.append_ #[t,t] o.type #[s,v]).run X.P w= .ok r w' ->(execOp a.eval o).run X.P w= .ok (.value r) w'):
  (vI (O8 q o.dst) (.barr u ys) (dY X.E o.dst (.own (O8 q o.dst) none))).post S (λ_ S' =>jO X (CB*q) (CB*q+CB) o a w m ok S'):=by
 rcases jr ys.length with h0|h0
 .have hy:ys=[]:=bf.1 h0;subst hy;have hrun:=JL (P:=X.P) (w:=w) (t:=t) (ty:=o.type) hu h1 (v:=v) (by rw[h2];exact hv);rw[←hse]at hrun;refine EX H λn e1 g1 g2 hn=>?_;rw[←e1];clear e1;generalize CB*q=Z at*;have R' :Rel X Z (Z+CB) (upd S (X9+n) (.barr u [])) (mO m n .nil []) ok a w:=by
   refine R.lay hn g1 (by show n<Z+1000000;change n+64<=Z+1000000 at g2;omega) D5 rfl rfl rfl (D7 _) (λ_ _ _=>rfl) (by simp[U2]) (λb hb=>by simp[U2]at hb) ⟨.nil,ax _ _ _ _,rfl,ht⟩
  refine wJ H R' (λk l h=>?_) (λ_ _ h=>h) ⟨.nil,ax _ _ _ _,hse⟩ (run _ _ hrun);by_cases ek:k=n
  .subst ek;have:=R.fresh k g1 hn;rw[this]at h;cases h
  .rw[jK _ _ _ ek];exact h
 .have:=MW (j:=⟨0,0,.bool,none,[]⟩) H R ht hu h1 h2 h4 h5 hz (xs:=[]) (ys:=ys) (s:=s) (v:=v) (sAd:=none) (cap:=0) (olds:=[]) (es:=es) hse ⟨D5,.inl ⟨rfl,none,0,hse⟩⟩ hv fB.nil r2 (by simpa using h0) (by simpa using hmax) run;simpa using this
theorem a1C(H:FxOk X)(R:Rel X (CB*q) (CB*q+CB) S m ok a w){j:TI}(hu:X.P.underlying t=some (.slice e))(h1:X.P.info? e=some inf)(h2:inf.size=md.size)(h4:inf.bytes<=65536)
  (h5:inf.zero=some z) (hz:z.cells.size=md.size) {x y:V} {s v:Value} (hx:lQ ⟨w.heap,ok,m⟩ x s) (hy:lQ ⟨w.heap,ok,m⟩ y v)
  (run:∀r w',(Builtin.append_ #[t,t] o.type #[s,v]).run X.P w= .ok r w' ->(execOp a.eval o).run X.P w= .ok (.value r) w'):
  (exM BF (.owns md) [y] λys _=>exM BF (.owns md) [x] λxs _=>Cmd.opt (eG xs ys) λzs=>vI (O8 q o.dst) (.barrs md zs none) (dY X.E o.dst (.own (O8 q o.dst) none))).post S (λ_ S' =>jO X (CB*q) (CB*q+CB) o a w m ok S'):=by
 refine RS (T:=[]) R Tk.nil hy λS1 ok1 ys _ O1 R1 T1 k1 s1 g1=>?_;refine RS R1 T1 (Ue k1 hx) λS2 ok2 xs _ O2 R2 T2 k2 s2 g2=>?_;have k12:∀b t,ok b t->ok2 b t:=λb t h=>k2 b t (k1 b t h);have g1:=iK k2 (λ_ _ _=>rfl) (λ_ _=>rfl) g1;obtain⟨hel,ly,vy,Oy,ey,hvy,hay,rfl⟩:=yE.1 g1;obtain⟨_,lx,vx,Ox,ex,hvx,hax,rfl⟩:=yE.1 g2;simp only[I7,and_true]at ey ex;subst ey;subst ex;refine dM λzs hzs=>?_;obtain⟨hmax,rfl⟩:=QK hzs;obtain⟨es,hv,ry⟩:=Yu hay hvy;obtain⟨olds,hs,rx⟩:=Yu hax hvx;have hnd2:=T2.nodup;have rr:=rx.append ry;have hT3:∀b∈(Ox++Oy).flatten,b∈[]++(ly.blks++Oy.flatten)++(lx.blks++Ox.flatten):=λb hb=>by
  simp only[kQ,J6]at hb ⊢;rcases hb with hb|hb
  .exact .inr (.inr hb)
  .exact .inl (.inr (.inr hb))
 have hnd3:(Ox++Oy).flatten.Nodup:=by rw[kQ];have h:=P8.1 hnd2;simp only[J4]at h;refine P8.2 ⟨(P8.1 h.2.1).2.1,(P8.1 h.1).2.1,λp hp r hr e=>h.2.2 r (by simp[hr]) p (by simp[hp]) e.symm⟩
 have fresh:∀{sAd:Option Addr} {cap:Nat},s= .slice sAd xs.length cap->cap<xs.length+ys.length->(vI (O8 q o.dst) (.barrs md (xs++ys) none) (dY X.E o.dst (.own (O8 q o.dst) none))).post S2 (λ_ S' =>jO X (CB*q) (CB*q+CB) o a w m ok S'):=λ{sAd cap} hse hg=>by
  have hrun:=Lm (P:=X.P) (w:=w) (t:=t) (ty:=o.type) hu h1 h5 h4 (s:=s) (v:=v) hse (by rw[h2];exact hs) (by rw[h2];exact hv) hg hmax;have hge:=grownCap_ge w (xs.length+ys.length) cap e;rw[←I8]at hrun hge;refine VD H R2 T2 (w1:=w.drew) rfl rfl rfl rfl hel rr hnd3 hT3 hge ?_ ?_ (λ_ _ h=>h) k12 (run _ _ hrun)
  .have hl:=rr.1;simp only[qx,aK,hl,LK,hz,←N7];exact J3 _ o5
  .have hl:=rr.1;simp only[nZ];rw[aC (by rw[hl];exact D7 _),←hl];exact bJ
 cases lx with
 |st b=>cases hax|mp b=>cases hax|nil=>
  obtain⟨rfl,rfl⟩:=hax;simp only[Loc.view]at hvx;rcases jr ys.length with h0|h0
  .have hy0:ys=[]:=bf.1 h0;subst hy0;have hO0:Oy=[]:=bf.1 ry.2.1;subst hO0;have hrun:=JL (P:=X.P) (w:=w) (t:=t) (ty:=o.type) hu h1 (v:=v) (by rw[h2];exact hv);rw[←hvx]at hrun;refine EX H λn e1 g1 g2 hn=>?_;rw[←e1];clear e1;generalize CB*q=Z at*;have R' :Rel X Z (Z+CB) (upd S2 (X9+n) (.barrs md ([]++[]) none)) (mO m n .nil []) ok2 a w:=by
    refine R2.lay hn g1 (by show n<Z+1000000;change n+64<=Z+1000000 at g2;omega) D5 rfl rfl rfl (D7 _) (λ_ _ _=>rfl) (by simp[U2]) (λb hb=>by simp[U2]at hb) ⟨hel,.nil,[],ax _ _ _ _,⟨⟨rfl,rfl⟩,trivial⟩,D5⟩
   refine wJ H R' (λk l h=>?_) k12 ⟨.nil,ax _ _ _ _,hvx⟩ (run _ _ hrun);by_cases ek:k=n
   .subst ek;have:=R2.fresh k g1 hn;rw[this]at h;cases h
   .rw[jK _ _ _ ek];exact h
  .exact fresh (sAd:=none) (cap:=0) hvx (by simpa using h0)
 |arr blk off len cap sz=>
  obtain⟨c,T,hb,rfl,rfl,hcap,hfit,r1⟩:=y_ hax;simp only[Loc.view]at hvx;by_cases hroom:xs.length+ys.length<=cap
  .have hrun:=NE (P:=X.P) (w:=w) (t:=t) (ty:=o.type) (off:=off) (cap:=cap) hu h1 hb (.inl rfl) (v:=v) (n:=ys.length) (es:=es) (by rw[h2];exact hv) ry.one_cell hroom (by rw[h2];exact hfit);rw[←hvx]at hrun;obtain⟨q1,q2,q3,q4⟩:=T2.free blk (by simp[Loc.blks]);have hle:(xs.length+ys.length)*md.size<=cap*md.size:=J3 _ hroom;rw[N7]at hle;have hesl:=hv.1;have hcl:c.toList.length=c.size:=rfl;have hsp:(dA (off+xs.length*md.size) es c.toList).length=c.size:=by rw[yZ o5];rfl
   have hblk:∀b∈(Ox++Oy).flatten,b≠blk:=λb hbm e=>by
    subst e;rw[kQ]at hbm;have h:=P8.1 hnd2;simp only[J4]at h;rcases J6.1 hbm with hbm|hbm
    .exact(P8.1 h.2.1).2.2 b (by simp[Loc.blks]) b hbm rfl
    .exact h.2.2 b (by simp[hbm]) b (by simp[Loc.blks]) rfl
   refine EX H λn e1 g1 g2 hn=>?_;rw[←e1];clear e1;generalize CB*q=Z at*;have hoth:∀b,b≠blk->(w.setRow blk (dA (off+xs.length*md.size) es c.toList).toArray).heap[b]? =w.heap[b]?:=λb hb=>setRow_other w blk b _ hb;have hown1:U2 (mO m n (.arr blk off (xs.length+ys.length) cap md.size) (Ox++Oy).flatten) n (.barrs md (xs++ys) none)=blk::(Ox++Oy).flatten:=by simp[U2]
   have R' :Rel X Z (Z+CB) (upd S2 (X9+n) (.barrs md (xs++ys) none)) (mO m n (.arr blk off (xs.length+ys.length) cap md.size) (Ox++Oy).flatten) ok2 a (w.setRow blk (dA (off+xs.length*md.size) es c.toList).toArray):=by
    refine R2.lay hn g1 (by show n<Z+1000000;change n+64<=Z+1000000 at g2;omega) D5 rfl rfl rfl D5 (λb _ hne=>hoth b (λe=>hne (by rw[hown1,e];simp))) (by rw[hown1];exact X0.2 ⟨λh=>hblk blk h rfl,hnd3⟩) (λb hbb=>?_) ⟨hel,_,Ox++Oy,ax _ _ _ _,?_,D5⟩
    .rw[hown1]at hbb;obtain⟨q1,q2,q3,q4⟩:=T2.free b (by
      rcases D8.1 hbb with rfl|h
      .simp[Loc.blks]
      .exact hT3 b h)
     exact⟨q1,by simpa using q2,q3,q4⟩
    .refine⟨?_,trivial⟩;have:=xY.arrs (h:=(w.setRow blk (dA (off+xs.length*md.size) es c.toList).toArray).heap) (ok:=ok2) (cs:=((c.toList.drop off).take (xs.length*md.size))++es) (cap:=cap) (off:=off) ((r1.append ry).mono (λ_ _ h=>h) (λb t hb=>hoth b (λe=>q1 t (e▸hb))) (λb hb=>hoth b (hblk b hb))) (setRow_heap w blk c _ T (0,0) hb) (by rw[I8];exact hroom) (by rw[aK,hsp];exact hfit) ?_
     .rw[I8]at this;exact this
     .simp only[I8,N7];rw[Ry (n:=xs.length*md.size+ys.length*md.size) o5 o5];unfold dA;have hd:((c.toList.drop off).take (xs.length*md.size+ys.length*md.size)).drop (xs.length*md.size+es.length)=[]:=bG (by rw[aX,aG];omega);rw[ig,iJ (dU _ _),hd,G7]
   refine wJ H R' (λk l h=>?_) k12 ⟨_,ax _ _ _ _,rfl⟩ (run _ _ (by rw[h2]at hrun;exact hrun));by_cases ek:k=n
   .subst ek;have:=R2.fresh k g1 hn;rw[this]at h;cases h
   .rw[jK _ _ _ ek];exact h
  .exact fresh hvx o5
theorem Wh{w:World}{t t' ty e:TypeId}{i:TypeInfo}(ht:P.underlying t=some (.slice e))(hs:P.underlying t' =some .string)(hi:P.info? e=some i){s:Value}{b:ByteArray} :
  (Builtin.append_ #[t,t'] ty #[s,.string b]).run P w=(Builtin.append_ #[t,t] ty #[s,.string b]).run P w:=by
 cases s<;>simp[Builtin.append_,run_underlying ht,run_underlying hs,sizeOf,typeInfo,hi]
theorem Ux(H:FxOk X)(R:Rel X (CB*q) (CB*q+CB) S m ok a w){p:Operand}{x:V}{j:TI}(ht:u.isEnt=false)(hu:X.P.underlying t=some (.slice e))(h1:X.P.info? e=some inf)(h2:inf.size=u.size)(h4:inf.bytes<=65536)
  (h5:inf.zero=some z) (hz:z.cells.size=u.size) (hx:lQ ⟨w.heap,ok,m⟩ x (a.eval p)) {ys:List u.den} {v:Value} {es:c6H} (hv:Es w.heap u.size v ys.length es) (r2:fB w.heap ok u ys es)
  (run:∀r w',(Builtin.append_ #[t,t] o.type #[a.eval p,v]).run X.P w= .ok r w' ->(execOp a.eval o).run X.P w= .ok (.value r) w'):
  (TQ (O8 q o.dst) u x ys λv=>dY X.E o.dst v).post S (λ_ S' =>jO X (CB*q) (CB*q+CB) o a w m ok S'):=by
 unfold TQ;split<;>try trivial
 ·
  refine dM λzs hzs=>?_;obtain⟨hmax,rfl⟩:=QK hzs;have hx' :a.eval p= .slice none 0 0:=hx;simp only[J4];exact MX H R ht hu h1 h2 h4 h5 hz hx' hv r2 (by simpa using hmax) run
 .rename_i bx vw;obtain⟨loc,hm,hview⟩:=hx;refine X7 ?_;split<;>try trivial
  rename_i u' xs hS;refine jy λeu=>?_;subst eu;refine dM λzs hzs=>gG ?_;obtain⟨hmax,rfl⟩:=QK hzs;obtain⟨loc',hm',ha⟩:=R.own_arr hS;simp only at hm;rw[hm]at hm';cases hm';have R1:=R.kill bx;obtain⟨a1,a2,a3⟩:=II ha hview;generalize hl2:Jt loc vw=l2 at*;generalize jL vw xs=xs' at*;cases l2 with
  |st b=>cases a1|mp b=>exact absurd a1.1 (by simp[ht])|nil=>obtain⟨a1,_⟩:=a1;subst a1;simp only[Loc.view]at a2;simp only[J4];exact MX H R1 ht hu h1 h2 h4 h5 hz a2 hv r2 (by simpa using hmax) run
  |arr blk off len cap sz=>
   obtain⟨c,T,f,hb,hfz,rfl,rfl,hcap,hfit,r1⟩:=Xq a1;simp only[Loc.view]at a2;simp only at hb r1;by_cases hroom:xs'.length+ys.length<=cap
   ·
    have hrun:=NE (P:=X.P) (w:=w) (t:=t) (ty:=o.type) (off:=off) (cap:=cap) hu h1 hb hfz.of (v:=v) (n:=ys.length) (es:=es) (by rw[h2];exact hv) r2.one_cell hroom (by rw[h2];exact hfit);rw[←a2]at hrun;have hown:U2 m bx (S (X9+bx))=[blk]:=by
     cases loc with
     |nil=>simp[Loc.blks]at a3|st _=>cases ha|mp b=>exact absurd ha.1 (by simp[ht])|arr b2 _ _ _ _=>simp[Loc.blks]at a3;simp[U2,hS,hm,a3]
    obtain⟨s1,s2,s3⟩:=R.sep bx blk (by rw[hown];simp);have hle:(xs'.length+ys.length)*u'.size<=cap*u'.size:=J3 _ hroom;rw[N7]at hle;have hel:=hv.1;have hcl:c.toList.length=c.size:=rfl;have hsp:(dA (off+xs'.length*u'.size) es c.toList).length=c.size:=by rw[yZ o5];rfl
    refine EX H λn e1 g1 g2 hn=>?_;rw[←e1];clear e1;generalize CB*q=Z at*;have hkeep:∀b t,ok b t->(w.setRow blk (dA (off+xs'.length*u'.size) es c.toList).toArray).heap[b]? =w.heap[b]?:=λb t hb=>setRow_other w blk b _ (λe=>s1 t (e▸hb));have R' :Rel X Z (Z+CB) (upd (upd S (X9+bx) .dead) (X9+n) (.barr u' (xs' ++ys))) (mO m n (.arr blk off (xs'.length+ys.length) cap u'.size) []) ok a (w.setRow blk (dA (off+xs'.length*u'.size) es c.toList).toArray):=by
     refine R1.lay hn g1 (by show n<Z+1000000;change n+64<=Z+1000000 at g2;omega) D5 rfl rfl rfl D5 (λb _ hne=>?_) (by simp[U2]) (λb hbb=>?_) ⟨_,ax _ _ _ _,?_⟩
     .refine setRow_other w blk b _ (λe=>hne ?_);subst e;simp[U2]
     .simp[U2]at hbb;subst hbb;refine⟨s1,by simpa using s2,s3,λk e=>?_⟩;obtain⟨k1,k2⟩:=zZ rfl e;exact k1 (R.inj k bx b k2 (by rw[hown];simp))
     .rw[←I8];refine fB.arrOk ht (cs:=((c.toList.drop off).take (xs'.length*u'.size))++es) ((r1.append r2).mono (λ_ _ h=>h) hkeep) (setRow_heap w blk c _ T f hb) (by rw[aK,hsp];exact hfz) (by rw[I8];exact hroom) (by rw[aK,hsp];exact hfit) ?_;simp only[I8,N7];rw[Ry (n:=xs'.length*u'.size+ys.length*u'.size) o5 o5];unfold dA;have hd:((c.toList.drop off).take (xs'.length*u'.size+ys.length*u'.size)).drop (xs'.length*u'.size+es.length)=[]:=bG (by rw[aX,aG];omega);rw[ig,iJ (dU _ _),hd,G7]
    refine wJ H R' (λk l h=>?_) (λ_ _ h=>h) ⟨_,ax _ _ _ _,rfl⟩ (run _ _ (by rw[h2]at hrun;exact hrun))
    .by_cases ek:k=n
     .subst ek;have:=R1.fresh k g1 hn;rw[this]at h;cases h
     .rw[jK _ _ _ ek];exact h
   .obtain⟨olds,q1,q2⟩:=WM (C:=⟨w.heap,ok,m⟩) ht a1 a2;exact MW (j:=j) H R1 ht hu h1 h2 h4 h5 hz a2 q1 hv q2 r2 o5 hmax run
theorem a6e(H:FxOk X)(R:Rel X (CB*q) (CB*q+CB) S m ok a w){c:Call}(ho:o.op= .call c)(hc:c.callee= .builtin .append):(dJ X.E q o).post S (λ_ S' =>jO X (CB*q) (CB*q+CB) o a w m ok S'):=by
 obtain⟨cal,args,ats⟩:=c;simp only at hc;subst hc;unfold dJ;simp only[ho];refine lZ R _ λvs hvs=>?_;split<;>try trivial
 rename_i t t' x y hat
 obtain⟨u1,r,he,hx,u2,r',he',hy,hr⟩:=hvs;simp only[gZ]at hr;subst hr;rw[he']at he;obtain⟨p,p',rfl,rfl,rfl⟩:=a0b he;cases htt:Nat.beq t t'
 ·
  simp only[cond_false];split<;>try trivial
  rename_i l;refine jY H λi hi=>?_;have hd:=hi.td;split<;>try trivial
  rename_i htd;rw[htd]at hd;unfold a3U;split<;>try trivial
  rename_i e het;obtain⟨j,z,inf,hu,hj,h1,h2,h3,h4,h5,h6⟩:=zS H het;have hz:z.cells.size=(Ty.int IntKind.u8).size:=by have:=iQ h6;simpa using this
  split<;>try trivial
  have hats:ats=#[t,t']:=by
   obtain⟨l⟩:=ats;simp only at hat
   rw[hat]
  have hs:a.eval p' = .string ⟨l.toArray⟩:=hy;refine Ux (j:=j) H R (IR het) hu h1 h2 h4 h5 hz hx (v:=.string ⟨l.toArray⟩) (es:=Lib.strCells ⟨l.toArray⟩) ?_ ?_ ?_
  .refine⟨?_,.inr (.inr ⟨_,rfl,?_,rfl⟩)⟩
   .rw[Lib.strCells_length];simp[Xa,Ty.size,ByteArray.size]
   .simp[Xa,ByteArray.size]
  .refine⟨by rw[Lib.strCells_length];simp[Xa,Ty.size,ByteArray.size],λi x hi=>?_⟩;show(((Lib.strCells ⟨l.toArray⟩).drop (i*1)).take 1)=[.int .u8 x];have hl:l[i]?.map (λc=>(c.toNat:Int))=some x:=by simpa[Xa,bV]using hi
   obtain⟨c,hc,rfl⟩:=gQ.1 hl;have h7:(Lib.strCells ⟨l.toArray⟩)[i]? =some (.int .u8 c.toNat):=by simp[Lib.strCells,hc]
   obtain⟨g1,g2⟩:=bg.1 h7;rw[bD,bC g1,g2];rfl
  .intro r w' h;rw[←Wh hu hd h1]at h;simp[execOp,ho,resolve,invoke,builtin,hats,hs,h]
 simp only[cond_true];have htt' :=eU htt;subst htt';have hats:ats=#[t,t]:=by
  obtain⟨l⟩:=ats;simp only at hat
  rw[hat]
 have run:∀(s v:Value),a.eval p=s->a.eval p' =v->∀r w',(Builtin.append_ #[t,t] o.type #[s,v]).run X.P w= .ok r w' ->(execOp a.eval o).run X.P w= .ok (.value r) w' :=λs v e1 e2 r w' h=>by subst e1;subst e2;simp[execOp,ho,resolve,invoke,builtin,hats,h]
 unfold a3T;split
 .trivial
 rename_i e u het;obtain⟨j,z,inf,hu,hj,h1,h2,h3,h4,h5,h6⟩:=zS H het;have hz:z.cells.size=u.size:=by have:=iQ h6;simpa using this
 split
 rotate_left
 .rename_i md hom;refine Y6 λhms=>?_;have hms:=eU hms;exact a1C (j:=j) H R hu h1 (by rw[h2,hms]) h4 h5 (by rw[hz,hms]) hx hy (run _ _ rfl rfl)
 have ht:=IR het;refine Xi R ht hy λys es hv r2=>?_;exact Ux (j:=j) H R ht hu h1 h2 h4 h5 hz hx hv r2 (run _ _ rfl rfl)
theorem WF{α:Type}{Q:α->Sm->Prop}{S:Sm}{C:Cx}{u:Ty}(hf:u.flat=true):∀(n:Nat) {cs:List V} {vs:c6H} {K:List u.den->Cmd α},gB C cs vs->
  (∀xs,xs.length=n->fB C.h C.ok u xs vs->(K xs).post S Q)->(a1r u n cs K).post S Q
 |0,cs,vs,K,hL,hK=>by
  unfold a1r;cases cs with
  |nil=>simp only[gB]at hL;subst hL;exact hK [] rfl fB.nil|cons _ _=>trivial
 |n+1,cs,vs,K,hL,hK=>by unfold a1r;refine Gw u hf hL λx r us us' e hr hL' =>?_;refine WF hf n hL' λxs hl hxs=>?_;subst e;exact hK (x::xs) (by simp[hl]) ((fB.one (hr C.h C.ok)).append hxs)
theorem a7Z(H:FxOk X)(R:Rel X (CB*q) (CB*q+CB) S m ok a w){x:Operand}{lo hi:Option Operand}(ho:o.op= .slice t x lo hi none):(dJ X.E q o).post S (λ_ S' =>jO X (CB*q) (CB*q+CB) o a w m ok S'):=by
 refine a6i H R ho λbx hlo hhi hx=>?_;subst hlo;subst hhi;obtain⟨blk,hm,hx⟩:=hx;unfold Wq;refine jY H λi hi=>?_;have htd:=hi.td;split<;>try trivial
 rename_i n e hd;rw[hd]at htd;have hut:X.P.underlying t=some (.array n e):=htd;refine jY H λj hj=>?_;split<;>try trivial
 rename_i u hju;refine Y6 λhf=>X7 ?_;split<;>try trivial
 rename_i cs hS;obtain⟨blk',arr,T,hm',hh,hl⟩:=R.own_cells hS;simp only at hm;rw[hm]at hm';cases hm';refine WF (C:=⟨w.heap,ok,m⟩) hf n hl λxs hlen hr=>gG ?_;have hjz:u.size=j.size:=by obtain⟨inf,_,_,_,_,hty⟩:=hj.info;exact(hty u hju).1
 have ht:u.isEnt=false:=by cases u<;>first|rfl|(cases hf;done)
 have hown:U2 m bx (S (X9+bx))=[blk]:=by simp[U2,hS,hm]
 obtain⟨s1,s2,s3⟩:=R.sep bx blk (by rw[hown];simp);have R1:=R.kill bx;refine EX H λnn e1 g1 g2 hn=>?_;rw[←e1];clear e1;generalize CB*q=Z at*;have hsz:arr.toList.length=xs.length*u.size:=hr.1;have R' :Rel X Z (Z+CB) (upd (upd S (X9+bx) .dead) (X9+nn) (.barr u xs)) (mO m nn (.arr blk 0 xs.length xs.length u.size) []) ok a w:=by
  refine R1.lay hn g1 (by show nn<Z+1000000;change nn+64<=Z+1000000 at g2;omega) D5 rfl rfl rfl (D7 _) (λ_ _ _=>rfl) (by simp[U2]) (λb hbb=>?_) ⟨_,ax _ _ _ _,?_⟩
  .simp[U2]at hbb;subst hbb;refine⟨s1,s2,s3,λk e=>?_⟩;obtain⟨k1,k2⟩:=zZ rfl e;exact k1 (R.inj k bx b k2 (by rw[hown];simp))
  .refine fB.arrOk ht (C:=⟨w.heap,ok,mO m nn (.arr blk 0 xs.length xs.length u.size) []⟩) (cs:=arr.toList) hr hh (.inl rfl) (D7 _) (by rw[←hsz];simp) ?_;simp only[kw];exact W9 (by rw[hsz];exact D7 _)
 refine wJ H R' (λk l h=>?_) (λ_ _ h=>h) (x:=.slice (some ⟨blk,0,none⟩) n n) ⟨_,ax _ _ _ _,by rw[hlen];rfl⟩ ?_
 .by_cases ek:k=nn
  .subst ek;have:=R1.fresh k g1 hn;rw[this]at h;cases h
  .rw[jK _ _ _ ek];exact h
 .have hb:=Fj (P:=X.P) (w:=w) (isS:=false) (len:=n) (cap:=n) (lo:=none) (hi:=none) (x:=0) (y:=n) (.inl ⟨rfl,rfl⟩) (.inl ⟨rfl,rfl⟩) o5 o5 o5 (D7 _);simp[execOp,ho,hx,Instr.sliceAt,run_underlying hut,Instr.sureAddr,hb,uj hj,iI]
theorem a2z(H:FxOk X)(R:Rel X (CB*q) (CB*q+CB) S m ok a w){src t:TypeId}{x:Operand}(ho:o.op= .convert src t x):
  (dJ X.E q o).post S (λ_ S' =>jO X (CB*q) (CB*q+CB) o a w m ok S'):=by
 refine a0t H R ho λl hl hsrc=>?_;unfold a6W;split<;>try trivial
 rename_i e het;obtain⟨j,z,inf,hu,hj,h1,h2,h3,h4,h5,h6⟩:=zS H het;refine jY H λk hk=>?_;have hkd:=hk.td;split<;>try trivial
 rename_i hke;rw[hke]at hkd;have hrun:=run_bytes_of_string (P:=X.P) w src t e ⟨l.toArray⟩ hsrc hu hkd;have hsz:(⟨l.toArray⟩:ByteArray).size=l.length:=by simp[ByteArray.size]
 have hge:=grownCap_ge w (⟨l.toArray⟩:ByteArray).size 0 e;generalize hcap:grownCap w (⟨l.toArray⟩:ByteArray).size 0 e=cap at*;have hbs:(bytesRow ⟨l.toArray⟩ cap).size=cap:=by simp[bytesRow];omega
 have hll:(Xa l).length=l.length:=by simp[Xa]
 refine MB H R (w1:=w.drew) (u:=.int .u8) (e:=e) (cap:=cap) (c:=bytesRow ⟨l.toArray⟩ cap) (cs:=Lib.strCells ⟨l.toArray⟩) (f:=((bytesRow ⟨l.toArray⟩ cap).size,(bytesRow ⟨l.toArray⟩ cap).size+1)) rfl rfl rfl rfl rfl ?_ ?_ ?_ ?_ (λ_ _ h=>h) (λ_ _ h=>h) (.inr ⟨rfl,rfl⟩) ?_
 .refine⟨by rw[Lib.strCells_length];simp[Xa,Ty.size,ByteArray.size],λi x hi=>?_⟩;show(((Lib.strCells ⟨l.toArray⟩).drop (i*1)).take 1)=[.int .u8 x];have hl:l[i]?.map (λc=>(c.toNat:Int))=some x:=by simpa[Xa,bV]using hi
  obtain⟨c,hc,rfl⟩:=gQ.1 hl;have h7:(Lib.strCells ⟨l.toArray⟩)[i]? =some (.int .u8 c.toNat):=by simp[Lib.strCells,hc]
  obtain⟨g1,g2⟩:=bg.1 h7;rw[bD,bC g1,g2];rfl
 .omega
 .rw[hbs];simp[Ty.size]
 .rw[hll];have:(bytesRow ⟨l.toArray⟩ cap).toList=Lib.strCells ⟨l.toArray⟩++List.replicate (cap -l.length) (.int .u8 0):=by
   simp[bytesRow,Lib.strCells,hsz]
  rw[this,aC (by rw[Lib.strCells_length,hsz];simp[Ty.size])];exact W9 (by rw[Lib.strCells_length,hsz];simp[Ty.size])
 .simp only[execOp,ho,hl];rw[J5,hrun,hll,←hsz];rfl
end
theorem ZE{h h' :Array Obj}{ok ok' :Nat->Ty->Prop} :∀{t:Ty} (hf:t.flat=true) {x:t.den} {c d:c6H},rep h ok t x c->rep h' ok' t x d->c=d
 | .bool,_,_,_,_,h1,h2=>by simp only[rep]at h1 h2;rw[h1,h2]| .int _,_,_,_,_,h1,h2=>by simp only[rep]at h1 h2;rw[h1,h2]| .str,_,_,_,_,h1,h2=>by simp only[rep]at h1 h2;rw[h1,h2]| .unit,_,_,_,_,h1,h2=>by simp only[rep]at h1 h2;rw[h1,h2]| .prod p q,hf,_,_,_,h1,h2=>by simp only[Ty.flat,D6]at hf;obtain⟨a,b,rfl,a1,a2⟩:=h1;obtain⟨a',b',rfl,b1,b2⟩:=h2;rw[ZE hf.1 a1 b1,ZE hf.2 a2 b2]
 | .sl _,hf,_,_,_,_,_=>by cases hf| .ent ..,hf,_,_,_,_,_=>by cases hf
def a6F(ag:Bool)(k:Ty)(x:k.den)(kv:Value):Prop:=gok ag kv/\rep #[] (λ_ _=>False) k x (NV ag kv)
theorem a2j{ag:Bool}{u v:Value}(hu:gok ag u)(hv:gok ag v)(h:NV ag u=NV ag v):u=v:=by
 cases ag
 .simpa[NV]using h
 .obtain⟨a,rfl⟩:=hu;obtain⟨b,rfl⟩:=hv;have:a.toList=b.toList:=h;rw[Array.toList_inj.1 this]
theorem a6F.det{ag:Bool}{k:Ty}(hf:k.flat=true){x:k.den}{u v:Value}(h1:a6F ag k x u)(h2:a6F ag k x v):u=v:=
 a2j h1.1 h2.1 (ZE hf h1.2 h2.2)
end Go.GP
namespace Go.GP
theorem Yq:∀(n:Nat) (vs a b:List V),Fp n vs=some (a,b)->vs=a++b/\a.length=n
 |0,vs,a,b,h=>by simp[Fp]at h;obtain⟨rfl,rfl⟩:=h;simp
 |n+1,[],a,b,h=>by simp[Fp]at h|n+1,v::vs,a,b,h=>by
  unfold Fp at h;cases hs:Fp n vs with
  |none=>simp[hs]at h|some p=>obtain⟨a',b'⟩:=p;simp only[hs,G8,gK]at h;obtain⟨rfl,rfl⟩:=h;obtain⟨rfl,hl⟩:=Yq n vs _ _ hs;exact⟨rfl,by simp[hl]⟩
theorem Tc{C:Cx} :∀{a b:List V} {xs ys:c6H},a.length=xs.length->gZ C (a++b) (xs++ys)->gZ C a xs/\gZ C b ys
 |[],b,xs,ys,hl,h=>by
  have:xs=[]:=by cases xs<;>simp at hl ⊢
  subst this;exact⟨rfl,h⟩
 |c::a,b,xs,ys,hl,h=>by
  cases xs with
  |nil=>simp at hl|cons x xs=>obtain⟨v,r,e,h1,h2⟩:=h;simp only[U3,I7]at e;obtain⟨rfl,rfl⟩:=e;obtain⟨h3,h4⟩:=Tc (by simpa using hl) h2;exact⟨⟨_,_,rfl,h1,h3⟩,h4⟩
theorem a4R{C:Cx} :∀{a:List V} {xs:c6H},Dx a=false->gZ C a xs->Zx C a xs
 |[],xs,_,h=>h|c::a,xs,ht,⟨v,r,e,h1,h2⟩=>by
  have ht2:Dx a=false:=by cases c<;>first|exact ht|(simp[Dx]at ht)
  refine⟨v,r,e,?_,a4R ht2 h2⟩;cases c<;>first|exact h1|(simp[Dx]at ht)
variable {v:Value}
theorem a9a{C:Cx}{a:List V}{xs:c6H}{n:Nat}(ht:Dx a=false)(h:gZ C a xs)(hr:OH n v xs):lQ C (a6r a) v:=by
 obtain⟨_,hv⟩:=hr;cases a with
 |nil=>simp only[gZ]at h;subst h;simp only at hv;subst hv;exact⟨_,rfl,rfl⟩|cons c a=>
  obtain⟨x,r,rfl,h1,h2⟩:=h;cases a with
  |nil=>simp only[gZ]at h2;subst h2;simp only at hv;subst hv;exact h1|cons d a=>obtain⟨y,r',rfl,h3,h4⟩:=h2;simp only at hv;subst hv;exact⟨_,rfl,a4R ht ⟨_,_,rfl,h1,_,_,rfl,h3,h4⟩⟩
theorem UC{h:Array Obj}{ok ok' :Nat->Ty->Prop} :∀{ts:List Ty} {x:OE ts} {vs:c6H},(∀b u,ok b u->SB u ts=true->ok' b u)->Eu h ok (RD ts x) vs->Eu h ok' (RD ts x) vs
 |[],_,_,_,hr=>hr|[t],x,_,f,hr=>by obtain⟨v,r,e,⟨b,o,es,hv,hb,hc,hp⟩,h2⟩:=hr;exact⟨v,r,e,⟨b,o,es,hv,f _ _ hb (by simp[SB]),hc,yG (λb u h k=>f b u h (by simp[SB,k])) hp⟩,h2⟩
 |t::t' ::ts,x,_,f,hr=>by obtain⟨v,r,e,⟨b,o,es,hv,hb,hc,hp⟩,h2⟩:=hr;exact⟨v,r,e,⟨b,o,es,hv,f _ _ hb (by simp[SB]),hc,yG (λb u h k=>f b u h (by simp[SB,k])) hp⟩,UC (ts:=t' ::ts) (λb u h k=>f b u h (by rw[SB,k];simp)) h2⟩
theorem Qq{h:Array Obj}{ok ok' :Nat->Ty->Prop}{m:Mp}{t:Ty}{xs:List t.den}{l:Loc}(f:∀b u,ok b u->Ty.occ u t=true->ok' b u)(hr:arrOk ⟨h,ok,m⟩ t xs l):arrOk ⟨h,ok',m⟩ t xs l:=by
 cases l with
 |nil=>exact hr|st b=>exact hr|mp b=>obtain⟨h1,es,ck,h2,h3,h4⟩:=hr;refine⟨h1,es,ck,h2,h3,λi y hi=>?_⟩;obtain⟨e,a1,a2,a3⟩:=h4 i y hi;exact⟨e,a1,a2,yG f a3⟩
 |arr blk off len cap sz=>obtain⟨h0,h1,h2,h3,c,T,g,h4,hz,h5,h6⟩:=hr;refine⟨h0,h1,h2,h3,c,T,g,h4,hz,h5,λi y hi=>?_⟩;obtain⟨es,he,hp⟩:=h6 i y hi;exact⟨es,he,yG f hp⟩
theorem Dq{h:Array Obj}{ok ok' :Nat->Ty->Prop} :∀{m:M} {ho:Option Nat} {x:m.den} {cs:c6H} {O:c6I},(∀b u,ok b u->m.occ u=true->ok' b u)->mM h ok m ho x cs O->mM h ok' m ho x cs O
 | .dat t,_,_,_,_,f,hr=>⟨yG f hr.1,hr.2⟩| .unit,_,_,_,_,_,hr=>hr| .pair a b,_,_,_,_,f,⟨c,d,O1,O2,e,eo,h1,h2⟩=>⟨c,d,O1,O2,e,eo,Dq (λb u h k=>f b u h (by simp[M.occ,k])) h1,Dq (λb u h k=>f b u h (by simp[M.occ,k])) h2⟩| .box m,_,_,_,_,f,⟨blk,arr,T,O',e,hh,hr,eo⟩=>⟨blk,arr,T,O',e,hh,Dq f hr,eo⟩| .own t,ho,_,_,_,f,⟨v,e,h1,ha⟩=>by
  refine⟨v,e,h1,?_⟩;split at ha
  .exact ha
  .obtain⟨l,hv,ha,hO⟩:=ha;exact⟨l,hv,Qq f ha,hO⟩
 | .owns m,ho,_,_,_,f,⟨v,e,h1,ha⟩=>by
  refine⟨v,e,h1,?_⟩;split at ha
  .exact ha
  .obtain⟨he,l,Os,hv,ha,hO⟩:=ha;exact⟨he,l,Os,hv,uS (λ_ _=>rfl) (λi x es O _ hr=>Dq f hr) ha,hO⟩
 | .ownb t,_,_,_,_,f,⟨l,v,e,hv,ha,hO⟩=>⟨l,v,e,hv,Qq f ha,hO⟩| .rp t,_,_,_,_,f,⟨v,e,⟨b,o,es,hv,hb,hc,hp⟩,h2⟩=>⟨v,e,⟨b,o,es,hv,f _ _ hb (by simp[M.occ]),hc,yG (λb u h k=>f b u h (by simp[M.occ,k])) hp⟩,h2⟩| .fn g ts,_,_,_,_,f,⟨vs,e,h1,h2⟩=>⟨vs,e,UC f h1,h2⟩| .ifc t m,_,_,_,_,f,⟨u,e,h1⟩=>⟨u,e,Dq f h1⟩| .cell _,_,_,_,_,_,h=>h| .fr t,_,_,_,_,f,⟨l,v,e,hv,ha,hk,hO⟩=>⟨l,v,e,hv,Qq (λb u h k=>f b u h (by simp[M.occ,k])) ha,λb h=>f b t (hk b h) (by simp[M.occ]),hO⟩| .sbx _ _,_,_,_,_,f,h=>h| .lp t,_,_,_,_,f,⟨v,e,⟨b,o,es,hv,hb,hc,hp⟩,h2⟩=>⟨v,e,⟨b,o,es,hv,f _ _ hb (by simp[M.occ]),hc,yG (λb u h k=>f b u h (by simp[M.occ,k])) hp⟩,h2⟩| .dv ..,_,_,_,_,f,h=>h| .ownr m o,_,_,_,_,f,⟨v,e,h1,he,h0,l,Os,hv,ha,hO⟩=>⟨v,e,h1,he,h0,l,Os,hv,uS (λ_ _=>rfl) (λi x es O _ hr=>Dq f hr) ha,hO⟩| .sit,_,_,_,_,f,h=>h
theorem VW{h:Array Obj}{ok ok' :Nat->Ty->Prop} :∀{ms:List MG} {x:U0 ms} {vs:c6H} {O:c6I},(∀b u,ok b u->KP u ms=true->ok' b u)->mg h ok ms x vs O->mg h ok' ms x vs O
 |[],_,_,_,_,e=>e|[m],_,_,_,f,⟨v,cs,e,hg,hr⟩=>⟨v,cs,e,hg,Dq (λb u h k=>f b u h (by simp[KP,k])) hr⟩|m::m' ::r,_,_,_,f,⟨v,cs,vs',O1,O2,e,eo,hg,h1,h2⟩=>
  ⟨v,cs,vs',O1,O2,e,eo,hg,Dq (λb u h k=>f b u h (by simp[KP,k])) h1,VW (λb u h k=>f b u h (by rw[KP,k];simp)) h2⟩
theorem PH{u:Ty} :∀{a b:List MG},KP u (a++b)=(KP u a || KP u b)
 |[],_=>rfl|m::a,b=>by simp[KP,PH,Bool.or_assoc]
theorem QR:∀{fs:List (Nat×FSpec)} {f:Nat} {vs:List V} {s:FSpec},XZ fs f vs=some s->(f,s)∈fs
 |[],_,_,_,h=>by simp[XZ]at h|(g,s')::r,f,vs,s,h=>by
  unfold XZ at h;cases hb:(Nat.beq g f&&NU s'.ps vs)
  .rw[hb]at h;exact U5 _ (QR h)
  .rw[hb]at h;simp only[cond_true,G8]at h;subst h;simp only[D6]at hb;have:=eU hb.1;subst this;exact iC
theorem b3b{l l0:Loc}(h:l.view none v)(h0:l0.view none v)(hs:∀b o n c s b' o' n' c' s',l= .arr b o n c s->l0= .arr b' o' n' c' s' ->s=s'):l=l0:=by
 cases l<;>cases l0<;>simp only[Loc.view]at h h0
 .rfl
 .rw[h]at h0;cases h0
 .rw[h]at h0;cases h0
 .rw[h]at h0;cases h0
 .rw[h]at h0;simp only[qC,G8,iM,and_true]at h0;obtain⟨⟨rfl,rfl⟩,rfl,rfl⟩:=h0;have:=hs _ _ _ _ _ _ _ _ _ _ rfl rfl;subst this;rfl
 .rw[h]at h0;cases h0
 .rw[h]at h0;cases h0
 .rw[h]at h0;cases h0
 .rw[h]at h0;cases h0;rfl
theorem Hf{h:Array Obj}{ok:Nat->Ty->Prop} :∀{ms:List MG} {x:U0 ms} {vs:c6H} {O:c6I},mg h ok ms x vs O->vs.length=ms.length
 |[],_,_,_,e=>by simp[e.1]|[m],_,_,_,⟨v,cs,e,hg,hr⟩=>by simp[e]|m::m' ::r,_,_,_,⟨v,cs,vs',O1,O2,e,eo,hg,h1,h2⟩=>by have:=Hf h2;subst e;simp[this]
variable {q:Nat}{f:FuncId}{vs:List V}{vals:c6H}{c:Call}
section
variable {X:Fx} {cl ch:Nat} {S:Sm} {m:Mp} {ok:Nat->Ty->Prop} {a:Act} {w:World} {o:Oper}
theorem aJ{α:Type}{Q:α->Sm->Prop}{h0:Array Obj}{ok0:Nat->Ty->Prop}{m0:Mp} :∀(ms:List MG) {vs:List V} {vals:c6H} {ws:List V} {os:c6H} {B:c6I} {K:Cmd α} {S:Sm}
  (R:Rel X cl ch S m ok a w) (hm:∀k l,m0 k=some l->m k=some l) (hT:Tk X S m ok w B) (hv:gZ ⟨h0,ok0,m0⟩ vs vals) (ho:tX w.heap ms vals os B) (hw:gZ ⟨w.heap,ok,m⟩ ws os)
  (hK:∀S',Rel X cl ch S' m ok a w->K.post S' Q),(aj ms vs ws K).post S Q
 |[],vs,vals,ws,os,B,K,S,R,hm,hT,hv,ho,hw,hK=>by
  cases vs with
  |cons _ _=>unfold aj;trivial|nil=>
   cases ws with
   |cons _ _=>unfold aj;trivial|nil=>unfold aj;exact hK S R
 |(g,.dat t)::ms,vs,vals,ws,os,B,K,S,R,hm,hT,hv,ho,hw,hK=>by
  cases vs with
  |nil=>unfold aj;trivial|cons v vs=>obtain⟨x,r,rfl,h1,h2⟩:=hv;unfold aj;exact aJ ms R hm hT h2 ho hw hK
 |(g,.own t)::ms,vs,vals,ws,os,B,K,S,R,hm,hT,hv,ho,hw,hK=>by
  cases vs with
  |nil=>unfold aj;trivial|cons v vs=>obtain⟨x,r,rfl,h1,h2⟩:=hv;unfold aj;exact aJ ms R hm hT h2 ho hw hK
 |(g,.pair p q)::ms,vs,vals,ws,os,B,K,S,R,hm,hT,hv,ho,hw,hK=>by
  cases vs with
  |nil=>unfold aj;trivial|cons v vs=>obtain⟨x,r,rfl,h1,h2⟩:=hv;unfold aj;exact aJ ms R hm hT h2 ho hw hK
 |(g,.unit)::ms,vs,vals,ws,os,B,K,S,R,hm,hT,hv,ho,hw,hK=>by
  cases vs with
  |nil=>unfold aj;trivial|cons v vs=>obtain⟨x,r,rfl,h1,h2⟩:=hv;unfold aj;exact aJ ms R hm hT h2 ho hw hK
 |(g,.cell _)::ms,vs,vals,ws,os,B,K,S,R,hm,hT,hv,ho,hw,hK=>by
  cases vs with
  |nil=>unfold aj;trivial|cons v vs=>obtain⟨x,r,rfl,h1,h2⟩:=hv;unfold aj;exact aJ ms R hm hT h2 ho hw hK
 |(g,.fr _)::ms,vs,vals,ws,os,B,K,S,R,hm,hT,hv,ho,hw,hK=>by
  cases vs with
  |nil=>unfold aj;trivial|cons v vs=>obtain⟨x,r,rfl,h1,h2⟩:=hv;unfold aj;exact aJ ms R hm hT h2 ho hw hK
 |(g,.box md)::ms,vs,vals,ws,os,B,K,S,R,hm,hT,hv,ho,hw,hK=>by
  cases vs with
  |nil=>unfold aj;trivial|cons v0 vs=>
  cases v0<;>try (unfold aj;trivial)
  case ptr bx off=>
  cases ws with
  |nil=>unfold aj;trivial|cons o0 ws=>
  cases o0<;>try (unfold aj;trivial)
  case agg cs=>
   unfold aj;refine X7 ?_;split<;>try trivial
   rename_i hS;refine gG ?_;obtain⟨x,r,rfl,h1,h2⟩:=hv;obtain⟨y,r',rfl,h3,h4⟩:=hw;obtain⟨b,arr,T,os',B',e1,hh,e2,rfl,ho'⟩:=ho;simp only[I7]at e2;obtain⟨rfl,rfl⟩:=e2;obtain⟨blk,hmb,e3⟩:=h1;subst e1;simp only[oq,G8,iM,and_true]at e3;obtain⟨rfl,rfl⟩:=e3;obtain⟨arr',e4,hl⟩:=h3;simp only[Value.agg.injEq]at e4;subst e4;have hmb' :=hm _ _ hmb;obtain⟨R',T'⟩:=R.backV (n:=bx) (v:=.bcells cs) (O1:=[b]) (B:=B') D5 (by simpa using hT) (by simp[U2,hmb']) ⟨b,_,T,hmb',hh,hl⟩;exact aJ ms R' hm T' h2 ho' h4 hK
 |(g,.ifc t (.box md))::ms,vs,vals,ws,os,B,K,S,R,hm,hT,hv,ho,hw,hK=>by
  cases vs with
  |nil=>unfold aj;trivial|cons v0 vs=>
  cases v0<;>try (unfold aj;trivial)
  case ifc t' v1=>
  cases v1<;>try (unfold aj;trivial)
  case ptr bx off=>
  cases ws with
  |nil=>unfold aj;trivial|cons o0 ws=>
  cases o0<;>try (unfold aj;trivial)
  case agg cs=>
   unfold aj;refine X7 ?_;split<;>try trivial
   rename_i hS;refine gG ?_;obtain⟨x,r,rfl,h1,h2⟩:=hv;obtain⟨y,r',rfl,h3,h4⟩:=hw;obtain⟨t2,b,arr,T,os',B',e1,hh,e2,rfl,ho'⟩:=ho;simp only[I7]at e2;obtain⟨rfl,rfl⟩:=e2;obtain⟨u,e5,_,h1⟩:=h1;obtain⟨blk,hmb,e3⟩:=h1;subst e1;subst e3;simp only[Value.iface.injEq,oq,G8,iM,and_true]at e5;obtain⟨rfl,rfl,rfl⟩:=e5;obtain⟨arr',e4,hl⟩:=h3;simp only[Value.agg.injEq]at e4;subst e4;have hmb' :=hm _ _ hmb;obtain⟨R',T'⟩:=R.backV (n:=bx) (v:=.bcells cs) (O1:=[b]) (B:=B') D5 (by simpa using hT) (by simp[U2,hmb']) ⟨b,_,T,hmb',hh,hl⟩;exact aJ ms R' hm T' h2 ho' h4 hK
 |(g,.ownb t)::ms,vs,vals,ws,os,B,K,S,R,hm,hT,hv,ho,hw,hK=>by
  cases vs with
  |nil=>unfold aj;trivial|cons v0 vs=>
  obtain⟨x,r,rfl,h1,h2⟩:=hv;obtain⟨os',rfl,ho'⟩:=ho;cases v0<;>try (unfold aj;trivial)
  case nl=>
   cases ws with
   |nil=>unfold aj;trivial|cons o0 ws=>
   cases o0<;>try (unfold aj;trivial)
   case own nm vw=>
   cases vw with
   |some _=>unfold aj;trivial|none=>
   unfold aj;obtain⟨y,r',e,h3,h4⟩:=hw;simp only[I7]at e;obtain⟨rfl,rfl⟩:=e;refine gG ?_;have T1:=Tk.kill R hT nm (bs:=[]) (λb h=>by cases h) bu;rw[G7]at T1;exact aJ ms (R.kill nm) hm T1 h2 ho' h4 hK
  case own bx vw=>
   cases vw with
   |some _=>unfold aj;trivial|none=>
   cases ws with
   |nil=>unfold aj;trivial|cons o0 ws=>
   cases o0<;>try (unfold aj;trivial)
   case own nm vw=>
   cases vw with
   |some _=>unfold aj;trivial|none=>
   unfold aj;obtain⟨y,r',e,h3,h4⟩:=hw;simp only[I7]at e;obtain⟨rfl,rfl⟩:=e;obtain⟨l0,hm0,hv0⟩:=h1;obtain⟨l,hml,hvl⟩:=h3;have hm0' :=hm _ _ hm0;refine X7 ?_;split<;>try trivial
   rename_i u xs hS;refine gG (X7 ?_);split<;>try trivial
   rename_i t' hS2;refine jy λe=>?_;subst e;refine gG ?_;obtain⟨l',hml',ha⟩:=R.own_arr hS;simp only at hml;rw[hml]at hml';cases hml';have R1:=R.kill nm;have hob:U2 m nm (S (X9+nm))=l.blks:=by rw[hS];cases l<;>first|(simp[U2,hml,Loc.blks];done)|cases ha
   have T1:=Tk.kill R hT nm (bs:=l.blks) (λb h=>by rw[hob];exact h) (Loc.blks_nodup l);have hg:=R1.box bx;rw[hS2]at hg;obtain⟨l1,hm1,hsz⟩:=hg;simp only at hm1;rw[hm0']at hm1;cases hm1;have hll:l=l0:=b3b hvl hv0 (λb o n c s b' o' n' c' s' e1 e2=>by subst e1;rw[hsz _ _ _ _ _ e2];exact ha.2.1);subst hll;obtain⟨R',T'⟩:=R1.backV (n:=bx) (v:=.barr u xs) (O1:=l.blks) (B:=B) D5 (T1.perm jE) (by cases l<;>first|(simp[U2,hm0',Loc.blks];done)|cases ha) ⟨l,hm0',ha⟩;exact aJ ms R' hm T' h2 ho' h4 hK
 |(g,.lp _)::ms,vs,vals,ws,os,B,K,S,R,hm,hT,hv,ho,hw,hK=>by
  cases vs with
  |nil=>unfold aj;trivial|cons v vs=>obtain⟨x,r,rfl,h1,h2⟩:=hv;unfold aj;exact aJ ms R hm hT h2 ho hw hK
 |(g,.ownr ..)::ms,vs,vals,ws,os,B,K,S,R,hm,hT,hv,ho,hw,hK=>by
  cases vs with
  |nil=>unfold aj;trivial|cons v vs=>obtain⟨x,r,rfl,h1,h2⟩:=hv;unfold aj;exact aJ ms R hm hT h2 ho hw hK
 |(g,.dv ..)::ms,vs,vals,ws,os,B,K,S,R,hm,hT,hv,ho,hw,hK=>by
  cases vs with
  |nil=>unfold aj;trivial|cons v vs=>obtain⟨x,r,rfl,h1,h2⟩:=hv;unfold aj;exact aJ ms R hm hT h2 ho hw hK
 |(g,.sit)::ms,vs,vals,ws,os,B,K,S,R,hm,hT,hv,ho,hw,hK=>by cases vs<;>(unfold aj;trivial)|(g,.sbx _ _)::ms,vs,vals,ws,os,B,K,S,R,hm,hT,hv,ho,hw,hK=>by
  cases vs with
  |nil=>unfold aj;trivial|cons v0 vs=>
  obtain⟨x,r,rfl,h1,h2⟩:=hv;obtain⟨os',rfl,ho'⟩:=ho;cases v0<;>try (unfold aj;trivial)
  case ptr bx off=>
  cases ws with
  |nil=>unfold aj;trivial|cons o0 ws=>
  cases o0<;>try (unfold aj;trivial)
  case ptr nm off' =>
   unfold aj;obtain⟨y,r',e,h3,h4⟩:=hw;simp only[I7]at e;obtain⟨rfl,rfl⟩:=e;obtain⟨b0,hm0,hv0⟩:=h1;obtain⟨b1,hm1,hv1⟩:=h3;have hm0' :=hm _ _ hm0;have hbb:b0=b1:=by rw[hv0]at hv1;simp only[oq,G8,iM,and_true]at hv1;exact hv1.1
   subst hbb;refine X7 ?_;split<;>try trivial
   rename_i tb0 c hS;refine gG (X7 ?_);split<;>try trivial
   rename_i hS2;refine gG ?_;have hb:=R.box nm;rw[hS]at hb;obtain⟨blk',a0,v0,hm',hh,hs,g1⟩:=hb;simp only at hm1 hm';rw[hm1]at hm';cases hm';have R1:=R.kill nm;have T1:=Tk.kill R hT nm (bs:=[b0]) (λb h=>by rw[hS];simp[U2,hm1];simpa using h) D5;obtain⟨R',T'⟩:=R1.backV (n:=bx) (v:=.bsb tb0 c) (O1:=[b0]) (B:=B) D5 (T1.perm jE) (by simp[U2,hm0']) ⟨b0,a0,v0,hm0',hh,hs,g1⟩;exact aJ ms R' hm T' h2 ho' h4 hK
 |(g,.owns md)::ms,vs,vals,ws,os,B,K,S,R,hm,hT,hv,ho,hw,hK=>by
  cases vs with
  |nil=>unfold aj;trivial|cons v vs=>obtain⟨x,r,rfl,h1,h2⟩:=hv;unfold aj;exact aJ ms R hm hT h2 ho hw hK
 |(g,.rp t)::ms,vs,vals,ws,os,B,K,S,R,hm,hT,hv,ho,hw,hK=>by
  cases vs with
  |nil=>unfold aj;trivial|cons v vs=>obtain⟨x,r,rfl,h1,h2⟩:=hv;unfold aj;exact aJ ms R hm hT h2 ho hw hK
 |(g,.fn f ts)::ms,vs,vals,ws,os,B,K,S,R,hm,hT,hv,ho,hw,hK=>by
  cases vs with
  |nil=>unfold aj;trivial|cons v vs=>obtain⟨x,r,rfl,h1,h2⟩:=hv;unfold aj;exact aJ ms R hm hT h2 ho hw hK
 |(g,.ifc t (.dat u))::ms,vs,vals,ws,os,B,K,S,R,hm,hT,hv,ho,hw,hK=>by
  cases vs with
  |nil=>unfold aj;trivial|cons v vs=>obtain⟨x,r,rfl,h1,h2⟩:=hv;unfold aj;exact aJ ms R hm hT h2 ho hw hK
 |(g,.ifc t (.own u))::ms,vs,vals,ws,os,B,K,S,R,hm,hT,hv,ho,hw,hK=>by
  cases vs with
  |nil=>unfold aj;trivial|cons v vs=>obtain⟨x,r,rfl,h1,h2⟩:=hv;unfold aj;exact aJ ms R hm hT h2 ho hw hK
 |(g,.ifc t (.pair p q))::ms,vs,vals,ws,os,B,K,S,R,hm,hT,hv,ho,hw,hK=>by
  cases vs with
  |nil=>unfold aj;trivial|cons v vs=>obtain⟨x,r,rfl,h1,h2⟩:=hv;unfold aj;exact aJ ms R hm hT h2 ho hw hK
 |(g,.ifc t (.unit))::ms,vs,vals,ws,os,B,K,S,R,hm,hT,hv,ho,hw,hK=>by
  cases vs with
  |nil=>unfold aj;trivial|cons v vs=>obtain⟨x,r,rfl,h1,h2⟩:=hv;unfold aj;exact aJ ms R hm hT h2 ho hw hK
 |(g,.ifc t (.cell _))::ms,vs,vals,ws,os,B,K,S,R,hm,hT,hv,ho,hw,hK=>by
  cases vs with
  |nil=>unfold aj;trivial|cons v vs=>obtain⟨x,r,rfl,h1,h2⟩:=hv;unfold aj;exact aJ ms R hm hT h2 ho hw hK
 |(g,.ifc t (.lp _))::ms,vs,vals,ws,os,B,K,S,R,hm,hT,hv,ho,hw,hK=>by
  cases vs with
  |nil=>unfold aj;trivial|cons v vs=>obtain⟨x,r,rfl,h1,h2⟩:=hv;unfold aj;exact aJ ms R hm hT h2 ho hw hK
 |(g,.ifc t (.ownr ..))::ms,vs,vals,ws,os,B,K,S,R,hm,hT,hv,ho,hw,hK=>by
  cases vs with
  |nil=>unfold aj;trivial|cons v vs=>obtain⟨x,r,rfl,h1,h2⟩:=hv;unfold aj;exact aJ ms R hm hT h2 ho hw hK
 |(g,.ifc t (.dv ..))::ms,vs,vals,ws,os,B,K,S,R,hm,hT,hv,ho,hw,hK=>by
  cases vs with
  |nil=>unfold aj;trivial|cons v vs=>obtain⟨x,r,rfl,h1,h2⟩:=hv;unfold aj;exact aJ ms R hm hT h2 ho hw hK
 |(g,.ifc t (.fr _))::ms,vs,vals,ws,os,B,K,S,R,hm,hT,hv,ho,hw,hK=>by
  cases vs with
  |nil=>unfold aj;trivial|cons v vs=>obtain⟨x,r,rfl,h1,h2⟩:=hv;unfold aj;exact aJ ms R hm hT h2 ho hw hK
 |(g,.ifc t (.owns md))::ms,vs,vals,ws,os,B,K,S,R,hm,hT,hv,ho,hw,hK=>by
  cases vs with
  |nil=>unfold aj;trivial|cons v vs=>obtain⟨x,r,rfl,h1,h2⟩:=hv;unfold aj;exact aJ ms R hm hT h2 ho hw hK
 |(g,.ifc t .sit)::ms,vs,vals,ws,os,B,K,S,R,hm,hT,hv,ho,hw,hK=>by
  cases vs with
  |nil=>unfold aj;trivial|cons v vs=>obtain⟨x,r,rfl,h1,h2⟩:=hv;unfold aj;exact aJ ms R hm hT h2 ho hw hK
 |(g,.ifc t (.sbx _ _))::ms,vs,vals,ws,os,B,K,S,R,hm,hT,hv,ho,hw,hK=>by
  cases vs with
  |nil=>unfold aj;trivial|cons v vs=>obtain⟨x,r,rfl,h1,h2⟩:=hv;unfold aj;exact aJ ms R hm hT h2 ho hw hK
 |(g,.ifc t (.ownb u))::ms,vs,vals,ws,os,B,K,S,R,hm,hT,hv,ho,hw,hK=>by
  cases vs with
  |nil=>unfold aj;trivial|cons v vs=>obtain⟨x,r,rfl,h1,h2⟩:=hv;unfold aj;exact aJ ms R hm hT h2 ho hw hK
 |(g,.ifc t (.rp u))::ms,vs,vals,ws,os,B,K,S,R,hm,hT,hv,ho,hw,hK=>by
  cases vs with
  |nil=>unfold aj;trivial|cons v vs=>obtain⟨x,r,rfl,h1,h2⟩:=hv;unfold aj;exact aJ ms R hm hT h2 ho hw hK
 |(g,.ifc t (.fn f ts))::ms,vs,vals,ws,os,B,K,S,R,hm,hT,hv,ho,hw,hK=>by
  cases vs with
  |nil=>unfold aj;trivial|cons v vs=>obtain⟨x,r,rfl,h1,h2⟩:=hv;unfold aj;exact aJ ms R hm hT h2 ho hw hK
 |(g,.ifc t (.ifc t2 md))::ms,vs,vals,ws,os,B,K,S,R,hm,hT,hv,ho,hw,hK=>by
  cases vs with
  |nil=>unfold aj;trivial|cons v vs=>obtain⟨x,r,rfl,h1,h2⟩:=hv;unfold aj;exact aJ ms R hm hT h2 ho hw hK
theorem Ea{P:Program}{w:World}{fn:Func}(hf:P.funcs[f]? =some fn)(hb:fn.body.isSome=true)(hn:(fn.name== "runtime.NumGoroutine")=false)(args:Array Value):
  (callFunc f args).run P w= .ok (.enter f args) w:=by
 have hb' :¬fn.body=none:=by intro e;rw[e]at hb;cases hb
 have hn' :¬fn.name= "runtime.NumGoroutine":=by intro e;rw[e]at hn;simp at hn
 simp[callFunc,hf,hn',hb']
theorem a5D(H:FxOk X)(R:Rel X (CB*q) (CB*q+CB) S m ok a w){h0:Array Obj}{ok0:Nat->Ty->Prop}{s:FSpec}{r:U0 (s.rs++s.outs)}{rs os:c6H}{O' B:c6I}
  (hT:Tk X S m ok w (O' ++B)) (hv:gZ ⟨h0,ok0,m⟩ vs vals) (hret:OH s.rs.length v rs) (ho:tX w.heap s.ps vals os B) (hr:mg w.heap ok (s.rs++s.outs) r (rs++os) O') {Q:Unit->Sm->Prop}
  (hK:∀S' m',Rel X (CB*q) (CB*q+CB) S' m' ok (a.put o.dst v) w->(∀k l,m k=some l->m' k=some l)->Q () S'):
  (EH (s.rs++s.outs) r (O8 q o.dst) λws n' =>bif Nat.ble n' (O8 q o.dst+64)then(match Fp s.rs.length ws with
    |some (a,o')=>bif Dx a then .fail else aj s.ps vs o' (dY X.E o.dst (a6r a))
    |none=> .fail)else .fail).post S Q:=by
 have hcl:CB*q<=O8 q o.dst:=by
  cases o.dst with
  |none=>exact dU _ _|some t=>exact dU _ _
 refine EI (T:=B) _ R hcl hT hr λS1 m1 ws n1 ch1 R1 c1 T1 k1 s1 l1 e1=>bP λhle=>?_;have hle' :=S9 hle;split<;>try trivial
 rename_i p p' hsp;obtain⟨rfl,hpl⟩:=Yq _ _ _ _ hsp;obtain⟨l2,l3⟩:=Tc (by rw[hpl,hret.1]) l1;cases ht:Dx p
 .simp only[cond_false];refine aJ s.ps R1 k1 T1 hv ho l3 λS2 R2=>?_;have hres:=a9a ht l2 hret;cases hd:o.dst with
  |none=>have hin:=qN H (q:=q) none (λt h=>by cases h);rw[hd]at hle' hK;exact hK S2 m1 (R2.chmono (by generalize CB*q=Z at*;generalize O8 q none=N at*;omega)) k1
  |some t=>unfold dY;refine bP λhb=>?_;have hin:=qN H (q:=q) (some t) (λt' h=>by cases h;exact(zK hb).1);rw[hd]at hle' hK;have R3:Rel X (CB*q) (CB*q+CB) S2 m1 ok a w:=R2.chmono (by generalize CB*q=Z at*;generalize O8 q (some t)=N at*;omega);exact hK _ m1 (R3.put H.ntB hb hres) k1
 .trivial
theorem Xv(H:FxOk X){s:FSpec}(hvs:gZ ⟨w.heap,ok,m⟩ vs vals){S1:Sm}{ok1:Nat->Ty->Prop}(R1:Rel X (CB*q) (CB*q+CB) S1 m ok1 a w){O:c6I}(T1:Tk X S1 m ok1 w O)
  (k1:∀b t,ok b t->ok1 b t) {okc:Nat->Ty->Prop} (hokc:okL (KH s) S1 m ok1=okc) {r:U0 (s.rs++s.outs)}
  (hC:Calls X.P f vals.toArray w λe w' =>∃v ok' O' rs os B,e= .returned v/\Frame' w w' O/\(∀b t,okc b t->ok' b t)/\(∀b t,ok' b t->b<w'.heap.size/\(okc b t\/w.heap.size<=b\/b∈O))/\
   (O' ++B).Nodup/\(∀b∈O' ++B,(∀t,¬ok' b t)/\b<w'.heap.size/\(w.heap.size<=b\/b∈O))/\
   OH s.rs.length v rs/\tX w'.heap s.ps vals os B/\mg w'.heap ok' (s.rs++s.outs) r (rs++os) O')
  (hrun:(execOp a.eval o).run X.P w= .ok (.enter f vals.toArray) w):
  (EH (s.rs++s.outs) r (O8 q o.dst) λws n' =>bif Nat.ble n' (O8 q o.dst+64)then(match Fp s.rs.length ws with
   |some (a,o')=>bif Dx a then .fail else aj s.ps vs o' (dY X.E o.dst (a6r a))
   |none=> .fail)else .fail).post S1 (λ_ S' =>jO X (CB*q) (CB*q+CB) o a w m ok S'):=by
 have c1:∀b t,ok1 b t->okc b t:=λb t h=>by rw[←hokc];exact .inl h
 have hsep1:∀b t,ok1 b t->∀n,b∉U2 m n (S1 (X9+n)):=λb t h n e=>(R1.sep n b e).1 t h;have hown:∀b,(w.heap.size<=b\/b∈O)->(X.w0.heap.size<=b\/b∈X.O)/\∀n,b∉U2 m n (S1 (X9+n)):=λb hb=>by
  rcases hb with hb|hb
  .have:=R1.frame.size;exact⟨.inl o5,λn e=>by have:=(R1.sep n b e).2.1;omega⟩
  .exact(T1.free b hb).2.2
 revert hC;generalize hPost:(λ(e:Ending) (w' :World)=>∃v ok' O' rs os B,e= .returned v/\Frame' w w' O/\(∀b t,okc b t->ok' b t)/\(∀b t,ok' b t->b<w'.heap.size/\(okc b t\/w.heap.size<=b\/b∈O))/\
  (O' ++B).Nodup/\(∀b∈O' ++B,(∀t,¬ok' b t)/\b<w'.heap.size/\(w.heap.size<=b\/b∈O))/\
  OH s.rs.length v rs/\tX w'.heap s.ps vals os B/\mg w'.heap ok' (s.rs++s.outs) r (rs++os) O')=Post
 intro hC;have hall:∀p: { p:Ending×World // Post p.1 p.2 },(EH (s.rs++s.outs) r (O8 q o.dst) λws n' =>bif Nat.ble n' (O8 q o.dst+64)then(match Fp s.rs.length ws with
   |some (a,o')=>bif Dx a then .fail else aj s.ps vs o' (dY X.E o.dst (a6r a))
   |none=> .fail)else .fail).post S1 (λ_ S' =>∃v m' okf,p.1.1= .returned v/\Rel X (CB*q) (CB*q+CB) S' m' okf (a.put o.dst v) p.1.2/\(∀k l,m k=some l->m' k=some l)/\(∀b t,ok b t->okf b t)):=by
  rintro⟨⟨e,w'⟩,hp⟩;rw[←hPost]at hp;obtain⟨v,ok',O',rs,os,B,rfl,fr,k2,hok',hnd,hfr,hret,houts,hrel'⟩:=hp;have k3:∀b t,ok1 b t->(ok' b t/\∀n,b∉U2 m n (S1 (X9+n))):=λb t h=>⟨k2 b t (c1 b t h),hsep1 b t h⟩;have R2:Rel X (CB*q) (CB*q+CB) S1 m (λb t=>ok' b t/\∀n,b∉U2 m n (S1 (X9+n))) a w' :=by
   refine R1.world fr.os fr.tape fr.output fr.size (λb hb h=>fr.block b hb λhO=>?_) k3 (λb t h=>⟨(hok' b t h.1).1,?_⟩)
   .obtain⟨f1,f2,f3,f4⟩:=T1.free b hO;rcases h with⟨t,h⟩|⟨n,h⟩|h
    .exact f1 t h
    .exact f4 n h
    .exact h f3
   .rcases(hok' b t h.1).2 with h'|h'
    .rw[←hokc]at h';rcases h' with h'|⟨_,n,h',_⟩
     .exact .inl h'
     .exact absurd h' (h.2 n)
    .exact .inr (hown b h')
  have hrel2:mg w'.heap (λb t=>ok' b t/\∀n,b∉U2 m n (S1 (X9+n))) (s.rs++s.outs) r (rs++os) O' :=by
   refine VW (λb u h k=>⟨h,λn e=>?_⟩) hrel';rcases(hok' b u h).2 with h'|h'
   .rw[←hokc]at h';rcases h' with h'|⟨hl,_⟩
    .exact hsep1 b u h' n e
    .rw[PH]at k;unfold KH at hl;rw[k]at hl;cases hl
   .exact(hown b h').2 n e
  refine a5D H R2 (h0:=w.heap) (ok0:=ok) (vals:=vals) (rs:=rs) (os:=os) (O' :=O') (B:=B) (v:=v) ⟨hnd,λb hb=>?_⟩ hvs hret houts hrel2 λS' m' R' km=>⟨v,m',_,rfl,R',km,λb t hb=>k3 b t (k1 b t hb)⟩;obtain⟨g1,g2,g3⟩:=hfr b hb;obtain⟨f2,f3⟩:=hown b g3;exact⟨λt h=>g1 t h.1,g2,f2,f3⟩
 refine uJ ?_ (Iu hall);intro _ S' hS' next Q hn
 unfold Oper.wp;rw[hrun,tu];refine Calls.mono hC λe w' hp=>?_;obtain⟨v,m',okf,he,R',km,kok⟩:=hS' ⟨(e,w'),hp⟩;simp only at he;subst he;exact hn m' okf _ w' R' km kok
theorem OU(H:FxOk X)(R:Rel X (CB*q) (CB*q+CB) S m ok a w)(hvs:gZ ⟨w.heap,ok,m⟩ vs vals)
  (run:∀fn,X.P.funcs[f]? =some fn->fn.body.isSome=true->(fn.name== "runtime.NumGoroutine")=false->(execOp a.eval o).run X.P w= .ok (.enter f vals.toArray) w):
  (Xu X.E q o.dst f vs).post S (λ_ S' =>jO X (CB*q) (CB*q+CB) o a w m ok S'):=by
 unfold Xu;cases hPB:Nat.ble 1000000000 f
 case true=>trivial
 simp only[cond_false];split
 .trivial
 rename_i s hs;have hmem:=QR hs;have hF:=H.fs _ hmem;unfold a5x at hF;simp only[PB,hPB,cond_false]at hF;obtain⟨fn,hf,hb,hnm⟩:=H.fn _ hmem;simp only[a5M,PB,hPB,cond_false]at hf;have hrun:=run fn hf hb hnm;refine I_ R hvs s.ps hvs λhdv=>?_;refine EL (ln:=KH s) (T:=[]) s.ps R Tk.nil hvs λS1 ok1 x O R1 T1 k1 s1 hrel=>dM λr hr=>?_;simp only[J4]at T1;generalize hokc:okL (KH s) S1 m ok1=okc at hrel;have c1:∀b t,ok1 b t->okc b t:=λb t h=>by rw[←hokc];exact .inl h
 have hsep1:∀b t,ok1 b t->∀n,b∉U2 m n (S1 (X9+n)):=λb t h n e=>(R1.sep n b e).1 t h;have hlt:∀b t,okc b t->b<w.heap.size:=λb t h=>by
  rw[←hokc]at h;rcases h with h|⟨_,n,h,_⟩
  .exact R1.okLt b t h
  .exact(R1.sep n b h).2.1
 have hfree:∀b∈O,(∀t,¬okc b t)/\b<w.heap.size:=λb hb=>by
  obtain⟨f1,f2,f3,f4⟩:=T1.free b hb;refine⟨λt h=>?_,f2⟩;rw[←hokc]at h;rcases h with h|⟨_,n,h,_⟩
  .exact f1 t h
  .exact f4 n h
 have hC:=hF w okc O _ x r hlt T1.nodup hfree (λg u hg=>by obtain⟨g1,g3,g2⟩:=R1.gl g u hg;refine⟨c1 _ _ g1,g3,λi y hi=>?_⟩;obtain⟨es,he,hr⟩:=g2 i y hi;exact⟨es,he,gX c1 (λ_ _ _=>rfl) hr⟩) hrel hdv hr
 exact Xv H hvs R1 T1 k1 hokc hC hrun
theorem a6R(H:FxOk X)(R:Rel X (CB*q) (CB*q+CB) S m ok a w)(hvs:gZ ⟨w.heap,ok,m⟩ vs vals)
  (run:∀fn,X.P.funcs[f]? =some fn->fn.body.isSome=true->(fn.name== "runtime.NumGoroutine")=false->(execOp a.eval o).run X.P w= .ok (.enter f vals.toArray) w):
  (a6Q X.E q o.dst f vs).post S (λx S' =>match x with|none=>jO X (CB*q) (CB*q+CB) o a w m ok S'|some c=>c≠0/\b3h X (CB*q) (CB*q+CB) o a w m ok c S'):=by
 unfold a6Q;split
 .trivial
 rename_i s hs;have hmem:=QR hs;have hF:=H.fs _ hmem;have hPB:Nat.ble 1000000000 (1000000000+f)=true:=qZ (dU _ _);have hsub:1000000000+f -1000000000=f:=Nat.add_sub_cancel_left _ _;unfold a5x at hF;simp only[PB,hPB,cond_true,hsub]at hF;obtain⟨fn,hf,hb,hnm⟩:=H.fn _ hmem;simp only[a5M,PB,hPB,cond_true,hsub]at hf;have hrun:=run fn hf hb hnm;obtain⟨ps,rs,outs,fn0⟩:=s;obtain⟨rs0,h,hF⟩:=hF;subst h;simp only at hF;show(a1M X.E q o.dst vs ps (cd::rs0) outs fn0).post S _;unfold a1M;refine I_ R hvs ps hvs λhdv=>?_;refine EL (ln:=KH ⟨ps,rs0,outs,λ_=>none⟩) (T:=[]) ps R Tk.nil hvs λS1 ok1 x O R1 T1 k1 s1 hrel=>dM λr hr=>?_;simp only[J4]at T1;generalize hokc:okL (KH ⟨ps,rs0,outs,λ_=>none⟩) S1 m ok1=okc at hrel;have c1:∀b t,ok1 b t->okc b t:=λb t h=>by rw[←hokc];exact .inl h
 have hlt:∀b t,okc b t->b<w.heap.size:=λb t h=>by
  rw[←hokc]at h;rcases h with h|⟨_,n,h,_⟩
  .exact R1.okLt b t h
  .exact(R1.sep n b h).2.1
 have hfree:∀b∈O,(∀t,¬okc b t)/\b<w.heap.size:=λb hb=>by
  obtain⟨f1,f2,f3,f4⟩:=T1.free b hb;refine⟨λt h=>?_,f2⟩;rw[←hokc]at h;rcases h with h|⟨_,n,h,_⟩
  .exact f1 t h
  .exact f4 n h
 have hC:=hF w okc O _ x r hlt T1.nodup hfree (λg u hg=>by obtain⟨g1,g3,g2⟩:=R1.gl g u hg;refine⟨c1 _ _ g1,g3,λi y hi=>?_⟩;obtain⟨es,he,hr⟩:=g2 i y hi;exact⟨es,he,gX c1 (λ_ _ _=>rfl) hr⟩) hrel hdv hr
 refine⟨λhz=>?_,λhz=>?_⟩
 .have hz:T_ (rs0++outs) r=0:=of_decide_eq_true hz;refine Aa (uJ ?_ (Xv H (s:=⟨ps,rs0,outs,λ_=>none⟩) hvs R1 T1 k1 hokc (r:=tlT (rs0++outs) r) (hC.mono ?_) hrun))
  .exact λ_ S' h=>h
  .rintro e w' (⟨_,h⟩|⟨h,_⟩)
   .exact h
   .exact absurd hz h
 .have hz:T_ (rs0++outs) r≠0:=of_decide_eq_false hz;refine⟨hz,λnext Q hQ=>?_⟩;unfold Oper.wp;rw[hrun,tu];refine Calls.mono hC λe w' hp=>?_;rcases hp with⟨h,_⟩|⟨_,rfl,fr⟩
  .exact absurd h hz
  .refine hQ m ok1 w' (R1.world fr.os fr.tape fr.output fr.size (λb hb h=>fr.block b hb λhO=>?_) (λ_ _ h=>h) (λb t h=>⟨by have:=R1.okLt b t h;have:=fr.size;omega,.inl h⟩)) (λ_ _ h=>h) k1;obtain⟨f1,f2,f3,f4⟩:=T1.free b hO;rcases h with⟨t,h⟩|⟨n,h⟩|h
   .exact f1 t h
   .exact f4 n h
   .exact h f3
theorem LV{α:Type} :∀{l:List (Nat×α)} {n:Nat} {x:α},dX l n=some x->(n,x)∈l
 |[],_,_,h=>by cases h|(k,v)::r,n,x,h=>by
  unfold dX at h;cases hb:Nat.beq k n<;>rw[hb]at h
  .exact U5 _ (LV h)
  .have:=eU hb;subst this;simp only[cond_true,G8]at h;subst h;exact iC
theorem b4z(H:FxOk X)(R:Rel X (CB*q) (CB*q+CB) S m ok a w)(ho:DK X.E o=some f):
  (opP X.E q o f).post S (λx S' =>match x with|none=>jO X (CB*q) (CB*q+CB) o a w m ok S'|some c=>c≠0/\b3h X (CB*q) (CB*q+CB) o a w m ok c S'):=by
 unfold DK at ho;split at ho<;>try (cases ho;done)
 rename_i c hoc;split at ho<;>try (cases ho;done)
 rename_i f' hcal;obtain⟨cal,args,ats⟩:=c;simp only at hcal;subst hcal;have hff:f' =f:=by
  cases hh:b4n X.E.fs f'<;>rw[hh]at ho
  .cases ho
  .simpa using ho
 subst hff;unfold opP;simp only[hoc];have e:args.map a.eval=(args.toList.map a.eval).toArray:=by apply jM;simp
 have hrun:∀fn,X.P.funcs[f']? =some fn->fn.body.isSome=true->(fn.name== "runtime.NumGoroutine")=false->(execOp a.eval o).run X.P w= .ok (.enter f' (args.toList.map a.eval).toArray) w:=λfn hf hb hnm=>by have:=Ea (P:=X.P) (w:=w) hf hb hnm (args.map a.eval);rw[e]at this;simp[execOp,hoc,resolve,Deferred.ofValue,Act.eval,invoke,e,this]
 refine lZ R _ λvs hvs=>?_;exact a6R H R hvs hrun
theorem b2c(H:FxOk X)(R:Rel X (CB*q) (CB*q+CB) S m ok a w)(ho:o.op= .call c)(hc:c.callee= .value (.func f)):(dJ X.E q o).post S (λ_ S' =>jO X (CB*q) (CB*q+CB) o a w m ok S'):=by
 obtain⟨cal,args,ats⟩:=c;simp only at hc;subst hc;unfold dJ;simp only[ho];have e:args.map a.eval=(args.toList.map a.eval).toArray:=by apply jM;simp
 have hrun:∀fn,X.P.funcs[f]? =some fn->fn.body.isSome=true->(fn.name== "runtime.NumGoroutine")=false->(execOp a.eval o).run X.P w= .ok (.enter f (args.toList.map a.eval).toArray) w:=λfn hf hb hnm=>by have:=Ea (P:=X.P) (w:=w) hf hb hnm (args.map a.eval);rw[e]at this;simp[execOp,ho,resolve,Deferred.ofValue,Act.eval,invoke,e,this]
 refine lZ R _ λvs hvs=>?_;split
 .rename_i off sz hpl;cases hz:Nat.beq sz 0
  case true=>trivial
  simp only[cond_false];split<;>try trivial
  rename_i v;obtain⟨x,r,e1,h1,h2⟩:=hvs;simp only[gZ]at h2;subst h2;refine Oj R h1 λr y hy hp=>?_;obtain⟨⟨fn,hf,hb,hnm⟩,hcall⟩:=(H.pl _ (LV hpl)).snd hz;have hC:=hcall w x y hp;have hr0:=hrun fn hf hb hnm;rw[e1]at hr0;unfold dY;cases hd:o.dst with
  |none=>
   intro next Q hn
   unfold Oper.wp;rw[hr0,tu];refine Calls.mono hC λen w' hp=>?_;obtain⟨rfl,k,rfl⟩:=hp;rw[hd];exact hn m ok a _ (R.same (w' :=w.drewN k) rfl rfl rfl rfl) (λ_ _ h=>h) (λ_ _ h=>h)
  |some d=>
   refine bP λhb=>?_;intro next Q hn
   unfold Oper.wp;rw[hr0,tu];refine Calls.mono hC λen w' hp=>?_;obtain⟨rfl,k,rfl⟩:=hp;rw[hd];exact hn m ok _ _ ((R.put H.ntB hb hy).same (w' :=w.drewN k) rfl rfl rfl rfl) (λ_ _ h=>h) (λ_ _ h=>h)
 .exact OU H R hvs hrun
theorem Jp{C:Cx} :∀{a b:List V} {xs ys:c6H},gZ C a xs->gZ C b ys->gZ C (a++b) (xs++ys)
 |[],_,_,_,h,k=>by simp only[gZ]at h;subst h;exact k|c::a,b,_,_,⟨v,r,e,h1,h2⟩,k=>by subst e;exact⟨v,r++_,rfl,h1,Jp h2 k⟩
theorem VY{C:Cx} :∀{caps:List ((t:Ty)×t.den)} {vs:c6H},Eu C.h C.ok caps vs->gZ C (caps.map b7N) vs
 |[],_,h=>h|c::cs,_,⟨v,r,e,h1,h2⟩=>⟨v,r,e,h1,VY h2⟩
theorem a7U(H:FxOk X)(R:Rel X (CB*q) (CB*q+CB) S m ok a w){x:Operand}(ho:o.op= .call c)(hc:c.callee= .value x)(hx:∀f,x≠.func f):(dJ X.E q o).post S (λ_ S' =>jO X (CB*q) (CB*q+CB) o a w m ok S'):=by
 obtain⟨cal,args,ats⟩:=c;simp only at hc;subst hc;unfold dJ;simp only[ho];refine lZ R _ λvs hvs=>?_;refine dh R λu hu=>?_;split<;>try trivial
 rename_i f caps;obtain⟨cs,hv,hcaps⟩:=hu;refine OU H R (Jp hvs (VY hcaps)) λfn hf hb hnm=>?_;have:=Ea (P:=X.P) (w:=w) hf hb hnm (args.map a.eval++cs);have e:args.map a.eval++cs=(args.toList.map a.eval++cs.toList).toArray:=by apply jM;simp
 rw[e]at this;simp[execOp,ho,resolve,Deferred.ofValue,hv,invoke,e,this]
theorem Oe:∀{l:List ((Nat×String)×Nat×Option Nat)} {t:Nat} {n:String} {r:Nat×Option Nat},VA l t n=some r->((t,n),r)∈l
 |[],_,_,_,h=>by simp[VA]at h|((u,k),r')::l,t,n,r,h=>by
  unfold VA at h;cases hb:(Nat.beq u t&&(k==n))<;>rw[hb]at h
  .exact U5 _ (Oe h)
  .simp only[cond_true,G8]at h;subst h;simp only[D6,beq_iff_eq]at hb;have:=eU hb.1;subst this;rw[hb.2];exact iC
theorem a6h(H:FxOk X)(R:Rel X (CB*q) (CB*q+CB) S m ok a w){x:Operand}{n:String}(ho:o.op= .call c)(hc:c.callee= .invoke x n):(dJ X.E q o).post S (λ_ S' =>jO X (CB*q) (CB*q+CB) o a w m ok S'):=by
 obtain⟨cal,args,ats⟩:=c;simp only at hc;subst hc;unfold dJ;simp only[ho];refine lZ R _ λvs hvs=>dh R λu hu=>?_;split<;>try trivial
 rename_i t v;obtain⟨z,hz,hz1,hzv⟩:=hu;have e2:(#[a.eval x]++args.map a.eval).extract 1 (#[a.eval x]++args.map a.eval).size=args.map a.eval:=by apply jM;simp;exact W9 (Nat.le_of_eq (by rw[L8];rfl))
 have e3:(#[a.eval x]++args.map a.eval)[0]? =some (a.eval x):=by rw[gW (by show 0<1;omega)];rfl
 have e4:(args.map a.eval).extract 0 args.size=args.map a.eval:=by
  have h:args.size=(args.map a.eval).size:=by rw[Array.size_map]
  rw[h,Array.extract_size]
 have fin:∀(f:Nat) (r:Value) (fn:Func),X.P.funcs[f]? =some fn->fn.body.isSome=true->(fn.name== "runtime.NumGoroutine")=false->(method (X.P.types.size+Made.depth) t z n).run X.P w= .ok (f,r) w->
   (execOp a.eval o).run X.P w= .ok (.enter f (r::args.toList.map a.eval).toArray) w:=λf r fn hf hb hnm hM=>by
  have:=Ea (P:=X.P) (w:=w) hf hb hnm (#[r]++args.map a.eval);have e:#[r]++args.map a.eval=(r::args.toList.map a.eval).toArray:=by apply jM;simp
  rw[←e];simp only[execOp,ho,resolve,J5,Y9,L6,invoke,e3];simp[hz,callMethod,hM,e4,this]
 split<;>try trivial
 .rename_i f hmt;have hM:=H.ms _ (Oe hmt);exact OU H R (vals:=z::args.toList.map a.eval) ⟨z,_,rfl,DZ hzv,hvs⟩ λfn hf hb hnm=>fin f z fn hf hb hnm (hM z w)
 .rename_i f e0 hmt;have hM:=H.ms _ (Oe hmt);refine BZ H R (DZ hzv) λv' u ad hv' hp hr=>?_;refine OU H R (vals:=u::args.toList.map a.eval) ⟨u,_,rfl,hv',hvs⟩ λfn hf hb hnm=>fin f u fn hf hb hnm ?_;rw[hM z w ad hp,hr];rfl
end
end Go.GP
namespace Go.GP
variable {q:Nat}{x:Operand}{ops:Array Oper}{i:Nat}{t:TypeId}
section
variable {X:Fx} {S:Sm} {m:Mp} {ok:Nat->Ty->Prop} {a:Act} {w:World} {o:Oper}
theorem UB{α:Type}{Q:α->Sm->Prop}{cl ch:Nat} :∀(ms:List MG) {vs:List V} {xs:c6H} {K:List ((t:Ty)×t.den)->Cmd α} {S:Sm} {ok:Nat->Ty->Prop} (R:Rel X cl ch S m ok a w)
  (hv:gZ ⟨w.heap,ok,m⟩ vs xs)
  (hK:∀S' ok' cs,Rel X cl ch S' m ok' a w->(∀b t,ok b t->ok' b t)->Eu w.heap ok' cs xs->(K cs).post S' Q),(wV ms vs K).post S Q
 |[],vs,xs,K,S,ok,R,hv,hK=>by
  cases vs with
  |cons _ _=>unfold wV;trivial|nil=>unfold wV;exact hK S ok [] R (λ_ _ h=>h) hv
 |(g,.rp t)::ms,vs,xs,K,S,ok,R,hv,hK=>by
  cases vs with
  |nil=>unfold wV;trivial|cons v vs=>
   obtain⟨x,r,rfl,h1,h2⟩:=hv;unfold wV;have key:wU ⟨w.heap,ok,m⟩ v x->(rpC t v λx=>wV ms vs λcs=>K (⟨t,x⟩::cs)).post S Q:=λh1=>by refine a0P (T:=[]) t R Tk.nil h1 λS1 ok1 y R1 T1 k1 s1 d1=>?_;refine UB ms R1 (Ld k1 h2) λS2 ok2 cs R2 k2 d2=>?_;exact hK S2 ok2 _ R2 (λb t h=>k2 b t (k1 b t h)) ⟨x,r,rfl,Ef k2 (λ_ _ _=>rfl) d1,d2⟩
   cases v<;>first|exact key h1|(unfold rpC;trivial)
 |(g,.dat t)::ms,vs,xs,K,S,ok,R,hv,hK=>by cases vs<;>(unfold wV;trivial)|(g,.own t)::ms,vs,xs,K,S,ok,R,hv,hK=>by cases vs<;>(unfold wV;trivial)|(g,.pair p q)::ms,vs,xs,K,S,ok,R,hv,hK=>by cases vs<;>(unfold wV;trivial)|(g,.unit)::ms,vs,xs,K,S,ok,R,hv,hK=>by cases vs<;>(unfold wV;trivial)|(g,.cell _)::ms,vs,xs,K,S,ok,R,hv,hK=>by cases vs<;>(unfold wV;trivial)|(g,.fr _)::ms,vs,xs,K,S,ok,R,hv,hK=>by cases vs<;>(unfold wV;trivial)|(g,.sbx _ _)::ms,vs,xs,K,S,ok,R,hv,hK=>by cases vs<;>(unfold wV;trivial)|(g,.lp _)::ms,vs,xs,K,S,ok,R,hv,hK=>by cases vs<;>(unfold wV;trivial)|(g,.dv ..)::ms,vs,xs,K,S,ok,R,hv,hK=>by cases vs<;>(unfold wV;trivial)|(g,.ownr ..)::ms,vs,xs,K,S,ok,R,hv,hK=>by cases vs<;>(unfold wV;trivial)|(g,.sit)::ms,vs,xs,K,S,ok,R,hv,hK=>by cases vs<;>(unfold wV;trivial)|(g,.box p)::ms,vs,xs,K,S,ok,R,hv,hK=>by cases vs<;>(unfold wV;trivial)|(g,.owns p)::ms,vs,xs,K,S,ok,R,hv,hK=>by cases vs<;>(unfold wV;trivial)|(g,.ownb p)::ms,vs,xs,K,S,ok,R,hv,hK=>by cases vs<;>(unfold wV;trivial)|(g,.fn f ts)::ms,vs,xs,K,S,ok,R,hv,hK=>by cases vs<;>(unfold wV;trivial)|(g,.ifc t p)::ms,vs,xs,K,S,ok,R,hv,hK=>by cases vs<;>(unfold wV;trivial)
theorem a0u(H:FxOk X)(R:Rel X (CB*q) (CB*q+CB) S m ok a w){f:FuncId}{first caps:Array Operand}(ho:o.op= .makeFunc (.func f) first caps):(dJ X.E q o).post S (λ_ S' =>jO X (CB*q) (CB*q+CB) o a w m ok S'):=by
 unfold dJ;simp only[ho];refine Y6 λhb=>?_;have hb' :=eU hb;have hf:first=#[]:=by simpa using hb'
 split
 .refine Y6 λhc=>?_;simp only[D6]at hc;have hn:=eU hc.2;refine wJ H R (λ_ _ h=>h) (λ_ _ h=>h) (v:=.idl f _) (x:=.func (.func f) #[] (caps.map a.eval)) ⟨caps.map a.eval,rfl,by simpa using hn⟩ ?_;simp[execOp,ho,Instr.makeFunc,hf]
 split<;>try trivial
 refine lZ R _ λvs hvs=>UB _ R hvs λS' ok' cs R' k hc=>?_;refine wJ H R' (λ_ _ h=>h) k (v:=.clos f cs) (x:=.func (.func f) #[] (caps.map a.eval)) ⟨caps.map a.eval,rfl,by simpa using hc⟩ ?_;simp[execOp,ho,Instr.makeFunc,hf]
theorem a7V(H:FxOk X)(R:Rel X (CB*q) (CB*q+CB) S m ok a w){c:Call}(ho:o.op= .defer c):(dJ X.E q o).post S (λ_ S' =>jO X (CB*q) (CB*q+CB) o a w m ok S'):=by
 unfold dJ;simp only[ho];refine Y6 λhb=>?_;have hb' :=eU hb;have hargs:c.args=#[]:=by simpa using hb'
 split<;>try trivial
 rename_i x hd hc;refine dh R λv hv=>?_;split<;>try trivial
 rename_i f n;split<;>try trivial
 rename_i k z hk;refine Y6 λhn=>?_;simp only[D6]at hn;have hz:=eU hn.1;have hn' :=eU hn.2;subst hz hn';obtain⟨cap,hx,hs⟩:∃cap:Array Value,a.eval x= .func (.func f) #[] cap/\cap.size=n:=hv;intro next Q hnx
 unfold Oper.wp;have hrun:(execOp a.eval o).run X.P w= .ok (.defer { target:=.fn (.func f) cap,args:=#[] }) w:=by simp[execOp,ho,resolve,hc,hargs,hx,Deferred.ofValue]
 rw[hrun,Oper.upon_defer,hd];refine hnx m ok _ w ?_ (λ_ _ h=>h) (λ_ _ h=>h);have hid:Un X.P { target:=.fn (.func f) cap,args:=#[] }:=H.pl _ (LV hk) cap hs;have R' :Rel X (CB*q) (CB*q+CB) S m ok { a with defers:={ target:=.fn (.func f) cap,args:=#[] }::a.defers } w:=
  { size:=R.size,nodef:=λd hd=>(D8.1 hd).elim (λe=>e▸hid) (R.nodef d),dfs:=λl h=>(by have:=H.df l h _ (LV hk);cases this),slot:=R.slot,box:=R.box,inj:=R.inj,nd:=R.nd,sep:=R.sep,okLt:=R.okLt,okIn:=R.okIn,okOut:=R.okOut,frame:=R.frame,fresh:=R.fresh,strict:=R.strict,gl:=R.gl,kept:=R.kept }
 exact R'
theorem QO(H:FxOk X)(R:Rel X (CB*q) (CB*q+CB) S m ok a w)(ho:o.op= .makeInterface t x):(dJ X.E q o).post S (λ_ S' =>jO X (CB*q) (CB*q+CB) o a w m ok S'):=by
 unfold dJ;simp only[ho];refine jY H λi hi=>?_;have htd:=hi.td;have key:∀d,X.P.underlying t=some d->(∀ms,d≠.interface ms)->(vK x λv=>(match v with
   | .b ..| .i ..| .s ..| .ptr ..=>dY X.E o.dst (.ifc t v)
   |_=> .fail:Cmd Unit)).post S (λ_ S' =>jO X (CB*q) (CB*q+CB) o a w m ok S'):=λd hd hne=>by
  refine dh R λv hv=>?_;have run:(execOp a.eval o).run X.P w= .ok (.value (.iface t (a.eval x))) w:=by simp only[execOp,ho,Instr.makeInterface,J5,run_underlying hd,L6];cases d<;>first|rfl|exact absurd rfl (hne _)
  cases v<;>try trivial
  case b y=>exact aW H R (v:=.ifc t (.b y)) ⟨_,rfl,by rw[QV hv];rfl,hv⟩ run
  case i k n=>exact aW H R (v:=.ifc t (.i k n)) ⟨_,rfl,by rw[vP hv];rfl,hv⟩ run
  case s l=>exact aW H R (v:=.ifc t (.s l)) ⟨_,rfl,by rw[Lc hv];rfl,hv⟩ run
  case ptr bx off=>obtain⟨blk,h1,h2⟩:=hv;exact aW H R (v:=.ifc t (.ptr bx off)) ⟨_,rfl,by rw[h2];rfl,⟨blk,h1,h2⟩⟩ run
 cases htd' :i.td<;>rw[htd']at htd<;>try trivial
 all_goals exact key _ htd (λ_ e=>by cases e)
theorem Xf(H:FxOk X)(R:Rel X (CB*q) (CB*q+CB) S m ok a w){xt t:TypeId}{okk:Bool}(ho:o.op= .typeAssert x xt t okk):(dJ X.E q o).post S (λ_ S' =>jO X (CB*q) (CB*q+CB) o a w m ok S'):=by
 unfold dJ;simp only[ho];refine jY H λi hi=>?_;have htd:=hi.td;have key:∀d,X.P.underlying t=some d->(∀ms,d≠.interface ms)->(vK x λv=>(match v with
   | .ifc t' v=>bif Nat.beq t' t then dY X.E o.dst (bif okk then .tup [v,.b true]else v)else .fail
   |_=> .fail:Cmd Unit)).post S (λ_ S' =>jO X (CB*q) (CB*q+CB) o a w m ok S'):=λd hd hne=>by
  refine dh R λv hv=>?_;cases v<;>try trivial
  case ifc t' c=>
  obtain⟨u,hx,h1,hc⟩:=hv;refine Y6 λhb=>?_;have hb' :=eU hb;subst hb';have run:(execOp a.eval o).run X.P w= .ok (.value (if okk then .tuple #[u,.bool true]else u)) w:=by simp only[execOp,ho,Instr.typeAssert,J5,run_underlying hd,L6,hx];cases d<;>first|(simp;done)|exact absurd rfl (hne _)
  cases okk
  .exact aW H R (DZ hc) run
  .refine aW H R (v:=.tup [c,.b true]) ⟨_,rfl,⟨_,_,rfl,?_,_,_,rfl,rfl,rfl⟩⟩ run;cases c<;>first|exact hc|cases hc
 cases htd' :i.td<;>rw[htd']at htd<;>try trivial
 case struct fs=>obtain⟨fields,hu,_⟩:=htd;exact key _ hu (λ_ e=>by cases e)
 all_goals exact key _ htd (λ_ e=>by cases e)
theorem a7Y(H:FxOk X)(R:Rel X (CB*q) (CB*q+CB) S m ok a w)(ho:o.op= .range t x):(dJ X.E q o).post S (λ_ S' =>jO X (CB*q) (CB*q+CB) o a w m ok S'):=by
 unfold dJ;simp only[ho];refine dh R λu hu=>jY H λi hi=>?_;have hd:=hi.td;split<;>try trivial
 rename_i l htd;rw[htd]at hd;have hx:a.eval x= .string ⟨l.toArray⟩:=hu;refine Me (l:=.st w.heap.size) (obj:=.stringIter ⟨l.toArray⟩ 0) H R D5 (by simp[U2]) (λhn hc=>?_) ⟨w.heap.size,D5,rfl⟩ ?_
 .exact⟨w.heap.size,⟨l.toArray⟩,0,D5,heap_alloc_new w _,D5,rfl⟩
 .have hund:X.P.underlying t=some .string:=hd;simp[execOp,ho,Instr.range,run_underlying hund,hx]
theorem b2e(H:FxOk X){cl ch:Nat}(R:Rel X cl ch S m ok a w){b:Bool}(ho:o.op= .next x b):(dJ X.E q o).post S (λ_ S' =>jO X cl ch o a w m ok S'):=by
 unfold dJ;simp only[ho];refine bP λhs=>?_;subst hs;refine dh R λu hu=>?_;split<;>try trivial
 rename_i bx;obtain⟨blk,hm,hx⟩:=hu;refine X7 ?_;split<;>try trivial
 rename_i l p hS;have hb:=R.box bx;rw[hS]at hb;obtain⟨blk',s,pos,hm',hh,g1,g2⟩:=hb;simp only at hm hm' hh;rw[hm]at hm';cases hm';subst g2;have hl:(⟨l.toArray⟩:ByteArray)=s:=by rw[←g1]
 have hlen:l.length=s.size:=by rw[←g1,X8];rfl
 have hown:U2 m bx (S (X9+bx))=[blk]:=by rw[hS];simp[U2,hm]
 have hx:a.eval x= .pointer (some ⟨blk,0,none⟩):=hx;refine⟨λhlt=>?_,λhge=>?_⟩
 .have hlt:pos<s.size:=by unfold I5 A7 at hlt;rw[decide_eq_true_eq]at hlt;omega
  refine gG ?_;have hsz:blk<w.heap.size:=(G9.1 hh).1;have R2:Rel X cl ch (upd S (X9+bx) (.biter l (xU l (pos:Int)))) m ok a { w with heap:=w.heap.setIfInBounds blk (.stringIter s (pos+(Utf8.decode s pos).2)) }:=by
   refine R.mod (by rw[hown];simp[U2,hm]) D5 rfl rfl rfl D5 (λb hb=>?_) ?_
   .rw[hown]at hb;simp only[lH]at hb;simp[lL,Ne.symm hb]
   .refine⟨blk,s,pos+(Utf8.decode s pos).2,hm,?_,g1,?_⟩
    .simp[lL,hsz]
    .unfold xU;rw[hl];simp
  refine wJ (o:=o) H R2 (m0:=m) (ok0:=ok) (λ_ _ h=>h) (λ_ _ h=>h) (x:=.tuple #[.bool true,.int .i64 (pos:Int),.int .i32 ((Utf8.decode s pos).1:Int)]) ?_ ?_
  .refine⟨_,rfl,⟨_,_,rfl,rfl,_,_,rfl,rfl,_,_,rfl,?_,rfl⟩⟩;show Value.int .i32 _=_;unfold nG;rw[hl];simp
  .have e1:(getObj blk).run X.P w= .ok (.stringIter s pos) w:=by simp[getObj,Sem.run,hh]
   have e2:(setObj blk (.stringIter s (pos+(Utf8.decode s pos).2))).run X.P w= .ok () { w with heap:=w.heap.setIfInBounds blk (.stringIter s (pos+(Utf8.decode s pos).2)) }:=by simp[setObj,Sem.run,hh]
   simp[execOp,ho,Instr.next,hx,e1,e2,hlt,goInt]
 .have hge:¬pos<s.size:=λh=>by
   have:I5 ((pos:Nat):Int) (A7 l)=true:=by unfold I5 A7;rw[decide_eq_true_eq];omega
   rw[this]at hge;cases hge
  refine aW H R (x:=.tuple #[.bool false]) ⟨_,rfl,⟨_,_,rfl,rfl,rfl⟩⟩ ?_;have e1:(getObj blk).run X.P w= .ok (.stringIter s pos) w:=by simp[getObj,Sem.run,hh]
  simp[execOp,ho,Instr.next,hx,e1,hge]
theorem b4A(H:FxOk X)(R:Rel X (CB*q) (CB*q+CB) S m ok a w)(o:Oper):(dJ X.E q o).post S (λ_ S' =>jO X (CB*q) (CB*q+CB) o a w m ok S'):=by
 have fin:∀{α:Type} {Q:α->Sm->Prop},(Cmd.fail:Cmd α).post S Q:=trivial;cases ho:o.op
 case move x=>have h:=a4L H R (o:=o) (x:=x) (.inl ho);unfold dJ;simp only[ho];exact h
 case assign x=>have h:=a4L H R (o:=o) (x:=x) (.inr ho);unfold dJ;simp only[ho];exact h
 case pick c x y=>exact b2f H R ho
 case alloc t=>exact a7R H R ho
 case box t x=>exact b4B H R ho
 case build t ps=>exact a7T H R ho
 case buildSlice t n ps=>exact Xe H R ho
 case load t x=>exact b2d H R ho
 case store t x y=>exact a8a H R ho
 case binOp op t x y yt=>exact a7S H R ho
 case unOp op t x=>exact b2h H R ho
 case convert s t x=>exact a2z H R ho
 case makeSlice t l c=>exact Zg H R ho
 case slice t x lo hi mx=>
  cases mx with
  |none=>exact a7Z H R ho|some _=>unfold dJ;simp only[ho];exact fin
 case fieldAddr t x f=>exact Ze H R ho
 case field t x f=>exact a7W H R ho
 case indexAddr t x ix=>exact Zf H R ho
 case index t x ix=>exact a7X H R ho
 case extract x n=>exact a2A H R ho
 case nilCheck x=>exact a0v H R ho
 case call c=>
  cases hc:c.callee
  case builtin b=>
   cases b
   case len=>exact b4C H R ho hc
   case append=>exact a6e H R ho hc
   case min=>exact XW H R ho (.inl hc)
   case max=>exact XW H R ho (.inr hc)
   all_goals
    unfold dJ;simp only[ho];exact lZ R _ λvs hvs=>by simp only[hc];exact fin
  case value f=>
   cases f
   case func f=>exact b2c H R ho hc
   all_goals exact a7U H R ho hc (λf e=>by cases e)
  case invoke x n=>exact a6h H R ho hc
 case makeFunc f first caps=>
  cases f
  case func f=>exact a0u H R ho
  all_goals
   unfold dJ;simp only[ho];exact fin
 case defer c=>exact a7V H R ho
 case makeInterface t x=>exact QO H R ho
 case typeAssert x xt t ok=>exact Xf H R ho
 case range t x=>exact a7Y H R ho
 case next x b=>exact b2e H R ho
 all_goals
  unfold dJ;simp only[ho];exact fin
def JR(X:Fx)(cl ch:Nat)(ops:Array Oper)(i:Nat)(a:Act)(w:World)(m:Mp)(ok:Nat->Ty->Prop)(S' :Sm):Prop:=
 ∀(next:Act->World->Prop) (Q:Exit->Act->World->Prop),
  (∀m' ok' a' w',Rel X cl ch S' m' ok' a' w' ->(∀k l,m k=some l->m' k=some l)->(∀b t,ok b t->ok' b t)->next a' w')->wpOp X.P ops Q i next a w
theorem OD(H:FxOk X){cl ch:Nat}(R:Rel X cl ch S m ok a w)(hi:ops[i]? =some o)(hw:Region.wanted o (yielded ops a.tmps)=false):
  (dY X.E o.dst .un).post S (λ_ S' =>JR X cl ch ops i a w m ok S'):=by
 have h:∀S',Rel X cl ch S' m ok (a.put o.dst Go.undef) w->JR X cl ch ops i a w m ok S' :=λS' R' next Q hn=>by unfold wpOp;simp only[hi,hw,iw,if_false];exact hn m ok _ w R' (λ_ _ h=>h) (λ_ _ h=>h)
 unfold dY;cases hd:o.dst with
 |none=>rw[hd]at h;exact h S R
 |some d=>rw[hd]at h;exact bP λhb=>h _ (R.put H.ntB hb rfl)
theorem Nj{tmps:Array Value}{t:Nat}{v:Value}(h:tmps.getD t Go.undef=v)(hv:v≠Go.undef):tmps[t]? =some v:=by
 rw[O5]at h;cases hx:tmps[t]? with
 |none=>rw[hx]at h;exact absurd h.symm hv|some x=>rw[hx]at h;simpa using h
theorem a6x(H:FxOk X)(R:Rel X (CB*q) (CB*q+CB) S m ok a w)(hi:ops[i]? =some o):
  (Js X.E q ops.toList o).post S (λ_ S' =>JR X (CB*q) (CB*q+CB) ops i a w m ok S'):=by
 have yes:Region.wanted o (yielded ops a.tmps)=true->(dJ X.E q o).post S (λ_ S' =>JR X (CB*q) (CB*q+CB) ops i a w m ok S'):=λhw=>by
  refine uJ ?_ (b4A H R o);intro _ S' h next Q hn
  unfold wpOp;simp only[hi,hw,if_true];exact .inl (h next Q hn)
 unfold Js;cases hg:o.guard with
 |none=>exact yes (by simp[Region.wanted,hg])|some p=>
  obtain⟨j,want⟩:=p;cases hj:ops.toList[j]? with
  |none=>simp only[hj];trivial|some p=>
   simp only[hj];have hj' :ops[j]? =some p:=by simpa using hj
   cases hd:p.dst with
   |none=>trivial|some t=>
    simp only[];refine bP λhlt=>X7 ?_;have hsl:=R.slot t (GG hlt);have hyd:yielded ops a.tmps j=match a.tmps[t]? with|some (.bool b)=>some b|_=>none:=by unfold yielded;rw[hj'];simp only[nC,hd];rfl
    split<;>try trivial
    .rename_i y hS;rw[hS]at hsl;have hb:a.tmps.getD t Go.undef= .bool y:=hsl;have hy:yielded ops a.tmps j=some y:=by
      rw[hyd,Nj hb (by simp[Go.undef])]
     have hwt:Region.wanted o (yielded ops a.tmps)=(bif want then y else !y):=by unfold Region.wanted;rw[hg];simp only[hy];cases want<;>cases y<;>rfl
     cases hc:(bif want then y else !y)
     .simp only[cond_false];exact OD H R hi (hwt.trans hc)
     .simp only[cond_true];exact yes (hwt.trans hc)
    .rename_i hS;rw[hS]at hsl;have hb:a.tmps.getD t Go.undef=Go.undef:=hsl;have hwt:Region.wanted o (yielded ops a.tmps)=false:=by
      unfold Region.wanted;rw[hg];simp only[hyd];rw[O5]at hb;cases hx:a.tmps[t]? with
      |none=>rfl|some x=>rw[hx]at hb;simp only[Y3]at hb;subst hb;rfl
     exact OD H R hi hwt
def Yy(X:Fx)(cl ch:Nat)(ops:Array Oper)(i:Nat)(a:Act)(w:World)(m:Mp)(ok:Nat->Ty->Prop)(c:Int)(S' :Sm):Prop:=
 ∀(next:Act->World->Prop) (Q:Exit->Act->World->Prop),
  (∀m' ok' w',Rel X cl ch S' m' ok' a w' ->(∀k l,m k=some l->m' k=some l)->(∀b t,ok b t->ok' b t)->Q (.panic (nX X.P c)) a w')->wpOp X.P ops Q i next a w
theorem WA(H:FxOk X)(R:Rel X (CB*q) (CB*q+CB) S m ok a w)(hi:ops[i]? =some o){f:FuncId}(hp:DK X.E o=some f):
  (IA X.E q ops.toList o f).post S (λx S' =>match x with|none=>JR X (CB*q) (CB*q+CB) ops i a w m ok S'|some c=>c≠0/\Yy X (CB*q) (CB*q+CB) ops i a w m ok c S'):=by
 have yes:Region.wanted o (yielded ops a.tmps)=true->(opP X.E q o f).post S (λx S' =>match x with|none=>JR X (CB*q) (CB*q+CB) ops i a w m ok S'|some c=>c≠0/\Yy X (CB*q) (CB*q+CB) ops i a w m ok c S'):=λhw=>by
  refine uJ ?_ (b4z H R hp);intro x S' h;cases x with
  |none=>
   intro next Q hn
   unfold wpOp;simp only[hi,hw,if_true];exact .inl (h next Q hn)
  |some c=>refine⟨h.1,λnext Q hn=>?_⟩;unfold wpOp;simp only[hi,hw,if_true];exact .inl (h.2 next Q hn)
 have no:Region.wanted o (yielded ops a.tmps)=false->((dY X.E o.dst .un).bind λ_=>(.ret none:Cmd c6K)).post S (λx S' =>match x with|none=>JR X (CB*q) (CB*q+CB) ops i a w m ok S'|some c=>c≠0/\Yy X (CB*q) (CB*q+CB) ops i a w m ok c S'):=λhw=>
  Aa (uJ (λ_ S' h=>h) (OD H R hi hw))
 unfold IA;cases hg:o.guard with
 |none=>exact yes (by simp[Region.wanted,hg])|some p=>
  obtain⟨j,want⟩:=p;cases hj:ops.toList[j]? with
  |none=>simp only[hj];trivial|some p=>
   simp only[hj];have hj' :ops[j]? =some p:=by simpa using hj
   cases hd:p.dst with
   |none=>trivial|some t=>
    simp only[];refine bP λhlt=>X7 ?_;have hsl:=R.slot t (GG hlt);have hyd:yielded ops a.tmps j=match a.tmps[t]? with|some (.bool b)=>some b|_=>none:=by unfold yielded;rw[hj'];simp only[nC,hd];rfl
    split<;>try trivial
    .rename_i y hS;rw[hS]at hsl;have hb:a.tmps.getD t Go.undef= .bool y:=hsl;have hy:yielded ops a.tmps j=some y:=by
      rw[hyd,Nj hb (by simp[Go.undef])]
     have hwt:Region.wanted o (yielded ops a.tmps)=(bif want then y else !y):=by unfold Region.wanted;rw[hg];simp only[hy];cases want<;>cases y<;>rfl
     cases hc:(bif want then y else !y)
     .simp only[cond_false];exact no (hwt.trans hc)
     .simp only[cond_true];exact yes (hwt.trans hc)
    .rename_i hS;rw[hS]at hsl;have hb:a.tmps.getD t Go.undef=Go.undef:=hsl;have hwt:Region.wanted o (yielded ops a.tmps)=false:=by
      unfold Region.wanted;rw[hg];simp only[hyd];rw[O5]at hb;cases hx:a.tmps[t]? with
      |none=>rfl|some x=>rw[hx]at hb;simp only[Y3]at hb;subst hb;rfl
     exact no hwt
theorem a3y(H:FxOk X)(R:Rel X (CB*q) (CB*q+CB) S m ok a w)(hi:ops[i]? =some o):
  (pR X.E q ops.toList o).post S (λ_ S' =>JR X (CB*q) (CB*q+CB) ops i a w m ok S'):=by
 unfold pR;cases hp:DK X.E o with
 |none=>exact a6x H R hi|some f=>
  refine Aa (uJ ?_ (WA H R hi hp));intro x S' h;cases x with
  |none=>exact h|some c=>trivial
end
end Go.GP
namespace Go.GP
def Ul(E:Env)(q:Nat)(all l:List Oper)(S:Nat->Sm)(T:Nat->Tr):Prop:=
 ∀i o,l[i]? =some o->(pR E q all o).eval (S i) ([],[])=some ((),S (i+1),T i)
def Wn(s:Sm)(S:Nat->Sm):Nat->Sm|0=>s|i+1=>S i
def Wp(t:Tr)(T:Nat->Tr):Nat->Tr|0=>t|i+1=>T i
variable {R:Type}{r:R}
theorem Jm{t:Nat}{s:St}{K:St->Option R}(h:PW t s K=some r):∃s0,aV s0=aV s/\K s0=some r:=by
 unfold PW at h;rw[Ii]at h;split at h<;>try (simp at h;done)
 .rename_i y hy;have key:∀b:Bool,y=b->aV (.kv t (.b b)::s)=aV s:=λb hb=>by
   subst hb;rw[a4D];funext k;by_cases e:k=t
   .subst e;simp[hy]
   .rw[bF _ _ e]
  cases y
  .exact⟨_,key false rfl,h⟩
  .exact⟨_,key true rfl,h⟩
 .exact⟨s,rfl,h⟩
def TM(n:Nat)(E:Env)(q:Nat)(all l:List Oper)(S:Nat->Sm)(T:Nat->Tr):Prop:=
 ∀i o,i<n->l[i]? =some o->(pR E q all o).eval (S i) ([],[])=some ((),S (i+1),T i)
variable {E:Env}{q:Nat}{all:List Oper}{o:Oper}
theorem a3x(h:DK E o=none):pR E q all o=Js E q all o:=by unfold pR;rw[h]
theorem a3z{f:Nat}(h:DK E o=some f):pR E q all o=(IA E q all o f).bind b8h:=by unfold pR;rw[h]
def j_(E:Env)(q:Nat)(all l:List Oper)(P:Int->St->Tr->Trs->Option R)(s:St)(t:Trs)(K:St->Trs->Option R)(r:R):Prop:=
  (∃s' S T,S 0=aV s/\S l.length=aV s' /\Ul E q all l S T/\K s' (((List.range l.length).map T).reverse++t)=some r)\/
  (∃k o f c s' tr S T,l[k]? =some o/\DK E o=some f/\S 0=aV s/\TM k E q all l S T/\(IA E q all o f).eval (S k) ([],[])=some (some c,aV s',tr)/\P c s' tr (((List.range k).map T).reverse++t)=some r)
theorem j_.cons{P:Int->St->Tr->Trs->Option R}{l:List Oper}{s s0 s1:St}{t:Trs}{tr:Tr}{K:St->Trs->Option R}(hs0:aV s0=aV s)
  (e:(pR E q all o).eval (aV s0) ([],[])=some ((),aV s1,tr)) (h:j_ E q all l P s1 (tr::t) K r):j_ E q all (o::l) P s t K r:=by
 rcases h with⟨s',S,T,h0,h1,h2,h3⟩|⟨k,o',f,c,s',tr',S,T,g1,g2,h0,h2,g3,h3⟩
 .refine .inl ⟨s',Wn (aV s) S,Wp tr T,rfl,h1,λi o' hi=>?_,?_⟩
  .cases i with
   |zero=>simp at hi;subst hi;show(pR E q all o).eval (aV s) ([],[])=some ((),S 0,tr);rw[←hs0,e,h0]|succ i=>exact h2 i o' (by simpa using hi)
  .rw[F5,jk,dG,jT,E8,pz];exact h3
 .refine .inr ⟨k+1,o',f,c,s',tr',Wn (aV s) S,Wp tr T,by simpa using g1,g2,rfl,λi o'' hik hi=>?_,g3,?_⟩
  .cases i with
   |zero=>simp at hi;subst hi;show(pR E q all o).eval (aV s) ([],[])=some ((),S 0,tr);rw[←hs0,e,h0]|succ i=>exact h2 i o'' o5 (by simpa using hi)
  .rw[jk,dG,jT,E8,pz];exact h3
theorem Ll{R:Type}{E:Env}{q:Nat}{all:List Oper}{P:Int->St->Tr->Trs->Option R} :∀(l:List Oper) {s:St} {t:Trs} {K:St->Trs->Option R} {r:R},Hg E q all P l s t K=some r->
  j_ E q all l P s t K r
 |[],s,t,K,r,h=> .inl ⟨s,λ_=>aV s,λ_=>([],[]),rfl,rfl,λi o hi=>by simp at hi,by simpa[Hg]using h⟩|o::l,s,t,K,r,h=>by
  have key:∀s0,aV s0=aV s->DK E o=none->(Js E q all o).runK s0 ([],[]) (λ_ s' tr=>Hg E q all P l s' (tr::t) K)=some r->j_ E q all (o::l) P s t K r:=λs0 hs0 hp h=>by obtain⟨x,s1,tr,e,hk⟩:=jV h;exact j_.cons hs0 (by rw[a3x hp];exact e) (Ll l hk)
  have keyP:∀s0 f,aV s0=aV s->DK E o=some f->(IA E q all o f).runK s0 ([],[]) (λx s' tr=>match x with|none=>Hg E q all P l s' (tr::t) K|some c=>P c s' tr t)=some r->j_ E q all (o::l) P s t K r:=λs0 f hs0 hp h=>by
   obtain⟨x,s1,tr,e,hk⟩:=jV h;cases x with
   |none=>refine j_.cons hs0 ?_ (Ll l hk);rw[a3z hp,Eg,e];rfl|some c=>exact .inr ⟨0,o,f,c,s1,tr,λ_=>aV s,λ_=>([],[]),rfl,hp,rfl,λi o' hi=>by omega,by rw[←hs0];exact e,by simpa using hk⟩
  unfold Hg at h;split at h
  .rename_i hp;split at h
   .exact key s rfl hp h
   .obtain⟨s0,e,h⟩:=Jm h;exact key s0 e hp h
  .rename_i f hp;split at h
   .exact keyP s f rfl hp h
   .obtain⟨s0,e,h⟩:=Jm h;exact keyP s0 f e hp h
theorem qJ{α:Type}(T:Nat->α)(n:Nat):((List.range (n+1)).map T).reverse=T n::((List.range n).map T).reverse:=by rw[jF,gu,List.reverse_append];rfl
theorem yj{a b:c6I}(h:OX a b=true):∀k∈a,k∉b:=by
 induction a with
 |nil=>intro k hk;cases hk|cons x a ih=>
  unfold OX at h;cases hm:DV x b
  .simp only[hm,cond_false]at h;intro k hk hkb;rcases D8.1 hk with rfl|hk
   .have:∀(l:c6I),DV k l=false->k∉l:=by
     intro l;induction l with
     |nil=>intro _ h;cases h|cons y l ih=>
      intro hm hk;unfold DV at hm;cases hb:Nat.beq y k
      .simp only[hb,cond_false]at hm;rcases D8.1 hk with rfl|hk
       .simp at hb
       .exact ih hm hk
      .simp[hb]at hm
    exact this b hm hkb
   .exact ih h k hk hkb
  .simp[hm]at h
theorem Vy{k:Nat} :∀{l:c6I},DV k l=true->k∈l
 |[],h=>by simp[DV]at h|y::l,h=>by
  unfold DV at h;cases hb:Nat.beq y k
  .simp only[hb,cond_false]at h;exact U5 _ (Vy h)
  .have:=eU hb;subst this;simp
def Xn(x y:Tr):Prop:=(∀k∈x.2,k∉y.1/\k∉y.2)/\∀k∈x.1,k∉y.2
theorem SC{b:Bool}{x y:Tr}(h:VG b x y=true):b=true\/Xn x y:=by
 unfold VG at h;cases b
 .simp only[cond_false,D6]at h;exact .inr ⟨λk hk=>⟨yj h.1.1 k hk,yj h.1.2 k hk⟩,λk hk=>yj h.2 k hk⟩
 .exact .inl rfl
theorem Je{mask:Nat}{y:Tr}{T:Nat->Tr} :∀n,MC mask y ((List.range n).map T).reverse n=true->∀i,i<n->Nat.testBit mask i=true\/Xn (T i) y
 |0,_,i,hi=>by omega|n+1,h,i,hi=>by
  rw[qJ]at h;unfold MC at h;simp only[Nat.add_sub_cancel,D6]at h;by_cases e:i=n
  .subst e;exact SC h.1
  .exact Je n h.2 i o5
theorem KQ{M:Nat->Nat}{T:Nat->Tr} :∀n,Oi ((List.range n).map M).reverse ((List.range n).map T).reverse=true->∀i j,i<j->j<n->Nat.testBit (M j) i=true\/Xn (T i) (T j)
 |0,_,i,j,_,hj=>by omega|n+1,h,i,j,hi,hj=>by
  rw[qJ,qJ]at h;unfold Oi at h;simp only[D6,kR,L8,ak]at h;by_cases e:j=n
  .subst e;exact Je j h.1 i hi
  .exact KQ n h.2 i j hi o5
theorem a4b{α:Type}{eq:α->α->Bool}(h:∀a b,eq a b=true->a=b):∀{l m:List α},b1z eq l m=true->l=m
 |[],[],_=>rfl|[],_::_,e=>by cases e|_::_,[],e=>by cases e|a::l,b::m,e=>by simp only[b1z,D6]at e;rw[h _ _ e.1,a4b h e.2]
theorem LY:∀{t:Ty} (a b:t.den),UM t a b=true->a=b
 | .bool,a,b,e=>a3B e| .int _,a,b,e=>of_decide_eq_true e| .str,a,b,e=>of_decide_eq_true e| .sl t,a,b,e=>a4b (λx y h=>LY x y h) e| .prod p q,a,b,e=>by have e:(UM p a.1 b.1&&UM q a.2 b.2)=true:=e;rw[D6]at e;exact Prod.ext (LY _ _ e.1) (LY _ _ e.2)| .unit,a,b,e=>rfl| .any _,a,b,e=>rfl| .ent _ _ p q,a,b,e=>by have e:(UM p a.1 b.1&&UM q a.2 b.2)=true:=e;rw[D6]at e;exact Prod.ext (LY _ _ e.1) (LY _ _ e.2)
theorem a3H{a b:V}{K:Option R}(h:b1f a b K=some r):a=b/\K=some r:=by
 unfold b1f at h;rw[Ii,Ii]at h;cases a with
 |i k n=>
  cases b with
  |i k' n' =>
   cases hk:decide (k=k')
   .simp[hk]at h
   .have e:=of_decide_eq_true hk;subst e;simp only[hk,cond_true]at h;cases hi:C9 n n'<;>rw[hi]at h
    .cases h
    .have e:=of_decide_eq_true (show decide (n=n')=true from hi);subst e;exact⟨rfl,h⟩
  |_=>cases h
 |sl t xs=>
  cases b with
  |sl u ys=>
   simp only[Ty.castL]at h;by_cases e:u=t
   .subst e;simp only[dif_pos]at h;cases hi:deq (.sl u) xs ys<;>rw[hi]at h
    .cases h
    .rw[LY (t:=.sl u) xs ys hi];exact⟨rfl,h⟩
   .rw[dif_neg e]at h;cases h
  |_=>cases h
 |b x=>
  cases b with
  |b y=>
   cases hi:Gz x y<;>simp only[hi,l7]at h
   .cases h
   .have e:x=y:=by simpa[Gz]using hi
    subst e;exact⟨rfl,h⟩
  |_=>cases h
 |s x=>
  cases b with
  |s y=>
   cases hi:seq x y<;>simp only[hi,l7]at h
   .cases h
   .have e:x=y:=by simpa[seq]using hi
    subst e;exact⟨rfl,h⟩
  |_=>cases h
 |_=>cases h
theorem Iy:∀{a b:c6I},Bg a b=true->a=b
 |[],[],_=>rfl|[],_::_,h=>by cases h|_::_,[],h=>by cases h|a::l,b::m,h=>by
  unfold Bg at h;cases hb:Nat.beq a b
  .simp[hb]at h
  .simp only[hb,cond_true]at h;rw[eU hb,Iy h]
def Rp(E:Env)(q:Nat)(all:List Oper)(o:Oper)(tr:Tr)(v:V)(S:Sm):Prop:=
 ∃d S',o.dst=some d/\tr.2=[d]/\(pR E q all o).eval S ([],[])=some ((),S',tr)/\S' d=v
theorem VM{R:Type}{E:Env}{q:Nat}{all:List Oper}{s:St} :∀{p:a5w} {K:Option R} {r:R},Yf E q all s p K=some r->
  (∀x∈p,Rp E q all x.1 x.2.1 x.2.2 (aV s))/\K=some r
 |[],K,r,h=>⟨λx hx=>by(cases hx),h⟩|(o,tr,v)::p,K,r,h=>by
  unfold Yf at h;obtain⟨x,s2,tr2,e,hk⟩:=jV h;cases hd:o.dst with
  |none=>simp[hd]at hk|some d=>
   simp only[hd]at hk;cases hc:(Bg tr.1 tr2.1&&Bg tr.2 tr2.2&&Bg tr2.2 [d])
   .simp[hc]at hk
   .simp only[hc,cond_true]at hk;simp only[D6]at hc;obtain⟨⟨h1,h2⟩,h3⟩:=hc;have h1:=Iy h1;have h2:=Iy h2;have h3:=Iy h3;have etr:tr=tr2:=Prod.ext h1 h2;subst etr;obtain⟨hv,hk⟩:=a3H hk;obtain⟨g1,g2⟩:=VM hk;refine⟨λy hy=>?_,g2⟩;rcases D8.1 hy with rfl|hy
    .exact⟨d,_,hd,h3,e,hv.symm⟩
    .exact g1 y hy
theorem Qc{R:Type}{E:Env}{q:Nat}{all:List Oper} :∀(l:List Oper) {s:St} {t:Trs} {p:a5w} {K:St->Trs->Option R} {r:R},Be E q all l s t p K=some r->
  ∃s' S T,S 0=aV s/\S l.length=aV s' /\Ul E q all l S T/\K s' (((List.range l.length).map T).reverse++t)=some r/\
   (∀x∈p,∀j o',l[j]? =some o' ->qo o' =true->Rp E q all x.1 x.2.1 x.2.2 (S (j+1)))/\
   (∀i j o o',i<j->l[i]? =some o->l[j]? =some o' ->YO E o=true->qo o' =true->∃d,o.dst=some d/\Rp E q all o (T i) (S (i+1) d) (S (j+1)))
 |[],s,t,p,K,r,h=>⟨s,λ_=>aV s,λ_=>([],[]),rfl,rfl,λi o hi=>by simp at hi,by simpa[Be]using h,λx _ j o' hj=>by simp at hj,λi j o o' _ hi=>by simp at hi⟩|o::l,s,t,p,K,r,h=>by
  have key:∀s0,aV s0=aV s->(pR E q all o).runK s0 ([],[]) (λ_ s' tr=>bif qo o then Yf E q all s' p (Be E q all l s' (tr::t) p K)else Be E q all l s' (tr::t) (VK E o s' tr p) K)=some r->
    ∃s' S T,S 0=aV s/\S (o::l).length=aV s' /\Ul E q all (o::l) S T/\K s' (((List.range (o::l).length).map T).reverse++t)=some r/\
   (∀x∈p,∀j o',(o::l)[j]? =some o' ->qo o' =true->Rp E q all x.1 x.2.1 x.2.2 (S (j+1)))/\
   (∀i j o1 o',i<j->(o::l)[i]? =some o1->(o::l)[j]? =some o' ->YO E o1=true->qo o' =true->∃d,o1.dst=some d/\Rp E q all o1 (T i) (S (i+1) d) (S (j+1))):=λs0 hs0 h=>by
   obtain⟨x,s1,tr,e,hk⟩:=jV h;have fin:∀p',(∀y∈p,y∈p')->(YO E o=true->qo o=false->∃d,o.dst=some d/\(o,tr,aV s1 d)∈p')->(qo o=true->∀y∈p,Rp E q all y.1 y.2.1 y.2.2 (aV s1))->Be E q all l s1 (tr::t) p' K=some r->
     ∃s' S T,S 0=aV s/\S (o::l).length=aV s' /\Ul E q all (o::l) S T/\K s' (((List.range (o::l).length).map T).reverse++t)=some r/\
   (∀x∈p,∀j o',(o::l)[j]? =some o' ->qo o' =true->Rp E q all x.1 x.2.1 x.2.2 (S (j+1)))/\
   (∀i j o1 o',i<j->(o::l)[i]? =some o1->(o::l)[j]? =some o' ->YO E o1=true->qo o' =true->∃d,o1.dst=some d/\Rp E q all o1 (T i) (S (i+1) d) (S (j+1))):=λp' hp' hex hcall hk=>by
    obtain⟨s',S,T,h0,h1,h2,h3,h4,h5⟩:=Qc l hk;refine⟨s',Wn (aV s) S,Wp tr T,rfl,h1,λi o' hi=>?_,?_,λy hy j o' hj hc=>?_,λi j o1 o' hij hi hj he hc=>?_⟩
    .cases i with
     |zero=>simp at hi;subst hi;show(pR E q all o).eval (aV s) ([],[])=some ((),S 0,tr);rw[←hs0,e,h0]|succ i=>exact h2 i o' (by simpa using hi)
    .rw[F5,jk,dG,jT,E8,pz];exact h3
    .cases j with
     |zero=>simp at hj;subst hj;show Rp E q all y.1 y.2.1 y.2.2 (S 0);rw[h0];exact hcall hc y hy|succ j=>exact h4 y (hp' y hy) j o' (by simpa using hj) hc
    .cases j with
     |zero=>omega|succ j=>
      cases i with
      |zero=>
       simp at hi;subst hi;have hnc:qo o=false:=by
        unfold YO at he;cases hcc:qo o
        .rfl
        .simp[hcc]at he
       obtain⟨d,hd,hm⟩:=hex he hnc;refine⟨d,hd,?_⟩;have:=h4 _ hm j o' (by simpa using hj) hc;show Rp E q all o tr (S 0 d) (S (j+1));rw[h0];exact this
      |succ i=>exact h5 i j o1 o' o5 (by simpa using hi) (by simpa using hj) he hc
   cases hc:qo o
   .simp only[hc,cond_false]at hk;refine fin _ (λy hy=>?_) (λhe _=>?_) (λh=>by rw[hc]at h;cases h) hk
    .unfold VK;cases hx:YO E o
     .exact hy
     .simp only[cond_true];cases hd:o.dst with
      |none=>exact hy|some d=>exact U5 _ hy
    .cases hd:o.dst with
     |none=>simp[YO,hd]at he|some d=>exact⟨d,rfl,by simp[VK,he,hd]⟩
   .simp only[hc,cond_true]at hk;obtain⟨g1,g2⟩:=VM hk;exact fin p (λ_ h=>h) (λ_ h=>by rw[hc]at h;cases h) (λ_=>g1) g2
  unfold Be at h;split at h
  .exact key s rfl h
  .obtain⟨s0,e,h⟩:=Jm h;exact key s0 e h
def o_(ord:Nat->Nat->Prop)(ex:Nat->Nat->Prop)(T:Nat->Tr)(i j:Nat):Prop:=
 ord i j\/((∀k∈(T i).2,k∉(T j).1/\k∉(T j).2)/\((∀k∈(T i).1,k∉(T j).2)\/
  (ex i j/\(∀k∈(T i).2,k∉(T i).1)/\∀m,i<m->m<j->ord m j\/∀k∈(T i).1,k∉(T m).2)))
theorem VB{mask:Nat}{x:Tr} :∀{l:List (Nat×Tr)},a4G mask x l=true->∀y∈l,Nat.testBit mask y.1=true\/∀k∈x.1,k∉y.2.2
 |[],_,y,hy=>by cases hy|(m,z)::l,h,y,hy=>by
  unfold a4G at h;simp only[D6,lG]at h;rcases D8.1 hy with rfl|hy
  .exact h.1.imp id (λh=>yj h)
  .exact VB h.2 y hy
theorem Nu{E:Env}{all:List Oper}{mask:Nat}{y:Tr}{cy:Bool}{T:Nat->Tr}{N:Nat} :∀n (mids:List (Nat×Tr)),(∀m,n<=m->m<N->(m,T m)∈mids)->PI E all mask y cy ((List.range n).map T).reverse n mids=true->
  ∀i,i<n->Nat.testBit mask i=true\/((∀k∈(T i).2,k∉y.1/\k∉y.2)/\((∀k∈(T i).1,k∉y.2)\/((cy=true/\a7f E all i=true)/\(∀k∈(T i).2,k∉(T i).1)/\∀m,i<m->m<N->Nat.testBit mask m=true\/∀k∈(T i).1,k∉(T m).2)))
 |0,_,_,_,i,hi=>by omega|n+1,mids,hm,h,i,hi=>by
  rw[qJ]at h;unfold PI at h;simp only[Nat.add_sub_cancel,D6]at h;by_cases e:i=n
  .subst e;have h:=h.1;unfold a4K at h;cases hb:Nat.testBit mask i
   .simp only[hb,cond_false,D6]at h;refine .inr ⟨λk hk=>⟨yj h.1.1 k hk,yj h.1.2 k hk⟩,?_⟩;have h2:=h.2;cases hdj:OX (T i).1 y.2
    .simp only[hdj,cond_false,D6]at h2;exact .inr ⟨h2.1.1,yj h2.1.2,λm h3 h4=>VB h2.2 _ (hm m o5 h4)⟩
    .exact .inl (yj hdj)
   .exact .inl rfl
  .refine Nu n _ (λm h1 h2=>?_) h.2 i o5;by_cases e2:m=n
   .subst e2;simp
   .exact U5 _ (hm m o5 h2)
theorem PM{E:Env}{all:List Oper}{M:Nat->Nat}{T:Nat->Tr} :∀n,PK E all ((List.range n).map M).reverse ((List.range n).map T).reverse=true->∀i j,i<j->j<n->
  o_ (λi j=>Nat.testBit (M j) i=true) (λi j=>YC all j=true/\a7f E all i=true) T i j
 |0,_,i,j,_,hj=>by omega|n+1,h,i,j,hi,hj=>by
  rw[qJ,qJ]at h;unfold PK at h;simp only[D6,kR,L8,ak]at h;by_cases e:j=n
  .subst e;exact Nu (N:=j) j [] (λm h1 h2=>by omega) h.1 i hi
  .exact PM n h.2 i j hi o5
theorem a7D{P:Nat->Prop} :∀(n:Nat),(∃j,j<n/\P j)->∃j,j<n/\P j/\∀m,j<m->m<n->¬P m
 |0,⟨j,h,_⟩=>by omega|n+1,⟨j,h,hp⟩=>by
  by_cases e:P n
  .exact⟨n,o5,e,λm h1 h2=>by omega⟩
  .have:j≠n:=λe2=>e (e2▸hp);obtain⟨j',h1,h2,h3⟩:=a7D n ⟨j,o5,hp⟩;refine⟨j',o5,h2,λm h4 h5=>?_⟩;by_cases e2:m=n
   .subst e2;exact e
   .exact h3 m h4 o5
variable {n:Nat}
theorem p_{c:Nat->Cmd Unit}{S:Nat->Sm}{T:Nat->Tr}(hs:∀i,i<n->(c i).eval (S i) ([],[])=some ((),S (i+1),T i)){ord ex:Nat->Nat->Prop}
  (hc:∀i j,i<j->j<n->o_ ord ex T i j) (hex:∀i j,i<j->j<n->ex i j->∃S',(c i).eval (S (j+1)) ([],[])=some ((),S',T i)/\∀k∈(T i).2,S' k=S (i+1) k)
  {D:c6I} {i:Nat} (hi:i<n) (hD:i∉D) (hlt:∀j∈D,j<n) (hp:∀j,ord j i->j∈D) (hdown:∀j∈D,∀k,ord k j->k∈D):
  (c i).eval (SD S T D n) ([],[])=some ((),SD S T (i::D) n,T i):=by
 have before:∀k,(k∈(T i).1\/k∈(T i).2)->∀j,j<i->k∈(T j).2->j∈D:=λk hk j hj hw=>by
  rcases hc j i hj hi with h|⟨h1,_⟩
  .exact hp j h
  .rcases hk with hk|hk
   .exact absurd hk (h1 k hw).1
   .exact absurd hk (h1 k hw).2
 have afterW:∀k,k∈(T i).2->∀j,i<j->j<n->k∈(T j).2->j∉D:=λk hk j hj hjn hw hjD=>by
  rcases hc i j hj hjn with h|⟨h1,h2⟩
  .exact hD (hdown j hjD i h)
  .exact(h1 k hk).2 hw
 have fin:∀S0 S1:Sm,(c i).eval S0 ([],[])=some ((),S1,T i)->(∀k∈(T i).2,S1 k=S (i+1) k)->(∀k∈(T i).1,SD S T D n k=S0 k)->(c i).eval (SD S T D n) ([],[])=some ((),SD S T (i::D) n,T i):=λS0 S1 he hv hr=>by
  obtain⟨T',h1,_,h3,h4⟩:=tZ he (SD S T D n) hr;rw[h1];have:T' =SD S T (i::D) n:=by
   funext k;by_cases hk:k∈(T i).2
   .rw[h4 k hk D5,hv k hk];rw[OI (i::D) k (i+1) n o5 (λj h1 h2 hw=>by
     simp only[D8,not_or];exact⟨o5,afterW k hk j o5 h2 hw⟩)]
    simp[SD,hk]
   .rw[h3 k hk,a3O D i k hk]
  rw[this]
 by_cases hx:∃j,j<n/\(i<j/\j∈D/\∃k∈(T i).1,k∈(T j).2)
 .obtain⟨j,hjn,⟨hij,hjD,k0,hk0,hk1⟩,hmax⟩:=a7D n hx;rcases hc i j hij hjn with h|⟨_,h2⟩
  .exact absurd (hdown j hjD i h) hD
  .rcases h2 with h2|⟨h3,h4,h5⟩
   .exact absurd hk1 (h2 k0 hk0)
   .obtain⟨S',he,hv⟩:=hex i j hij hjn h3;refine fin (S (j+1)) S' he hv λk hk=>?_;rw[OI D k (j+1) n o5 (λm g1 g2 hw hmD=>hmax m o5 g2 ⟨o5,hmD,k,hk,hw⟩)];refine Ee hs D k (j+1) o5 λm hm hw=>?_;rcases Nat.lt_trichotomy m i with g|g|g
    .exact before k (.inl hk) m g hw
    .subst g;exact absurd hk (h4 k hw)
    .by_cases e:m=j
     .subst e;exact hjD
     .rcases h5 m g o5 with g2|g2
      .exact hdown j hjD m g2
      .exact absurd hw (g2 k hk)
 .refine fin (S i) (S (i+1)) (hs i hi) (λ_ _=>rfl) λk hk=>?_;rw[OI D k i n o5 (λj h1 h2 hw hjD=>by
   by_cases e:j=i
   .subst e;exact hD hjD
   .exact hx ⟨j,h2,o5,hjD,k,hk,hw⟩)]
  exact Ee hs D k i o5 (before k (.inl hk))
def qH(e:Edge):Prop:=match e.ground with| .textOnly _=>False| .gcOnly _=>False|_=>True
theorem qH.binds{e:Edge}(h:qH e)(md:Region.Mode):Region.binds md e=true:=by unfold qH at h;unfold Region.binds;split<;>simp_all
theorem Xt{e:Edge}(h:Region.binds .any e=true):qH e:=by unfold Region.binds at h;unfold qH;split<;>simp_all
theorem GU{M:Nat->Nat}{n k:Nat}(hk:k<n):(((List.range n).map M).reverse).getD (n -1 -k) 0=M k:=by rw[KF,jD E5];simp only[L8,ak,bV];rw[show n -1 -(n -1 -k)=k by omega];simp[hk]
theorem NT{M:Nat->Nat}{n:Nat} :∀(es:List Edge) {m m' :Nat},Nh ((List.range n).map M).reverse n es m=some m' ->
  (∀e∈es,qH e->e.on<n)/\∀j,Nat.testBit m' j=true->Nat.testBit m j=true\/∃e∈es,qH e/\(j=e.on\/Nat.testBit (M e.on) j=true)
 |[],m,m',h=>by simp[Nh]at h;subst h;exact⟨λ_ h=>absurd h D5,λj hj=> .inl hj⟩|e::es,m,m',h=>by
  have plain:(bif Nat.blt e.on n then Nh ((List.range n).map M).reverse n es (m ||| 2^e.on ||| (((List.range n).map M).reverse).getD (n -1 -e.on) 0)else none)=some m' ->qH e->
    (∀e' ∈e::es,qH e' ->e'.on<n)/\∀j,Nat.testBit m' j=true->Nat.testBit m j=true\/∃e' ∈e::es,qH e' /\(j=e'.on\/Nat.testBit (M e'.on) j=true):=λh hp=>by
   cases hb:Nat.blt e.on n
   .simp[hb]at h
   .simp only[hb,cond_true]at h;have hlt:=GG hb;rw[GU hlt]at h;obtain⟨h1,h2⟩:=NT es h;refine⟨λe' he' hp' =>?_,λj hj=>?_⟩
    .rcases D8.1 he' with rfl|he'
     .exact hlt
     .exact h1 e' he' hp'
    .rcases h2 j hj with h3|⟨e',he',hp',h3⟩
     .rw[Nat.testBit_or,Nat.testBit_or,lG,lG]at h3;rcases h3 with(h3|h3)|h3
      .exact .inl h3
      .rw[Nat.testBit_two_pow]at h3;exact .inr ⟨e,D5,hp,.inl (of_decide_eq_true h3).symm⟩
      .exact .inr ⟨e,D5,hp,.inr h3⟩
     .exact .inr ⟨e',by simp[he'],hp',h3⟩
  have skip:Nh ((List.range n).map M).reverse n es m=some m' ->¬qH e->
    (∀e' ∈e::es,qH e' ->e'.on<n)/\∀j,Nat.testBit m' j=true->Nat.testBit m j=true\/∃e' ∈e::es,qH e' /\(j=e'.on\/Nat.testBit (M e'.on) j=true):=λh hp=>by
   obtain⟨h1,h2⟩:=NT es h;refine⟨λe' he' hp' =>?_,λj hj=>?_⟩
   .rcases D8.1 he' with rfl|he'
    .exact absurd hp' hp
    .exact h1 e' he' hp'
   .rcases h2 j hj with h3|⟨e',he',hp',h3⟩
    .exact .inl h3
    .exact .inr ⟨e',by simp[he'],hp',h3⟩
  unfold Nh at h;cases hg:e.ground<;>simp only[hg]at h
  case textOnly=>exact skip h (by simp[qH,hg])
  case gcOnly=>exact skip h (by simp[qH,hg])
  all_goals exact plain h (by simp[qH,hg])
theorem Iw:∀(l:List Oper) {n:Nat} {M:Nat->Nat} {ms:c6I},TK l n ((List.range n).map M).reverse=some ms->
  ∃M' :Nat->Nat,ms=((List.range (n+l.length)).map M').reverse/\(∀k,k<n->M' k=M k)/\
   ∀i o,l[i]? =some o->(∀e∈o.after.toList,qH e->e.on<n+i)/\∀j,Nat.testBit (M' (n+i)) j=true->∃e∈o.after.toList,qH e/\(j=e.on\/Nat.testBit (M' e.on) j=true)
 |[],n,M,ms,h=>by simp only[TK,G8]at h;subst h;exact⟨M,rfl,λ_ _=>rfl,λi o hi=>by simp at hi⟩|o::l,n,M,ms,h=>by
  unfold TK at h;cases he:Nh ((List.range n).map M).reverse n o.after.toList 0 with
  |none=>simp[he]at h|some m=>
   simp only[he]at h;obtain⟨h1,h2⟩:=NT _ he;have hM:m::((List.range n).map M).reverse=((List.range (n+1)).map (λk=>if k=n then m else M k)).reverse:=by rw[qJ];simp only[if_true];congr 2;apply je;intro k hk;rw[if_neg];have:=fH.1 hk;omega
   rw[hM]at h;obtain⟨M',e1,e2,e3⟩:=Iw l h;have hMn:M' n=m:=by rw[e2 n o5];simp
   have hMk:∀k,k<n->M' k=M k:=λk hk=>by rw[e2 k o5,if_neg o5]
   refine⟨M',by rw[e1];congr 3;simp;omega,hMk,λi o' hi=>?_⟩;cases i with
   |zero=>
    simp at hi;subst hi;refine⟨h1,λj hj=>?_⟩;rw[aH,hMn]at hj;rcases h2 j hj with h3|⟨e,hem,hp,h3⟩
    .simp at h3
    .exact⟨e,hem,hp,by rwa[hMk _ (h1 e hem hp)]⟩
   |succ i=>have:=e3 i o' (by simpa using hi);rwa[show n+1+i=n+(i+1) by omega]at this
theorem VF:∀(n:Nat) {D:c6I},D.Nodup->(∀x∈D,x<n)->D.length<=n
 |0,D,_,h=>by
  cases D with
  |nil=>simp|cons x D=>have:=h x D5;omega
 |n+1,D,hD,h=>by
  by_cases hn:n∈D
  .have h1:=VF n (D:=D.erase n) (hD.erase n) (λx hx=>by
    have:=(hD.mem_erase_iff).1 hx;have:=h x this.2;omega)
   rw[List.length_erase_of_mem hn]at h1;omega
  .have h1:=VF n hD (λx hx=>by
    have:=h x hx;have:x≠n:=λe=>hn (e▸hx);omega)
   omega
theorem a6d{D:c6I}(hD:D.Nodup)(h:∀x∈D,x<n)(hl:n<=D.length):∀i,i<n->i∈D:=λi hi=>by
 refine jR λhn=>?_;have:=VF n (D:=i::D) (X0.2 ⟨hn,hD⟩) (λx hx=>by
  rcases D8.1 hx with rfl|hx
  .exact hi
  .exact h x hx)
 simp at this;omega
def BL(md:Region.Mode)(ops:Array Oper):Prop:=∃rk:Nat->Nat,∀i o,ops[i]? =some o->∀e∈o.after.toList,Region.binds md e=true->e.on<ops.size/\rk e.on<rk i
theorem SL:∀{es:List Edge},QS es=true->∀e∈es,qH e
 |[],_,e,he=>by cases he|e::es,h,e',he' =>by
  unfold QS at h;have hp:qH e:=by cases hg:e.ground<;>simp[hg]at h<;>simp[qH,hg]
  have hr:QS es=true:=by cases hg:e.ground<;>simp[hg]at h<;>exact h
  rcases D8.1 he' with rfl|he'
  .exact hp
  .exact SL hr e' he'
theorem GY:∀{l:List Oper},AU l=true->∀o∈l,∀e∈o.after.toList,qH e
 |[],_,o,ho=>by cases ho|o::l,h,o',ho' =>by
  unfold AU at h;cases hp:QS o.after.toList
  .simp[hp]at h
  .simp only[hp,cond_true]at h;rcases D8.1 ho' with rfl|ho'
   .exact SL hp
   .exact GY h o' ho'
theorem SN{md:Region.Mode}{done:c6I} :∀{es:List Edge},Om md done es=true->∀e∈es,Region.binds md e=true->e.on∈done
 |[],_,e,he,_=>by cases he|e::es,h,e',he',hb=>by
  unfold Om at h;cases hc:(!Region.binds md e || DV e.on done)
  .simp[hc]at h
  .simp only[hc,cond_true]at h;rcases D8.1 he' with rfl|he'
   .rw[hb]at hc;simp at hc;exact Vy hc
   .exact SN h e' he' hb
theorem JA{md:Region.Mode}{done:c6I} :∀{l:List Oper} {n i:Nat},xA md done l n=some i->∃o,l[i -n]? =some o/\n<=i/\i<n+l.length/\Om md done o.after.toList=true
 |[],n,i,h=>by simp[xA]at h|o::l,n,i,h=>by
  unfold xA at h;have rec' :xA md done l (n+1)=some i->∃o',(o::l)[i -n]? =some o' /\n<=i/\i<n+(o::l).length/\Om md done o'.after.toList=true:=λh=>by obtain⟨o',h1,h2,h3,h4⟩:=JA h;refine⟨o',?_,o5,by simp;omega,h4⟩;rw[show i -n=(i -(n+1))+1 by omega];simpa using h1
  cases hm:DV n done
  .simp only[hm,cond_false]at h;cases hr:Om md done o.after.toList
   .simp only[hr,cond_false]at h;exact rec' h
   .simp only[hr,cond_true,G8]at h;subst h;exact⟨o,D5,D7 _,D5,hr⟩
  .simp only[hm,cond_true]at h;exact rec' h
theorem Us:∀{n:Nat} {d:c6I},a3Q n d=true->∀i,i<n->i∈d
 |0,d,_,i,hi=>by omega|n+1,d,h,i,hi=>by
  unfold a3Q at h;simp only[D6]at h;by_cases e:i=n
  .subst e;exact Vy h.1
  .exact Us h.2 i o5
theorem Ag{md:Region.Mode}{ops:Array Oper} :∀(k:Nat) {done:c6I} {rk:Nat->Nat},WG md ops.toList k done=true->
  (∀x∈done,rk x<done.length)->(∀i∈done,∀o,ops[i]? =some o->∀e∈o.after.toList,Region.binds md e=true->e.on∈done/\e.on<ops.size/\rk e.on<rk i)->(∀x∈done,x<ops.size)->BL md ops
 |0,done,rk,h,h1,h2,h3=>by have hall:=Us h;simp only[X8]at hall;exact⟨rk,λi o hi e he hb=>(h2 i (hall i (G9.1 hi).1) o hi e he hb).2⟩|k+1,done,rk,h,h1,h2,h3=>by
  unfold WG at h;cases hf:xA md done ops.toList 0 with
  |none=>simp[hf]at h|some n=>
   simp only[hf]at h;obtain⟨o,e1,_,e2,e3⟩:=JA hf;simp only[Nat.sub_zero,X4,bY,X8]at e1 e2;by_cases hn:n∈done
   .refine Ag k (rk:=rk) h (λx hx=>?_) (λi hi o' ho' e he hb=>?_) (λx hx=>?_)
    .rcases D8.1 hx with rfl|hx
     .have:=h1 x hn;simp;omega
     .have:=h1 x hx;simp;omega
    .have hi' :i∈done:=by rcases D8.1 hi with rfl|hi;exact hn;exact hi
     obtain⟨g1,g2,g3⟩:=h2 i hi' o' ho' e he hb;exact⟨by simp[g1],g2,g3⟩
    .rcases D8.1 hx with rfl|hx
     .exact e2
     .exact h3 x hx
   .refine Ag k (rk:=λx=>if x=n then done.length else rk x) h (λx hx=>?_) (λi hi o' ho' e he hb=>?_) (λx hx=>?_)
    .show(if x=n then done.length else rk x)<_;rcases D8.1 hx with rfl|hx
     .simp
     .have:=h1 x hx;rw[if_neg (show ¬x=n from λe=>hn (by rw[←e];exact hx))];simp;omega
    .show _/\_/\(if e.on=n then done.length else rk e.on)<(if i=n then done.length else rk i);rcases D8.1 hi with rfl|hi
     .rw[e1]at ho';cases ho';have hd:=SN e3 e he hb;refine⟨by simp[hd],h3 _ hd,?_⟩;rw[if_neg (show ¬e.on=i from λe' =>hn (by rw[←e'];exact hd)),if_pos rfl];exact h1 _ hd
     .obtain⟨g1,g2,g3⟩:=h2 i hi o' ho' e he hb;refine⟨by simp[g1],g2,?_⟩;rw[if_neg (show ¬e.on=n from λe' =>hn (by rw[←e'];exact g1)),if_neg (show ¬i=n from λe' =>hn (by rw[←e'];exact hi))];exact g3
    .rcases D8.1 hx with rfl|hx
     .exact e2
     .exact h3 x hx
end Go.GP
namespace Go.GP
variable {k:Nat}{o:Oper}{f:FuncId}{c:Int}{s:St}{S1:Sm}{tr:Tr}{s':St}{α:Type}{n:Nat}
section
variable {X:Fx} {q:Nat} {ops:Array Oper} {S:Nat->Sm} {T:Nat->Tr} {m0:Mp} {ok0:Nat->Ty->Prop} {Q:Exit->Act->World->Prop}
theorem IK(H:FxOk X){i:Nat}(hi:ops[i]? =some o){S1 S2:Sm}{t:Tr}(he:(pR X.E q ops.toList o).eval S1 ([],[])=some ((),S2,t)){m:Mp}{ok:Nat->Ty->Prop}{a:Act}{w:World}
  (R:Rel X (CB*q) (CB*q+CB) S1 m ok a w) {next:Act->World->Prop}
  (hn:∀m' ok' a' w',Rel X (CB*q) (CB*q+CB) S2 m' ok' a' w' ->(∀k l,m k=some l->m' k=some l)->(∀b t,ok b t->ok' b t)->next a' w'):wpOp X.P ops Q i next a w:=
 pJ (a3y H R hi) he next Q hn
theorem Tu(H:FxOk X)(hc:Ul X.E q ops.toList ops.toList S T)
  (hQ:∀m' ok' a' w',Rel X (CB*q) (CB*q+CB) (S ops.size) m' ok' a' w' ->(∀k l,m0 k=some l->m' k=some l)->(∀b t,ok0 b t->ok' b t)->Q .normal a' w'):
  ∀(n k:Nat) {m:Mp} {ok:Nat->Ty->Prop} {a:Act} {w:World},k+n=ops.size->Rel X (CB*q) (CB*q+CB) (S k) m ok a w->(∀k l,m0 k=some l->m k=some l)->(∀b t,ok0 b t->ok b t)->wpOps X.P ops Q (List.range' k n) a w
 |0,k,m,ok,a,w,hk,R,hm,hok=>by have:k=ops.size:=o5;subst this;exact hQ m ok a w R hm hok
 |n+1,k,m,ok,a,w,hk,R,hm,hok=>by rw[jh,wpOps_cons];have hi:ops[k]? =some (ops[k]'o5):=O0 _;refine IK H hi (hc k _ (by rw[X4];exact hi)) R λm' ok' a' w' R' k1 k2=>?_;exact Tu H hc hQ n (k+1) o5 R' (λk l h=>k1 k l (hm k l h)) (λb t h=>k2 b t (hok b t h))
theorem a5A(H:FxOk X){md:Region.Mode}(hc:Ul X.E q ops.toList ops.toList S T){M:Nat->Nat}
  {ex:Nat->Nat->Prop} (hpair:∀i j,i<j->j<ops.size->o_ (λi j=>Nat.testBit (M j) i=true) ex T i j)
  (hex:∀i j,i<j->j<ops.size->ex i j->∃S',(pR X.E q ops.toList (ops.getD i default)).eval (S (j+1)) ([],[])=some ((),S',T i)/\∀k∈(T i).2,S' k=S (i+1) k)
  (hM:∀i o,ops[i]? =some o->∀j,Nat.testBit (M i) j=true->∃e∈o.after.toList,qH e/\(j=e.on\/Nat.testBit (M e.on) j=true)) (hrk:BL md ops)
  (hQ:∀m' ok' a' w',Rel X (CB*q) (CB*q+CB) (S ops.size) m' ok' a' w' ->(∀k l,m0 k=some l->m' k=some l)->(∀b t,ok0 b t->ok' b t)->Q .normal a' w'):
  ∀(dZ:Nat) {D:c6I} {rC:Array Bool} {m:Mp} {ok:Nat->Ty->Prop} {a:Act} {w:World},dZ+D.length=ops.size->D.Nodup->(∀j∈D,j<ops.size)->rC.size=ops.size->(∀i,i<ops.size->(rC.getD i false=true↔i∈D))->
   (∀j∈D,∀k,Nat.testBit (M j) k=true->k∈D)->Rel X (CB*q) (CB*q+CB) (SD S T D ops.size) m ok a w->(∀k l,m0 k=some l->m k=some l)->(∀b t,ok0 b t->ok b t)->
   wpAny X.P md ops Q dZ rC a w:=by
 have hs:∀i,i<ops.size->(pR X.E q ops.toList (ops.getD i default)).eval (S i) ([],[])=some ((),S (i+1),T i):=λi hi=>by refine hc i _ ?_;simp[Array.getD,hi]
 obtain⟨rk,hrk⟩:=hrk;intro dZ;induction dZ with
 |zero=>
  intro D rC m ok a w hf hD hlt hsz hl hdown R hm hok;have hall:=a6d hD hlt o5;refine⟨?_,?_⟩
  .cases hr:Region.ready md ops rC with
   |nil=>rfl|cons x xs=>
    have hx:x∈Region.ready md ops rC:=by rw[hr];simp
    obtain⟨h1,o,ho,_⟩:=mem_ready.1 hx;have hxl:=(G9.1 ho).1;have:=(hl x hxl).2 (hall x hxl);rw[O5]at h1 this;cases hg:rC[x]? with
    |none=>rw[hg]at this;cases this|some y=>rw[hg]at h1 this;simp only[Y3]at h1 this;rw[h1]at this;cases this
  .refine hQ m ok a w ?_ hm hok;rwa[a6H (c:=λi=>pR X.E q ops.toList (ops.getD i default)) hs hall]at R
 |succ dZ ih=>
  intro D rC m ok a w hf hD hlt hsz hl hdown R hm hok;refine⟨λhr=>?_,λi hi=>?_⟩
  .have hall:∀n i,rk i<n->i<ops.size->i∈D:=by
    intro n;induction n with
    |zero=>intro i hi _;omega|succ n ihn=>
     intro i hi hil;refine jR λhni=>?_;have hin:i∈Region.ready md ops rC:=by
      refine mem_ready.2 ⟨?_,ops[i],O0 hil,λe he hb=>?_⟩
      .have h1:¬rC.getD i false=true:=λh=>hni ((hl i hil).1 h);rw[O5]at h1 ⊢;rw[O0 o5]at h1 ⊢;simpa using h1
      .obtain⟨g1,g2⟩:=hrk i _ (O0 hil) e (by simpa using he) hb;exact(hl e.on g1).2 (ihn e.on o5 g1)
     rw[hr]at hin;cases hin
   refine hQ m ok a w ?_ hm hok;rwa[a6H (c:=λi=>pR X.E q ops.toList (ops.getD i default)) hs (λi hi=>hall _ i (Nat.lt_succ_self _) hi)]at R
  .obtain⟨h1,o,ho,h2⟩:=mem_ready.1 hi;have hil:=(G9.1 ho).1;have hnD:i∉D:=λh=>by
    have:=(hl i hil).2 h;rw[O5]at h1 this;rw[O0 o5]at h1 this;simp only[Y3]at h1 this;rw[h1]at this;cases this
   have hp:∀j,Nat.testBit (M i) j=true->j∈D:=λj hj=>by
    obtain⟨e,he,hpl,h3⟩:=hM i o ho j hj;have hlst:=h2 e (by simpa using he) (hpl.binds md);have hon:e.on<ops.size:=(hrk i o ho e he (hpl.binds md)).1;have honD:=(hl e.on hon).1 hlst;rcases h3 with rfl|h3
    .exact honD
    .exact hdown e.on honD j h3
   have hgd:ops.getD i default=o:=by rw[O5,ho];rfl
   have hstep:=p_ (c:=λi=>pR X.E q ops.toList (ops.getD i default)) (S:=S) (T:=T) (n:=ops.size) hs (ord:=λi j=>Nat.testBit (M j) i=true) (ex:=ex)
    hpair hex hil hnD hlt hp hdown
   simp only[hgd]at hstep;refine IK H ho hstep R λm' ok' a' w' R' k1 k2=>?_;refine ih (D:=i::D) E5 (X0.2 ⟨hnD,hD⟩) (λj hj=>?_) (by simp[hsz]) (λj hj=>?_) (λj hj k hk=>?_) R' (λk l h=>k1 k l (hm k l h)) (λb t h=>k2 b t (hok b t h))
   .rcases D8.1 hj with rfl|hj
    .exact hil
    .exact hlt j hj
   .by_cases e:i=j
    .subst e;simp[Array.getD,hsz,hil]
    .rw[getD_set_ne false e,hl j hj];simp[Ne.symm e]
   .rcases D8.1 hj with rfl|hj
    .exact U5 _ (hp k hk)
    .exact U5 _ (hdown j hj k hk)
theorem a0w(H:FxOk X)(hi:ops[k]? =some o)(hp:DK X.E o=some f){S1 S2:Sm}{t:Tr}(he:(IA X.E q ops.toList o f).eval S1 ([],[])=some (some c,S2,t)){m:Mp}{ok:Nat->Ty->Prop}{a:Act}{w:World}
  (R:Rel X (CB*q) (CB*q+CB) S1 m ok a w) {next:Act->World->Prop}
  (hn:c≠0->∀m' ok' w',Rel X (CB*q) (CB*q+CB) S2 m' ok' a w' ->(∀k l,m k=some l->m' k=some l)->(∀b t,ok b t->ok' b t)->Q (.panic (nX X.P c)) a w'):wpOp X.P ops Q k next a w:=by
 obtain⟨h1,h2⟩:=pJ (WA H R hi hp) he;exact h2 next Q (hn h1)
theorem Yv(H:FxOk X){k:Nat}{o:Oper}{f:FuncId}{c:Int}{S2:Sm}{tr:Tr}(hi:ops[k]? =some o)(hp:DK X.E o=some f)(hc:TM k X.E q ops.toList ops.toList S T)
  (he:(IA X.E q ops.toList o f).eval (S k) ([],[])=some (some c,S2,tr))
  (hQ:c≠0->∀m' ok' a' w',Rel X (CB*q) (CB*q+CB) S2 m' ok' a' w' ->(∀k l,m0 k=some l->m' k=some l)->(∀b t,ok0 b t->ok' b t)->Q (.panic (nX X.P c)) a' w'):
  ∀(n j:Nat) {m:Mp} {ok:Nat->Ty->Prop} {a:Act} {w:World},j+n=k->Rel X (CB*q) (CB*q+CB) (S j) m ok a w->(∀k l,m0 k=some l->m k=some l)->(∀b t,ok0 b t->ok b t)->wpOps X.P ops Q (List.range' j (ops.size -j)) a w
 |0,j,m,ok,a,w,hk,R,hm,hok=>by have hjk:j=k:=o5;subst hjk;have hlt:=(G9.1 hi).1;rw[show ops.size -j=(ops.size -j -1)+1 by omega,jh,wpOps_cons];exact a0w H hi hp he R λh0 m' ok' w' R' k1 k2=>hQ h0 m' ok' a w' R' (λk l h=>k1 k l (hm k l h)) (λb t h=>k2 b t (hok b t h))
 |n+1,j,m,ok,a,w,hk,R,hm,hok=>by have hlt:=(G9.1 hi).1;rw[show ops.size -j=(ops.size -j -1)+1 by omega,jh,wpOps_cons];have hj:ops[j]? =some (ops[j]'o5):=O0 _;refine IK H hj (hc j _ o5 (by rw[X4];exact hj)) R λm' ok' a' w' R' k1 k2=>?_;rw[show ops.size -j -1=ops.size -(j+1) by omega];exact Yv H hi hp hc he hQ n (j+1) o5 R' (λk l h=>k1 k l (hm k l h)) (λb t h=>k2 b t (hok b t h))
theorem PG:∀(k:Nat) {D:c6I},D.Nodup->(∀j∈D,j<k)->D.length<=k
 |0,D,_,h=>by
  cases D with
  |nil=>exact D7 _|cons a l=>exact absurd (h a D5) (Nat.not_lt_zero _)
 |k+1,D,hn,h=>by
  have h2:=PG k (hn.erase k) (λj hj=>by obtain⟨h3,h4⟩:=hn.mem_erase_iff.1 hj;have:=h j h4;omega)
  rw[List.length_erase]at h2;split at h2<;>omega
theorem a6L(H:FxOk X){md:Region.Mode}(hi:ops[k]? =some o)(hp:DK X.E o=some f){c2:Nat->Cmd Unit}{S2:Nat->Sm}{T2:Nat->Tr}
  (hs:∀i,i<ops.size->(c2 i).eval (S2 i) ([],[])=some ((),S2 (i+1),T2 i)) {M:Nat->Nat} (hc2:∀i o,ops[i]? =some o->i≠k->¬Nat.testBit (M i) k=true->c2 i=pR X.E q ops.toList o)
  (he:(IA X.E q ops.toList o f).eval (S2 k) ([],[])=some (some c,S1,tr))
  (hpair:∀i j,i<j->j<ops.size->o_ (λi j=>Nat.testBit (M j) i=true) (λ_ _=>False) T2 i j) (hpk:∀i,i<k->Nat.testBit (M k) i=true\/Xn (T2 i) tr) (hpl:∀j,k<=j->j<ops.size->∀z∈tr.1,z∉(T2 j).2)
  (hM:∀i o,ops[i]? =some o->∀j,Nat.testBit (M i) j=true->∃e∈o.after.toList,qH e/\(j=e.on\/Nat.testBit (M e.on) j=true)) (hrk:BL md ops)
  (hQ:c≠0->∀S3 m' ok' a' w',Rel X (CB*q) (CB*q+CB) S3 m' ok' a' w' ->(∀k l,m0 k=some l->m' k=some l)->(∀b t,ok0 b t->ok' b t)->(∀z,(∀i,i<ops.size->z∉(T2 i).2)->S3 z=if z∈tr.2 then S1 z else S2 ops.size z)->Q (.panic (nX X.P c)) a' w'):
  ∀(dZ:Nat) {D:c6I} {rC:Array Bool} {m:Mp} {ok:Nat->Ty->Prop} {a:Act} {w:World},dZ+D.length=ops.size->D.Nodup->(∀j∈D,j<ops.size)->k∉D->rC.size=ops.size->(∀i,i<ops.size->(rC.getD i false=true↔i∈D))->
   (∀j∈D,∀k,Nat.testBit (M j) k=true->k∈D)->Rel X (CB*q) (CB*q+CB) (SD S2 T2 D ops.size) m ok a w->(∀k l,m0 k=some l->m k=some l)->(∀b t,ok0 b t->ok b t)->
   wpAny X.P md ops Q dZ rC a w:=by
 have hklt:=(G9.1 hi).1;obtain⟨rk,hrk⟩:=hrk;intro dZ;induction dZ with
 |zero=>
  intro D rC m ok a w hf hD hlt hkD hsz hl hdown R hm hok;exfalso;have:=PG ops.size (X0.2 ⟨hkD,hD⟩) (λj hj=>by
   rcases D8.1 hj with rfl|hj
   .exact hklt
   .exact hlt j hj)
  simp at this;omega
 |succ dZ ih=>
  intro D rC m ok a w hf hD hlt hkD hsz hl hdown R hm hok;refine⟨λhr=>?_,λi hir=>?_⟩
  .exfalso;have hall:∀n i,rk i<n->i<ops.size->i∈D:=by
    intro n;induction n with
    |zero=>intro i hi _;omega|succ n ihn=>
     intro i hi hil;refine jR λhni=>?_;have hin:i∈Region.ready md ops rC:=by
      refine mem_ready.2 ⟨?_,ops[i],O0 hil,λe he hb=>?_⟩
      .have h1:¬rC.getD i false=true:=λh=>hni ((hl i hil).1 h);rw[O5]at h1 ⊢;rw[O0 o5]at h1 ⊢;simpa using h1
      .obtain⟨g1,g2⟩:=hrk i _ (O0 hil) e (by simpa using he) hb;exact(hl e.on g1).2 (ihn e.on o5 g1)
     rw[hr]at hin;cases hin
   exact hkD (hall _ k (Nat.lt_succ_self _) hklt)
  .obtain⟨h1,o',ho,h2⟩:=mem_ready.1 hir;have hil:=(G9.1 ho).1;have hnD:i∉D:=λh=>by
    have:=(hl i hil).2 h;rw[O5]at h1 this;rw[O0 o5]at h1 this;simp only[Y3]at h1 this;rw[h1]at this;cases this
   have hpre:∀j,Nat.testBit (M i) j=true->j∈D:=λj hj=>by
    obtain⟨e,he,hpl,h3⟩:=hM i o' ho j hj;have hlst:=h2 e (by simpa using he) (hpl.binds md);have hon:e.on<ops.size:=(hrk i o' ho e he (hpl.binds md)).1;have honD:=(hl e.on hon).1 hlst;rcases h3 with rfl|h3
    .exact honD
    .exact hdown e.on honD j h3
   by_cases hik:i=k
   .subst hik;rw[hi]at ho;cases ho;have hrd:∀z,z∈tr.1->SD S2 T2 D ops.size z=S2 i z:=λz hz=>by
     rw[OI D z i ops.size o5 (λj g1 g2 hw=>absurd hw (hpl j g1 g2 z hz))];refine Ee hs D z i o5 λj hj hw=>?_;rcases hpk j hj with h|h
     .exact hpre j h
     .exact absurd hz (h.1 z hw).1
    obtain⟨T',g1,g2,g3,g4⟩:=tZ he (SD S2 T2 D ops.size) hrd;refine a0w H hi hp g1 R λh0 m' ok' w' R' k1 k2=>hQ h0 T' m' ok' a w' R' (λk l h=>k1 k l (hm k l h)) (λb t h=>k2 b t (hok b t h)) λz hz=>?_;by_cases hzt:z∈tr.2
    .rw[if_pos hzt];exact g4 z hzt D5
    .rw[if_neg hzt,g3 z hzt];exact Ee hs D z ops.size (D7 _) λj hj hw=>absurd hw (hz j hj)
   .have hnk:¬Nat.testBit (M i) k=true:=λh=>hkD (hpre k h);have hstep:=p_ (c:=c2) (S:=S2) (T:=T2) (n:=ops.size) hs (ord:=λi j=>Nat.testBit (M j) i=true) (ex:=λ_ _=>False)
     hpair (λ_ _ _ _ h=>h.elim) hil hnD hlt hpre hdown
    rw[hc2 i o' ho hik hnk]at hstep;refine IK H ho hstep R λm' ok' a' w' R' k1 k2=>?_;refine ih (D:=i::D) E5 (X0.2 ⟨hnD,hD⟩) (λj hj=>?_) (λh=>?_) (by simp[hsz]) (λj hj=>?_) (λj hj z hz=>?_) R' (λk l h=>k1 k l (hm k l h)) (λb t h=>k2 b t (hok b t h))
    .rcases D8.1 hj with rfl|hj
     .exact hil
     .exact hlt j hj
    .rcases D8.1 h with h|h
     .exact hik h.symm
     .exact hkD h
    .by_cases e:i=j
     .subst e;simp[Array.getD,hsz,hil]
     .rw[getD_set_ne false e,hl j hj];simp[Ne.symm e]
    .rcases D8.1 hj with rfl|hj
     .exact U5 _ (hpre z hz)
     .exact U5 _ (hdown j hj z hz)
theorem SV(H:FxOk X)(h0:S 0=aV s)(h1:S ops.size=aV s')(hc:Ul X.E q ops.toList ops.toList S T){draw:Bool}{ex:Nat->Nat->Prop}
  (hex:∀i j,i<j->j<ops.size->ex i j->∃S',(pR X.E q ops.toList (ops.getD i default)).eval (S (j+1)) ([],[])=some ((),S',T i)/\∀k∈(T i).2,S' k=S (i+1) k)
  (hdraw:draw=true->∃M:Nat->Nat,TK ops.toList 0 []=some ((List.range ops.size).map M).reverse/\(∀i j,i<j->j<ops.size->o_ (λi j=>Nat.testBit (M j) i=true) ex T i j)/\
   (bif AU ops.toList then true else WG .text ops.toList ops.toList.length []&&WG .gc ops.toList ops.toList.length [])=true):
  (∀k,(∀x∈((List.range ops.size).map T).reverse,k∉x.2)->aV s' k=aV s k)/\
   ∀{m:Mp} {ok:Nat->Ty->Prop} {a:Act} {w:World} {id:Nat} {Q:Exit->Act->World->Prop},Rel X (CB*q) (CB*q+CB) (aV s) m ok a w->
    (∀m' ok' a' w',Rel X (CB*q) (CB*q+CB) (aV s') m' ok' a' w' ->(∀k l,m k=some l->m' k=some l)->(∀b t,ok b t->ok' b t)->Q .normal a' w')->(Code.region id ops draw).wp X.P Q a w:=by
 have hfr:∀k,(∀x∈((List.range ops.size).map T).reverse,k∉x.2)->aV s' k=aV s k:=λk hk=>by
  have:∀n,n<=ops.size->S n k=S 0 k:=by
   intro n;induction n with
   |zero=>intro _;rfl|succ n ih=>intro hn;have hi:ops[n]? =some (ops[n]'o5):=O0 _;rw[zH (hc n (ops[n]'o5) (by rw[X4];exact hi)) k (hk (T n) (by simp;exact⟨n,o5,rfl⟩)),ih o5]
  rw[←h1,←h0];exact this ops.size (D7 _)
 cases draw with
 |false=>refine⟨hfr,λ{m ok a w id Q} R hQ=>wp_region ?_⟩;rw[rQ];rw[←h0]at R;refine Tu H hc (m0:=m) (ok0:=ok) (by rw[h1];exact hQ) ops.size 0 o5 R (λ_ _ h=>h) (λ_ _ h=>h)|true=>
  obtain⟨M0,hp,hpair,hd⟩:=hdraw rfl;obtain⟨M,hMM,_,hM⟩:=Iw (M:=λ_=>0) ops.toList (n:=0) hp;simp only[bY,X8]at hd hM hMM;have hMM:∀k,k<ops.size->M0 k=M k:=λk hk=>by have e1:=GU (M:=M0) hk;rw[hMM,GU hk]at e1;exact e1.symm
  have hM:∀i o,ops[i]? =some o->(∀e∈o.after.toList,qH e->e.on<i)/\∀j,Nat.testBit (M0 i) j=true->∃e∈o.after.toList,qH e/\(j=e.on\/Nat.testBit (M0 e.on) j=true):=λi o ho=>by have hil:=(G9.1 ho).1;obtain⟨g1,g2⟩:=hM i o (by simpa using ho);refine⟨g1,λj hj=>?_⟩;rw[hMM i hil]at hj;obtain⟨e,he,hpl,h3⟩:=g2 j hj;exact⟨e,he,hpl,by rw[hMM e.on (by have:=g1 e he hpl;omega)];exact h3⟩
  have hidr:∀md,(∀(i:Nat) (o:Oper),ops[i]? =some o->∀e∈o.after.toList,Region.binds md e=true->qH e)->BL md ops:=λmd hpl=>by refine⟨λi=>i,λi o ho e he hb=>?_⟩;have hil:=(G9.1 ho).1;have:=(hM i o ho).1 e he (hpl i o ho e he hb);exact⟨o5,this⟩
  have hany:BL .any ops:=hidr .any λi o ho e he hb=>Xt hb;have hboth:BL .text ops/\BL .gc ops:=by
   cases hpo:AU ops.toList
   .simp only[hpo,cond_false,D6]at hd;exact⟨Ag (rk:=λ_=>0) _ hd.1 D5 D5 D5,Ag (rk:=λ_=>0) _ hd.2 D5 D5 D5⟩
   .have hpl:∀(i:Nat) (o:Oper),ops[i]? =some o->∀e∈o.after.toList,qH e:=λi o ho e he=>GY hpo o (by simpa using Array.mem_of_getElem? ho) e he;exact⟨hidr _ λi o ho e he _=>hpl i o ho e he,hidr _ λi o ho e he _=>hpl i o ho e he⟩
  refine⟨hfr,λ{m ok a w id Q} R hQ=>wp_region_draw λt=>?_⟩;have R' :Rel X (CB*q) (CB*q+CB) (SD S T [] ops.size) m ok a { w with drawn:=w.drawn+1 }:=by rw[a6I,h0];exact R.same rfl rfl rfl rfl
  have main:∀md,BL md ops->∀t,wpOps X.P ops Q (Region.linearise md ops t) a { w with drawn:=w.drawn+1 }:=λmd hr t=>by unfold Region.linearise;refine wpAny_sound ops.size t _ a _ ?_;refine a5A H hc hpair hex (λi o ho=>(hM i o ho).2) hr (m0:=m) (ok0:=ok) (by rw[h1];exact hQ) ops.size (D:=[]) D5 bu D5 D5 (λi hi=>?_) D5 R' (λ_ _ h=>h) (λ_ _ h=>h);simp[Array.getD,hi]
  unfold Region.schedule;split
  .exact main _ hany t
  .split
   .exact main _ hboth.1 _
   .exact main _ hboth.2 _
theorem f_{z:Nat} :∀{t:Trs},z∉wrs t->∀x∈t,z∉x.2
 |[],_,x,hx=>by cases hx|y::t,h,x,hx=>by
  unfold wrs at h;rcases D8.1 hx with rfl|hx
  .exact λhz=>h (Y4 _ hz)
  .exact f_ (λhz=>h (bW _ hz)) x hx
theorem Xg(M:Nat->α)(h:k<=n):((List.range n).map M).reverse.drop (n -k)=((List.range k).map M).reverse:=by
 apply bU;intro i;rw[O9];by_cases hi:i<k
 .rw[jD E5,jD E5];simp only[L8,ak];rw[bV,bV,jd o5,jd o5];congr 2;omega
 .rw[aA E5,aA E5]
theorem a2G(H:FxOk X)(hi:ops[k]? =some o)(hp:DK X.E o=some f)(h0:S 0=aV s)(hc:TM k X.E q ops.toList ops.toList S T)
  (he:(IA X.E q ops.toList o f).eval (S k) ([],[])=some (some c,aV s',tr)):
  ∀{m:Mp} {ok:Nat->Ty->Prop} {a:Act} {w:World} {id:Nat} {Q:Exit->Act->World->Prop},Rel X (CB*q) (CB*q+CB) (aV s) m ok a w->
   (c≠0->∀m' ok' a' w',Rel X (CB*q) (CB*q+CB) (aV s') m' ok' a' w' ->(∀k l,m k=some l->m' k=some l)->(∀b t,ok b t->ok' b t)->Q (.panic (nX X.P c)) a' w')->(Code.region id ops false).wp X.P Q a w:=by
 intro m ok a w id Q R hQ;refine wp_region ?_;rw[rQ];rw[←h0]at R;exact Yv H hi hp hc he (m0:=m) (ok0:=ok) (λhz m' ok' a' w' R' k1 k2=>hQ hz m' ok' a' w' R' k1 k2) k 0 o5 R (λ_ _ h=>h) (λ_ _ h=>h)
theorem Jr{R:Type}{E:Env}{all:List Oper}{k:Nat} :∀(l:List Oper) (ms:c6I) {s:St} {t:Trs} {K:St->Trs->Option R} {r:R},Gu E q all k l ms s t K=some r->
  ∃(s' :St) (S:Nat->Sm) (T:Nat->Tr),S 0=aV s/\S l.length=aV s' /\(∀(i:Nat) (o:Oper) (m:Nat),l[i]? =some o->ms[i]? =some m->(Nat.testBit m k=true/\S (i+1)=S i/\T i=([],[]))\/(Nat.testBit m k=false/\(pR E q all o).eval (S i) ([],[])=some ((),S (i+1),T i)))/\
   K s' (((List.range l.length).map T).reverse++t)=some r
 |[],[],s,t,K,r,h=>⟨s,λ_=>aV s,λ_=>([],[]),rfl,rfl,λi o m hi=>by simp at hi,by simpa[Gu]using h⟩|[],_::_,s,t,K,r,h=>by simp[Gu]at h|_::_,[],s,t,K,r,h=>by simp[Gu]at h|o::l,m::ms,s,t,K,r,h=>by
  unfold Gu at h;cases hb:Nat.testBit m k
  .simp only[hb,cond_false]at h;obtain⟨x,s1,tr,e,hk⟩:=jV h;obtain⟨s',S,T,g0,g1,g2,g3⟩:=Jr l ms hk;refine⟨s',Wn (aV s) S,Wp tr T,rfl,g1,λi o' m' hi hm=>?_,?_⟩
   .cases i with
    |zero=>simp at hi hm;subst hi;subst hm;refine .inr ⟨hb,?_⟩;show(pR E q all o).eval (aV s) ([],[])=some ((),S 0,tr);rw[e,g0]|succ i=>exact g2 i o' m' (by simpa using hi) (by simpa using hm)
   .rw[F5,jk,dG,jT,E8,pz];exact g3
  .simp only[hb,cond_true]at h;obtain⟨s',S,T,g0,g1,g2,g3⟩:=Jr l ms h;refine⟨s',Wn (aV s) S,Wp ([],[]) T,rfl,g1,λi o' m' hi hm=>?_,?_⟩
   .cases i with
    |zero=>simp at hi hm;subst hi;subst hm;exact .inl ⟨hb,g0,rfl⟩|succ i=>exact g2 i o' m' (by simpa using hi) (by simpa using hm)
   .rw[F5,jk,dG,jT,E8,pz];exact g3
theorem Uu{x:Tr} :∀{l:Trs},u_ x l=true->∀y∈l,Xn x y
 |[],_,y,hy=>by cases hy|z::l,h,y,hy=>by
  unfold u_ at h;cases hb:VG false x z<;>rw[hb]at h
  .cases h
  .rcases D8.1 hy with rfl|hy
   .exact(SC hb).elim (λh=>by cases h) id
   .exact Uu h y hy
theorem Zm(A B:Nat->α)(x:α)(h:k<n):(List.range n).map (λi=>if i<k then A i else if i=k then x else B (i -(k+1)))=(List.range k).map A++x::(List.range (n -(k+1))).map B:=by
 apply jg
 .simp;omega
 .intro i h1 h2;simp only[L8,ak]at h1;simp only[rH,pq];by_cases e1:i<k
  .rw[if_pos e1,oJ (by simpa using e1)];simp
  .rw[if_neg e1,List.getElem_append_right (by simpa using Nat.le_of_not_lt e1)];by_cases e2:i=k
   .subst e2;simp
   .rw[if_neg e2];simp only[L8,ak];obtain⟨d,hd⟩:∃d,i -k=d+1:=⟨i -k -1,o5⟩;simp only[hd,List.getElem_cons_succ,rH,pq];congr 1;omega
theorem b0Y [Inhabited α](M:Nat->α){n k i:Nat}(h:k<n)(hi:i<n -(k+1)):((((List.range n).map M).reverse.take (n -1 -k)).reverse)[i]? =some (M (i+(k+1))):=by rw[jD E5];simp only[aX,kR,L8,ak];rw[Y7,if_pos o5,jD E5];simp only[L8,ak,bV];rw[jd o5];simp only[eX,G8];congr 1;omega
theorem a0C(H:FxOk X){s s1 s' :St}(hi:ops[k]? =some o)(hp:DK X.E o=some f)(h0:S 0=aV s)(hc:TM k X.E q ops.toList ops.toList S T)
  (he:(IA X.E q ops.toList o f).eval (S k) ([],[])=some (some c,aV s1,tr)) {ms:c6I} (hpm:TK ops.toList 0 []=some ms) {S' :Nat->Sm} {T' :Nat->Tr} (g0:S' 0=aV s1) (g1:S' (ops.size -(k+1))=aV s')
  (gl:∀(i:Nat) (o:Oper) (m:Nat),(ops.toList.drop (k+1))[i]? =some o->((ms.take (ops.toList.length -1 -k)).reverse)[i]? =some m->(Nat.testBit m k=true/\S' (i+1)=S' i/\T' i=([],[]))\/(Nat.testBit m k=false/\(pR X.E q ops.toList o).eval (S' i) ([],[])=some ((),S' (i+1),T' i)))
  (hpd:Ub ops.toList ms tr ((List.range k).map T).reverse ((List.range (ops.size -(k+1))).map T').reverse=true):
  ∀{m:Mp} {ok:Nat->Ty->Prop} {a:Act} {w:World} {id:Nat} {Q:Exit->Act->World->Prop},Rel X (CB*q) (CB*q+CB) (aV s) m ok a w->
   (c≠0->∀S3 m' ok' a' w',Rel X (CB*q) (CB*q+CB) S3 m' ok' a' w' ->(∀k l,m k=some l->m' k=some l)->(∀b t,ok b t->ok' b t)->(∀z,z∉wrs ((List.range (ops.size -(k+1))).map T').reverse++wrs ((List.range k).map T).reverse->S3 z=aV s' z)->Q (.panic (nX X.P c)) a' w')->(Code.region id ops true).wp X.P Q a w:=by
 have hklt:=(G9.1 hi).1;obtain⟨M,hms,_,hM⟩:=Iw (M:=λ_=>0) ops.toList (n:=0) hpm;simp only[bY,X8]at hms hM gl;unfold Ub at hpd;simp only[kR,L8,ak,X8]at hpd;let T2:Nat->Tr:=λi=>if i<k then T i else if i=k then([],[])else T' (i -(k+1));have hT2:((List.range (ops.size -(k+1))).map T').reverse++([],[])::((List.range k).map T).reverse=((List.range ops.size).map T2).reverse:=by rw[Zm T T' ([],[]) hklt,List.reverse_append,jT,E8];rfl
 rw[hT2]at hpd;cases hc0:(Oi ms ((List.range ops.size).map T2).reverse&&u_ tr ((List.range (ops.size -(k+1))).map T').reverse)
 .simp[hc0]at hpd
 simp only[hc0,cond_true]at hpd;simp only[D6]at hc0;subst hms;rw[show ops.size -1 -k=ops.size -(k+1) by omega,Xg M o5,qJ]at hpd;simp only at hpd;cases hc1:MC (M k) tr ((List.range k).map T).reverse k
 .simp[hc1]at hpd
 simp only[hc1,cond_true]at hpd;have hpk:=Je k hc1;have hpair:=KQ _ hc0.1;have hap:∀i,i<ops.size -(k+1)->Xn tr (T' i):=λi hi=>Uu hc0.2 _ (by simp;exact⟨i,hi,rfl⟩);have gl:∀(i:Nat) (o:Oper),k<i->ops[i]? =some o->(Nat.testBit (M i) k=true/\S' (i -k)=S' (i -(k+1))/\T' (i -(k+1))=([],[]))\/(Nat.testBit (M i) k=false/\(pR X.E q ops.toList o).eval (S' (i -(k+1))) ([],[])=some ((),S' (i -k),T' (i -(k+1)))):=λi o hki ho=>by
  have hil:=(G9.1 ho).1;have:=gl (i -(k+1)) o (M i) (by rw[O9,show k+1+(i -(k+1))=i by omega];simpa using ho) (by rw[b0Y M hklt o5,show i -(k+1)+(k+1)=i by omega])
  rwa[show i -(k+1)+1=i -k by omega]at this
 let S2:Nat->Sm:=λi=>if i<=k then S i else λz=>if z∈tr.2 then S k z else S' (i -(k+1)) z;let c2:Nat->Cmd Unit:=λi=>if i<k\/(k<i/\¬Nat.testBit (M i) k=true)then pR X.E q ops.toList (ops.getD i default)else .ret ();have hgd:∀i (h:i<ops.size),ops[i]? =some (ops.getD i default):=λi h=>by simp[Array.getD,h]
 have hs:∀i,i<ops.size->(c2 i).eval (S2 i) ([],[])=some ((),S2 (i+1),T2 i):=λi hil=>by
  rcases Nat.lt_trichotomy i k with h|h|h
  .have e1:c2 i=pR X.E q ops.toList (ops.getD i default):=if_pos (.inl h);have e2:S2 i=S i:=if_pos o5;have e3:S2 (i+1)=S (i+1):=if_pos o5;have e4:T2 i=T i:=if_pos h;rw[e1,e2,e3,e4];exact hc i _ h (by rw[X4];exact hgd i hil)
  .subst h;have e1:c2 i= .ret ():=if_neg o5;have e2:S2 i=S i:=if_pos (D7 _);have e3:S2 (i+1)=S i:=by
    funext z;show(if i+1<=i then S (i+1)else λz=>if z∈tr.2 then S i z else S' (i+1 -(i+1)) z) z=S i z;rw[if_neg o5];by_cases hz:z∈tr.2
    .simp[hz]
    .simp only[hz,if_false,dR,g0];exact zH he z hz
   have e4:T2 i=([],[]):=by show(if i<i then T i else if i=i then([],[])else T' (i -(i+1)))=_;simp
   rw[e1,e2,e3,e4];rfl
  .have e4:T2 i=T' (i -(k+1)):=by show(if i<k then T i else if i=k then([],[])else T' (i -(k+1)))=_;rw[if_neg o5,if_neg o5]
   have e2:S2 i=λz=>if z∈tr.2 then S k z else S' (i -(k+1)) z:=if_neg o5;have e3:S2 (i+1)=λz=>if z∈tr.2 then S k z else S' (i -k) z:=by show(if i+1<=k then S (i+1)else λz=>if z∈tr.2 then S k z else S' (i+1 -(k+1)) z)=_;rw[if_neg o5,show i+1 -(k+1)=i -k by omega]
   rcases gl i _ h (hgd i hil)with⟨b1,b2,b3⟩|⟨b1,b2⟩
   .have e1:c2 i= .ret ():=if_neg (by rw[b1];simp;omega);rw[e1,e2,e3,e4,b2,b3];rfl
   .have e1:c2 i=pR X.E q ops.toList (ops.getD i default):=if_pos (.inr ⟨h,by rw[b1];simp⟩);have ha:=hap (i -(k+1)) o5;obtain⟨U,u1,u2,u3,u4⟩:=tZ b2 (S2 i) (λz hz=>by
     rw[e2];have:z∉tr.2:=λh=>(ha.1 z h).1 hz;simp[this])
    rw[e1,u1,e4];have:U=S2 (i+1):=by
     funext z;rw[e3];by_cases hz:z∈(T' (i -(k+1))).2
     .have:z∉tr.2:=λh=>(ha.1 z h).2 hz;simp only[this,if_false];exact u4 z hz D5
     .rw[u3 z hz,e2];simp only;rw[zH b2 z hz]
    rw[this]
 have hc2:∀i o,ops[i]? =some o->i≠k->¬Nat.testBit (M i) k=true->c2 i=pR X.E q ops.toList o:=λi o ho hik hb=>by
  have hil:=(G9.1 ho).1;have:ops.getD i default=o:=by rw[O5,ho];rfl
  rw[←this];refine if_pos ?_;rcases Nat.lt_or_gt_of_ne hik with h|h
  .exact .inl h
  .exact .inr ⟨h,hb⟩
 have hM:∀i o,ops[i]? =some o->(∀e∈o.after.toList,qH e->e.on<i)/\∀j,Nat.testBit (M i) j=true->∃e∈o.after.toList,qH e/\(j=e.on\/Nat.testBit (M e.on) j=true):=λi o ho=>hM i o (by simpa using ho);have hidr:∀md,(∀(i:Nat) (o:Oper),ops[i]? =some o->∀e∈o.after.toList,Region.binds md e=true->qH e)->BL md ops:=λmd hpl=>by refine⟨λi=>i,λi o ho e he hb=>?_⟩;have hil:=(G9.1 ho).1;have:=(hM i o ho).1 e he (hpl i o ho e he hb);exact⟨o5,this⟩
 have hany:BL .any ops:=hidr .any λi o ho e he hb=>Xt hb;have hboth:BL .text ops/\BL .gc ops:=by
  cases hpo:AU ops.toList
  .simp only[hpo,cond_false,D6,←X8]at hpd;exact⟨Ag (rk:=λ_=>0) _ hpd.1 D5 D5 D5,Ag (rk:=λ_=>0) _ hpd.2 D5 D5 D5⟩
  .have hpl:∀(i:Nat) (o:Oper),ops[i]? =some o->∀e∈o.after.toList,qH e:=λi o ho e he=>GY hpo o (by simpa using Array.mem_of_getElem? ho) e he;exact⟨hidr _ λi o ho e he _=>hpl i o ho e he,hidr _ λi o ho e he _=>hpl i o ho e he⟩
 intro m ok a w id Q R hQ;refine wp_region_draw λt=>?_;have R' :Rel X (CB*q) (CB*q+CB) (SD S2 T2 [] ops.size) m ok a { w with drawn:=w.drawn+1 }:=by rw[a6I,show S2 0=S 0 from if_pos (cO _),h0];exact R.same rfl rfl rfl rfl
 have hT2l:∀i,i<k->T2 i=T i:=λi h=>if_pos h;have hT2g:∀j,k<=j->j<ops.size->T2 j=([],[])\/(k<j/\T2 j=T' (j -(k+1))):=λj h1 h2=>by
  by_cases e:j=k
  .left;show(if j<k then T j else if j=k then([],[])else T' (j -(k+1)))=_;rw[if_neg o5,if_pos e]
  .right;exact⟨o5,by show(if j<k then T j else if j=k then([],[])else T' (j -(k+1)))=_;rw[if_neg o5,if_neg e]⟩
 have main:∀md,BL md ops->∀t,wpOps X.P ops Q (Region.linearise md ops t) a { w with drawn:=w.drawn+1 }:=λmd hr t=>by
  unfold Region.linearise;refine wpAny_sound ops.size t _ a _ ?_;refine a6L H hi hp hs hc2 (by rw[show S2 k=S k from if_pos (D7 _)];exact he) (λi j h1 h2=>(hpair i j h1 h2).imp (λh=>h) λh=>⟨h.1,.inl h.2⟩) (λi h=>by rw[hT2l i h];exact hpk i h)
   (λj h1 h2 z hz=>?_) (λi o ho=>(hM i o ho).2) hr (m0:=m) (ok0:=ok) (Q:=Q) (λhz S3 m' ok' a' w' R3 k1 k2 k3=>hQ hz S3 m' ok' a' w' R3 k1 k2 λz hzn=>?_)
   ops.size (D:=[]) (rC:=Array.replicate ops.size false) D5 bu D5 D5 D5 (λi hi=>by simp[Array.getD,hi]) D5 R' (λ_ _ h=>h) (λ_ _ h=>h)
  .rcases hT2g j h1 h2 with e|⟨e1,e⟩<;>rw[e]
   .simp
   .exact(hap (j -(k+1)) o5).2 z hz
  .have hz1:∀i,i<ops.size -(k+1)->z∉(T' i).2:=λi hi=>f_ (λh=>hzn (Y4 _ h)) (T' i) (by simp;exact⟨i,hi,rfl⟩);have hz2:∀i,i<k->z∉(T i).2:=λi hi=>f_ (λh=>hzn (bW _ h)) (T i) (by simp;exact⟨i,hi,rfl⟩);rw[k3 z (λi hi=>by
    by_cases h:i<k
    .rw[hT2l i h];exact hz2 i h
    .rcases hT2g i o5 hi with e|⟨e1,e⟩<;>rw[e]
     .simp
     .exact hz1 _ o5)]
   have hS' :∀n,n<=ops.size -(k+1)->S' n z=aV s1 z:=by
    intro n;induction n with
    |zero=>intro _;rw[g0]|succ n ih=>
     intro hn;have:=gl (n+(k+1)) _ o5 (hgd (n+(k+1)) o5);rw[show n+(k+1) -k=n+1 by omega,show n+(k+1) -(k+1)=n by omega]at this;rcases this with⟨_,b2,_⟩|⟨_,b2⟩
     .rw[b2];exact ih o5
     .rw[zH b2 z (hz1 n o5)];exact ih o5
   rw[←g1];by_cases hzt:z∈tr.2
   .rw[if_pos hzt];exact(hS' _ (D7 _)).symm
   .rw[if_neg hzt];show(if ops.size<=k then S ops.size else λz=>if z∈tr.2 then S k z else S' (ops.size -(k+1)) z) z=_;rw[if_neg o5];simp[hzt]
 unfold Region.schedule;split
 .exact main _ hany t
 .split
  .exact main _ hboth.1 _
  .exact main _ hboth.2 _
theorem Zt(H:FxOk X){R:Type}{wr:Rgs}{K:St->Rgs->Option R}{PP:Int->St->c6I->Option R}{r:R}{draw:Bool}(h:Zr X.E q ops draw s wr K PP=some r):
  (∃c s' ws,PP c s' ws=some r/\∀{m:Mp} {ok:Nat->Ty->Prop} {a:Act} {w:World} {id:Nat} {Q:Exit->Act->World->Prop},Rel X (CB*q) (CB*q+CB) (aV s) m ok a w->
   (c≠0->∀S3 m' ok' a' w',Rel X (CB*q) (CB*q+CB) S3 m' ok' a' w' ->(∀k l,m k=some l->m' k=some l)->(∀b t,ok b t->ok' b t)->(∀z,z∉ws->S3 z=aV s' z)->Q (.panic (nX X.P c)) a' w')->(Code.region id ops draw).wp X.P Q a w)\/
  ∃s' w',K s' w' =some r/\(∃t:Trs,w' =DD t wr/\∀k,(∀x∈t,k∉x.2)->aV s' k=aV s k)/\
   ∀{m:Mp} {ok:Nat->Ty->Prop} {a:Act} {w:World} {id:Nat} {Q:Exit->Act->World->Prop},Rel X (CB*q) (CB*q+CB) (aV s) m ok a w->
    (∀m' ok' a' w',Rel X (CB*q) (CB*q+CB) (aV s') m' ok' a' w' ->(∀k l,m k=some l->m' k=some l)->(∀b t,ok b t->ok' b t)->Q .normal a' w')->(Code.region id ops draw).wp X.P Q a w:=by
 unfold Zr at h;have pick:∀(dr:Bool) (s' :St) (T:Nat->Tr),(bif draw then(bif dr then K s' (DD ((List.range ops.size).map T).reverse wr)else none)else K s' (DD ((List.range ops.size).map T).reverse wr))=some r->
   K s' (DD ((List.range ops.size).map T).reverse wr)=some r/\(draw=true->dr=true):=λdr s' T h=>by
  cases draw
  .exact⟨h,λh=>by cases h⟩
  .cases dr
   .cases h
   .exact⟨h,λ_=>rfl⟩
 split at h
 .rcases Ll _ h with⟨s',S,T,h0,h1,hc,hk⟩|⟨k,o,f,c,s',tr,S,T,g1,g2,h0,hc,he,hk⟩
  case inr=>
   left;have hi:ops[k]? =some o:=by simpa using g1
   rw[G7]at hk;cases draw
   .simp only[cond_false]at hk;exact⟨c,s',[],hk,λR hQ=>a2G H hi g2 h0 hc he R λhz m' ok' a' w' R' k1 k2=>hQ hz _ m' ok' a' w' R' k1 k2 (λz _=>rfl)⟩
   .simp only[cond_true]at hk;cases hpm:TK ops.toList 0 []with
    |none=>simp[hpm]at hk|some ms=>
    simp only[hpm,kR,L8,ak]at hk;obtain⟨s2,S',T',l0,l1,l2,hk⟩:=Jr _ _ hk;simp only[aG,X8,G7]at l1 hk;cases hpd:Ub ops.toList ms tr ((List.range k).map T).reverse ((List.range (ops.size -(k+1))).map T').reverse
    .simp[hpd]at hk
    simp only[hpd,cond_true]at hk;exact⟨c,s2,_,hk,λR hQ=>a0C H hi g2 h0 hc he hpm l0 l1 (by simpa using l2) hpd R hQ⟩
  right;simp only[X8,G7]at h1 hk;obtain⟨hk,hd⟩:=pick _ s' T hk;obtain⟨hfr,hwp⟩:=SV H h0 h1 hc (draw:=draw) (ex:=λ_ _=>False) (λ_ _ _ _ h=>h.elim) λhdr=>by
   have hd:=hd hdr;unfold a7c at hd;cases hp:TK ops.toList 0 []with
   |none=>simp[hp]at hd|some ms=>
   simp only[hp]at hd;obtain⟨M,hms,_,_⟩:=Iw (M:=λ_=>0) ops.toList (n:=0) hp;simp only[bY,X8]at hms;subst hms;cases hod:Oi ((List.range ops.size).map M).reverse ((List.range ops.size).map T).reverse
   .simp[hod]at hd
   simp only[hod,cond_true]at hd;exact⟨M,rfl,λi j hi hj=>(KQ _ hod i j hi hj).imp id λh=>⟨h.1,.inl h.2⟩,hd⟩
  exact⟨s',_,hk,⟨_,rfl,hfr⟩,hwp⟩
 .right;obtain⟨s',S,T,h0,h1,hc,hk,_,h5⟩:=Qc _ h;simp only[X8,G7]at h1 hk;obtain⟨hk,hd⟩:=pick _ s' T hk;obtain⟨hfr,hwp⟩:=SV H h0 h1 hc (draw:=draw) (ex:=λi j=>YC ops.toList j=true/\a7f X.E ops.toList i=true) (λi j hij hj ⟨e1,e2⟩=>by
   have hi:ops[i]? =some (ops[i]'o5):=O0 _;have hj' :ops[j]? =some (ops[j]'o5):=O0 _;unfold YC at e1;unfold a7f at e2;rw[X4,hj']at e1;rw[X4,hi]at e2;obtain⟨d,hd,d',S',g1,g2,g3,g4⟩:=h5 i j _ _ hij (by rw[X4];exact hi) (by rw[X4];exact hj') e2 e1;rw[hd]at g1;cases g1;have hgd:ops.getD i default=ops[i]'o5:=by rw[O5,hi];rfl
   refine⟨S',by rw[hgd];exact g3,λk hk=>?_⟩;rw[g2]at hk;simp only[D8,rJ,or_false]at hk;subst hk;exact g4) λhdr=>by
   have hd:=hd hdr;unfold a4d at hd;cases hp:TK ops.toList 0 []with
   |none=>simp[hp]at hd|some ms=>
   simp only[hp]at hd;obtain⟨M,hms,_,_⟩:=Iw (M:=λ_=>0) ops.toList (n:=0) hp;simp only[bY,X8]at hms;subst hms;cases hod:PK X.E ops.toList ((List.range ops.size).map M).reverse ((List.range ops.size).map T).reverse
   .simp[hod]at hd
   simp only[hod,cond_true]at hd;exact⟨M,rfl,PM _ hod,hd⟩
  exact⟨s',_,hk,⟨_,rfl,hfr⟩,hwp⟩
end
end Go.GP
namespace Go.GP
def Wr(w:Rgs)(k:Nat):Prop:=∃p∈w,p.1<=k/\k<p.2
theorem a1B{k:Nat} :¬Wr [] k:=λ⟨p,h,_⟩=>by cases h
theorem LQ{p:Nat×Nat}{w:Rgs}{k:Nat} :Wr (p::w) k↔(p.1<=k/\k<p.2)\/Wr w k:=by
 constructor
 .rintro⟨x,h,h1⟩;rcases D8.1 h with rfl|h
  .exact .inl h1
  .exact .inr ⟨x,h,h1⟩
 .rintro(h|⟨x,h,h1⟩)
  .exact⟨p,D5,h⟩
  .exact⟨x,by simp[h],h1⟩
theorem JS{w:Rgs}{k:Nat} :∀{ks:c6I},Wr (Pq ks w) k↔k∈ks\/Wr w k
 |[]=>by simp[Pq]|x::ks=>by
  unfold Pq;rw[LQ,JS];simp only[D8];constructor
  .rintro(⟨h1,h2⟩|h|h)
   .exact .inl (.inl o5)
   .exact .inl (.inr h)
   .exact .inr h
  .rintro((rfl|h)|h)
   .simp
   .exact .inr (.inl h)
   .exact .inr (.inr h)
theorem Yz{b:Rgs}{k:Nat} :∀{a:Rgs},Wr (Uw a b) k↔Wr a k\/Wr b k
 |[]=>by simp[Uw,a1B]|x::a=>by unfold Uw;rw[LQ,LQ,Yz,or_assoc]
theorem Qo{w:Rgs}{k:Nat} :∀{t:Trs},Wr (DD t w) k↔(∃x∈t,k∈x.2)\/Wr w k
 |[]=>by simp[DD]|x::t=>by unfold DD;rw[JS,Qo,←or_assoc];simp
theorem XJ{lo hi:Nat} :∀{rs:Rgs},a5R lo hi rs=true->∃p∈rs,p.1<=lo/\hi<=p.2
 |[],h=>by simp[a5R]at h|(a,b)::r,h=>by
  unfold a5R at h;cases hb:(Nat.ble a lo&&Nat.ble hi b)
  .simp only[hb,cond_false]at h;obtain⟨p,h1,h2⟩:=XJ h;exact⟨p,by simp[h1],h2⟩
  .simp only[D6]at hb;exact⟨(a,b),D5,S9 hb.1,S9 hb.2⟩
theorem RJ{lim:Nat}{rs:Rgs} :∀{w:Rgs},UI lim rs w=true->∀k,Wr w k->lim<=k\/Wr rs k
 |[],_,k,h=>absurd h a1B|(a,b)::w,h,k,hk=>by
  unfold UI at h;cases hc:(Nat.ble lim a || a5R a b rs)
  .simp[hc]at h
  .simp only[hc,cond_true]at h;rcases LQ.1 hk with⟨h1,h2⟩|hk
   .simp only[lG]at hc;rcases hc with hc|hc
    .have:=S9 hc;exact .inl (by simp only at h1;omega)
    .obtain⟨p,h3,h4,h5⟩:=XJ hc;exact .inr ⟨p,h3,by simp only at h1;omega,by simp only at h2;omega⟩
   .exact RJ h k hk
theorem QM{s:St}{k:Nat} :∀{rs:Rgs},¬Wr rs k->aV (EW rs s) k=aV s k
 |[],_=>rfl|(a,b)::r,h=>by
  rw[LQ,not_or]at h;show(bif Nat.ble a k&&Nat.blt k b then V.undef else aV (EW r s) k)=aV s k;cases hb:(Nat.ble a k&&Nat.blt k b)
  .simp only[cond_false];exact QM h.2
  .simp only[D6]at hb;exact absurd ⟨S9 hb.1,GG hb.2⟩ h.1
theorem a0g{s:St}{k:Nat} :∀{rs:Rgs},Wr rs k->aV (EW rs s) k= .undef
 |[],h=>absurd h a1B|(a,b)::r,h=>by
  show(bif Nat.ble a k&&Nat.blt k b then V.undef else aV (EW r s) k)=V.undef;cases hb:(Nat.ble a k&&Nat.blt k b)
  .simp only[cond_false];rcases LQ.1 h with⟨h1,h2⟩|h
   .simp only at h1 h2;have e1:Nat.ble a k=true:=qZ h1;have e2:Nat.blt k b=true:=by rw[Z5];exact h2
    simp[e1,e2]at hb
   .exact a0g h
  .simp
variable {h0:Array Obj}{h1:Array Obj}{ok0:Nat->Ty->Prop}{ok1:Nat->Ty->Prop}{m:Mp}{m1:Mp}{m2:Mp}
theorem VS(hm:∀k l,m k=some l->m2 k=m1 k):∀{c:V} {v0 v1:Value} (a:wU ⟨h0,ok0,m⟩ c v0) (b:wU ⟨h1,ok1,m1⟩ c v1),wU ⟨h1,ok1,m2⟩ c v1:=by
 intro c;induction c using V.rec (motive_2:=λ_=>True)<;>try trivial
 all_goals
  intro v0 v1 a b;simp only[wU]at a b ⊢
  try exact b
 case own bx vw=>obtain⟨l0,e0,_⟩:=a;obtain⟨l,e,hv⟩:=b;exact⟨l,by rw[hm _ _ e0];exact e,hv⟩
 case ptr bx o=>obtain⟨l0,e0,_⟩:=a;obtain⟨l,e,hv⟩:=b;exact⟨l,by rw[hm _ _ e0];exact e,hv⟩
 case ep bx ix o=>obtain⟨_,_,_,_,_,e0,_⟩:=a;obtain⟨x1,x2,x3,x4,x5,e,hv⟩:=b;exact⟨x1,x2,x3,x4,x5,by rw[hm _ _ e0];exact e,hv⟩
 case ifc t c ih=>obtain⟨u0,_,_,a⟩:=a;obtain⟨u,e,h,b⟩:=b;exact⟨u,e,h,ih a b⟩
theorem VU{h0 h1:Array Obj}{ok0 ok1:Nat->Ty->Prop}{m m1 m2:Mp}(hm:∀k l,m k=some l->m2 k=m1 k):∀{cs:List V} {v0 v1:c6H},gB ⟨h0,ok0,m⟩ cs v0->gB ⟨h1,ok1,m1⟩ cs v1->gB ⟨h1,ok1,m2⟩ cs v1
 |[],_,_,_,b=>b|_::_,_,_,⟨_,_,_,a1,_,a3⟩,⟨v,r,e,b1,b2,b3⟩=>⟨v,r,e,VS hm a1 b1,b2,VU hm a3 b3⟩
variable {c:V}
theorem a0D(hm:∀k l,m k=some l->m2 k=m1 k){v0 v1:Value}(a:Zu ⟨h0,ok0,m⟩ c v0)(b:Zu ⟨h1,ok1,m1⟩ c v1):Zu ⟨h1,ok1,m2⟩ c v1:=by
 cases c<;>simp only[Zu]at a b ⊢<;>try exact VS hm a b
 case agg cs=>obtain⟨_,_,a⟩:=a;obtain⟨arr,e,b⟩:=b;exact⟨arr,e,VU hm a b⟩
theorem a0F{h0 h1:Array Obj}{ok0 ok1:Nat->Ty->Prop}{m m1 m2:Mp}(hm:∀k l,m k=some l->m2 k=m1 k):∀{cs:List V} {v0 v1:c6H},Zx ⟨h0,ok0,m⟩ cs v0->Zx ⟨h1,ok1,m1⟩ cs v1->Zx ⟨h1,ok1,m2⟩ cs v1
 |[],_,_,_,b=>b|_::_,_,_,⟨_,_,_,a1,a3⟩,⟨v,r,e,b1,b3⟩=>⟨v,r,e,a0D hm a1 b1,a0F hm a3 b3⟩
theorem a8W(hm:∀k l,m k=some l->m2 k=m1 k){v0 v1:Value}(a:lQ ⟨h0,ok0,m⟩ c v0)(b:lQ ⟨h1,ok1,m1⟩ c v1):lQ ⟨h1,ok1,m2⟩ c v1:=by
 cases c<;>simp only[lQ]at a b ⊢<;>try exact a0D hm a b
 case tup cs=>obtain⟨_,_,a⟩:=a;obtain⟨arr,e,b⟩:=b;exact⟨arr,e,a0F hm a b⟩
theorem a2m(hm:∀k l,m k=some l->m2 k=m1 k){sz:Nat}{l0 l1:Loc}{hole:Option (Nat×Nat×Option Nat)}(a:Vj ⟨h0,ok0,m⟩ sz l0 hole)(b:Vj ⟨h1,ok1,m1⟩ sz l1 hole):Vj ⟨h1,ok1,m2⟩ sz l1 hole:=by
 obtain _|⟨i,o,_|n⟩:=hole
 .trivial
 .trivial
 .obtain⟨_,_,_,_,_,l',_,_,e,_⟩:=a;obtain⟨b1,b2,b3,b4,b5,l2,c1,c2,c3,c4⟩:=b;exact⟨b1,b2,b3,b4,b5,l2,c1,c2,by rw[hm _ _ e];exact c3,c4⟩
theorem a8V(hm:∀k l,m k=some l->m2 k=m1 k)(hk:m2.kid=m1.kid)(km:∀k l,m k=some l->m1 k=some l){n:Nat}(a:Cm ⟨h0,ok0,m⟩ n c)(b:∀l,m n=some l->Cm ⟨h1,ok1,m1⟩ n c):Cm ⟨h1,ok1,m2⟩ n c:=by
 cases c<;>simp only[Cm]at a b ⊢
 case bcells cs=>obtain⟨_,_,_,e0,_,a⟩:=a;obtain⟨blk,arr,T,e,hh,b⟩:=b _ e0;exact⟨blk,arr,T,by rw[hm _ _ e0];exact e,hh,VU hm a b⟩
 case barr t xs=>obtain⟨_,e0,_⟩:=a;obtain⟨l,e,b⟩:=b _ e0;exact⟨l,by rw[hm _ _ e0];exact e,pX (λ_ _ h=>h) (λ_ _ _=>rfl) (λ_ _=>rfl) b⟩
 case bfrz t xs=>obtain⟨_,e0,_⟩:=a;obtain⟨l,e,b,hb⟩:=b _ e0;exact⟨l,by rw[hm _ _ e0];exact e,pX (λ_ _ h=>h) (λ_ _ _=>rfl) (λ_ _=>rfl) b,hb⟩
 case barrs md xs hole=>obtain⟨he,_,_,e0,⟨_,ha⟩,_⟩:=a;obtain⟨_,l,Os,e,⟨b,hl⟩,hb⟩:=b _ e0;exact⟨he,l,Os,by rw[hm _ _ e0];exact e,⟨b,a2m hm ha hl⟩,by rw[hk];exact hb⟩
 case barrp md xs k o=>obtain⟨he,_,_,_,e0,_⟩:=a;obtain⟨_,h0,l,Os,e,b,hb⟩:=b _ e0;exact⟨he,h0,l,Os,by rw[hm _ _ e0];exact e,b,by rw[hk];exact hb⟩
 case bfc t x=>obtain⟨_,_,e0,_⟩:=a;obtain⟨blk,es,e,b⟩:=b _ e0;exact⟨blk,es,by rw[hm _ _ e0];exact e,b⟩
 case gone t=>obtain⟨_,e0,_⟩:=a;obtain⟨l,e,b⟩:=b _ e0;exact⟨l,by rw[hm _ _ e0];exact e,b⟩
 case biter l p=>obtain⟨_,_,_,e0,_⟩:=a;obtain⟨blk,s,q,e,hh,b⟩:=b _ e0;exact⟨blk,s,q,by rw[hm _ _ e0];exact e,hh,b⟩
 case bsb tb c=>obtain⟨_,_,_,e0,_,_,a⟩:=a;obtain⟨blk,a1,v1,e,hh,hs,b⟩:=b _ e0;exact⟨blk,a1,v1,by rw[hm _ _ e0];exact e,hh,hs,VS hm a b⟩
 case brow te xs=>obtain⟨_,e0,_⟩:=a;obtain⟨l,e,b⟩:=b _ e0;exact⟨l,by rw[hm _ _ e0];exact e,b⟩
 case blen ln sz=>obtain⟨k,l,e,e0,h⟩:=a;exact⟨k,l,e,by rw[hm _ _ e0];exact km _ _ e0,h⟩
def cut(m:Mp)(N:Nat):Mp:=⟨λn=>if n<N then m n else none,m.kid⟩
section
variable {X:Fx} {cl ch N:Nat} {S S1 S2:Sm} {m m1:Mp} {ok ok1:Nat->Ty->Prop} {a a1:Act} {w w1:World}
theorem Rel.climb(R:Rel X cl ch S m ok a w){cl' :Nat}(h:cl<=cl'):Rel X cl' ch S m ok a w:={ R with fresh:=λn h1 h2=>R.fresh n o5 h2 }
theorem Rel.rebase(R0:Rel X cl N S m ok a w){cl1 ch1:Nat}(R1:Rel X cl1 ch1 S1 m1 ok1 a1 w1)(km:∀k l,m k=some l->m1 k=some l)
  (hS:∀k,S2 k= .undef\/(S2 k=S k/\(k<X9+N->S1 k=S k))):
  Rel X N N S2 (cut m1 N) ok1 a1 w1/\(∀T,Tk X S1 m1 ok1 w1 T->Tk X S2 (cut m1 N) ok1 w1 T)/\(∀k l,m k=some l->cut m1 N k=some l):=by
 have hdom:∀k l,m k=some l->k<N:=λk l h=>by
  rcases pF k N with h1|h1
  .exact h1
  .rw[R0.strict k h1]at h;cases h
 have hagree:∀k l,m k=some l->cut m1 N k=m1 k:=λk l h=>by simp[cut,hdom k l h]
 have hown:∀n,U2 (cut m1 N) n (S2 (X9+n))=U2 m1 n (S1 (X9+n))\/U2 (cut m1 N) n (S2 (X9+n))=[]:=λn=>by
  rcases hS (X9+n)with h1|⟨h1,h2⟩
  .right;rw[h1];rfl
  .rcases pF n N with hn|hn
   .left;rw[h2 o5,←h1];exact Jf (by simp[cut,hn]) rfl
   .right;have hc:m n=none:=R0.strict n hn;have hb:=R0.box n;rw[h1];cases hv:S (X9+n)<;>rw[hv]at hb<;>try rfl
    case bcells=>obtain⟨_,_,_,e,_⟩:=hb;simp only at e;rw[hc]at e;cases e
    case barr=>obtain⟨_,e,_⟩:=hb;simp only at e;rw[hc]at e;cases e
    case barrs=>obtain⟨_,_,_,e,_⟩:=hb;simp only at e;rw[hc]at e;cases e
    case barrp=>obtain⟨_,_,_,_,e,_⟩:=hb;simp only at e;rw[hc]at e;cases e
    case biter=>obtain⟨_,_,_,e,_⟩:=hb;simp only at e;rw[hc]at e;cases e
    case bsb=>obtain⟨_,_,_,e,_⟩:=hb;simp only at e;rw[hc]at e;cases e
    case brow=>obtain⟨_,e,_⟩:=hb;simp only at e;rw[hc]at e;cases e
 have hownM:∀n b,b∈U2 (cut m1 N) n (S2 (X9+n))->b∈U2 m1 n (S1 (X9+n)):=λn b h=>by
  rcases hown n with e|e
  .rw[←e];exact h
  .rw[e]at h;cases h
 refine⟨{ kept:=R1.kept,size:=R1.size,nodef:=R1.nodef,dfs:=R1.dfs,okLt:=R1.okLt,okIn:=R1.okIn,okOut:=R1.okOut,frame:=R1.frame,gl:=R1.gl,slot:=λn hn=>?_,box:=λn=>?_,inj:=λn n' b h h' =>R1.inj n n' b (hownM n b h) (hownM n' b h'),nd:=λn=>(hown n).elim (λe=>by rw[e];exact R1.nd n) (λe=>by rw[e];exact bu),sep:=λn b h=>R1.sep n b (hownM n b h),fresh:=λn h1 _=>?_,strict:=λn h=>?_ },λT hT=>⟨hT.nodup,λb hb=>?_⟩,λk l h=>by rw[hagree k l h];exact km k l h⟩
 .rcases hS n with h1|⟨h1,h2⟩
  .rw[h1];trivial
  .rw[h1];refine a8W hagree (R0.slot n hn) ?_;rw[←h2 o5];exact R1.slot n hn
 .rcases hS (X9+n)with h1|⟨h1,h2⟩
  .rw[h1];trivial
  .rw[h1];refine a8V hagree rfl km (R0.box n) λl hl=>?_;rw[←h2 (by have:=hdom n l hl;omega)];exact R1.box n
 .simp[cut];omega
 .simp[cut];omega
 .obtain⟨f1,f2,f3,f4⟩:=hT.free b hb;exact⟨f1,f2,f3,λn e=>f4 n (hownM n b e)⟩
theorem kG{R:Type}{q:Nat}{sg:Sig}{rs:Rgs}{s:St}{wr:Rgs}{K:rE sg->Option R}{r:R}(h:Nl q sg rs s wr K=some r):
  ∃x,K x=some r/\∀{s0:St} {cl cl1 ch1:Nat} {m m1:Mp} {ok ok1:Nat->Ty->Prop} {a a1:Act} {w w1:World},Rel X cl (CB*q) (aV s0) m ok a w->Rel X cl1 ch1 (aV s) m1 ok1 a1 w1->(∀k l,m k=some l->m1 k=some l)->
   (∀k,¬Wr wr k->aV s k=aV s0 k)->∃m2 ok2 O,Rel X (CB*q) (CB*q) (aV (EW rs s0)) m2 ok2 a1 w1/\Tk X (aV (EW rs s0)) m2 ok2 w1 O/\
    a1A w1.heap ok2 sg x a1.tmps O/\(∀k l,m k=some l->m2 k=some l):=by
 unfold Nl at h;obtain⟨x,s1,tr,he,hk⟩:=jV h;cases hc:UI (X9+CB*q) rs (Pq tr.2 wr)
 .simp[hc]at hk
 simp only[hc,cond_true]at hk;refine⟨x,hk,λ{s0 cl cl1 ch1 m m1 ok ok1 a a1 w w1} R0 R1 km hun=>?_⟩;have key:=pJ (a2e R1 (Q:=λy S' =>∃m' ok' O,Rel X cl1 ch1 S' m' ok' a1 w1/\Tk X S' m' ok' w1 O/\(∀k l,m1 k=some l->m' k=some l)/\a1A w1.heap ok' sg y a1.tmps O)
  λS' m' ok' y O R' T' km' _ hr=>⟨m',ok',O,R',T',km',hr⟩) he
 obtain⟨m',ok',O,R',T',km',hr⟩:=key;have hcov:=RJ hc;obtain⟨R2,hT2,hm2⟩:=R0.rebase (S2:=aV (EW rs s0)) R' (λk l h=>km' k l (km k l h)) (λk=>by
  by_cases hw:Wr rs k
  .exact .inl (a0g hw)
  .refine .inr ⟨QM hw,λhlt=>?_⟩;have hnw:¬Wr (Pq tr.2 wr) k:=λh=>by
    rcases hcov k h with h1|h1
    .omega
    .exact hw h1
   rw[JS,not_or]at hnw;rw[zH he k hnw.1];exact hun k hnw.2)
 exact⟨_,ok',O,R2,hT2 O T',hr,hm2⟩
theorem sV{R:Type}{q:Nat}{sg:Sig}{rs:Rgs}{s:St}{x:rE sg}{K:St->Rgs->Option R}{r:R}(h:enter q sg rs s x K=some r):
  ∃s' w',K s' w' =some r/\(∀k,Wr rs k->Wr w' k)/\(∀k,¬Wr w' k->aV s' k=aV s k)/\
   ∀{N:Nat} {m:Mp} {ok:Nat->Ty->Prop} {a:Act} {w:World} {O:c6I},N<=CB*q->Rel X N N (aV (EW rs s)) m ok a w->Tk X (aV (EW rs s)) m ok w O->
    a1A w.heap ok sg x a.tmps O->
    ∃m',Rel X (CB*(q+1)) (CB*(q+1)) (aV s') m' ok a w/\(∀k l,m k=some l->m' k=some l):=by
 unfold enter at h;obtain⟨u,s',tr,he,hk⟩:=jV h;refine⟨s',_,hk,λk hk=>JS.2 (.inr hk),λk hk=>?_,λ{N m ok a w O} hN R1 T1 hr=>?_⟩
 .rw[JS,not_or]at hk;rw[zH he k hk.1,QM hk.2]
 .have key:=pJ (a1Z (x:=x) (nb:=CB*q) (lim:=CB*q+CB) (Q:=λ_ S' =>∃m',Rel X N (max N (CB*q+CB)) S' m' ok a w/\(∀k l,m k=some l->m' k=some l)) R1 hN T1 hr
   λS' m' R' k=>⟨m',R',k⟩) he
  obtain⟨m',R',k⟩:=key;have e:CB*(q+1)=CB*q+CB:=by rw[Nat.mul_add,bD]
  rw[e];generalize CB*q=Z at*;exact⟨m',(R'.climb o5).chmono o5,k⟩
end
end Go.GP
